import PyProof.Rows.All
import Wide.All
import OpenK.AllK
import Wide.FinOn
import HandS.ForMost
import HandS.Evl
import HandS.Wide
import HandS.IsInst
import HandS.TupLe
import HandS.Steps
import HandS.EndBits
import PyProof.ReprRoads
import PyProof.ReprLen
import PyProof.FitsInt
import HandS.StrMore
import PyProof.StrBlock2
import PySem.Challenge.RW_farshelf_k01_names_contents_paths
set_option Elab.async false
set_option maxRecDepth 100000
set_option linter.all false
/-! FsMem: what is kept for good (P) and what may change (a list of pieces), side by side. -/
namespace FS
open PySem L2 Evl

def Dj (h1 h2 : Hp) : Prop := ∀ a, h1 a = none ∨ h2 a = none
theorem Dj.symm {h1 h2 : Hp} (d : Dj h1 h2) : Dj h2 h1 := fun a => (d a).symm
theorem Dj.left {h1 h2 : Hp} (d : Dj h1 h2) {a : Addr} {o : HO} (e : h1 a = some o) : h2 a = none := by
  rcases d a with z | z
  · rw [e] at z; cases z
  · exact z
theorem Dj.right {h1 h2 : Hp} (d : Dj h1 h2) {a : Addr} {o : HO} (e : h2 a = some o) : h1 a = none := d.symm.left e
theorem Dj.sub {h1 h2 k1 k2 : Hp} (d : Dj h1 h2) (e1 : Ex k1 h1) (e2 : Ex k2 h2) : Dj k1 k2 := fun a => by
  cases q : k1 a with
  | none => exact .inl rfl
  | some o =>
    right
    exact fresh_back e2 (d.left (e1 a o q))
def emp : Hp := fun _ => none
theorem emp_ex {h : Hp} : Ex emp h := fun _ _ e => by cases e
def sgl (p : Addr) (o : HO) : Hp := fun b => if b = p then some o else none
def Jn (h1 h2 : Hp) : Hp := fun a => match h1 a with | some o => some o | none => h2 a
theorem Jn.l {h1 h2 : Hp} : Ex h1 (Jn h1 h2) := fun a o e => by unfold Jn; rw [e]
theorem Jn.r {h1 h2 : Hp} (d : Dj h1 h2) : Ex h2 (Jn h1 h2) := fun a o e => by unfold Jn; rw [d.right e]; exact e
theorem Jn.le {h1 h2 h : Hp} (a : Ex h1 h) (b : Ex h2 h) : Ex (Jn h1 h2) h := fun x o e => by
  unfold Jn at e
  cases q : h1 x with
  | none => rw [q] at e; exact b x o e
  | some u => rw [q] at e; exact a x o (q.trans e)
theorem Jn.dj {h1 h2 k : Hp} (a : Dj h1 k) (b : Dj h2 k) : Dj (Jn h1 h2) k := fun x => by
  rcases a x with z | z
  · rcases b x with y | y
    · left; unfold Jn; rw [z]; exact y
    · exact .inr y
  · exact .inr z

/-- a piece of what may change: by what is kept for good, a heap of its own -/
structure Ch where
  on : Hp → Hp → Prop
  up : ∀ {P P' h : Hp}, Ex P P' → on P h → on P' h
def Sep (P : Hp) : List Ch → Hp → Prop
  | [], _ => True
  | c :: cs, h => ∃ h1 h2, c.on P h1 ∧ Sep P cs h2 ∧ Dj h1 h2 ∧ Ex h1 h ∧ Ex h2 h
theorem Sep.up {P P' : Hp} (e : Ex P P') : ∀ {cs : List Ch} {h : Hp}, Sep P cs h → Sep P' cs h
  | [], _, _ => trivial
  | c :: _, _, ⟨h1, h2, a, b, r⟩ => ⟨h1, h2, c.up e a, Sep.up e b, r⟩
theorem Sep.le {P : Hp} {h h' : Hp} (e : Ex h h') : ∀ {cs : List Ch}, Sep P cs h → Sep P cs h'
  | [], _ => trivial
  | c :: _, ⟨h1, h2, a, b, d, r1, r2⟩ => ⟨h1, h2, a, b, d, r1.trans e, r2.trans e⟩
def pt (a : Addr) (o : HO) : Ch := ⟨fun _ h => h a = some o, fun _ e => e⟩
/-- some content with a property -/
def ptx (a : Addr) (p : HO → Prop) : Ch := ⟨fun _ h => ∃ o, h a = some o ∧ p o, fun _ e => e⟩
/-- a piece that is made of others -/
def sep (cs : List Ch) : Ch := ⟨fun P h => Sep P cs h, fun e s => Sep.up e s⟩
def exc {α : Type} (f : α → Ch) : Ch := ⟨fun P h => ∃ x, (f x).on P h, fun e ⟨x, s⟩ => ⟨x, (f x).up e s⟩⟩
/-- a fact about what is kept -/
def fct (φ : Hp → Prop) (m : ∀ P P', Ex P P' → φ P → φ P') : Ch := ⟨fun P _ => φ P, fun e s => m _ _ e s⟩
def pur (φ : Prop) : Ch := ⟨fun _ _ => φ, fun _ s => s⟩

inductive Sel : List Ch → Ch → List Ch → Prop
  | z {c : Ch} {cs : List Ch} : Sel (c :: cs) c cs
  | s {c d : Ch} {cs r : List Ch} : Sel cs c r → Sel (d :: cs) c (d :: r)
theorem Sep.sel {P : Hp} {c : Ch} : ∀ {cs r : List Ch} {h : Hp}, Sel cs c r → Sep P cs h → Sep P (c :: r) h
  | _, _, _, .z, s => s
  | _, _, h, .s q, ⟨h1, h2, a, b, d, e1, e2⟩ => by
    obtain ⟨k1, k2, a', b', d', f1, f2⟩ := Sep.sel q b
    have d1 : Dj h1 k1 := d.sub (Ex.refl _) f1
    have d2 : Dj h1 k2 := d.sub (Ex.refl _) f2
    exact ⟨k1, Jn h1 k2, a', ⟨h1, k2, a, b', d2, Jn.l, Jn.r d2⟩, (Jn.dj d1 d'.symm).symm, f1.trans e2, Jn.le e1 (f2.trans e2)⟩
inductive Per : List Ch → List Ch → Prop
  | nil {cs : List Ch} : Per cs []
  | cons {c : Ch} {cs r qs : List Ch} : Sel cs c r → Per r qs → Per cs (c :: qs)
theorem Sep.per {P : Hp} : ∀ {cs qs : List Ch} {h : Hp}, Per cs qs → Sep P cs h → Sep P qs h
  | _, _, _, .nil, _ => trivial
  | _, _, _, .cons q t, s => by
    obtain ⟨h1, h2, a, b, r⟩ := Sep.sel q s
    exact ⟨h1, h2, a, Sep.per t b, r⟩

/-- P is kept for good, the pieces cs stand apart from it and from one another -/
def Mem (P : Hp) (cs : List Ch) (H : Hp) : Prop := Ex P H ∧ ∃ h, Sep P cs h ∧ Dj P h ∧ Ex h H
theorem Mem.ex {P H : Hp} {cs : List Ch} (m : Mem P cs H) : Ex P H := m.1
theorem Mem.sel {P H : Hp} {cs r : List Ch} {c : Ch} (m : Mem P cs H) (q : Sel cs c r) : Mem P (c :: r) H := by
  obtain ⟨e, h, s, d, l⟩ := m
  exact ⟨e, h, Sep.sel q s, d, l⟩
theorem Mem.per {P H : Hp} {cs qs : List Ch} (m : Mem P cs H) (q : Per cs qs) : Mem P qs H := by
  obtain ⟨e, h, s, d, l⟩ := m
  exact ⟨e, h, Sep.per q s, d, l⟩
theorem Mem.drop {P H : Hp} {cs : List Ch} {c : Ch} (m : Mem P (c :: cs) H) : Mem P cs H := by
  obtain ⟨e, h, ⟨h1, h2, a, b, dd, e1, e2⟩, d, l⟩ := m
  exact ⟨e, h2, b, d.sub (Ex.refl _) e2, e2.trans l⟩
theorem Mem.all {H : Hp} : Mem H [] H := ⟨Ex.refl _, emp, trivial, fun _ => .inr rfl, emp_ex⟩
theorem Mem.rd0 {P H : Hp} {cs : List Ch} {a : Addr} {o : HO} (m : Mem P (pt a o :: cs) H) : H a = some o := by
  obtain ⟨e, h, ⟨h1, h2, q, b, dd, e1, e2⟩, d, l⟩ := m
  exact l _ _ (e1 _ _ q)
theorem Mem.out0 {P H : Hp} {cs : List Ch} {a : Addr} {o : HO} (m : Mem P (pt a o :: cs) H) : P a = none := by
  obtain ⟨e, h, ⟨h1, h2, q, b, dd, e1, e2⟩, d, l⟩ := m
  exact d.right (e1 _ _ q)
theorem Mem.rd {P H : Hp} {cs r : List Ch} {a : Addr} {o : HO} (m : Mem P cs H) (q : Sel cs (pt a o) r) : H a = some o := (m.sel q).rd0
theorem Mem.rdx {P H : Hp} {cs : List Ch} {a : Addr} {p : HO → Prop} (m : Mem P (ptx a p :: cs) H) : ∃ o, p o ∧ Mem P (pt a o :: cs) H := by
  obtain ⟨e, h, ⟨h1, h2, ⟨o, q, po⟩, b, dd, e1, e2⟩, d, l⟩ := m
  exact ⟨o, po, e, h, ⟨h1, h2, q, b, dd, e1, e2⟩, d, l⟩
theorem Mem.tox {P H : Hp} {cs : List Ch} {a : Addr} {o : HO} {p : HO → Prop} (m : Mem P (pt a o :: cs) H) (h : p o) : Mem P (ptx a p :: cs) H := by
  obtain ⟨e, k, ⟨h1, h2, q, b, dd, e1, e2⟩, d, l⟩ := m
  exact ⟨e, k, ⟨h1, h2, ⟨o, q, h⟩, b, dd, e1, e2⟩, d, l⟩
theorem upd_of {H : Hp} {a b : Addr} {o u : HO} (h : upd H a o b = some u) : (b = a ∧ u = o) ∨ (b ≠ a ∧ H b = some u) := by
  by_cases e : b = a
  · subst e; rw [upd_same] at h; exact .inl ⟨rfl, (Option.some.inj h).symm⟩
  · rw [upd_ne e] at h; exact .inr ⟨e, h⟩
theorem Mem.put0 {P H : Hp} {cs : List Ch} {a : Addr} {o o' : HO} (m : Mem P (pt a o :: cs) H) : Mem P (pt a o' :: cs) (upd H a o') := by
  have po := m.out0
  obtain ⟨e, h, ⟨h1, h2, q, b, dd, e1, e2⟩, d, l⟩ := m
  have q' : h1 a = some o := q
  have n2 : h2 a = none := dd.left q'
  refine ⟨e.mut po, upd h a o', ⟨upd h1 a o', h2, upd_same, b, fun x => ?_, fun x u z => ?_, e2.mut n2⟩, fun x => ?_, fun x u z => ?_⟩
  · by_cases z : x = a
    · subst z; exact .inr n2
    · rw [upd_ne z]; exact dd x
  · rcases upd_of z with ⟨rfl, rfl⟩ | ⟨z1, z2⟩
    · exact upd_same
    · rw [upd_ne z1]; exact e1 _ _ z2
  · by_cases z : x = a
    · subst z; exact .inl po
    · rw [upd_ne z]; exact d x
  · rcases upd_of z with ⟨rfl, rfl⟩ | ⟨z1, z2⟩
    · exact upd_same
    · rw [upd_ne z1]; exact l _ _ z2
/-- the piece at a changed within the list of pieces -/
inductive Upd : List Ch → Addr → HO → HO → List Ch → Prop
  | z {a : Addr} {o o' : HO} {cs : List Ch} : Upd (pt a o :: cs) a o o' (pt a o' :: cs)
  | s {a : Addr} {o o' : HO} {c : Ch} {cs r : List Ch} : Upd cs a o o' r → Upd (c :: cs) a o o' (c :: r)
theorem Upd.sel : ∀ {cs r : List Ch} {a : Addr} {o o' : HO}, Upd cs a o o' r → ∃ k, Sel cs (pt a o) k ∧ Sel r (pt a o') k
  | _, _, _, _, _, .z => ⟨_, .z, .z⟩
  | _, _, _, _, _, .s q => let ⟨_, x, y⟩ := Upd.sel q; ⟨_, .s x, .s y⟩
theorem Sep.unsel {P : Hp} {c : Ch} : ∀ {cs r : List Ch} {h : Hp}, Sel cs c r → Sep P (c :: r) h → Sep P cs h
  | _, _, _, .z, s => s
  | _, _, h, .s q, ⟨h1, h2, a, ⟨k1, k2, a', b', d', f1, f2⟩, d, e1, e2⟩ => by
    have d1 : Dj h1 k1 := d.sub (Ex.refl _) f1
    have d2 : Dj h1 k2 := d.sub (Ex.refl _) f2
    exact ⟨k1, Jn h1 k2, a', Sep.unsel q ⟨h1, k2, a, b', d2, Jn.l, Jn.r d2⟩, (Jn.dj d1 d'.symm).symm, f1.trans e2, Jn.le e1 (f2.trans e2)⟩
theorem Mem.unsel {P H : Hp} {cs r : List Ch} {c : Ch} (q : Sel cs c r) (m : Mem P (c :: r) H) : Mem P cs H := by
  obtain ⟨e, h, s, d, l⟩ := m
  exact ⟨e, h, Sep.unsel q s, d, l⟩
theorem Mem.put {P H : Hp} {cs r : List Ch} {a : Addr} {o o' : HO} (m : Mem P cs H) (q : Upd cs a o o' r) : Mem P r (upd H a o') := by
  obtain ⟨k, x, y⟩ := q.sel
  exact Mem.unsel y (m.sel x).put0
theorem Upd.rd {P H : Hp} {cs r : List Ch} {a : Addr} {o o' : HO} (m : Mem P cs H) (q : Upd cs a o o' r) : H a = some o := by
  obtain ⟨k, x, y⟩ := q.sel
  exact (m.sel x).rd0
theorem Mem.new {P H : Hp} {cs : List Ch} {p : Addr} {o : HO} (m : Mem P cs H) (n : H p = none) : Mem P (pt p o :: cs) (upd H p o) := by
  obtain ⟨e, h, s, d, l⟩ := m
  have hn : h p = none := fresh_back l n
  have pn : P p = none := fresh_back e n
  refine ⟨e.mut pn, upd h p o, ⟨sgl p o, h, if_pos rfl, s, fun x => ?_, fun x u z => ?_, (Ex.refl h).mut hn⟩, fun x => ?_, fun x u z => ?_⟩
  · by_cases z : x = p
    · subst z; exact .inr hn
    · exact .inl (if_neg z)
  · unfold sgl at z
    split at z
    · rename_i q; subst q; cases z; exact upd_same
    · cases z
  · by_cases z : x = p
    · subst z; exact .inl pn
    · rw [upd_ne z]; exact d x
  · rcases upd_of z with ⟨rfl, rfl⟩ | ⟨z1, z2⟩
    · exact upd_same
    · rw [upd_ne z1]; exact l _ _ z2
/-- kept for good from now on -/
theorem Mem.freeze {P H : Hp} {cs : List Ch} {a : Addr} {o : HO} (m : Mem P (pt a o :: cs) H) : Mem (upd P a o) cs H ∧ Ex P (upd P a o) := by
  have po := m.out0
  have ho := m.rd0
  obtain ⟨e, h, ⟨h1, h2, q, b, dd, e1, e2⟩, d, l⟩ := m
  have q' : h1 a = some o := q
  have n2 : h2 a = none := dd.left q'
  have eP : Ex P (upd P a o) := Ex.new po
  refine ⟨⟨fun x u z => ?_, h2, Sep.up eP b, fun x => ?_, e2.trans l⟩, eP⟩
  · rcases upd_of z with ⟨rfl, rfl⟩ | ⟨z1, z2⟩
    · exact ho
    · exact e _ _ z2
  · by_cases z : x = a
    · subst z; exact .inr n2
    · rw [upd_ne z]; exact (d.sub (Ex.refl _) e2) x
theorem Mem.newP {P H : Hp} {cs : List Ch} {p : Addr} {o : HO} (m : Mem P cs H) (n : H p = none) : Mem (upd P p o) cs (upd H p o) ∧ Ex P (upd P p o) := (m.new n).freeze
/-- pieces made of pieces -/
theorem Mem.open {P H : Hp} {cs ds : List Ch} (m : Mem P (sep ds :: cs) H) : Mem P (ds ++ cs) H := by
  obtain ⟨e, h, ⟨h1, h2, q, b, dd, e1, e2⟩, d, l⟩ := m
  refine ⟨e, h, ?_, d, l⟩
  have q' : Sep P ds h1 := q
  clear q
  induction ds generalizing h1 h with
  | nil => exact Sep.le e2 b
  | cons c ds ih =>
    obtain ⟨k1, k2, a', b', d', f1, f2⟩ := q'
    have dk2 : Dj k2 h2 := dd.sub f2 (Ex.refl _)
    have dk1 : Dj k1 h2 := dd.sub f1 (Ex.refl _)
    have le2 : Ex (Jn k2 h2) h := Jn.le (f2.trans e1) e2
    exact ⟨k1, Jn k2 h2, a', ih (Jn k2 h2) k2 dk2 Jn.l (Jn.r dk2) (d.sub (Ex.refl _) le2) (le2.trans l) b', (Jn.dj d'.symm dk1.symm).symm, f1.trans e1, le2⟩
theorem Mem.close {P H : Hp} {cs ds : List Ch} (m : Mem P (ds ++ cs) H) : Mem P (sep ds :: cs) H := by
  obtain ⟨e, h, s, d, l⟩ := m
  refine ⟨e, h, ?_, d, l⟩
  clear d l
  induction ds generalizing h with
  | nil => exact ⟨emp, h, trivial, s, fun _ => .inl rfl, emp_ex, Ex.refl _⟩
  | cons c ds ih =>
    obtain ⟨k1, k2, a', b', d', f1, f2⟩ := s
    obtain ⟨g1, g2, x, y, dd, i1, i2⟩ := ih k2 b'
    have d1 : Dj k1 g1 := d'.sub (Ex.refl _) i1
    have d2 : Dj k1 g2 := d'.sub (Ex.refl _) i2
    exact ⟨Jn k1 g1, g2, ⟨k1, g1, a', x, d1, Jn.l, Jn.r d1⟩, y, Jn.dj d2 dd, Jn.le f1 (i1.trans f2), i2.trans f2⟩
theorem Mem.exE {P H : Hp} {cs : List Ch} {α : Type} {f : α → Ch} (m : Mem P (exc f :: cs) H) : ∃ x, Mem P (f x :: cs) H := by
  obtain ⟨e, h, ⟨h1, h2, ⟨x, q⟩, b, r⟩, d⟩ := m
  exact ⟨x, e, h, ⟨h1, h2, q, b, r⟩, d⟩
theorem Mem.exI {P H : Hp} {cs : List Ch} {α : Type} {f : α → Ch} (x : α) (m : Mem P (f x :: cs) H) : Mem P (exc f :: cs) H := by
  obtain ⟨e, h, ⟨h1, h2, q, b, r⟩, d⟩ := m
  exact ⟨e, h, ⟨h1, h2, ⟨x, q⟩, b, r⟩, d⟩
theorem Mem.purE {P H : Hp} {cs : List Ch} {φ : Prop} (m : Mem P (pur φ :: cs) H) : φ ∧ Mem P cs H := by
  have z := m.drop
  obtain ⟨e, h, ⟨h1, h2, q, b, r⟩, d⟩ := m
  exact ⟨q, z⟩
theorem Mem.purI {P H : Hp} {cs : List Ch} {φ : Prop} (h : φ) (m : Mem P cs H) : Mem P (pur φ :: cs) H := by
  obtain ⟨e, k, s, d, l⟩ := m
  exact ⟨e, k, ⟨emp, k, h, s, fun _ => .inl rfl, emp_ex, Ex.refl _⟩, d, l⟩
theorem Mem.fctE {P H : Hp} {cs : List Ch} {φ : Hp → Prop} {mo} (m : Mem P (fct φ mo :: cs) H) : φ P ∧ Mem P cs H := by
  have z := m.drop
  obtain ⟨e, h, ⟨h1, h2, q, b, r⟩, d⟩ := m
  exact ⟨q, z⟩
theorem Mem.fctI {P H : Hp} {cs : List Ch} {φ : Hp → Prop} {mo} (h : φ P) (m : Mem P cs H) : Mem P (fct φ mo :: cs) H := by
  obtain ⟨e, k, s, d, l⟩ := m
  exact ⟨e, k, ⟨emp, k, h, s, fun _ => .inl rfl, emp_ex, Ex.refl _⟩, d, l⟩

/-! ### data that is kept -/
mutual
theorem Dp.up {K : PySem.W.Frag} {P P' : Hp} (e : Ex P P') : ∀ {v : V} {d : PyData}, Dp K P v d → Dp K P' v d
  | _, _, .non => .non
  | _, _, .bl b => .bl b
  | _, _, .int i => .int i
  | _, _, .str x => .str x
  | _, _, .lst h a => .lst (ex_l e h) (DpAll.up e a)
  | _, _, .tup h a => .tup (ex_t e h) (DpAll.up e a)
theorem DpAll.up {K : PySem.W.Frag} {P P' : Hp} (e : Ex P P') : ∀ {vs : List V} {ds : List PyData}, DpAll K P vs ds → DpAll K P' vs ds
  | _, _, .nil => .nil
  | _, _, .cons a b => .cons (Dp.up e a) (DpAll.up e b)
end
theorem Mem.sqL {K : PySem.W.Frag} {Pa P H : Hp} {cs : List Ch} {a : Addr} {xs : List V} (m : Mem P cs H) (h : SqL K Pa a xs) (e : Ex Pa P) : SqL K H a xs := ex_l (e.trans m.ex) h
theorem Mem.sqT {K : PySem.W.Frag} {Pa P H : Hp} {cs : List Ch} {a : Addr} {xs : List V} (m : Mem P cs H) (h : SqT K Pa a xs) (e : Ex Pa P) : SqT K H a xs := ex_t (e.trans m.ex) h
theorem Mem.sqLp {K : PySem.W.Frag} {P H : Hp} {cs r : List Ch} {a : Addr} {xs : List V} (m : Mem P cs H) (q : Sel cs (pt a (.lst xs)) r) : SqL K H a xs := SqL.of (m.rd q)

theorem sqL_up {K : PySem.W.Frag} {P P' : Hp} {a : Addr} {xs : List V} (h : SqL K P a xs) (e : Ex P P') : SqL K P' a xs := ex_l e h
theorem sqT_up {K : PySem.W.Frag} {P P' : Hp} {a : Addr} {xs : List V} (h : SqT K P a xs) (e : Ex P P') : SqT K P' a xs := ex_t e h
theorem dp_up {K : PySem.W.Frag} {P P' : Hp} {v : V} {d : PyData} (h : Dp K P v d) (e : Ex P P') : Dp K P' v d := Dp.up e h
theorem sz_up {n : Nat} (h : n ≤ 100000) : n ≤ sizeLine := sz_of h
/-! ### readings: a name stored, an object made -/
inductive SetS : List (Option V) → Nat → V → List (Option V) → Prop
  | z {v : V} {x : Option V} {r : List (Option V)} : SetS (x :: r) 0 v (some v :: r)
  | s {v : V} {x : Option V} {r r' : List (Option V)} {n : Nat} : SetS r n v r' → SetS (x :: r) (n + 1) v (x :: r')
theorem SetS.eq : ∀ {σ σ' : List (Option V)} {i : Nat} {v : V}, SetS σ i v σ' → σ.set i (some v) = σ'
  | _, _, _, _, .z => rfl
  | _, _, _, _, .s q => by rw [List.set_cons_succ, SetS.eq q]
theorem i_name {i : Nat} {v : V} {σ σ' : L2.St} {H : Hp} {Q : L2.St → Hp → Prop} (h : SetS σ i v σ') (q : Q σ' H) : gName i v σ H Q := by
  show Q (σ.set i (some v)) H
  rw [h.eq]; exact q
theorem i_set {i : Nat} {te : TE} {D : Ends} {σ : L2.St} {H : Hp} (h : te σ H fun v H1 => gName i v σ H1 D.nx) : tAsg te (gName i) D σ H := h
theorem i_asg {te : TE} {g : TG} {D : Ends} {σ : L2.St} {H : Hp} (h : te σ H fun v H1 => g v σ H1 D.nx) : tAsg te g D σ H := h
theorem i_seq {t u : TS} {D : Ends} {σ : L2.St} {H : Hp} (h : t { D with nx := u D } σ H) : tSeq t u D σ H := h
theorem i_next {D : Ends} {σ : L2.St} {H : Hp} (h : D.nx σ H) : tNext D σ H := h
theorem i_ret {te : TE} {D : Ends} {σ : L2.St} {H : Hp} (h : te σ H D.rt) : tRet te D σ H := h
theorem i_drop {te : TE} {D : Ends} {σ : L2.St} {H : Hp} (h : te σ H fun _ H1 => D.nx σ H1) : tDrop te D σ H := h
theorem i_var {i : Nat} {σ : L2.St} {H : Hp} {v : V} {Q : VK} (h : σ[i]? = some (some v)) (q : Q v H) : tVar i σ H Q := ⟨v, h, q⟩
theorem i_c {v : V} {σ : L2.St} {H : Hp} {Q : VK} (q : Q v H) : tC v σ H Q := q
theorem i_op {r : R2} {ta tb : TE} {σ : L2.St} {H : Hp} {Q : VK} (h : ta σ H fun x H1 => tb σ H1 fun y H2 => r x y H2 Q) : tOp r ta tb σ H Q := h
theorem i_un {r : V → Hp → VK → Prop} {ta : TE} {σ : L2.St} {H : Hp} {Q : VK} (h : ta σ H fun x H1 => r x H1 Q) : tUn r ta σ H Q := h
theorem i_rI0 {g : Int → Int → V} {i j : Int} {H : Hp} {Q : VK} (q : Q (g i j) H) : rI0 g (.int i) (.int j) H Q := ⟨i, j, rfl, rfl, q⟩
theorem i_rI {C : Int → Int → Prop} {g : Int → Int → V} {i j : Int} {H : Hp} {Q : VK} (c : C i j) (q : Q (g i j) H) : rI C g (.int i) (.int j) H Q := ⟨i, j, rfl, rfl, c, q⟩
theorem i_rU {g : Int → V} {i : Int} {H : Hp} {Q : VK} (q : Q (g i) H) : rU g (.int i) H Q := ⟨i, rfl, q⟩
theorem i_eqI {i j : Int} {H : Hp} {Q : VK} (q : Q (.bl (decide (i = j))) H) : rEq (.int i) (.int j) H Q := by
  refine ⟨rfl, ?_⟩
  rw [show decide (V.int i = V.int j) = decide (i = j) from by simp only [V.int.injEq]]
  exact q
theorem i_neI {i j : Int} {H : Hp} {Q : VK} (q : Q (.bl (!decide (i = j))) H) : rNe (.int i) (.int j) H Q := by
  refine ⟨rfl, ?_⟩
  rw [show decide (V.int i = V.int j) = decide (i = j) from by simp only [V.int.injEq]]
  exact q
theorem i_eqB {i j : Bool} {H : Hp} {Q : VK} (q : Q (.bl (decide (i = j))) H) : rEq (.bl i) (.bl j) H Q := by
  refine ⟨rfl, ?_⟩
  rw [show decide (V.bl i = V.bl j) = decide (i = j) from by simp only [V.bl.injEq]]
  exact q
theorem i_neB {i j : Bool} {H : Hp} {Q : VK} (q : Q (.bl (!decide (i = j))) H) : rNe (.bl i) (.bl j) H Q := by
  refine ⟨rfl, ?_⟩
  rw [show decide (V.bl i = V.bl j) = decide (i = j) from by simp only [V.bl.injEq]]
  exact q
theorem i_eqS {i j : Str} {H : Hp} {Q : VK} (q : Q (.bl (decide (i = j))) H) : rEq (.str i) (.str j) H Q := by
  refine ⟨rfl, ?_⟩
  rw [show decide (V.str i = V.str j) = decide (i = j) from by simp only [V.str.injEq]]
  exact q
theorem i_neS {i j : Str} {H : Hp} {Q : VK} (q : Q (.bl (!decide (i = j))) H) : rNe (.str i) (.str j) H Q := by
  refine ⟨rfl, ?_⟩
  rw [show decide (V.str i = V.str j) = decide (i = j) from by simp only [V.str.injEq]]
  exact q
theorem i_isN {v : V} {H : Hp} {Q : VK} (q : Q (.bl (decide (v = .non))) H) : rIsN v .non H Q := ⟨rfl, q⟩
theorem i_aNil {σ : L2.St} {H : Hp} {Q : List V → Hp → Prop} (q : Q [] H) : tNil σ H Q := q
theorem i_aCons {ta : TE} {tr : TA} {σ : L2.St} {H : Hp} {Q : List V → Hp → Prop} (h : ta σ H fun x H1 => tr σ H1 fun xs H2 => Q (x :: xs) H2) : tCons ta tr σ H Q := h
theorem i_cb {r : List V → Hp → VK → Prop} {t : TA} {σ : L2.St} {H : Hp} {Q : VK} (h : t σ H fun vs H1 => r vs H1 Q) : tCB r t σ H Q := h
theorem i_call {sp : Sp} {dvs : List V} {E : XK} {t : TA} {σ : L2.St} {H : Hp} {Q : VK} (h : t σ H fun vs H1 => sp (vs ++ dvs) H1 Q E) : tCall sp dvs E t σ H Q := h
theorem i_test {t : TE} {σ : L2.St} {H : Hp} {Q : Bool → Hp → Prop} (h : t σ H fun x H' => ∃ k, x = .bl k ∧ Q k H') : tTest t σ H Q := h
theorem i_tB {t : TE} {σ : L2.St} {H : Hp} {Q : Bool → Hp → Prop} (h : t σ H fun x H' => ∃ k, x = .bl k ∧ Q k H') : tB t σ H Q := h
theorem i_tb {b : Bool} {H : Hp} {Q : Bool → Hp → Prop} (h : Q b H) : ∃ k, V.bl b = .bl k ∧ Q k H := ⟨b, rfl, h⟩
/-- an object laid at a new place, what follows told of it -/
def NewO (o : HO) (H : Hp) (Q : VK) : Prop := ∀ p, H p = none → Q (.ref p) (upd H p o)
theorem i_newP {P H : Hp} {cs : List Ch} {o : HO} {Q : VK} (m : Mem P cs H) (q : ∀ p P' H', Mem P' cs H' → Ex P P' → P' p = some o → Q (.ref p) H') : NewO o H Q := fun p n => q p _ _ (m.newP n).1 (m.newP n).2 upd_same
theorem i_newT {K : PySem.W.Frag} {P H : Hp} {cs : List Ch} {xs : List V} {Q : VK} (m : Mem P cs H) (q : ∀ p P' H', Mem P' cs H' → Ex P P' → SqT K P' p xs → Q (.ref p) H') : NewO (.tup xs) H Q :=
  fun p n => q p _ _ (m.newP n).1 (m.newP n).2 (SqT.of upd_same)
theorem i_newL {K : PySem.W.Frag} {P H : Hp} {cs : List Ch} {xs : List V} {Q : VK} (m : Mem P cs H) (q : ∀ p P' H', Mem P' cs H' → Ex P P' → SqL K P' p xs → Q (.ref p) H') : NewO (.lst xs) H Q :=
  fun p n => q p _ _ (m.newP n).1 (m.newP n).2 (SqL.of upd_same)
theorem i_newM {P H : Hp} {cs : List Ch} {o : HO} {Q : VK} (m : Mem P cs H) (q : ∀ p H', Mem P (pt p o :: cs) H' → Q (.ref p) H') : NewO o H Q := fun p n => q p _ (m.new n)
def NewT (xs : List V) (H : Hp) (Q : VK) : Prop := xs.length ≤ sizeLine ∧ NewO (.tup xs) H Q
def NewL (xs : List V) (H : Hp) (Q : VK) : Prop := xs.length ≤ sizeLine ∧ NewO (.lst xs) H Q
theorem i_NT {xs : List V} {H : Hp} {Q : VK} (hl : xs.length ≤ 100000) (h : NewO (.tup xs) H Q) : NewT xs H Q := ⟨sz_of hl, h⟩
theorem i_NL {xs : List V} {H : Hp} {Q : VK} (hl : xs.length ≤ 100000) (h : NewO (.lst xs) H Q) : NewL xs H Q := ⟨sz_of hl, h⟩
theorem i_tup {ta : TA} {σ : L2.St} {H : Hp} {Q : VK} (h : ta σ H fun xs H1 => NewT xs H1 Q) : tTup ta σ H Q := h
theorem i_lst {ta : TA} {σ : L2.St} {H : Hp} {Q : VK} (h : ta σ H fun xs H1 => NewL xs H1 Q) : tLst ta σ H Q := h
theorem i_ixL {K : PySem.W.Frag} {p : Addr} {xs : List V} {i : Int} {v : V} {H : Hp} {Q : VK} (h : SqL K H p xs) (ha : atI xs i = some v) (q : Q v H) : rIxL K (.ref p) (.int i) H Q := ⟨p, xs, i, v, rfl, rfl, h, ha, q⟩
theorem i_ixT {K : PySem.W.Frag} {p : Addr} {xs : List V} {i : Int} {v : V} {H : Hp} {Q : VK} (h : SqT K H p xs) (ha : atI xs i = some v) (q : Q v H) : rIxT K (.ref p) (.int i) H Q := ⟨p, xs, i, v, rfl, rfl, h, ha, q⟩
end FS

set_option Elab.async false
set_option maxRecDepth 100000
set_option linter.all false
/-! FsGo: readings, by leaves. -/
namespace FS
open PySem L2 Evl
/-! loops -/
theorem i_for {wi : TI} {g : TG} {tb : TS} {D : Ends} {σ : L2.St} {H : Hp} (h : wi σ H fun J H1 => ∃ W : Nat → Nat → L2.St → Hp → Prop, (∃ m, W 0 m σ H1) ∧ ∀ i m σ H, W i m σ H →
  (J.stop i H ∧ D.nx σ H) ∨ (J.go i H ∧ ∃ N : L2.St → Hp → Prop, (∀ σ' H', N σ' H' → ∃ m', m' < m ∧ W (i + 1) m' σ' H') ∧ ∀ x H', J.yld i H x H' → g x σ H' fun σ2 H2 => tb { D with nx := N, ct := N, bk := D.nx } σ2 H2)) : tFor wi g tb D σ H := h
theorem i_iList {K : PySem.W.Frag} {tl : TE} {σ : L2.St} {H : Hp} {R : It → Hp → Prop} (h : tl σ H fun x H1 => ∃ a, x = .ref a ∧ (∃ xs, SqL K H1 a xs) ∧ R (Itl K a) H1) : iList K tl σ H R := h
theorem i_iTup {K : PySem.W.Frag} {tl : TE} {σ : L2.St} {H : Hp} {R : It → Hp → Prop} (h : tl σ H fun x H1 => ∃ a, x = .ref a ∧ (∃ xs, SqT K H1 a xs) ∧ R (Itt K a) H1) : iTup K tl σ H R := h
theorem i_iEnum {K : PySem.W.Frag} {ta : TA} {σ : L2.St} {H : Hp} {R : It → Hp → Prop} (h : ta σ H fun vs H1 => ∃ a xs, vs = [.ref a] ∧ SqL K H1 a xs ∧ R (Ite K a) H1) : iEnum K ta σ H R := h
theorem i_iRng1 {ta : TA} {σ : L2.St} {H : Hp} {R : It → Hp → Prop} (h : ta σ H fun vs H1 => ∃ j : Int, vs = [.int j] ∧ -(2 ^ 62) ≤ j ∧ j < 2 ^ 62 ∧ R (Itr 0 j.toNat) H1) : iRng1 ta σ H R := h
theorem i_iRng2 {ta : TA} {σ : L2.St} {H : Hp} {R : It → Hp → Prop} (h : ta σ H fun vs H1 => ∃ i j : Int, vs = [.int i, .int j] ∧ (-(2 ^ 62) ≤ i ∧ i < 2 ^ 62 ∧ -(2 ^ 62) ≤ j ∧ j < 2 ^ 62) ∧ R (Itr i (j - i).toNat) H1) : iRng2 ta σ H R := h
theorem l_list {K : PySem.W.Frag} {a : Addr} {xs : List V} {g : TG} {tb : TS} {D : Ends} {σ : L2.St} {H : Hp} (hq : SqL K H a xs) (Pv : Nat → L2.St → Hp → Prop) (h0 : Pv 0 σ H) (hl : ∀ i σ H, i ≤ xs.length → Pv i σ H → SqL K H a xs)
    (hs : ∀ i x σ H, xs[i]? = some x → Pv i σ H → g x σ H fun σ2 H2 => tb { D with nx := Pv (i + 1), ct := Pv (i + 1), bk := D.nx } σ2 H2) (hd : ∀ σ H, Pv xs.length σ H → D.nx σ H) :
    ∃ b, V.ref a = .ref b ∧ (∃ xs, SqL K H b xs) ∧ ∃ W : Nat → Nat → L2.St → Hp → Prop, (∃ m, W 0 m σ H) ∧ ∀ i m σ H, W i m σ H →
      ((Itl K b).stop i H ∧ D.nx σ H) ∨ ((Itl K b).go i H ∧ ∃ N : L2.St → Hp → Prop, (∀ σ' H', N σ' H' → ∃ m', m' < m ∧ W (i + 1) m' σ' H') ∧ ∀ x H', (Itl K b).yld i H x H' → g x σ H' fun σ2 H2 => tb { D with nx := N, ct := N, bk := D.nx } σ2 H2) :=
  ⟨a, rfl, ⟨_, hq⟩, for_list Pv h0 hl hs hd⟩
theorem l_tup {K : PySem.W.Frag} {a : Addr} {xs : List V} {g : TG} {tb : TS} {D : Ends} {σ : L2.St} {H : Hp} (hq : SqT K H a xs) (Pv : Nat → L2.St → Hp → Prop) (h0 : Pv 0 σ H) (hl : ∀ i σ H, i ≤ xs.length → Pv i σ H → SqT K H a xs)
    (hs : ∀ i x σ H, xs[i]? = some x → Pv i σ H → g x σ H fun σ2 H2 => tb { D with nx := Pv (i + 1), ct := Pv (i + 1), bk := D.nx } σ2 H2) (hd : ∀ σ H, Pv xs.length σ H → D.nx σ H) :
    ∃ b, V.ref a = .ref b ∧ (∃ xs, SqT K H b xs) ∧ ∃ W : Nat → Nat → L2.St → Hp → Prop, (∃ m, W 0 m σ H) ∧ ∀ i m σ H, W i m σ H →
      ((Itt K b).stop i H ∧ D.nx σ H) ∨ ((Itt K b).go i H ∧ ∃ N : L2.St → Hp → Prop, (∀ σ' H', N σ' H' → ∃ m', m' < m ∧ W (i + 1) m' σ' H') ∧ ∀ x H', (Itt K b).yld i H x H' → g x σ H' fun σ2 H2 => tb { D with nx := N, ct := N, bk := D.nx } σ2 H2) :=
  ⟨a, rfl, ⟨_, hq⟩, for_tup Pv h0 hl hs hd⟩
theorem l_enum {K : PySem.W.Frag} {a : Addr} {xs : List V} {g : TG} {tb : TS} {D : Ends} {σ : L2.St} {H : Hp} (hq : SqL K H a xs) (Pv : Nat → L2.St → Hp → Prop) (h0 : Pv 0 σ H) (hl : ∀ i σ H, i ≤ xs.length → Pv i σ H → SqL K H a xs)
    (hs : ∀ i x σ H T, xs[i]? = some x → Pv i σ H → H T = none → g (.ref T) σ (upd H T (.tup [.int (i : Int), x])) fun σ2 H2 => tb { D with nx := Pv (i + 1), ct := Pv (i + 1), bk := D.nx } σ2 H2) (hd : ∀ σ H, Pv xs.length σ H → D.nx σ H) :
    ∃ b ys, [V.ref a] = [.ref b] ∧ SqL K H b ys ∧ ∃ W : Nat → Nat → L2.St → Hp → Prop, (∃ m, W 0 m σ H) ∧ ∀ i m σ H, W i m σ H →
      ((Ite K b).stop i H ∧ D.nx σ H) ∨ ((Ite K b).go i H ∧ ∃ N : L2.St → Hp → Prop, (∀ σ' H', N σ' H' → ∃ m', m' < m ∧ W (i + 1) m' σ' H') ∧ ∀ x H', (Ite K b).yld i H x H' → g x σ H' fun σ2 H2 => tb { D with nx := N, ct := N, bk := D.nx } σ2 H2) := by
  refine ⟨a, xs, rfl, hq, fun i m σ H => m = xs.length - i ∧ i ≤ xs.length ∧ Pv i σ H, ⟨xs.length, by simp, Nat.zero_le _, h0⟩, ?_⟩
  rintro i m σ H ⟨rfl, hi, p⟩
  have q := hl i σ H hi p
  by_cases hlt : i < xs.length
  · refine .inr ⟨⟨xs, xs[i], q, by simp [hlt]⟩, Pv (i + 1), fun σ' H' p' => ⟨xs.length - (i + 1), by omega, rfl, hlt, p'⟩, fun x H' y => ?_⟩
    obtain ⟨T, x', rfl, hT, rfl, e⟩ := y
    exact hs i x' σ H T (e xs q) p hT
  · have e : i = xs.length := by omega
    subst e
    exact .inl ⟨⟨xs, q, Nat.le_refl _⟩, hd σ H p⟩
theorem l_range1 {j : Int} {g : TG} {tb : TS} {D : Ends} {σ : L2.St} {H : Hp} (h1 : -(2 ^ 62) ≤ j) (h2 : j < 2 ^ 62) (Pv : Nat → L2.St → Hp → Prop) (h0 : Pv 0 σ H)
    (hs : ∀ (i : Nat) σ H, (i : Int) < j → Pv i σ H → g (.int (i : Int)) σ H fun σ2 H2 => tb { D with nx := Pv (i + 1), ct := Pv (i + 1), bk := D.nx } σ2 H2) (hd : ∀ σ H, Pv j.toNat σ H → D.nx σ H) :
    ∃ k : Int, [V.int j] = [.int k] ∧ -(2 ^ 62) ≤ k ∧ k < 2 ^ 62 ∧ ∃ W : Nat → Nat → L2.St → Hp → Prop, (∃ m, W 0 m σ H) ∧ ∀ i m σ H, W i m σ H →
      ((Itr 0 k.toNat).stop i H ∧ D.nx σ H) ∨ ((Itr 0 k.toNat).go i H ∧ ∃ N : L2.St → Hp → Prop, (∀ σ' H', N σ' H' → ∃ m', m' < m ∧ W (i + 1) m' σ' H') ∧ ∀ x H', (Itr 0 k.toNat).yld i H x H' → g x σ H' fun σ2 H2 => tb { D with nx := N, ct := N, bk := D.nx } σ2 H2) :=
  ⟨j, rfl, h1, h2, for_range (lo := 0) (n := j.toNat) Pv h0 (fun i σ H hi p => by rw [Int.zero_add]; exact hs i σ H (by omega) p) hd⟩

/-- a comprehension over a list: what is kept grows, the new list at D -/
theorem l_lc {K : PySem.W.Frag} {P : Hp} {cs : List Ch} {a : Addr} {xs : List V} {g : TG} {tt : TT} {te : TE} {vs : List Nat} {σ : L2.St} {H : Hp} {Qd : Addr → Hp → Prop} (m : Mem P cs H) (hl : ∀ P' H' c, Ex P P' → Mem P' (c :: cs) H' → SqL K H' a xs) (R : Nat → List V → Hp → Prop) (h0 : R 0 [] P)
    (hs : ∀ i x P' H' acc D, xs[i]? = some x → Ex P P' → Mem P' (pt D (.lst acc) :: cs) H' → R i acc P' → ∀ (Kt : VK) (Kf : Hp → Prop),
      (∀ y P4 H4, Ex P' P4 → Mem P4 (pt D (.lst acc) :: cs) H4 → acc.length < 100000 → R (i + 1) (acc ++ [y]) P4 → Kt y H4) → (∀ P4 H4, Ex P' P4 → Mem P4 (pt D (.lst acc) :: cs) H4 → R (i + 1) acc P4 → Kf H4) →
      g x (wipe σ vs) H' fun σ2 H2 => wipe σ2 vs = wipe σ vs ∧ tt σ2 H2 fun b H3 => if b = true then te σ2 H3 Kt else Kf H3)
    (hd : ∀ D P' H' acc, Ex P P' → Mem P' (pt D (.lst acc) :: cs) H' → R xs.length acc P' → Qd D H') :
    ∃ b, V.ref a = .ref b ∧ (∃ xs, SqL K H b xs) ∧ ∀ D, H D = none → ∃ W : Nat → Nat → Hp → Prop, (∃ m, W 0 m (upd H D (.lst []))) ∧ ∀ i m H, W i m H →
      ((Itl K b).stop i H ∧ Qd D H) ∨ ((Itl K b).go i H ∧ ∃ Nx : Hp → Prop, (∀ H', Nx H' → ∃ m', m' < m ∧ W (i + 1) m' H') ∧ ∀ x H', (Itl K b).yld i H x H' → g x (wipe σ vs) H' fun σ2 H2 => wipe σ2 vs = wipe σ vs ∧ tt σ2 H2 fun b H3 =>
        if b = true then te σ2 H3 fun y H4 => ∃ acc, H4 D = some (.lst acc) ∧ acc.length < sizeLine ∧ Nx (upd H4 D (.lst (acc ++ [y]))) else Nx H3) := by
  have hq : SqL K H a xs := by
    have z := hl P H (pur True) (Ex.refl _) (Mem.purI trivial m)
    exact z
  refine ⟨a, rfl, ⟨xs, hq⟩, fun D hD => ?_⟩
  refine lc_list (K := K) (a := a) (xs := xs) (Qd := Qd D) (fun i H' => ∃ P' acc, Ex P P' ∧ Mem P' (pt D (.lst acc) :: cs) H' ∧ R i acc P') ⟨P, [], Ex.refl _, m.new hD, h0⟩ (fun i H' _ ⟨P', acc, e, m', _⟩ => hl P' H' _ e m') (fun i x H' hx ⟨P', acc, e, m', r⟩ => ?_) (fun H' ⟨P', acc, e, m', r⟩ => hd D P' H' acc e m' r)
  exact hs i x P' H' acc D hx e m' r _ _ (fun y P4 H4 e4 m4 l4 r4 => ⟨acc, m4.rd0, sz_lt l4, P4, _, e.trans e4, m4.put0, r4⟩) (fun P4 H4 e4 m4 r4 => ⟨P4, acc, e.trans e4, m4, r4⟩)
theorem l_lcT {K : PySem.W.Frag} {P : Hp} {cs : List Ch} {a : Addr} {xs : List V} {g : TG} {tt : TT} {te : TE} {vs : List Nat} {σ : L2.St} {H : Hp} {Qd : Addr → Hp → Prop} (m : Mem P cs H) (hq : SqT K P a xs) (R : Nat → List V → Hp → Prop) (h0 : R 0 [] P)
    (hs : ∀ i x P' H' acc D, xs[i]? = some x → Ex P P' → Mem P' (pt D (.lst acc) :: cs) H' → R i acc P' → ∀ (Kt : VK) (Kf : Hp → Prop),
      (∀ y P4 H4, Ex P' P4 → Mem P4 (pt D (.lst acc) :: cs) H4 → acc.length < 100000 → R (i + 1) (acc ++ [y]) P4 → Kt y H4) → (∀ P4 H4, Ex P' P4 → Mem P4 (pt D (.lst acc) :: cs) H4 → R (i + 1) acc P4 → Kf H4) →
      g x (wipe σ vs) H' fun σ2 H2 => wipe σ2 vs = wipe σ vs ∧ tt σ2 H2 fun b H3 => if b = true then te σ2 H3 Kt else Kf H3)
    (hd : ∀ D P' H' acc, Ex P P' → Mem P' (pt D (.lst acc) :: cs) H' → R xs.length acc P' → Qd D H') :
    ∃ b, V.ref a = .ref b ∧ (∃ xs, SqT K H b xs) ∧ ∀ D, H D = none → ∃ W : Nat → Nat → Hp → Prop, (∃ m, W 0 m (upd H D (.lst []))) ∧ ∀ i m H, W i m H →
      ((Itt K b).stop i H ∧ Qd D H) ∨ ((Itt K b).go i H ∧ ∃ Nx : Hp → Prop, (∀ H', Nx H' → ∃ m', m' < m ∧ W (i + 1) m' H') ∧ ∀ x H', (Itt K b).yld i H x H' → g x (wipe σ vs) H' fun σ2 H2 => wipe σ2 vs = wipe σ vs ∧ tt σ2 H2 fun b H3 =>
        if b = true then te σ2 H3 fun y H4 => ∃ acc, H4 D = some (.lst acc) ∧ acc.length < sizeLine ∧ Nx (upd H4 D (.lst (acc ++ [y]))) else Nx H3) := by
  refine ⟨a, rfl, ⟨xs, ex_t m.ex hq⟩, fun D hD => ?_⟩
  refine lc_tup (K := K) (a := a) (xs := xs) (Qd := Qd D) (fun i H' => ∃ P' acc, Ex P P' ∧ Mem P' (pt D (.lst acc) :: cs) H' ∧ R i acc P') ⟨P, [], Ex.refl _, m.new hD, h0⟩ (fun i H' _ ⟨P', acc, e, m', _⟩ => ex_t (e.trans m'.ex) hq) (fun i x H' hx ⟨P', acc, e, m', r⟩ => ?_) (fun H' ⟨P', acc, e, m', r⟩ => hd D P' H' acc e m' r)
  exact hs i x P' H' acc D hx e m' r _ _ (fun y P4 H4 e4 m4 l4 r4 => ⟨acc, m4.rd0, sz_lt l4, P4, _, e.trans e4, m4.put0, r4⟩) (fun P4 H4 e4 m4 r4 => ⟨P4, acc, e.trans e4, m4, r4⟩)
theorem l_lcR {P : Hp} {cs : List Ch} {j : Int} {g : TG} {tt : TT} {te : TE} {vs : List Nat} {σ : L2.St} {H : Hp} {Qd : Addr → Hp → Prop} (h1 : -(2 ^ 62) ≤ j) (h2 : j < 2 ^ 62) (m : Mem P cs H) (R : Nat → List V → Hp → Prop) (h0 : R 0 [] P)
    (hs : ∀ (i : Nat) P' H' acc D, (i : Int) < j → Ex P P' → Mem P' (pt D (.lst acc) :: cs) H' → R i acc P' → ∀ (Kt : VK) (Kf : Hp → Prop),
      (∀ y P4 H4, Ex P' P4 → Mem P4 (pt D (.lst acc) :: cs) H4 → acc.length < 100000 → R (i + 1) (acc ++ [y]) P4 → Kt y H4) → (∀ P4 H4, Ex P' P4 → Mem P4 (pt D (.lst acc) :: cs) H4 → R (i + 1) acc P4 → Kf H4) →
      g (.int (i : Int)) (wipe σ vs) H' fun σ2 H2 => wipe σ2 vs = wipe σ vs ∧ tt σ2 H2 fun b H3 => if b = true then te σ2 H3 Kt else Kf H3)
    (hd : ∀ D P' H' acc, Ex P P' → Mem P' (pt D (.lst acc) :: cs) H' → R j.toNat acc P' → Qd D H') :
    ∃ k : Int, [V.int j] = [.int k] ∧ -(2 ^ 62) ≤ k ∧ k < 2 ^ 62 ∧ ∀ D, H D = none → ∃ W : Nat → Nat → Hp → Prop, (∃ m, W 0 m (upd H D (.lst []))) ∧ ∀ i m H, W i m H →
      ((Itr 0 k.toNat).stop i H ∧ Qd D H) ∨ ((Itr 0 k.toNat).go i H ∧ ∃ Nx : Hp → Prop, (∀ H', Nx H' → ∃ m', m' < m ∧ W (i + 1) m' H') ∧ ∀ x H', (Itr 0 k.toNat).yld i H x H' → g x (wipe σ vs) H' fun σ2 H2 => wipe σ2 vs = wipe σ vs ∧ tt σ2 H2 fun b H3 =>
        if b = true then te σ2 H3 fun y H4 => ∃ acc, H4 D = some (.lst acc) ∧ acc.length < sizeLine ∧ Nx (upd H4 D (.lst (acc ++ [y]))) else Nx H3) := by
  refine ⟨j, rfl, h1, h2, fun D hD => ?_⟩
  refine lc_range (lo := 0) (n := j.toNat) (Qd := Qd D) (fun i H' => ∃ P' acc, Ex P P' ∧ Mem P' (pt D (.lst acc) :: cs) H' ∧ R i acc P') ⟨P, [], Ex.refl _, m.new hD, h0⟩ (fun i H' hi ⟨P', acc, e, m', r⟩ => ?_) (fun H' ⟨P', acc, e, m', r⟩ => hd D P' H' acc e m' r)
  rw [Int.zero_add]
  exact hs i P' H' acc D (by omega) e m' r _ _ (fun y P4 H4 e4 m4 l4 r4 => ⟨acc, m4.rd0, sz_lt l4, P4, _, e.trans e4, m4.put0, r4⟩) (fun P4 H4 e4 m4 r4 => ⟨P4, acc, e.trans e4, m4, r4⟩)
theorem i_lc {wi : TI} {g : TG} {tt : TT} {te : TE} {vs : List Nat} {σ : L2.St} {H : Hp} {Q : VK} (h : wi σ H fun J H1 => ∀ D, H1 D = none → ∃ W : Nat → Nat → Hp → Prop, (∃ m, W 0 m (upd H1 D (.lst []))) ∧ ∀ i m H, W i m H →
      (J.stop i H ∧ Q (.ref D) H) ∨ (J.go i H ∧ ∃ Nx : Hp → Prop, (∀ H', Nx H' → ∃ m', m' < m ∧ W (i + 1) m' H') ∧ ∀ x H', J.yld i H x H' → g x (wipe σ vs) H' fun σ2 H2 => wipe σ2 vs = wipe σ vs ∧ tt σ2 H2 fun b H3 =>
        if b = true then te σ2 H3 fun y H4 => ∃ acc, H4 D = some (.lst acc) ∧ acc.length < sizeLine ∧ Nx (upd H4 D (.lst (acc ++ [y]))) else Nx H3)) : tLc wi g tt te vs σ H Q := h
theorem i_yes {σ : L2.St} {H : Hp} {Q : Bool → Hp → Prop} (h : Q true H) : tYes σ H Q := h
/-! tests -/
theorem i_ifS {c : TT} {t u : TS} {D : Ends} {σ : L2.St} {H : Hp} (h : c σ H fun b H1 => if b = true then t D σ H1 else u D σ H1) : tIfS c t u D σ H := h
theorem i_if {t : TT} {ta tb : TE} {σ : L2.St} {H : Hp} {Q : VK} (h : t σ H fun c H1 => if c = true then ta σ H1 Q else tb σ H1 Q) : tIf t ta tb σ H Q := h
theorem i_and {t u : TT} {σ : L2.St} {H : Hp} {Q : Bool → Hp → Prop} (h : t σ H fun c H1 => if c = true then u σ H1 Q else Q false H1) : tAnd t u σ H Q := h
theorem i_or {t u : TT} {σ : L2.St} {H : Hp} {Q : Bool → Hp → Prop} (h : t σ H fun c H1 => if c = true then Q true H1 else u σ H1 Q) : tOr t u σ H Q := h
theorem i_not {t : TT} {σ : L2.St} {H : Hp} {Q : Bool → Hp → Prop} (h : t σ H fun c H1 => Q (!c) H1) : tNot t σ H Q := h
theorem i_andV {ta tb : TE} {σ : L2.St} {H : Hp} {Q : VK} (h : ta σ H fun x H1 => ∃ c, x = .bl c ∧ if c = true then tb σ H1 Q else Q (.bl false) H1) : tAndV ta tb σ H Q := h
theorem i_orV {ta tb : TE} {σ : L2.St} {H : Hp} {Q : VK} (h : ta σ H fun x H1 => ∃ c, x = .bl c ∧ if c = true then Q (.bl true) H1 else tb σ H1 Q) : tOrV ta tb σ H Q := h
theorem i_notV {ta : TE} {σ : L2.St} {H : Hp} {Q : VK} (h : ta σ H fun x H1 => ∃ c, x = .bl c ∧ Q (.bl (!c)) H1) : tNotV ta σ H Q := h
theorem i_chain {r r' : R2} {ta tb tc : TE} {σ : L2.St} {H : Hp} {Q : VK} (h : ta σ H fun x H1 => tb σ H1 fun y H2 => r x y H2 fun z H3 => ∃ k, z = .bl k ∧ if k = true then tc σ H3 fun w H4 => r' y w H4 Q else Q (.bl false) H3) : tChain r r' ta tb tc σ H Q := h
theorem i_iteNT {A B : Prop} (h : B) : if (!true) = true then A else B := h
theorem i_iteNF {A B : Prop} (h : A) : if (!false) = true then A else B := h
theorem i_ite {b : Bool} {A B : Prop} (h1 : b = true → A) (h2 : b = false → B) : if b = true then A else B := by
  cases b with
  | true => exact iteT (h1 rfl)
  | false => exact iteF (h2 rfl)
theorem i_dec {p : Prop} {_ : Decidable p} {A B : Prop} (h1 : p → A) (h2 : ¬ p → B) : if decide p = true then A else B := by
  by_cases h : p
  · rw [decide_eq_true h]; exact iteT (h1 h)
  · rw [decide_eq_false h]; exact iteF (h2 h)
theorem i_ndec {p : Prop} {_ : Decidable p} {A B : Prop} (h1 : ¬ p → A) (h2 : p → B) : if (!decide p) = true then A else B := by
  by_cases h : p
  · rw [decide_eq_true h]; exact iteF (h2 h)
  · rw [decide_eq_false h]; exact iteT (h1 h)
/-! small powers of ten -/
theorem i_pow {i j : Int} {r : Int} {H : Hp} {Q : VK} (c : CPow i j) (e : i ^ j.toNat = r) (q : Q (.int r) H) : rI CPow (fun i j => V.int (i ^ j.toNat)) (.int i) (.int j) H Q := ⟨i, j, rfl, rfl, c, by show Q (.int (i ^ j.toNat)) H; rw [e]; exact q⟩
theorem i_p12 {H : Hp} {Q : VK} (q : Q (.int 1000000000000) H) : rI CPow (fun i j => V.int (i ^ j.toNat)) (.int 10) (.int 12) H Q := i_pow ⟨by decide, by decide, by decide⟩ (by decide) q
theorem i_p18 {H : Hp} {Q : VK} (q : Q (.int 1000000000000000000) H) : rI CPow (fun i j => V.int (i ^ j.toNat)) (.int 10) (.int 18) H Q := i_pow ⟨by decide, by decide, by decide⟩ (by decide) q
theorem i_p11 {H : Hp} {Q : VK} (q : Q (.int 100000000000) H) : rI CPow (fun i j => V.int (i ^ j.toNat)) (.int 10) (.int 11) H Q := i_pow ⟨by decide, by decide, by decide⟩ (by decide) q
theorem i_p9 {H : Hp} {Q : VK} (q : Q (.int 1000000000) H) : rI CPow (fun i j => V.int (i ^ j.toNat)) (.int 10) (.int 9) H Q := i_pow ⟨by decide, by decide, by decide⟩ (by decide) q
theorem i_p6 {H : Hp} {Q : VK} (q : Q (.int 1000000) H) : rI CPow (fun i j => V.int (i ^ j.toNat)) (.int 10) (.int 6) H Q := i_pow ⟨by decide, by decide, by decide⟩ (by decide) q
/-! calls of built-ins -/
theorem i_slice {r : V → Option Int → Option Int → Hp → VK → Prop} {te : TE} {tl th : TO} {σ : L2.St} {H : Hp} {Q : VK} (h : te σ H fun x H1 => tl σ H1 fun l H2 => th σ H2 fun u H3 => r x l u H3 Q) : tSl r te tl th σ H Q := h
theorem i_someI {i : Int} {R : Int → Prop} (h : R i) : ∃ j, V.int i = .int j ∧ R j := ⟨i, rfl, h⟩
theorem i_blI {b : Bool} {R : Bool → Prop} (h : R b) : ∃ k, V.bl b = .bl k ∧ R k := ⟨b, rfl, h⟩
theorem i_noPart {σ : L2.St} {H : Hp} {Q : Option Int → Hp → Prop} (h : Q none H) : tNoPart σ H Q := h
theorem i_part {t : TE} {σ : L2.St} {H : Hp} {Q : Option Int → Hp → Prop} (h : t σ H fun x H1 => ∃ i, x = .int i ∧ Q (some i) H1) : tPart t σ H Q := h
theorem i_slL {K : PySem.W.Frag} {H : Hp} {a : Addr} {xs : List V} {lo hi : Option Int} {Q : VK} (h : SqL K H a xs) (q : NewO (.lst (cutV xs lo hi)) H Q) : rSlL K (.ref a) lo hi H Q := ⟨a, xs, rfl, h, q⟩
theorem i_cat {P H : Hp} {cs r r2 : List Ch} {a b : Addr} {xs ys : List V} {Q : VK} (m : Mem P cs H) (h1 : Sel cs (pt a (.lst xs)) r) (h2 : Sel cs (pt b (.lst ys)) r2) (hz : xs.length + ys.length ≤ 100000)
    (q : NewO (.lst (xs ++ ys)) H Q) : rCat (.ref a) (.ref b) H Q := ⟨a, b, xs, ys, rfl, rfl, m.rd h1, m.rd h2, sz_of hz, q⟩
inductive SetV : List V → Nat → V → List V → Prop
  | z {v x : V} {r : List V} : SetV (x :: r) 0 v (v :: r)
  | s {v x : V} {r r' : List V} {n : Nat} : SetV r n v r' → SetV (x :: r) (n + 1) v (x :: r')
theorem SetV.eq : ∀ {xs ys : List V} {i : Nat} {v : V}, SetV xs i v ys → xs.set i v = ys
  | _, _, _, _, .z => rfl
  | _, _, _, _, .s q => by rw [List.set_cons_succ, SetV.eq q]
theorem SetV.lt : ∀ {xs ys : List V} {i : Nat} {v : V}, SetV xs i v ys → i < xs.length
  | _, _, _, _, .z => Nat.succ_pos _
  | _, _, _, _, .s q => Nat.succ_lt_succ (SetV.lt q)
theorem ixN_of {n k : Nat} (h : k < n) : ixN n (@OfNat.ofNat Int k instOfNat) = some k := by
  have e : (@OfNat.ofNat Int k instOfNat) = (k : Int) := rfl
  rw [e]
  unfold ixN
  rw [if_pos (by omega), if_pos (by omega)]
  rfl
theorem i_setL {P H : Hp} {cs r r0 : List Ch} {a : Addr} {xs ys : List V} {j : Nat} {v : V} {Q : Hp → Prop} (m : Mem P cs H) (h0 : Sel cs (pt a (.lst xs)) r0) (e : SetV xs j v ys) (h : Upd cs a (.lst xs) (.lst ys) r) (q : ∀ H', Mem P r H' → Q H') : rSetL (.ref a) (.int (@OfNat.ofNat Int j instOfNat)) v H Q :=
  ⟨a, xs, _, j, rfl, rfl, m.rd h0, ixN_of e.lt, q _ (by rw [e.eq]; exact m.put h)⟩
theorem i_setLv {P H : Hp} {cs r r0 : List Ch} {a : Addr} {xs : List V} {i : Int} {v : V} {Q : Hp → Prop} (m : Mem P cs H) (h0 : Sel cs (pt a (.lst xs)) r0) (i0 : 0 ≤ i) (i1 : i < xs.length) (h : Upd cs a (.lst xs) (.lst (xs.set i.toNat v)) r) (q : ∀ H', Mem P r H' → Q H') : rSetL (.ref a) (.int i) v H Q := by
  refine ⟨a, xs, i, i.toNat, rfl, rfl, m.rd h0, ?_, q _ (m.put h)⟩
  unfold ixN
  rw [if_pos i0, if_pos i1]
theorem i_gSub {to ti : TE} {t : TSet} {v : V} {σ : L2.St} {H : Hp} {Q : L2.St → Hp → Prop} (h : to σ H fun o H1 => ti σ H1 fun i H2 => t o i v H2 fun H3 => Q σ H3) : gSub to ti t v σ H Q := h
theorem i_gTup {K : PySem.W.Frag} {n : Nat} {t : TGs} {a : Addr} {xs : List V} {σ : L2.St} {H : Hp} {Q : L2.St → Hp → Prop} (h : SqT K H a xs) (hl : xs.length = n) (q : t xs σ H Q) : gTup K n t (.ref a) σ H Q := ⟨a, xs, rfl, h, hl, q⟩
theorem i_gCons {t : TG} {u : TGs} {v : V} {r : List V} {σ : L2.St} {H : Hp} {Q : L2.St → Hp → Prop} (q : t v σ H fun σ' H' => u r σ' H' Q) : gCons t u (v :: r) σ H Q := ⟨v, r, rfl, q⟩
theorem i_gNil {σ : L2.St} {H : Hp} {Q : L2.St → Hp → Prop} (q : Q σ H) : gNil [] σ H Q := ⟨rfl, q⟩
theorem Mem.enum {K : PySem.W.Frag} {P H : Hp} {cs : List Ch} {T : Addr} {xs : List V} (m : Mem P cs H) (n : H T = none) : ∃ P', Mem P' cs (upd H T (.tup xs)) ∧ Ex P P' ∧ SqT K P' T xs := ⟨_, (m.newP n).1, (m.newP n).2, SqT.of upd_same⟩
theorem i_isi {K : PySem.W.Frag} {x c : V} {t u : Value} {b : Bool} {H : Hp} {Q : VK} (k : ClsV c u) (ty : TyX K H x t) (e : PySem.W.kitOne K t u = some b) (q : Q (.bl b) H) : rIsi K [x, c] H Q := ⟨x, c, t, u, b, rfl, k, ty, e, q⟩
theorem kb_bool_bool : L2.kitB "bool" "bool" = some true := by decide +kernel
theorem kb_bool_int : L2.kitB "bool" "int" = some true := by decide +kernel
theorem kb_bool_str : L2.kitB "bool" "str" = some false := by decide +kernel
theorem kb_bool_list : L2.kitB "bool" "list" = some false := by decide +kernel
theorem kb_bool_tuple : L2.kitB "bool" "tuple" = some false := by decide +kernel
theorem kb_bool_dict : L2.kitB "bool" "dict" = some false := by decide +kernel
theorem kb_int_bool : L2.kitB "int" "bool" = some false := by decide +kernel
theorem kb_int_int : L2.kitB "int" "int" = some true := by decide +kernel
theorem kb_int_str : L2.kitB "int" "str" = some false := by decide +kernel
theorem kb_int_list : L2.kitB "int" "list" = some false := by decide +kernel
theorem kb_int_tuple : L2.kitB "int" "tuple" = some false := by decide +kernel
theorem kb_int_dict : L2.kitB "int" "dict" = some false := by decide +kernel
theorem kb_str_bool : L2.kitB "str" "bool" = some false := by decide +kernel
theorem kb_str_int : L2.kitB "str" "int" = some false := by decide +kernel
theorem kb_str_str : L2.kitB "str" "str" = some true := by decide +kernel
theorem kb_str_list : L2.kitB "str" "list" = some false := by decide +kernel
theorem kb_str_tuple : L2.kitB "str" "tuple" = some false := by decide +kernel
theorem kb_str_dict : L2.kitB "str" "dict" = some false := by decide +kernel
theorem kb_NoneType_bool : L2.kitB "NoneType" "bool" = some false := by decide +kernel
theorem kb_NoneType_int : L2.kitB "NoneType" "int" = some false := by decide +kernel
theorem kb_NoneType_str : L2.kitB "NoneType" "str" = some false := by decide +kernel
theorem kb_NoneType_list : L2.kitB "NoneType" "list" = some false := by decide +kernel
theorem kb_NoneType_tuple : L2.kitB "NoneType" "tuple" = some false := by decide +kernel
theorem kb_NoneType_dict : L2.kitB "NoneType" "dict" = some false := by decide +kernel
theorem kb_list_bool : L2.kitB "list" "bool" = some false := by decide +kernel
theorem kb_list_int : L2.kitB "list" "int" = some false := by decide +kernel
theorem kb_list_str : L2.kitB "list" "str" = some false := by decide +kernel
theorem kb_list_list : L2.kitB "list" "list" = some true := by decide +kernel
theorem kb_list_tuple : L2.kitB "list" "tuple" = some false := by decide +kernel
theorem kb_list_dict : L2.kitB "list" "dict" = some false := by decide +kernel
theorem kb_tuple_bool : L2.kitB "tuple" "bool" = some false := by decide +kernel
theorem kb_tuple_int : L2.kitB "tuple" "int" = some false := by decide +kernel
theorem kb_tuple_str : L2.kitB "tuple" "str" = some false := by decide +kernel
theorem kb_tuple_list : L2.kitB "tuple" "list" = some false := by decide +kernel
theorem kb_tuple_tuple : L2.kitB "tuple" "tuple" = some true := by decide +kernel
theorem kb_tuple_dict : L2.kitB "tuple" "dict" = some false := by decide +kernel
theorem kb_dict_bool : L2.kitB "dict" "bool" = some false := by decide +kernel
theorem kb_dict_int : L2.kitB "dict" "int" = some false := by decide +kernel
theorem kb_dict_str : L2.kitB "dict" "str" = some false := by decide +kernel
theorem kb_dict_list : L2.kitB "dict" "list" = some false := by decide +kernel
theorem kb_dict_tuple : L2.kitB "dict" "tuple" = some false := by decide +kernel
theorem kb_dict_dict : L2.kitB "dict" "dict" = some true := by decide +kernel
end FS

set_option Elab.async false
set_option maxRecDepth 100000
set_option linter.all false
/-! FsRule: the layer's rules with the written part named, their readings named. -/
namespace FS
open PySem PySem.Spec PyProof.Rows L2 Evl
section
variable {X : Cx} {K : PySem.W.Frag}
theorem ixL (h : X.K = K) : IxR X (rIxL K) := by subst h; exact ix_list
theorem ixT (h : X.K = K) : IxR X (rIxT K) := by subst h; exact ix_tup
theorem slL (h : X.K = K) : SlR X (rSlL K) := by subst h; exact sl_list
theorem slT (h : X.K = K) : SlR X (rSlT K) := by subst h; exact sl_tup
def rLen (K : PySem.W.Frag) : List V → Hp → VK → Prop := fun xs H Q => ∃ p ys, xs = [.ref p] ∧ (SqL K H p ys ∨ SqT K H p ys) ∧ Q (.int ys.length) H
theorem lenQ (h : X.K = K) : CallR X (.builtin "len") (rLen K) := by subst h; exact call_len_seq
def rLenStr : List V → Hp → VK → Prop := fun xs H Q => ∃ y : Str, xs = [.str y] ∧ y.length ≤ sizeLine ∧ Q (.int y.length) H
theorem lenS : CallR X (.builtin "len") rLenStr := fun pins s σ H xs us Q I r ⟨y, e, hl, q⟩ => call_len pins s σ H xs us Q I r ⟨.str y, y.length, e, ⟨hl, rfl⟩, q⟩
theorem sumK (h : X.K = K) (hc : X.calm = true) : CallR X (.builtin "sum") (rSum K) := by subst h; exact cr_sum hc
theorem allK (h : X.K = K) (hc : X.calm = true) : CallR X (.builtin "all") (rAll K) := by subst h; exact cr_all hc
theorem anyK (h : X.K = K) (hc : X.calm = true) : CallR X (.builtin "any") (rAny K) := by subst h; exact cr_any hc
theorem maxK (h : X.K = K) (hc : X.calm = true) : CallR X (.builtin "max") (rMax K) := by subst h; exact cr_max hc
theorem minK (h : X.K = K) (hc : X.calm = true) : CallR X (.builtin "min") (rMin K) := by subst h; exact cr_min hc
theorem eqD (h : X.K = K) (hu : X.A.units + 64 < cLine) : OpR X (compareOp .Eq) (rEqD K) := by subst h; exact op_eqD hu
theorem neD (h : X.K = K) (hu : X.A.units + 64 < cLine) : OpR X (compareOp .NotEq) (rNeD K) := by subst h; exact op_neD hu
theorem inQ (h : X.K = K) : OpR X (compareOp .In) (rIn K false) := by subst h; exact op_in_seq
theorem ninQ (h : X.K = K) : OpR X (compareOp .NotIn) (rIn K true) := by subst h; exact op_notIn_seq
theorem catT (h : X.K = K) : OpR X (binaryOp .Add) (rCatT K) := by subst h; exact op_catT
def rListOf (K : PySem.W.Frag) : List V → Hp → VK → Prop := fun xs H Q => ∃ p ys, xs = [.ref p] ∧ (SqL K H p ys ∨ SqT K H p ys) ∧ NewO (.lst ys) H Q
theorem listOf (h : X.K = K) : CallR X (.type "list") (rListOf K) := by subst h; exact call_list_of
/-- tuple(l) of a list -/
def rTupOf (K : PySem.W.Frag) : List V → Hp → VK → Prop := fun xs H Q => ∃ p ys, xs = [.ref p] ∧ SqL K H p ys ∧ NewO (.tup ys) H Q
theorem tupOf (h : X.K = K) : CallR X (.type "tuple") (rTupOf K) := by
  subst h
  exact fun pins s σ H xs us Q I r ⟨p, ys, e, hq, q⟩ => call_tuple_of pins s σ H xs us Q I r ⟨p, ys, e, .inl ⟨hq, q⟩⟩
theorem isiK (h : X.K = K) : CallR X (.builtin "isinstance") (rIsi K) := by subst h; exact call_isi
theorem isiTK (h : X.K = K) : CallR X (.builtin "isinstance") (rIsiT K) := by subst h; exact call_isiT
def rAbs : List V → Hp → VK → Prop := fun xs H Q => ∃ i, xs = [.int i] ∧ Q (.int (if i < 0 then -i else i)) H
theorem absI : CallR X (.builtin "abs") rAbs := call_abs
def rMx2 : List V → Hp → VK → Prop := fun xs H Q => ∃ i j, xs = [.int i, .int j] ∧ Q (.int (if j > i then j else i)) H
theorem mx2 (hc : X.calm = true) : CallR X (.builtin "max") rMx2 := call_max2 hc
def rMn2 : List V → Hp → VK → Prop := fun xs H Q => ∃ i j, xs = [.int i, .int j] ∧ Q (.int (if j < i then j else i)) H
theorem mn2 (hc : X.calm = true) : CallR X (.builtin "min") rMn2 := call_min2 hc
def rIsBl : R2 := fun x y H Q => ∃ a b, x = .bl a ∧ y = .bl b ∧ Q (.bl (decide (a = b))) H
def rNotBl : R2 := fun x y H Q => ∃ a b, x = .bl a ∧ y = .bl b ∧ Q (.bl (!decide (a = b))) H
theorem isBl : OpR X (compareOp .Is) rIsBl := op_is_bl
theorem notBl : OpR X (compareOp .IsNot) rNotBl := op_isnot_bl

variable {tg l e o value : Expr} {es : List Expr} {tl te ta tv to : TE} {t : TA} {p pos tpos pos' apos cpos : Pos} {f name : Str}
theorem piL (h : X.K = K) (hl : PE X l tl) : PI X tg l (iList K tl) := by subst h; exact pi_list hl
theorem piT (h : X.K = K) (hl : PE X l tl) : PI X tg l (iTup K tl) := by subst h; exact pi_tup hl
theorem piE {elts : List Expr} {kk : Nat} (h : X.K = K) (hg : Gl X "enumerate") (hm : X.mg "enumerate" = none) (ha : PA X [e] t) (hs : starEach [e] X.env = [(false, eval e X.env)] := by rfl) :
    PI X (.Tuple elts kk tpos) (.Call (.Name "enumerate" p) [e] [] pos) (iEnum K t) := by subst h; exact pi_enum hg hm ha hs
theorem piZ {e2 : Expr} {elts : List Expr} {kk : Nat} (h : X.K = K) (hg : Gl X "zip") (hm : X.mg "zip" = none) (ha : PA X [e, e2] t)
    (hs : starEach [e, e2] X.env = (false, eval e X.env) :: starEach [e2] X.env := by rfl) (hpl : (backTo pos (starEach [e2] X.env)).any (·.1) = false := by rfl) :
    PI X (.Tuple elts kk tpos) (.Call (.Name "zip" p) [e, e2] [] pos) (iZip K t) := by subst h; exact pi_zip hg hm ha hs hpl
theorem peF (h : X.K = K) (he : PE X e ta) (hb : attributeBase e f X.env (eval e X.env) = eval e X.env) : PE X (.Attribute e f pos) (tFld K ta f) := by subst h; exact pe_fld he hb
theorem psF (h : X.K = K) (ha : PE X o ta) (hv : PE X value tv) (hs : swapsWith value (some (.Attribute o f pos')) pos.line X.env = pure false) : PS X (.Assign [.Attribute o f pos'] value pos) (sFld K ta tv f) := by subst h; exact ps_fld ha hv hs
theorem psFA {op : Operator} {rd : V → V → Hp → VK → Prop} (h : X.K = K) (ha : PE X o ta) (hv : PE X value tv) (hop : InOp X op rd) : PS X (.AugAssign (.Attribute o f tpos) op value pos) (sFldAug K ta tv rd f) := by subst h; exact ps_fldaug ha hv hop
theorem peM0 {T id : String} {r : V → List V → Hp → VK → Prop} (h : X.K = K) (pa : PlainAttrs T) (slot : Slot T name id) (hty : typeOf (.builtin id) = pure (.type "method_descriptor")) (hm : MtR X id r) (ho : PE X o to)
    (hbase : attributeBase o name X.env (eval o X.env) = eval o X.env := by rfl) (hline : (apos.endLine == cpos.line) = true := by rfl) : PE X (.Call (.Attribute o name apos) [] [] cpos) (tBM0 K T r to) := by
  subst h; exact pe_bm0 pa slot hty hm ho hbase hline
theorem peM {T id : String} {r : V → List V → Hp → VK → Prop} (h : X.K = K) (pa : PlainAttrs T) (slot : Slot T name id) (hty : typeOf (.builtin id) = pure (.type "method_descriptor")) (hm : MtR X id r) (ho : PE X o to) (ha : PA X (e :: es) t)
    (hbase : attributeBase o name X.env (eval o X.env) = eval o X.env := by rfl)
    (hfew : ((backTo cpos (starEach (e :: es) X.env)).all (fun x => !x.1) && (backToKw cpos (keywordEach [] X.env)).all (fun x => x.1.isSome)
      && decide ((e :: es).length + ([] : List Keyword).length + (if ([] : List Keyword).isEmpty then 0 else 1) < 30)) = true := by rfl)
    (hline : (apos.endLine == cpos.line) = true := by rfl) (hs : starEach (e :: es) X.env = (false, eval e X.env) :: starEach es X.env := by rfl) (hplain : (backTo cpos (starEach es X.env)).any (·.1) = false := by rfl) :
    PE X (.Call (.Attribute o name apos) (e :: es) [] cpos) (tBM K T r to t) := by subst h; exact pe_bm pa slot hty hm ho ha hbase hfew hline hs hplain
theorem pgT {es : List Expr} {k : Nat} {t : TGs} {n : Nat} (hK : X.K = K) (hc : X.calm = true) (h : PGs X es t)
    (hn : (assignEach es X.env).length = n := by rfl) (hst : (assignEach es X.env).findIdx? (·.1) = none := by rfl) : PG X (.Tuple es k pos) (gTup K n t) := by subst hK; exact pg_tup hc h hn hst
end
theorem tyx_l {K : PySem.W.Frag} {H : Hp} {a : Addr} {xs : List V} (h : SqL K H a xs) : TyX K H (.ref a) (.type "list") := by
  rcases h with (h | ⟨o, h⟩) | ⟨o, its, n, e, c, _⟩
  · exact .base (.lst h)
  · exact .base (.frz h)
  · exact .kList e c
theorem tyx_t {K : PySem.W.Frag} {H : Hp} {a : Addr} {xs : List V} (h : SqT K H a xs) : TyX K H (.ref a) (.type "tuple") := by
  rcases h with (h | ⟨o, h⟩) | ⟨o, its, n, e, c, _⟩
  · exact .base (.tup h)
  · exact .fTuple h
  · exact .kTuple e c
/-! their readings -/
theorem i_rAbs {i : Int} {H : Hp} {Q : VK} (q : Q (.int (if i < 0 then -i else i)) H) : rAbs [.int i] H Q := ⟨i, rfl, q⟩
theorem i_rMx2 {i j : Int} {H : Hp} {Q : VK} (q : Q (.int (if j > i then j else i)) H) : rMx2 [.int i, .int j] H Q := ⟨i, j, rfl, q⟩
theorem i_rMn2 {i j : Int} {H : Hp} {Q : VK} (q : Q (.int (if j < i then j else i)) H) : rMn2 [.int i, .int j] H Q := ⟨i, j, rfl, q⟩
theorem i_lenL {K : PySem.W.Frag} {p : Addr} {xs : List V} {H : Hp} {Q : VK} (h : SqL K H p xs) (q : Q (.int xs.length) H) : rLen K [.ref p] H Q := ⟨p, xs, rfl, .inl h, q⟩
theorem i_lenT {K : PySem.W.Frag} {p : Addr} {xs : List V} {H : Hp} {Q : VK} (h : SqT K H p xs) (q : Q (.int xs.length) H) : rLen K [.ref p] H Q := ⟨p, xs, rfl, .inr h, q⟩
theorem i_lenS {y : Str} {H : Hp} {Q : VK} (h : y.length ≤ sizeLine) (q : Q (.int y.length) H) : rLenStr [.str y] H Q := ⟨y, rfl, h, q⟩
theorem i_listL {K : PySem.W.Frag} {p : Addr} {xs : List V} {H : Hp} {Q : VK} (h : SqL K H p xs) (q : NewO (.lst xs) H Q) : rListOf K [.ref p] H Q := ⟨p, xs, rfl, .inl h, q⟩
theorem i_listT {K : PySem.W.Frag} {p : Addr} {xs : List V} {H : Hp} {Q : VK} (h : SqT K H p xs) (q : NewO (.lst xs) H Q) : rListOf K [.ref p] H Q := ⟨p, xs, rfl, .inr h, q⟩
theorem i_tupL {K : PySem.W.Frag} {p : Addr} {xs : List V} {H : Hp} {Q : VK} (h : SqL K H p xs) (q : NewO (.tup xs) H Q) : rTupOf K [.ref p] H Q := ⟨p, xs, rfl, h, q⟩
theorem i_sum {K : PySem.W.Frag} {p : Addr} {ns : List Int} {H : Hp} {Q : VK} (h : SqL K H p (ns.map V.int)) (q : Q (.int ns.sum) H) : rSum K [.ref p] H Q := ⟨p, ns, rfl, h, q⟩
theorem i_all {K : PySem.W.Frag} {p : Addr} {bs : List Bool} {H : Hp} {Q : VK} (h : SqL K H p (bs.map V.bl)) (q : Q (.bl (bs.all id)) H) : rAll K [.ref p] H Q := ⟨p, bs, rfl, h, q⟩
theorem i_any {K : PySem.W.Frag} {p : Addr} {bs : List Bool} {H : Hp} {Q : VK} (h : SqL K H p (bs.map V.bl)) (q : Q (.bl (bs.any id)) H) : rAny K [.ref p] H Q := ⟨p, bs, rfl, h, q⟩
theorem i_isBl {a b : Bool} {H : Hp} {Q : VK} (q : Q (.bl (decide (a = b))) H) : rIsBl (.bl a) (.bl b) H Q := ⟨a, b, rfl, rfl, q⟩
theorem i_notBl {a b : Bool} {H : Hp} {Q : VK} (q : Q (.bl (!decide (a = b))) H) : rNotBl (.bl a) (.bl b) H Q := ⟨a, b, rfl, rfl, q⟩
theorem i_notN {v : V} {H : Hp} {Q : VK} (q : Q (.bl (!decide (v = .non))) H) : rNotN v .non H Q := ⟨rfl, q⟩
theorem i_bm {K : PySem.W.Frag} {T : String} {r : V → List V → Hp → VK → Prop} {to : TE} {t : TA} {σ : L2.St} {H : Hp} {Q : VK} (h : to σ H fun x H1 => tyV K T x H1 ∧ t σ H1 fun xs H2 => r x xs H2 Q) : tBM K T r to t σ H Q := h
theorem i_bm0 {K : PySem.W.Frag} {T : String} {r : V → List V → Hp → VK → Prop} {to : TE} {σ : L2.St} {H : Hp} {Q : VK} (h : to σ H fun x H1 => tyV K T x H1 ∧ r x [] H1 Q) : tBM0 K T r to σ H Q := h
theorem i_tyL {K : PySem.W.Frag} {p : Addr} {xs : List V} {H : Hp} {R : Prop} (h : SqL K H p xs) (q : R) : tyV K "list" (.ref p) H ∧ R := ⟨.inl ⟨rfl, _, h⟩, q⟩
theorem i_app {P H : Hp} {cs r : List Ch} {l : Addr} {xs : List V} {y : V} {Q : VK} (m : Mem P cs H) (h : Upd cs l (.lst xs) (.lst (xs ++ [y])) r) (hl : xs.length < 100000) (q : ∀ H', Mem P r H' → Q .non H') : rAppend (.ref l) [y] H Q :=
  ⟨l, xs, y, rfl, rfl, h.rd m, sz_lt hl, q _ (m.put h)⟩
theorem i_fld {K : PySem.W.Frag} {ta : TE} {f : Str} {σ : L2.St} {H : Hp} {Q : VK} (h : ta σ H fun x H1 => ∃ a C dx fs v, x = .ref a ∧ H1 a = some (.ins C dx fs) ∧ Cls K C ∧ NoAttr K C f ∧ fs.lookup f = some v ∧ Q v H1) : tFld K ta f σ H Q := h
theorem i_eqDt {K : PySem.W.Frag} {x y : V} {d e : PyData} {H : Hp} {Q : VK} (h1 : Dp K H x d) (h2 : Dp K H y e) (s1 : SeqAt.shaped d = true) (s2 : SeqAt.shaped e = true) (q : Q (.bl (PyData.eqv d e)) H) : rEqD K x y H Q := ⟨d, e, h1, h2, s1, s2, q⟩
theorem i_neDt {K : PySem.W.Frag} {x y : V} {d e : PyData} {H : Hp} {Q : VK} (h1 : Dp K H x d) (h2 : Dp K H y e) (s1 : SeqAt.shaped d = true) (s2 : SeqAt.shaped e = true) (q : Q (.bl (!PyData.eqv d e)) H) : rNeD K x y H Q := ⟨d, e, h1, h2, s1, s2, q⟩
end FS

set_option Elab.async false
set_option maxRecDepth 100000
set_option linter.all false
/-! FsData: data as values: their depth, when == tells True. -/
namespace FS
open PySem L2 Evl
theorem layAll {ds : List PyData} (h : ∀ d ∈ ds, d.canLay0 = true) : PyData.canLayAll0 ds = true := by
  induction ds with
  | nil => simp only [PyData.canLayAll0]
  | cons d ds ih =>
    simp only [PyData.canLayAll0, Bool.and_eq_true]
    exact ⟨h d List.mem_cons_self, ih fun x hx => h x (List.mem_cons_of_mem _ hx)⟩
theorem depAll {n : Nat} {ds : List PyData} (h : ∀ d ∈ ds, d.depth ≤ n) : PyData.depthAll ds ≤ n := by
  induction ds with
  | nil => simp only [PyData.depthAll]; exact Nat.zero_le _
  | cons d ds ih =>
    simp only [PyData.depthAll]
    exact Nat.max_le.mpr ⟨h d List.mem_cons_self, ih fun x hx => h x (List.mem_cons_of_mem _ hx)⟩
/-- data that may be asked for ==, at most n deep -/
def Sh (n : Nat) (d : PyData) : Prop := d.canLay0 = true ∧ d.depth ≤ n
theorem Sh.mono {n m : Nat} {d : PyData} (h : Sh n d) (k : n ≤ m) : Sh m d := ⟨h.1, Nat.le_trans h.2 k⟩
theorem Sh.int (i : Int) : Sh 0 (.int i) := ⟨by simp only [PyData.canLay0], by simp only [PyData.depth]; exact Nat.le_refl _⟩
theorem Sh.bl (b : Bool) : Sh 0 (.bool b) := ⟨by simp only [PyData.canLay0], by simp only [PyData.depth]; exact Nat.le_refl _⟩
theorem Sh.non : Sh 0 .none := ⟨by simp only [PyData.canLay0], by simp only [PyData.depth]; exact Nat.le_refl _⟩
theorem Sh.str {x : Str} (h : PyData.strOk x = true) : Sh 0 (.str x) := ⟨by simp only [PyData.canLay0]; exact h, by simp only [PyData.depth]; exact Nat.le_refl _⟩
theorem Sh.lst {n : Nat} {ds : List PyData} (h : ∀ d ∈ ds, Sh n d) : Sh (n + 1) (.list ds) := ⟨by simp only [PyData.canLay0]; exact layAll fun d hd => (h d hd).1, by simp only [PyData.depth]; exact Nat.succ_le_succ (depAll fun d hd => (h d hd).2)⟩
theorem Sh.tup {n : Nat} {ds : List PyData} (h : ∀ d ∈ ds, Sh n d) : Sh (n + 1) (.tuple ds) := ⟨by simp only [PyData.canLay0]; exact layAll fun d hd => (h d hd).1, by simp only [PyData.depth]; exact Nat.succ_le_succ (depAll fun d hd => (h d hd).2)⟩
theorem Sh.ok {n : Nat} {d : PyData} (h : Sh n d) (k : n ≤ 64) : SeqAt.shaped d = true := by
  unfold SeqAt.shaped
  rw [h.1, decide_eq_true (Nat.le_trans h.2 k)]
  rfl
theorem eqv_self {n : Nat} {d : PyData} (h : Sh n d) : PyData.eqv d d = true := SeqAt.eqv_refl d h.1
end FS

set_option Elab.async false
set_option maxRecDepth 100000
set_option linter.all false
/-! FsStr: defs that turn data into texts: what they promise holds where no repr is under way. -/
namespace FS
open PySem PySem.Spec PyProof.Rows L2 Evl
/-- nothing is being shown -/
abbrev Calm (A : Around) : Prop := A.guards = some []
structure FnOkG (P : Program) (w : World) (K : PySem.W.Frag) (mg : Str → Option Value) (base : Heap) (CX : CXT) (k : Nat) (f : Addr) (fd : FuncData) (ps : List Str) (sp : Sp) : Prop where
  len : ∀ vs H Q E, sp vs H Q E → vs.length = ps.length
  run : ∀ (A : Around) (outer : List Env) (s : Shared) (H : Hp) (args : Args) (us : List Value) (vs : List V) (Q : VK) (E : XK), Room k A → Calm A →
    Env0 P w K mg base A outer s H → BindsTo s fd args (ps.zip us) → Vals vs us → sp vs H Q E → codeAny (model P w) A (.call (.ref f) args) (CR CX outer P w H s Q E) s
section
variable {P : Program} {w : World} {K : PySem.W.Frag} {mg : Str → Option Value} {base : Heap} {CX : CXT} {k : Nat} {f : Addr} {fd : FuncData} {ps : List Str} {sp : Sp}
theorem FnOkG.of (F : FnOk P w K mg base CX k f fd ps sp) : FnOkG P w K mg base CX k f fd ps sp :=
  ⟨F.len, fun A outer s H args us vs Q E hr _ => F.run A outer s H args us vs Q E hr⟩
/-- a promise that is kept where nothing is being shown is one of the plain kind, but with that as a premise of the room: for one way of running -/
theorem FnOkG.at (F : FnOkG P w K mg base CX k f fd ps sp) {X : Cx} (e1 : X.prog = P) (e2 : X.w = w) (e3 : X.K = K) (e4 : X.mg = mg) (e5 : X.base = base) (hc : Calm X.A) (hr : Room k X.A) {ds : List Value} {dvs : List V} {E : XK} (hb : Binds X.K fd ps ds) (hd : Vals dvs ds) (hx : Passes CX X E)
    {pins : List (Addr × Obj)} {σ : L2.St} {H : Hp} {s : Shared} {Q : VK} {us : List Value} {vs : List V} (I : Inv X pins σ H s) (r : Vals vs us) (h : sp (vs ++ dvs) H Q E) : wpAny (model X.prog X.w) X.A (call (.ref f) us) (EP X pins σ Q) X.xe s := by
  subst e1 e2 e3 e4 e5
  have all := r.append hd
  have hn : (us ++ ds).length = ps.length := all.length ▸ F.len _ _ _ _ h
  have go := F.run X.A X.stack s H ⟨us, []⟩ _ _ Q E hr hc I.env0 (hb s us I.kIn hn) all h
  refine wpAny_call (codeAny_mono go ?_)
  rintro (e | fl) s' hq
  · exact hx pins σ H s e s' I hq
  · match fl, hq with
    | .ret u, hq => exact I.after hq
    | .next, hq => exact hq.elim
    | .brk, hq => exact hq.elim
    | .cont, hq => exact hq.elim
end
section
variable {X : Cx} {CX : CXT} {k : Nat} {f : Addr} {fd : FuncData} {ps : List Str} {sp : Sp} {dvs : List V} {ds : List Value} {E : XK} {x : Str} {p pos : Pos} {e : Expr} {es : List Expr} {t : TA}
theorem peG (F : FnOkG X.prog X.w X.K X.mg X.base CX k f fd ps sp) (hc : Calm X.A) (hr : Room k X.A) (hg : Gl X x) (hm : X.mg x = some (.ref f)) (hk : PySem.W.keepIn X.K (.ref f) = true) (hb : Binds X.K fd ps ds) (hd : Vals dvs ds) (hx : Passes CX X E) (ha : PA X (e :: es) t)
    (hdb : (x == ("__debug__" : Str)) = false := by decide) (he : starEach (e :: es) X.env = (false, eval e X.env) :: starEach es X.env := by rfl) (hpl : (backTo pos (starEach es X.env)).any (·.1) = false := by rfl) :
    PE X (.Call (.Name x p) (e :: es) [] pos) (tCall sp dvs E t) := by
  constructor
  intro pins s σ H Q I h
  have run := thn (ha.run pos pins s σ H _ I h) (Q' := fun us s1 => X.K.In s1.heap ∧ wpAny (model X.prog X.w) X.A (call (.ref f) us) (EP X pins σ Q) X.xe s1)
    fun us s1 ⟨vs, H1, I1, r, q⟩ => ⟨I1.kIn, F.at rfl rfl rfl rfl rfl hc hr hb hd hx I1 r q⟩
  exact wpAny_Call_Name_kw (ld_glob I hg hm (PySem.W.callWith_K (h₀ := X.base) I.ok.mod.kin hk run he hpl) hdb)
end
/-- a def by its body, where nothing is being shown -/
theorem fnG {P : Program} {w : World} {K : PySem.W.Frag} {mg : Str → Option Value} {base : Heap} {x qual : Str} {st : Stmt} {f : Addr} {fd : FuncData} {N ps : List Str} {k : Nat} {sp : Sp} (F : Fun K x qual st f fd) (S : FnScope N ps (defScope st)) (len : ∀ vs H Q E, sp vs H Q E → vs.length = ps.length)
    (hbody : ∀ (cdv : Value) (A : Around) (outer : List Env) (s : Shared) (H : Hp) (vs : List V) (Q : VK) (E : XK), Room k (A.deeper (envOfC qual (defScope st) s.heap.objs.size f cdv)) → Calm (A.deeper (envOfC qual (defScope st) s.heap.objs.size f cdv)) → sp vs H Q E →
      ∃ t, PSs (cxOf CX0 P w K mg base N qual (defScope st) f cdv A outer s H E).nox (defBody st) t ∧ t { nx := fun _ H' => Q .non H', rt := Q } (start N vs) H) : FnOkG P w K mg base CX0 (k + 1) f fd ps sp := by
  refine ⟨len, fun A outer s H args us vs Q E hr hc e0 hb r hsp => ?_⟩
  obtain ⟨oc, od, kV, doc, pm, an, cdv, ct, osl, efd, lk, hcd⟩ := F.ex
  subst efd
  have hlen := len _ _ _ _ hsp
  have kept : ∀ b o, base.get? b = some o → s.heap.get? b = some o := fun b o e => (e0.bs b o e).1
  have inK := e0.mod.kin.keeps kept
  have bound : ∀ y ∈ ps.zip us, (defScope st).names.lookup y.1 = some .local ∨
      ((defScope st).names.lookup y.1 = some .cell ∧ ((cellsFrom (s.heap.objs.size + 1) (defScope st).names []).lookup y.1).isSome = true) := by
    rintro ⟨n, v⟩ hy
    cases S.par n (List.of_mem_zip hy).1 with
    | inl q => exact Or.inl q
    | inr q => exact Or.inr ⟨q, PySem.W.cellsFrom_some _ _ _ (Or.inl q)⟩
  refine codeAny_call_function hr.depth (inK _ _ lk) rfl S.co S.gen rfl
    (PySem.W.codeRec_of inK hcd) (hb _ _ _ _ ?_)
  refine wpAny_newFunctionEnv_cells S.kind bound (fun env ee s1 x => ?_)
  subst ee
  refine ⟨(e0.mod.nolimit.keeps kept).keeps x.toInCall.keep, codeAny_func ?_⟩
  obtain ⟨t, ht, hq⟩ := hbody cdv A outer s H vs Q E (hr.deeper _) hc hsp
  have I := inv_start (CX := CX0) (E := E) S hr.hd e0 hlen r x
  have ends : ∀ {σ' : L2.St} {H' : Hp} {v : V} {u : Value} {s' : Shared}, Inv (cxOf CX0 P w K mg base N qual (defScope st) f cdv A outer s H E) [] σ' H' s' → RelV v u → Q v H' → CE outer P w H s Q u s' := by
    intro σ' H' v u s' J rv q
    exact ⟨v, H', J.os, J.bare, J.base, J.hok, rv, q⟩
  refine wpAny_mono (ht.nox.run [] s1 _ H _ I hq) ?_ (fun e s' h => h)
  rintro (_ | _ | _ | u) s' hs
  · obtain ⟨σ', H', J, q⟩ := hs
    exact ends (v := V.non) J rfl q
  · obtain ⟨_, _, _, q⟩ := hs
    exact q.elim
  · obtain ⟨_, _, _, q⟩ := hs
    exact q.elim
  · obtain ⟨v, σ', H', J, rv, q⟩ := hs
    exact ends J rv q
/-- the law's call, from an abstract heap where nothing but the script is told -/
theorem lawG {P : Program} {w : World} {K : PySem.W.Frag} {mg mb : Str → Option Value} {k : Nat} {fa a : Addr} {fd : FuncData} {x : Str} {sp : Sp} {s1 : Shared} {H : Hp}
    (hK : K.In s1.heap) (hmg : s1.heap.Ns mainGlobals mg) (hmb : s1.heap.Ns builtinsNs mb) (hbb : ∀ y : Str, y ≠ "__name__" → mb y = bootBuiltins y) (hlim : s1.heap.NoLimit) (hgens : s1.gens = #[])
    (F : ∀ base : Heap, K.In base → base.Ns mainGlobals mg → FnOkG P w K mg base CX0 k fa fd [x] sp) (hb : ∀ (s : Shared) (u : Value), BindsTo s fd ⟨[u], []⟩ [(x, u)]) (hr : Room k callerA)
    (hok : HOk P w H s1.heap) (one : ∀ b u, H b = some u → (∃ o xs, u = .frz o (.lst xs)) ∧ K.lookup b = none ∧ ∃ o, s1.heap.get? b = some o ∧ ∀ es ep, o.data ≠ .dict es ep)
    (hsp : sp [.ref a] H (fun v _ => v = .bl true) fun _ _ _ => False) :
    codeAny (model P w) callerA (.call (.ref fa) ⟨[.ref a], []⟩) (fun r s' => r = .ok (.ret (.bool true)) ∧ OldK s1.heap s'.heap ∧ s'.os = s1.os ∧ AllBare s'.gens) s1 := by
  let B := hidT s1.heap H
  have seen : ∀ {b : Addr} {o : Obj}, s1.heap.get? b = some o → H b = none → B.get? b = some o := fun e n => hidT_get e n
  have noD : ∀ {b : Addr} {o : Obj} {es : Array DictEntry} {ep : Nat}, s1.heap.get? b = some o → o.data = .dict es ep → H b = none := by
    intro b o es ep e d
    cases q : H b with
    | none => rfl
    | some u =>
      obtain ⟨_, _, o', e', nd⟩ := one b u q
      rw [e] at e'
      cases e'
      exact absurd d (nd es ep)
  have names : ∀ {b : Addr} {m : Str → Option Value}, s1.heap.Ns b m → B.Ns b m := by
    rintro b m ⟨o, es, ep, e, d, r⟩
    exact ⟨o, es, ep, seen e (noD e d), d, r⟩
  have inB : K.In B := by
    intro b o e
    refine seen (hK b o e) ?_
    cases q : H b with
    | none => rfl
    | some u =>
      have z := (one b u q).2.1
      rw [e] at z
      cases z
  have lim : B.NoLimit := by
    obtain ⟨mc, h1, h2⟩ := hlim
    exact ⟨mc, names h1, h2⟩
  have at0 : Env0 P w K mg B callerA [] s1 H :=
    { frames := rfl, mod := ⟨inB, names hmg, ⟨mb, names hmb, hbb⟩, lim⟩, bs := fun _ _ e => of_hidT e, bsz := Nat.le_of_eq (hidT_size _ _), funs := trivial,
      frf := (fun b z => absurd (show b ∈ ([] : List Addr) from z) (by simp)), hok := hok, bare := .of_eq hgens }
  have go := (F B inB (names hmg)).run callerA [] s1 H ⟨[.ref a], []⟩ [.ref a] [.ref a] _ _ hr rfl at0 (hb s1 (.ref a)) (.cons rfl .nil) hsp
  refine codeAny_mono go ?_
  rintro (e | fl) s' h
  · exact h.elim
  · match fl, h with
    | .next, h => exact h.elim
    | .brk, h => exact h.elim
    | .cont, h => exact h.elim
    | .ret u, h =>
      obtain ⟨v, H', os, bare, un, hok', rv, qv⟩ := h
      subst qv
      cases (show u = Value.bool true from rv)
      refine ⟨rfl, OldK.of_keep ?_, os, bare⟩
      intro b o e
      cases q : H b with
      | none => exact un.keep b o e q (fun z => absurd (show b ∈ ([] : List Addr) from z) (by simp)) (fun z => by cases z)
      | some u =>
        obtain ⟨⟨ob, xs, rfl⟩, _⟩ := one b u q
        have before := (hok b _ q).1
        have behind := (hok' b _ (un.frzs b ob _ q)).1
        rw [e] at before
        cases before
        exact behind
theorem walkG {l : PySem.W.OpenLaw} {n k : Nat} {q : Program} {loose : List Str} {XP : (Str → Option Value) → Heap → Prop} {YP : World → Heap → Prop} {d : DefRec} {K : Params → PySem.W.Frag} {sp : World → Sp} {x : Str}
    (hn : l.most = some n) (hn2 : n ≤ sizeLine) (hdf : d.params.defaults = []) (hr : Room k callerA) (hY : ∀ (w : World) (h : Heap), YP w h → (K w.params).In h)
    (F : ∀ (w : World) (mg : Str → Option Value) (fa : Addr) (h : Heap), (K w.params).In h → h.Ns mainGlobals mg → mg d.name = some (.ref fa) →
      ∃ fd : FuncData, (∀ (s : Shared) (u : Value), BindsTo s fd ⟨[u], []⟩ [(x, u)]) ∧ ∀ base : Heap, (K w.params).In base → base.Ns mainGlobals mg → FnOkG l.prog w (K w.params) mg base CX0 k fa fd [x] (sp w))
    (hsp : ∀ (w : World) (H : Hp) (a : Addr) (ns : List Int), ns.length ≤ n → SqL (K w.params) H a (ns.map V.int) → sp w [.ref a] H (fun v _ => v = .bl true) fun _ _ _ => False) :
    PySem.W.WalkO q loose XP YP l.row.toRowW d [] (fun f vs => PySem.call f vs) := by
  refine Att.attach_call hn hdf ?_
  intro w s0 s1 mg mb fa o pm cd doc a vs ns G Y ho hd hcd hmg hobj hints hlen hgens
  have KX := hY w _ Y
  obtain ⟨fd, hb, hF⟩ := F w mg fa _ KX G.T.g hmg
  have rv := vals_ints hints
  have hl : ns.length ≤ sizeLine := Nat.le_trans hlen hn2
  cases hk : (K w.params).lookup a with
  | some oa =>
    -- the script stands in the written part
    have e := KX a oa hk
    rw [hobj] at e
    cases e
    refine lawG (H := fun _ => none) KX G.T.g G.T.b G.T.builtins G.T.nolimit hgens hF hb hr (fun _ _ z => by cases z) (fun _ _ z => by cases z) (hsp w _ a ns hlen (.inr ⟨_, vs.toArray, _, hk, rfl, rfl, rfl, ?_, by simpa using rv⟩))
    rw [List.size_toArray, hints.length]
    exact hl
  | none =>
    refine lawG (H := sgl a (.frz { cls := .type "list", data := .seq vs.toArray } (.lst (ns.map V.int)))) KX G.T.g G.T.b G.T.builtins G.T.nolimit hgens hF hb hr ?_ ?_ (hsp w _ a ns hlen (.inl (.inr ⟨_, if_pos rfl⟩)))
    · intro b u z
      have zb : b = a := by
        by_cases e : b = a
        · exact e
        · rw [sgl, if_neg e] at z; cases z
      subst zb
      rw [sgl, if_pos rfl] at z
      cases z
      exact ⟨hobj, by rw [List.length_map]; exact hl, vs, _, rv, hobj⟩
    · intro b u z
      have zb : b = a := by
        by_cases e : b = a
        · exact e
        · rw [sgl, if_neg e] at z; cases z
      subst zb
      rw [sgl, if_pos rfl] at z
      cases z
      exact ⟨⟨_, _, rfl⟩, hk, _, hobj, fun es ep => by intro z; cases z⟩
/-! str(..) of a list or a tuple of data -/
def rStrD (K : PySem.W.Frag) : List V → Hp → VK → Prop := fun xs H Q => ∃ (a : Addr) (d : PyData), xs = [.ref a] ∧ Dp K H (.ref a) d ∧ d.showable = true ∧ d.hasDict = false ∧ d.depth ≤ 60 ∧ d.shown.length ≤ sizeLine ∧ Q (.str d.shown) H
theorem strD {X : Cx} {K : PySem.W.Frag} (h : X.K = K) (hc : Calm X.A) (hu : X.A.units + 64 < cLine) : CallR X (.type "str") (rStrD K) := by
  subst h
  intro pins s σ H xs us Q I r h
  obtain ⟨a, d, rfl, hd, hs, hn, hdep, hz, q⟩ := h
  obtain ⟨u, rfl, ru⟩ := vals1 r
  cases (show u = Value.ref a from ru)
  obtain ⟨as, hr⟩ := Dp.reads I d _ _ hd (show RelV (.ref a) (.ref a) from rfl)
  exact str_of_reads hr hs (fun z => by rw [hn] at z; cases z) hc (by omega) (fun _ _ e => e) (fun h' u tk k => ⟨.str d.shown, H, I.kept k, ⟨_, rfl⟩, q⟩) hz
/-- data that may be shown: how deep, how long its text -/
structure Shw (n L : Nat) (d : PyData) : Prop where
  sh : d.showable = true
  hd : d.hasDict = false
  dp : d.depth ≤ n
  ln : d.shown.length ≤ L
theorem int_text_len (i : Int) {k : Nat} (hk : 0 < k) (h : i.natAbs < 2 ^ k) : (PyData.shown (.int i)).length ≤ k + 1 := by
  have e : (PyData.shown (.int i)).length = (toString i).length := by
    simp only [PyData.shown]
    exact PySem.ofString_length _
  rw [e]
  cases i with
  | ofNat n =>
    have := nat_repr_length_le (n := n) hk (by simpa using h)
    show (Nat.repr n).length ≤ _
    omega
  | negSucc n =>
    have := nat_repr_length_le (n := n + 1) hk (by simpa using h)
    show ("-" ++ Nat.repr (n + 1)).length ≤ _
    rw [String.length_append]
    have : ("-" : String).length = 1 := rfl
    omega
theorem Shw.int {i : Int} {k : Nat} (hk : 0 < k) (hk2 : k ≤ 1900) (h : i.natAbs < 2 ^ k) : Shw 0 (k + 1) (.int i) :=
  ⟨by simp only [PyData.showable]; exact decide_eq_true (Nat.lt_of_lt_of_le (PySem.Flt.log2_lt_of hk h) (by omega)), by simp only [PyData.hasDict], by simp only [PyData.depth]; exact Nat.le_refl _, int_text_len i hk h⟩
theorem Shw.mono {n L n' L' : Nat} {d : PyData} (h : Shw n L d) (a : n ≤ n') (b : L ≤ L') : Shw n' L' d := ⟨h.sh, h.hd, Nat.le_trans h.dp a, Nat.le_trans h.ln b⟩
theorem shw_all {n L : Nat} : ∀ {ds : List PyData}, (∀ d ∈ ds, Shw n L d) → PyData.showableAll ds = true ∧ PyData.hasDictAll ds = false ∧ PyData.depthAll ds ≤ n ∧ ((PyData.shownAll ds).map (·.length)).sum ≤ L * ds.length ∧ (PyData.shownAll ds).length = ds.length
  | [], _ => ⟨by simp only [PyData.showableAll], by simp only [PyData.hasDictAll], by simp only [PyData.depthAll]; exact Nat.zero_le _, by simp [PyData.shownAll], by simp [PyData.shownAll]⟩
  | d :: ds, h => by
    have h1 := h d List.mem_cons_self
    obtain ⟨a, b, c, e, f⟩ := shw_all (ds := ds) fun x hx => h x (List.mem_cons_of_mem _ hx)
    refine ⟨by simp only [PyData.showableAll, h1.sh, a, Bool.and_self], by simp only [PyData.hasDictAll, h1.hd, b, Bool.or_self], by simp only [PyData.depthAll]; exact Nat.max_le.mpr ⟨h1.dp, c⟩, ?_, by simp only [PyData.shownAll, List.length_cons, f]⟩
    simp only [PyData.shownAll, List.map_cons, List.sum_cons, List.length_cons, Nat.mul_succ]
    have := h1.ln
    omega
theorem Shw.lst {n L N : Nat} {ds : List PyData} (h : ∀ d ∈ ds, Shw n L d) (hn : ds.length ≤ N) : Shw (n + 1) ((L + 2) * N + 3) (.list ds) := by
  obtain ⟨a, b, c, e, f⟩ := shw_all h
  refine ⟨by simp only [PyData.showable]; exact a, by simp only [PyData.hasDict]; exact b, by simp only [PyData.depth]; omega, ?_⟩
  simp only [PyData.shown]
  have q := listText_len_le (PyData.shownAll ds)
  rw [f] at q
  have r1 : L * ds.length ≤ L * N := Nat.mul_le_mul_left _ hn
  have r2 : (L + 2) * N = L * N + 2 * N := Nat.add_mul _ _ _
  omega
theorem Shw.tup {n L N : Nat} {ds : List PyData} (h : ∀ d ∈ ds, Shw n L d) (hn : ds.length ≤ N) : Shw (n + 1) ((L + 2) * N + 3) (.tuple ds) := by
  obtain ⟨a, b, c, e, f⟩ := shw_all h
  refine ⟨by simp only [PyData.showable]; exact a, by simp only [PyData.hasDict]; exact b, by simp only [PyData.depth]; omega, ?_⟩
  simp only [PyData.shown]
  have q := tupleText_len_le (PyData.shownAll ds)
  rw [f] at q
  have r1 : L * ds.length ≤ L * N := Nat.mul_le_mul_left _ hn
  have r2 : (L + 2) * N = L * N + 2 * N := Nat.add_mul _ _ _
  omega
theorem i_strD {K : PySem.W.Frag} {a : Addr} {d : PyData} {n L : Nat} {H : Hp} {Q : VK} (h : Dp K H (.ref a) d) (s : Shw n L d) (hn : n ≤ 60) (hL : L ≤ 16000000) (q : Q (.str d.shown) H) : rStrD K [.ref a] H Q :=
  ⟨a, d, rfl, h, s.sh, s.hd, Nat.le_trans s.dp hn, Nat.le_trans s.ln (Nat.le_trans hL (by decide)), q⟩
end FS

set_option Elab.async false
set_option maxRecDepth 100000
set_option linter.all false
/-! FsText: texts. -/
namespace FS
open PySem PySem.Spec PyProof.Rows L2 Evl
section
variable {X : Cx} {K : PySem.W.Frag} {o e : Expr} {to te : TE} {apos pos : Pos}
def rInSg : R2 := fun x y H Q => ∃ (c : Nat) (z : Str), x = .str ⟨#[c]⟩ ∧ y = .str z ∧ Q (.bl (decide (c ∈ z.cps.toList))) H
def rNinSg : R2 := fun x y H Q => ∃ (c : Nat) (z : Str), x = .str ⟨#[c]⟩ ∧ y = .str z ∧ Q (.bl (!decide (c ∈ z.cps.toList))) H
theorem inSg : OpR X (compareOp .In) rInSg := op_in_sign
theorem ninSg : OpR X (compareOp .NotIn) rNinSg := op_notIn_sign
def rAddS : R2 := fun x y H Q => ∃ i j, x = .str i ∧ y = .str j ∧ i.length + j.length ≤ sizeLine ∧ Q (.str (i ++ j)) H
theorem addS : OpR X (binaryOp .Add) rAddS := op_add_str
def rItS : R2 := fun x y H Q => ∃ z i c, x = .str z ∧ y = .int i ∧ 0 ≤ i ∧ i < 2 ^ 63 ∧ i < z.length ∧ z.cps[i.toNat]? = some c ∧ Q (.str ⟨#[c]⟩) H
theorem itS (ha : PE X o to) (hb : PE X e te) (hs : PlainIxT e) : PE X (.Subscript o e pos) (tOp rItS to te) := pe_item_str ha hb hs
def rSplit : V → List V → Hp → VK → Prop := fun x xs H Q => ∃ a b, x = .str a ∧ xs = [.str b] ∧ (b.length == 0) = false ∧ a.length + 2 ≤ sizeLine ∧ NewO (.lst ((Txt.split a b).map V.str)) H Q
theorem splitT (ho : PE X o to) (he : PE X e te) (hs : starEach [e] X.env = [(false, eval e X.env)] := by rfl) (hbase : attributeBase o "split" X.env (eval o X.env) = eval o X.env := by rfl) (hline : (apos.endLine == pos.line) = true := by rfl) :
    PE X (.Call (.Attribute o "split" apos) [e] [] pos) (tM1 rSplit to te) := pe_split ho he hs hbase hline
def rJoin (K : PySem.W.Frag) : V → List V → Hp → VK → Prop := fun x xs H Q => ∃ a p, ∃ ys : List Str, x = .str a ∧ xs = [.ref p] ∧ (SqL K H p (ys.map V.str) ∨ SqT K H p (ys.map V.str)) ∧
  (ys.map (·.length)).sum + ys.length * a.length ≤ 16777216 ∧ Q (.str (Txt.join a ys)) H
theorem joinT (h : X.K = K) (ho : PE X o to) (he : PE X e te) (hs : starEach [e] X.env = [(false, eval e X.env)] := by rfl) (hbase : attributeBase o "join" X.env (eval o X.env) = eval o X.env := by rfl) (hline : (apos.endLine == pos.line) = true := by rfl) :
    PE X (.Call (.Attribute o "join" apos) [e] [] pos) (tM1 (rJoin K) to te) := by subst h; exact pe_join ho he hs hbase hline
def rStarts : V → List V → Hp → VK → Prop := fun x xs H Q => ∃ a b, x = .str a ∧ xs = [.str b] ∧ Q (.bl (Txt.startswith a b)) H
theorem startsT (ho : PE X o to) (he : PE X e te) (hs : starEach [e] X.env = [(false, eval e X.env)] := by rfl) (hbase : attributeBase o "startswith" X.env (eval o X.env) = eval o X.env := by rfl) (hline : (apos.endLine == pos.line) = true := by rfl) :
    PE X (.Call (.Attribute o "startswith" apos) [e] [] pos) (tM1 rStarts to te) := pe_m1 F.slot_str_startswith F.type_str_startswith mt_startswith ho he hs hbase hline
/-- a text times a written number -/
def rMulS : R2 := fun x y H Q => ∃ (z : Str) (n : Int), x = .str z ∧ y = .int n ∧ 0 ≤ n ∧ n ≤ 1000 ∧ z.length ≤ 1000 ∧ Q (.str (Txt.mul z n)) H
theorem mulS : OpR X (binaryOp .Mult) rMulS := by
  intro pins s σ H x y v u Q I rx ry h
  obtain ⟨z, n, rfl, rfl, h0, h1, h2, q⟩ := h
  obtain ⟨t, rfl⟩ := rx
  obtain ⟨t', rfl⟩ := ry
  refine SB.mul ⟨?_, fun hn _ => ?_, fun _ _ => ?_⟩ fun t k => ⟨.str _, H, I.tok _, ⟨_, rfl⟩, q⟩
  · rw [Bool.or_eq_false_iff]
    exact ⟨decide_eq_false (by omega), decide_eq_false (by omega)⟩
  · have e : (1000 : Int) ≤ (2 ^ 63 - 1) / n := (Int.le_ediv_iff_mul_le (by omega)).mpr (by omega)
    omega
  · have e : z.length * n.toNat ≤ 1000 * 1000 := Nat.mul_le_mul h2 (by omega)
    unfold Builtin.Str.tooLong
    have e2 : sizeLine = 16777216 := sizeLine_eq
    exact decide_eq_false (by omega)
variable {x : Str}
theorem glS {s : Str} (hg : Gl X x) (h : ∃ t, X.mg x = some (.str s t)) (hd : (x == ("__debug__" : Str)) = false := by decide) : PE X (.Name x pos) (tC (.str s)) := by
  obtain ⟨t, h⟩ := h
  exact pe_glob hg h ⟨t, rfl⟩ hd
theorem glI {i : Int} (hg : Gl X x) (h : ∃ t, X.mg x = some (.int i t)) (hd : (x == ("__debug__" : Str)) = false := by decide) : PE X (.Name x pos) (tC (.int i)) := by
  obtain ⟨t, h⟩ := h
  exact pe_glob hg h ⟨t, rfl⟩ hd
end
theorem i_mulS {z : Str} {n : Int} {H : Hp} {Q : VK} (h0 : 0 ≤ n) (h1 : n ≤ 1000) (h2 : z.length ≤ 1000) (q : Q (.str (Txt.mul z n)) H) : rMulS (.str z) (.int n) H Q := ⟨z, n, rfl, rfl, h0, h1, h2, q⟩
theorem i_m1 {r : V → List V → Hp → VK → Prop} {to te : TE} {σ : L2.St} {H : Hp} {Q : VK} (h : to σ H fun x H1 => (∃ a, x = .str a) ∧ te σ H1 fun y H2 => r x [y] H2 Q) : tM1 r to te σ H Q := h
theorem i_strI {a : Str} {R : Prop} (h : R) : (∃ b, V.str a = .str b) ∧ R := ⟨⟨a, rfl⟩, h⟩
theorem i_inSg {c : Nat} {z : Str} {H : Hp} {Q : VK} (q : Q (.bl (decide (c ∈ z.cps.toList))) H) : rInSg (.str ⟨#[c]⟩) (.str z) H Q := ⟨c, z, rfl, rfl, q⟩
theorem i_addS {i j : Str} {H : Hp} {Q : VK} (h : i.length + j.length ≤ 100000) (q : Q (.str (i ++ j)) H) : rAddS (.str i) (.str j) H Q := ⟨i, j, rfl, rfl, sz_of h, q⟩
theorem i_itS {z : Str} {i : Int} {H : Hp} {Q : VK} (h0 : 0 ≤ i) (h1 : i < z.length) (h2 : z.length ≤ 100000) (q : ∀ c, z.cps[i.toNat]? = some c → Q (.str ⟨#[c]⟩) H) : rItS (.str z) (.int i) H Q := by
  have hs : i.toNat < z.cps.size := by
    have e : z.length = z.cps.size := rfl
    omega
  exact ⟨z, i, z.cps[i.toNat], rfl, rfl, h0, by omega, h1, by simp [hs], q _ (by simp [hs])⟩
theorem i_split {a b : Str} {H : Hp} {Q : VK} (hb : (b.length == 0) = false) (h : a.length ≤ 100000) (q : NewO (.lst ((Txt.split a b).map V.str)) H Q) : rSplit (.str a) [.str b] H Q := ⟨a, b, rfl, rfl, hb, Nat.le_trans (Nat.add_le_add_right h 2) (by decide), q⟩
theorem i_join {K : PySem.W.Frag} {a : Str} {p : Addr} {ys : List Str} {H : Hp} {Q : VK} (h : SqL K H p (ys.map V.str)) (hz : (ys.map (·.length)).sum + ys.length * a.length ≤ 16777216) (q : Q (.str (Txt.join a ys)) H) : rJoin K (.str a) [.ref p] H Q := ⟨a, p, ys, rfl, rfl, .inl h, hz, q⟩
theorem i_starts {a b : Str} {H : Hp} {Q : VK} (q : Q (.bl (Txt.startswith a b)) H) : rStarts (.str a) [.str b] H Q := ⟨a, b, rfl, rfl, q⟩
theorem i_slS {z : Str} {lo hi : Option Int} {H : Hp} {Q : VK} (h : z.length ≤ 100000) (q : Q (.str (cutS z lo hi)) H) : rSlS (.str z) lo hi H Q := ⟨z, rfl, sz_of h, q⟩
theorem i_iStr {te : TE} {σ : L2.St} {H : Hp} {R : It → Hp → Prop} (h : te σ H fun v H1 => ∃ x, v = .str x ∧ R (Its x) H1) : iStr te σ H R := h
/-- a comprehension over a text -/
theorem l_lcS {P : Hp} {cs : List Ch} {z : Str} {g : TG} {tt : TT} {te : TE} {vs : List Nat} {σ : L2.St} {H : Hp} {Qd : Addr → Hp → Prop} (m : Mem P cs H) (R : Nat → List V → Hp → Prop) (h0 : R 0 [] P)
    (hs : ∀ i c P' H' acc D, z.cps[i]? = some c → Ex P P' → Mem P' (pt D (.lst acc) :: cs) H' → R i acc P' → ∀ (Kt : VK) (Kf : Hp → Prop),
      (∀ y P4 H4, Ex P' P4 → Mem P4 (pt D (.lst acc) :: cs) H4 → acc.length < 100000 → R (i + 1) (acc ++ [y]) P4 → Kt y H4) → (∀ P4 H4, Ex P' P4 → Mem P4 (pt D (.lst acc) :: cs) H4 → R (i + 1) acc P4 → Kf H4) →
      g (.str ⟨#[c]⟩) (wipe σ vs) H' fun σ2 H2 => wipe σ2 vs = wipe σ vs ∧ tt σ2 H2 fun b H3 => if b = true then te σ2 H3 Kt else Kf H3)
    (hd : ∀ D P' H' acc, Ex P P' → Mem P' (pt D (.lst acc) :: cs) H' → R z.cps.size acc P' → Qd D H') :
    ∃ y, V.str z = .str y ∧ ∀ D, H D = none → ∃ W : Nat → Nat → Hp → Prop, (∃ m, W 0 m (upd H D (.lst []))) ∧ ∀ i m H, W i m H →
      ((Its y).stop i H ∧ Qd D H) ∨ ((Its y).go i H ∧ ∃ Nx : Hp → Prop, (∀ H', Nx H' → ∃ m', m' < m ∧ W (i + 1) m' H') ∧ ∀ x H', (Its y).yld i H x H' → g x (wipe σ vs) H' fun σ2 H2 => wipe σ2 vs = wipe σ vs ∧ tt σ2 H2 fun b H3 =>
        if b = true then te σ2 H3 fun y H4 => ∃ acc, H4 D = some (.lst acc) ∧ acc.length < sizeLine ∧ Nx (upd H4 D (.lst (acc ++ [y]))) else Nx H3) := by
  refine ⟨z, rfl, fun D hD => ⟨fun i m H' => m = z.cps.size - i ∧ i ≤ z.cps.size ∧ ∃ P' acc, Ex P P' ∧ Mem P' (pt D (.lst acc) :: cs) H' ∧ R i acc P', ⟨z.cps.size, by simp, Nat.zero_le _, P, [], Ex.refl _, m.new hD, h0⟩, ?_⟩⟩
  rintro i mm H' ⟨rfl, hi, P', acc, e, m', r⟩
  by_cases hlt : i < z.cps.size
  · refine .inr ⟨hlt, fun H' => ∃ P' acc, Ex P P' ∧ Mem P' (pt D (.lst acc) :: cs) H' ∧ R (i + 1) acc P', fun H2 q => ⟨z.cps.size - (i + 1), by omega, rfl, hlt, q⟩, ?_⟩
    rintro x H2 ⟨rfl, c, hc, rfl⟩
    exact hs i c P' _ acc D hc e m' r _ _ (fun y P4 H4 e4 m4 l4 r4 => ⟨acc, m4.rd0, sz_lt l4, P4, _, e.trans e4, m4.put0, r4⟩) (fun P4 H4 e4 m4 r4 => ⟨P4, acc, e.trans e4, m4, r4⟩)
  · have ei : i = z.cps.size := by omega
    subst ei
    exact .inl ⟨Nat.le_refl _, hd D P' H' acc e m' r⟩
end FS

set_option Elab.async false
set_option maxRecDepth 100000
set_option linter.all false
set_option maxHeartbeats 4000000
namespace Fs
open PySem L2 Evl FS
local macro_rules | `(tactic| walk_at "tlen") => `(tactic| first | assumption | omega | decide | (simp; omega))
local macro_rules | `(tactic| walk_at "kb") => `(tactic| first | exact FS.kb_bool_bool | exact FS.kb_bool_int | exact FS.kb_bool_str | exact FS.kb_bool_list | exact FS.kb_bool_tuple | exact FS.kb_bool_dict | exact FS.kb_int_bool | exact FS.kb_int_int | exact FS.kb_int_str | exact FS.kb_int_list | exact FS.kb_int_tuple | exact FS.kb_int_dict | exact FS.kb_str_bool | exact FS.kb_str_int | exact FS.kb_str_str | exact FS.kb_str_list | exact FS.kb_str_tuple | exact FS.kb_str_dict | exact FS.kb_NoneType_bool | exact FS.kb_NoneType_int | exact FS.kb_NoneType_str | exact FS.kb_NoneType_list | exact FS.kb_NoneType_tuple | exact FS.kb_NoneType_dict | exact FS.kb_list_bool | exact FS.kb_list_int | exact FS.kb_list_str | exact FS.kb_list_list | exact FS.kb_list_tuple | exact FS.kb_list_dict | exact FS.kb_tuple_bool | exact FS.kb_tuple_int | exact FS.kb_tuple_str | exact FS.kb_tuple_list | exact FS.kb_tuple_tuple | exact FS.kb_tuple_dict | exact FS.kb_dict_bool | exact FS.kb_dict_int | exact FS.kb_dict_str | exact FS.kb_dict_list | exact FS.kb_dict_tuple | exact FS.kb_dict_dict)
local macro_rules | `(tactic| walk_at "exch") => `(tactic| repeat (first | assumption | exact Evl.Ex.refl _ | refine Evl.Ex.trans ?_ (by assumption)))
local macro_rules | `(tactic| walk_at "sel") => `(tactic| repeat (first | exact FS.Sel.z | apply FS.Sel.s))
local macro_rules | `(tactic| walk_at "updc") => `(tactic| repeat (first | exact FS.Upd.z | apply FS.Upd.s))
local macro_rules | `(tactic| walk_at "sets") => `(tactic| repeat (first | exact FS.SetS.z | apply FS.SetS.s))
local macro_rules | `(tactic| walk_at "setv") => `(tactic| repeat (first | exact FS.SetV.z | apply FS.SetV.s))
local macro_rules | `(tactic| walk_at "per") => `(tactic| repeat (first | exact FS.Per.nil | (refine FS.Per.cons (by walk_at "sel") ?_)))
local macro_rules | `(tactic| walk_at "sq") => `(tactic| first
  | assumption
  | exact FS.Mem.sqL (by assumption) (by assumption) (by walk_at "exch")
  | exact FS.Mem.sqT (by assumption) (by assumption) (by walk_at "exch")
  | exact FS.Mem.sqLp (by assumption) (by walk_at "sel")
  | exact FS.sqL_up (by assumption) (by walk_at "exch")
  | exact FS.sqT_up (by assumption) (by walk_at "exch"))
local macro_rules | `(tactic| walk_at "mul") => `(tactic| first
  | exact Or.inr ⟨by decide, by decide⟩ | exact Or.inl ⟨by decide, by decide⟩
  | exact Or.inr ⟨by omega, by omega⟩ | exact Or.inl ⟨by omega, by omega⟩)
local macro_rules | `(tactic| walk_at "side") => `(tactic| first | (show L2.CMul _ _; walk_at "mul") | (show (0 : Int) < _; first | decide | omega) | (show L2.CDivW _ _; first | exact ⟨by decide, by decide⟩ | apply_assumption | fail "divw"))
local macro_rules | `(tactic| walk_at "len") => `(tactic| first | decide | (simp; done) | (simp; omega) | (simp only [List.length_cons, List.length_nil]; decide) | omega)
local macro_rules | `(tactic| walk_at "go1") => `(tactic| first
  | with_reducible refine FS.i_seq ?_
  | with_reducible refine FS.i_set ?_
  | with_reducible refine FS.i_asg ?_
  | ((with_reducible show L2.gName _ _ _ _ _); refine FS.i_name (by walk_at "sets") ?_)
  | with_reducible refine FS.i_var rfl ?_
  | with_reducible refine FS.i_c ?_
  | with_reducible refine FS.i_op ?_
  | with_reducible refine FS.i_un ?_
  | with_reducible refine FS.i_aCons ?_
  | with_reducible refine FS.i_aNil ?_
  | with_reducible refine FS.i_cb ?_
  | with_reducible refine FS.i_call ?_
  | with_reducible refine FS.i_tup ?_
  | with_reducible refine FS.i_lst ?_
  | with_reducible refine FS.i_next ?_
  | with_reducible refine FS.i_ret ?_
  | with_reducible refine FS.i_drop ?_
  | with_reducible refine FS.i_ifS ?_
  | with_reducible refine FS.i_if ?_
  | with_reducible refine FS.i_test ?_
  | with_reducible refine FS.i_tB ?_
  | with_reducible refine FS.i_and ?_
  | with_reducible refine FS.i_or ?_
  | with_reducible refine FS.i_not ?_
  | with_reducible refine FS.i_andV ?_
  | with_reducible refine FS.i_orV ?_
  | with_reducible refine FS.i_notV ?_
  | with_reducible refine FS.i_chain ?_
  | with_reducible refine FS.i_slice ?_
  | with_reducible refine FS.i_noPart ?_
  | with_reducible refine FS.i_part ?_
  | with_reducible refine FS.i_for ?_
  | with_reducible refine FS.i_lc ?_
  | with_reducible refine FS.i_yes ?_
  | with_reducible refine FS.i_iList ?_
  | with_reducible refine FS.i_iTup ?_
  | with_reducible refine FS.i_iEnum ?_
  | with_reducible refine FS.i_iRng1 ?_
  | with_reducible refine FS.i_gSub ?_
  | with_reducible refine FS.i_gCons ?_
  | with_reducible refine FS.i_gNil ?_
  | with_reducible refine FS.i_rI0 ?_
  | with_reducible refine FS.i_rU ?_
  | with_reducible refine FS.i_eqI ?_
  | with_reducible refine FS.i_neI ?_
  | with_reducible refine FS.i_eqB ?_
  | with_reducible refine FS.i_neB ?_
  | with_reducible refine FS.i_eqS ?_
  | with_reducible refine FS.i_neS ?_
  | with_reducible refine FS.i_isN ?_
  | with_reducible refine FS.i_blI ?_
  | with_reducible refine L2.iteT ?_
  | with_reducible refine L2.iteF ?_
  | with_reducible refine FS.i_iteNT ?_
  | with_reducible refine FS.i_iteNF ?_
  | ((with_reducible show L2.tChain _ _ _ _ _ _ _ _); refine FS.i_chain ?_)
  | refine FS.i_p12 ?_ | refine FS.i_p18 ?_ | refine FS.i_p9 ?_ | refine FS.i_p6 ?_ | refine FS.i_p11 ?_
  | ((with_reducible show L2.rI _ _ _ _ _ _); refine FS.i_rI (by walk_at "side") ?_)
  | ((with_reducible show L2.rCat _ _ _ _); refine FS.i_cat (by assumption) (by walk_at "sel") (by walk_at "sel") ?hl ?_; (case hl => walk_at "len"))
  | ((with_reducible show L2.rIsi _ _ _ _); refine FS.i_isi (L2.ClsV.ty _) (by first | exact FS.tyx_l (by walk_at "sq") | exact FS.tyx_t (by walk_at "sq") | exact L2.TyX.base (by constructor)) (L2.kit_ty (by walk_at "kb")) ?_)
  | ((with_reducible show FS.NewT _ _ _); refine FS.i_NT (by walk_at "len") ?_; refine FS.i_newT (K := ‹PySem.W.Frag›) (by assumption) ?_; intro p P' H' m e h)
  | ((with_reducible show FS.NewL _ _ _); refine FS.i_NL (by walk_at "len") ?_)
  | ((with_reducible show L2.rIxL _ _ _ _ _); refine FS.i_ixL (by walk_at "sq") rfl ?_)
  | ((with_reducible show L2.rIxT _ _ _ _ _); refine FS.i_ixT (by walk_at "sq") rfl ?_)
  | ((with_reducible show L2.gTup _ _ _ _ _ _ _); refine FS.i_gTup (by walk_at "sq") rfl ?_)
  | ((with_reducible show L2.rSlL _ _ _ _ _ _); refine FS.i_slL (by walk_at "sq") ?_)
  | ((with_reducible show L2.rSetL _ _ _ _ _); refine FS.i_setL (by assumption) (by walk_at "sel") (by walk_at "setv") (by walk_at "updc") ?_; intro H' m)
  | with_reducible refine FS.i_rAbs ?_
  | with_reducible refine FS.i_rMx2 ?_
  | with_reducible refine FS.i_rMn2 ?_
  | with_reducible refine FS.i_isBl ?_
  | with_reducible refine FS.i_notBl ?_
  | with_reducible refine FS.i_notN ?_
  | with_reducible refine FS.i_bm ?_
  | with_reducible refine FS.i_bm0 ?_
  | with_reducible refine FS.i_fld ?_
  | ((with_reducible show FS.rLen _ _ _ _); first | refine FS.i_lenL (by walk_at "sq") ?_ | refine FS.i_lenT (by walk_at "sq") ?_)
  | ((with_reducible show FS.rListOf _ _ _ _); first | refine FS.i_listL (by walk_at "sq") ?_ | refine FS.i_listT (by walk_at "sq") ?_)
  | ((with_reducible show FS.rTupOf _ _ _ _); refine FS.i_tupL (by walk_at "sq") ?_)
  | ((with_reducible show L2.tyV _ _ _ _ ∧ _); refine FS.i_tyL (by walk_at "sq") ?_)
  | ((with_reducible show L2.rAppend _ _ _ _); refine FS.i_app (by assumption) (by walk_at "updc") (by walk_at "len") ?_; intro H' m)
  | with_reducible refine FS.i_someI ?_
  | with_reducible refine FS.i_m1 ?_
  | with_reducible refine FS.i_strI ?_
  | with_reducible refine FS.i_inSg ?_
  | with_reducible refine FS.i_starts ?_
  | with_reducible refine FS.i_iStr ?_
  | ((with_reducible show FS.rAddS _ _ _ _); refine FS.i_addS (by walk_at "tlen") ?_)
  | ((with_reducible show FS.rLenStr _ _ _); refine FS.i_lenS (FS.sz_up (by walk_at "tlen")) ?_)
  | ((with_reducible show L2.rSlS _ _ _ _ _); refine FS.i_slS (by walk_at "tlen") ?_))
local macro_rules | `(tactic| walk_at "go") => `(tactic| repeat walk_at "go1")
local macro_rules | `(tactic| walk_at "ite") => `(tactic| first | refine FS.i_ndec ?_ ?_ | refine FS.i_dec ?_ ?_ | refine FS.i_ite ?_ ?_)
local macro_rules | `(tactic| walk_at "newL") => `(tactic| first
  | (refine FS.i_newL (K := ‹PySem.W.Frag›) (by assumption) ?_; intro p P' H' m e h)
  | (refine FS.i_newP (by assumption) ?_; intro p P' H' m e h))
local macro_rules | `(tactic| walk_at "newM") => `(tactic| (refine FS.i_newM (by assumption) ?_; intro p H' m))
local macro_rules | `(tactic| walk_at "neg1") => `(tactic| skip)

def top (i : Nat) : Stmt := PySem.Challenge.pw_farshelf_k01_names_contents_paths.main.body.getD i (.Pass ⟨0, 0, 0, 0⟩)
abbrev s_is_name : Stmt := top 5
abbrev N_is_name : List Str := ["text", "sign"]
theorem sc_is_name : FnScope ["text", "sign"] ["text"] (defScope s_is_name) := ⟨rfl, rfl, rfl, by decide +kernel, rfl, by decide +kernel, by decide +kernel⟩
abbrev s_is_content : Stmt := top 6
abbrev N_is_content : List Str := ["text", "sign"]
theorem sc_is_content : FnScope ["text", "sign"] ["text"] (defScope s_is_content) := ⟨rfl, rfl, rfl, by decide +kernel, rfl, by decide +kernel, by decide +kernel⟩
abbrev s_names_of : Stmt := top 7
abbrev N_names_of : List Str := ["text", "names", "name"]
theorem sc_names_of : FnScope ["text", "names", "name"] ["text"] (defScope s_names_of) := ⟨rfl, rfl, rfl, by decide +kernel, rfl, by decide +kernel, by decide +kernel⟩
abbrev s_is_path : Stmt := top 8
abbrev N_is_path : List Str := ["text"]
theorem sc_is_path : FnScope ["text"] ["text"] (defScope s_is_path) := ⟨rfl, rfl, rfl, by decide +kernel, rfl, by decide +kernel, by decide +kernel⟩
abbrev s_law_cell_at : Stmt := top 10
abbrev N_law_cell_at : List Str := ["_law_script", "_law_k"]
theorem sc_law_cell_at : FnScope ["_law_script", "_law_k"] ["_law_script", "_law_k"] (defScope s_law_cell_at) := ⟨rfl, rfl, rfl, by decide +kernel, rfl, by decide +kernel, by decide +kernel⟩
abbrev s_law_mix : Stmt := top 11
abbrev N_law_mix : List Str := ["_law_cell", "_law_k", "_law_m"]
theorem sc_law_mix : FnScope ["_law_cell", "_law_k", "_law_m"] ["_law_cell", "_law_k"] (defScope s_law_mix) := ⟨rfl, rfl, rfl, by decide +kernel, rfl, by decide +kernel, by decide +kernel⟩
abbrev s_law_left : Stmt := top 12
abbrev N_law_left : List Str := ["_law_script", "_law_k", "_law_cell", "_law_number", "_law_j"]
theorem sc_law_left : FnScope ["_law_script", "_law_k", "_law_cell", "_law_number", "_law_j"] ["_law_script", "_law_k"] (defScope s_law_left) := ⟨rfl, rfl, rfl, by decide +kernel, rfl, by decide +kernel, by decide +kernel⟩
abbrev s_law_pick : Stmt := top 13
abbrev N_law_pick : List Str := ["_law_left_here", "_law_many", "_law_value"]
theorem sc_law_pick : FnScope ["_law_left_here", "_law_many", "_law_value"] ["_law_left_here", "_law_many"] (defScope s_law_pick) := ⟨rfl, rfl, rfl, by decide +kernel, rfl, by decide +kernel, by decide +kernel⟩
abbrev s_law_named : Stmt := top 14
abbrev N_law_named : List Str := ["_law_text_here", "_law_signs", "_law_sign"]
theorem sc_law_named : FnScope ["_law_text_here", "_law_signs", "_law_sign"] ["_law_text_here"] (defScope s_law_named) := ⟨rfl, rfl, rfl, by decide +kernel, rfl, by decide +kernel, by decide +kernel⟩
abbrev s_law_filled : Stmt := top 15
abbrev N_law_filled : List Str := ["_law_text_here", "_law_signs", "_law_sign"]
theorem sc_law_filled : FnScope ["_law_text_here", "_law_signs", "_law_sign"] ["_law_text_here"] (defScope s_law_filled) := ⟨rfl, rfl, rfl, by decide +kernel, rfl, by decide +kernel, by decide +kernel⟩
abbrev s_law_pathed : Stmt := top 16
abbrev N_law_pathed : List Str := ["_law_text_here", "_law_word"]
theorem sc_law_pathed : FnScope ["_law_text_here", "_law_word"] ["_law_text_here"] (defScope s_law_pathed) := ⟨rfl, rfl, rfl, by decide +kernel, rfl, by decide +kernel, by decide +kernel⟩
abbrev s_law_text : Stmt := top 17
abbrev N_law_text : List Str := ["_law_left_here", "_law_many", "_law_signs", "_law_k"]
theorem sc_law_text : FnScope ["_law_left_here", "_law_many", "_law_signs", "_law_k"] ["_law_left_here", "_law_many"] (defScope s_law_text) := ⟨rfl, rfl, rfl, by decide +kernel, rfl, by decide +kernel, by decide +kernel⟩
abbrev s_law_odd : Stmt := top 18
abbrev N_law_odd : List Str := ["_law_left_here", "_law_text_here", "_law_signs", "_law_at"]
theorem sc_law_odd : FnScope ["_law_left_here", "_law_text_here", "_law_signs", "_law_at"] ["_law_left_here", "_law_text_here"] (defScope s_law_odd) := ⟨rfl, rfl, rfl, by decide +kernel, rfl, by decide +kernel, by decide +kernel⟩
abbrev s_law_long : Stmt := top 19
abbrev N_law_long : List Str := ["_law_left_here", "_law_many"]
theorem sc_law_long : FnScope ["_law_left_here", "_law_many"] ["_law_left_here"] (defScope s_law_long) := ⟨rfl, rfl, rfl, by decide +kernel, rfl, by decide +kernel, by decide +kernel⟩
abbrev s_law_path : Stmt := top 20
abbrev N_law_path : List Str := ["_law_left_here", "_law_names", "_law_at", "_law_text_here", "_law_k"]
theorem sc_law_path : FnScope ["_law_left_here", "_law_names", "_law_at", "_law_text_here", "_law_k"] ["_law_left_here"] (defScope s_law_path) := ⟨rfl, rfl, rfl, by decide +kernel, rfl, by decide +kernel, by decide +kernel⟩
abbrev s_law_told : Stmt := top 21
abbrev N_law_told : List Str := ["_law_text_here", "_law_found", "_law_one"]
theorem sc_law_told : FnScope ["_law_text_here", "_law_found", "_law_one"] ["_law_text_here"] (defScope s_law_told) := ⟨rfl, rfl, rfl, by decide +kernel, rfl, by decide +kernel, by decide +kernel⟩
abbrev s_law : Stmt := top 22
abbrev N_law : List Str := ["_law_script", "_law_text_here", "_law_k", "_law_left_here"]
theorem sc_law : FnScope ["_law_script", "_law_text_here", "_law_k", "_law_left_here"] ["_law_script"] (defScope s_law) := ⟨rfl, rfl, rfl, by decide +kernel, rfl, by decide +kernel, by decide +kernel⟩
structure Txt (K : PySem.W.Frag) (mg : Str → Option Value) (a : Nat → Addr) (c : Nat → Addr) (fd : Nat → FuncData) : Prop where
  F0 : Fun K "is_name" "is_name" s_is_name (a 0) (fd 0)
  b0 : Binds K (fd 0) ["text"] []
  m0 : mg "is_name" = some (.ref (a 0))
  F1 : Fun K "is_content" "is_content" s_is_content (a 1) (fd 1)
  b1 : Binds K (fd 1) ["text"] []
  m1 : mg "is_content" = some (.ref (a 1))
  F2 : Fun K "names_of" "names_of" s_names_of (a 2) (fd 2)
  b2 : Binds K (fd 2) ["text"] []
  m2 : mg "names_of" = some (.ref (a 2))
  F3 : Fun K "is_path" "is_path" s_is_path (a 3) (fd 3)
  b3 : Binds K (fd 3) ["text"] []
  m3 : mg "is_path" = some (.ref (a 3))
  F4 : Fun K "_law_cell_at" "_law_cell_at" s_law_cell_at (a 4) (fd 4)
  b4 : Binds K (fd 4) ["_law_script", "_law_k"] []
  m4 : mg "_law_cell_at" = some (.ref (a 4))
  F5 : Fun K "_law_mix" "_law_mix" s_law_mix (a 5) (fd 5)
  b5 : Binds K (fd 5) ["_law_cell", "_law_k"] []
  m5 : mg "_law_mix" = some (.ref (a 5))
  F6 : Fun K "_law_left" "_law_left" s_law_left (a 6) (fd 6)
  b6 : Binds K (fd 6) ["_law_script", "_law_k"] []
  m6 : mg "_law_left" = some (.ref (a 6))
  F7 : Fun K "_law_pick" "_law_pick" s_law_pick (a 7) (fd 7)
  b7 : Binds K (fd 7) ["_law_left_here", "_law_many"] []
  m7 : mg "_law_pick" = some (.ref (a 7))
  F8 : Fun K "_law_named" "_law_named" s_law_named (a 8) (fd 8)
  b8 : Binds K (fd 8) ["_law_text_here"] []
  m8 : mg "_law_named" = some (.ref (a 8))
  F9 : Fun K "_law_filled" "_law_filled" s_law_filled (a 9) (fd 9)
  b9 : Binds K (fd 9) ["_law_text_here"] []
  m9 : mg "_law_filled" = some (.ref (a 9))
  F10 : Fun K "_law_pathed" "_law_pathed" s_law_pathed (a 10) (fd 10)
  b10 : Binds K (fd 10) ["_law_text_here"] []
  m10 : mg "_law_pathed" = some (.ref (a 10))
  F11 : Fun K "_law_text" "_law_text" s_law_text (a 11) (fd 11)
  b11 : Binds K (fd 11) ["_law_left_here", "_law_many"] []
  m11 : mg "_law_text" = some (.ref (a 11))
  F12 : Fun K "_law_odd" "_law_odd" s_law_odd (a 12) (fd 12)
  b12 : Binds K (fd 12) ["_law_left_here", "_law_text_here"] []
  m12 : mg "_law_odd" = some (.ref (a 12))
  F13 : Fun K "_law_long" "_law_long" s_law_long (a 13) (fd 13)
  b13 : Binds K (fd 13) ["_law_left_here"] []
  m13 : mg "_law_long" = some (.ref (a 13))
  F14 : Fun K "_law_path" "_law_path" s_law_path (a 14) (fd 14)
  b14 : Binds K (fd 14) ["_law_left_here"] []
  m14 : mg "_law_path" = some (.ref (a 14))
  F15 : Fun K "_law_told" "_law_told" s_law_told (a 15) (fd 15)
  b15 : Binds K (fd 15) ["_law_text_here"] []
  m15 : mg "_law_told" = some (.ref (a 15))
  F16 : Fun K "law" "law" s_law (a 16) (fd 16)
  b16 : Binds K (fd 16) ["_law_script"] []
  m16 : mg "law" = some (.ref (a 16))
  g_all : mg "all" = none
  g_len : mg "len" = none
  g_range : mg "range" = none
  g_abs : mg "abs" = none
  g_isinstance : mg "isinstance" = none
  g_bool : mg "bool" = none
  g_max : mg "max" = none
  g_min : mg "min" = none
  c_SIGNS : ∃ t, mg "SIGNS" = some (.str "abcdefghijklmnopqrstuvwxyz0123456789" t)
  c_MOST_SIGNS : ∃ t, mg "MOST_SIGNS" = some (.int 8 t)
  c_MOST_CONTENT : ∃ t, mg "MOST_CONTENT" = some (.int 200 t)
section
variable {P : Program} {w : World} {K : PySem.W.Frag} {mg : Str → Option Value} {base : Heap} {a c : Nat → Addr} {fd : Nat → FuncData}
/-- the numbers that draws are taken of: one list of one number -/
def Draw1 (o : HO) : Prop := ∃ x : Int, o = .lst [.int x]
abbrev draw (st : Addr) : Ch := ptx st Draw1
def spCell (K : PySem.W.Frag) : Sp := fun vs H Q _ => ∃ (P : Hp) (cs : List Ch) (a : Addr) (ns : List Int) (k : Int), vs = [.ref a, .int k] ∧ SqL K P a (ns.map V.int) ∧ 0 ≤ k ∧ Mem P cs H ∧ ∀ z, Q (.int z) H
theorem ok_law_cell_at (T : Txt K mg a c fd) : FnOk P w K mg base CX0 1 (a 4) (fd 4) ["_law_script", "_law_k"] (spCell K) := by
  refine T.F4.ok sc_law_cell_at (fun vs H Q E h => ?_) (fun cdv A outer s H vs Q E hr h => ?_)
  · obtain ⟨_, _, _, _, _, rfl, _⟩ := h; rfl
  · obtain ⟨P0, cs, ad, ns, k, rfl, hS, k0, m, q⟩ := h
    refine ⟨_, (pss_cons (ps_if (pt_cmpR op_lt (pv 1) (pe_callB (lenQ (K := K) rfl) (by rfl) T.g_len (by decide +kernel) (pa_cons (pv 0) pa_nil)) (nomark _)) (pss_one (ps_ret (pe_ix (ixL (K := K) rfl) (pv 0) (pv 1) (fun _ _ => rfl)))) pss_nil)
      (pss_one (ps_ret pe_int))), ?_⟩
    walk_at "go"
    walk_at "ite" <;> intro hc
    · walk_at "go"
      have hk : k.toNat < ns.length := by
        rw [List.length_map] at hc
        omega
      refine i_ixL (m.sqL hS (Ex.refl _)) (v := .int ns[k.toNat]) ?_ (q _)
      unfold atI ixN
      rw [if_pos k0, if_pos (by rw [List.length_map]; omega)]
      simp [hk]
    · walk_at "go"
      exact q 0
def spMix : Sp := fun vs H Q _ => ∃ (c k : Int), vs = [.int c, .int k] ∧ 0 ≤ k ∧ k ≤ 1000000 ∧ ∀ r, 0 ≤ r → Q (.int r) H
theorem ok_law_mix (T : Txt K mg a c fd) : FnOk P w K mg base CX0 1 (a 5) (fd 5) ["_law_cell", "_law_k"] (spMix) := by
  refine T.F5.ok sc_law_mix (fun vs H Q E h => ?_) (fun cdv A outer s H vs Q E hr h => ?_)
  · obtain ⟨_, _, rfl, _⟩ := h; rfl
  · obtain ⟨cl, k, rfl, k0, k1, q⟩ := h
    have hm0 : 0 ≤ ((cl % 2147483629 + k * k * 7919 + 11) * 48271 % 2147483647) := Int.emod_nonneg _ (by decide)
    have hm1 : ((cl % 2147483629 + k * k * 7919 + 11) * 48271 % 2147483647) < 2147483647 := Int.emod_lt_of_pos _ (by decide)
    refine ⟨_, (pss_cons (ps_set (i := 2) sc_law_mix.nd rfl (Or.inl rfl) (pe_op op_mod (pe_op op_mul (pe_op op_add (pe_op op_add (pe_op op_mod (pv 0) pe_int) (pe_op op_mul (pe_op op_mul (pv 1) (pv 1)) pe_int)) pe_int) pe_int) pe_int))
      (pss_one (ps_ret (pe_op op_mod (pe_op op_mul (pv 2) (pv 2)) pe_int)))), ?_⟩
    walk_at "go"
    exact q _ (Int.emod_nonneg _ (by decide))
def spPick1 : Sp := fun vs H Q _ => ∃ (P : Hp) (F : List Ch) (st : Addr) (many : Int), vs = [.ref st, .int many] ∧ 0 < many ∧ many < 2 ^ 100 ∧ Mem P (draw st :: F) H ∧ ∀ r H', 0 ≤ r → r < many → Mem P (draw st :: F) H' → Q (.int r) H'
theorem ok_law_pick (T : Txt K mg a c fd) : FnOk P w K mg base CX0 1 (a 7) (fd 7) ["_law_left_here", "_law_many"] (spPick1) := by
  refine T.F7.ok sc_law_pick (fun vs H Q E h => ?_) (fun cdv A outer s H vs Q E hr h => ?_)
  · obtain ⟨_, _, _, _, rfl, _⟩ := h; rfl
  · obtain ⟨P0, F, st, many, rfl, h0, h1, m, q⟩ := h
    obtain ⟨o, ⟨x, rfl⟩, m⟩ := m.rdx
    have dw := fun i => (wide_div (i := i) (j := many) (b := 100) h0 (by omega) (by decide) (by decide))
    refine ⟨_, (pss_cons (ps_set (i := 2) sc_law_pick.nd rfl (Or.inl rfl) (pe_op op_mod (pe_ix (ixL (K := K) rfl) (pv 0) pe_int (fun _ _ => rfl)) (pv 1)))
      (pss_cons (ps_asg (pe_op op_fdivW (pe_ix (ixL (K := K) rfl) (pv 0) pe_int (fun _ _ => rfl)) (pv 1)) (pg_sub (pv 0) pe_int set_list))
      (pss_one (ps_ret (pv 2))))), ?_⟩
    walk_at "go"
    exact q _ _ (Int.emod_nonneg _ (by omega)) (Int.emod_lt_of_pos _ h0) (Mem.tox (by assumption) ⟨_, rfl⟩)

def spLeft (K : PySem.W.Frag) : Sp := fun vs H Q _ => ∃ (P : Hp) (cs : List Ch) (a : Addr) (ns : List Int) (k : Int), vs = [.ref a, .int k] ∧ SqL K P a (ns.map V.int) ∧ 0 ≤ k ∧ k ≤ 1000 ∧ Mem P cs H ∧ ∀ st H', Mem P (draw st :: cs) H' → Q (.ref st) H'
theorem ok_law_left (T : Txt K mg a c fd) : FnOk P w K mg base CX0 2 (a 6) (fd 6) ["_law_script", "_law_k"] (spLeft K) := by
  refine T.F6.ok sc_law_left (fun vs H Q E h => ?_) (fun cdv A outer s H vs Q E hr h => ?_)
  · obtain ⟨_, _, _, _, _, rfl, _⟩ := h; rfl
  · obtain ⟨P0, cs, ad, ns, k, rfl, hS, k0, k1, m, q⟩ := h
    have G_law_cell_at := ok_law_cell_at (P := P) (w := w) (base := base) T
    have G_law_mix := ok_law_mix (P := P) (w := w) (base := base) T
    refine ⟨_, (pss_cons (ps_set (i := 2) sc_law_left.nd rfl (Or.inl rfl) (pe_call G_law_cell_at hr rfl T.m4 T.F4.kp T.b4 .nil pass0 (pa_cons (pv 0) (pa_cons (pv 1) pa_nil))))
      (pss_cons (ps_if (pt_cmpR op_ge (pe_callB absI (by rfl) T.g_abs (by decide +kernel) (pa_cons (pv 2) pa_nil)) (pe_op op_pow pe_int pe_int) (nomark _)) (pss_one (ps_ret (pe_lst (pa_cons (pe_callB absI (by rfl) T.g_abs (by decide +kernel) (pa_cons (pv 2) pa_nil)) pa_nil)))) pss_nil)
      (pss_cons (ps_set (i := 3) sc_law_left.nd rfl (Or.inl rfl) pe_int)
      (pss_cons (ps_for PassesOwn.never rfl (pi_range1 rfl T.g_range (pa_cons pe_int pa_nil)) (pg_name (i := 4) sc_law_left.nd rfl (Or.inl rfl))
      (pss_one (ps_set (i := 3) sc_law_left.nd rfl (Or.inl rfl) (pe_op op_add (pe_op op_mul (pv 3) pe_int) (pe_call G_law_mix hr rfl T.m5 T.F5.kp T.b5 .nil pass0 (pa_cons (pe_call G_law_mix hr rfl T.m5 T.F5.kp T.b5 .nil pass0 (pa_cons (pv 2) (pa_cons (pe_op op_add (pv 1) (pe_op op_mul pe_int (pv 4))) pa_nil))) (pa_cons (pe_op op_add (pe_op op_mul pe_int (pv 4)) pe_int) pa_nil)))))))
      (pss_one (ps_ret (pe_lst (pa_cons (pv 3) pa_nil)))))))), ?_⟩
    walk_at "go"
    refine ⟨P0, cs, ad, ns, k, rfl, hS, k0, m, fun z => ?_⟩
    walk_at "go"
    walk_at "ite" <;> intro hc
    · walk_at "go"
      walk_at "newM"
      exact q _ _ (Mem.tox (by assumption) ⟨_, rfl⟩)
    · walk_at "go"
      refine l_range1 (by omega) (by omega) (fun i σ H' => Mem P0 cs H' ∧ ∃ (n : Int) (y : Option V), σ = [some (.ref ad), some (.int k), some (.int z), some (.int n), y]) ⟨m, _, _, rfl⟩ ?_ ?_
      · rintro i σ H' hi ⟨m', n, y, rfl⟩
        walk_at "go"
        refine ⟨_, _, rfl, by omega, by omega, fun r r0 => ?_⟩
        walk_at "go"
        refine ⟨_, _, rfl, by omega, by omega, fun r2 r20 => ?_⟩
        walk_at "go"
        exact ⟨m', _, _, rfl⟩
      · rintro σ H' ⟨m', n, y, rfl⟩
        walk_at "go"
        walk_at "newM"
        exact q _ _ (Mem.tox (by assumption) ⟨_, rfl⟩)
def allB (f : Nat → Bool) (z : Str) : Bool := (z.cps.toList.map f).all id
def SG : Str := "abcdefghijklmnopqrstuvwxyz0123456789"
def SGP : Str := "abcdefghijklmnopqrstuvwxyz0123456789."
theorem SqL_of_mem {P H : Hp} {cs : List Ch} {a : Addr} {xs : List V} (m : Mem P cs H) (h : SqL K P a xs) : SqL K H a xs := ex_l m.ex h
theorem atI_mem {xs : List V} {i : Int} (h0 : 0 ≤ i) (h1 : i < xs.length) : ∃ v, atI xs i = some v ∧ v ∈ xs := by
  unfold atI ixN
  rw [if_pos h0, if_pos h1]
  have h2 : i.toNat < xs.length := by omega
  exact ⟨xs[i.toNat], by simp [h2], List.getElem_mem h2⟩
theorem take_succ_cps {z : Str} {α : Type} (f : Nat → α) {i c : Nat} (h : z.cps[i]? = some c) : (z.cps.toList.take (i + 1)).map f = (z.cps.toList.take i).map f ++ [f c] := by
  have e : z.cps.toList[i]? = some c := by simpa using h
  rw [List.take_add_one, e]
  simp
theorem l_allS {P0 : Hp} {cs : List Ch} {z : Str} {i j : Nat} {te : TE} {vs : List Nat} {σ : L2.St} {H : Hp} {Q : VK} (f : Nat → Bool) (hv : σ[i]? = some (some (.str z))) (m : Mem P0 cs H) (hz : z.length ≤ 50000)
    (hw : ∀ c, wipe ((wipe σ vs).set j (some (.str ⟨#[c]⟩))) vs = wipe σ vs) (he : ∀ c H' (Q : VK), Q (.bl (f c)) H' → te ((wipe σ vs).set j (some (.str ⟨#[c]⟩))) H' Q)
    (q : ∀ P' H', Ex P0 P' → Mem P' cs H' → Q (.bl (allB f z)) H') : tCB (rAll K) (tCons (tLc (iStr (tVar i)) (gName j) tYes te vs) tNil) σ H Q := by
  have hsz : z.cps.size ≤ 50000 := hz
  refine i_cb (i_aCons (i_lc (i_iStr (i_var hv (l_lcS m (fun i acc P' => acc = ((z.cps.toList.take i).map f).map V.bl) rfl ?_ ?_)))))
  · rintro i c P' H' acc D hc e' m' rfl Kt Kf ht hf
    refine ⟨hw c, i_yes (iteT ?_)⟩
    refine he c H' _ (ht _ P' H' (Ex.refl _) m' (by simp; omega) ?_)
    rw [take_succ_cps f hc, List.map_append]
    rfl
  · rintro D P' H' acc e' m' rfl
    have e : z.cps.toList.take z.cps.size = z.cps.toList := by rw [← Array.length_toList, List.take_length]
    rw [e] at m'
    exact i_aNil (i_all (SqL.of m'.rd0) (q P' H' e' m'.drop))
def nameB (z : Str) : Bool := (decide ((1 : Int) ≤ z.length) && decide ((z.length : Int) ≤ 8)) && allB (fun c => decide (c ∈ SG.cps.toList)) z
def contB (z : Str) : Bool := decide ((z.length : Int) ≤ 200) && allB (fun c => decide (c ∈ SGP.cps.toList)) z
def spT (g : Str → Bool) : Sp := fun vs H Q _ => ∃ (P : Hp) (cs : List Ch) (z : Str), vs = [.str z] ∧ z.length ≤ 50000 ∧ Mem P cs H ∧ ∀ P' H', Ex P P' → Mem P' cs H' → Q (.bl (g z)) H'
theorem ok_is_name (T : Txt K mg a c fd) : FnOk P w K mg base CX0 1 (a 0) (fd 0) ["text"] (spT nameB) := by
  refine T.F0.ok sc_is_name (fun vs H Q E h => ?_) (fun cdv A outer s H vs Q E hr h => ?_)
  · obtain ⟨_, _, _, rfl, _⟩ := h; rfl
  · obtain ⟨P0, cs, z, rfl, hz, m, q⟩ := h
    refine ⟨_, (pss_one (ps_ret (pe_and (pe_chain op_le op_le pe_int (pe_callB lenS (by rfl) T.g_len (by decide +kernel) (pa_cons (pv 0) pa_nil)) (glI rfl T.c_MOST_SIGNS)) (pe_one (pe_callB (allK (K := K) rfl rfl) (by rfl) T.g_all (by decide +kernel) (pa_cons (pe_lc (own := [("sign", 1)]) (tt := tYes) (by rfl) sc_is_name.nd (pi_str (pv 0)) (blkOk_by (own := [("sign", 1)]) (N := N_is_name) (sc := defScope s_is_name) (by decide +kernel)) (fun _ _ _ _ _ => (pg_name (i := 1) sc_is_name.nd rfl (Or.inl rfl))) (fun _ _ _ _ _ => pts_nil) (fun _ _ _ _ _ => (pe_cmpR inSg (pv 1) (glS rfl T.c_SIGNS) rfl))) pa_nil)))))), ?_⟩
    have hz2 : z.length ≤ 100000 := by omega
    unfold nameB at q
    walk_at "go"
    walk_at "ite" <;> intro hc
    · walk_at "go"
      walk_at "ite" <;> intro hc2
      · rw [decide_eq_true hc, decide_eq_true hc2] at q
        exact l_allS (fun c => decide (c ∈ SG.cps.toList)) rfl m hz (fun _ => rfl) (fun c H' Q' h => by walk_at "go"; exact h) q
      · rw [decide_eq_true hc, decide_eq_false hc2] at q
        exact q _ _ (Ex.refl _) m
    · walk_at "go"
      rw [decide_eq_false hc] at q
      exact q _ _ (Ex.refl _) m
theorem ok_law_named (T : Txt K mg a c fd) : FnOk P w K mg base CX0 1 (a 8) (fd 8) ["_law_text_here"] (spT nameB) := by
  refine T.F8.ok sc_law_named (fun vs H Q E h => ?_) (fun cdv A outer s H vs Q E hr h => ?_)
  · obtain ⟨_, _, _, rfl, _⟩ := h; rfl
  · obtain ⟨P0, cs, z, rfl, hz, m, q⟩ := h
    refine ⟨_, (pss_cons (ps_set (i := 1) sc_law_named.nd rfl (Or.inr rfl) pe_str)
      (pss_one (ps_ret (pe_and (pe_chain op_le op_le pe_int (pe_callB lenS (by rfl) T.g_len (by decide +kernel) (pa_cons (pv 0) pa_nil)) pe_int) (pe_one (pe_callB (allK (K := K) rfl rfl) (by rfl) T.g_all (by decide +kernel) (pa_cons (pe_lc (own := [("_law_sign", 2)]) (tt := tYes) (by rfl) sc_law_named.nd (pi_str (pv 0)) (blkOk_by (own := [("_law_sign", 2)]) (N := N_law_named) (sc := defScope s_law_named) (by decide +kernel)) (fun _ _ _ _ _ => (pg_name (i := 2) sc_law_named.nd rfl (Or.inl rfl))) (fun _ _ _ _ _ => pts_nil) (fun _ _ _ _ _ => (pe_cmpR inSg (pv 2) (pv 1) rfl))) pa_nil))))))), ?_⟩
    have hz2 : z.length ≤ 100000 := by omega
    unfold nameB at q
    walk_at "go"
    walk_at "ite" <;> intro hc
    · walk_at "go"
      walk_at "ite" <;> intro hc2
      · rw [decide_eq_true hc, decide_eq_true hc2] at q
        exact l_allS (fun c => decide (c ∈ SG.cps.toList)) rfl m hz (fun _ => rfl) (fun c H' Q' h => by walk_at "go"; exact h) q
      · rw [decide_eq_true hc, decide_eq_false hc2] at q
        exact q _ _ (Ex.refl _) m
    · walk_at "go"
      rw [decide_eq_false hc] at q
      exact q _ _ (Ex.refl _) m
theorem sgp (c : Nat) : decide (c ∈ SGP.cps.toList) = (decide (c ∈ SG.cps.toList) || decide ((⟨#[c]⟩ : Str) = ".")) := by
  have e : SGP.cps.toList = SG.cps.toList ++ [46] := by decide +kernel
  have e2 : ((⟨#[c]⟩ : Str) = ".") ↔ c = 46 := by
    have : ("." : Str) = ⟨#[46]⟩ := by decide +kernel
    rw [this]
    constructor
    · intro h; injection h with h; simpa using h
    · rintro rfl; rfl
  rw [e, Bool.eq_iff_iff]
  simp [e2]
theorem ok_is_content (T : Txt K mg a c fd) : FnOk P w K mg base CX0 1 (a 1) (fd 1) ["text"] (spT contB) := by
  refine T.F1.ok sc_is_content (fun vs H Q E h => ?_) (fun cdv A outer s H vs Q E hr h => ?_)
  · obtain ⟨_, _, _, rfl, _⟩ := h; rfl
  · obtain ⟨P0, cs, z, rfl, hz, m, q⟩ := h
    refine ⟨_, (pss_one (ps_ret (pe_and (pe_cmpR op_le (pe_callB lenS (by rfl) T.g_len (by decide +kernel) (pa_cons (pv 0) pa_nil)) (glI rfl T.c_MOST_CONTENT) (nomark _)) (pe_one (pe_callB (allK (K := K) rfl rfl) (by rfl) T.g_all (by decide +kernel) (pa_cons (pe_lc (own := [("sign", 1)]) (tt := tYes) (by rfl) sc_is_content.nd (pi_str (pv 0)) (blkOk_by (own := [("sign", 1)]) (N := N_is_content) (sc := defScope s_is_content) (by decide +kernel)) (fun _ _ _ _ _ => (pg_name (i := 1) sc_is_content.nd rfl (Or.inl rfl))) (fun _ _ _ _ _ => pts_nil) (fun _ _ _ _ _ => (pe_or (pe_cmpR inSg (pv 1) (glS rfl T.c_SIGNS) rfl) (pe_one (pe_cmpR op_eq (pv 1) pe_str (nomark _)))))) pa_nil)))))), ?_⟩
    have hz2 : z.length ≤ 100000 := by omega
    unfold contB at q
    walk_at "go"
    walk_at "ite" <;> intro hc
    · rw [decide_eq_true hc] at q
      refine l_allS (fun c => decide (c ∈ SGP.cps.toList)) rfl m hz (fun _ => rfl) (fun c H' Q' h => ?_) q
      rw [sgp c] at h
      walk_at "go"
      walk_at "ite" <;> intro hc2
      · rw [show decide (c ∈ SG.cps.toList) = true from decide_eq_true hc2] at h
        exact h
      · rw [show decide (c ∈ SG.cps.toList) = false from decide_eq_false hc2] at h
        walk_at "go"
        exact h
    · rw [decide_eq_false hc] at q
      exact q _ _ (Ex.refl _) m
theorem ok_law_filled (T : Txt K mg a c fd) : FnOk P w K mg base CX0 1 (a 9) (fd 9) ["_law_text_here"] (spT contB) := by
  refine T.F9.ok sc_law_filled (fun vs H Q E h => ?_) (fun cdv A outer s H vs Q E hr h => ?_)
  · obtain ⟨_, _, _, rfl, _⟩ := h; rfl
  · obtain ⟨P0, cs, z, rfl, hz, m, q⟩ := h
    refine ⟨_, (pss_cons (ps_set (i := 1) sc_law_filled.nd rfl (Or.inr rfl) pe_str)
      (pss_one (ps_ret (pe_and (pe_cmpR op_le (pe_callB lenS (by rfl) T.g_len (by decide +kernel) (pa_cons (pv 0) pa_nil)) pe_int (nomark _)) (pe_one (pe_callB (allK (K := K) rfl rfl) (by rfl) T.g_all (by decide +kernel) (pa_cons (pe_lc (own := [("_law_sign", 2)]) (tt := tYes) (by rfl) sc_law_filled.nd (pi_str (pv 0)) (blkOk_by (own := [("_law_sign", 2)]) (N := N_law_filled) (sc := defScope s_law_filled) (by decide +kernel)) (fun _ _ _ _ _ => (pg_name (i := 2) sc_law_filled.nd rfl (Or.inl rfl))) (fun _ _ _ _ _ => pts_nil) (fun _ _ _ _ _ => (pe_cmpR inSg (pv 2) (pv 1) rfl))) pa_nil))))))), ?_⟩
    have hz2 : z.length ≤ 100000 := by omega
    unfold contB at q
    walk_at "go"
    walk_at "ite" <;> intro hc
    · rw [decide_eq_true hc] at q
      exact l_allS (fun c => decide (c ∈ SGP.cps.toList)) rfl m hz (fun _ => rfl) (fun c H' Q' h => by walk_at "go"; exact h) q
    · rw [decide_eq_false hc] at q
      exact q _ _ (Ex.refl _) m
/-- the words behind the first stroke -/
def wordsOf (z : Str) : List Str := (Txt.split z "/").drop 1
def pathB (z : Str) : Bool := decide (z = "/") || (Txt.startswith z "/" && (wordsOf z).all nameB)
theorem starts_cut (z : Str) : decide (cutS z none (some 1) = "/") = Txt.startswith z "/" := by
  have e1 : ("/" : Str) = ⟨#[47]⟩ := by decide +kernel
  rw [e1]
  obtain ⟨⟨l⟩⟩ := z
  unfold cutS Txt.startswith Builtin.Str.subAt
  rw [show HT.sIx (Str.length ⟨⟨l⟩⟩) (Str.length ⟨⟨l⟩⟩) (some 1) = min 1 l.length from HT.sIx_nat _ _ 1, HT.sIx_none]
  cases l with
  | nil => decide +kernel
  | cons c r =>
    have e2 : min 1 (c :: r).length - 0 = 1 := by rw [List.length_cons]; omega
    rw [e2]
    show decide ((⟨#[c]⟩ : Str) = ⟨#[47]⟩) = _
    have e3 : (Array.extract ⟨c :: r⟩ 0 (0 + Str.length ⟨#[47]⟩) : Array Nat) = #[c] := by
      show (Array.extract ⟨c :: r⟩ 0 (0 + 1) : Array Nat) = #[c]
      simp
    show _ = (decide (0 + 1 ≤ (c :: r).length) && (Array.extract ⟨c :: r⟩ 0 (0 + Str.length ⟨#[47]⟩) == #[47]))
    rw [e3, decide_eq_true (by rw [List.length_cons]; omega : 0 + 1 ≤ (c :: r).length), Bool.true_and, Bool.eq_iff_iff]
    simp
theorem join_many {sep : Str} (hs : sep.length = 1) : ∀ ts : List Str, ts.length ≤ (Str.join sep ts).length + 1
  | [] => Nat.zero_le _
  | [x] => by show 1 ≤ x.length + 1; omega
  | x :: y :: r => by
    have ih := join_many hs (y :: r)
    show (y :: r).length + 1 ≤ (x ++ sep ++ Str.join sep (y :: r)).length + 1
    rw [strLen_append, strLen_append]
    omega
theorem split_len {z p : Str} (h : p ∈ Txt.split z "/") : p.length ≤ z.length := by
  have e := join_mem_le "/" _ _ h
  rw [StrLaws.join_split] at e
  exact e
theorem split_many (z : Str) : (Txt.split z "/").length ≤ z.length + 1 := by
  have e := join_many (sep := "/") (by decide +kernel) (Txt.split z "/")
  rw [StrLaws.join_split] at e
  exact e
theorem cut1 (xs : List V) : cutV xs (some 1) none = xs.drop 1 := by
  unfold cutV
  rw [show HT.sIx xs.length 0 (some 1) = min 1 xs.length from HT.sIx_nat xs.length 0 1, HT.sIx_none]
  cases xs with
  | nil => rfl
  | cons x r =>
    rw [show min 1 (x :: r).length = 1 by
      rw [List.length_cons]
      omega]
    show (List.take ((x :: r).length - 1) r) = r
    rw [List.length_cons, Nat.add_sub_cancel]
    exact List.take_length
def spNames (K : PySem.W.Frag) : Sp := fun vs H Q _ => ∃ (P : Hp) (cs : List Ch) (z : Str), vs = [.str z] ∧ z.length ≤ 50000 ∧ Mem P cs H ∧ (pathB z = false → ∀ P' H', Ex P P' → Mem P' cs H' → Q .non H') ∧ (pathB z = true → ∀ o P' H', Ex P P' → Mem P' cs H' → Q (.ref o) H')
theorem ok_names_of (T : Txt K mg a c fd) : FnOk P w K mg base CX0 2 (a 2) (fd 2) ["text"] (spNames K) := by
  refine T.F2.ok sc_names_of (fun vs H Q E h => ?_) (fun cdv A outer s H vs Q E hr h => ?_)
  · obtain ⟨_, _, _, rfl, _⟩ := h; rfl
  · obtain ⟨P0, cs, z, rfl, hz, m, q1, q2⟩ := h
    have hz2 : z.length ≤ 100000 := by omega
    have hwl := split_many z
    have G_is_name := ok_is_name (P := P) (w := w) (base := base) T
    refine ⟨_, (pss_cons (ps_if (pt_cmpR op_eq (pv 0) pe_str (nomark _)) (pss_one (ps_ret (pe_lst pa_nil))) pss_nil)
      (pss_cons (ps_if (pt_not (pt_val (startsT (pv 0) pe_str))) (pss_one (ps_ret pe_non)) pss_nil)
      (pss_cons (ps_set (i := 1) sc_names_of.nd rfl (Or.inl rfl) (pe_slice (slL (K := K) rfl) (splitT (pv 0) pe_str) (po_some pe_int) po_none))
      (pss_cons (ps_if (pt_not (pt_val (pe_callB (allK (K := K) rfl rfl) (by rfl) T.g_all (by decide +kernel) (pa_cons (pe_lc (own := [("name", 2)]) (tt := tYes) (by rfl) sc_names_of.nd (piL (K := K) rfl (pv 1)) (blkOk_by (own := [("name", 2)]) (N := N_names_of) (sc := defScope s_names_of) (by decide +kernel)) (fun _ _ _ _ _ => (pg_name (i := 2) sc_names_of.nd rfl (Or.inl rfl))) (fun _ _ _ _ _ => pts_nil) (fun _ _ _ _ _ => (pe_call G_is_name hr rfl T.m0 T.F0.kp T.b0 .nil pass0 (pa_cons (pv 2) pa_nil)))) pa_nil)))) (pss_one (ps_ret pe_non)) pss_nil)
      (pss_one (ps_ret (pv 1))))))), ?_⟩
    walk_at "go"
    unfold pathB at q1 q2
    walk_at "ite" <;> intro hc
    · walk_at "go"
      walk_at "newM"
      rename_i p1 H1 m1
      exact q2 (by rw [decide_eq_true hc]; rfl) _ _ _ (Ex.refl _) m1.drop
    · walk_at "go"
      rw [decide_eq_false hc] at q1 q2
      cases hs : Txt.startswith z "/" with
      | false =>
        walk_at "go"
        exact q1 (by rw [hs]; rfl) _ _ (Ex.refl _) m
      | true =>
        rw [hs] at q1 q2
        walk_at "go"
        refine i_split (by decide +kernel) hz2 ?_
        walk_at "newM"
        rename_i p1 H1 m1
        walk_at "go"
        walk_at "newM"
        rename_i p2 H2 m2
        rw [cut1, ← List.map_drop] at m2
        walk_at "go"
        refine l_lc (K := K) (xs := (wordsOf z).map V.str) m2 (fun P' H' c' e' mm => SqL.of (mm.rd (.s .z))) (fun i acc P' => acc = (((wordsOf z).take i).map nameB).map V.bl) rfl ?_ ?_
        · rintro i x P' H3 acc D hx e3 m3 rfl Kt Kf ht hf
          obtain ⟨y, rfl, hy, hyi⟩ : ∃ y, x = .str y ∧ y ∈ wordsOf z ∧ (wordsOf z)[i]? = some y := by
            rw [List.getElem?_map] at hx
            cases e : (wordsOf z)[i]? with
            | none => rw [e] at hx; cases hx
            | some y => rw [e] at hx; exact ⟨y, (Option.some.inj hx).symm, List.mem_of_getElem? e, rfl⟩
          have hyl := split_len (List.mem_of_mem_drop hy)
          have hil := (List.getElem?_eq_some_iff.mp hyi).1
          have hwl2 : (wordsOf z).length ≤ z.length + 1 := by unfold wordsOf; rw [List.length_drop]; omega
          walk_at "go"
          refine ⟨rfl, ?_⟩
          walk_at "go"
          refine ⟨P', _, y, rfl, by omega, m3, fun P4 H4 e4 m4 => ?_⟩
          refine ht _ P4 _ e4 m4 (by simp; omega) ?_
          rw [List.take_add_one, hyi]
          simp
        · rintro D P' H3 acc e3 m3 rfl
          rw [List.length_map, List.take_length] at m3
          walk_at "go"
          refine i_all (SqL.of m3.rd0) ?_
          walk_at "go"
          have hall : ((wordsOf z).map nameB).all id = (wordsOf z).all nameB := by rw [List.all_map]; rfl
          rw [hall]
          cases hw : (wordsOf z).all nameB with
          | false =>
            walk_at "go"
            exact q1 (by rw [hw]; rfl) _ _ e3 m3.drop.drop.drop
          | true =>
            walk_at "go"
            exact q2 (by rw [hw]; rfl) _ _ _ e3 m3.drop.drop.drop
theorem ok_is_path (T : Txt K mg a c fd) : FnOk P w K mg base CX0 3 (a 3) (fd 3) ["text"] (spT pathB) := by
  refine T.F3.ok sc_is_path (fun vs H Q E h => ?_) (fun cdv A outer s H vs Q E hr h => ?_)
  · obtain ⟨_, _, _, rfl, _⟩ := h; rfl
  · obtain ⟨P0, cs, z, rfl, hz, m, q⟩ := h
    have G_names_of := ok_names_of (P := P) (w := w) (base := base) T
    refine ⟨_, (pss_one (ps_ret (pe_cmpR op_notN1 (pe_call G_names_of hr rfl T.m2 T.F2.kp T.b2 .nil pass0 (pa_cons (pv 0) pa_nil)) pe_non (nomark _)))), ?_⟩
    walk_at "go"
    refine ⟨P0, cs, z, rfl, hz, m, fun hp P' H' e' m' => ?_, fun hp o P' H' e' m' => ?_⟩
    · walk_at "go"
      have := q P' H' e' m'
      rw [hp] at this
      exact this
    · walk_at "go"
      have := q P' H' e' m'
      rw [hp] at this
      exact this
theorem ok_law_pathed (T : Txt K mg a c fd) : FnOk P w K mg base CX0 2 (a 10) (fd 10) ["_law_text_here"] (spT pathB) := by
  refine T.F10.ok sc_law_pathed (fun vs H Q E h => ?_) (fun cdv A outer s H vs Q E hr h => ?_)
  · obtain ⟨_, _, _, rfl, _⟩ := h; rfl
  · obtain ⟨P0, cs, z, rfl, hz, m, q⟩ := h
    have hz2 : z.length ≤ 100000 := by omega
    have hwl := split_many z
    have G_law_named := ok_law_named (P := P) (w := w) (base := base) T
    refine ⟨_, (pss_cons (ps_if (pt_cmpR op_eq (pv 0) pe_str (nomark _)) (pss_one (ps_ret pe_bl)) pss_nil)
      (pss_one (ps_ret (pe_and (pe_cmpR op_eq (pe_slice sl_str (pv 0) po_none (po_some pe_int)) pe_str (nomark _)) (pe_one (pe_callB (allK (K := K) rfl rfl) (by rfl) T.g_all (by decide +kernel) (pa_cons (pe_lc (own := [("_law_word", 1)]) (tt := tYes) (by rfl) sc_law_pathed.nd (piL (K := K) rfl (pe_slice (slL (K := K) rfl) (splitT (pv 0) pe_str) (po_some pe_int) po_none)) (blkOk_by (own := [("_law_word", 1)]) (N := N_law_pathed) (sc := defScope s_law_pathed) (by decide +kernel)) (fun _ _ _ _ _ => (pg_name (i := 1) sc_law_pathed.nd rfl (Or.inl rfl))) (fun _ _ _ _ _ => pts_nil) (fun _ _ _ _ _ => (pe_call G_law_named hr rfl T.m8 T.F8.kp T.b8 .nil pass0 (pa_cons (pv 1) pa_nil)))) pa_nil))))))), ?_⟩
    walk_at "go"
    unfold pathB at q
    walk_at "ite" <;> intro hc
    · walk_at "go"
      rw [decide_eq_true hc] at q
      exact q _ _ (Ex.refl _) m
    · walk_at "go"
      rw [decide_eq_false hc] at q
      rw [starts_cut]
      cases hs : Txt.startswith z "/" with
      | false =>
        rw [hs] at q
        walk_at "go"
        exact q _ _ (Ex.refl _) m
      | true =>
        rw [hs] at q
        walk_at "go"
        refine i_split (by decide +kernel) hz2 ?_
        walk_at "newM"
        rename_i p1 H1 m1
        walk_at "go"
        walk_at "newM"
        rename_i p2 H2 m2
        rw [cut1, ← List.map_drop] at m2
        walk_at "go"
        refine l_lc (K := K) (xs := (wordsOf z).map V.str) m2 (fun P' H' c' e' mm => SqL.of (mm.rd (.s .z))) (fun i acc P' => acc = (((wordsOf z).take i).map nameB).map V.bl) rfl ?_ ?_
        · rintro i x P' H3 acc D hx e3 m3 rfl Kt Kf ht hf
          obtain ⟨y, rfl, hy, hyi⟩ : ∃ y, x = .str y ∧ y ∈ wordsOf z ∧ (wordsOf z)[i]? = some y := by
            rw [List.getElem?_map] at hx
            cases e : (wordsOf z)[i]? with
            | none => rw [e] at hx; cases hx
            | some y => rw [e] at hx; exact ⟨y, (Option.some.inj hx).symm, List.mem_of_getElem? e, rfl⟩
          have hyl := split_len (List.mem_of_mem_drop hy)
          have hil := (List.getElem?_eq_some_iff.mp hyi).1
          have hwl2 : (wordsOf z).length ≤ z.length + 1 := by unfold wordsOf; rw [List.length_drop]; omega
          walk_at "go"
          refine ⟨rfl, ?_⟩
          walk_at "go"
          refine ⟨P', _, y, rfl, by omega, m3, fun P4 H4 e4 m4 => ?_⟩
          refine ht _ P4 _ e4 m4 (by simp; omega) ?_
          rw [List.take_add_one, hyi]
          simp
        · rintro D P' H3 acc e3 m3 rfl
          rw [List.length_map, List.take_length] at m3
          walk_at "go"
          refine i_all (SqL.of m3.rd0) ?_
          have hall : ((wordsOf z).map nameB).all id = (wordsOf z).all nameB := by rw [List.all_map]; rfl
          rw [hall]
          exact q _ _ e3 m3.drop.drop.drop
/-- a text of at most so many signs, all of them signs -/
structure TOk (n : Nat) (z : Str) : Prop where
  len : z.length ≤ n
  ok : PyData.strOk z = true
theorem TOk.up {n m : Nat} {z : Str} (h : TOk n z) (k : n ≤ m) : TOk m z := ⟨Nat.le_trans h.len k, h.ok⟩
theorem strOk_iff (z : Str) : PyData.strOk z = true ↔ ∀ c ∈ z.cps.toList, c < 0x110000 := by
  unfold PyData.strOk
  rw [Array.all_eq_true']
  constructor
  · intro h c hc
    exact of_decide_eq_true (h c (by simpa using hc))
  · intro h c hc
    exact decide_eq_true (h c (by simpa using hc))
theorem TOk.app {n m : Nat} {x y : Str} (h : TOk n x) (k : TOk m y) : TOk (n + m) (x ++ y) := by
  refine ⟨by rw [strLen_append]; have := h.len; have := k.len; omega, (strOk_iff _).mpr fun c hc => ?_⟩
  have e : (x ++ y).cps.toList = x.cps.toList ++ y.cps.toList := by
    show (x.cps ++ y.cps).toList = _
    exact Array.toList_append
  rw [e] at hc
  rcases List.mem_append.mp hc with hc | hc
  · exact (strOk_iff _).mp h.ok c hc
  · exact (strOk_iff _).mp k.ok c hc
theorem TOk.cut {n : Nat} {x : Str} {lo hi : Option Int} (h : TOk n x) : TOk n (cutS x lo hi) := by
  refine ⟨Nat.le_trans (cutS_length _ _ _) h.len, (strOk_iff _).mpr fun c hc => (strOk_iff _).mp h.ok c ?_⟩
  have hc' : c ∈ (x.cps.toList.drop (HT.sIx x.length 0 lo)).take (HT.sIx x.length x.length hi - HT.sIx x.length 0 lo) := by simpa [cutS] using hc
  exact List.mem_of_mem_drop (List.mem_of_mem_take hc')
theorem TOk.join {n : Nat} {sep : Str} (hs : TOk 1 sep) : ∀ {ts : List Str}, (∀ t ∈ ts, TOk n t) → TOk (ts.length * (n + 1)) (Str.join sep ts)
  | [], _ => ⟨Nat.zero_le _, by show PyData.strOk Str.empty = true; decide +kernel⟩
  | [x], h => (h x (List.mem_singleton.mpr rfl)).up (by simp)
  | x :: y :: r, h => by
    have ih := TOk.join hs (ts := y :: r) fun t ht => h t (List.mem_cons_of_mem _ ht)
    refine (((h x List.mem_cons_self).app hs).app ih).up ?_
    rw [List.length_cons (a := x), Nat.succ_mul]
    omega
theorem TOk.sign {z : Str} {c : Nat} {i : Nat} (hz : PyData.strOk z = true) (h : z.cps[i]? = some c) : TOk 1 ⟨#[c]⟩ := by
  refine ⟨Nat.le_refl _, (strOk_iff _).mpr fun d hd => ?_⟩
  have : d = c := by simpa using hd
  subst this
  exact (strOk_iff _).mp hz d (by
    have e : z.cps.toList[i]? = some d := by simpa using h
    exact List.mem_of_getElem? e)
theorem sum_le {n : Nat} : ∀ {ts : List Str}, (∀ t ∈ ts, TOk n t) → (ts.map (·.length)).sum ≤ ts.length * n
  | [], _ => Nat.zero_le _
  | x :: r, h => by
    have ih := sum_le (ts := r) fun t ht => h t (List.mem_cons_of_mem _ ht)
    have := (h x List.mem_cons_self).len
    rw [List.map_cons, List.sum_cons, List.length_cons, Nat.succ_mul]
    omega
def spText (K : PySem.W.Frag) : Sp := fun vs H Q _ => ∃ (P : Hp) (F : List Ch) (st : Addr) (n : Int), vs = [.ref st, .int n] ∧ 0 ≤ n ∧ n ≤ 100 ∧ Mem P (draw st :: F) H ∧ ∀ z P' H', Ex P P' → TOk (2 * n.toNat) z → Mem P' (draw st :: F) H' → Q (.str z) H'
theorem ok_law_text (T : Txt K mg a c fd) : FnOk P w K mg base CX0 2 (a 11) (fd 11) ["_law_left_here", "_law_many"] (spText K) := by
  refine T.F11.ok sc_law_text (fun vs H Q E h => ?_) (fun cdv A outer s H vs Q E hr h => ?_)
  · obtain ⟨_, _, _, _, rfl, _⟩ := h; rfl
  · obtain ⟨P0, F, st, n, rfl, n0, n1, m, q⟩ := h
    have G_law_pick := ok_law_pick (P := P) (w := w) (base := base) T
    refine ⟨_, (pss_cons (ps_set (i := 2) sc_law_text.nd rfl (Or.inr rfl) pe_str)
      (pss_one (ps_ret (joinT (K := K) rfl pe_str (pe_lc (own := [("_law_k", 3)]) (tt := tYes) (by rfl) sc_law_text.nd (pi_range1 rfl T.g_range (pa_cons (pv 1) pa_nil)) (blkOk_by (own := [("_law_k", 3)]) (N := N_law_text) (sc := defScope s_law_text) (by decide +kernel)) (fun _ _ _ _ _ => (pg_name (i := 3) sc_law_text.nd rfl (Or.inl rfl))) (fun _ _ _ _ _ => pts_nil) (fun _ _ _ _ _ => (itS (pv 2) (pe_call G_law_pick hr rfl T.m7 T.F7.kp T.b7 .nil pass0 (pa_cons (pv 0) (pa_cons pe_int pa_nil))) (fun _ _ => rfl)))))))), ?_⟩
    walk_at "go"
    refine l_lcR (by omega) (by omega) m (fun i acc P' => ∃ ys : List Str, acc = ys.map V.str ∧ ys.length = i ∧ ∀ y ∈ ys, TOk 1 y) ⟨[], rfl, rfl, fun _ h => by cases h⟩ ?_ ?_
    · rintro i P' H' acc D hi e' m' ⟨ys, rfl, hl, hy⟩ Kt Kf ht hf
      walk_at "go"
      refine ⟨rfl, ?_⟩
      walk_at "go"
      refine ⟨P', _, st, _, rfl, by decide, by decide, m'.sel (.s .z), fun r H2 r0 r1 m2 => ?_⟩
      refine i_itS r0 (by have e : (Str.ofString "abcdefghijklmnopqrstuvwxyz0123456789").length = 36 := by decide +kernel
                          rw [e]; exact r1) (by decide +kernel) (fun c hc => ?_)
      have hs := TOk.sign (by decide +kernel) hc
      refine ht _ P' _ (Ex.refl _) (m2.sel (.s .z)) (by simp; omega) ⟨ys ++ [⟨#[c]⟩], by simp, by simp [hl], fun y h => ?_⟩
      rcases List.mem_append.mp h with h | h
      · exact hy y h
      · rw [List.mem_singleton.mp h]; exact hs
    · rintro D P' H' acc e' m' ⟨ys, rfl, hl, hy⟩
      walk_at "go"
      have hsum := sum_le hy
      refine i_join (SqL.of m'.rd0) (by rw [show (Str.ofString "").length = 0 by decide +kernel]; omega) ?_
      rw [show Txt.join (Str.ofString "") ys = Str.join (Str.ofString "") ys from PySem.StrLaws.glued_eq_join _ _]
      refine q _ _ _ e' ((TOk.join (sep := "") ⟨by decide +kernel, by decide +kernel⟩ hy).up ?_) m'.drop
      rw [hl]
      omega
def spOdd : Sp := fun vs H Q _ => ∃ (P : Hp) (F : List Ch) (st : Addr) (z : Str), vs = [.ref st, .str z] ∧ TOk 1000 z ∧ Mem P (draw st :: F) H ∧ ∀ y H', TOk 3000 y → Mem P (draw st :: F) H' → Q (.str y) H'
theorem ok_law_odd (T : Txt K mg a c fd) : FnOk P w K mg base CX0 2 (a 12) (fd 12) ["_law_left_here", "_law_text_here"] (spOdd) := by
  refine T.F12.ok sc_law_odd (fun vs H Q E h => ?_) (fun cdv A outer s H vs Q E hr h => ?_)
  · obtain ⟨_, _, _, _, rfl, _⟩ := h; rfl
  · obtain ⟨P0, F, st, z, rfl, hz, m, q⟩ := h
    have hzl := hz.len
    have G_law_pick := ok_law_pick (P := P) (w := w) (base := base) T
    refine ⟨_, (pss_cons (ps_if (pt_cmpR op_gt (pe_call G_law_pick hr rfl T.m7 T.F7.kp T.b7 .nil pass0 (pa_cons (pv 0) (pa_cons pe_int pa_nil))) pe_int (nomark _)) (pss_one (ps_ret (pv 1))) pss_nil)
      (pss_cons (ps_set (i := 2) sc_law_odd.nd rfl (Or.inl rfl) pe_str)
      (pss_cons (ps_set (i := 3) sc_law_odd.nd rfl (Or.inl rfl) (pe_call G_law_pick hr rfl T.m7 T.F7.kp T.b7 .nil pass0 (pa_cons (pv 0) (pa_cons (pe_op op_add (pe_callB lenS (by rfl) T.g_len (by decide +kernel) (pa_cons (pv 1) pa_nil)) pe_int) pa_nil))))
      (pss_one (ps_ret (pe_op addS (pe_op addS (pe_slice sl_str (pv 1) po_none (po_some (pv 3))) (itS (pv 2) (pe_call G_law_pick hr rfl T.m7 T.F7.kp T.b7 .nil pass0 (pa_cons (pv 0) (pa_cons (pe_callB lenS (by rfl) T.g_len (by decide +kernel) (pa_cons (pv 2) pa_nil)) pa_nil))) (fun _ _ => rfl))) (pe_slice sl_str (pv 1) (po_some (pe_op op_add (pv 3) (pe_call G_law_pick hr rfl T.m7 T.F7.kp T.b7 .nil pass0 (pa_cons (pv 0) (pa_cons pe_int pa_nil))))) po_none))))))), ?_⟩
    walk_at "go"
    refine ⟨P0, F, st, _, rfl, by decide, by decide, m, fun r H2 r0 r1 m2 => ?_⟩
    walk_at "go"
    walk_at "ite" <;> intro hc
    · walk_at "go"
      exact q _ _ (hz.up (by decide)) m2
    · walk_at "go"
      refine ⟨P0, F, st, _, rfl, by omega, by omega, m2, fun at_ H3 a0 a1 m3 => ?_⟩
      walk_at "go"
      have hsl : (Str.ofString " !#&'()*+,-./:;<=>?@ABCXYZ[]^_{|}~\n\t\"\\").length = 38 := by decide +kernel
      refine ⟨P0, F, st, _, rfl, by rw [hsl]; decide, by rw [hsl]; decide, m3, fun r4 H4 r40 r41 m4 => ?_⟩
      refine i_itS r40 r41 (by rw [hsl]; decide) (fun c hc => ?_)
      have hs := TOk.sign (by decide +kernel) hc
      have h1 := (hz.cut (lo := none) (hi := some at_)).app hs
      refine i_addS (Nat.le_trans (Nat.add_le_add (hz.cut (lo := none) (hi := some at_)).len hs.len) (by decide)) ?_
      walk_at "go"
      refine ⟨P0, F, st, _, rfl, by decide, by decide, m4, fun r5 H5 r50 r51 m5 => ?_⟩
      walk_at "go"
      have h2 := hz.cut (lo := some (at_ + r5)) (hi := none)
      refine i_addS (Nat.le_trans (Nat.add_le_add h1.len h2.len) (by decide)) ?_
      exact q _ _ ((h1.app h2).up (by decide)) m5
theorem mul_ok {z : Str} {n : Int} (hz : TOk 3 z) (h0 : 0 ≤ n) (h1 : n ≤ 70) : TOk 210 (Txt.mul z n) := by
  have gen : ∀ (k : Nat), TOk (3 * k) ⟨(List.replicate k z.cps).foldl (· ++ ·) #[]⟩ := by
    intro k
    induction k with
    | zero => exact ⟨Nat.zero_le _, by show PyData.strOk Str.empty = true; decide +kernel⟩
    | succ k ih =>
      rw [List.replicate_succ']
      rw [List.foldl_append]
      exact (ih.app hz).up (by omega)
  unfold Txt.mul
  split
  · exact ⟨Nat.zero_le _, by decide +kernel⟩
  · split
    · exact hz.up (by decide)
    · exact (gen n.toNat).up (by omega)
def spLong (K : PySem.W.Frag) : Sp := fun vs H Q _ => ∃ (P : Hp) (F : List Ch) (st : Addr), vs = [.ref st] ∧ Mem P (draw st :: F) H ∧ ∀ y P' H', Ex P P' → TOk 1000 y → Mem P' (draw st :: F) H' → Q (.str y) H'
theorem ok_law_long (T : Txt K mg a c fd) : FnOk P w K mg base CX0 3 (a 13) (fd 13) ["_law_left_here"] (spLong K) := by
  refine T.F13.ok sc_law_long (fun vs H Q E h => ?_) (fun cdv A outer s H vs Q E hr h => ?_)
  · obtain ⟨_, _, _, rfl, _⟩ := h; rfl
  · obtain ⟨P0, F, st, rfl, m, q⟩ := h
    have G_law_pick := ok_law_pick (P := P) (w := w) (base := base) T
    have G_law_text := ok_law_text (P := P) (w := w) (base := base) T
    refine ⟨_, (pss_cons (ps_set (i := 1) sc_law_long.nd rfl (Or.inl rfl) (pe_call G_law_pick (hr.mono (by decide)) rfl T.m7 T.F7.kp T.b7 .nil pass0 (pa_cons (pv 0) (pa_cons pe_int pa_nil))))
      (pss_cons (ps_if (pt_cmpR op_eq (pe_call G_law_pick (hr.mono (by decide)) rfl T.m7 T.F7.kp T.b7 .nil pass0 (pa_cons (pv 0) (pa_cons pe_int pa_nil))) pe_int (nomark _)) (pss_one (ps_ret (pe_slice sl_str (pe_op mulS pe_str pe_int) po_none (po_some (pe_op op_add pe_int (pe_op op_mod (pv 1) pe_int)))))) pss_nil)
      (pss_one (ps_ret (pe_op addS (pe_op addS (pe_call G_law_text hr rfl T.m11 T.F11.kp T.b11 .nil pass0 (pa_cons (pv 0) (pa_cons (pe_op op_fdivW (pv 1) pe_int) pa_nil))) (pe_op mulS pe_str (pe_call G_law_pick (hr.mono (by decide)) rfl T.m7 T.F7.kp T.b7 .nil pass0 (pa_cons (pv 0) (pa_cons pe_int pa_nil))))) (pe_call G_law_text hr rfl T.m11 T.F11.kp T.b11 .nil pass0 (pa_cons (pv 0) (pa_cons (pe_op op_sub (pv 1) (pe_op op_fdivW (pv 1) pe_int)) pa_nil)))))))), ?_⟩
    walk_at "go"
    refine ⟨P0, F, st, _, rfl, by decide, by decide, m, fun r H2 r0 r1 m2 => ?_⟩
    walk_at "go"
    refine ⟨P0, F, st, _, rfl, by decide, by decide, m2, fun r3 H3 r30 r31 m3 => ?_⟩
    walk_at "go"
    walk_at "ite" <;> intro hc
    · walk_at "go"
      refine i_mulS (by decide) (by decide) (by decide +kernel) ?_
      have hm := mul_ok (z := "a.9") (n := 70) ⟨by decide +kernel, by decide +kernel⟩ (by decide) (by decide)
      have hml := hm.len
      walk_at "go"
      exact q _ _ _ (Ex.refl _) (hm.cut.up (by decide)) m3
    · walk_at "go"
      refine ⟨P0, F, st, _, rfl, by omega, by omega, m3, fun x P4 H4 e4 hx m4 => ?_⟩
      walk_at "go"
      refine ⟨P4, F, st, _, rfl, by decide, by decide, m4, fun r5 H5 r50 r51 m5 => ?_⟩
      walk_at "go"
      refine i_mulS r50 (by omega) (by decide +kernel) ?_
      have hm := mul_ok (z := ".") (n := r5) ⟨by decide +kernel, by decide +kernel⟩ r50 (by omega)
      refine i_addS (Nat.le_trans (Nat.add_le_add hx.len hm.len) (by omega)) ?_
      walk_at "go"
      refine ⟨P4, F, st, _, rfl, by omega, by omega, m5, fun y P6 H6 e6 hy m6 => ?_⟩
      have ha := hx.app hm
      refine i_addS (Nat.le_trans (Nat.add_le_add ha.len hy.len) (by omega)) ?_
      exact q _ _ _ (e4.trans e6) ((ha.app hy).up (by omega)) m6
/-- texts at places -/
def dStrs (ys : List Str) : PyData := .list (ys.map .str)
theorem dpStrs {P : Hp} : ∀ ys : List Str, DpAll K P (ys.map V.str) (ys.map PyData.str)
  | [] => .nil
  | y :: ys => .cons (.str y) (dpStrs ys)
theorem dStrs_sh {n : Nat} {ys : List Str} (h : ∀ y ∈ ys, TOk n y) : Sh 1 (dStrs ys) := .lst fun d hd => by
  obtain ⟨y, hy, rfl⟩ := List.mem_map.mp hd
  exact Sh.str (h y hy).ok
theorem dStrs_nil (ys : List Str) : PyData.eqv (dStrs ys) (.list []) = ys.isEmpty := by
  unfold dStrs
  cases ys with
  | nil => simp [PyData.eqv, PyData.eqvAll]
  | cons y r => simp [PyData.eqv, PyData.eqvAll]
def spPath (K : PySem.W.Frag) : Sp := fun vs H Q _ => ∃ (P : Hp) (F : List Ch) (st : Addr), vs = [.ref st] ∧ Mem P (draw st :: F) H ∧ ∀ y P' H', Ex P P' → TOk 1000 y → Mem P' (draw st :: F) H' → Q (.str y) H'
theorem ok_law_path (T : Txt K mg a c fd) : FnOk P w K mg base CX0 3 (a 14) (fd 14) ["_law_left_here"] (spPath K) := by
  refine T.F14.ok sc_law_path (fun vs H Q E h => ?_) (fun cdv A outer s H vs Q E hr h => ?_)
  · obtain ⟨_, _, _, rfl, _⟩ := h; rfl
  · obtain ⟨P0, F, st, rfl, m, q⟩ := h
    have G_law_text := ok_law_text (P := P) (w := w) (base := base) T
    have G_law_pick := ok_law_pick (P := P) (w := w) (base := base) T
    refine ⟨_, (pss_cons (ps_setLc (i := 1) (own := [("_law_k", 4)]) (tt := tYes) (by rfl) sc_law_path.nd rfl rfl (sw_true rfl rfl rfl (by decide +kernel)) (pi_range1 rfl T.g_range (pa_cons (pe_call G_law_pick (hr.mono (by decide)) rfl T.m7 T.F7.kp T.b7 .nil pass0 (pa_cons (pv 0) (pa_cons pe_int pa_nil))) pa_nil)) (blkOk_by (own := [("_law_k", 4)]) (N := N_law_path) (sc := defScope s_law_path) (by decide +kernel)) (fun _ _ _ _ _ => (pg_name (i := 4) sc_law_path.nd rfl (Or.inl rfl))) (fun _ _ _ _ _ => pts_nil) (fun _ _ _ _ _ => (pe_call G_law_text hr rfl T.m11 T.F11.kp T.b11 .nil pass0 (pa_cons (pv 0) (pa_cons (pe_op op_add pe_int (pe_call G_law_pick (hr.mono (by decide)) rfl T.m7 T.F7.kp T.b7 .nil pass0 (pa_cons (pv 0) (pa_cons pe_int pa_nil)))) pa_nil)))))
      (pss_cut (ps_if (PW.pt (pw_and (pt_cmpR (neD (K := K) rfl hr.units) (pv 1) (pe_lst pa_nil) (nomark _)) (pw_and1 (pt_cmpR op_eq (pe_call G_law_pick (hr.mono (by decide)) rfl T.m7 T.F7.kp T.b7 .nil pass0 (pa_cons (pv 0) (pa_cons pe_int pa_nil))) pe_int (nomark _))))) (pss_cons (ps_set (i := 2) sc_law_path.nd rfl (Or.inl rfl) (pe_call G_law_pick (hr.mono (by decide)) rfl T.m7 T.F7.kp T.b7 .nil pass0 (pa_cons (pv 0) (pa_cons (pe_callB (lenQ (K := K) rfl) (by rfl) T.g_len (by decide +kernel) (pa_cons (pv 1) pa_nil)) pa_nil))))
      (pss_one (ps_asg (pe_ix (ixL (K := K) rfl) (pe_lst (pa_cons (pe_call G_law_text hr rfl T.m11 T.F11.kp T.b11 .nil pass0 (pa_cons (pv 0) (pa_cons pe_int pa_nil))) (pa_cons pe_str (pa_cons pe_str (pa_cons pe_str pa_nil))))) (pe_call G_law_pick (hr.mono (by decide)) rfl T.m7 T.F7.kp T.b7 .nil pass0 (pa_cons (pv 0) (pa_cons pe_int pa_nil))) (fun _ _ => rfl)) (pg_sub (pv 1) (pv 2) set_list)))) pss_nil)
      (pss_cons (ps_set (i := 3) sc_law_path.nd rfl (Or.inl rfl) (pe_op addS pe_str (joinT (K := K) rfl pe_str (pv 1))))
      (pss_one (ps_ret (pe_ix (ixL (K := K) rfl) (pe_lst (pa_cons (pv 3) (pa_cons (pv 3) (pa_cons (pv 3) (pa_cons (pe_op addS (pv 3) pe_str) (pa_cons (pe_op addS pe_str (pv 3)) (pa_cons (pe_slice sl_str (pv 3) (po_some pe_int) po_none) pa_nil))))))) (pe_call G_law_pick (hr.mono (by decide)) rfl T.m7 T.F7.kp T.b7 .nil pass0 (pa_cons (pv 0) (pa_cons pe_int pa_nil))) (fun _ _ => rfl))))))), ?_⟩
    walk_at "go"
    refine ⟨P0, F, st, _, rfl, by decide, by decide, m, fun n H2 n0 n1 m2 => ?_⟩
    refine l_lcR (by omega) (by omega) m2 (fun i acc P' => ∃ ys : List Str, acc = ys.map V.str ∧ ys.length = i ∧ ∀ y ∈ ys, TOk 20 y) ⟨[], rfl, rfl, fun _ h => by cases h⟩ ?_ ?_
    · rintro i P' H' acc D hi e' m' ⟨ys, rfl, hl, hy⟩ Kt Kf ht hf
      walk_at "go"
      refine ⟨rfl, ?_⟩
      walk_at "go"
      refine ⟨P', _, st, _, rfl, by decide, by decide, m'.sel (.s .z), fun r H2 r0 r1 m2 => ?_⟩
      walk_at "go"
      refine ⟨P', _, st, _, rfl, by omega, by omega, m2, fun z P3 H3 e3 hz m3 => ?_⟩
      refine ht _ P3 _ e3 (m3.sel (.s .z)) (by simp; omega) ⟨ys ++ [z], by simp, by simp [hl], fun y h => ?_⟩
      rcases List.mem_append.mp h with h | h
      · exact hy y h
      · rw [List.mem_singleton.mp h]; exact hz.up (by omega)
    · rintro D P' H' acc e' m' ⟨ys, rfl, hl, hy⟩
      have hyl : ys.length ≤ 11 := by omega
      clear hl
      walk_at "go"
      refine ⟨fun σ H => ∃ (P2 : Hp) (ys' : List Str), Ex P' P2 ∧ ys'.length ≤ 11 ∧ (∀ y ∈ ys', TOk 20 y) ∧ Mem P2 (pt D (.lst (ys'.map V.str)) :: draw st :: F) H ∧ ∃ x1 x2 x3, σ = [some (.ref st), some (.ref D), x1, x2, x3], ?_, ?_⟩
      · walk_at "go"
        walk_at "newM"
        rename_i D2 H3 m3
        walk_at "go"
        refine i_neDt (d := dStrs ys) (e := .list []) (.lst (SqL.of (m3.rd (.s .z))) (dpStrs ys)) (.lst (SqL.of m3.rd0) .nil) ((dStrs_sh hy).ok (by decide)) (by decide +kernel) ?_
        rw [dStrs_nil]
        have m4 := m3.drop
        walk_at "go"
        cases hys : ys.isEmpty with
        | true =>
          walk_at "go"
          exact ⟨P', ys, Ex.refl _, hyl, hy, m4, _, _, _, rfl⟩
        | false =>
          have hpos : 0 < ys.length := by
            cases ys with
            | nil => cases hys
            | cons _ _ => exact Nat.succ_pos _
          walk_at "go"
          refine ⟨P', _, st, _, rfl, by decide, by decide, m4.sel (.s .z), fun r5 H5 r50 r51 m5 => ?_⟩
          walk_at "go"
          walk_at "ite" <;> intro hc
          · walk_at "go"
            refine ⟨P', _, st, _, rfl, ?_, ?_, m5, fun r6 H6 r60 r61 m6 => ?_⟩
            · rw [List.length_map]; omega
            · rw [List.length_map]; omega
            rw [List.length_map] at r61
            walk_at "go"
            refine ⟨P', _, st, _, rfl, by decide, by decide, m6, fun z P7 H7 e7 hz m7 => ?_⟩
            walk_at "go"
            walk_at "newL"
            rename_i p8 P8 H8 m8 e8 h8
            walk_at "go"
            refine ⟨P8, _, st, _, rfl, by decide, by decide, m8, fun r9 H9 r90 r91 m9 => ?_⟩
            obtain ⟨v, hv1, hv2⟩ := atI_mem (xs := [V.str z, V.str "", V.str "A", V.str "b."]) r90 r91
            have hvs : ∃ x, v = .str x ∧ TOk 20 x := by
              simp only [List.mem_cons, List.not_mem_nil, or_false] at hv2
              rcases hv2 with rfl | rfl | rfl | rfl
              · exact ⟨_, rfl, hz.up (by decide)⟩
              · exact ⟨_, rfl, by decide +kernel, by decide +kernel⟩
              · exact ⟨_, rfl, by decide +kernel, by decide +kernel⟩
              · exact ⟨_, rfl, by decide +kernel, by decide +kernel⟩
            obtain ⟨x, rfl, hx⟩ := hvs
            refine i_ixL (m9.sqL h8 (Ex.refl _)) hv1 ?_
            walk_at "go"
            refine i_setLv (m9.sel (.s .z)) .z r60 (by rw [List.length_map]; exact r61) .z fun H10 m10 => ?_
            refine ⟨P8, ys.set r6.toNat x, e7.trans e8, by rw [List.length_set]; exact hyl, fun y h => ?_, by rw [List.map_set]; exact m10, _, _, _, rfl⟩
            rcases List.mem_or_eq_of_mem_set h with h | h
            · exact hy y h
            · rw [h]; exact hx
          · walk_at "go"
            exact ⟨P', ys, Ex.refl _, hyl, hy, m5.sel (.s .z), _, _, _, rfl⟩
      · rintro σ H2 ⟨P2, ys', e2, hl2, hy2, m2, x1, x2, x3, rfl⟩
        walk_at "go"
        have hsum := sum_le hy2
        refine i_join (SqL.of m2.rd0) (by rw [show (Str.ofString "/").length = 1 by decide +kernel]; omega) ?_
        rw [show Txt.join (Str.ofString "/") ys' = Str.join (Str.ofString "/") ys' from PySem.StrLaws.glued_eq_join _ _]
        have hj := (TOk.join (sep := "/") ⟨by decide +kernel, by decide +kernel⟩ hy2).up (m := 300) (by omega)
        have hone : TOk 1 "/" := ⟨by decide +kernel, by decide +kernel⟩
        refine i_addS (Nat.le_trans (Nat.add_le_add hone.len hj.len) (by decide)) ?_
        have ht := hone.app hj
        have htl := ht.len
        generalize ("/" : Str) ++ Str.join "/" ys' = t at *
        walk_at "go"
        refine i_addS (Nat.le_trans (Nat.add_le_add ht.len hone.len) (by decide)) ?_
        walk_at "go"
        refine i_addS (Nat.le_trans (Nat.add_le_add hone.len ht.len) (by decide)) ?_
        walk_at "go"
        walk_at "newL"
        rename_i p3 P3 H3 m3 e3 h3
        walk_at "go"
        refine ⟨P3, _, st, _, rfl, by decide, by decide, m3.sel (.s .z), fun r4 H4 r40 r41 m4 => ?_⟩
        obtain ⟨v, hv1, hv2⟩ := atI_mem (xs := [V.str t, V.str t, V.str t, V.str (t ++ "/"), V.str ("/" ++ t), V.str (cutS t (some 1) none)]) r40 r41
        have hvs : ∃ x, v = .str x ∧ TOk 1000 x := by
          simp only [List.mem_cons, List.not_mem_nil, or_false] at hv2
          rcases hv2 with rfl | rfl | rfl | rfl | rfl | rfl
          · exact ⟨_, rfl, ht.up (by decide)⟩
          · exact ⟨_, rfl, ht.up (by decide)⟩
          · exact ⟨_, rfl, ht.up (by decide)⟩
          · exact ⟨_, rfl, (ht.app hone).up (by decide)⟩
          · exact ⟨_, rfl, (hone.app ht).up (by decide)⟩
          · exact ⟨_, rfl, ht.cut.up (by decide)⟩
        obtain ⟨x, rfl, hx⟩ := hvs
        refine i_ixL (m4.sqL h3 (Ex.refl _)) hv1 ?_
        have m4s := (m4.sel (.s .z)).drop
        exact q _ _ _ (e'.trans (e2.trans e3)) hx m4s
theorem dBools_sh (bs : List Bool) : Sh 1 (.list (bs.map .bool)) := .lst fun d hd => by
  obtain ⟨b, _, rfl⟩ := List.mem_map.mp hd
  exact Sh.bl b
def spTold (K : PySem.W.Frag) : Sp := fun vs H Q _ => ∃ (P : Hp) (cs : List Ch) (z : Str), vs = [.str z] ∧ z.length ≤ 50000 ∧ Mem P cs H ∧ ∀ P' H', Ex P P' → Mem P' cs H' → Q (.bl true) H'
theorem ok_law_told (T : Txt K mg a c fd) : FnOk P w K mg base CX0 4 (a 15) (fd 15) ["_law_text_here"] (spTold K) := by
  refine T.F15.ok sc_law_told (fun vs H Q E h => ?_) (fun cdv A outer s H vs Q E hr h => ?_)
  · obtain ⟨_, _, _, rfl, _⟩ := h; rfl
  · obtain ⟨P0, cs, z, rfl, hz, m, q⟩ := h
    have G_is_name := ok_is_name (P := P) (w := w) (base := base) T
    have G_is_content := ok_is_content (P := P) (w := w) (base := base) T
    have G_is_path := ok_is_path (P := P) (w := w) (base := base) T
    have G_law_named := ok_law_named (P := P) (w := w) (base := base) T
    have G_law_filled := ok_law_filled (P := P) (w := w) (base := base) T
    have G_law_pathed := ok_law_pathed (P := P) (w := w) (base := base) T
    refine ⟨_, (pss_cons (ps_set (i := 1) sc_law_told.nd rfl (Or.inl rfl) (pe_lst (pa_cons (pe_call G_is_name (hr.mono (by decide)) rfl T.m0 T.F0.kp T.b0 .nil pass0 (pa_cons (pv 0) pa_nil)) (pa_cons (pe_call G_is_content (hr.mono (by decide)) rfl T.m1 T.F1.kp T.b1 .nil pass0 (pa_cons (pv 0) pa_nil)) (pa_cons (pe_call G_is_path hr rfl T.m3 T.F3.kp T.b3 .nil pass0 (pa_cons (pv 0) pa_nil)) pa_nil)))))
      (pss_one (ps_ret (pe_and (pe_callB (allK (K := K) rfl rfl) (by rfl) T.g_all (by decide +kernel) (pa_cons (pe_lc (own := [("_law_one", 2)]) (tt := tYes) (by rfl) sc_law_told.nd (piL (K := K) rfl (pv 1)) (blkOk_by (own := [("_law_one", 2)]) (N := N_law_told) (sc := defScope s_law_told) (by decide +kernel)) (fun _ _ _ _ _ => (pg_name (i := 2) sc_law_told.nd rfl (Or.inl rfl))) (fun _ _ _ _ _ => pts_nil) (fun _ _ _ _ _ => (pe_callB (isiK (K := K) rfl) (by rfl) T.g_isinstance (by decide +kernel) (pa_cons (pv 2) (pa_cons (pe_bltn (v := .ty "bool") (by rfl) T.g_bool (by decide +kernel) rfl) pa_nil))))) pa_nil)) (pe_one (pe_cmpR (eqD (K := K) rfl hr.units) (pv 1) (pe_lst (pa_cons (pe_call G_law_named (hr.mono (by decide)) rfl T.m8 T.F8.kp T.b8 .nil pass0 (pa_cons (pv 0) pa_nil)) (pa_cons (pe_call G_law_filled (hr.mono (by decide)) rfl T.m9 T.F9.kp T.b9 .nil pass0 (pa_cons (pv 0) pa_nil)) (pa_cons (pe_call G_law_pathed (hr.mono (by decide)) rfl T.m10 T.F10.kp T.b10 .nil pass0 (pa_cons (pv 0) pa_nil)) pa_nil)))) (nomark _))))))), ?_⟩
    walk_at "go"
    refine ⟨P0, cs, z, rfl, hz, m, fun P1 H1 e1 m1 => ?_⟩
    walk_at "go"
    refine ⟨P1, cs, z, rfl, hz, m1, fun P2 H2 e2 m2 => ?_⟩
    walk_at "go"
    refine ⟨P2, cs, z, rfl, hz, m2, fun P3 H3 e3 m3 => ?_⟩
    walk_at "go"
    walk_at "newM"
    rename_i pf H4 m4
    walk_at "go"
    refine l_lc (K := K) (xs := [V.bl (nameB z), V.bl (contB z), V.bl (pathB z)]) m4 (fun P' H' c' e' mm => SqL.of (mm.rd (.s .z))) (fun i acc P' => acc = (List.replicate i true).map V.bl) rfl ?_ ?_
    · rintro i x P' H' acc D hx e' m' rfl Kt Kf ht hf
      have hx' : ∃ b, x = V.bl b := by
        have hm := List.mem_of_getElem? hx
        simp only [List.mem_cons, List.not_mem_nil, or_false] at hm
        rcases hm with rfl | rfl | rfl <;> exact ⟨_, rfl⟩
      have hi : i < 3 := (List.getElem?_eq_some_iff.mp hx).1
      obtain ⟨b, rfl⟩ := hx'
      walk_at "go"
      refine ⟨rfl, ?_⟩
      walk_at "go"
      refine ht _ P' _ (Ex.refl _) m' (by simp; omega) ?_
      rw [List.replicate_succ', List.map_append]
      rfl
    · rintro D P' H' acc e' m' rfl
      walk_at "go"
      refine i_all (SqL.of m'.rd0) ?_
      refine i_blI ?_
      rw [show (List.replicate [V.bl (nameB z), V.bl (contB z), V.bl (pathB z)].length true).all id = true from rfl]
      walk_at "go"
      refine ⟨P', _, z, rfl, hz, m', fun P5 H5 e5 m5 => ?_⟩
      walk_at "go"
      refine ⟨P5, _, z, rfl, hz, m5, fun P6 H6 e6 m6 => ?_⟩
      walk_at "go"
      refine ⟨P6, _, z, rfl, hz, m6, fun P7 H7 e7 m7 => ?_⟩
      walk_at "go"
      walk_at "newM"
      rename_i pg H8 m8
      walk_at "go"
      have hd : ∀ H, DpAll K H [V.bl (nameB z), V.bl (contB z), V.bl (pathB z)] ([nameB z, contB z, pathB z].map .bool) := fun H => .cons (.bl _) (.cons (.bl _) (.cons (.bl _) .nil))
      refine i_eqDt (.lst (SqL.of (m8.rd (.s (.s .z)))) (hd _)) (.lst (SqL.of m8.rd0) (hd _)) ((dBools_sh _).ok (by decide)) ((dBools_sh _).ok (by decide)) ?_
      rw [eqv_self (dBools_sh _)]
      exact q _ _ (e1.trans (e2.trans (e3.trans (e'.trans (e5.trans (e6.trans e7)))))) m8.drop.drop.drop
def spLaw (K : PySem.W.Frag) : Sp := fun vs H Q _ => ∃ (a : Addr) (ns : List Int), vs = [.ref a] ∧ SqL K H a (ns.map V.int) ∧ ns.length ≤ 63 ∧ ∀ H', Q (.bl true) H'
theorem ok_law (T : Txt K mg a c fd) : FnOk P w K mg base CX0 5 (a 16) (fd 16) ["_law_script"] (spLaw K) := by
  refine T.F16.ok sc_law (fun vs H Q E h => ?_) (fun cdv A outer s H vs Q E hr h => ?_)
  · obtain ⟨_, _, rfl, _⟩ := h; rfl
  · obtain ⟨ad, ns, rfl, hS, hlen, q⟩ := h
    have m0 : Mem H [] H := Mem.all
    have G_law_left := ok_law_left (P := P) (w := w) (base := base) T
    have G_law_told := ok_law_told (P := P) (w := w) (base := base) T
    have G_law_odd := ok_law_odd (P := P) (w := w) (base := base) T
    have G_law_path := ok_law_path (P := P) (w := w) (base := base) T
    have G_law_text := ok_law_text (P := P) (w := w) (base := base) T
    have G_law_long := ok_law_long (P := P) (w := w) (base := base) T
    have G_law_pick := ok_law_pick (P := P) (w := w) (base := base) T
    refine ⟨_, (pss_cons (ps_for PassesOwn.never rfl (piL (K := K) rfl (pe_lst (pa_cons pe_str (pa_cons pe_str (pa_cons pe_str (pa_cons pe_str (pa_cons pe_str (pa_cons pe_str (pa_cons pe_str (pa_cons pe_str (pa_cons pe_str (pa_cons pe_str pa_nil)))))))))))) (pg_name (i := 1) sc_law.nd rfl (Or.inl rfl))
      (pss_one (ps_if (pt_not (pt_val (pe_call G_law_told hr rfl T.m15 T.F15.kp T.b15 .nil pass0 (pa_cons (pv 1) pa_nil)))) (pss_one (ps_ret pe_bl)) pss_nil)))
      (pss_cons (ps_for PassesOwn.never rfl (pi_range1 rfl T.g_range (pa_cons (pe_callB (mx2 rfl) (by rfl) T.g_max (by decide +kernel) (pa_cons pe_int (pa_cons (pe_callB (mn2 rfl) (by rfl) T.g_min (by decide +kernel) (pa_cons (pe_callB (lenQ (K := K) rfl) (by rfl) T.g_len (by decide +kernel) (pa_cons (pv 0) pa_nil)) (pa_cons pe_int pa_nil))) pa_nil))) pa_nil)) (pg_name (i := 2) sc_law.nd rfl (Or.inl rfl))
      (pss_cons (ps_set (i := 3) sc_law.nd rfl (Or.inl rfl) (pe_call G_law_left (hr.mono (by decide)) rfl T.m6 T.F6.kp T.b6 .nil pass0 (pa_cons (pv 0) (pa_cons (pv 2) pa_nil))))
      (pss_one (ps_for PassesOwn.never rfl (piL (K := K) rfl (pe_lst (pa_cons (pe_call G_law_odd (hr.mono (by decide)) rfl T.m12 T.F12.kp T.b12 .nil pass0 (pa_cons (pv 3) (pa_cons (pe_call G_law_text (hr.mono (by decide)) rfl T.m11 T.F11.kp T.b11 .nil pass0 (pa_cons (pv 3) (pa_cons (pe_call G_law_pick (hr.mono (by decide)) rfl T.m7 T.F7.kp T.b7 .nil pass0 (pa_cons (pv 3) (pa_cons pe_int pa_nil))) pa_nil))) pa_nil))) (pa_cons (pe_call G_law_odd (hr.mono (by decide)) rfl T.m12 T.F12.kp T.b12 .nil pass0 (pa_cons (pv 3) (pa_cons (pe_call G_law_long (hr.mono (by decide)) rfl T.m13 T.F13.kp T.b13 .nil pass0 (pa_cons (pv 3) pa_nil)) pa_nil))) (pa_cons (pe_call G_law_path (hr.mono (by decide)) rfl T.m14 T.F14.kp T.b14 .nil pass0 (pa_cons (pv 3) pa_nil)) (pa_cons (pe_call G_law_odd (hr.mono (by decide)) rfl T.m12 T.F12.kp T.b12 .nil pass0 (pa_cons (pv 3) (pa_cons (pe_call G_law_path (hr.mono (by decide)) rfl T.m14 T.F14.kp T.b14 .nil pass0 (pa_cons (pv 3) pa_nil)) pa_nil))) pa_nil)))))) (pg_name (i := 1) sc_law.nd rfl (Or.inl rfl))
      (pss_one (ps_if (pt_not (pt_val (pe_call G_law_told hr rfl T.m15 T.F15.kp T.b15 .nil pass0 (pa_cons (pv 1) pa_nil)))) (pss_one (ps_ret pe_bl)) pss_nil))))))
      (pss_one (ps_ret pe_bl)))), ?_⟩
    walk_at "go"
    walk_at "newL"
    rename_i pL P1 H1 m1 e1 hL
    walk_at "go"
    refine l_list (K := K) (SqL_of_mem m1 hL) (fun i σ H' => (∃ P', Ex P1 P' ∧ Mem P' [] H') ∧ ∃ x1 x2 x3, σ = [some (.ref ad), x1, x2, x3]) ⟨⟨P1, Ex.refl _, m1⟩, _, _, _, rfl⟩ (fun i σ H' _ ⟨⟨P', e', m'⟩, _⟩ => ex_l (e'.trans m'.ex) hL) ?_ ?_
    · rintro i x σ H' hx ⟨⟨P', e', m'⟩, x1, x2, x3, rfl⟩
      have hx' : ∃ z : Str, x = V.str z ∧ z.length ≤ 50000 := by
        have hm := List.mem_of_getElem? hx
        simp only [List.mem_cons, List.not_mem_nil, or_false] at hm
        rcases hm with rfl | rfl | rfl | rfl | rfl | rfl | rfl | rfl | rfl | rfl <;> exact ⟨_, rfl, by decide +kernel⟩
      obtain ⟨z, rfl, hz⟩ := hx'
      walk_at "go"
      refine ⟨P', _, z, rfl, hz, m', fun P2 H2 e2 m2 => ?_⟩
      walk_at "go"
      exact ⟨⟨P2, e'.trans e2, m2⟩, _, _, _, rfl⟩
    · rintro σ H' ⟨⟨P', e', m'⟩, x1, x2, x3, rfl⟩
      have hS' : SqL K P' ad (ns.map V.int) := ex_l (e1.trans e') hS
      walk_at "go"
      have hb : (if (if (62 : Int) < ((ns.map V.int).length : Nat) then (62 : Int) else ((ns.map V.int).length : Nat)) > 4 then (if (62 : Int) < ((ns.map V.int).length : Nat) then (62 : Int) else ((ns.map V.int).length : Nat)) else 4) ≤ 62 := by split <;> split <;> omega
      have hb0 : 0 ≤ (if (if (62 : Int) < ((ns.map V.int).length : Nat) then (62 : Int) else ((ns.map V.int).length : Nat)) > 4 then (if (62 : Int) < ((ns.map V.int).length : Nat) then (62 : Int) else ((ns.map V.int).length : Nat)) else 4) := by split <;> split <;> omega
      generalize (if (if (62 : Int) < ((ns.map V.int).length : Nat) then (62 : Int) else ((ns.map V.int).length : Nat)) > 4 then (if (62 : Int) < ((ns.map V.int).length : Nat) then (62 : Int) else ((ns.map V.int).length : Nat)) else 4) = N at *
      refine l_range1 (by omega) (by omega) (fun i σ H' => (∃ P2, Ex P' P2 ∧ Mem P2 [] H') ∧ ∃ x1 x2 x3, σ = [some (.ref ad), x1, x2, x3]) ⟨⟨P', Ex.refl _, m'⟩, _, _, _, rfl⟩ ?_ ?_
      · rintro i σ H2 hi ⟨⟨P2, e2, m2⟩, y1, y2, y3, rfl⟩
        walk_at "go"
        refine ⟨P2, _, ad, ns, i, rfl, ex_l e2 hS', by omega, by omega, m2, fun st H3 m3 => ?_⟩
        walk_at "go"
        refine ⟨P2, _, st, _, rfl, by decide, by decide, m3, fun n H4 n0 n1 m4 => ?_⟩
        walk_at "go"
        refine ⟨P2, _, st, _, rfl, n0, by omega, m4, fun z1 P5 H5 e5 hz1 m5 => ?_⟩
        walk_at "go"
        refine ⟨P5, _, st, _, rfl, hz1.up (by omega), m5, fun t1 H6 ht1 m6 => ?_⟩
        walk_at "go"
        refine ⟨P5, _, st, rfl, m6, fun z2 P7 H7 e7 hz2 m7 => ?_⟩
        walk_at "go"
        refine ⟨P7, _, st, _, rfl, hz2, m7, fun t2 H8 ht2 m8 => ?_⟩
        walk_at "go"
        refine ⟨P7, _, st, rfl, m8, fun t3 P9 H9 e9 ht3 m9 => ?_⟩
        walk_at "go"
        refine ⟨P9, _, st, rfl, m9, fun z4 P10 H10 e10 hz4 m10 => ?_⟩
        walk_at "go"
        refine ⟨P10, _, st, _, rfl, hz4, m10, fun t4 H11 ht4 m11 => ?_⟩
        walk_at "go"
        walk_at "newL"
        rename_i pM P12 H12 m12 e12 hM
        walk_at "go"
        refine l_list (K := K) (SqL_of_mem m12 hM) (fun i σ H' => (∃ P', Ex P12 P' ∧ Mem P' [] H') ∧ ∃ x1 x2 x3, σ = [some (.ref ad), x1, x2, x3]) ⟨⟨P12, Ex.refl _, m12.drop⟩, _, _, _, rfl⟩ (fun i σ H' _ ⟨⟨P', e', m'⟩, _⟩ => ex_l (e'.trans m'.ex) hM) ?_ ?_
        · rintro i x σ H' hx ⟨⟨P13, e13, m13⟩, x1, x2, x3, rfl⟩
          have hx' : ∃ z : Str, x = V.str z ∧ z.length ≤ 50000 := by
            have hm := List.mem_of_getElem? hx
            simp only [List.mem_cons, List.not_mem_nil, or_false] at hm
            rcases hm with rfl | rfl | rfl | rfl
            · exact ⟨_, rfl, Nat.le_trans ht1.len (by decide)⟩
            · exact ⟨_, rfl, Nat.le_trans ht2.len (by decide)⟩
            · exact ⟨_, rfl, Nat.le_trans ht3.len (by decide)⟩
            · exact ⟨_, rfl, Nat.le_trans ht4.len (by decide)⟩
          obtain ⟨z, rfl, hz⟩ := hx'
          walk_at "go"
          refine ⟨P13, _, z, rfl, hz, m13, fun P14 H14 e14 m14 => ?_⟩
          walk_at "go"
          exact ⟨⟨P14, e13.trans e14, m14⟩, _, _, _, rfl⟩
        · rintro σ H' ⟨⟨P13, e13, m13⟩, x1, x2, x3, rfl⟩
          exact ⟨⟨P13, e2.trans (e5.trans (e7.trans (e9.trans (e10.trans (e12.trans e13))))), m13⟩, _, _, _, rfl⟩
      · rintro σ H2 ⟨⟨P2, e2, m2⟩, y1, y2, y3, rfl⟩
        walk_at "go"
        exact q _
end
theorem all_mk {l : PySem.W.OpenLaw} {w : World} {K : PySem.W.Frag} {h : Heap} {mg : Str → Option Value} {fa f0 f1 f2 f3 f4 f5 f6 f7 f8 f9 f10 f11 f12 f13 f14 f15 f16 : Addr} (X : K.In h) (G : h.Ns mainGlobals mg) (hfa : mg "law" = some (.ref fa))
    {od0 an0 od1 an1 od2 an2 od3 an3 od4 an4 od5 an5 od6 an6 od7 an7 od8 an8 od9 an9 od10 an10 od11 an11 od12 an12 od13 an13 od14 an14 od15 an15 od16 an16 : Option Addr} {sl0 sl1 sl2 sl3 sl4 sl5 sl6 sl7 sl8 sl9 sl10 sl11 sl12 sl13 sl14 sl15 sl16 : Array (Option Value)} {oc0 kV0 dc0 pm0 cd0 ct0 oc1 kV1 dc1 pm1 cd1 ct1 oc2 kV2 dc2 pm2 cd2 ct2 oc3 kV3 dc3 pm3 cd3 ct3 oc4 kV4 dc4 pm4 cd4 ct4 oc5 kV5 dc5 pm5 cd5 ct5 oc6 kV6 dc6 pm6 cd6 ct6 oc7 kV7 dc7 pm7 cd7 ct7 oc8 kV8 dc8 pm8 cd8 ct8 oc9 kV9 dc9 pm9 cd9 ct9 oc10 kV10 dc10 pm10 cd10 ct10 oc11 kV11 dc11 pm11 cd11 ct11 oc12 kV12 dc12 pm12 cd12 ct12 oc13 kV13 dc13 pm13 cd13 ct13 oc14 kV14 dc14 pm14 cd14 ct14 oc15 kV15 dc15 pm15 cd15 ct15 oc16 kV16 dc16 pm16 cd16 ct16 : Value} {tq_SIGNS : Tok} {tq_MOST_SIGNS : Tok} {tq_MOST_CONTENT : Tok}
    (a0 : PySem.W.nsIn K mainGlobals "is_name" = some (some (.ref f0)))
    (l0 : K.lookup f0 = some ⟨oc0, od0, .func (PySem.W.fnOf "is_name" "is_name" (defArgs s_is_name) (defBody s_is_name) (defScope s_is_name) .none kV0 dc0 pm0 an0 cd0 ct0), sl0⟩)
    (c0 : PySem.W.codeIn K cd0 "is_name" = true)
    (k0 : PySem.W.keepIn K (.ref f0) = true)
    (a1 : PySem.W.nsIn K mainGlobals "is_content" = some (some (.ref f1)))
    (l1 : K.lookup f1 = some ⟨oc1, od1, .func (PySem.W.fnOf "is_content" "is_content" (defArgs s_is_content) (defBody s_is_content) (defScope s_is_content) .none kV1 dc1 pm1 an1 cd1 ct1), sl1⟩)
    (c1 : PySem.W.codeIn K cd1 "is_content" = true)
    (k1 : PySem.W.keepIn K (.ref f1) = true)
    (a2 : PySem.W.nsIn K mainGlobals "names_of" = some (some (.ref f2)))
    (l2 : K.lookup f2 = some ⟨oc2, od2, .func (PySem.W.fnOf "names_of" "names_of" (defArgs s_names_of) (defBody s_names_of) (defScope s_names_of) .none kV2 dc2 pm2 an2 cd2 ct2), sl2⟩)
    (c2 : PySem.W.codeIn K cd2 "names_of" = true)
    (k2 : PySem.W.keepIn K (.ref f2) = true)
    (a3 : PySem.W.nsIn K mainGlobals "is_path" = some (some (.ref f3)))
    (l3 : K.lookup f3 = some ⟨oc3, od3, .func (PySem.W.fnOf "is_path" "is_path" (defArgs s_is_path) (defBody s_is_path) (defScope s_is_path) .none kV3 dc3 pm3 an3 cd3 ct3), sl3⟩)
    (c3 : PySem.W.codeIn K cd3 "is_path" = true)
    (k3 : PySem.W.keepIn K (.ref f3) = true)
    (a4 : PySem.W.nsIn K mainGlobals "_law_cell_at" = some (some (.ref f4)))
    (l4 : K.lookup f4 = some ⟨oc4, od4, .func (PySem.W.fnOf "_law_cell_at" "_law_cell_at" (defArgs s_law_cell_at) (defBody s_law_cell_at) (defScope s_law_cell_at) .none kV4 dc4 pm4 an4 cd4 ct4), sl4⟩)
    (c4 : PySem.W.codeIn K cd4 "_law_cell_at" = true)
    (k4 : PySem.W.keepIn K (.ref f4) = true)
    (a5 : PySem.W.nsIn K mainGlobals "_law_mix" = some (some (.ref f5)))
    (l5 : K.lookup f5 = some ⟨oc5, od5, .func (PySem.W.fnOf "_law_mix" "_law_mix" (defArgs s_law_mix) (defBody s_law_mix) (defScope s_law_mix) .none kV5 dc5 pm5 an5 cd5 ct5), sl5⟩)
    (c5 : PySem.W.codeIn K cd5 "_law_mix" = true)
    (k5 : PySem.W.keepIn K (.ref f5) = true)
    (a6 : PySem.W.nsIn K mainGlobals "_law_left" = some (some (.ref f6)))
    (l6 : K.lookup f6 = some ⟨oc6, od6, .func (PySem.W.fnOf "_law_left" "_law_left" (defArgs s_law_left) (defBody s_law_left) (defScope s_law_left) .none kV6 dc6 pm6 an6 cd6 ct6), sl6⟩)
    (c6 : PySem.W.codeIn K cd6 "_law_left" = true)
    (k6 : PySem.W.keepIn K (.ref f6) = true)
    (a7 : PySem.W.nsIn K mainGlobals "_law_pick" = some (some (.ref f7)))
    (l7 : K.lookup f7 = some ⟨oc7, od7, .func (PySem.W.fnOf "_law_pick" "_law_pick" (defArgs s_law_pick) (defBody s_law_pick) (defScope s_law_pick) .none kV7 dc7 pm7 an7 cd7 ct7), sl7⟩)
    (c7 : PySem.W.codeIn K cd7 "_law_pick" = true)
    (k7 : PySem.W.keepIn K (.ref f7) = true)
    (a8 : PySem.W.nsIn K mainGlobals "_law_named" = some (some (.ref f8)))
    (l8 : K.lookup f8 = some ⟨oc8, od8, .func (PySem.W.fnOf "_law_named" "_law_named" (defArgs s_law_named) (defBody s_law_named) (defScope s_law_named) .none kV8 dc8 pm8 an8 cd8 ct8), sl8⟩)
    (c8 : PySem.W.codeIn K cd8 "_law_named" = true)
    (k8 : PySem.W.keepIn K (.ref f8) = true)
    (a9 : PySem.W.nsIn K mainGlobals "_law_filled" = some (some (.ref f9)))
    (l9 : K.lookup f9 = some ⟨oc9, od9, .func (PySem.W.fnOf "_law_filled" "_law_filled" (defArgs s_law_filled) (defBody s_law_filled) (defScope s_law_filled) .none kV9 dc9 pm9 an9 cd9 ct9), sl9⟩)
    (c9 : PySem.W.codeIn K cd9 "_law_filled" = true)
    (k9 : PySem.W.keepIn K (.ref f9) = true)
    (a10 : PySem.W.nsIn K mainGlobals "_law_pathed" = some (some (.ref f10)))
    (l10 : K.lookup f10 = some ⟨oc10, od10, .func (PySem.W.fnOf "_law_pathed" "_law_pathed" (defArgs s_law_pathed) (defBody s_law_pathed) (defScope s_law_pathed) .none kV10 dc10 pm10 an10 cd10 ct10), sl10⟩)
    (c10 : PySem.W.codeIn K cd10 "_law_pathed" = true)
    (k10 : PySem.W.keepIn K (.ref f10) = true)
    (a11 : PySem.W.nsIn K mainGlobals "_law_text" = some (some (.ref f11)))
    (l11 : K.lookup f11 = some ⟨oc11, od11, .func (PySem.W.fnOf "_law_text" "_law_text" (defArgs s_law_text) (defBody s_law_text) (defScope s_law_text) .none kV11 dc11 pm11 an11 cd11 ct11), sl11⟩)
    (c11 : PySem.W.codeIn K cd11 "_law_text" = true)
    (k11 : PySem.W.keepIn K (.ref f11) = true)
    (a12 : PySem.W.nsIn K mainGlobals "_law_odd" = some (some (.ref f12)))
    (l12 : K.lookup f12 = some ⟨oc12, od12, .func (PySem.W.fnOf "_law_odd" "_law_odd" (defArgs s_law_odd) (defBody s_law_odd) (defScope s_law_odd) .none kV12 dc12 pm12 an12 cd12 ct12), sl12⟩)
    (c12 : PySem.W.codeIn K cd12 "_law_odd" = true)
    (k12 : PySem.W.keepIn K (.ref f12) = true)
    (a13 : PySem.W.nsIn K mainGlobals "_law_long" = some (some (.ref f13)))
    (l13 : K.lookup f13 = some ⟨oc13, od13, .func (PySem.W.fnOf "_law_long" "_law_long" (defArgs s_law_long) (defBody s_law_long) (defScope s_law_long) .none kV13 dc13 pm13 an13 cd13 ct13), sl13⟩)
    (c13 : PySem.W.codeIn K cd13 "_law_long" = true)
    (k13 : PySem.W.keepIn K (.ref f13) = true)
    (a14 : PySem.W.nsIn K mainGlobals "_law_path" = some (some (.ref f14)))
    (l14 : K.lookup f14 = some ⟨oc14, od14, .func (PySem.W.fnOf "_law_path" "_law_path" (defArgs s_law_path) (defBody s_law_path) (defScope s_law_path) .none kV14 dc14 pm14 an14 cd14 ct14), sl14⟩)
    (c14 : PySem.W.codeIn K cd14 "_law_path" = true)
    (k14 : PySem.W.keepIn K (.ref f14) = true)
    (a15 : PySem.W.nsIn K mainGlobals "_law_told" = some (some (.ref f15)))
    (l15 : K.lookup f15 = some ⟨oc15, od15, .func (PySem.W.fnOf "_law_told" "_law_told" (defArgs s_law_told) (defBody s_law_told) (defScope s_law_told) .none kV15 dc15 pm15 an15 cd15 ct15), sl15⟩)
    (c15 : PySem.W.codeIn K cd15 "_law_told" = true)
    (k15 : PySem.W.keepIn K (.ref f15) = true)
    (a16 : PySem.W.nsIn K mainGlobals "law" = some (some (.ref f16)))
    (l16 : K.lookup f16 = some ⟨oc16, od16, .func (PySem.W.fnOf "law" "law" (defArgs s_law) (defBody s_law) (defScope s_law) .none kV16 dc16 pm16 an16 cd16 ct16), sl16⟩)
    (c16 : PySem.W.codeIn K cd16 "law" = true)
    (k16 : PySem.W.keepIn K (.ref f16) = true)
    (z_all : PySem.W.nsIn K mainGlobals "all" = some none)
    (z_len : PySem.W.nsIn K mainGlobals "len" = some none)
    (z_range : PySem.W.nsIn K mainGlobals "range" = some none)
    (z_abs : PySem.W.nsIn K mainGlobals "abs" = some none)
    (z_isinstance : PySem.W.nsIn K mainGlobals "isinstance" = some none)
    (z_bool : PySem.W.nsIn K mainGlobals "bool" = some none)
    (z_max : PySem.W.nsIn K mainGlobals "max" = some none)
    (z_min : PySem.W.nsIn K mainGlobals "min" = some none)
    (q_SIGNS : PySem.W.nsIn K mainGlobals "SIGNS" = some (some (.str "abcdefghijklmnopqrstuvwxyz0123456789" tq_SIGNS)))
    (q_MOST_SIGNS : PySem.W.nsIn K mainGlobals "MOST_SIGNS" = some (some (.int 8 tq_MOST_SIGNS)))
    (q_MOST_CONTENT : PySem.W.nsIn K mainGlobals "MOST_CONTENT" = some (some (.int 200 tq_MOST_CONTENT)))
    : ∃ fd : FuncData, (∀ (s : Shared) (v : Value), BindsTo s fd ⟨[v], []⟩ [("_law_script", v)]) ∧ ∀ base : Heap, K.In base → base.Ns mainGlobals mg → FnOk l.prog w K mg base CX0 5 fa fd ["_law_script"] (spLaw K) := by
  have e := hfa.symm.trans (PySem.W.mg_of X G a16)
  cases e
  have F0 := fun_mk (st := s_is_name) l0 c0 k0
  have b0 := F0.binds (ps := ["text"]) fun _ _ _ _ _ _ us hl => match us, hl with | [_], _ => rfl
  have F1 := fun_mk (st := s_is_content) l1 c1 k1
  have b1 := F1.binds (ps := ["text"]) fun _ _ _ _ _ _ us hl => match us, hl with | [_], _ => rfl
  have F2 := fun_mk (st := s_names_of) l2 c2 k2
  have b2 := F2.binds (ps := ["text"]) fun _ _ _ _ _ _ us hl => match us, hl with | [_], _ => rfl
  have F3 := fun_mk (st := s_is_path) l3 c3 k3
  have b3 := F3.binds (ps := ["text"]) fun _ _ _ _ _ _ us hl => match us, hl with | [_], _ => rfl
  have F4 := fun_mk (st := s_law_cell_at) l4 c4 k4
  have b4 := F4.binds (ps := ["_law_script", "_law_k"]) fun _ _ _ _ _ _ us hl => match us, hl with | [_, _], _ => rfl
  have F5 := fun_mk (st := s_law_mix) l5 c5 k5
  have b5 := F5.binds (ps := ["_law_cell", "_law_k"]) fun _ _ _ _ _ _ us hl => match us, hl with | [_, _], _ => rfl
  have F6 := fun_mk (st := s_law_left) l6 c6 k6
  have b6 := F6.binds (ps := ["_law_script", "_law_k"]) fun _ _ _ _ _ _ us hl => match us, hl with | [_, _], _ => rfl
  have F7 := fun_mk (st := s_law_pick) l7 c7 k7
  have b7 := F7.binds (ps := ["_law_left_here", "_law_many"]) fun _ _ _ _ _ _ us hl => match us, hl with | [_, _], _ => rfl
  have F8 := fun_mk (st := s_law_named) l8 c8 k8
  have b8 := F8.binds (ps := ["_law_text_here"]) fun _ _ _ _ _ _ us hl => match us, hl with | [_], _ => rfl
  have F9 := fun_mk (st := s_law_filled) l9 c9 k9
  have b9 := F9.binds (ps := ["_law_text_here"]) fun _ _ _ _ _ _ us hl => match us, hl with | [_], _ => rfl
  have F10 := fun_mk (st := s_law_pathed) l10 c10 k10
  have b10 := F10.binds (ps := ["_law_text_here"]) fun _ _ _ _ _ _ us hl => match us, hl with | [_], _ => rfl
  have F11 := fun_mk (st := s_law_text) l11 c11 k11
  have b11 := F11.binds (ps := ["_law_left_here", "_law_many"]) fun _ _ _ _ _ _ us hl => match us, hl with | [_, _], _ => rfl
  have F12 := fun_mk (st := s_law_odd) l12 c12 k12
  have b12 := F12.binds (ps := ["_law_left_here", "_law_text_here"]) fun _ _ _ _ _ _ us hl => match us, hl with | [_, _], _ => rfl
  have F13 := fun_mk (st := s_law_long) l13 c13 k13
  have b13 := F13.binds (ps := ["_law_left_here"]) fun _ _ _ _ _ _ us hl => match us, hl with | [_], _ => rfl
  have F14 := fun_mk (st := s_law_path) l14 c14 k14
  have b14 := F14.binds (ps := ["_law_left_here"]) fun _ _ _ _ _ _ us hl => match us, hl with | [_], _ => rfl
  have F15 := fun_mk (st := s_law_told) l15 c15 k15
  have b15 := F15.binds (ps := ["_law_text_here"]) fun _ _ _ _ _ _ us hl => match us, hl with | [_], _ => rfl
  have F16 := fun_mk (st := s_law) l16 c16 k16
  have b16 := F16.binds (ps := ["_law_script"]) fun _ _ _ _ _ _ us hl => match us, hl with | [_], _ => rfl
  have T : Txt K mg (fun n => [f0, f1, f2, f3, f4, f5, f6, f7, f8, f9, f10, f11, f12, f13, f14, f15, fa].getD n 0) (fun n => [].getD n 0) (fun n => [(PySem.W.fnOf "is_name" "is_name" (defArgs s_is_name) (defBody s_is_name) (defScope s_is_name) .none kV0 dc0 pm0 an0 cd0 ct0), (PySem.W.fnOf "is_content" "is_content" (defArgs s_is_content) (defBody s_is_content) (defScope s_is_content) .none kV1 dc1 pm1 an1 cd1 ct1), (PySem.W.fnOf "names_of" "names_of" (defArgs s_names_of) (defBody s_names_of) (defScope s_names_of) .none kV2 dc2 pm2 an2 cd2 ct2), (PySem.W.fnOf "is_path" "is_path" (defArgs s_is_path) (defBody s_is_path) (defScope s_is_path) .none kV3 dc3 pm3 an3 cd3 ct3), (PySem.W.fnOf "_law_cell_at" "_law_cell_at" (defArgs s_law_cell_at) (defBody s_law_cell_at) (defScope s_law_cell_at) .none kV4 dc4 pm4 an4 cd4 ct4), (PySem.W.fnOf "_law_mix" "_law_mix" (defArgs s_law_mix) (defBody s_law_mix) (defScope s_law_mix) .none kV5 dc5 pm5 an5 cd5 ct5), (PySem.W.fnOf "_law_left" "_law_left" (defArgs s_law_left) (defBody s_law_left) (defScope s_law_left) .none kV6 dc6 pm6 an6 cd6 ct6), (PySem.W.fnOf "_law_pick" "_law_pick" (defArgs s_law_pick) (defBody s_law_pick) (defScope s_law_pick) .none kV7 dc7 pm7 an7 cd7 ct7), (PySem.W.fnOf "_law_named" "_law_named" (defArgs s_law_named) (defBody s_law_named) (defScope s_law_named) .none kV8 dc8 pm8 an8 cd8 ct8), (PySem.W.fnOf "_law_filled" "_law_filled" (defArgs s_law_filled) (defBody s_law_filled) (defScope s_law_filled) .none kV9 dc9 pm9 an9 cd9 ct9), (PySem.W.fnOf "_law_pathed" "_law_pathed" (defArgs s_law_pathed) (defBody s_law_pathed) (defScope s_law_pathed) .none kV10 dc10 pm10 an10 cd10 ct10), (PySem.W.fnOf "_law_text" "_law_text" (defArgs s_law_text) (defBody s_law_text) (defScope s_law_text) .none kV11 dc11 pm11 an11 cd11 ct11), (PySem.W.fnOf "_law_odd" "_law_odd" (defArgs s_law_odd) (defBody s_law_odd) (defScope s_law_odd) .none kV12 dc12 pm12 an12 cd12 ct12), (PySem.W.fnOf "_law_long" "_law_long" (defArgs s_law_long) (defBody s_law_long) (defScope s_law_long) .none kV13 dc13 pm13 an13 cd13 ct13), (PySem.W.fnOf "_law_path" "_law_path" (defArgs s_law_path) (defBody s_law_path) (defScope s_law_path) .none kV14 dc14 pm14 an14 cd14 ct14), (PySem.W.fnOf "_law_told" "_law_told" (defArgs s_law_told) (defBody s_law_told) (defScope s_law_told) .none kV15 dc15 pm15 an15 cd15 ct15), (PySem.W.fnOf "law" "law" (defArgs s_law) (defBody s_law) (defScope s_law) .none kV16 dc16 pm16 an16 cd16 ct16)].getD n (PySem.W.fnOf "is_name" "is_name" (defArgs s_is_name) (defBody s_is_name) (defScope s_is_name) .none kV0 dc0 pm0 an0 cd0 ct0)) := {
    F0 := F0,
    b0 := b0,
    m0 := PySem.W.mg_of X G a0,
    F1 := F1,
    b1 := b1,
    m1 := PySem.W.mg_of X G a1,
    F2 := F2,
    b2 := b2,
    m2 := PySem.W.mg_of X G a2,
    F3 := F3,
    b3 := b3,
    m3 := PySem.W.mg_of X G a3,
    F4 := F4,
    b4 := b4,
    m4 := PySem.W.mg_of X G a4,
    F5 := F5,
    b5 := b5,
    m5 := PySem.W.mg_of X G a5,
    F6 := F6,
    b6 := b6,
    m6 := PySem.W.mg_of X G a6,
    F7 := F7,
    b7 := b7,
    m7 := PySem.W.mg_of X G a7,
    F8 := F8,
    b8 := b8,
    m8 := PySem.W.mg_of X G a8,
    F9 := F9,
    b9 := b9,
    m9 := PySem.W.mg_of X G a9,
    F10 := F10,
    b10 := b10,
    m10 := PySem.W.mg_of X G a10,
    F11 := F11,
    b11 := b11,
    m11 := PySem.W.mg_of X G a11,
    F12 := F12,
    b12 := b12,
    m12 := PySem.W.mg_of X G a12,
    F13 := F13,
    b13 := b13,
    m13 := PySem.W.mg_of X G a13,
    F14 := F14,
    b14 := b14,
    m14 := PySem.W.mg_of X G a14,
    F15 := F15,
    b15 := b15,
    m15 := PySem.W.mg_of X G a15,
    F16 := F16,
    b16 := b16,
    m16 := PySem.W.mg_of X G a16,
    g_all := PySem.W.mg_none_of X G z_all,
    g_len := PySem.W.mg_none_of X G z_len,
    g_range := PySem.W.mg_none_of X G z_range,
    g_abs := PySem.W.mg_none_of X G z_abs,
    g_isinstance := PySem.W.mg_none_of X G z_isinstance,
    g_bool := PySem.W.mg_none_of X G z_bool,
    g_max := PySem.W.mg_none_of X G z_max,
    g_min := PySem.W.mg_none_of X G z_min,
    c_SIGNS := ⟨_, PySem.W.mg_of X G q_SIGNS⟩,
    c_MOST_SIGNS := ⟨_, PySem.W.mg_of X G q_MOST_SIGNS⟩,
    c_MOST_CONTENT := ⟨_, PySem.W.mg_of X G q_MOST_CONTENT⟩ }
  exact ⟨PySem.W.fnOf "law" "law" (defArgs s_law) (defBody s_law) (defScope s_law) .none kV16 dc16 pm16 an16 cd16 ct16, fun s v => .of_eq rfl, fun base _ _ => ok_law T⟩
theorem walk {l : PySem.W.OpenLaw} {q : Program} {loose : List Str} {XP : (Str → Option Value) → Heap → Prop} {YP : World → Heap → Prop} {d : DefRec} {K : Params → PySem.W.Frag} (hn : l.most = some 63) (hdf : d.params.defaults = [])
    (hY : ∀ (w : World) (h : Heap), YP w h → (K w.params).In h)
    (F : ∀ (w : World) (mg : Str → Option Value) (fa : Addr) (h : Heap), (K w.params).In h → h.Ns mainGlobals mg → mg d.name = some (.ref fa) →
      ∃ fd : FuncData, (∀ (s : Shared) (u : Value), BindsTo s fd ⟨[u], []⟩ [("_law_script", u)]) ∧ ∀ base : Heap, (K w.params).In base → base.Ns mainGlobals mg → FnOk l.prog w (K w.params) mg base CX0 5 fa fd ["_law_script"] (spLaw (K w.params))) :
    PySem.W.WalkO q loose XP YP l.row.toRowW d [] (fun f vs => PySem.call f vs) :=
  L2.walk_of (n := 63) (k := 5) (x := "_law_script") (CX := fun _ => CX0) (sp := fun w => spLaw (K w.params)) hn (by decide) hdf ⟨rfl, by decide, by decide⟩ hY F (fun _ _ a ns hl _ hS => ⟨a, ns, rfl, hS, hl, fun _ => rfl⟩) fun _ _ _ _ _ z => z
end Fs
open PySem PySem.W PyProof.Rows in
set_option maxRecDepth 100000 in
set_option maxHeartbeats 0 in
theorem PySem.Challenge.cw_farshelf_k01_names_contents_paths_holds : PySem.Challenge.rw_farshelf_k01_names_contents_paths.Holds := by
  w_on; o_law; k_head; (case hw => w_witness2)
  k_fill
  refine Fs.walk (l := PySem.Challenge.rw_farshelf_k01_names_contents_paths) rfl rfl (fun w h Y => PySem.W.kIn_of Y) ?F
  case F =>
    intro w mg fa h KX G hmg
    refine' Fs.all_mk KX G hmg ?a0 ?l0 ?c0 ?k0 ?a1 ?l1 ?c1 ?k1 ?a2 ?l2 ?c2 ?k2 ?a3 ?l3 ?c3 ?k3 ?a4 ?l4 ?c4 ?k4 ?a5 ?l5 ?c5 ?k5 ?a6 ?l6 ?c6 ?k6 ?a7 ?l7 ?c7 ?k7 ?a8 ?l8 ?c8 ?k8 ?a9 ?l9 ?c9 ?k9 ?a10 ?l10 ?c10 ?k10 ?a11 ?l11 ?c11 ?k11 ?a12 ?l12 ?c12 ?k12 ?a13 ?l13 ?c13 ?k13 ?a14 ?l14 ?c14 ?k14 ?a15 ?l15 ?c15 ?k15 ?a16 ?l16 ?c16 ?k16 ?z_all ?z_len ?z_range ?z_abs ?z_isinstance ?z_bool ?z_max ?z_min ?q_SIGNS ?q_MOST_SIGNS ?q_MOST_CONTENT
    (case a0 => k_is)
    (case l0 => k_is)
    (case c0 => k_is)
    (case k0 => k_is)
    (case a1 => k_is)
    (case l1 => k_is)
    (case c1 => k_is)
    (case k1 => k_is)
    (case a2 => k_is)
    (case l2 => k_is)
    (case c2 => k_is)
    (case k2 => k_is)
    (case a3 => k_is)
    (case l3 => k_is)
    (case c3 => k_is)
    (case k3 => k_is)
    (case a4 => k_is)
    (case l4 => k_is)
    (case c4 => k_is)
    (case k4 => k_is)
    (case a5 => k_is)
    (case l5 => k_is)
    (case c5 => k_is)
    (case k5 => k_is)
    (case a6 => k_is)
    (case l6 => k_is)
    (case c6 => k_is)
    (case k6 => k_is)
    (case a7 => k_is)
    (case l7 => k_is)
    (case c7 => k_is)
    (case k7 => k_is)
    (case a8 => k_is)
    (case l8 => k_is)
    (case c8 => k_is)
    (case k8 => k_is)
    (case a9 => k_is)
    (case l9 => k_is)
    (case c9 => k_is)
    (case k9 => k_is)
    (case a10 => k_is)
    (case l10 => k_is)
    (case c10 => k_is)
    (case k10 => k_is)
    (case a11 => k_is)
    (case l11 => k_is)
    (case c11 => k_is)
    (case k11 => k_is)
    (case a12 => k_is)
    (case l12 => k_is)
    (case c12 => k_is)
    (case k12 => k_is)
    (case a13 => k_is)
    (case l13 => k_is)
    (case c13 => k_is)
    (case k13 => k_is)
    (case a14 => k_is)
    (case l14 => k_is)
    (case c14 => k_is)
    (case k14 => k_is)
    (case a15 => k_is)
    (case l15 => k_is)
    (case c15 => k_is)
    (case k15 => k_is)
    (case a16 => k_is)
    (case l16 => k_is)
    (case c16 => k_is)
    (case k16 => k_is)
    (case z_all => k_is)
    (case z_len => k_is)
    (case z_range => k_is)
    (case z_abs => k_is)
    (case z_isinstance => k_is)
    (case z_bool => k_is)
    (case z_max => k_is)
    (case z_min => k_is)
    (case q_SIGNS => k_is)
    (case q_MOST_SIGNS => k_is)
    (case q_MOST_CONTENT => k_is)

