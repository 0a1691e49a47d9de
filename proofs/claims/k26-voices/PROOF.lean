import PyProof.Rows.All
import Wide.All
import OpenK.AllK
import Wide.FinOn
import HandS.ForMost
import HandS.Evl
import HandS.Wide
import HandS.IsInst
import HandS.TupLe
import HandS.Steps
import HandS.EndBits
import PyProof.ReprRoads
import PyProof.ReprLen
import PyProof.FitsInt
import HandS.StrMore
import PyProof.StrBlock2
import KE.KLam
import KE.KNestM
import KE.DataMinKey
import KE.SortData
import HandS.Lambda
import HandS.EndTab
import HandS.SortKw
import KE.KDictList
import HandS.Dict
import HandS.Iter
import HandS.WordsDict
import HandS.SortInts
import PyProof.Rows.SeqMore
import HandS.Conv
import KE.DatumOrd
import PyProof.DictWalks
import PyProof.DictValues
import PySem.Challenge.RW_farshelf_k26_voices
set_option Elab.async false
set_option maxRecDepth 100000
set_option linter.all false
/-! FsMem: what is kept for good (P) and what may change (a list of pieces), side by side. -/
namespace FS
open PySem L2 Evl

def Dj (h1 h2 : Hp) : Prop := ∀ a, h1 a = none ∨ h2 a = none
theorem Dj.symm {h1 h2 : Hp} (d : Dj h1 h2) : Dj h2 h1 := fun a => (d a).symm
theorem Dj.left {h1 h2 : Hp} (d : Dj h1 h2) {a : Addr} {o : HO} (e : h1 a = some o) : h2 a = none := by
  rcases d a with z | z
  · rw [e] at z; cases z
  · exact z
theorem Dj.right {h1 h2 : Hp} (d : Dj h1 h2) {a : Addr} {o : HO} (e : h2 a = some o) : h1 a = none := d.symm.left e
theorem Dj.sub {h1 h2 k1 k2 : Hp} (d : Dj h1 h2) (e1 : Ex k1 h1) (e2 : Ex k2 h2) : Dj k1 k2 := fun a => by
  cases q : k1 a with
  | none => exact .inl rfl
  | some o =>
    right
    exact fresh_back e2 (d.left (e1 a o q))
def emp : Hp := fun _ => none
theorem emp_ex {h : Hp} : Ex emp h := fun _ _ e => by cases e
def sgl (p : Addr) (o : HO) : Hp := fun b => if b = p then some o else none
def Jn (h1 h2 : Hp) : Hp := fun a => match h1 a with | some o => some o | none => h2 a
theorem Jn.l {h1 h2 : Hp} : Ex h1 (Jn h1 h2) := fun a o e => by unfold Jn; rw [e]
theorem Jn.r {h1 h2 : Hp} (d : Dj h1 h2) : Ex h2 (Jn h1 h2) := fun a o e => by unfold Jn; rw [d.right e]; exact e
theorem Jn.le {h1 h2 h : Hp} (a : Ex h1 h) (b : Ex h2 h) : Ex (Jn h1 h2) h := fun x o e => by
  unfold Jn at e
  cases q : h1 x with
  | none => rw [q] at e; exact b x o e
  | some u => rw [q] at e; exact a x o (q.trans e)
theorem Jn.dj {h1 h2 k : Hp} (a : Dj h1 k) (b : Dj h2 k) : Dj (Jn h1 h2) k := fun x => by
  rcases a x with z | z
  · rcases b x with y | y
    · left; unfold Jn; rw [z]; exact y
    · exact .inr y
  · exact .inr z

/-- a piece of what may change: by what is kept for good, a heap of its own -/
structure Ch where
  on : Hp → Hp → Prop
  up : ∀ {P P' h : Hp}, Ex P P' → on P h → on P' h
def Sep (P : Hp) : List Ch → Hp → Prop
  | [], _ => True
  | c :: cs, h => ∃ h1 h2, c.on P h1 ∧ Sep P cs h2 ∧ Dj h1 h2 ∧ Ex h1 h ∧ Ex h2 h
theorem Sep.up {P P' : Hp} (e : Ex P P') : ∀ {cs : List Ch} {h : Hp}, Sep P cs h → Sep P' cs h
  | [], _, _ => trivial
  | c :: _, _, ⟨h1, h2, a, b, r⟩ => ⟨h1, h2, c.up e a, Sep.up e b, r⟩
theorem Sep.le {P : Hp} {h h' : Hp} (e : Ex h h') : ∀ {cs : List Ch}, Sep P cs h → Sep P cs h'
  | [], _ => trivial
  | c :: _, ⟨h1, h2, a, b, d, r1, r2⟩ => ⟨h1, h2, a, b, d, r1.trans e, r2.trans e⟩
def pt (a : Addr) (o : HO) : Ch := ⟨fun _ h => h a = some o, fun _ e => e⟩
/-- some content with a property -/
def ptx (a : Addr) (p : HO → Prop) : Ch := ⟨fun _ h => ∃ o, h a = some o ∧ p o, fun _ e => e⟩
/-- a piece that is made of others -/
def sep (cs : List Ch) : Ch := ⟨fun P h => Sep P cs h, fun e s => Sep.up e s⟩
def exc {α : Type} (f : α → Ch) : Ch := ⟨fun P h => ∃ x, (f x).on P h, fun e ⟨x, s⟩ => ⟨x, (f x).up e s⟩⟩
/-- a fact about what is kept -/
def fct (φ : Hp → Prop) (m : ∀ P P', Ex P P' → φ P → φ P') : Ch := ⟨fun P _ => φ P, fun e s => m _ _ e s⟩
def pur (φ : Prop) : Ch := ⟨fun _ _ => φ, fun _ s => s⟩

inductive Sel : List Ch → Ch → List Ch → Prop
  | z {c : Ch} {cs : List Ch} : Sel (c :: cs) c cs
  | s {c d : Ch} {cs r : List Ch} : Sel cs c r → Sel (d :: cs) c (d :: r)
theorem Sep.sel {P : Hp} {c : Ch} : ∀ {cs r : List Ch} {h : Hp}, Sel cs c r → Sep P cs h → Sep P (c :: r) h
  | _, _, _, .z, s => s
  | _, _, h, .s q, ⟨h1, h2, a, b, d, e1, e2⟩ => by
    obtain ⟨k1, k2, a', b', d', f1, f2⟩ := Sep.sel q b
    have d1 : Dj h1 k1 := d.sub (Ex.refl _) f1
    have d2 : Dj h1 k2 := d.sub (Ex.refl _) f2
    exact ⟨k1, Jn h1 k2, a', ⟨h1, k2, a, b', d2, Jn.l, Jn.r d2⟩, (Jn.dj d1 d'.symm).symm, f1.trans e2, Jn.le e1 (f2.trans e2)⟩
inductive Per : List Ch → List Ch → Prop
  | nil {cs : List Ch} : Per cs []
  | cons {c : Ch} {cs r qs : List Ch} : Sel cs c r → Per r qs → Per cs (c :: qs)
theorem Sep.per {P : Hp} : ∀ {cs qs : List Ch} {h : Hp}, Per cs qs → Sep P cs h → Sep P qs h
  | _, _, _, .nil, _ => trivial
  | _, _, _, .cons q t, s => by
    obtain ⟨h1, h2, a, b, r⟩ := Sep.sel q s
    exact ⟨h1, h2, a, Sep.per t b, r⟩

/-- P is kept for good, the pieces cs stand apart from it and from one another -/
def Mem (P : Hp) (cs : List Ch) (H : Hp) : Prop := Ex P H ∧ ∃ h, Sep P cs h ∧ Dj P h ∧ Ex h H
theorem Mem.ex {P H : Hp} {cs : List Ch} (m : Mem P cs H) : Ex P H := m.1
theorem Mem.sel {P H : Hp} {cs r : List Ch} {c : Ch} (m : Mem P cs H) (q : Sel cs c r) : Mem P (c :: r) H := by
  obtain ⟨e, h, s, d, l⟩ := m
  exact ⟨e, h, Sep.sel q s, d, l⟩
theorem Mem.per {P H : Hp} {cs qs : List Ch} (m : Mem P cs H) (q : Per cs qs) : Mem P qs H := by
  obtain ⟨e, h, s, d, l⟩ := m
  exact ⟨e, h, Sep.per q s, d, l⟩
theorem Mem.drop {P H : Hp} {cs : List Ch} {c : Ch} (m : Mem P (c :: cs) H) : Mem P cs H := by
  obtain ⟨e, h, ⟨h1, h2, a, b, dd, e1, e2⟩, d, l⟩ := m
  exact ⟨e, h2, b, d.sub (Ex.refl _) e2, e2.trans l⟩
theorem Mem.all {H : Hp} : Mem H [] H := ⟨Ex.refl _, emp, trivial, fun _ => .inr rfl, emp_ex⟩
theorem Mem.rd0 {P H : Hp} {cs : List Ch} {a : Addr} {o : HO} (m : Mem P (pt a o :: cs) H) : H a = some o := by
  obtain ⟨e, h, ⟨h1, h2, q, b, dd, e1, e2⟩, d, l⟩ := m
  exact l _ _ (e1 _ _ q)
theorem Mem.out0 {P H : Hp} {cs : List Ch} {a : Addr} {o : HO} (m : Mem P (pt a o :: cs) H) : P a = none := by
  obtain ⟨e, h, ⟨h1, h2, q, b, dd, e1, e2⟩, d, l⟩ := m
  exact d.right (e1 _ _ q)
theorem Mem.rd {P H : Hp} {cs r : List Ch} {a : Addr} {o : HO} (m : Mem P cs H) (q : Sel cs (pt a o) r) : H a = some o := (m.sel q).rd0
theorem Mem.rdx {P H : Hp} {cs : List Ch} {a : Addr} {p : HO → Prop} (m : Mem P (ptx a p :: cs) H) : ∃ o, p o ∧ Mem P (pt a o :: cs) H := by
  obtain ⟨e, h, ⟨h1, h2, ⟨o, q, po⟩, b, dd, e1, e2⟩, d, l⟩ := m
  exact ⟨o, po, e, h, ⟨h1, h2, q, b, dd, e1, e2⟩, d, l⟩
theorem Mem.tox {P H : Hp} {cs : List Ch} {a : Addr} {o : HO} {p : HO → Prop} (m : Mem P (pt a o :: cs) H) (h : p o) : Mem P (ptx a p :: cs) H := by
  obtain ⟨e, k, ⟨h1, h2, q, b, dd, e1, e2⟩, d, l⟩ := m
  exact ⟨e, k, ⟨h1, h2, ⟨o, q, h⟩, b, dd, e1, e2⟩, d, l⟩
theorem upd_of {H : Hp} {a b : Addr} {o u : HO} (h : upd H a o b = some u) : (b = a ∧ u = o) ∨ (b ≠ a ∧ H b = some u) := by
  by_cases e : b = a
  · subst e; rw [upd_same] at h; exact .inl ⟨rfl, (Option.some.inj h).symm⟩
  · rw [upd_ne e] at h; exact .inr ⟨e, h⟩
theorem Mem.put0 {P H : Hp} {cs : List Ch} {a : Addr} {o o' : HO} (m : Mem P (pt a o :: cs) H) : Mem P (pt a o' :: cs) (upd H a o') := by
  have po := m.out0
  obtain ⟨e, h, ⟨h1, h2, q, b, dd, e1, e2⟩, d, l⟩ := m
  have q' : h1 a = some o := q
  have n2 : h2 a = none := dd.left q'
  refine ⟨e.mut po, upd h a o', ⟨upd h1 a o', h2, upd_same, b, fun x => ?_, fun x u z => ?_, e2.mut n2⟩, fun x => ?_, fun x u z => ?_⟩
  · by_cases z : x = a
    · subst z; exact .inr n2
    · rw [upd_ne z]; exact dd x
  · rcases upd_of z with ⟨rfl, rfl⟩ | ⟨z1, z2⟩
    · exact upd_same
    · rw [upd_ne z1]; exact e1 _ _ z2
  · by_cases z : x = a
    · subst z; exact .inl po
    · rw [upd_ne z]; exact d x
  · rcases upd_of z with ⟨rfl, rfl⟩ | ⟨z1, z2⟩
    · exact upd_same
    · rw [upd_ne z1]; exact l _ _ z2
/-- the piece at a changed within the list of pieces -/
inductive Upd : List Ch → Addr → HO → HO → List Ch → Prop
  | z {a : Addr} {o o' : HO} {cs : List Ch} : Upd (pt a o :: cs) a o o' (pt a o' :: cs)
  | s {a : Addr} {o o' : HO} {c : Ch} {cs r : List Ch} : Upd cs a o o' r → Upd (c :: cs) a o o' (c :: r)
theorem Upd.sel : ∀ {cs r : List Ch} {a : Addr} {o o' : HO}, Upd cs a o o' r → ∃ k, Sel cs (pt a o) k ∧ Sel r (pt a o') k
  | _, _, _, _, _, .z => ⟨_, .z, .z⟩
  | _, _, _, _, _, .s q => let ⟨_, x, y⟩ := Upd.sel q; ⟨_, .s x, .s y⟩
theorem Sep.unsel {P : Hp} {c : Ch} : ∀ {cs r : List Ch} {h : Hp}, Sel cs c r → Sep P (c :: r) h → Sep P cs h
  | _, _, _, .z, s => s
  | _, _, h, .s q, ⟨h1, h2, a, ⟨k1, k2, a', b', d', f1, f2⟩, d, e1, e2⟩ => by
    have d1 : Dj h1 k1 := d.sub (Ex.refl _) f1
    have d2 : Dj h1 k2 := d.sub (Ex.refl _) f2
    exact ⟨k1, Jn h1 k2, a', Sep.unsel q ⟨h1, k2, a, b', d2, Jn.l, Jn.r d2⟩, (Jn.dj d1 d'.symm).symm, f1.trans e2, Jn.le e1 (f2.trans e2)⟩
theorem Mem.unsel {P H : Hp} {cs r : List Ch} {c : Ch} (q : Sel cs c r) (m : Mem P (c :: r) H) : Mem P cs H := by
  obtain ⟨e, h, s, d, l⟩ := m
  exact ⟨e, h, Sep.unsel q s, d, l⟩
theorem Mem.put {P H : Hp} {cs r : List Ch} {a : Addr} {o o' : HO} (m : Mem P cs H) (q : Upd cs a o o' r) : Mem P r (upd H a o') := by
  obtain ⟨k, x, y⟩ := q.sel
  exact Mem.unsel y (m.sel x).put0
theorem Upd.rd {P H : Hp} {cs r : List Ch} {a : Addr} {o o' : HO} (m : Mem P cs H) (q : Upd cs a o o' r) : H a = some o := by
  obtain ⟨k, x, y⟩ := q.sel
  exact (m.sel x).rd0
theorem Mem.new {P H : Hp} {cs : List Ch} {p : Addr} {o : HO} (m : Mem P cs H) (n : H p = none) : Mem P (pt p o :: cs) (upd H p o) := by
  obtain ⟨e, h, s, d, l⟩ := m
  have hn : h p = none := fresh_back l n
  have pn : P p = none := fresh_back e n
  refine ⟨e.mut pn, upd h p o, ⟨sgl p o, h, if_pos rfl, s, fun x => ?_, fun x u z => ?_, (Ex.refl h).mut hn⟩, fun x => ?_, fun x u z => ?_⟩
  · by_cases z : x = p
    · subst z; exact .inr hn
    · exact .inl (if_neg z)
  · unfold sgl at z
    split at z
    · rename_i q; subst q; cases z; exact upd_same
    · cases z
  · by_cases z : x = p
    · subst z; exact .inl pn
    · rw [upd_ne z]; exact d x
  · rcases upd_of z with ⟨rfl, rfl⟩ | ⟨z1, z2⟩
    · exact upd_same
    · rw [upd_ne z1]; exact l _ _ z2
/-- kept for good from now on -/
theorem Mem.freeze {P H : Hp} {cs : List Ch} {a : Addr} {o : HO} (m : Mem P (pt a o :: cs) H) : Mem (upd P a o) cs H ∧ Ex P (upd P a o) := by
  have po := m.out0
  have ho := m.rd0
  obtain ⟨e, h, ⟨h1, h2, q, b, dd, e1, e2⟩, d, l⟩ := m
  have q' : h1 a = some o := q
  have n2 : h2 a = none := dd.left q'
  have eP : Ex P (upd P a o) := Ex.new po
  refine ⟨⟨fun x u z => ?_, h2, Sep.up eP b, fun x => ?_, e2.trans l⟩, eP⟩
  · rcases upd_of z with ⟨rfl, rfl⟩ | ⟨z1, z2⟩
    · exact ho
    · exact e _ _ z2
  · by_cases z : x = a
    · subst z; exact .inr n2
    · rw [upd_ne z]; exact (d.sub (Ex.refl _) e2) x
theorem Mem.newP {P H : Hp} {cs : List Ch} {p : Addr} {o : HO} (m : Mem P cs H) (n : H p = none) : Mem (upd P p o) cs (upd H p o) ∧ Ex P (upd P p o) := (m.new n).freeze
/-- pieces made of pieces -/
theorem Mem.open {P H : Hp} {cs ds : List Ch} (m : Mem P (sep ds :: cs) H) : Mem P (ds ++ cs) H := by
  obtain ⟨e, h, ⟨h1, h2, q, b, dd, e1, e2⟩, d, l⟩ := m
  refine ⟨e, h, ?_, d, l⟩
  have q' : Sep P ds h1 := q
  clear q
  induction ds generalizing h1 h with
  | nil => exact Sep.le e2 b
  | cons c ds ih =>
    obtain ⟨k1, k2, a', b', d', f1, f2⟩ := q'
    have dk2 : Dj k2 h2 := dd.sub f2 (Ex.refl _)
    have dk1 : Dj k1 h2 := dd.sub f1 (Ex.refl _)
    have le2 : Ex (Jn k2 h2) h := Jn.le (f2.trans e1) e2
    exact ⟨k1, Jn k2 h2, a', ih (Jn k2 h2) k2 dk2 Jn.l (Jn.r dk2) (d.sub (Ex.refl _) le2) (le2.trans l) b', (Jn.dj d'.symm dk1.symm).symm, f1.trans e1, le2⟩
theorem Mem.close {P H : Hp} {cs ds : List Ch} (m : Mem P (ds ++ cs) H) : Mem P (sep ds :: cs) H := by
  obtain ⟨e, h, s, d, l⟩ := m
  refine ⟨e, h, ?_, d, l⟩
  clear d l
  induction ds generalizing h with
  | nil => exact ⟨emp, h, trivial, s, fun _ => .inl rfl, emp_ex, Ex.refl _⟩
  | cons c ds ih =>
    obtain ⟨k1, k2, a', b', d', f1, f2⟩ := s
    obtain ⟨g1, g2, x, y, dd, i1, i2⟩ := ih k2 b'
    have d1 : Dj k1 g1 := d'.sub (Ex.refl _) i1
    have d2 : Dj k1 g2 := d'.sub (Ex.refl _) i2
    exact ⟨Jn k1 g1, g2, ⟨k1, g1, a', x, d1, Jn.l, Jn.r d1⟩, y, Jn.dj d2 dd, Jn.le f1 (i1.trans f2), i2.trans f2⟩
theorem Mem.exE {P H : Hp} {cs : List Ch} {α : Type} {f : α → Ch} (m : Mem P (exc f :: cs) H) : ∃ x, Mem P (f x :: cs) H := by
  obtain ⟨e, h, ⟨h1, h2, ⟨x, q⟩, b, r⟩, d⟩ := m
  exact ⟨x, e, h, ⟨h1, h2, q, b, r⟩, d⟩
theorem Mem.exI {P H : Hp} {cs : List Ch} {α : Type} {f : α → Ch} (x : α) (m : Mem P (f x :: cs) H) : Mem P (exc f :: cs) H := by
  obtain ⟨e, h, ⟨h1, h2, q, b, r⟩, d⟩ := m
  exact ⟨e, h, ⟨h1, h2, ⟨x, q⟩, b, r⟩, d⟩
theorem Mem.purE {P H : Hp} {cs : List Ch} {φ : Prop} (m : Mem P (pur φ :: cs) H) : φ ∧ Mem P cs H := by
  have z := m.drop
  obtain ⟨e, h, ⟨h1, h2, q, b, r⟩, d⟩ := m
  exact ⟨q, z⟩
theorem Mem.purI {P H : Hp} {cs : List Ch} {φ : Prop} (h : φ) (m : Mem P cs H) : Mem P (pur φ :: cs) H := by
  obtain ⟨e, k, s, d, l⟩ := m
  exact ⟨e, k, ⟨emp, k, h, s, fun _ => .inl rfl, emp_ex, Ex.refl _⟩, d, l⟩
theorem Mem.fctE {P H : Hp} {cs : List Ch} {φ : Hp → Prop} {mo} (m : Mem P (fct φ mo :: cs) H) : φ P ∧ Mem P cs H := by
  have z := m.drop
  obtain ⟨e, h, ⟨h1, h2, q, b, r⟩, d⟩ := m
  exact ⟨q, z⟩
theorem Mem.fctI {P H : Hp} {cs : List Ch} {φ : Hp → Prop} {mo} (h : φ P) (m : Mem P cs H) : Mem P (fct φ mo :: cs) H := by
  obtain ⟨e, k, s, d, l⟩ := m
  exact ⟨e, k, ⟨emp, k, h, s, fun _ => .inl rfl, emp_ex, Ex.refl _⟩, d, l⟩

/-! ### data that is kept -/
mutual
theorem Dp.up {K : PySem.W.Frag} {P P' : Hp} (e : Ex P P') : ∀ {v : V} {d : PyData}, Dp K P v d → Dp K P' v d
  | _, _, .non => .non
  | _, _, .bl b => .bl b
  | _, _, .int i => .int i
  | _, _, .str x => .str x
  | _, _, .lst h a => .lst (ex_l e h) (DpAll.up e a)
  | _, _, .tup h a => .tup (ex_t e h) (DpAll.up e a)
theorem DpAll.up {K : PySem.W.Frag} {P P' : Hp} (e : Ex P P') : ∀ {vs : List V} {ds : List PyData}, DpAll K P vs ds → DpAll K P' vs ds
  | _, _, .nil => .nil
  | _, _, .cons a b => .cons (Dp.up e a) (DpAll.up e b)
end
theorem Mem.sqL {K : PySem.W.Frag} {Pa P H : Hp} {cs : List Ch} {a : Addr} {xs : List V} (m : Mem P cs H) (h : SqL K Pa a xs) (e : Ex Pa P) : SqL K H a xs := ex_l (e.trans m.ex) h
theorem Mem.sqT {K : PySem.W.Frag} {Pa P H : Hp} {cs : List Ch} {a : Addr} {xs : List V} (m : Mem P cs H) (h : SqT K Pa a xs) (e : Ex Pa P) : SqT K H a xs := ex_t (e.trans m.ex) h
theorem Mem.sqLp {K : PySem.W.Frag} {P H : Hp} {cs r : List Ch} {a : Addr} {xs : List V} (m : Mem P cs H) (q : Sel cs (pt a (.lst xs)) r) : SqL K H a xs := SqL.of (m.rd q)

theorem sqL_up {K : PySem.W.Frag} {P P' : Hp} {a : Addr} {xs : List V} (h : SqL K P a xs) (e : Ex P P') : SqL K P' a xs := ex_l e h
theorem sqT_up {K : PySem.W.Frag} {P P' : Hp} {a : Addr} {xs : List V} (h : SqT K P a xs) (e : Ex P P') : SqT K P' a xs := ex_t e h
theorem dp_up {K : PySem.W.Frag} {P P' : Hp} {v : V} {d : PyData} (h : Dp K P v d) (e : Ex P P') : Dp K P' v d := Dp.up e h
theorem sz_up {n : Nat} (h : n ≤ 100000) : n ≤ sizeLine := sz_of h
/-! ### readings: a name stored, an object made -/
inductive SetS : List (Option V) → Nat → V → List (Option V) → Prop
  | z {v : V} {x : Option V} {r : List (Option V)} : SetS (x :: r) 0 v (some v :: r)
  | s {v : V} {x : Option V} {r r' : List (Option V)} {n : Nat} : SetS r n v r' → SetS (x :: r) (n + 1) v (x :: r')
theorem SetS.eq : ∀ {σ σ' : List (Option V)} {i : Nat} {v : V}, SetS σ i v σ' → σ.set i (some v) = σ'
  | _, _, _, _, .z => rfl
  | _, _, _, _, .s q => by rw [List.set_cons_succ, SetS.eq q]
theorem i_name {i : Nat} {v : V} {σ σ' : L2.St} {H : Hp} {Q : L2.St → Hp → Prop} (h : SetS σ i v σ') (q : Q σ' H) : gName i v σ H Q := by
  show Q (σ.set i (some v)) H
  rw [h.eq]; exact q
theorem i_set {i : Nat} {te : TE} {D : Ends} {σ : L2.St} {H : Hp} (h : te σ H fun v H1 => gName i v σ H1 D.nx) : tAsg te (gName i) D σ H := h
theorem i_asg {te : TE} {g : TG} {D : Ends} {σ : L2.St} {H : Hp} (h : te σ H fun v H1 => g v σ H1 D.nx) : tAsg te g D σ H := h
theorem i_seq {t u : TS} {D : Ends} {σ : L2.St} {H : Hp} (h : t { D with nx := u D } σ H) : tSeq t u D σ H := h
theorem i_next {D : Ends} {σ : L2.St} {H : Hp} (h : D.nx σ H) : tNext D σ H := h
theorem i_ret {te : TE} {D : Ends} {σ : L2.St} {H : Hp} (h : te σ H D.rt) : tRet te D σ H := h
theorem i_drop {te : TE} {D : Ends} {σ : L2.St} {H : Hp} (h : te σ H fun _ H1 => D.nx σ H1) : tDrop te D σ H := h
theorem i_var {i : Nat} {σ : L2.St} {H : Hp} {v : V} {Q : VK} (h : σ[i]? = some (some v)) (q : Q v H) : tVar i σ H Q := ⟨v, h, q⟩
theorem i_c {v : V} {σ : L2.St} {H : Hp} {Q : VK} (q : Q v H) : tC v σ H Q := q
theorem i_op {r : R2} {ta tb : TE} {σ : L2.St} {H : Hp} {Q : VK} (h : ta σ H fun x H1 => tb σ H1 fun y H2 => r x y H2 Q) : tOp r ta tb σ H Q := h
theorem i_un {r : V → Hp → VK → Prop} {ta : TE} {σ : L2.St} {H : Hp} {Q : VK} (h : ta σ H fun x H1 => r x H1 Q) : tUn r ta σ H Q := h
theorem i_rI0 {g : Int → Int → V} {i j : Int} {H : Hp} {Q : VK} (q : Q (g i j) H) : rI0 g (.int i) (.int j) H Q := ⟨i, j, rfl, rfl, q⟩
theorem i_rI {C : Int → Int → Prop} {g : Int → Int → V} {i j : Int} {H : Hp} {Q : VK} (c : C i j) (q : Q (g i j) H) : rI C g (.int i) (.int j) H Q := ⟨i, j, rfl, rfl, c, q⟩
theorem i_rU {g : Int → V} {i : Int} {H : Hp} {Q : VK} (q : Q (g i) H) : rU g (.int i) H Q := ⟨i, rfl, q⟩
theorem i_eqI {i j : Int} {H : Hp} {Q : VK} (q : Q (.bl (decide (i = j))) H) : rEq (.int i) (.int j) H Q := by
  refine ⟨rfl, ?_⟩
  rw [show decide (V.int i = V.int j) = decide (i = j) from by simp only [V.int.injEq]]
  exact q
theorem i_neI {i j : Int} {H : Hp} {Q : VK} (q : Q (.bl (!decide (i = j))) H) : rNe (.int i) (.int j) H Q := by
  refine ⟨rfl, ?_⟩
  rw [show decide (V.int i = V.int j) = decide (i = j) from by simp only [V.int.injEq]]
  exact q
theorem i_eqB {i j : Bool} {H : Hp} {Q : VK} (q : Q (.bl (decide (i = j))) H) : rEq (.bl i) (.bl j) H Q := by
  refine ⟨rfl, ?_⟩
  rw [show decide (V.bl i = V.bl j) = decide (i = j) from by simp only [V.bl.injEq]]
  exact q
theorem i_neB {i j : Bool} {H : Hp} {Q : VK} (q : Q (.bl (!decide (i = j))) H) : rNe (.bl i) (.bl j) H Q := by
  refine ⟨rfl, ?_⟩
  rw [show decide (V.bl i = V.bl j) = decide (i = j) from by simp only [V.bl.injEq]]
  exact q
theorem i_eqS {i j : Str} {H : Hp} {Q : VK} (q : Q (.bl (decide (i = j))) H) : rEq (.str i) (.str j) H Q := by
  refine ⟨rfl, ?_⟩
  rw [show decide (V.str i = V.str j) = decide (i = j) from by simp only [V.str.injEq]]
  exact q
theorem i_neS {i j : Str} {H : Hp} {Q : VK} (q : Q (.bl (!decide (i = j))) H) : rNe (.str i) (.str j) H Q := by
  refine ⟨rfl, ?_⟩
  rw [show decide (V.str i = V.str j) = decide (i = j) from by simp only [V.str.injEq]]
  exact q
theorem i_isN {v : V} {H : Hp} {Q : VK} (q : Q (.bl (decide (v = .non))) H) : rIsN v .non H Q := ⟨rfl, q⟩
theorem i_aNil {σ : L2.St} {H : Hp} {Q : List V → Hp → Prop} (q : Q [] H) : tNil σ H Q := q
theorem i_aCons {ta : TE} {tr : TA} {σ : L2.St} {H : Hp} {Q : List V → Hp → Prop} (h : ta σ H fun x H1 => tr σ H1 fun xs H2 => Q (x :: xs) H2) : tCons ta tr σ H Q := h
theorem i_cb {r : List V → Hp → VK → Prop} {t : TA} {σ : L2.St} {H : Hp} {Q : VK} (h : t σ H fun vs H1 => r vs H1 Q) : tCB r t σ H Q := h
theorem i_call {sp : Sp} {dvs : List V} {E : XK} {t : TA} {σ : L2.St} {H : Hp} {Q : VK} (h : t σ H fun vs H1 => sp (vs ++ dvs) H1 Q E) : tCall sp dvs E t σ H Q := h
theorem i_test {t : TE} {σ : L2.St} {H : Hp} {Q : Bool → Hp → Prop} (h : t σ H fun x H' => ∃ k, x = .bl k ∧ Q k H') : tTest t σ H Q := h
theorem i_tB {t : TE} {σ : L2.St} {H : Hp} {Q : Bool → Hp → Prop} (h : t σ H fun x H' => ∃ k, x = .bl k ∧ Q k H') : tB t σ H Q := h
theorem i_tb {b : Bool} {H : Hp} {Q : Bool → Hp → Prop} (h : Q b H) : ∃ k, V.bl b = .bl k ∧ Q k H := ⟨b, rfl, h⟩
/-- an object laid at a new place, what follows told of it -/
def NewO (o : HO) (H : Hp) (Q : VK) : Prop := ∀ p, H p = none → Q (.ref p) (upd H p o)
theorem i_newP {P H : Hp} {cs : List Ch} {o : HO} {Q : VK} (m : Mem P cs H) (q : ∀ p P' H', Mem P' cs H' → Ex P P' → P' p = some o → Q (.ref p) H') : NewO o H Q := fun p n => q p _ _ (m.newP n).1 (m.newP n).2 upd_same
theorem i_newT {K : PySem.W.Frag} {P H : Hp} {cs : List Ch} {xs : List V} {Q : VK} (m : Mem P cs H) (q : ∀ p P' H', Mem P' cs H' → Ex P P' → SqT K P' p xs → Q (.ref p) H') : NewO (.tup xs) H Q :=
  fun p n => q p _ _ (m.newP n).1 (m.newP n).2 (SqT.of upd_same)
theorem i_newL {K : PySem.W.Frag} {P H : Hp} {cs : List Ch} {xs : List V} {Q : VK} (m : Mem P cs H) (q : ∀ p P' H', Mem P' cs H' → Ex P P' → SqL K P' p xs → Q (.ref p) H') : NewO (.lst xs) H Q :=
  fun p n => q p _ _ (m.newP n).1 (m.newP n).2 (SqL.of upd_same)
theorem i_newM {P H : Hp} {cs : List Ch} {o : HO} {Q : VK} (m : Mem P cs H) (q : ∀ p H', Mem P (pt p o :: cs) H' → Q (.ref p) H') : NewO o H Q := fun p n => q p _ (m.new n)
def NewT (xs : List V) (H : Hp) (Q : VK) : Prop := xs.length ≤ sizeLine ∧ NewO (.tup xs) H Q
def NewL (xs : List V) (H : Hp) (Q : VK) : Prop := xs.length ≤ sizeLine ∧ NewO (.lst xs) H Q
theorem i_NT {xs : List V} {H : Hp} {Q : VK} (hl : xs.length ≤ 100000) (h : NewO (.tup xs) H Q) : NewT xs H Q := ⟨sz_of hl, h⟩
theorem i_NL {xs : List V} {H : Hp} {Q : VK} (hl : xs.length ≤ 100000) (h : NewO (.lst xs) H Q) : NewL xs H Q := ⟨sz_of hl, h⟩
theorem i_tup {ta : TA} {σ : L2.St} {H : Hp} {Q : VK} (h : ta σ H fun xs H1 => NewT xs H1 Q) : tTup ta σ H Q := h
theorem i_lst {ta : TA} {σ : L2.St} {H : Hp} {Q : VK} (h : ta σ H fun xs H1 => NewL xs H1 Q) : tLst ta σ H Q := h
theorem i_ixL {K : PySem.W.Frag} {p : Addr} {xs : List V} {i : Int} {v : V} {H : Hp} {Q : VK} (h : SqL K H p xs) (ha : atI xs i = some v) (q : Q v H) : rIxL K (.ref p) (.int i) H Q := ⟨p, xs, i, v, rfl, rfl, h, ha, q⟩
theorem i_ixT {K : PySem.W.Frag} {p : Addr} {xs : List V} {i : Int} {v : V} {H : Hp} {Q : VK} (h : SqT K H p xs) (ha : atI xs i = some v) (q : Q v H) : rIxT K (.ref p) (.int i) H Q := ⟨p, xs, i, v, rfl, rfl, h, ha, q⟩
end FS

set_option Elab.async false
set_option maxRecDepth 100000
set_option linter.all false
/-! FsGo: readings, by leaves. -/
namespace FS
open PySem L2 Evl
/-! loops -/
theorem i_for {wi : TI} {g : TG} {tb : TS} {D : Ends} {σ : L2.St} {H : Hp} (h : wi σ H fun J H1 => ∃ W : Nat → Nat → L2.St → Hp → Prop, (∃ m, W 0 m σ H1) ∧ ∀ i m σ H, W i m σ H →
  (J.stop i H ∧ D.nx σ H) ∨ (J.go i H ∧ ∃ N : L2.St → Hp → Prop, (∀ σ' H', N σ' H' → ∃ m', m' < m ∧ W (i + 1) m' σ' H') ∧ ∀ x H', J.yld i H x H' → g x σ H' fun σ2 H2 => tb { D with nx := N, ct := N, bk := D.nx } σ2 H2)) : tFor wi g tb D σ H := h
theorem i_iList {K : PySem.W.Frag} {tl : TE} {σ : L2.St} {H : Hp} {R : It → Hp → Prop} (h : tl σ H fun x H1 => ∃ a, x = .ref a ∧ (∃ xs, SqL K H1 a xs) ∧ R (Itl K a) H1) : iList K tl σ H R := h
theorem i_iTup {K : PySem.W.Frag} {tl : TE} {σ : L2.St} {H : Hp} {R : It → Hp → Prop} (h : tl σ H fun x H1 => ∃ a, x = .ref a ∧ (∃ xs, SqT K H1 a xs) ∧ R (Itt K a) H1) : iTup K tl σ H R := h
theorem i_iEnum {K : PySem.W.Frag} {ta : TA} {σ : L2.St} {H : Hp} {R : It → Hp → Prop} (h : ta σ H fun vs H1 => ∃ a xs, vs = [.ref a] ∧ SqL K H1 a xs ∧ R (Ite K a) H1) : iEnum K ta σ H R := h
theorem i_iRng1 {ta : TA} {σ : L2.St} {H : Hp} {R : It → Hp → Prop} (h : ta σ H fun vs H1 => ∃ j : Int, vs = [.int j] ∧ -(2 ^ 62) ≤ j ∧ j < 2 ^ 62 ∧ R (Itr 0 j.toNat) H1) : iRng1 ta σ H R := h
theorem i_iRng2 {ta : TA} {σ : L2.St} {H : Hp} {R : It → Hp → Prop} (h : ta σ H fun vs H1 => ∃ i j : Int, vs = [.int i, .int j] ∧ (-(2 ^ 62) ≤ i ∧ i < 2 ^ 62 ∧ -(2 ^ 62) ≤ j ∧ j < 2 ^ 62) ∧ R (Itr i (j - i).toNat) H1) : iRng2 ta σ H R := h
theorem l_list {K : PySem.W.Frag} {a : Addr} {xs : List V} {g : TG} {tb : TS} {D : Ends} {σ : L2.St} {H : Hp} (hq : SqL K H a xs) (Pv : Nat → L2.St → Hp → Prop) (h0 : Pv 0 σ H) (hl : ∀ i σ H, i ≤ xs.length → Pv i σ H → SqL K H a xs)
    (hs : ∀ i x σ H, xs[i]? = some x → Pv i σ H → g x σ H fun σ2 H2 => tb { D with nx := Pv (i + 1), ct := Pv (i + 1), bk := D.nx } σ2 H2) (hd : ∀ σ H, Pv xs.length σ H → D.nx σ H) :
    ∃ b, V.ref a = .ref b ∧ (∃ xs, SqL K H b xs) ∧ ∃ W : Nat → Nat → L2.St → Hp → Prop, (∃ m, W 0 m σ H) ∧ ∀ i m σ H, W i m σ H →
      ((Itl K b).stop i H ∧ D.nx σ H) ∨ ((Itl K b).go i H ∧ ∃ N : L2.St → Hp → Prop, (∀ σ' H', N σ' H' → ∃ m', m' < m ∧ W (i + 1) m' σ' H') ∧ ∀ x H', (Itl K b).yld i H x H' → g x σ H' fun σ2 H2 => tb { D with nx := N, ct := N, bk := D.nx } σ2 H2) :=
  ⟨a, rfl, ⟨_, hq⟩, for_list Pv h0 hl hs hd⟩
theorem l_tup {K : PySem.W.Frag} {a : Addr} {xs : List V} {g : TG} {tb : TS} {D : Ends} {σ : L2.St} {H : Hp} (hq : SqT K H a xs) (Pv : Nat → L2.St → Hp → Prop) (h0 : Pv 0 σ H) (hl : ∀ i σ H, i ≤ xs.length → Pv i σ H → SqT K H a xs)
    (hs : ∀ i x σ H, xs[i]? = some x → Pv i σ H → g x σ H fun σ2 H2 => tb { D with nx := Pv (i + 1), ct := Pv (i + 1), bk := D.nx } σ2 H2) (hd : ∀ σ H, Pv xs.length σ H → D.nx σ H) :
    ∃ b, V.ref a = .ref b ∧ (∃ xs, SqT K H b xs) ∧ ∃ W : Nat → Nat → L2.St → Hp → Prop, (∃ m, W 0 m σ H) ∧ ∀ i m σ H, W i m σ H →
      ((Itt K b).stop i H ∧ D.nx σ H) ∨ ((Itt K b).go i H ∧ ∃ N : L2.St → Hp → Prop, (∀ σ' H', N σ' H' → ∃ m', m' < m ∧ W (i + 1) m' σ' H') ∧ ∀ x H', (Itt K b).yld i H x H' → g x σ H' fun σ2 H2 => tb { D with nx := N, ct := N, bk := D.nx } σ2 H2) :=
  ⟨a, rfl, ⟨_, hq⟩, for_tup Pv h0 hl hs hd⟩
theorem l_enum {K : PySem.W.Frag} {a : Addr} {xs : List V} {g : TG} {tb : TS} {D : Ends} {σ : L2.St} {H : Hp} (hq : SqL K H a xs) (Pv : Nat → L2.St → Hp → Prop) (h0 : Pv 0 σ H) (hl : ∀ i σ H, i ≤ xs.length → Pv i σ H → SqL K H a xs)
    (hs : ∀ i x σ H T, xs[i]? = some x → Pv i σ H → H T = none → g (.ref T) σ (upd H T (.tup [.int (i : Int), x])) fun σ2 H2 => tb { D with nx := Pv (i + 1), ct := Pv (i + 1), bk := D.nx } σ2 H2) (hd : ∀ σ H, Pv xs.length σ H → D.nx σ H) :
    ∃ b ys, [V.ref a] = [.ref b] ∧ SqL K H b ys ∧ ∃ W : Nat → Nat → L2.St → Hp → Prop, (∃ m, W 0 m σ H) ∧ ∀ i m σ H, W i m σ H →
      ((Ite K b).stop i H ∧ D.nx σ H) ∨ ((Ite K b).go i H ∧ ∃ N : L2.St → Hp → Prop, (∀ σ' H', N σ' H' → ∃ m', m' < m ∧ W (i + 1) m' σ' H') ∧ ∀ x H', (Ite K b).yld i H x H' → g x σ H' fun σ2 H2 => tb { D with nx := N, ct := N, bk := D.nx } σ2 H2) := by
  refine ⟨a, xs, rfl, hq, fun i m σ H => m = xs.length - i ∧ i ≤ xs.length ∧ Pv i σ H, ⟨xs.length, by simp, Nat.zero_le _, h0⟩, ?_⟩
  rintro i m σ H ⟨rfl, hi, p⟩
  have q := hl i σ H hi p
  by_cases hlt : i < xs.length
  · refine .inr ⟨⟨xs, xs[i], q, by simp [hlt]⟩, Pv (i + 1), fun σ' H' p' => ⟨xs.length - (i + 1), by omega, rfl, hlt, p'⟩, fun x H' y => ?_⟩
    obtain ⟨T, x', rfl, hT, rfl, e⟩ := y
    exact hs i x' σ H T (e xs q) p hT
  · have e : i = xs.length := by omega
    subst e
    exact .inl ⟨⟨xs, q, Nat.le_refl _⟩, hd σ H p⟩
theorem l_range1 {j : Int} {g : TG} {tb : TS} {D : Ends} {σ : L2.St} {H : Hp} (h1 : -(2 ^ 62) ≤ j) (h2 : j < 2 ^ 62) (Pv : Nat → L2.St → Hp → Prop) (h0 : Pv 0 σ H)
    (hs : ∀ (i : Nat) σ H, (i : Int) < j → Pv i σ H → g (.int (i : Int)) σ H fun σ2 H2 => tb { D with nx := Pv (i + 1), ct := Pv (i + 1), bk := D.nx } σ2 H2) (hd : ∀ σ H, Pv j.toNat σ H → D.nx σ H) :
    ∃ k : Int, [V.int j] = [.int k] ∧ -(2 ^ 62) ≤ k ∧ k < 2 ^ 62 ∧ ∃ W : Nat → Nat → L2.St → Hp → Prop, (∃ m, W 0 m σ H) ∧ ∀ i m σ H, W i m σ H →
      ((Itr 0 k.toNat).stop i H ∧ D.nx σ H) ∨ ((Itr 0 k.toNat).go i H ∧ ∃ N : L2.St → Hp → Prop, (∀ σ' H', N σ' H' → ∃ m', m' < m ∧ W (i + 1) m' σ' H') ∧ ∀ x H', (Itr 0 k.toNat).yld i H x H' → g x σ H' fun σ2 H2 => tb { D with nx := N, ct := N, bk := D.nx } σ2 H2) :=
  ⟨j, rfl, h1, h2, for_range (lo := 0) (n := j.toNat) Pv h0 (fun i σ H hi p => by rw [Int.zero_add]; exact hs i σ H (by omega) p) hd⟩

/-- a comprehension over a list: what is kept grows, the new list at D -/
theorem l_lc {K : PySem.W.Frag} {P : Hp} {cs : List Ch} {a : Addr} {xs : List V} {g : TG} {tt : TT} {te : TE} {vs : List Nat} {σ : L2.St} {H : Hp} {Qd : Addr → Hp → Prop} (m : Mem P cs H) (hl : ∀ P' H' c, Ex P P' → Mem P' (c :: cs) H' → SqL K H' a xs) (R : Nat → List V → Hp → Prop) (h0 : R 0 [] P)
    (hs : ∀ i x P' H' acc D, xs[i]? = some x → Ex P P' → Mem P' (pt D (.lst acc) :: cs) H' → R i acc P' → ∀ (Kt : VK) (Kf : Hp → Prop),
      (∀ y P4 H4, Ex P' P4 → Mem P4 (pt D (.lst acc) :: cs) H4 → acc.length < 100000 → R (i + 1) (acc ++ [y]) P4 → Kt y H4) → (∀ P4 H4, Ex P' P4 → Mem P4 (pt D (.lst acc) :: cs) H4 → R (i + 1) acc P4 → Kf H4) →
      g x (wipe σ vs) H' fun σ2 H2 => wipe σ2 vs = wipe σ vs ∧ tt σ2 H2 fun b H3 => if b = true then te σ2 H3 Kt else Kf H3)
    (hd : ∀ D P' H' acc, Ex P P' → Mem P' (pt D (.lst acc) :: cs) H' → R xs.length acc P' → Qd D H') :
    ∃ b, V.ref a = .ref b ∧ (∃ xs, SqL K H b xs) ∧ ∀ D, H D = none → ∃ W : Nat → Nat → Hp → Prop, (∃ m, W 0 m (upd H D (.lst []))) ∧ ∀ i m H, W i m H →
      ((Itl K b).stop i H ∧ Qd D H) ∨ ((Itl K b).go i H ∧ ∃ Nx : Hp → Prop, (∀ H', Nx H' → ∃ m', m' < m ∧ W (i + 1) m' H') ∧ ∀ x H', (Itl K b).yld i H x H' → g x (wipe σ vs) H' fun σ2 H2 => wipe σ2 vs = wipe σ vs ∧ tt σ2 H2 fun b H3 =>
        if b = true then te σ2 H3 fun y H4 => ∃ acc, H4 D = some (.lst acc) ∧ acc.length < sizeLine ∧ Nx (upd H4 D (.lst (acc ++ [y]))) else Nx H3) := by
  have hq : SqL K H a xs := by
    have z := hl P H (pur True) (Ex.refl _) (Mem.purI trivial m)
    exact z
  refine ⟨a, rfl, ⟨xs, hq⟩, fun D hD => ?_⟩
  refine lc_list (K := K) (a := a) (xs := xs) (Qd := Qd D) (fun i H' => ∃ P' acc, Ex P P' ∧ Mem P' (pt D (.lst acc) :: cs) H' ∧ R i acc P') ⟨P, [], Ex.refl _, m.new hD, h0⟩ (fun i H' _ ⟨P', acc, e, m', _⟩ => hl P' H' _ e m') (fun i x H' hx ⟨P', acc, e, m', r⟩ => ?_) (fun H' ⟨P', acc, e, m', r⟩ => hd D P' H' acc e m' r)
  exact hs i x P' H' acc D hx e m' r _ _ (fun y P4 H4 e4 m4 l4 r4 => ⟨acc, m4.rd0, sz_lt l4, P4, _, e.trans e4, m4.put0, r4⟩) (fun P4 H4 e4 m4 r4 => ⟨P4, acc, e.trans e4, m4, r4⟩)
theorem l_lcT {K : PySem.W.Frag} {P : Hp} {cs : List Ch} {a : Addr} {xs : List V} {g : TG} {tt : TT} {te : TE} {vs : List Nat} {σ : L2.St} {H : Hp} {Qd : Addr → Hp → Prop} (m : Mem P cs H) (hq : SqT K P a xs) (R : Nat → List V → Hp → Prop) (h0 : R 0 [] P)
    (hs : ∀ i x P' H' acc D, xs[i]? = some x → Ex P P' → Mem P' (pt D (.lst acc) :: cs) H' → R i acc P' → ∀ (Kt : VK) (Kf : Hp → Prop),
      (∀ y P4 H4, Ex P' P4 → Mem P4 (pt D (.lst acc) :: cs) H4 → acc.length < 100000 → R (i + 1) (acc ++ [y]) P4 → Kt y H4) → (∀ P4 H4, Ex P' P4 → Mem P4 (pt D (.lst acc) :: cs) H4 → R (i + 1) acc P4 → Kf H4) →
      g x (wipe σ vs) H' fun σ2 H2 => wipe σ2 vs = wipe σ vs ∧ tt σ2 H2 fun b H3 => if b = true then te σ2 H3 Kt else Kf H3)
    (hd : ∀ D P' H' acc, Ex P P' → Mem P' (pt D (.lst acc) :: cs) H' → R xs.length acc P' → Qd D H') :
    ∃ b, V.ref a = .ref b ∧ (∃ xs, SqT K H b xs) ∧ ∀ D, H D = none → ∃ W : Nat → Nat → Hp → Prop, (∃ m, W 0 m (upd H D (.lst []))) ∧ ∀ i m H, W i m H →
      ((Itt K b).stop i H ∧ Qd D H) ∨ ((Itt K b).go i H ∧ ∃ Nx : Hp → Prop, (∀ H', Nx H' → ∃ m', m' < m ∧ W (i + 1) m' H') ∧ ∀ x H', (Itt K b).yld i H x H' → g x (wipe σ vs) H' fun σ2 H2 => wipe σ2 vs = wipe σ vs ∧ tt σ2 H2 fun b H3 =>
        if b = true then te σ2 H3 fun y H4 => ∃ acc, H4 D = some (.lst acc) ∧ acc.length < sizeLine ∧ Nx (upd H4 D (.lst (acc ++ [y]))) else Nx H3) := by
  refine ⟨a, rfl, ⟨xs, ex_t m.ex hq⟩, fun D hD => ?_⟩
  refine lc_tup (K := K) (a := a) (xs := xs) (Qd := Qd D) (fun i H' => ∃ P' acc, Ex P P' ∧ Mem P' (pt D (.lst acc) :: cs) H' ∧ R i acc P') ⟨P, [], Ex.refl _, m.new hD, h0⟩ (fun i H' _ ⟨P', acc, e, m', _⟩ => ex_t (e.trans m'.ex) hq) (fun i x H' hx ⟨P', acc, e, m', r⟩ => ?_) (fun H' ⟨P', acc, e, m', r⟩ => hd D P' H' acc e m' r)
  exact hs i x P' H' acc D hx e m' r _ _ (fun y P4 H4 e4 m4 l4 r4 => ⟨acc, m4.rd0, sz_lt l4, P4, _, e.trans e4, m4.put0, r4⟩) (fun P4 H4 e4 m4 r4 => ⟨P4, acc, e.trans e4, m4, r4⟩)
theorem l_lcR {P : Hp} {cs : List Ch} {j : Int} {g : TG} {tt : TT} {te : TE} {vs : List Nat} {σ : L2.St} {H : Hp} {Qd : Addr → Hp → Prop} (h1 : -(2 ^ 62) ≤ j) (h2 : j < 2 ^ 62) (m : Mem P cs H) (R : Nat → List V → Hp → Prop) (h0 : R 0 [] P)
    (hs : ∀ (i : Nat) P' H' acc D, (i : Int) < j → Ex P P' → Mem P' (pt D (.lst acc) :: cs) H' → R i acc P' → ∀ (Kt : VK) (Kf : Hp → Prop),
      (∀ y P4 H4, Ex P' P4 → Mem P4 (pt D (.lst acc) :: cs) H4 → acc.length < 100000 → R (i + 1) (acc ++ [y]) P4 → Kt y H4) → (∀ P4 H4, Ex P' P4 → Mem P4 (pt D (.lst acc) :: cs) H4 → R (i + 1) acc P4 → Kf H4) →
      g (.int (i : Int)) (wipe σ vs) H' fun σ2 H2 => wipe σ2 vs = wipe σ vs ∧ tt σ2 H2 fun b H3 => if b = true then te σ2 H3 Kt else Kf H3)
    (hd : ∀ D P' H' acc, Ex P P' → Mem P' (pt D (.lst acc) :: cs) H' → R j.toNat acc P' → Qd D H') :
    ∃ k : Int, [V.int j] = [.int k] ∧ -(2 ^ 62) ≤ k ∧ k < 2 ^ 62 ∧ ∀ D, H D = none → ∃ W : Nat → Nat → Hp → Prop, (∃ m, W 0 m (upd H D (.lst []))) ∧ ∀ i m H, W i m H →
      ((Itr 0 k.toNat).stop i H ∧ Qd D H) ∨ ((Itr 0 k.toNat).go i H ∧ ∃ Nx : Hp → Prop, (∀ H', Nx H' → ∃ m', m' < m ∧ W (i + 1) m' H') ∧ ∀ x H', (Itr 0 k.toNat).yld i H x H' → g x (wipe σ vs) H' fun σ2 H2 => wipe σ2 vs = wipe σ vs ∧ tt σ2 H2 fun b H3 =>
        if b = true then te σ2 H3 fun y H4 => ∃ acc, H4 D = some (.lst acc) ∧ acc.length < sizeLine ∧ Nx (upd H4 D (.lst (acc ++ [y]))) else Nx H3) := by
  refine ⟨j, rfl, h1, h2, fun D hD => ?_⟩
  refine lc_range (lo := 0) (n := j.toNat) (Qd := Qd D) (fun i H' => ∃ P' acc, Ex P P' ∧ Mem P' (pt D (.lst acc) :: cs) H' ∧ R i acc P') ⟨P, [], Ex.refl _, m.new hD, h0⟩ (fun i H' hi ⟨P', acc, e, m', r⟩ => ?_) (fun H' ⟨P', acc, e, m', r⟩ => hd D P' H' acc e m' r)
  rw [Int.zero_add]
  exact hs i P' H' acc D (by omega) e m' r _ _ (fun y P4 H4 e4 m4 l4 r4 => ⟨acc, m4.rd0, sz_lt l4, P4, _, e.trans e4, m4.put0, r4⟩) (fun P4 H4 e4 m4 r4 => ⟨P4, acc, e.trans e4, m4, r4⟩)
theorem i_lc {wi : TI} {g : TG} {tt : TT} {te : TE} {vs : List Nat} {σ : L2.St} {H : Hp} {Q : VK} (h : wi σ H fun J H1 => ∀ D, H1 D = none → ∃ W : Nat → Nat → Hp → Prop, (∃ m, W 0 m (upd H1 D (.lst []))) ∧ ∀ i m H, W i m H →
      (J.stop i H ∧ Q (.ref D) H) ∨ (J.go i H ∧ ∃ Nx : Hp → Prop, (∀ H', Nx H' → ∃ m', m' < m ∧ W (i + 1) m' H') ∧ ∀ x H', J.yld i H x H' → g x (wipe σ vs) H' fun σ2 H2 => wipe σ2 vs = wipe σ vs ∧ tt σ2 H2 fun b H3 =>
        if b = true then te σ2 H3 fun y H4 => ∃ acc, H4 D = some (.lst acc) ∧ acc.length < sizeLine ∧ Nx (upd H4 D (.lst (acc ++ [y]))) else Nx H3)) : tLc wi g tt te vs σ H Q := h
theorem i_yes {σ : L2.St} {H : Hp} {Q : Bool → Hp → Prop} (h : Q true H) : tYes σ H Q := h
/-! tests -/
theorem i_ifS {c : TT} {t u : TS} {D : Ends} {σ : L2.St} {H : Hp} (h : c σ H fun b H1 => if b = true then t D σ H1 else u D σ H1) : tIfS c t u D σ H := h
theorem i_if {t : TT} {ta tb : TE} {σ : L2.St} {H : Hp} {Q : VK} (h : t σ H fun c H1 => if c = true then ta σ H1 Q else tb σ H1 Q) : tIf t ta tb σ H Q := h
theorem i_and {t u : TT} {σ : L2.St} {H : Hp} {Q : Bool → Hp → Prop} (h : t σ H fun c H1 => if c = true then u σ H1 Q else Q false H1) : tAnd t u σ H Q := h
theorem i_or {t u : TT} {σ : L2.St} {H : Hp} {Q : Bool → Hp → Prop} (h : t σ H fun c H1 => if c = true then Q true H1 else u σ H1 Q) : tOr t u σ H Q := h
theorem i_not {t : TT} {σ : L2.St} {H : Hp} {Q : Bool → Hp → Prop} (h : t σ H fun c H1 => Q (!c) H1) : tNot t σ H Q := h
theorem i_andV {ta tb : TE} {σ : L2.St} {H : Hp} {Q : VK} (h : ta σ H fun x H1 => ∃ c, x = .bl c ∧ if c = true then tb σ H1 Q else Q (.bl false) H1) : tAndV ta tb σ H Q := h
theorem i_orV {ta tb : TE} {σ : L2.St} {H : Hp} {Q : VK} (h : ta σ H fun x H1 => ∃ c, x = .bl c ∧ if c = true then Q (.bl true) H1 else tb σ H1 Q) : tOrV ta tb σ H Q := h
theorem i_notV {ta : TE} {σ : L2.St} {H : Hp} {Q : VK} (h : ta σ H fun x H1 => ∃ c, x = .bl c ∧ Q (.bl (!c)) H1) : tNotV ta σ H Q := h
theorem i_chain {r r' : R2} {ta tb tc : TE} {σ : L2.St} {H : Hp} {Q : VK} (h : ta σ H fun x H1 => tb σ H1 fun y H2 => r x y H2 fun z H3 => ∃ k, z = .bl k ∧ if k = true then tc σ H3 fun w H4 => r' y w H4 Q else Q (.bl false) H3) : tChain r r' ta tb tc σ H Q := h
theorem i_iteNT {A B : Prop} (h : B) : if (!true) = true then A else B := h
theorem i_iteNF {A B : Prop} (h : A) : if (!false) = true then A else B := h
theorem i_ite {b : Bool} {A B : Prop} (h1 : b = true → A) (h2 : b = false → B) : if b = true then A else B := by
  cases b with
  | true => exact iteT (h1 rfl)
  | false => exact iteF (h2 rfl)
theorem i_dec {p : Prop} {_ : Decidable p} {A B : Prop} (h1 : p → A) (h2 : ¬ p → B) : if decide p = true then A else B := by
  by_cases h : p
  · rw [decide_eq_true h]; exact iteT (h1 h)
  · rw [decide_eq_false h]; exact iteF (h2 h)
theorem i_ndec {p : Prop} {_ : Decidable p} {A B : Prop} (h1 : ¬ p → A) (h2 : p → B) : if (!decide p) = true then A else B := by
  by_cases h : p
  · rw [decide_eq_true h]; exact iteF (h2 h)
  · rw [decide_eq_false h]; exact iteT (h1 h)
/-! small powers of ten -/
theorem i_pow {i j : Int} {r : Int} {H : Hp} {Q : VK} (c : CPow i j) (e : i ^ j.toNat = r) (q : Q (.int r) H) : rI CPow (fun i j => V.int (i ^ j.toNat)) (.int i) (.int j) H Q := ⟨i, j, rfl, rfl, c, by show Q (.int (i ^ j.toNat)) H; rw [e]; exact q⟩
theorem i_p12 {H : Hp} {Q : VK} (q : Q (.int 1000000000000) H) : rI CPow (fun i j => V.int (i ^ j.toNat)) (.int 10) (.int 12) H Q := i_pow ⟨by decide, by decide, by decide⟩ (by decide) q
theorem i_p18 {H : Hp} {Q : VK} (q : Q (.int 1000000000000000000) H) : rI CPow (fun i j => V.int (i ^ j.toNat)) (.int 10) (.int 18) H Q := i_pow ⟨by decide, by decide, by decide⟩ (by decide) q
theorem i_p11 {H : Hp} {Q : VK} (q : Q (.int 100000000000) H) : rI CPow (fun i j => V.int (i ^ j.toNat)) (.int 10) (.int 11) H Q := i_pow ⟨by decide, by decide, by decide⟩ (by decide) q
theorem i_p9 {H : Hp} {Q : VK} (q : Q (.int 1000000000) H) : rI CPow (fun i j => V.int (i ^ j.toNat)) (.int 10) (.int 9) H Q := i_pow ⟨by decide, by decide, by decide⟩ (by decide) q
theorem i_p6 {H : Hp} {Q : VK} (q : Q (.int 1000000) H) : rI CPow (fun i j => V.int (i ^ j.toNat)) (.int 10) (.int 6) H Q := i_pow ⟨by decide, by decide, by decide⟩ (by decide) q
/-! calls of built-ins -/
theorem i_slice {r : V → Option Int → Option Int → Hp → VK → Prop} {te : TE} {tl th : TO} {σ : L2.St} {H : Hp} {Q : VK} (h : te σ H fun x H1 => tl σ H1 fun l H2 => th σ H2 fun u H3 => r x l u H3 Q) : tSl r te tl th σ H Q := h
theorem i_someI {i : Int} {R : Int → Prop} (h : R i) : ∃ j, V.int i = .int j ∧ R j := ⟨i, rfl, h⟩
theorem i_blI {b : Bool} {R : Bool → Prop} (h : R b) : ∃ k, V.bl b = .bl k ∧ R k := ⟨b, rfl, h⟩
theorem i_noPart {σ : L2.St} {H : Hp} {Q : Option Int → Hp → Prop} (h : Q none H) : tNoPart σ H Q := h
theorem i_part {t : TE} {σ : L2.St} {H : Hp} {Q : Option Int → Hp → Prop} (h : t σ H fun x H1 => ∃ i, x = .int i ∧ Q (some i) H1) : tPart t σ H Q := h
theorem i_slL {K : PySem.W.Frag} {H : Hp} {a : Addr} {xs : List V} {lo hi : Option Int} {Q : VK} (h : SqL K H a xs) (q : NewO (.lst (cutV xs lo hi)) H Q) : rSlL K (.ref a) lo hi H Q := ⟨a, xs, rfl, h, q⟩
theorem i_cat {P H : Hp} {cs r r2 : List Ch} {a b : Addr} {xs ys : List V} {Q : VK} (m : Mem P cs H) (h1 : Sel cs (pt a (.lst xs)) r) (h2 : Sel cs (pt b (.lst ys)) r2) (hz : xs.length + ys.length ≤ 100000)
    (q : NewO (.lst (xs ++ ys)) H Q) : rCat (.ref a) (.ref b) H Q := ⟨a, b, xs, ys, rfl, rfl, m.rd h1, m.rd h2, sz_of hz, q⟩
inductive SetV : List V → Nat → V → List V → Prop
  | z {v x : V} {r : List V} : SetV (x :: r) 0 v (v :: r)
  | s {v x : V} {r r' : List V} {n : Nat} : SetV r n v r' → SetV (x :: r) (n + 1) v (x :: r')
theorem SetV.eq : ∀ {xs ys : List V} {i : Nat} {v : V}, SetV xs i v ys → xs.set i v = ys
  | _, _, _, _, .z => rfl
  | _, _, _, _, .s q => by rw [List.set_cons_succ, SetV.eq q]
theorem SetV.lt : ∀ {xs ys : List V} {i : Nat} {v : V}, SetV xs i v ys → i < xs.length
  | _, _, _, _, .z => Nat.succ_pos _
  | _, _, _, _, .s q => Nat.succ_lt_succ (SetV.lt q)
theorem ixN_of {n k : Nat} (h : k < n) : ixN n (@OfNat.ofNat Int k instOfNat) = some k := by
  have e : (@OfNat.ofNat Int k instOfNat) = (k : Int) := rfl
  rw [e]
  unfold ixN
  rw [if_pos (by omega), if_pos (by omega)]
  rfl
theorem i_setL {P H : Hp} {cs r r0 : List Ch} {a : Addr} {xs ys : List V} {j : Nat} {v : V} {Q : Hp → Prop} (m : Mem P cs H) (h0 : Sel cs (pt a (.lst xs)) r0) (e : SetV xs j v ys) (h : Upd cs a (.lst xs) (.lst ys) r) (q : ∀ H', Mem P r H' → Q H') : rSetL (.ref a) (.int (@OfNat.ofNat Int j instOfNat)) v H Q :=
  ⟨a, xs, _, j, rfl, rfl, m.rd h0, ixN_of e.lt, q _ (by rw [e.eq]; exact m.put h)⟩
theorem i_setLv {P H : Hp} {cs r r0 : List Ch} {a : Addr} {xs : List V} {i : Int} {v : V} {Q : Hp → Prop} (m : Mem P cs H) (h0 : Sel cs (pt a (.lst xs)) r0) (i0 : 0 ≤ i) (i1 : i < xs.length) (h : Upd cs a (.lst xs) (.lst (xs.set i.toNat v)) r) (q : ∀ H', Mem P r H' → Q H') : rSetL (.ref a) (.int i) v H Q := by
  refine ⟨a, xs, i, i.toNat, rfl, rfl, m.rd h0, ?_, q _ (m.put h)⟩
  unfold ixN
  rw [if_pos i0, if_pos i1]
theorem i_gSub {to ti : TE} {t : TSet} {v : V} {σ : L2.St} {H : Hp} {Q : L2.St → Hp → Prop} (h : to σ H fun o H1 => ti σ H1 fun i H2 => t o i v H2 fun H3 => Q σ H3) : gSub to ti t v σ H Q := h
theorem i_gTup {K : PySem.W.Frag} {n : Nat} {t : TGs} {a : Addr} {xs : List V} {σ : L2.St} {H : Hp} {Q : L2.St → Hp → Prop} (h : SqT K H a xs) (hl : xs.length = n) (q : t xs σ H Q) : gTup K n t (.ref a) σ H Q := ⟨a, xs, rfl, h, hl, q⟩
theorem i_gCons {t : TG} {u : TGs} {v : V} {r : List V} {σ : L2.St} {H : Hp} {Q : L2.St → Hp → Prop} (q : t v σ H fun σ' H' => u r σ' H' Q) : gCons t u (v :: r) σ H Q := ⟨v, r, rfl, q⟩
theorem i_gNil {σ : L2.St} {H : Hp} {Q : L2.St → Hp → Prop} (q : Q σ H) : gNil [] σ H Q := ⟨rfl, q⟩
theorem Mem.enum {K : PySem.W.Frag} {P H : Hp} {cs : List Ch} {T : Addr} {xs : List V} (m : Mem P cs H) (n : H T = none) : ∃ P', Mem P' cs (upd H T (.tup xs)) ∧ Ex P P' ∧ SqT K P' T xs := ⟨_, (m.newP n).1, (m.newP n).2, SqT.of upd_same⟩
theorem i_isi {K : PySem.W.Frag} {x c : V} {t u : Value} {b : Bool} {H : Hp} {Q : VK} (k : ClsV c u) (ty : TyX K H x t) (e : PySem.W.kitOne K t u = some b) (q : Q (.bl b) H) : rIsi K [x, c] H Q := ⟨x, c, t, u, b, rfl, k, ty, e, q⟩
theorem kb_bool_bool : L2.kitB "bool" "bool" = some true := by decide +kernel
theorem kb_bool_int : L2.kitB "bool" "int" = some true := by decide +kernel
theorem kb_bool_str : L2.kitB "bool" "str" = some false := by decide +kernel
theorem kb_bool_list : L2.kitB "bool" "list" = some false := by decide +kernel
theorem kb_bool_tuple : L2.kitB "bool" "tuple" = some false := by decide +kernel
theorem kb_bool_dict : L2.kitB "bool" "dict" = some false := by decide +kernel
theorem kb_int_bool : L2.kitB "int" "bool" = some false := by decide +kernel
theorem kb_int_int : L2.kitB "int" "int" = some true := by decide +kernel
theorem kb_int_str : L2.kitB "int" "str" = some false := by decide +kernel
theorem kb_int_list : L2.kitB "int" "list" = some false := by decide +kernel
theorem kb_int_tuple : L2.kitB "int" "tuple" = some false := by decide +kernel
theorem kb_int_dict : L2.kitB "int" "dict" = some false := by decide +kernel
theorem kb_str_bool : L2.kitB "str" "bool" = some false := by decide +kernel
theorem kb_str_int : L2.kitB "str" "int" = some false := by decide +kernel
theorem kb_str_str : L2.kitB "str" "str" = some true := by decide +kernel
theorem kb_str_list : L2.kitB "str" "list" = some false := by decide +kernel
theorem kb_str_tuple : L2.kitB "str" "tuple" = some false := by decide +kernel
theorem kb_str_dict : L2.kitB "str" "dict" = some false := by decide +kernel
theorem kb_NoneType_bool : L2.kitB "NoneType" "bool" = some false := by decide +kernel
theorem kb_NoneType_int : L2.kitB "NoneType" "int" = some false := by decide +kernel
theorem kb_NoneType_str : L2.kitB "NoneType" "str" = some false := by decide +kernel
theorem kb_NoneType_list : L2.kitB "NoneType" "list" = some false := by decide +kernel
theorem kb_NoneType_tuple : L2.kitB "NoneType" "tuple" = some false := by decide +kernel
theorem kb_NoneType_dict : L2.kitB "NoneType" "dict" = some false := by decide +kernel
theorem kb_list_bool : L2.kitB "list" "bool" = some false := by decide +kernel
theorem kb_list_int : L2.kitB "list" "int" = some false := by decide +kernel
theorem kb_list_str : L2.kitB "list" "str" = some false := by decide +kernel
theorem kb_list_list : L2.kitB "list" "list" = some true := by decide +kernel
theorem kb_list_tuple : L2.kitB "list" "tuple" = some false := by decide +kernel
theorem kb_list_dict : L2.kitB "list" "dict" = some false := by decide +kernel
theorem kb_tuple_bool : L2.kitB "tuple" "bool" = some false := by decide +kernel
theorem kb_tuple_int : L2.kitB "tuple" "int" = some false := by decide +kernel
theorem kb_tuple_str : L2.kitB "tuple" "str" = some false := by decide +kernel
theorem kb_tuple_list : L2.kitB "tuple" "list" = some false := by decide +kernel
theorem kb_tuple_tuple : L2.kitB "tuple" "tuple" = some true := by decide +kernel
theorem kb_tuple_dict : L2.kitB "tuple" "dict" = some false := by decide +kernel
theorem kb_dict_bool : L2.kitB "dict" "bool" = some false := by decide +kernel
theorem kb_dict_int : L2.kitB "dict" "int" = some false := by decide +kernel
theorem kb_dict_str : L2.kitB "dict" "str" = some false := by decide +kernel
theorem kb_dict_list : L2.kitB "dict" "list" = some false := by decide +kernel
theorem kb_dict_tuple : L2.kitB "dict" "tuple" = some false := by decide +kernel
theorem kb_dict_dict : L2.kitB "dict" "dict" = some true := by decide +kernel
end FS

set_option Elab.async false
set_option maxRecDepth 100000
set_option linter.all false
/-! FsRule: the layer's rules with the written part named, their readings named. -/
namespace FS
open PySem PySem.Spec PyProof.Rows L2 Evl
section
variable {X : Cx} {K : PySem.W.Frag}
theorem ixL (h : X.K = K) : IxR X (rIxL K) := by subst h; exact ix_list
theorem ixT (h : X.K = K) : IxR X (rIxT K) := by subst h; exact ix_tup
theorem slL (h : X.K = K) : SlR X (rSlL K) := by subst h; exact sl_list
theorem slT (h : X.K = K) : SlR X (rSlT K) := by subst h; exact sl_tup
def rLen (K : PySem.W.Frag) : List V → Hp → VK → Prop := fun xs H Q => ∃ p ys, xs = [.ref p] ∧ (SqL K H p ys ∨ SqT K H p ys) ∧ Q (.int ys.length) H
theorem lenQ (h : X.K = K) : CallR X (.builtin "len") (rLen K) := by subst h; exact call_len_seq
def rLenStr : List V → Hp → VK → Prop := fun xs H Q => ∃ y : Str, xs = [.str y] ∧ y.length ≤ sizeLine ∧ Q (.int y.length) H
theorem lenS : CallR X (.builtin "len") rLenStr := fun pins s σ H xs us Q I r ⟨y, e, hl, q⟩ => call_len pins s σ H xs us Q I r ⟨.str y, y.length, e, ⟨hl, rfl⟩, q⟩
theorem sumK (h : X.K = K) (hc : X.calm = true) : CallR X (.builtin "sum") (rSum K) := by subst h; exact cr_sum hc
theorem allK (h : X.K = K) (hc : X.calm = true) : CallR X (.builtin "all") (rAll K) := by subst h; exact cr_all hc
theorem anyK (h : X.K = K) (hc : X.calm = true) : CallR X (.builtin "any") (rAny K) := by subst h; exact cr_any hc
theorem maxK (h : X.K = K) (hc : X.calm = true) : CallR X (.builtin "max") (rMax K) := by subst h; exact cr_max hc
theorem minK (h : X.K = K) (hc : X.calm = true) : CallR X (.builtin "min") (rMin K) := by subst h; exact cr_min hc
theorem eqD (h : X.K = K) (hu : X.A.units + 64 < cLine) : OpR X (compareOp .Eq) (rEqD K) := by subst h; exact op_eqD hu
theorem neD (h : X.K = K) (hu : X.A.units + 64 < cLine) : OpR X (compareOp .NotEq) (rNeD K) := by subst h; exact op_neD hu
theorem inQ (h : X.K = K) : OpR X (compareOp .In) (rIn K false) := by subst h; exact op_in_seq
theorem ninQ (h : X.K = K) : OpR X (compareOp .NotIn) (rIn K true) := by subst h; exact op_notIn_seq
theorem catT (h : X.K = K) : OpR X (binaryOp .Add) (rCatT K) := by subst h; exact op_catT
def rListOf (K : PySem.W.Frag) : List V → Hp → VK → Prop := fun xs H Q => ∃ p ys, xs = [.ref p] ∧ (SqL K H p ys ∨ SqT K H p ys) ∧ NewO (.lst ys) H Q
theorem listOf (h : X.K = K) : CallR X (.type "list") (rListOf K) := by subst h; exact call_list_of
/-- tuple(l) of a list -/
def rTupOf (K : PySem.W.Frag) : List V → Hp → VK → Prop := fun xs H Q => ∃ p ys, xs = [.ref p] ∧ SqL K H p ys ∧ NewO (.tup ys) H Q
theorem tupOf (h : X.K = K) : CallR X (.type "tuple") (rTupOf K) := by
  subst h
  exact fun pins s σ H xs us Q I r ⟨p, ys, e, hq, q⟩ => call_tuple_of pins s σ H xs us Q I r ⟨p, ys, e, .inl ⟨hq, q⟩⟩
theorem isiK (h : X.K = K) : CallR X (.builtin "isinstance") (rIsi K) := by subst h; exact call_isi
theorem isiTK (h : X.K = K) : CallR X (.builtin "isinstance") (rIsiT K) := by subst h; exact call_isiT
def rAbs : List V → Hp → VK → Prop := fun xs H Q => ∃ i, xs = [.int i] ∧ Q (.int (if i < 0 then -i else i)) H
theorem absI : CallR X (.builtin "abs") rAbs := call_abs
def rMx2 : List V → Hp → VK → Prop := fun xs H Q => ∃ i j, xs = [.int i, .int j] ∧ Q (.int (if j > i then j else i)) H
theorem mx2 (hc : X.calm = true) : CallR X (.builtin "max") rMx2 := call_max2 hc
def rMn2 : List V → Hp → VK → Prop := fun xs H Q => ∃ i j, xs = [.int i, .int j] ∧ Q (.int (if j < i then j else i)) H
theorem mn2 (hc : X.calm = true) : CallR X (.builtin "min") rMn2 := call_min2 hc
def rIsBl : R2 := fun x y H Q => ∃ a b, x = .bl a ∧ y = .bl b ∧ Q (.bl (decide (a = b))) H
def rNotBl : R2 := fun x y H Q => ∃ a b, x = .bl a ∧ y = .bl b ∧ Q (.bl (!decide (a = b))) H
theorem isBl : OpR X (compareOp .Is) rIsBl := op_is_bl
theorem notBl : OpR X (compareOp .IsNot) rNotBl := op_isnot_bl

variable {tg l e o value : Expr} {es : List Expr} {tl te ta tv to : TE} {t : TA} {p pos tpos pos' apos cpos : Pos} {f name : Str}
theorem piL (h : X.K = K) (hl : PE X l tl) : PI X tg l (iList K tl) := by subst h; exact pi_list hl
theorem piT (h : X.K = K) (hl : PE X l tl) : PI X tg l (iTup K tl) := by subst h; exact pi_tup hl
theorem piE {elts : List Expr} {kk : Nat} (h : X.K = K) (hg : Gl X "enumerate") (hm : X.mg "enumerate" = none) (ha : PA X [e] t) (hs : starEach [e] X.env = [(false, eval e X.env)] := by rfl) :
    PI X (.Tuple elts kk tpos) (.Call (.Name "enumerate" p) [e] [] pos) (iEnum K t) := by subst h; exact pi_enum hg hm ha hs
theorem piZ {e2 : Expr} {elts : List Expr} {kk : Nat} (h : X.K = K) (hg : Gl X "zip") (hm : X.mg "zip" = none) (ha : PA X [e, e2] t)
    (hs : starEach [e, e2] X.env = (false, eval e X.env) :: starEach [e2] X.env := by rfl) (hpl : (backTo pos (starEach [e2] X.env)).any (·.1) = false := by rfl) :
    PI X (.Tuple elts kk tpos) (.Call (.Name "zip" p) [e, e2] [] pos) (iZip K t) := by subst h; exact pi_zip hg hm ha hs hpl
theorem peF (h : X.K = K) (he : PE X e ta) (hb : attributeBase e f X.env (eval e X.env) = eval e X.env) : PE X (.Attribute e f pos) (tFld K ta f) := by subst h; exact pe_fld he hb
theorem psF (h : X.K = K) (ha : PE X o ta) (hv : PE X value tv) (hs : swapsWith value (some (.Attribute o f pos')) pos.line X.env = pure false) : PS X (.Assign [.Attribute o f pos'] value pos) (sFld K ta tv f) := by subst h; exact ps_fld ha hv hs
theorem psFA {op : Operator} {rd : V → V → Hp → VK → Prop} (h : X.K = K) (ha : PE X o ta) (hv : PE X value tv) (hop : InOp X op rd) : PS X (.AugAssign (.Attribute o f tpos) op value pos) (sFldAug K ta tv rd f) := by subst h; exact ps_fldaug ha hv hop
theorem peM0 {T id : String} {r : V → List V → Hp → VK → Prop} (h : X.K = K) (pa : PlainAttrs T) (slot : Slot T name id) (hty : typeOf (.builtin id) = pure (.type "method_descriptor")) (hm : MtR X id r) (ho : PE X o to)
    (hbase : attributeBase o name X.env (eval o X.env) = eval o X.env := by rfl) (hline : (apos.endLine == cpos.line) = true := by rfl) : PE X (.Call (.Attribute o name apos) [] [] cpos) (tBM0 K T r to) := by
  subst h; exact pe_bm0 pa slot hty hm ho hbase hline
theorem peM {T id : String} {r : V → List V → Hp → VK → Prop} (h : X.K = K) (pa : PlainAttrs T) (slot : Slot T name id) (hty : typeOf (.builtin id) = pure (.type "method_descriptor")) (hm : MtR X id r) (ho : PE X o to) (ha : PA X (e :: es) t)
    (hbase : attributeBase o name X.env (eval o X.env) = eval o X.env := by rfl)
    (hfew : ((backTo cpos (starEach (e :: es) X.env)).all (fun x => !x.1) && (backToKw cpos (keywordEach [] X.env)).all (fun x => x.1.isSome)
      && decide ((e :: es).length + ([] : List Keyword).length + (if ([] : List Keyword).isEmpty then 0 else 1) < 30)) = true := by rfl)
    (hline : (apos.endLine == cpos.line) = true := by rfl) (hs : starEach (e :: es) X.env = (false, eval e X.env) :: starEach es X.env := by rfl) (hplain : (backTo cpos (starEach es X.env)).any (·.1) = false := by rfl) :
    PE X (.Call (.Attribute o name apos) (e :: es) [] cpos) (tBM K T r to t) := by subst h; exact pe_bm pa slot hty hm ho ha hbase hfew hline hs hplain
theorem pgT {es : List Expr} {k : Nat} {t : TGs} {n : Nat} (hK : X.K = K) (hc : X.calm = true) (h : PGs X es t)
    (hn : (assignEach es X.env).length = n := by rfl) (hst : (assignEach es X.env).findIdx? (·.1) = none := by rfl) : PG X (.Tuple es k pos) (gTup K n t) := by subst hK; exact pg_tup hc h hn hst
end
theorem tyx_l {K : PySem.W.Frag} {H : Hp} {a : Addr} {xs : List V} (h : SqL K H a xs) : TyX K H (.ref a) (.type "list") := by
  rcases h with (h | ⟨o, h⟩) | ⟨o, its, n, e, c, _⟩
  · exact .base (.lst h)
  · exact .base (.frz h)
  · exact .kList e c
theorem tyx_t {K : PySem.W.Frag} {H : Hp} {a : Addr} {xs : List V} (h : SqT K H a xs) : TyX K H (.ref a) (.type "tuple") := by
  rcases h with (h | ⟨o, h⟩) | ⟨o, its, n, e, c, _⟩
  · exact .base (.tup h)
  · exact .fTuple h
  · exact .kTuple e c
/-! their readings -/
theorem i_rAbs {i : Int} {H : Hp} {Q : VK} (q : Q (.int (if i < 0 then -i else i)) H) : rAbs [.int i] H Q := ⟨i, rfl, q⟩
theorem i_rMx2 {i j : Int} {H : Hp} {Q : VK} (q : Q (.int (if j > i then j else i)) H) : rMx2 [.int i, .int j] H Q := ⟨i, j, rfl, q⟩
theorem i_rMn2 {i j : Int} {H : Hp} {Q : VK} (q : Q (.int (if j < i then j else i)) H) : rMn2 [.int i, .int j] H Q := ⟨i, j, rfl, q⟩
theorem i_lenL {K : PySem.W.Frag} {p : Addr} {xs : List V} {H : Hp} {Q : VK} (h : SqL K H p xs) (q : Q (.int xs.length) H) : rLen K [.ref p] H Q := ⟨p, xs, rfl, .inl h, q⟩
theorem i_lenT {K : PySem.W.Frag} {p : Addr} {xs : List V} {H : Hp} {Q : VK} (h : SqT K H p xs) (q : Q (.int xs.length) H) : rLen K [.ref p] H Q := ⟨p, xs, rfl, .inr h, q⟩
theorem i_lenS {y : Str} {H : Hp} {Q : VK} (h : y.length ≤ sizeLine) (q : Q (.int y.length) H) : rLenStr [.str y] H Q := ⟨y, rfl, h, q⟩
theorem i_listL {K : PySem.W.Frag} {p : Addr} {xs : List V} {H : Hp} {Q : VK} (h : SqL K H p xs) (q : NewO (.lst xs) H Q) : rListOf K [.ref p] H Q := ⟨p, xs, rfl, .inl h, q⟩
theorem i_listT {K : PySem.W.Frag} {p : Addr} {xs : List V} {H : Hp} {Q : VK} (h : SqT K H p xs) (q : NewO (.lst xs) H Q) : rListOf K [.ref p] H Q := ⟨p, xs, rfl, .inr h, q⟩
theorem i_tupL {K : PySem.W.Frag} {p : Addr} {xs : List V} {H : Hp} {Q : VK} (h : SqL K H p xs) (q : NewO (.tup xs) H Q) : rTupOf K [.ref p] H Q := ⟨p, xs, rfl, h, q⟩
theorem i_sum {K : PySem.W.Frag} {p : Addr} {ns : List Int} {H : Hp} {Q : VK} (h : SqL K H p (ns.map V.int)) (q : Q (.int ns.sum) H) : rSum K [.ref p] H Q := ⟨p, ns, rfl, h, q⟩
theorem i_all {K : PySem.W.Frag} {p : Addr} {bs : List Bool} {H : Hp} {Q : VK} (h : SqL K H p (bs.map V.bl)) (q : Q (.bl (bs.all id)) H) : rAll K [.ref p] H Q := ⟨p, bs, rfl, h, q⟩
theorem i_any {K : PySem.W.Frag} {p : Addr} {bs : List Bool} {H : Hp} {Q : VK} (h : SqL K H p (bs.map V.bl)) (q : Q (.bl (bs.any id)) H) : rAny K [.ref p] H Q := ⟨p, bs, rfl, h, q⟩
theorem i_isBl {a b : Bool} {H : Hp} {Q : VK} (q : Q (.bl (decide (a = b))) H) : rIsBl (.bl a) (.bl b) H Q := ⟨a, b, rfl, rfl, q⟩
theorem i_notBl {a b : Bool} {H : Hp} {Q : VK} (q : Q (.bl (!decide (a = b))) H) : rNotBl (.bl a) (.bl b) H Q := ⟨a, b, rfl, rfl, q⟩
theorem i_notN {v : V} {H : Hp} {Q : VK} (q : Q (.bl (!decide (v = .non))) H) : rNotN v .non H Q := ⟨rfl, q⟩
theorem i_bm {K : PySem.W.Frag} {T : String} {r : V → List V → Hp → VK → Prop} {to : TE} {t : TA} {σ : L2.St} {H : Hp} {Q : VK} (h : to σ H fun x H1 => tyV K T x H1 ∧ t σ H1 fun xs H2 => r x xs H2 Q) : tBM K T r to t σ H Q := h
theorem i_bm0 {K : PySem.W.Frag} {T : String} {r : V → List V → Hp → VK → Prop} {to : TE} {σ : L2.St} {H : Hp} {Q : VK} (h : to σ H fun x H1 => tyV K T x H1 ∧ r x [] H1 Q) : tBM0 K T r to σ H Q := h
theorem i_tyL {K : PySem.W.Frag} {p : Addr} {xs : List V} {H : Hp} {R : Prop} (h : SqL K H p xs) (q : R) : tyV K "list" (.ref p) H ∧ R := ⟨.inl ⟨rfl, _, h⟩, q⟩
theorem i_app {P H : Hp} {cs r : List Ch} {l : Addr} {xs : List V} {y : V} {Q : VK} (m : Mem P cs H) (h : Upd cs l (.lst xs) (.lst (xs ++ [y])) r) (hl : xs.length < 100000) (q : ∀ H', Mem P r H' → Q .non H') : rAppend (.ref l) [y] H Q :=
  ⟨l, xs, y, rfl, rfl, h.rd m, sz_lt hl, q _ (m.put h)⟩
theorem i_fld {K : PySem.W.Frag} {ta : TE} {f : Str} {σ : L2.St} {H : Hp} {Q : VK} (h : ta σ H fun x H1 => ∃ a C dx fs v, x = .ref a ∧ H1 a = some (.ins C dx fs) ∧ Cls K C ∧ NoAttr K C f ∧ fs.lookup f = some v ∧ Q v H1) : tFld K ta f σ H Q := h
theorem i_eqDt {K : PySem.W.Frag} {x y : V} {d e : PyData} {H : Hp} {Q : VK} (h1 : Dp K H x d) (h2 : Dp K H y e) (s1 : SeqAt.shaped d = true) (s2 : SeqAt.shaped e = true) (q : Q (.bl (PyData.eqv d e)) H) : rEqD K x y H Q := ⟨d, e, h1, h2, s1, s2, q⟩
theorem i_neDt {K : PySem.W.Frag} {x y : V} {d e : PyData} {H : Hp} {Q : VK} (h1 : Dp K H x d) (h2 : Dp K H y e) (s1 : SeqAt.shaped d = true) (s2 : SeqAt.shaped e = true) (q : Q (.bl (!PyData.eqv d e)) H) : rNeD K x y H Q := ⟨d, e, h1, h2, s1, s2, q⟩
end FS

set_option Elab.async false
set_option maxRecDepth 100000
set_option linter.all false
/-! FsData: data as values: their depth, when == tells True. -/
namespace FS
open PySem L2 Evl
theorem layAll {ds : List PyData} (h : ∀ d ∈ ds, d.canLay0 = true) : PyData.canLayAll0 ds = true := by
  induction ds with
  | nil => simp only [PyData.canLayAll0]
  | cons d ds ih =>
    simp only [PyData.canLayAll0, Bool.and_eq_true]
    exact ⟨h d List.mem_cons_self, ih fun x hx => h x (List.mem_cons_of_mem _ hx)⟩
theorem depAll {n : Nat} {ds : List PyData} (h : ∀ d ∈ ds, d.depth ≤ n) : PyData.depthAll ds ≤ n := by
  induction ds with
  | nil => simp only [PyData.depthAll]; exact Nat.zero_le _
  | cons d ds ih =>
    simp only [PyData.depthAll]
    exact Nat.max_le.mpr ⟨h d List.mem_cons_self, ih fun x hx => h x (List.mem_cons_of_mem _ hx)⟩
/-- data that may be asked for ==, at most n deep -/
def Sh (n : Nat) (d : PyData) : Prop := d.canLay0 = true ∧ d.depth ≤ n
theorem Sh.mono {n m : Nat} {d : PyData} (h : Sh n d) (k : n ≤ m) : Sh m d := ⟨h.1, Nat.le_trans h.2 k⟩
theorem Sh.int (i : Int) : Sh 0 (.int i) := ⟨by simp only [PyData.canLay0], by simp only [PyData.depth]; exact Nat.le_refl _⟩
theorem Sh.bl (b : Bool) : Sh 0 (.bool b) := ⟨by simp only [PyData.canLay0], by simp only [PyData.depth]; exact Nat.le_refl _⟩
theorem Sh.non : Sh 0 .none := ⟨by simp only [PyData.canLay0], by simp only [PyData.depth]; exact Nat.le_refl _⟩
theorem Sh.str {x : Str} (h : PyData.strOk x = true) : Sh 0 (.str x) := ⟨by simp only [PyData.canLay0]; exact h, by simp only [PyData.depth]; exact Nat.le_refl _⟩
theorem Sh.lst {n : Nat} {ds : List PyData} (h : ∀ d ∈ ds, Sh n d) : Sh (n + 1) (.list ds) := ⟨by simp only [PyData.canLay0]; exact layAll fun d hd => (h d hd).1, by simp only [PyData.depth]; exact Nat.succ_le_succ (depAll fun d hd => (h d hd).2)⟩
theorem Sh.tup {n : Nat} {ds : List PyData} (h : ∀ d ∈ ds, Sh n d) : Sh (n + 1) (.tuple ds) := ⟨by simp only [PyData.canLay0]; exact layAll fun d hd => (h d hd).1, by simp only [PyData.depth]; exact Nat.succ_le_succ (depAll fun d hd => (h d hd).2)⟩
theorem Sh.ok {n : Nat} {d : PyData} (h : Sh n d) (k : n ≤ 64) : SeqAt.shaped d = true := by
  unfold SeqAt.shaped
  rw [h.1, decide_eq_true (Nat.le_trans h.2 k)]
  rfl
theorem eqv_self {n : Nat} {d : PyData} (h : Sh n d) : PyData.eqv d d = true := SeqAt.eqv_refl d h.1
end FS

set_option Elab.async false
set_option maxRecDepth 100000
set_option linter.all false
/-! FsStr: defs that turn data into texts: what they promise holds where no repr is under way. -/
namespace FS
open PySem PySem.Spec PyProof.Rows L2 Evl
/-- nothing is being shown -/
abbrev Calm (A : Around) : Prop := A.guards = some []
structure FnOkG (P : Program) (w : World) (K : PySem.W.Frag) (mg : Str → Option Value) (base : Heap) (CX : CXT) (k : Nat) (f : Addr) (fd : FuncData) (ps : List Str) (sp : Sp) : Prop where
  len : ∀ vs H Q E, sp vs H Q E → vs.length = ps.length
  run : ∀ (A : Around) (outer : List Env) (s : Shared) (H : Hp) (args : Args) (us : List Value) (vs : List V) (Q : VK) (E : XK), Room k A → Calm A →
    Env0 P w K mg base A outer s H → BindsTo s fd args (ps.zip us) → Vals vs us → sp vs H Q E → codeAny (model P w) A (.call (.ref f) args) (CR CX outer P w H s Q E) s
section
variable {P : Program} {w : World} {K : PySem.W.Frag} {mg : Str → Option Value} {base : Heap} {CX : CXT} {k : Nat} {f : Addr} {fd : FuncData} {ps : List Str} {sp : Sp}
theorem FnOkG.of (F : FnOk P w K mg base CX k f fd ps sp) : FnOkG P w K mg base CX k f fd ps sp :=
  ⟨F.len, fun A outer s H args us vs Q E hr _ => F.run A outer s H args us vs Q E hr⟩
/-- a promise that is kept where nothing is being shown is one of the plain kind, but with that as a premise of the room: for one way of running -/
theorem FnOkG.at (F : FnOkG P w K mg base CX k f fd ps sp) {X : Cx} (e1 : X.prog = P) (e2 : X.w = w) (e3 : X.K = K) (e4 : X.mg = mg) (e5 : X.base = base) (hc : Calm X.A) (hr : Room k X.A) {ds : List Value} {dvs : List V} {E : XK} (hb : Binds X.K fd ps ds) (hd : Vals dvs ds) (hx : Passes CX X E)
    {pins : List (Addr × Obj)} {σ : L2.St} {H : Hp} {s : Shared} {Q : VK} {us : List Value} {vs : List V} (I : Inv X pins σ H s) (r : Vals vs us) (h : sp (vs ++ dvs) H Q E) : wpAny (model X.prog X.w) X.A (call (.ref f) us) (EP X pins σ Q) X.xe s := by
  subst e1 e2 e3 e4 e5
  have all := r.append hd
  have hn : (us ++ ds).length = ps.length := all.length ▸ F.len _ _ _ _ h
  have go := F.run X.A X.stack s H ⟨us, []⟩ _ _ Q E hr hc I.env0 (hb s us I.kIn hn) all h
  refine wpAny_call (codeAny_mono go ?_)
  rintro (e | fl) s' hq
  · exact hx pins σ H s e s' I hq
  · match fl, hq with
    | .ret u, hq => exact I.after hq
    | .next, hq => exact hq.elim
    | .brk, hq => exact hq.elim
    | .cont, hq => exact hq.elim
end
section
variable {X : Cx} {CX : CXT} {k : Nat} {f : Addr} {fd : FuncData} {ps : List Str} {sp : Sp} {dvs : List V} {ds : List Value} {E : XK} {x : Str} {p pos : Pos} {e : Expr} {es : List Expr} {t : TA}
theorem peG (F : FnOkG X.prog X.w X.K X.mg X.base CX k f fd ps sp) (hc : Calm X.A) (hr : Room k X.A) (hg : Gl X x) (hm : X.mg x = some (.ref f)) (hk : PySem.W.keepIn X.K (.ref f) = true) (hb : Binds X.K fd ps ds) (hd : Vals dvs ds) (hx : Passes CX X E) (ha : PA X (e :: es) t)
    (hdb : (x == ("__debug__" : Str)) = false := by decide) (he : starEach (e :: es) X.env = (false, eval e X.env) :: starEach es X.env := by rfl) (hpl : (backTo pos (starEach es X.env)).any (·.1) = false := by rfl) :
    PE X (.Call (.Name x p) (e :: es) [] pos) (tCall sp dvs E t) := by
  constructor
  intro pins s σ H Q I h
  have run := thn (ha.run pos pins s σ H _ I h) (Q' := fun us s1 => X.K.In s1.heap ∧ wpAny (model X.prog X.w) X.A (call (.ref f) us) (EP X pins σ Q) X.xe s1)
    fun us s1 ⟨vs, H1, I1, r, q⟩ => ⟨I1.kIn, F.at rfl rfl rfl rfl rfl hc hr hb hd hx I1 r q⟩
  exact wpAny_Call_Name_kw (ld_glob I hg hm (PySem.W.callWith_K (h₀ := X.base) I.ok.mod.kin hk run he hpl) hdb)
end
/-- a def by its body, where nothing is being shown -/
theorem fnG {P : Program} {w : World} {K : PySem.W.Frag} {mg : Str → Option Value} {base : Heap} {x qual : Str} {st : Stmt} {f : Addr} {fd : FuncData} {N ps : List Str} {k : Nat} {sp : Sp} (F : Fun K x qual st f fd) (S : FnScope N ps (defScope st)) (len : ∀ vs H Q E, sp vs H Q E → vs.length = ps.length)
    (hbody : ∀ (cdv : Value) (A : Around) (outer : List Env) (s : Shared) (H : Hp) (vs : List V) (Q : VK) (E : XK), Room k (A.deeper (envOfC qual (defScope st) s.heap.objs.size f cdv)) → Calm (A.deeper (envOfC qual (defScope st) s.heap.objs.size f cdv)) → sp vs H Q E →
      ∃ t, PSs (cxOf CX0 P w K mg base N qual (defScope st) f cdv A outer s H E).nox (defBody st) t ∧ t { nx := fun _ H' => Q .non H', rt := Q } (start N vs) H) : FnOkG P w K mg base CX0 (k + 1) f fd ps sp := by
  refine ⟨len, fun A outer s H args us vs Q E hr hc e0 hb r hsp => ?_⟩
  obtain ⟨oc, od, kV, doc, pm, an, cdv, ct, osl, efd, lk, hcd⟩ := F.ex
  subst efd
  have hlen := len _ _ _ _ hsp
  have kept : ∀ b o, base.get? b = some o → s.heap.get? b = some o := fun b o e => (e0.bs b o e).1
  have inK := e0.mod.kin.keeps kept
  have bound : ∀ y ∈ ps.zip us, (defScope st).names.lookup y.1 = some .local ∨
      ((defScope st).names.lookup y.1 = some .cell ∧ ((cellsFrom (s.heap.objs.size + 1) (defScope st).names []).lookup y.1).isSome = true) := by
    rintro ⟨n, v⟩ hy
    cases S.par n (List.of_mem_zip hy).1 with
    | inl q => exact Or.inl q
    | inr q => exact Or.inr ⟨q, PySem.W.cellsFrom_some _ _ _ (Or.inl q)⟩
  refine codeAny_call_function hr.depth (inK _ _ lk) rfl S.co S.gen rfl
    (PySem.W.codeRec_of inK hcd) (hb _ _ _ _ ?_)
  refine wpAny_newFunctionEnv_cells S.kind bound (fun env ee s1 x => ?_)
  subst ee
  refine ⟨(e0.mod.nolimit.keeps kept).keeps x.toInCall.keep, codeAny_func ?_⟩
  obtain ⟨t, ht, hq⟩ := hbody cdv A outer s H vs Q E (hr.deeper _) hc hsp
  have I := inv_start (CX := CX0) (E := E) S hr.hd e0 hlen r x
  have ends : ∀ {σ' : L2.St} {H' : Hp} {v : V} {u : Value} {s' : Shared}, Inv (cxOf CX0 P w K mg base N qual (defScope st) f cdv A outer s H E) [] σ' H' s' → RelV v u → Q v H' → CE outer P w H s Q u s' := by
    intro σ' H' v u s' J rv q
    exact ⟨v, H', J.os, J.bare, J.base, J.hok, rv, q⟩
  refine wpAny_mono (ht.nox.run [] s1 _ H _ I hq) ?_ (fun e s' h => h)
  rintro (_ | _ | _ | u) s' hs
  · obtain ⟨σ', H', J, q⟩ := hs
    exact ends (v := V.non) J rfl q
  · obtain ⟨_, _, _, q⟩ := hs
    exact q.elim
  · obtain ⟨_, _, _, q⟩ := hs
    exact q.elim
  · obtain ⟨v, σ', H', J, rv, q⟩ := hs
    exact ends J rv q
/-- the law's call, from an abstract heap where nothing but the script is told -/
theorem lawG {P : Program} {w : World} {K : PySem.W.Frag} {mg mb : Str → Option Value} {k : Nat} {fa a : Addr} {fd : FuncData} {x : Str} {sp : Sp} {s1 : Shared} {H : Hp}
    (hK : K.In s1.heap) (hmg : s1.heap.Ns mainGlobals mg) (hmb : s1.heap.Ns builtinsNs mb) (hbb : ∀ y : Str, y ≠ "__name__" → mb y = bootBuiltins y) (hlim : s1.heap.NoLimit) (hgens : s1.gens = #[])
    (F : ∀ base : Heap, K.In base → base.Ns mainGlobals mg → FnOkG P w K mg base CX0 k fa fd [x] sp) (hb : ∀ (s : Shared) (u : Value), BindsTo s fd ⟨[u], []⟩ [(x, u)]) (hr : Room k callerA)
    (hok : HOk P w H s1.heap) (one : ∀ b u, H b = some u → (∃ o xs, u = .frz o (.lst xs)) ∧ K.lookup b = none ∧ ∃ o, s1.heap.get? b = some o ∧ ∀ es ep, o.data ≠ .dict es ep)
    (hsp : sp [.ref a] H (fun v _ => v = .bl true) fun _ _ _ => False) :
    codeAny (model P w) callerA (.call (.ref fa) ⟨[.ref a], []⟩) (fun r s' => r = .ok (.ret (.bool true)) ∧ OldK s1.heap s'.heap ∧ s'.os = s1.os ∧ AllBare s'.gens) s1 := by
  let B := hidT s1.heap H
  have seen : ∀ {b : Addr} {o : Obj}, s1.heap.get? b = some o → H b = none → B.get? b = some o := fun e n => hidT_get e n
  have noD : ∀ {b : Addr} {o : Obj} {es : Array DictEntry} {ep : Nat}, s1.heap.get? b = some o → o.data = .dict es ep → H b = none := by
    intro b o es ep e d
    cases q : H b with
    | none => rfl
    | some u =>
      obtain ⟨_, _, o', e', nd⟩ := one b u q
      rw [e] at e'
      cases e'
      exact absurd d (nd es ep)
  have names : ∀ {b : Addr} {m : Str → Option Value}, s1.heap.Ns b m → B.Ns b m := by
    rintro b m ⟨o, es, ep, e, d, r⟩
    exact ⟨o, es, ep, seen e (noD e d), d, r⟩
  have inB : K.In B := by
    intro b o e
    refine seen (hK b o e) ?_
    cases q : H b with
    | none => rfl
    | some u =>
      have z := (one b u q).2.1
      rw [e] at z
      cases z
  have lim : B.NoLimit := by
    obtain ⟨mc, h1, h2⟩ := hlim
    exact ⟨mc, names h1, h2⟩
  have at0 : Env0 P w K mg B callerA [] s1 H :=
    { frames := rfl, mod := ⟨inB, names hmg, ⟨mb, names hmb, hbb⟩, lim⟩, bs := fun _ _ e => of_hidT e, bsz := Nat.le_of_eq (hidT_size _ _), funs := trivial,
      frf := (fun b z => absurd (show b ∈ ([] : List Addr) from z) (by simp)), hok := hok, bare := .of_eq hgens }
  have go := (F B inB (names hmg)).run callerA [] s1 H ⟨[.ref a], []⟩ [.ref a] [.ref a] _ _ hr rfl at0 (hb s1 (.ref a)) (.cons rfl .nil) hsp
  refine codeAny_mono go ?_
  rintro (e | fl) s' h
  · exact h.elim
  · match fl, h with
    | .next, h => exact h.elim
    | .brk, h => exact h.elim
    | .cont, h => exact h.elim
    | .ret u, h =>
      obtain ⟨v, H', os, bare, un, hok', rv, qv⟩ := h
      subst qv
      cases (show u = Value.bool true from rv)
      refine ⟨rfl, OldK.of_keep ?_, os, bare⟩
      intro b o e
      cases q : H b with
      | none => exact un.keep b o e q (fun z => absurd (show b ∈ ([] : List Addr) from z) (by simp)) (fun z => by cases z)
      | some u =>
        obtain ⟨⟨ob, xs, rfl⟩, _⟩ := one b u q
        have before := (hok b _ q).1
        have behind := (hok' b _ (un.frzs b ob _ q)).1
        rw [e] at before
        cases before
        exact behind
theorem walkG {l : PySem.W.OpenLaw} {n k : Nat} {q : Program} {loose : List Str} {XP : (Str → Option Value) → Heap → Prop} {YP : World → Heap → Prop} {d : DefRec} {K : Params → PySem.W.Frag} {sp : World → Sp} {x : Str}
    (hn : l.most = some n) (hn2 : n ≤ sizeLine) (hdf : d.params.defaults = []) (hr : Room k callerA) (hY : ∀ (w : World) (h : Heap), YP w h → (K w.params).In h)
    (F : ∀ (w : World) (mg : Str → Option Value) (fa : Addr) (h : Heap), (K w.params).In h → h.Ns mainGlobals mg → mg d.name = some (.ref fa) →
      ∃ fd : FuncData, (∀ (s : Shared) (u : Value), BindsTo s fd ⟨[u], []⟩ [(x, u)]) ∧ ∀ base : Heap, (K w.params).In base → base.Ns mainGlobals mg → FnOkG l.prog w (K w.params) mg base CX0 k fa fd [x] (sp w))
    (hsp : ∀ (w : World) (H : Hp) (a : Addr) (ns : List Int), ns.length ≤ n → SqL (K w.params) H a (ns.map V.int) → sp w [.ref a] H (fun v _ => v = .bl true) fun _ _ _ => False) :
    PySem.W.WalkO q loose XP YP l.row.toRowW d [] (fun f vs => PySem.call f vs) := by
  refine Att.attach_call hn hdf ?_
  intro w s0 s1 mg mb fa o pm cd doc a vs ns G Y ho hd hcd hmg hobj hints hlen hgens
  have KX := hY w _ Y
  obtain ⟨fd, hb, hF⟩ := F w mg fa _ KX G.T.g hmg
  have rv := vals_ints hints
  have hl : ns.length ≤ sizeLine := Nat.le_trans hlen hn2
  cases hk : (K w.params).lookup a with
  | some oa =>
    -- the script stands in the written part
    have e := KX a oa hk
    rw [hobj] at e
    cases e
    refine lawG (H := fun _ => none) KX G.T.g G.T.b G.T.builtins G.T.nolimit hgens hF hb hr (fun _ _ z => by cases z) (fun _ _ z => by cases z) (hsp w _ a ns hlen (.inr ⟨_, vs.toArray, _, hk, rfl, rfl, rfl, ?_, by simpa using rv⟩))
    rw [List.size_toArray, hints.length]
    exact hl
  | none =>
    refine lawG (H := sgl a (.frz { cls := .type "list", data := .seq vs.toArray } (.lst (ns.map V.int)))) KX G.T.g G.T.b G.T.builtins G.T.nolimit hgens hF hb hr ?_ ?_ (hsp w _ a ns hlen (.inl (.inr ⟨_, if_pos rfl⟩)))
    · intro b u z
      have zb : b = a := by
        by_cases e : b = a
        · exact e
        · rw [sgl, if_neg e] at z; cases z
      subst zb
      rw [sgl, if_pos rfl] at z
      cases z
      exact ⟨hobj, by rw [List.length_map]; exact hl, vs, _, rv, hobj⟩
    · intro b u z
      have zb : b = a := by
        by_cases e : b = a
        · exact e
        · rw [sgl, if_neg e] at z; cases z
      subst zb
      rw [sgl, if_pos rfl] at z
      cases z
      exact ⟨⟨_, _, rfl⟩, hk, _, hobj, fun es ep => by intro z; cases z⟩
/-! str(..) of a list or a tuple of data -/
def rStrD (K : PySem.W.Frag) : List V → Hp → VK → Prop := fun xs H Q => ∃ (a : Addr) (d : PyData), xs = [.ref a] ∧ Dp K H (.ref a) d ∧ d.showable = true ∧ d.hasDict = false ∧ d.depth ≤ 60 ∧ d.shown.length ≤ sizeLine ∧ Q (.str d.shown) H
theorem strD {X : Cx} {K : PySem.W.Frag} (h : X.K = K) (hc : Calm X.A) (hu : X.A.units + 64 < cLine) : CallR X (.type "str") (rStrD K) := by
  subst h
  intro pins s σ H xs us Q I r h
  obtain ⟨a, d, rfl, hd, hs, hn, hdep, hz, q⟩ := h
  obtain ⟨u, rfl, ru⟩ := vals1 r
  cases (show u = Value.ref a from ru)
  obtain ⟨as, hr⟩ := Dp.reads I d _ _ hd (show RelV (.ref a) (.ref a) from rfl)
  exact str_of_reads hr hs (fun z => by rw [hn] at z; cases z) hc (by omega) (fun _ _ e => e) (fun h' u tk k => ⟨.str d.shown, H, I.kept k, ⟨_, rfl⟩, q⟩) hz
/-- data that may be shown: how deep, how long its text -/
structure Shw (n L : Nat) (d : PyData) : Prop where
  sh : d.showable = true
  hd : d.hasDict = false
  dp : d.depth ≤ n
  ln : d.shown.length ≤ L
theorem int_text_len (i : Int) {k : Nat} (hk : 0 < k) (h : i.natAbs < 2 ^ k) : (PyData.shown (.int i)).length ≤ k + 1 := by
  have e : (PyData.shown (.int i)).length = (toString i).length := by
    simp only [PyData.shown]
    exact PySem.ofString_length _
  rw [e]
  cases i with
  | ofNat n =>
    have := nat_repr_length_le (n := n) hk (by simpa using h)
    show (Nat.repr n).length ≤ _
    omega
  | negSucc n =>
    have := nat_repr_length_le (n := n + 1) hk (by simpa using h)
    show ("-" ++ Nat.repr (n + 1)).length ≤ _
    rw [String.length_append]
    have : ("-" : String).length = 1 := rfl
    omega
theorem Shw.int {i : Int} {k : Nat} (hk : 0 < k) (hk2 : k ≤ 1900) (h : i.natAbs < 2 ^ k) : Shw 0 (k + 1) (.int i) :=
  ⟨by simp only [PyData.showable]; exact decide_eq_true (Nat.lt_of_lt_of_le (PySem.Flt.log2_lt_of hk h) (by omega)), by simp only [PyData.hasDict], by simp only [PyData.depth]; exact Nat.le_refl _, int_text_len i hk h⟩
theorem Shw.mono {n L n' L' : Nat} {d : PyData} (h : Shw n L d) (a : n ≤ n') (b : L ≤ L') : Shw n' L' d := ⟨h.sh, h.hd, Nat.le_trans h.dp a, Nat.le_trans h.ln b⟩
theorem shw_all {n L : Nat} : ∀ {ds : List PyData}, (∀ d ∈ ds, Shw n L d) → PyData.showableAll ds = true ∧ PyData.hasDictAll ds = false ∧ PyData.depthAll ds ≤ n ∧ ((PyData.shownAll ds).map (·.length)).sum ≤ L * ds.length ∧ (PyData.shownAll ds).length = ds.length
  | [], _ => ⟨by simp only [PyData.showableAll], by simp only [PyData.hasDictAll], by simp only [PyData.depthAll]; exact Nat.zero_le _, by simp [PyData.shownAll], by simp [PyData.shownAll]⟩
  | d :: ds, h => by
    have h1 := h d List.mem_cons_self
    obtain ⟨a, b, c, e, f⟩ := shw_all (ds := ds) fun x hx => h x (List.mem_cons_of_mem _ hx)
    refine ⟨by simp only [PyData.showableAll, h1.sh, a, Bool.and_self], by simp only [PyData.hasDictAll, h1.hd, b, Bool.or_self], by simp only [PyData.depthAll]; exact Nat.max_le.mpr ⟨h1.dp, c⟩, ?_, by simp only [PyData.shownAll, List.length_cons, f]⟩
    simp only [PyData.shownAll, List.map_cons, List.sum_cons, List.length_cons, Nat.mul_succ]
    have := h1.ln
    omega
theorem Shw.lst {n L N : Nat} {ds : List PyData} (h : ∀ d ∈ ds, Shw n L d) (hn : ds.length ≤ N) : Shw (n + 1) ((L + 2) * N + 3) (.list ds) := by
  obtain ⟨a, b, c, e, f⟩ := shw_all h
  refine ⟨by simp only [PyData.showable]; exact a, by simp only [PyData.hasDict]; exact b, by simp only [PyData.depth]; omega, ?_⟩
  simp only [PyData.shown]
  have q := listText_len_le (PyData.shownAll ds)
  rw [f] at q
  have r1 : L * ds.length ≤ L * N := Nat.mul_le_mul_left _ hn
  have r2 : (L + 2) * N = L * N + 2 * N := Nat.add_mul _ _ _
  omega
theorem Shw.tup {n L N : Nat} {ds : List PyData} (h : ∀ d ∈ ds, Shw n L d) (hn : ds.length ≤ N) : Shw (n + 1) ((L + 2) * N + 3) (.tuple ds) := by
  obtain ⟨a, b, c, e, f⟩ := shw_all h
  refine ⟨by simp only [PyData.showable]; exact a, by simp only [PyData.hasDict]; exact b, by simp only [PyData.depth]; omega, ?_⟩
  simp only [PyData.shown]
  have q := tupleText_len_le (PyData.shownAll ds)
  rw [f] at q
  have r1 : L * ds.length ≤ L * N := Nat.mul_le_mul_left _ hn
  have r2 : (L + 2) * N = L * N + 2 * N := Nat.add_mul _ _ _
  omega
theorem i_strD {K : PySem.W.Frag} {a : Addr} {d : PyData} {n L : Nat} {H : Hp} {Q : VK} (h : Dp K H (.ref a) d) (s : Shw n L d) (hn : n ≤ 60) (hL : L ≤ 16000000) (q : Q (.str d.shown) H) : rStrD K [.ref a] H Q :=
  ⟨a, d, rfl, h, s.sh, s.hd, Nat.le_trans s.dp hn, Nat.le_trans s.ln (Nat.le_trans hL (by decide)), q⟩
end FS

set_option Elab.async false
set_option maxRecDepth 100000
set_option linter.all false
/-! FsText: texts. -/
namespace FS
open PySem PySem.Spec PyProof.Rows L2 Evl
section
variable {X : Cx} {K : PySem.W.Frag} {o e : Expr} {to te : TE} {apos pos : Pos}
def rInSg : R2 := fun x y H Q => ∃ (c : Nat) (z : Str), x = .str ⟨#[c]⟩ ∧ y = .str z ∧ Q (.bl (decide (c ∈ z.cps.toList))) H
def rNinSg : R2 := fun x y H Q => ∃ (c : Nat) (z : Str), x = .str ⟨#[c]⟩ ∧ y = .str z ∧ Q (.bl (!decide (c ∈ z.cps.toList))) H
theorem inSg : OpR X (compareOp .In) rInSg := op_in_sign
theorem ninSg : OpR X (compareOp .NotIn) rNinSg := op_notIn_sign
def rAddS : R2 := fun x y H Q => ∃ i j, x = .str i ∧ y = .str j ∧ i.length + j.length ≤ sizeLine ∧ Q (.str (i ++ j)) H
theorem addS : OpR X (binaryOp .Add) rAddS := op_add_str
def rItS : R2 := fun x y H Q => ∃ z i c, x = .str z ∧ y = .int i ∧ 0 ≤ i ∧ i < 2 ^ 63 ∧ i < z.length ∧ z.cps[i.toNat]? = some c ∧ Q (.str ⟨#[c]⟩) H
theorem itS (ha : PE X o to) (hb : PE X e te) (hs : PlainIxT e) : PE X (.Subscript o e pos) (tOp rItS to te) := pe_item_str ha hb hs
def rSplit : V → List V → Hp → VK → Prop := fun x xs H Q => ∃ a b, x = .str a ∧ xs = [.str b] ∧ (b.length == 0) = false ∧ a.length + 2 ≤ sizeLine ∧ NewO (.lst ((Txt.split a b).map V.str)) H Q
theorem splitT (ho : PE X o to) (he : PE X e te) (hs : starEach [e] X.env = [(false, eval e X.env)] := by rfl) (hbase : attributeBase o "split" X.env (eval o X.env) = eval o X.env := by rfl) (hline : (apos.endLine == pos.line) = true := by rfl) :
    PE X (.Call (.Attribute o "split" apos) [e] [] pos) (tM1 rSplit to te) := pe_split ho he hs hbase hline
def rJoin (K : PySem.W.Frag) : V → List V → Hp → VK → Prop := fun x xs H Q => ∃ a p, ∃ ys : List Str, x = .str a ∧ xs = [.ref p] ∧ (SqL K H p (ys.map V.str) ∨ SqT K H p (ys.map V.str)) ∧
  (ys.map (·.length)).sum + ys.length * a.length ≤ 16777216 ∧ Q (.str (Txt.join a ys)) H
theorem joinT (h : X.K = K) (ho : PE X o to) (he : PE X e te) (hs : starEach [e] X.env = [(false, eval e X.env)] := by rfl) (hbase : attributeBase o "join" X.env (eval o X.env) = eval o X.env := by rfl) (hline : (apos.endLine == pos.line) = true := by rfl) :
    PE X (.Call (.Attribute o "join" apos) [e] [] pos) (tM1 (rJoin K) to te) := by subst h; exact pe_join ho he hs hbase hline
def rStarts : V → List V → Hp → VK → Prop := fun x xs H Q => ∃ a b, x = .str a ∧ xs = [.str b] ∧ Q (.bl (Txt.startswith a b)) H
theorem startsT (ho : PE X o to) (he : PE X e te) (hs : starEach [e] X.env = [(false, eval e X.env)] := by rfl) (hbase : attributeBase o "startswith" X.env (eval o X.env) = eval o X.env := by rfl) (hline : (apos.endLine == pos.line) = true := by rfl) :
    PE X (.Call (.Attribute o "startswith" apos) [e] [] pos) (tM1 rStarts to te) := pe_m1 F.slot_str_startswith F.type_str_startswith mt_startswith ho he hs hbase hline
/-- a text times a written number -/
def rMulS : R2 := fun x y H Q => ∃ (z : Str) (n : Int), x = .str z ∧ y = .int n ∧ 0 ≤ n ∧ n ≤ 1000 ∧ z.length ≤ 1000 ∧ Q (.str (Txt.mul z n)) H
theorem mulS : OpR X (binaryOp .Mult) rMulS := by
  intro pins s σ H x y v u Q I rx ry h
  obtain ⟨z, n, rfl, rfl, h0, h1, h2, q⟩ := h
  obtain ⟨t, rfl⟩ := rx
  obtain ⟨t', rfl⟩ := ry
  refine SB.mul ⟨?_, fun hn _ => ?_, fun _ _ => ?_⟩ fun t k => ⟨.str _, H, I.tok _, ⟨_, rfl⟩, q⟩
  · rw [Bool.or_eq_false_iff]
    exact ⟨decide_eq_false (by omega), decide_eq_false (by omega)⟩
  · have e : (1000 : Int) ≤ (2 ^ 63 - 1) / n := (Int.le_ediv_iff_mul_le (by omega)).mpr (by omega)
    omega
  · have e : z.length * n.toNat ≤ 1000 * 1000 := Nat.mul_le_mul h2 (by omega)
    unfold Builtin.Str.tooLong
    have e2 : sizeLine = 16777216 := sizeLine_eq
    exact decide_eq_false (by omega)
variable {x : Str}
theorem glS {s : Str} (hg : Gl X x) (h : ∃ t, X.mg x = some (.str s t)) (hd : (x == ("__debug__" : Str)) = false := by decide) : PE X (.Name x pos) (tC (.str s)) := by
  obtain ⟨t, h⟩ := h
  exact pe_glob hg h ⟨t, rfl⟩ hd
theorem glI {i : Int} (hg : Gl X x) (h : ∃ t, X.mg x = some (.int i t)) (hd : (x == ("__debug__" : Str)) = false := by decide) : PE X (.Name x pos) (tC (.int i)) := by
  obtain ⟨t, h⟩ := h
  exact pe_glob hg h ⟨t, rfl⟩ hd
end
theorem i_mulS {z : Str} {n : Int} {H : Hp} {Q : VK} (h0 : 0 ≤ n) (h1 : n ≤ 1000) (h2 : z.length ≤ 1000) (q : Q (.str (Txt.mul z n)) H) : rMulS (.str z) (.int n) H Q := ⟨z, n, rfl, rfl, h0, h1, h2, q⟩
theorem i_m1 {r : V → List V → Hp → VK → Prop} {to te : TE} {σ : L2.St} {H : Hp} {Q : VK} (h : to σ H fun x H1 => (∃ a, x = .str a) ∧ te σ H1 fun y H2 => r x [y] H2 Q) : tM1 r to te σ H Q := h
theorem i_strI {a : Str} {R : Prop} (h : R) : (∃ b, V.str a = .str b) ∧ R := ⟨⟨a, rfl⟩, h⟩
theorem i_inSg {c : Nat} {z : Str} {H : Hp} {Q : VK} (q : Q (.bl (decide (c ∈ z.cps.toList))) H) : rInSg (.str ⟨#[c]⟩) (.str z) H Q := ⟨c, z, rfl, rfl, q⟩
theorem i_addS {i j : Str} {H : Hp} {Q : VK} (h : i.length + j.length ≤ 100000) (q : Q (.str (i ++ j)) H) : rAddS (.str i) (.str j) H Q := ⟨i, j, rfl, rfl, sz_of h, q⟩
theorem i_itS {z : Str} {i : Int} {H : Hp} {Q : VK} (h0 : 0 ≤ i) (h1 : i < z.length) (h2 : z.length ≤ 100000) (q : ∀ c, z.cps[i.toNat]? = some c → Q (.str ⟨#[c]⟩) H) : rItS (.str z) (.int i) H Q := by
  have hs : i.toNat < z.cps.size := by
    have e : z.length = z.cps.size := rfl
    omega
  exact ⟨z, i, z.cps[i.toNat], rfl, rfl, h0, by omega, h1, by simp [hs], q _ (by simp [hs])⟩
theorem i_split {a b : Str} {H : Hp} {Q : VK} (hb : (b.length == 0) = false) (h : a.length ≤ 100000) (q : NewO (.lst ((Txt.split a b).map V.str)) H Q) : rSplit (.str a) [.str b] H Q := ⟨a, b, rfl, rfl, hb, Nat.le_trans (Nat.add_le_add_right h 2) (by decide), q⟩
theorem i_join {K : PySem.W.Frag} {a : Str} {p : Addr} {ys : List Str} {H : Hp} {Q : VK} (h : SqL K H p (ys.map V.str)) (hz : (ys.map (·.length)).sum + ys.length * a.length ≤ 16777216) (q : Q (.str (Txt.join a ys)) H) : rJoin K (.str a) [.ref p] H Q := ⟨a, p, ys, rfl, rfl, .inl h, hz, q⟩
theorem i_starts {a b : Str} {H : Hp} {Q : VK} (q : Q (.bl (Txt.startswith a b)) H) : rStarts (.str a) [.str b] H Q := ⟨a, b, rfl, rfl, q⟩
theorem i_slS {z : Str} {lo hi : Option Int} {H : Hp} {Q : VK} (h : z.length ≤ 100000) (q : Q (.str (cutS z lo hi)) H) : rSlS (.str z) lo hi H Q := ⟨z, rfl, sz_of h, q⟩
theorem i_iStr {te : TE} {σ : L2.St} {H : Hp} {R : It → Hp → Prop} (h : te σ H fun v H1 => ∃ x, v = .str x ∧ R (Its x) H1) : iStr te σ H R := h
/-- a comprehension over a text -/
theorem l_lcS {P : Hp} {cs : List Ch} {z : Str} {g : TG} {tt : TT} {te : TE} {vs : List Nat} {σ : L2.St} {H : Hp} {Qd : Addr → Hp → Prop} (m : Mem P cs H) (R : Nat → List V → Hp → Prop) (h0 : R 0 [] P)
    (hs : ∀ i c P' H' acc D, z.cps[i]? = some c → Ex P P' → Mem P' (pt D (.lst acc) :: cs) H' → R i acc P' → ∀ (Kt : VK) (Kf : Hp → Prop),
      (∀ y P4 H4, Ex P' P4 → Mem P4 (pt D (.lst acc) :: cs) H4 → acc.length < 100000 → R (i + 1) (acc ++ [y]) P4 → Kt y H4) → (∀ P4 H4, Ex P' P4 → Mem P4 (pt D (.lst acc) :: cs) H4 → R (i + 1) acc P4 → Kf H4) →
      g (.str ⟨#[c]⟩) (wipe σ vs) H' fun σ2 H2 => wipe σ2 vs = wipe σ vs ∧ tt σ2 H2 fun b H3 => if b = true then te σ2 H3 Kt else Kf H3)
    (hd : ∀ D P' H' acc, Ex P P' → Mem P' (pt D (.lst acc) :: cs) H' → R z.cps.size acc P' → Qd D H') :
    ∃ y, V.str z = .str y ∧ ∀ D, H D = none → ∃ W : Nat → Nat → Hp → Prop, (∃ m, W 0 m (upd H D (.lst []))) ∧ ∀ i m H, W i m H →
      ((Its y).stop i H ∧ Qd D H) ∨ ((Its y).go i H ∧ ∃ Nx : Hp → Prop, (∀ H', Nx H' → ∃ m', m' < m ∧ W (i + 1) m' H') ∧ ∀ x H', (Its y).yld i H x H' → g x (wipe σ vs) H' fun σ2 H2 => wipe σ2 vs = wipe σ vs ∧ tt σ2 H2 fun b H3 =>
        if b = true then te σ2 H3 fun y H4 => ∃ acc, H4 D = some (.lst acc) ∧ acc.length < sizeLine ∧ Nx (upd H4 D (.lst (acc ++ [y]))) else Nx H3) := by
  refine ⟨z, rfl, fun D hD => ⟨fun i m H' => m = z.cps.size - i ∧ i ≤ z.cps.size ∧ ∃ P' acc, Ex P P' ∧ Mem P' (pt D (.lst acc) :: cs) H' ∧ R i acc P', ⟨z.cps.size, by simp, Nat.zero_le _, P, [], Ex.refl _, m.new hD, h0⟩, ?_⟩⟩
  rintro i mm H' ⟨rfl, hi, P', acc, e, m', r⟩
  by_cases hlt : i < z.cps.size
  · refine .inr ⟨hlt, fun H' => ∃ P' acc, Ex P P' ∧ Mem P' (pt D (.lst acc) :: cs) H' ∧ R (i + 1) acc P', fun H2 q => ⟨z.cps.size - (i + 1), by omega, rfl, hlt, q⟩, ?_⟩
    rintro x H2 ⟨rfl, c, hc, rfl⟩
    exact hs i c P' _ acc D hc e m' r _ _ (fun y P4 H4 e4 m4 l4 r4 => ⟨acc, m4.rd0, sz_lt l4, P4, _, e.trans e4, m4.put0, r4⟩) (fun P4 H4 e4 m4 r4 => ⟨P4, acc, e.trans e4, m4, r4⟩)
  · have ei : i = z.cps.size := by omega
    subst ei
    exact .inl ⟨Nat.le_refl _, hd D P' H' acc e m' r⟩
end FS

set_option Elab.async false
set_option maxRecDepth 100000
set_option linter.all false
/-! FsLam: max(xs, key=lambda x: ..) by a pure lambda of one parameter. -/
namespace FS
open PySem PySem.Spec PyProof.Rows L2 Evl LamX
/-! ### pure evaluation over the heap alone -/
/-- e is evaluated from any heap that holds h0: all is kept, its value stands to the heap behind as R tells -/
def Evc (p : Program) (w : World) (A : Around) (env : Env) (h0 : Heap) (e : Expr) (R : Heap → Value → Prop) : Prop :=
  ∀ (s : Shared) (Q : Value → Shared → Prop) (E : Value → Shared → Prop), (∀ b o, h0.get? b = some o → s.heap.get? b = some o) →
    (∀ u h' tk, (∀ b o, s.heap.get? b = some o → h'.get? b = some o) → R h' u → Q u { s with heap := h', toks := tk }) → wpAny (model p w) A (eval e env) Q E s
section
variable {p : Program} {w : World} {A : Around} {env : Env} {h0 : Heap}
theorem evc_int {i : Int} {k : Nat} {pos : Pos} : Evc p w A env h0 (.Constant (.int i) k pos) (fun _ u => ∃ t, u = .int i t) :=
  fun s Q E _ q => wpAny_Constant_int (q _ s.heap _ (fun _ _ e => e) ⟨_, rfl⟩)
theorem evc_var {x : Str} {v : Value} {m : Str → Option Value} {pos : Pos} (hk : env.scope.kind = .function) (hx : env.kindOf x = some .local) (hn : h0.Ns env.locals m) (hv : m x = some v) (hd : (x == ("__debug__" : Str)) = false) :
    Evc p w A env h0 (.Name x pos) (fun _ u => u = v) :=
  fun s Q E k q => wpAny_Name (wpAny_loadName_local hk hx (hn.keeps k) hv (q v s.heap s.toks (fun _ _ e => e) rfl)) hd
theorem evc_sub {e i : Expr} {pos : Pos} {t : Addr} {its : Array Value} {j : Nat} {y : Value} (ht : IsTup h0 t its) (he : Evc p w A env h0 e (fun _ u => u = .ref t)) (hi : Evc p w A env h0 i (fun _ u => ∃ tk, u = .int (j : Int) tk)) (hs : PlainIx i)
    (hz : its.size < 2 ^ 62) (hj : j < its.size) (hy : its[j]? = some y) : Evc p w A env h0 (.Subscript e i pos) (fun _ u => u = y) := by
  intro s Q E k q
  refine Subscript_ (he s _ _ k fun u h1 tk1 k1 r1 => ?_)
  refine hi _ _ _ (fun b o z => k1 b o (k b o z)) fun u2 h2 tk2 k2 r2 => ?_
  obtain ⟨tt, rfl⟩ := r2
  subst r1
  have ht' : IsTup h2 t its := ht.keeps fun b o z => k2 b o (k1 b o (k b o z))
  refine subscriptTail_builtinR (x := y) ht'.typeIs slot_tuple_getitem.lookup ?_ (hs _ _)
  refine getItem_tuple (j := j) (Q := fun r s' => r = y ∧ Q r s') ht' (by omega) (by omega) ?_ hy ⟨rfl, q _ _ _ (fun b o z => k2 b o (k1 b o z)) rfl⟩
  unfold seqIndex?
  have h3 : ¬ ((j : Int) < 0) := by omega
  simp only [h3, if_false]
  have h4 : (decide (0 ≤ (j : Int)) && decide ((j : Int) < (its.size : Int))) = true := by
    rw [Bool.and_eq_true, decide_eq_true_eq, decide_eq_true_eq]; omega
  rw [if_pos h4]
  rfl
theorem evc_len {x : Str} {e : Expr} {px pos : Pos} {t : Addr} {its : Array Value} {mg mb : Str → Option Value} (ht : IsTup h0 t its) (hz : its.size < 2 ^ 62) (hk : env.scope.kind = .function) (hgl : env.kindOf x = some .globalImplicit) (hgg : h0.Ns env.globals mg) (hm : mg x = none)
    (hbb : h0.Ns env.builtins mb) (hv : mb x = some (.builtin "len")) (he : Evc p w A env h0 e (fun _ u => u = .ref t)) (hd : (x == ("__debug__" : Str)) = false)
    (hst : starEach [e] env = (false, eval e env) :: starEach [] env := by rfl) (hpl : (backTo pos (starEach [] env)).any (·.1) = false := by rfl) :
    Evc p w A env h0 (.Call (.Name x px) [e] [] pos) (fun _ u => ∃ tk, u = .int its.size tk) := by
  intro s Q E k q
  refine wpAny_Call_Name_kw (Calls.Name_function_global hk hgl (Calls.loadGlobal_builtin (hgg.keeps k) hm (hbb.keeps k) hv ?_) hd)
  refine PyProof.Rows.callWith_builtin1 (wpAny_mono ?_ (fun us s1 z => z) fun _ _ z => z) hst hpl
  rw [hst]
  refine Calls.spliced_cons (he s _ _ k fun u h1 tk1 k1 r1 => ?_)
  refine Calls.spliced_nil ?_
  subst r1
  exact len_tuple (ht.keeps fun b o z => k1 b o (k b o z)) (by omega) (q _ _ _ k1 ⟨_, rfl⟩)
/-- a tuple of two whole numbers, its place new -/
def TupII (h0 h : Heap) (u : Value) (i j : Int) : Prop := ∃ (t : Addr) (ti tj : Tok), u = .ref t ∧ h0.get? t = none ∧ h.get? t = some { cls := .type "tuple", data := .seq #[.int i ti, .int j tj] }
theorem evc_tup2 {e1 e2 : Expr} {x1} {i j : Int} {pos : Pos} (h1 : Evc p w A env h0 e1 (fun _ u => ∃ tk, u = .int i tk)) (h2 : Evc p w A env h0 e2 (fun _ u => ∃ tk, u = .int j tk))
    (hs : starEach [e1, e2] env = [(false, eval e1 env), (false, eval e2 env)] := by rfl) : Evc p w A env h0 (.Tuple [e1, e2] x1 pos) (fun h u => TupII h0 h u i j) := by
  intro s Q E k q
  refine wpAny_Tuple_spliced ?_
  rw [hs]
  refine Calls.spliced_cons (h1 s _ _ k fun u g1 tk1 k1 r1 => ?_)
  refine Calls.spliced_cons (h2 _ _ _ (fun b o z => k1 b o (k b o z)) fun u2 g2 tk2 k2 r2 => ?_)
  refine Calls.spliced_nil ⟨by show 2 ≤ sizeLine; rw [sizeLine_eq]; decide, ?_⟩
  obtain ⟨t1, rfl⟩ := r1
  obtain ⟨t2, rfl⟩ := r2
  refine q _ _ tk2 (fun b o z => Heap.get?_push_of_some _ (k2 b o (k1 b o z))) ⟨g2.objs.size, t1, t2, rfl, ?_, Heap.get?_push_size _ rfl⟩
  cases z : h0.get? g2.objs.size with
  | none => rfl
  | some o => exact absurd (Heap.lt_size (k2 _ _ (k1 _ _ (k _ _ z)))) (Nat.lt_irrefl _)
end
/-! ### a lambda of one parameter, called -/
abbrev lenv (q : Str) (scope : Scope) (L f c' : Addr) : Env := newEnv scope L mainGlobals [] (q ++ ".<locals>.") (some f) (.ref c') none builtinsNs
structure LamOk (scope : Scope) (x : Str) : Prop where
  kind : scope.kind = .function
  co : scope.isCoroutine = false
  gen : scope.isGenerator = false
  nocell : ∀ y ∈ scope.names, y.2 ≠ .cell
  nofree : ∀ y ∈ scope.names, y.2 ≠ .free
  loc : scope.names.lookup x = some .local
theorem lam_call {p : Program} {w : World} {A : Around} {s : Shared} {f c' : Addr} {q x : Str} {params : Arguments} {body : Expr} {scope : Scope} {pm ctv v : Value} {R : Heap → Heap → Value → Prop} {Q : Value → Shared → Prop} {E : Value → Shared → Prop} (L : LamOk scope x) (hroom : A.depth < recursionLimit)
    (ho : s.heap.get? f = some (PySem.W.kla_obj "<lambda>" q params body scope [] pm c' ctv)) (hcd : s.heap.CodeRec (.ref c') q) (hlim : s.heap.NoLimit) (hbind : bindArgs (PySem.W.kla_fn "<lambda>" q params body scope [] pm (.ref c') ctv) ⟨[v], []⟩ = pure [(x, v)])
    (hbody : ∀ h₁ : Heap, (∀ b o, s.heap.get? b = some o → h₁.get? b = some o) → h₁.Ns s.heap.objs.size (fun y => [(x, v)].reverse.lookup y) → Evc p w (A.deeper (lenv q scope s.heap.objs.size f c')) (lenv q scope s.heap.objs.size f c') h₁ body (R h₁))
    (hq : ∀ u h₁ h' tk, (∀ b o, s.heap.get? b = some o → h₁.get? b = some o) → (∀ b o, h₁.get? b = some o → h'.get? b = some o) → R h₁ h' u → Q u { s with heap := h', toks := tk }) : wpAny (model p w) A (call (.ref f) [v]) Q E s := by
  refine wpAny_call (codeAny_mono (R := fun r s' => ∃ u, r = .ok (.ret u) ∧ Q u s') ?_ fun r s' hr => ?_)
  · refine PySem.W.kla_callFunE hroom ho rfl L.co L.gen rfl hcd ?_
    rw [hbind]
    refine wpAny_pure (wpAny_newFunctionEnv L.nocell (fun y hy => ?_) (fun h₁ hns hsb => ⟨hlim.fresh _ hsb, ?_⟩) L.kind)
    · rw [List.mem_singleton] at hy
      subst hy
      exact L.loc
    · have kp : ∀ b o, s.heap.get? b = some o → h₁.get? b = some o := fun b o e => hsb.extBut b o (Nat.ne_of_lt (Heap.lt_size e)) (Heap.get?_push_of_some _ e)
      refine PySem.W.kla_codeExpr (hbody h₁ kp hns _ _ _ (fun _ _ z => z) fun u h' tk k r => ⟨u, rfl, ?_⟩)
      exact hq u h₁ h' tk kp k r
  · obtain ⟨u, rfl, z⟩ := hr
    exact z
/-! ### max by such a key -/
/-- one pair of whole numbers is the less -/
def ltII (a b : Int × Int) : Bool := decide (a.1 < b.1 ∨ (a.1 = b.1 ∧ a.2 < b.2))
theorem max_run {p : Program} {w : World} {A : Around} {s : Shared} {a f : Addr} {vs : Array Value} {key : Nat → Int × Int} {Q : Value → Shared → Prop} {E : Value → Shared → Prop} (hh : A.handled = none) (hu : A.units + 64 < cLine) (hl : s.heap.IsList a vs) (hn : 0 < vs.size)
    (turn : ∀ (i : Nat) (v : Value), vs[i]? = some v → ∀ (h : Heap) (tk : Nat), (∀ b o, s.heap.get? b = some o → h.get? b = some o) → ∀ (Q : Value → Shared → Prop) (E : Value → Shared → Prop),
      (∀ u h₁ h' tk', (∀ b o, h.get? b = some o → h₁.get? b = some o) → (∀ b o, h₁.get? b = some o → h'.get? b = some o) → TupII h₁ h' u (key i).1 (key i).2 → Q u { s with heap := h', toks := tk' }) → wpAny (model p w) A.in1 (call (.ref f) [v]) Q E { s with heap := h, toks := tk })
    (hq : ∀ v h' tk, (∀ b o, s.heap.get? b = some o → h'.get? b = some o) → vs[argBest (fun i j => ltII (key j) (key i)) (vs.size - 1)]? = some v → Q v { s with heap := h', toks := tk }) :
    wpAny (model p w) A (call (.builtin "max") [.ref a] [(Str.ofString "key", .ref f)]) Q E s := by
  refine PySem.call_max_walkK (PySem.W.iter_listW (A := A.in1) hh hl fun s2 e2 W st0 hfp hne kp => ?_)
  subst e2
  refine ⟨_, _, _, _, _, _, _, (fun s' => ∃ h' tk, s' = { s with heap := h', toks := tk } ∧ ∀ b o, s.heap.get? b = some o → h'.get? b = some o),
    (fun i u s' => ∃ (t : Addr) (ti tj : Tok), u = .ref t ∧ t ≠ (s.heap.push { cls := .type "list_iterator", data := .fields #[.ref a, .int 0 0] }).objs.size ∧ t ≠ s.heap.objs.size ∧ s'.heap.get? t = some { cls := .type "tuple", data := .seq #[.int (key i).1 ti, .int (key i).2 tj] }),
    (fun i j => ltII (key j) (key i)), rfl, W, st0, hfp, hn, ?_, ⟨_, _, rfl, kp⟩, ?_⟩
  · refine ⟨?_, ?_, ?_, ?_⟩
    · rintro s1 s' ⟨h1, tk, rfl, k⟩ ⟨m1, m2, m3, m4, m5⟩
      obtain ⟨h', g', d', t', o'⟩ := s'
      cases m2; cases m3; cases m4
      refine ⟨h', t', rfl, fun b o e => m1 b o (fun z => ?_) (k b o e)⟩
      have hb := Heap.lt_size e
      rcases List.mem_cons.mp z with z | z
      · have z2 : b = s.heap.objs.size + 1 := z.trans (Heap.size_push ..)
        exact absurd hb (by rw [z2]; exact Nat.not_lt.mpr (Nat.le_succ _))
      · have z2 : b = s.heap.objs.size := List.mem_singleton.mp z
        exact absurd hb (by rw [z2]; exact Nat.lt_irrefl _)
    · rintro i u s1 s' ⟨t, ti, tj, rfl, n1, n2, e⟩ ⟨m1, _⟩
      refine ⟨t, ti, tj, rfl, n1, n2, m1 _ _ (fun z => ?_) e⟩
      rcases List.mem_cons.mp z with z | z
      · exact n1 z
      · exact n2 (List.mem_singleton.mp z)
    · rintro i v s1 o Q' E' hi hv ⟨h1, tk, rfl, k⟩ st hS q
      refine turn i v hv h1 tk k Q' E' fun u h₁ h' tk' k1 k2 r => ?_
      obtain ⟨t, ti, tj, rfl, fr, e⟩ := r
      have n1 : t ≠ (s.heap.push { cls := .type "list_iterator", data := .fields #[.ref a, .int 0 0] }).objs.size := fun z => by
        rw [z, k1 _ _ hS] at fr; cases fr
      have n2 : t ≠ s.heap.objs.size := fun z => by
        obtain ⟨⟨oi, ho, _⟩, _⟩ := st
        rw [z, k1 _ _ ho] at fr; cases fr
      have kk : ∀ b o, h1.get? b = some o → h'.get? b = some o := fun b o z => k2 b o (k1 b o z)
      refine q _ _ ⟨h', tk', rfl, fun b o z => kk b o (k b o z)⟩ ⟨?_, ?_⟩ (kk _ _ hS) ⟨t, ti, tj, rfl, n1, n2, e⟩ ?_
      · obtain ⟨⟨oi, ho, hr⟩, _⟩ := st
        exact ⟨oi, kk _ _ ho, hr⟩
      · obtain ⟨_, ⟨oi, ho, hr⟩⟩ := st
        exact ⟨oi, kk _ _ ho, hr⟩
      · rintro j u' ⟨t2, a2, b2, rfl, c1, c2, e3⟩
        exact ⟨t2, a2, b2, rfl, c1, c2, kk _ _ e3⟩
    · rintro i j ki kj s1 Q' E' hJ ⟨t, ti, tj, rfl, _, _, e⟩ ⟨t2, ti2, tj2, rfl, _, _, e2⟩ q
      have r1 : Reads s1.heap (.ref t) (.tuple [.int (key i).1, .int (key i).2]) [] := .tuple e rfl rfl (.cons (.int _ _) (.cons (.int _ _) .nil))
      have r2 : Reads s1.heap (.ref t2) (.tuple [.int (key j).1, .int (key j).2]) [] := .tuple e2 rfl rfl (.cons (.int _ _) (.cons (.int _ _) .nil))
      refine PySem.W.rcGt_alike _ _ A.in1 s1 _ _ _ _ r1 r2 (by simp [PySem.W.alike, PySem.W.alikeAll]) (by intro z; cases z) ?_ p w E' Q' ?_
      · have hd : (PyData.tuple [.int (key i).1, .int (key i).2]).depth = 1 := by simp [PyData.depth, PyData.depthAll]
        have := Nat.min_le_left (PyData.tuple [.int (key i).1, .int (key i).2]).depth (PyData.tuple [.int (key j).1, .int (key j).2]).depth
        rw [hd] at this
        have h1 : A.in1.units ≤ A.units + 1 := Nat.le_refl _
        omega
      · rw [PySem.W.dataLt_ii]
        exact q
  · rintro v s' hv ⟨h', tk, rfl, k⟩
    exact hq v h' tk k hv
/-! ### the lambda made -/
/-- the table at Pt has grown by a code object of the name q, or not at all -/
inductive Grow (Pt : Addr) (q : Str) (H : Hp) : Hp → Prop
  | same : TabS H Pt q → Grow Pt q H H
  | more {ps : Array Value} {c' : Addr} {vs : Array Value} : H Pt = some (.tbl ps) → H c' = none → (TriplesOk (ps ++ vs).toList ∧ ∀ (pos : Pos) (cv : Value), codeAmong pos (ps ++ vs).toList = some cv → codeAmong pos ps.toList = some cv ∨ cv = .ref c') → Grow Pt q H (upd (upd H Pt (.tbl (ps ++ vs))) c' (CodeO c' q))
section
variable {X : Cx} {pins : List (Addr × Obj)} {σ : L2.St} {H : Hp} {s : Shared}
theorem lam_new {c Pt : Addr} {q : Str} {params : Arguments} {body : Expr} {scope : Scope} {pos : Pos} {E : Value → Shared → Prop} {Q : Value → Shared → Prop} (I : Inv X pins σ H s) (TB : TabB X.base X.mg c Pt) (hcode : X.env.code = .ref c) (hq : X.env.qual ++ "<lambda>" = q)
    (hT : TabS H Pt q) (hdef : defaultsOf params X.env = ([], [])) (hnf : ∀ y ∈ scope.names, y.2 ≠ .free) (hcl : cloFrom X.env.cells scope.names [] = [])
    (h : ∀ (f c' : Addr) (pm ctv : Value) (H1 : Hp) (s' : Shared), Inv X pins σ H1 s' → Grow Pt q H H1 → s'.heap.get? f = some (PySem.W.kla_obj "<lambda>" q params body scope [] pm c' ctv) → s'.heap.CodeRec (.ref c') q → Q (.ref f) s') :
    wpAny (model X.prog X.w) X.A (eval (.Lambda params body scope pos) X.env) Q E s := by
  subst hq
  obtain ⟨ps, tP, tOk, tAll⟩ := id hT
  refine PySem.W.kla_eval hdef ?_
  have atP : s.heap.get? Pt = some { cls := .none, data := .fields ps } := I.hok Pt _ tP
  have cl := closure_ok (env := X.env) (scope := scope) fun y hy e => absurd e (hnf y hy)
  rw [hcl] at cl
  cases known : codeAmong pos ps.toList with
  | some cv =>
    obtain ⟨c', rfl, hco⟩ := tAll pos cv known
    obtain ⟨⟨oc, vs, t, k1, k2, k3⟩, _, _⟩ := I.hok c' _ hco
    refine PySem.W.kla_makeFunctionHit (mg := X.mg) (c := c) (P := Pt) (ps := ps) cl I.ok.glob (I.mod.glob.keeps I.bk) hcode (TB.code.keeps I.bk) atP tOk known (TB.bm.keeps I.bk) fun ctv h' tk hx hsz => ?_
    exact h _ c' _ ctv H _ (I.kept fun b o e => Heap.get?_push_of_some _ (hx b o e)) (.same hT) (Heap.get?_push_size _ rfl) ⟨c', oc, vs, t, rfl, Heap.get?_push_of_some _ (hx _ _ k1), k2, k3⟩
  | none =>
    refine PySem.W.kla_makeFunction (mg := X.mg) (c := c) (P := Pt) (ps := ps) cl I.ok.glob (I.mod.glob.keeps I.bk) hcode (TB.code.keeps I.bk) atP tOk known TB.gP (TB.bm.keeps I.bk) fun c' ctv h' tk hx hge hlt hrec htb => ?_
    obtain ⟨c2, oc, vs, t, e2, r1, r2, r3⟩ := hrec
    cases e2
    have fresh : H c' = none := I.hok.fresh hge
    have grown := inv_table (t' := tk) (q := X.env.qual ++ "<lambda>") (more := #[rawInt pos.line, rawInt pos.col, .ref c']) (h' := h'.push (PySem.W.kla_obj "<lambda>" (X.env.qual ++ "<lambda>") params body scope [] ((X.mg "__name__").getD .none) c' ctv)) I tP
      (fun b o hb e => Heap.get?_push_of_some _ (hx b o hb e)) (Heap.get?_push_of_some _ htb) hge ⟨oc, vs, t, Heap.get?_push_of_some _ r1, r2, r3⟩
    refine h _ c' _ ctv _ _ grown (.more tP fresh ?_) (Heap.get?_push_size _ rfl) ⟨c', oc, vs, t, rfl, Heap.get?_push_of_some _ r1, r2, r3⟩
    have lst : (ps ++ #[rawInt pos.line, rawInt pos.col, .ref c']).toList = ps.toList ++ [rawInt pos.line, rawInt pos.col, .ref c'] := by simp
    refine ⟨by rw [lst]; exact PySem.TriplesOk_snoc _ _ _ _ tOk, fun p' cv hcv => ?_⟩
    rw [lst] at hcv
    exact among_app _ tOk hcv
end
/-- max(e, key=lambda x: (x[0], len(x[1]))): what is asked, what is told -/
def KeyPL (K : PySem.W.Frag) (H : Hp) (x : V) (k : Int × Int) : Prop := ∃ (t r : Addr) (rows : List V), x = .ref t ∧ SqT K H t [.int k.1, .ref r] ∧ SqT K H r rows ∧ k.2 = rows.length
def tMaxPL (K : PySem.W.Frag) (Pt : Addr) (q : Str) (te : TE) : TE := fun σ H Q => te σ H fun v H1 => TabS H1 Pt q ∧ ∀ H2, Grow Pt q H1 H2 → ∃ (a : Addr) (xs : List V) (key : Nat → Int × Int), v = .ref a ∧ SqL K H2 a xs ∧ 0 < xs.length ∧
  (∀ i x, xs[i]? = some x → KeyPL K H2 x (key i)) ∧ ∀ x, xs[argBest (fun i j => ltII (key j) (key i)) (xs.length - 1)]? = some x → Q x H2
abbrev plBody (x : Str) (k0 k1 : Nat) (x1 : Nat) (p2 p3 p4 p5 p6 p7 p8 p9 p10 : Pos) : Expr :=
  .Tuple [.Subscript (.Name x p2) (.Constant (.int 0) k0 p3) p4, .Call (.Name "len" p5) [.Subscript (.Name x p6) (.Constant (.int 1) k1 p7) p8] [] p9] x1 p10
theorem pe_maxPL {X : Cx} {c Pt : Addr} {q x : Str} {n : Nat} {e : Expr} {te : TE} {params : Arguments} {scope : Scope} {k0 k1 : Nat} {x1} {p1 p2 p3 p4 p5 p6 p7 p8 p9 p10 lpos kpos pos : Pos} (hr : Room n X.A) (he : PE X e te)
    (TB : TabB X.base X.mg c Pt) (hcode : X.env.code = .ref c) (hq : X.env.qual ++ "<lambda>" = q) (hg : Gl X "max") (hm : X.mg "max" = none) (hml : X.mg "len" = none) (hdef : defaultsOf params X.env = ([], [])) (L : LamOk scope x) (hcl : cloFrom X.env.cells scope.names [] = [])
    (hlen : ∀ L f c', (lenv q scope L f c').kindOf "len" = some .globalImplicit) (hx : ∀ L f c', (lenv q scope L f c').kindOf x = some .local) (hd : (x == ("__debug__" : Str)) = false)
    (hbind : ∀ pm cv ctv v, bindArgs (PySem.W.kla_fn "<lambda>" q params (plBody x k0 k1 x1 p2 p3 p4 p5 p6 p7 p8 p9 p10) scope [] pm cv ctv) ⟨[v], []⟩ = pure [(x, v)])
    (hst : backTo pos (starEach [e] X.env) = (false, eval e X.env) :: backTo pos (starEach [] X.env) := by rfl) (hst0 : starEach [e] X.env = (false, eval e X.env) :: starEach [] X.env := by rfl) (hpl : (backTo pos (starEach [e] X.env)).any (·.1) = false := by rfl) :
    PE X (.Call (.Name "max" p1) [e] [⟨some "key", .Lambda params (plBody x k0 k1 x1 p2 p3 p4 p5 p6 p7 p8 p9 p10) scope lpos, kpos⟩] pos) (tMaxPL X.K Pt q te) := by
  refine ⟨fun pins s σ H Q I h => ?_⟩
  refine wpAny_Call_Name_kw (ld_blt I hg hm (show bootBuiltins "max" = some (.builtin "max") from rfl) ?_ (by decide) rfl)
  refine PyProof.Rows.callWith_kw (thn (((pa_cons he pa_nil hst0 : PA X [e] _)).run pos pins s σ H (fun vs H1 => match vs with
    | [v] => TabS H1 Pt q ∧ ∀ H2, Grow Pt q H1 H2 → ∃ (a : Addr) (xs : List V) (key : Nat → Int × Int), v = .ref a ∧ SqL X.K H2 a xs ∧ 0 < xs.length ∧
      (∀ i x, xs[i]? = some x → KeyPL X.K H2 x (key i)) ∧ ∀ x, xs[argBest (fun i j => ltII (key j) (key i)) (xs.length - 1)]? = some x → Q x H2
    | _ => False) I h) fun us s1 ⟨vs, H1, I1, r1, q1⟩ => ?_) hst hpl rfl rfl
  obtain ⟨v, rfl, hT, q2⟩ : ∃ v, vs = [v] ∧ TabS H1 Pt q ∧ ∀ H2, Grow Pt q H1 H2 → ∃ (a : Addr) (xs : List V) (key : Nat → Int × Int), v = .ref a ∧ SqL X.K H2 a xs ∧ 0 < xs.length ∧
      (∀ i x, xs[i]? = some x → KeyPL X.K H2 x (key i)) ∧ ∀ x, xs[argBest (fun i j => ltII (key j) (key i)) (xs.length - 1)]? = some x → Q x H2 := by
    match vs, q1 with
    | [v], z => exact ⟨v, rfl, z⟩
  clear q1
  obtain ⟨u, rfl, ru⟩ := vals1 r1
  show wpAny _ _ (evalAll ((do let v ← eval (.Lambda params (plBody x k0 k1 x1 p2 p3 p4 p5 p6 p7 p8 p9 p10) scope lpos) X.env; standAt pos; pure v) :: [])) _ _ s1
  refine wpAny_evalAll_cons (wpAny_bind (lam_new I1 TB hcode hq hT hdef L.nofree hcl fun f c' pm ctv H2 s2 I2 gr hf hcd => wpAny_bind (wpAny_standAt (wpAny_pure (wpAny_evalAll_nil ?_)))))
  obtain ⟨a, xs, key, rfl, hS, hn, hkey, q3⟩ := q2 H2 gr
  obtain rfl : u = Value.ref a := ru
  obtain ⟨its, rv, pl, hz⟩ := I2.list hS
  have hlv := rv.length
  obtain ⟨mb, b1, b2⟩ := I2.mod.blt
  show wpAny _ _ (call (.builtin "max") [.ref a] [(Str.ofString "key", .ref f)]) _ _ s2
  refine max_run (key := key) hr.hd hr.units pl.isList (by rw [List.size_toArray, ← hlv]; exact hn) (fun i v hv h tk kp Q' E' hq' => ?_) (fun v h' tk kp hv => ?_)
  · rw [List.getElem?_toArray] at hv
    obtain ⟨y, hy, ry⟩ : ∃ y, xs[i]? = some y ∧ RelV y v := by
      have hi : i < xs.length := by rw [hlv]; exact (List.getElem?_eq_some_iff.mp hv).1
      obtain ⟨v', e1, e2⟩ := rv.get (List.getElem?_eq_getElem hi)
      rw [hv] at e1
      cases e1
      exact ⟨_, List.getElem?_eq_getElem hi, e2⟩
    obtain ⟨t, r, rows, rfl, h1, h2, e2⟩ := hkey i y hy
    obtain rfl : v = Value.ref t := ry
    obtain ⟨ts, rt, pt, zt⟩ := I2.tuple h1
    obtain ⟨rs, rr, pr, zr⟩ := I2.tuple h2
    obtain ⟨v1, v2, rfl, ⟨t1, rfl⟩, rv2⟩ := vals2 rt
    obtain rfl : v2 = Value.ref r := rv2
    have hlr := rr.length
    have hz62 : rs.toArray.size < 2 ^ 62 := by
      rw [List.size_toArray, ← hlr]
      rw [sizeLine_eq] at zr
      omega
    refine lam_call (x := x) (R := fun h₁ h' u => TupII h₁ h' u (key i).1 (key i).2) L hr.depth (kp _ _ hf) ?_ ?_ (hbind _ _ _ _) (fun h₁ kq hns => ?_) fun u h₁ h' tk' kq kr r => hq' u h₁ h' tk' kq kr r
    · obtain ⟨c2, oc, ws, tt, a1, a2, a3, a4⟩ := hcd
      exact ⟨c2, oc, ws, tt, a1, kp _ _ a2, a3, a4⟩
    · exact I2.nolimit.keeps kp
    · have kk : ∀ b o, s2.heap.get? b = some o → h₁.get? b = some o := fun b o z => kq b o (kp b o z)
      have pt' : IsTup h₁ t _ := pt.keeps kk
      have pr' : IsTup h₁ r _ := pr.keeps kk
      have var : ∀ AA pz, Evc X.prog X.w AA (lenv q scope h.objs.size f c') h₁ (.Name x pz) (fun _ u => u = .ref t) := fun AA pz => evc_var (m := fun y => [(x, Value.ref t)].reverse.lookup y) L.kind (hx _ _ _) hns (by simp) hd
      refine evc_tup2 ?_ ?_
      · intro s Q E k q
        refine evc_sub (pos := p4) (y := .int (key i).1 t1) (j := 0) pt' (var _ p2) (evc_int (i := 0) (k := k0) (pos := p3)) (fun _ _ => rfl) (by simp) (by simp) (by simp) s Q E k fun u h' tk kk r => q u h' tk kk ⟨t1, r⟩
      · have e3 : (key i).2 = (rs.toArray.size : Int) := by rw [List.size_toArray, ← hlr]; exact e2
        rw [e3]
        exact evc_len (x := "len") (px := p5) (pos := p9) pr' hz62 L.kind (hlen _ _ _) ((I2.mod.glob.keeps I2.bk).keeps kk) hml ((b1.keeps I2.bk).keeps kk) ((b2 _ (by decide)).trans rfl)
          (evc_sub (pos := p8) (y := .ref r) (j := 1) pt' (var _ p6) (evc_int (i := 1) (k := k1) (pos := p7)) (fun _ _ => rfl) (by simp) (by simp) (by simp)) rfl
  · rw [List.getElem?_toArray, List.size_toArray, ← hlv] at hv
    obtain ⟨y, hy⟩ : ∃ y, xs[argBest (fun i j => ltII (key j) (key i)) (xs.length - 1)]? = some y := ⟨_, List.getElem?_eq_getElem (Nat.lt_of_lt_of_eq (List.getElem?_eq_some_iff.mp hv).1 hlv.symm)⟩
    obtain ⟨v', e1, e2⟩ := rv.get hy
    rw [hv] at e1
    cases e1
    exact ⟨y, H2, I2.kept kp, e2, q3 y hy⟩
end FS

set_option Elab.async false
set_option maxRecDepth 100000
set_option linter.all false
/-! FsObj: objects, dicts, tables of code objects, while: by pieces. -/
namespace FS
open PySem PySem.Spec PyProof.Rows L2 Evl LamX
/-! ### list(d.values()) -/
def rValsL (x : V) (H : Hp) (Q : VK) : Prop := ∃ (d : Addr) (kvs : List (Key × V)), x = .ref d ∧ H d = some (.dK kvs) ∧ NewO (.lst (kvs.map (·.2))) H Q
def tListVals (te : TE) : TE := fun σ H Q => te σ H fun x H1 => rValsL x H1 Q
theorem kv_vals {κ : Type} {kvs : List (κ × V)} {vs : List (κ × Value)} (r : KV kvs vs) : Vals (kvs.map (·.2)) (vs.map (·.2)) := by
  unfold KV at r
  induction r with
  | nil => exact .nil
  | cons h t ih => exact .cons h.2 ih
theorem pe_listVals {X : Cx} {e : Expr} {te : TE} {p apos cpos pos : Pos} (hc : X.calm = true) (he : PE X e te) (hg : Gl X "list") (hm : X.mg "list" = none) (hbase : attributeBase e "values" X.env (eval e X.env) = eval e X.env := by rfl) (hline : (apos.endLine == cpos.line) = true := by rfl)
    (hs : starEach [.Call (.Attribute e "values" apos) [] [] cpos] X.env = (false, eval (.Call (.Attribute e "values" apos) [] [] cpos) X.env) :: starEach [] X.env := by rfl) :
    PE X (.Call (.Name "list" p) [.Call (.Attribute e "values" apos) [] [] cpos] [] pos) (tListVals te) := by
  refine ⟨fun pins s σ H Q I hq => ?_⟩
  refine wpAny_Call_Name_kw (ld_blt I hg hm (show bootBuiltins "list" = some (.type "list") from by decide +kernel) ?_)
  refine PyProof.Rows.callWith_type1 ?_ hs rfl
  rw [hs]
  show wpAny _ _ (spliced ((false, eval (.Call (.Attribute e "values" apos) [] [] cpos) X.env) :: backTo pos (starEach [] X.env))) _ _ s
  refine Calls.spliced_cons ?_
  refine wpAny_Call_method (T := "dict") (id := "dict.values") hbase rfl hline F.plainAttrs_dict F.slot_dict_values F.type_dict_values (thn (he.run pins s σ H _ I hq) fun u s1 ⟨x, H1, I1, rx, d, kvs, ex, hd, q⟩ => ?_)
  subst ex
  obtain rfl : u = Value.ref d := rx
  obtain ⟨hz, hs0, vs, kv, hdo⟩ := I1.hok d _ hd
  obtain ⟨ep, hat⟩ := hdo.dictAt
  have lk : kvs.length = vs.length := Paired.length kv
  refine ⟨hdo.typeIs, hdo.mapOf.noDict, ?_⟩
  show wpAny _ _ (callWith cpos (.builtin "dict.values") [.ref d] [] []) _ X.xe s1
  refine method_meetsIn F.slot_dict_values F.entry_dict_values rfl (PySem.evalArgs_none ⟨rfl, hdo.typeIs, F.args_dict_values_1 _, _, meets_dict_values (mixKind X.prog X.w) d hs0, ⟨vs, hdo⟩, ?_⟩)
  refine Calls.spliced_nil ?_
  refine PySem.W.kdl_call (PySem.W.kdl_values (knd := mixKind X.prog X.w) (kvs := vs) (ep := ep) (r := s1.heap.objs.size) (d := d)) (I1.ok.hd hc) ⟨⟨_, Heap.get?_push_size _ rfl, rfl, rfl⟩, hat.push _⟩ (by omega) fun h' tk acc c hk hS hacc => ?_
  have sz : (s1.heap.push { cls := .type "dict_values", data := .fields #[.ref d] }).objs.size = s1.heap.objs.size + 1 := Heap.size_push ..
  have e2 : acc.toList = vs.map (·.2) := PySem.W.kdl_vals_eq acc.toList (by rw [Array.length_toList]; exact hacc.1) fun j v e => hacc.2 j v (by rw [← Array.getElem?_toList]; exact e)
  have kept : ∀ b o, s1.heap.get? b = some o → h'.get? b = some o := fun b o z => hk b o (Heap.get?_push_of_some _ z)
  refine ⟨.ref _, upd H1 (s1.heap.push { cls := .type "dict_values", data := .fields #[.ref d] }).objs.size (.lst (kvs.map (·.2))), I1.laid (t' := tk) kept (by rw [sz]; exact Nat.le_succ _) ⟨by rw [List.length_map]; exact hz, acc.toList, c, by rw [e2]; exact kv_vals kv, by rw [Array.toArray_toList]; exact hS⟩, rfl, q _ (I1.hok.fresh (by rw [sz]; exact Nat.le_succ _))⟩
/-! ### a code object's table as a piece -/
def tabP (Pt : Addr) (q : Str) : Ch := ⟨fun P h => ∃ ps, h Pt = some (.tbl ps) ∧ TriplesOk ps.toList ∧ ∀ (pos : Pos) (cv : Value), codeAmong pos ps.toList = some cv → ∃ c, cv = .ref c ∧ P c = some (CodeO c q),
  fun e ⟨ps, a, b, c⟩ => ⟨ps, a, b, fun pos cv h => let ⟨c0, e1, e2⟩ := c pos cv h; ⟨c0, e1, e _ _ e2⟩⟩⟩
theorem Mem.tabS {P H : Hp} {cs : List Ch} {Pt : Addr} {q : Str} (m : Mem P (tabP Pt q :: cs) H) : TabS H Pt q := by
  obtain ⟨e, h, ⟨h1, h2, ⟨ps, a, b, c⟩, _, _, e1, _⟩, _, l⟩ := m
  exact ⟨ps, l _ _ (e1 _ _ a), b, fun pos cv z => let ⟨c0, r1, r2⟩ := c pos cv z; ⟨c0, r1, e _ _ r2⟩⟩
theorem Mem.tabI {P H : Hp} {cs : List Ch} {Pt : Addr} {q : Str} {ps : Array Value} (m : Mem P (pt Pt (.tbl ps) :: cs) H) (b : TriplesOk ps.toList) (c : ∀ (pos : Pos) (cv : Value), codeAmong pos ps.toList = some cv → ∃ c, cv = .ref c ∧ P c = some (CodeO c q)) : Mem P (tabP Pt q :: cs) H := by
  obtain ⟨e, h, ⟨h1, h2, a, r⟩, d⟩ := m
  exact ⟨e, h, ⟨h1, h2, ⟨ps, a, b, c⟩, r⟩, d⟩
theorem Mem.tabE {P H : Hp} {cs : List Ch} {Pt : Addr} {q : Str} (m : Mem P (tabP Pt q :: cs) H) : ∃ ps, Mem P (pt Pt (.tbl ps) :: cs) H ∧ TriplesOk ps.toList ∧ ∀ (pos : Pos) (cv : Value), codeAmong pos ps.toList = some cv → ∃ c, cv = .ref c ∧ P c = some (CodeO c q) := by
  obtain ⟨e, h, ⟨h1, h2, ⟨ps, a, b, c⟩, r⟩, d⟩ := m
  exact ⟨ps, ⟨e, h, ⟨h1, h2, a, r⟩, d⟩, b, c⟩
theorem Mem.grow {P H H2 : Hp} {cs : List Ch} {Pt : Addr} {q : Str} (m : Mem P (tabP Pt q :: cs) H) (g : Grow Pt q H H2) : ∃ P', Ex P P' ∧ Mem P' (tabP Pt q :: cs) H2 := by
  cases g with
  | same _ => exact ⟨P, Ex.refl _, m⟩
  | more a n t =>
    rename_i ps c' vs
    obtain ⟨ps', m', b, c⟩ := m.tabE
    have e := m'.rd0
    rw [a] at e
    cases e
    have nc : upd H Pt (.tbl (ps ++ vs)) c' = none := by rw [upd_ne (fun z => by rw [z, a] at n; cases n)]; exact n
    have f := Mem.newP (m'.put0 (o' := .tbl (ps ++ vs))) nc (o := CodeO c' q)
    refine ⟨_, f.2, f.1.tabI t.1 fun pos cv z => ?_⟩
    rcases t.2 pos cv z with y | y
    · obtain ⟨c0, r1, r2⟩ := c pos cv y
      exact ⟨c0, r1, f.2 _ _ r2⟩
    · exact ⟨c', y, upd_same⟩
/-! ### objects -/
def FldAt (K : PySem.W.Frag) (f : Str) (x : V) (H : Hp) (Q : VK) : Prop := ∃ a C dx fs v, x = .ref a ∧ H a = some (.ins C dx fs) ∧ Cls K C ∧ NoAttr K C f ∧ fs.lookup f = some v ∧ Q v H
theorem i_fldT {K : PySem.W.Frag} {ta : TE} {f : Str} {σ : L2.St} {H : Hp} {Q : VK} (h : ta σ H fun x H1 => FldAt K f x H1 Q) : tFld K ta f σ H Q := h
theorem i_fldAt {K : PySem.W.Frag} {P H : Hp} {cs r : List Ch} {a C dx : Addr} {fs : List (Str × V)} {f : Str} {v : V} {Q : VK} (m : Mem P cs H) (q : Sel cs (pt a (.ins C dx fs)) r) (c : Cls K C) (n : NoAttr K C f) (l : fs.lookup f = some v) (k : Q v H) : FldAt K f (.ref a) H Q := ⟨a, C, dx, fs, v, rfl, m.rd q, c, n, l, k⟩
def FldPut (K : PySem.W.Frag) (f : Str) (x y : V) (H : Hp) (N : Hp → Prop) : Prop := ∃ a C dx fs, x = .ref a ∧ H a = some (.ins C dx fs) ∧ Cls K C ∧ NoAttr K C f ∧ fs.length < 1000 ∧ N (upd H a (.ins C dx (putF f y fs)))
theorem i_sFld {K : PySem.W.Frag} {ta tv : TE} {f : Str} {D : Ends} {σ : L2.St} {H : Hp} (h : tv σ H fun y H1 => ta σ H1 fun x H2 => FldPut K f x y H2 (D.nx σ)) : sFld K ta tv f D σ H := h
theorem i_fldPut {K : PySem.W.Frag} {P H : Hp} {cs r : List Ch} {a C dx : Addr} {fs fs' : List (Str × V)} {f : Str} {y : V} {N : Hp → Prop} (m : Mem P cs H) (c : Cls K C) (n : NoAttr K C f) (hp : putF f y fs = fs') (u : Upd cs a (.ins C dx fs) (.ins C dx fs') r) (hl : fs.length < 1000) (q : ∀ H', Mem P r H' → N H') : FldPut K f (.ref a) y H N := by
  subst hp
  exact ⟨a, C, dx, fs, rfl, u.rd m, c, n, hl, q _ (m.put u)⟩
def FldBack (a C : Addr) (f : Str) (z : V) (H : Hp) (N : Hp → Prop) : Prop := ∃ dx fs, H a = some (.ins C dx fs) ∧ fs.length < 1000 ∧ N (upd H a (.ins C dx (putF f z fs)))
def FldAug (K : PySem.W.Frag) (f : Str) (x : V) (H : Hp) (R : Addr → Addr → V → Prop) : Prop := ∃ a C dx fs v, x = .ref a ∧ H a = some (.ins C dx fs) ∧ Cls K C ∧ NoAttr K C f ∧ fs.lookup f = some v ∧ R a C v
theorem i_sFldAug {K : PySem.W.Frag} {ta tv : TE} {rd : V → V → Hp → VK → Prop} {f : Str} {D : Ends} {σ : L2.St} {H : Hp} (h : ta σ H fun x H1 => FldAug K f x H1 fun a C v => tv σ H1 fun y H2 => rd v y H2 fun z H3 => FldBack a C f z H3 (D.nx σ)) : sFldAug K ta tv rd f D σ H := h
theorem i_fldAug {K : PySem.W.Frag} {P H : Hp} {cs r : List Ch} {a C dx : Addr} {fs : List (Str × V)} {f : Str} {v : V} {R : Addr → Addr → V → Prop} (m : Mem P cs H) (q : Sel cs (pt a (.ins C dx fs)) r) (c : Cls K C) (n : NoAttr K C f) (l : fs.lookup f = some v) (k : R a C v) : FldAug K f (.ref a) H R := ⟨a, C, dx, fs, v, rfl, m.rd q, c, n, l, k⟩
theorem i_fldBack {P H : Hp} {cs r : List Ch} {a C dx : Addr} {fs fs' : List (Str × V)} {f : Str} {y : V} {N : Hp → Prop} (m : Mem P cs H) (hp : putF f y fs = fs') (u : Upd cs a (.ins C dx fs) (.ins C dx fs') r) (hl : fs.length < 1000) (q : ∀ H', Mem P r H' → N H') : FldBack a C f y H N := by
  subst hp
  exact ⟨dx, fs, u.rd m, hl, q _ (m.put u)⟩
theorem i_rAdd {i j : Int} {H : Hp} {Q : VK} (q : Q (.int (i + j)) H) : rAdd (.int i) (.int j) H Q := ⟨i, j, rfl, rfl, q⟩
def MethAt (C : Addr) (m : Str) (x : V) (H : Hp) (R : Prop) : Prop := ∃ a dx fs, x = .ref a ∧ H a = some (.ins C dx fs) ∧ fs.lookup m = none ∧ R
theorem i_meth {C : Addr} {m : Str} {sp : Sp} {dvs : List V} {E : XK} {ta : TE} {t : TA} {σ : L2.St} {H : Hp} {Q : VK} (h : ta σ H fun x H1 => MethAt C m x H1 (t σ H1 fun vs H2 => sp (x :: (vs ++ dvs)) H2 Q E)) : tMeth C m sp dvs E ta t σ H Q := h
theorem i_methAt {P H : Hp} {cs r : List Ch} {a C dx : Addr} {fs : List (Str × V)} {n : Str} {R : Prop} (m : Mem P cs H) (q : Sel cs (pt a (.ins C dx fs)) r) (l : fs.lookup n = none) (k : R) : MethAt C n (.ref a) H R := ⟨a, dx, fs, rfl, m.rd q, l, k⟩
def NewIns (C : Addr) (H : Hp) (R : Addr → Hp → Prop) : Prop := ∀ x dx, H x = none → H dx = none → dx ≠ x → R x (upd (upd H dx (.own x)) x (.ins C dx []))
theorem i_make {C : Addr} {sp : Sp} {dvs : List V} {E : XK} {t : TA} {σ : L2.St} {H : Hp} {Q : VK} (h : t σ H fun vs H1 => NewIns C H1 fun x H' => sp (.ref x :: (vs ++ dvs)) H' (fun v H2 => v = .non ∧ Q (.ref x) H2) E) : tMake C sp dvs E t σ H Q := h
theorem i_newIns {P H : Hp} {cs : List Ch} {C : Addr} {R : Addr → Hp → Prop} (m : Mem P cs H) (q : ∀ x dx P' H', Ex P P' → Mem P' (pt x (.ins C dx []) :: cs) H' → R x H') : NewIns C H R := by
  intro x dx hx hd hne
  have m1 := m.newP hd (o := .own x)
  exact q x dx _ _ m1.2 (m1.1.new (by rw [upd_ne (Ne.symm hne)]; exact hx))
/-! ### dicts -/
theorem i_dnewK {σ : L2.St} {H : Hp} {Q : VK} (h : NewO (.dK []) H Q) : tDNewK σ H Q := h
theorem i_dnewT {σ : L2.St} {H : Hp} {Q : VK} (h : NewO (.dT []) H Q) : tDNewT σ H Q := h
def DispEnd (p : Addr) (ps : List (V × V)) (H : Hp) (Q : VK) : Prop := H p = some (.dK []) ∧ ∃ kvs : List (Key × V), ps = kvs.map (fun kv => (kV kv.1, kv.2)) ∧ kvs.length ≤ 15 ∧ Q (.ref p) (upd H p (.dK (mergeK [] kvs)))
theorem i_disp {P H : Hp} {cs : List Ch} {trs : List (TE × TE)} {σ : L2.St} {Q : VK} (m : Mem P cs H) (q : ∀ p H', Mem P (pt p (.dK []) :: cs) H' → tPairs trs σ H' fun ps H2 => DispEnd p ps H2 Q) : tDisp trs σ H Q := fun p n => q p _ (m.new n)
theorem i_pairN {σ : L2.St} {H : Hp} {Q : List (V × V) → Hp → Prop} (h : Q [] H) : tPairs [] σ H Q := h
theorem i_pairC {tk tv : TE} {r : List (TE × TE)} {σ : L2.St} {H : Hp} {Q : List (V × V) → Hp → Prop} (h : tk σ H fun x H1 => tv σ H1 fun y H2 => tPairs r σ H2 fun ps H3 => Q ((x, y) :: ps) H3) : tPairs ((tk, tv) :: r) σ H Q := h
theorem i_dispEnd {P H : Hp} {cs r : List Ch} {p : Addr} {ps : List (V × V)} {kvs : List (Key × V)} {Q : VK} (m : Mem P cs H) (e : ps = kvs.map (fun kv => (kV kv.1, kv.2))) (u : Upd cs p (.dK []) (.dK (mergeK [] kvs)) r) (hl : kvs.length ≤ 15) (q : ∀ H', Mem P r H' → Q (.ref p) H') : DispEnd p ps H Q :=
  ⟨u.rd m, kvs, e, hl, q _ (m.put u)⟩
theorem i_dispI {P H : Hp} {cs r : List Ch} {p : Addr} {k : Int} {v : V} {Q : VK} (m : Mem P cs H) (u : Upd cs p (.dK []) (.dK [(Sum.inl k, v)]) r) (q : ∀ H', Mem P r H' → Q (.ref p) H') : DispEnd p [(.int k, v)] H Q :=
  i_dispEnd (kvs := [(Sum.inl k, v)]) m rfl u (by show 1 ≤ 15; decide) q
def DGetAt (x y : V) (H : Hp) (Q : VK) : Prop := ∃ a v, x = .ref a ∧ DGet H a y (some v) ∧ Q v H
theorem i_dget {td ty : TE} {σ : L2.St} {H : Hp} {Q : VK} (h : td σ H fun x H1 => ty σ H1 fun y H2 => DGetAt x y H2 Q) : tDGet td ty σ H Q := h
theorem i_dgetAt {P H : Hp} {cs r : List Ch} {a : Addr} {kvs : List (Key × V)} {k : Key} {v : V} {Q : VK} (m : Mem P cs H) (q : Sel cs (pt a (.dK kvs)) r) (hv : valV kvs k = some v) (c : Q v H) : DGetAt (.ref a) (kV k) H Q := ⟨a, v, rfl, by rw [← hv]; exact DGet.k (m.rd q), c⟩
def DInAt (x y : V) (H : Hp) (R : Option V → Prop) : Prop := ∃ a o, x = .ref a ∧ DGet H a y o ∧ R o
theorem i_din {td ty : TE} {σ : L2.St} {H : Hp} {Q : VK} (h : ty σ H fun y H1 => td σ H1 fun x H2 => DInAt x y H2 fun o => Q (.bl o.isSome) H2) : tDIn ty td σ H Q := h
theorem i_dnotin {td ty : TE} {σ : L2.St} {H : Hp} {Q : VK} (h : ty σ H fun y H1 => td σ H1 fun x H2 => DInAt x y H2 fun o => Q (.bl (!o.isSome)) H2) : tDNotIn ty td σ H Q := h
theorem i_dinAt {P H : Hp} {cs r : List Ch} {a : Addr} {kvs : List (Key × V)} {k : Key} {R : Option V → Prop} (m : Mem P cs H) (q : Sel cs (pt a (.dK kvs)) r) (c : R (valV kvs k)) : DInAt (.ref a) (kV k) H R := ⟨a, _, rfl, DGet.k (m.rd q), c⟩
def DPutAt (x y v : V) (H : Hp) (N : Hp → Prop) : Prop := ∃ a H4, x = .ref a ∧ DPut H a y v H4 ∧ N H4
theorem i_dput {td ty tv : TE} {D : Ends} {σ : L2.St} {H : Hp} (h : tv σ H fun v H1 => td σ H1 fun x H2 => ty σ H2 fun y H3 => DPutAt x y v H3 (D.nx σ)) : sDPut td ty tv D σ H := h
theorem i_dputAt {P H : Hp} {cs r : List Ch} {a : Addr} {kvs : List (Key × V)} {k : Key} {v : V} {N : Hp → Prop} (m : Mem P cs H) (u : Upd cs a (.dK kvs) (.dK (putK kvs k v)) r) (hl : kvs.length < 100000) (q : ∀ H', Mem P r H' → N H') : DPutAt (.ref a) (kV k) v H N :=
  ⟨a, _, rfl, DPut.k (u.rd m) (sz_lt hl), q _ (m.put u)⟩
def IsDAt (x : V) (H : Hp) (R : Addr → Prop) : Prop := ∃ a, x = .ref a ∧ IsD H a ∧ R a
def DGetO (a : Addr) (y : V) (H : Hp) (R : Option V → Prop) : Prop := ∃ o, DGet H a y o ∧ R o
theorem i_dgetO {P H : Hp} {cs r : List Ch} {a : Addr} {kvs : List (Key × V)} {k : Key} {R : Option V → Prop} (m : Mem P cs H) (q : Sel cs (pt a (.dK kvs)) r) (c : R (valV kvs k)) : DGetO a (kV k) H R := ⟨_, DGet.k (m.rd q), c⟩
theorem i_dget2 {td ty tx : TE} {σ : L2.St} {H : Hp} {Q : VK} (h : td σ H fun x H1 => IsDAt x H1 fun a => ty σ H1 fun y H2 => tx σ H2 fun z H3 => DGetO a y H3 fun o => Q (o.getD z) H3) : tDGet2 td ty tx σ H Q := h
theorem i_isDAt {P H : Hp} {cs r : List Ch} {a : Addr} {kvs : List (Key × V)} {R : Addr → Prop} (m : Mem P cs H) (q : Sel cs (pt a (.dK kvs)) r) (c : R a) : IsDAt (.ref a) H R := ⟨a, rfl, .inl ⟨kvs, .inl (m.rd q)⟩, c⟩
theorem i_listVals {te : TE} {σ : L2.St} {H : Hp} {Q : VK} (h : te σ H fun x H1 => rValsL x H1 Q) : tListVals te σ H Q := h
theorem i_listValsAt {P H : Hp} {cs r : List Ch} {a : Addr} {kvs : List (Key × V)} {Q : VK} (m : Mem P cs H) (q : Sel cs (pt a (.dK kvs)) r) (c : NewO (.lst (kvs.map (·.2))) H Q) : rValsL (.ref a) H Q := ⟨a, kvs, rfl, m.rd q, c⟩
theorem i_lenD {P H : Hp} {cs r : List Ch} {a : Addr} {kvs : List (Key × V)} {Q : VK} (m : Mem P cs H) (q : Sel cs (pt a (.dK kvs)) r) (c : Q (.int kvs.length) H) : ∃ b kvs, [V.ref a] = [V.ref b] ∧ H b = some (.dK kvs) ∧ Q (.int kvs.length) H := ⟨a, kvs, rfl, m.rd q, c⟩
/-! ### a def that makes a lambda: its code object is told -/
theorem fnC {P : Program} {w : World} {K : PySem.W.Frag} {mg : Str → Option Value} {base : Heap} {x qual : Str} {st : Stmt} {f : Addr} {fd : FuncData} {N ps : List Str} {k : Nat} {sp : Sp} {c : Value} (F : Fun K x qual st f fd) (hc : fd.code = c) (S : FnScope N ps (defScope st))
    (len : ∀ vs H Q E, sp vs H Q E → vs.length = ps.length)
    (hbody : ∀ (cdv : Value) (A : Around) (outer : List Env) (s : Shared) (H : Hp) (vs : List V) (Q : VK) (E : XK), cdv = c → Room k (A.deeper (envOfC qual (defScope st) s.heap.objs.size f cdv)) → sp vs H Q E →
      ∃ t, PSs (cxOf CX0 P w K mg base N qual (defScope st) f cdv A outer s H E).nox (defBody st) t ∧ t { nx := fun _ H' => Q .non H', rt := Q } (start N vs) H) : FnOk P w K mg base CX0 (k + 1) f fd ps sp := by
  obtain ⟨oc, od, kV, doc, pm, an, cdv, ct, osl, efd, lk, hcd⟩ := F.ex
  subst efd
  refine fn_of lk hcd S len fun A outer s H vs Q E hr hsp => ?_
  obtain ⟨t, h, q⟩ := hbody cdv A outer s H vs Q E hc hr hsp
  exact ⟨t, h.nox, q⟩
/-- the facts that makers of lambdas ask of the base -/
def Tbs (base : Heap) (mg : Str → Option Value) (cs : List (Addr × Addr)) : Prop := ∀ p ∈ cs, TabB base mg p.1 p.2
/-- a heap without one place -/
def rmv (H : Hp) (a : Addr) : Hp := fun b => if b = a then none else H b
theorem rmv_ex {H : Hp} {a : Addr} : Ex (rmv H a) H := fun b o e => by
  unfold rmv at e
  split at e
  · cases e
  · exact e
theorem rmv_sq {K : PySem.W.Frag} {H : Hp} {a b : Addr} {ps : Array Value} {xs : List V} (e : H a = some (.tbl ps)) (h : SqL K H b xs) : SqL K (rmv H a) b xs := by
  have ne : ∀ {o : HO}, H b = some o → (∀ z, o ≠ .tbl z) → rmv H a b = some o := fun {o} q n => by
    unfold rmv
    rw [if_neg (fun z => by rw [z, e] at q; exact n ps (Option.some.inj q).symm)]
    exact q
  rcases h with (h | ⟨o, h⟩) | h
  · exact .inl (.inl (ne h fun z y => by cases y))
  · exact .inl (.inr ⟨o, ne h fun z y => by cases y⟩)
  · exact .inr h
theorem Mem.split {H : Hp} {a : Addr} {q : Str} (e : H a = some (.tbl #[])) : Mem (rmv H a) [tabP a q] H := by
  refine Mem.tabI (ps := #[]) ⟨rmv_ex, sgl a (.tbl #[]), ⟨sgl a (.tbl #[]), emp, if_pos rfl, trivial, fun _ => .inr rfl, Ex.refl _, emp_ex⟩, fun b => ?_, fun b o z => ?_⟩ trivial fun pos cv z => by
    have z' : codeAmong pos [] = some cv := z
    simp [codeAmong] at z'
  · by_cases h : b = a
    · exact .inl (if_pos h)
    · exact .inr (if_neg h)
  · unfold sgl at z
    split at z
    · rename_i h; subst h; rw [e]; exact z
    · cases z
theorem i_pop {P H : Hp} {cs r : List Ch} {l : Addr} {xs ys : List V} {y : V} {Q : VK} (m : Mem P cs H) (e : xs = ys ++ [y]) (u : Upd cs l (.lst xs) (.lst ys) r) (q : ∀ H', Mem P r H' → Q y H') : rPop (.ref l) [] H Q := by
  subst e
  refine ⟨l, _, y, rfl, rfl, u.rd m, by simp, ?_⟩
  rw [List.dropLast_concat]
  exact q _ (m.put u)
theorem Mem.gone {P H : Hp} {cs r : List Ch} {c : Ch} (m : Mem P cs H) (q : Sel cs c r) : Mem P r H := (m.sel q).drop
def rLenD : List V → Hp → VK → Prop := fun xs H Q => ∃ a kvs, xs = [V.ref a] ∧ H a = some (.dK kvs) ∧ Q (.int kvs.length) H
theorem lenD {X : Cx} : CallR X (.builtin "len") rLenD := call_lenD
theorem i_lenDr {P H : Hp} {cs r : List Ch} {a : Addr} {kvs : List (Key × V)} {Q : VK} (m : Mem P cs H) (q : Sel cs (pt a (.dK kvs)) r) (c : Q (.int kvs.length) H) : rLenD [V.ref a] H Q := ⟨a, kvs, rfl, m.rd q, c⟩
theorem i_slT {K : PySem.W.Frag} {H : Hp} {a : Addr} {xs ys : List V} {lo hi : Option Int} {Q : VK} (h : SqT K H a xs) (hp : ¬ (HT.sIx xs.length 0 lo = 0 ∧ HT.sIx xs.length xs.length hi = xs.length)) (e : cutV xs lo hi = ys) (q : NewO (.tup ys) H Q) : rSlT K (.ref a) lo hi H Q := by
  subst e
  exact ⟨a, xs, rfl, h, hp, q⟩
theorem i_catT {K : PySem.W.Frag} {H : Hp} {a b : Addr} {xs ys : List V} {Q : VK} (h1 : SqT K H a xs) (h2 : SqT K H b ys) (n1 : xs ≠ []) (n2 : ys ≠ []) (hl : xs.length + ys.length ≤ 100000) (q : NewO (.tup (xs ++ ys)) H Q) : rCatT K (.ref a) (.ref b) H Q :=
  ⟨a, b, xs, ys, rfl, rfl, h1, h2, n1, sz_of hl, fun z => absurd z n2, fun _ => q⟩
def rIntB : List V → Hp → VK → Prop := fun xs H Q => ∃ k : Bool, xs = [.bl k] ∧ Q (.int (if k then 1 else 0)) H
theorem intB {X : Cx} : CallR X (.type "int") rIntB := fun pins s σ H xs us Q I r ⟨k, e, q⟩ => call_int1 pins s σ H xs us Q I r (.inr ⟨k, e, q⟩)
theorem i_intB {k : Bool} {H : Hp} {Q : VK} (q : Q (.int (if k then 1 else 0)) H) : rIntB [.bl k] H Q := ⟨k, rfl, q⟩
theorem l_lcR2 {P : Hp} {cs : List Ch} {lo hi : Int} {g : TG} {tt : TT} {te : TE} {vs : List Nat} {σ : L2.St} {H : Hp} {Qd : Addr → Hp → Prop} (h1 : -(2 ^ 62) ≤ lo ∧ lo < 2 ^ 62 ∧ -(2 ^ 62) ≤ hi ∧ hi < 2 ^ 62) (m : Mem P cs H) (R : Nat → List V → Hp → Prop) (h0 : R 0 [] P)
    (hs : ∀ (i : Nat) P' H' acc D, lo + (i : Int) < hi → Ex P P' → Mem P' (pt D (.lst acc) :: cs) H' → R i acc P' → ∀ (Kt : VK) (Kf : Hp → Prop),
      (∀ y P4 H4, Ex P' P4 → Mem P4 (pt D (.lst acc) :: cs) H4 → acc.length < 100000 → R (i + 1) (acc ++ [y]) P4 → Kt y H4) → (∀ P4 H4, Ex P' P4 → Mem P4 (pt D (.lst acc) :: cs) H4 → R (i + 1) acc P4 → Kf H4) →
      g (.int (lo + (i : Int))) (wipe σ vs) H' fun σ2 H2 => wipe σ2 vs = wipe σ vs ∧ tt σ2 H2 fun b H3 => if b = true then te σ2 H3 Kt else Kf H3)
    (hd : ∀ D P' H' acc, Ex P P' → Mem P' (pt D (.lst acc) :: cs) H' → R (hi - lo).toNat acc P' → Qd D H') :
    ∃ k l : Int, [V.int lo, V.int hi] = [.int k, .int l] ∧ (-(2 ^ 62) ≤ k ∧ k < 2 ^ 62 ∧ -(2 ^ 62) ≤ l ∧ l < 2 ^ 62) ∧ ∀ D, H D = none → ∃ W : Nat → Nat → Hp → Prop, (∃ m, W 0 m (upd H D (.lst []))) ∧ ∀ i m H, W i m H →
      ((Itr k (l - k).toNat).stop i H ∧ Qd D H) ∨ ((Itr k (l - k).toNat).go i H ∧ ∃ Nx : Hp → Prop, (∀ H', Nx H' → ∃ m', m' < m ∧ W (i + 1) m' H') ∧ ∀ x H', (Itr k (l - k).toNat).yld i H x H' → g x (wipe σ vs) H' fun σ2 H2 => wipe σ2 vs = wipe σ vs ∧ tt σ2 H2 fun b H3 =>
        if b = true then te σ2 H3 fun y H4 => ∃ acc, H4 D = some (.lst acc) ∧ acc.length < sizeLine ∧ Nx (upd H4 D (.lst (acc ++ [y]))) else Nx H3) := by
  refine ⟨lo, hi, rfl, h1, fun D hD => ?_⟩
  refine lc_range (lo := lo) (n := (hi - lo).toNat) (Qd := Qd D) (fun i H' => ∃ P' acc, Ex P P' ∧ Mem P' (pt D (.lst acc) :: cs) H' ∧ R i acc P') ⟨P, [], Ex.refl _, m.new hD, h0⟩ (fun i H' hi ⟨P', acc, e, m', r⟩ => ?_) (fun H' ⟨P', acc, e, m', r⟩ => hd D P' H' acc e m' r)
  exact hs i P' H' acc D (by omega) e m' r _ _ (fun y P4 H4 e4 m4 l4 r4 => ⟨acc, m4.rd0, sz_lt l4, P4, _, e.trans e4, m4.put0, r4⟩) (fun P4 H4 e4 m4 r4 => ⟨P4, acc, e.trans e4, m4, r4⟩)
def Par2 (i j : Nat) (vs : List V) (σ : L2.St) (H : Hp) (N : L2.St → Hp → Prop) : Prop := ∃ v w, vs = [v, w] ∧ N ((σ.set i (some v)).set j (some w)) H
theorem i_par {i j : Nat} {ta : TA} {D : Ends} {σ : L2.St} {H : Hp} (h : ta σ H fun vs H1 => Par2 i j vs σ H1 D.nx) : tPar i j ta D σ H := h
theorem i_par2 {i j : Nat} {v w : V} {σ σ1 σ2 : L2.St} {H : Hp} {N : L2.St → Hp → Prop} (h1 : SetS σ i v σ1) (h2 : SetS σ1 j w σ2) (q : N σ2 H) : Par2 i j [v, w] σ H N := ⟨v, w, rfl, by rw [h1.eq, h2.eq]; exact q⟩
/-! isinstance(x, (int, str, tuple)) -/
theorem i_newTy {P H : Hp} {cs : List Ch} {xs : List V} {Q : VK} (hl : xs.length ≤ 100000) (m : Mem P cs H) (q : ∀ p P' H', Mem P' cs H' → Ex P P' → P' p = some (.tup xs) → Q (.ref p) H') : NewT xs H Q := i_NT hl (i_newP m q)
theorem i_isiT {K : PySem.W.Frag} {P H : Hp} {cs : List Ch} {x : V} {tp : Addr} {ts : List V} {us : List Value} {t : Value} {Q : VK} (m : Mem P cs H) (hp : P tp = some (.tup ts)) (k : Paired ClsV ts us) (ty : TyX K H x t) (e : PySem.W.kitAny K t us = some true) (q : Q (.bl true) H) : rIsiT K [x, .ref tp] H Q :=
  ⟨x, tp, ts, t, us, true, rfl, m.ex _ _ hp, k, ty, e, q⟩
/-- what stands in a message: a number, a text, a tuple -/
def PartOk (d : PyData) : Prop := (∃ i, d = .int i) ∨ (∃ z, d = .str z) ∨ ∃ ds, d = .tuple ds
theorem part_ty {K : PySem.W.Frag} {H : Hp} {v : V} {d : PyData} (h : Dp K H v d) (p : PartOk d) : ∃ t : String, (t = "int" ∨ t = "str" ∨ t = "tuple") ∧ TyX K H v (.type t) := by
  rcases p with ⟨i, rfl⟩ | ⟨z, rfl⟩ | ⟨ds, rfl⟩
  · cases h; exact ⟨"int", .inl rfl, .base (.int _)⟩
  · cases h; exact ⟨"str", .inr (.inl rfl), .base (.str _)⟩
  · cases h with
    | tup hq _ => exact ⟨"tuple", .inr (.inr rfl), tyx_t hq⟩
theorem kany3 {K : PySem.W.Frag} {t : String} (h : t = "int" ∨ t = "str" ∨ t = "tuple") : PySem.W.kitAny K (.type t) [.type "int", .type "str", .type "tuple"] = some true := by
  have a : ∀ x y b, L2.kitB x y = some b → PySem.W.kitOne K (.type x) (.type y) = some b := fun x y b z => L2.kit_ty z
  rcases h with rfl | rfl | rfl
  · simp only [PySem.W.kitAny, a _ _ _ kb_int_int]
  · simp only [PySem.W.kitAny, a _ _ _ kb_str_int, a _ _ _ kb_str_str]
  · simp only [PySem.W.kitAny, a _ _ _ kb_tuple_int, a _ _ _ kb_tuple_str, a _ _ _ kb_tuple_tuple]
theorem part_nobool {K : PySem.W.Frag} {H : Hp} {v : V} {t : String} (h : t = "int" ∨ t = "str" ∨ t = "tuple") (ty : TyX K H v (.type t)) {Q : VK} (q : Q (.bl false) H) : rIsi K [v, .ty "bool"] H Q := by
  rcases h with rfl | rfl | rfl
  · exact i_isi (.ty _) ty (kit_ty kb_int_bool) q
  · exact i_isi (.ty _) ty (kit_ty kb_str_bool) q
  · exact i_isi (.ty _) ty (kit_ty kb_tuple_bool) q
theorem fnNone {P : Program} {w : World} {K : PySem.W.Frag} {mg : Str → Option Value} {base : Heap} {CX : CXT} {k : Nat} {f : Addr} {fd : FuncData} {ps : List Str} : FnOk P w K mg base CX k f fd ps (fun _ _ _ _ => False) :=
  ⟨fun _ _ _ _ h => h.elim, fun _ _ _ _ _ _ _ _ _ _ _ _ _ h => h.elim⟩
/-- max by the pair of a number and a length -/
theorem keyPL_up {K : PySem.W.Frag} {P P' : Hp} {x : V} {k : Int × Int} (h : KeyPL K P x k) (e : Ex P P') : KeyPL K P' x k := by
  obtain ⟨t, r, rows, a, b, c, d⟩ := h
  exact ⟨t, r, rows, a, ex_t e b, ex_t e c, d⟩
theorem i_maxPL {K : PySem.W.Frag} {Pt : Addr} {q : Str} {te : TE} {σ : L2.St} {H : Hp} {Q : VK} (h : te σ H fun v H1 => TabS H1 Pt q ∧ ∀ H2, Grow Pt q H1 H2 → ∃ (a : Addr) (xs : List V) (key : Nat → Int × Int), v = .ref a ∧ SqL K H2 a xs ∧ 0 < xs.length ∧
  (∀ i x, xs[i]? = some x → KeyPL K H2 x (key i)) ∧ ∀ x, xs[argBest (fun i j => ltII (key j) (key i)) (xs.length - 1)]? = some x → Q x H2) : tMaxPL K Pt q te σ H Q := h
theorem i_maxAt {K : PySem.W.Frag} {P H : Hp} {cs : List Ch} {Pt a : Addr} {q : Str} {xs : List V} {key : Nat → Int × Int} {Q : VK} (m : Mem P (tabP Pt q :: cs) H) (hl : SqL K P a xs) (hn : 0 < xs.length) (hk : ∀ i x, xs[i]? = some x → KeyPL K P x (key i))
    (k : ∀ P' H' x, Ex P P' → Mem P' (tabP Pt q :: cs) H' → xs[argBest (fun i j => ltII (key j) (key i)) (xs.length - 1)]? = some x → Q x H') : TabS H Pt q ∧ ∀ H2, Grow Pt q H H2 → ∃ (b : Addr) (xs : List V) (key : Nat → Int × Int), V.ref a = .ref b ∧ SqL K H2 b xs ∧ 0 < xs.length ∧
      (∀ i x, xs[i]? = some x → KeyPL K H2 x (key i)) ∧ ∀ x, xs[argBest (fun i j => ltII (key j) (key i)) (xs.length - 1)]? = some x → Q x H2 := by
  refine ⟨m.tabS, fun H2 g => ?_⟩
  obtain ⟨P', e, m'⟩ := m.grow g
  exact ⟨a, xs, key, rfl, ex_l (e.trans m'.ex) hl, hn, fun i x z => keyPL_up (hk i x z) (e.trans m'.ex), fun x z => k P' H2 x e m' z⟩
/-! ### in short -/
section
variable {X : Cx} {K : PySem.W.Frag}
theorem maxPL {c Pt : Addr} {q x : Str} {n : Nat} {e : Expr} {te : TE} {params : Arguments} {scope : Scope} {k0 k1 : Nat} {x1 : Nat} {p1 p2 p3 p4 p5 p6 p7 p8 p9 p10 lpos kpos pos : Pos} (h : X.K = K) (hr : Room n X.A) (he : PE X e te)
    (TB : TabB X.base X.mg c Pt) (hcode : X.env.code = .ref c) (hq : X.env.qual ++ "<lambda>" = q) (hg : Gl X "max") (hm : X.mg "max" = none) (hml : X.mg "len" = none) (hdef : defaultsOf params X.env = ([], [])) (L : LamOk scope x) (hcl : cloFrom X.env.cells scope.names [] = [])
    (hlen : ∀ L f c', (lenv q scope L f c').kindOf "len" = some .globalImplicit) (hx : ∀ L f c', (lenv q scope L f c').kindOf x = some .local) (hd : (x == ("__debug__" : Str)) = false)
    (hbind : ∀ pm cv ctv v, bindArgs (PySem.W.kla_fn "<lambda>" q params (plBody x k0 k1 x1 p2 p3 p4 p5 p6 p7 p8 p9 p10) scope [] pm cv ctv) ⟨[v], []⟩ = pure [(x, v)])
    (hst : backTo pos (starEach [e] X.env) = (false, eval e X.env) :: backTo pos (starEach [] X.env) := by rfl) (hst0 : starEach [e] X.env = (false, eval e X.env) :: starEach [] X.env := by rfl) (hpl : (backTo pos (starEach [e] X.env)).any (·.1) = false := by rfl) :
    PE X (.Call (.Name "max" p1) [e] [⟨some "key", .Lambda params (plBody x k0 k1 x1 p2 p3 p4 p5 p6 p7 p8 p9 p10) scope lpos, kpos⟩] pos) (tMaxPL K Pt q te) := by
  subst h; exact pe_maxPL hr he TB hcode hq hg hm hml hdef L hcl hlen hx hd hbind hst hst0 hpl
def tSortR (K : PySem.W.Frag) (te : TE) : TE := fun σ H Q => te σ H fun x H1 => rSortedKw K true [.bl true] [x] [.bl true] H1 Q
theorem i_sortR {te : TE} {σ : L2.St} {H : Hp} {Q : VK} (h : te σ H fun x H1 => rSortedKw K true [.bl true] [x] [.bl true] H1 Q) : tSortR K te σ H Q := h
theorem i_sortRAt {H : Hp} {a : Addr} {ns : List Int} {Q : VK} (h : SqL K H a (ns.map V.int)) (q : ∀ ns' : List Int, ns'.Perm ns → ns'.Pairwise (· ≥ ·) → NewO (.lst (ns'.map V.int)) H Q) : rSortedKw K true [.bl true] [.ref a] [.bl true] H Q :=
  ⟨a, ns, rfl, rfl, h, fun ns' p hp ho => q ns' hp ho p⟩
theorem sortedRev {e : Expr} {te : TE} {j : Nat} {p1 p2 kpos pos : Pos} (h : X.K = K) (hg : Gl X "sorted") (hm : X.mg "sorted" = none) (he : PE X e te)
    (hst : starEach [e] X.env = (false, eval e X.env) :: starEach [] X.env := by rfl) (hb : backTo pos (starEach [e] X.env) = (false, eval e X.env) :: backTo pos (starEach [] X.env) := by rfl) (hpl : (backTo pos (starEach [e] X.env)).any (·.1) = false := by rfl) :
    PE X (.Call (.Name "sorted" p1) [e] [⟨some "reverse", .Constant (.bool true) j p2, kpos⟩] pos) (tSortR K te) := by
  subst h
  refine ⟨fun pins s σ H Q I q => ?_⟩
  refine (pe_callBK (cr_sortedRev (b := true)) hg hm (by decide +kernel) (pa_cons he pa_nil hst) (pk_cons pe_bl pk_nil) (he := hb) (hpl := hpl)).run pins s σ H Q I ?_
  exact q
end
end FS

set_option Elab.async false
set_option maxRecDepth 100000
set_option linter.all false
/-! FsMore: list + list of any kept or open lists, sorted ints. -/
namespace FS
open PySem PySem.Spec PyProof.Rows L2 Evl LamX
/-- some pieces brought to the front, the others behind them -/
inductive Pr : List Ch → List Ch → Prop
  | all {cs : List Ch} : Pr cs cs
  | cons {c : Ch} {cs r qs : List Ch} : Sel cs c r → Pr r qs → Pr cs (c :: qs)
theorem Sep.pr {P : Hp} : ∀ {cs qs : List Ch} {h : Hp}, Pr cs qs → Sep P cs h → Sep P qs h
  | _, _, _, .all, s => s
  | _, _, _, .cons q t, s => by
    obtain ⟨h1, h2, a, b, r⟩ := Sep.sel q s
    exact ⟨h1, h2, a, Sep.pr t b, r⟩
theorem Mem.pr {P H : Hp} {cs qs : List Ch} (m : Mem P cs H) (q : Pr cs qs) : Mem P qs H := by
  obtain ⟨e, h, s, d, l⟩ := m
  exact ⟨e, h, Sep.pr q s, d, l⟩
section
variable {X : Cx} {K : PySem.W.Frag}
def rCatL (K : PySem.W.Frag) : R2 := fun x y H Q => ∃ l b xs zs, x = .ref l ∧ y = .ref b ∧ SqL K H l xs ∧ SqL K H b zs ∧ xs.length + zs.length ≤ sizeLine ∧ NewO (.lst (xs ++ zs)) H Q
theorem catL (h : X.K = K) : OpR X (binaryOp .Add) (rCatL K) := by
  subst h
  intro pins s σ H x y v u Q I rx ry h
  obtain ⟨l, b, xs, zs, rfl, rfl, hH, hB, hz, q⟩ := h
  cases rx
  cases ry
  obtain ⟨its, r, ⟨⟨cls, dd, data, sl⟩, n, ho, hc, _, hd⟩, _⟩ := I.list hH
  obtain ⟨its2, r2, ⟨⟨cls2, dd2, data2, sl2⟩, n2, ho2, hc2, _, hd2⟩, _⟩ := I.list hB
  simp only at hc hd hc2 hd2
  subst hc hd hc2 hd2
  have hl := r.length
  have hl2 := r2.length
  have e : its.toArray ++ its2.toArray = (its ++ its2).toArray := by simp
  refine concat_meets ⟨_, ho, rfl⟩ ⟨_, ho2, rfl⟩ noFill_list_add seq_list_add PySem.F.slot_list_add PySem.F.entry_list_add (PySem.F.args_list_add_2 _ _) (list_addW l b its.toArray its2.toArray n n2 dd dd2 sl sl2 (by rw [List.size_toArray, List.size_toArray]; omega)) ⟨ho, ho2, ?_⟩
  rw [e]
  exact ⟨.ref _, _, I.lnew (t' := s.toks) (r.append r2) (by rw [List.length_append]; omega), rfl, q _ I.fresh⟩
def rSortI (K : PySem.W.Frag) : List V → Hp → VK → Prop := fun vs H Q => ∃ (a : Addr) (ns : List Int), vs = [V.ref a] ∧ SqL K H a (ns.map V.int) ∧ ∀ ns' : List Int, ns'.Perm ns → ns'.Pairwise (· ≤ ·) → NewO (.lst (ns'.map V.int)) H Q
theorem sortI (h : X.K = K) : CallR X (.builtin "sorted") (rSortI K) := by
  subst h
  intro pins s σ H vs us Q I r h
  obtain ⟨a, ns, e, hs, q⟩ := h
  exact cr_sortedI pins s σ H vs us Q I r ⟨a, ns, e, hs, fun ns' p h1 h2 hn => q ns' h1 h2 p hn⟩
end
theorem i_catL {K : PySem.W.Frag} {a b : Addr} {xs ys : List V} {H : Hp} {Q : VK} (h1 : SqL K H a xs) (h2 : SqL K H b ys) (hz : xs.length + ys.length ≤ 100000) (q : NewO (.lst (xs ++ ys)) H Q) : rCatL K (.ref a) (.ref b) H Q := ⟨a, b, xs, ys, rfl, rfl, h1, h2, sz_of hz, q⟩
theorem i_sortI {K : PySem.W.Frag} {a : Addr} {ns : List Int} {H : Hp} {Q : VK} (h : SqL K H a (ns.map V.int)) (q : ∀ ns' : List Int, ns'.Perm ns → ns'.Pairwise (· ≤ ·) → NewO (.lst (ns'.map V.int)) H Q) : rSortI K [.ref a] H Q := ⟨a, ns, rfl, h, q⟩
theorem i_cut {t u : TS} {D : Ends} {σ : L2.St} {H : Hp} (Mid : L2.St → Hp → Prop) (h : t { D with nx := Mid } σ H) (k : ∀ σ' H', Mid σ' H' → u D σ' H') : tCut t u D σ H := ⟨Mid, h, k⟩
/-- an if whose branches are walked once each, however often its test comes to them -/
theorem i_ifJ {c : TT} {t u : TS} {D : Ends} {σ : L2.St} {H : Hp} (RA RB : Hp → Prop) (hA : ∀ H', RA H' → t D σ H') (hB : ∀ H', RB H' → u D σ H') (h : ∀ TA TB : Hp → Prop, (∀ H', RA H' → TA H') → (∀ H', RB H' → TB H') → c σ H fun b H1 => if b = true then TA H1 else TB H1) : tIfS c t u D σ H := h _ _ hA hB
end FS

set_option Elab.async false
set_option maxRecDepth 100000
set_option linter.all false
/-! FsOrd: data compared by <, sorted; list.pop(i); pieces that come in families; comprehensions that make pieces. -/
namespace FS
open PySem PySem.Spec PyProof.Rows L2 Evl LamX PySem.W
section
variable {X : Cx} {K : PySem.W.Frag}
/-- two data that may be asked for their order -/
def Cmp (d e : PyData) : Prop := alike d e = true ∧ d ≠ .none ∧ d.depth ≤ 60
def rOrdD (K : PySem.W.Frag) (f : PyData → PyData → Bool) : R2 := fun x y H Q => ∃ d e, Dp K H x d ∧ Dp K H y e ∧ Cmp d e ∧ Q (.bl (f d e)) H
theorem gtD (h : X.K = K) (hu : X.A.units + 64 < cLine) : OpR X (compareOp .Gt) (rOrdD K fun d e => dataLt e d) := by
  subst h
  intro pins s σ H x y v u Q I rx ry h
  obtain ⟨d, e, hd, he, ⟨h1, h2, h3⟩, q⟩ := h
  obtain ⟨as, r1⟩ := Dp.reads I d x v hd rx
  obtain ⟨bs, r2⟩ := Dp.reads I e y u he ry
  exact gt_data r1 r2 h1 h2 (by omega) ⟨.bl _, H, I, rfl, q⟩
theorem ltD (h : X.K = K) (hu : X.A.units + 64 < cLine) : OpR X (compareOp .Lt) (rOrdD K fun d e => dataLt d e) := by
  subst h
  intro pins s σ H x y v u Q I rx ry h
  obtain ⟨d, e, hd, he, ⟨h1, h2, h3⟩, q⟩ := h
  obtain ⟨as, r1⟩ := Dp.reads I d x v hd rx
  obtain ⟨bs, r2⟩ := Dp.reads I e y u he ry
  exact lt_data r1 r2 h1 h2 (by omega) ⟨.bl _, H, I, rfl, q⟩
/-! ### sorted(l), any data that are alike -/
/-- a value of the machine that stands for a value, which stands for a datum -/
def Sd (K : PySem.W.Frag) (H : Hp) (v : Value) (d : PyData) : Prop := ∃ x, RelV x v ∧ Dp K H x d
theorem sd_of {H : Hp} : ∀ {xs : List V} {vs : List Value} {ds : List PyData}, Vals xs vs → DpAll K H xs ds → EachIs (Sd K H) vs ds
  | _, _, _, .nil, .nil => .nil
  | _, _, _, .cons a r, .cons b t => .cons ⟨_, a, b⟩ (sd_of r t)
theorem sd_back {H : Hp} : ∀ {vs : List Value} {ds : List PyData}, EachIs (Sd K H) vs ds → ∃ xs, Vals xs vs ∧ DpAll K H xs ds
  | _, _, .nil => ⟨[], .nil, .nil⟩
  | _, _, .cons ⟨x, a, b⟩ t => let ⟨xs, r, s⟩ := sd_back t; ⟨x :: xs, .cons a r, .cons b s⟩
def sortedD (ds : List PyData) : List PyData := ds.mergeSort (dataLe false id)
def rSortD (K : PySem.W.Frag) : List V → Hp → VK → Prop := fun vs H Q => ∃ (a : Addr) (xs : List V) (ds : List PyData), vs = [V.ref a] ∧ SqL K H a xs ∧ DpAll K H xs ds ∧ AllAlike ds ∧ Sortable ds ∧ (∀ d ∈ ds, d.depth ≤ 60) ∧
  ∀ ys : List V, DpAll K H ys (sortedD ds) → NewO (.lst ys) H Q
theorem sortD_ (h : X.K = K) (hu : X.A.units + 64 < cLine) : CallR X (.builtin "sorted") (rSortD K) := by
  subst h
  intro pins s σ H vs us Q I r h
  obtain ⟨a, xs, ds, rfl, hs, hd, hal, hk, hdep, q⟩ := h
  obtain ⟨its, rv, hl, hz⟩ := I.list hs
  rw [Vals.ref1 r]
  have e := sd_of rv hd
  have er : EachIs (fun v d => ∃ as, Reads s.heap v (id d) as) its ds := e.mono fun v d ⟨x, a, b⟩ => Dp.reads I d x v b a
  have hlen : its.length = ds.length := e.length
  refine sorted_data hl.isList e er (by rw [List.map_id]; exact hal) (by rw [List.map_id]; exact hk) (by rw [← hlen, ← rv.length]; exact hz) (fun d hd => by have := hdep d hd; show X.A.units + 2 + d.depth < cLine; omega) fun out h1 h2 => ?_
  obtain ⟨ys, k1, k2⟩ := sd_back h2
  obtain ⟨ep, he'⟩ := PyProof.Rows.sortedAll_at s.heap its out.toArray
  have hy : ys.length ≤ sizeLine := by rw [k1.length, h1, ← hlen, ← rv.length]; exact hz
  exact ⟨.ref _, upd H (s.heap.objs.size + 1) (.lst ys), I.laid (t' := s.toks) (fun _ _ => PyProof.Rows.sortedAll_old) (Nat.le_succ _) ⟨hy, out, ep, k1, he'⟩, rfl, q ys k2 _ (I.hok.fresh (Nat.le_succ _))⟩
end
theorem i_ordD {K : PySem.W.Frag} {f : PyData → PyData → Bool} {x y : V} {d e : PyData} {H : Hp} {Q : VK} (h1 : Dp K H x d) (h2 : Dp K H y e) (c : Cmp d e) (q : Q (.bl (f d e)) H) : rOrdD K f x y H Q := ⟨d, e, h1, h2, c, q⟩
theorem i_sortD {K : PySem.W.Frag} {a : Addr} {xs : List V} {ds : List PyData} {H : Hp} {Q : VK} (h : SqL K H a xs) (hd : DpAll K H xs ds) (hal : AllAlike ds) (hk : Sortable ds) (hdep : ∀ d ∈ ds, d.depth ≤ 60) (q : ∀ ys : List V, DpAll K H ys (sortedD ds) → NewO (.lst ys) H Q) : rSortD K [.ref a] H Q := ⟨a, xs, ds, rfl, h, hd, hal, hk, hdep, q⟩
theorem lt_II (a b c d : Int) : dataLt (.tuple [.int a, .int b]) (.tuple [.int c, .int d]) = decide (a < c ∨ (a = c ∧ b < d)) := by
  have h := DatumOrd.lt_eq (α := Int × Int) (a, b) (c, d)
  refine h.trans ?_
  show (if a = c then decide (b < d) else decide (a < c)) = _
  by_cases e : a = c
  · rw [if_pos e]; simp [e]
  · rw [if_neg e]; simp [e]
theorem cmp_II (a b c d : Int) : Cmp (.tuple [.int a, .int b]) (.tuple [.int c, .int d]) := ⟨DatumOrd.alike (α := Int × Int) (a, b) (c, d), (fun z => by cases z), by simp [PyData.depth, PyData.depthAll]⟩
/-! ### list.pop(i) -/
theorem i_popAt {P H : Hp} {cs r r0 : List Ch} {a : Addr} {xs : List V} {i : Int} {y : V} {Q : VK} (m : Mem P cs H) (h0 : Sel cs (pt a (.lst xs)) r0) (i0 : 0 ≤ i) (i1 : i < xs.length) (i2 : xs.length ≤ 100000) (hy : xs[i.toNat]? = some y) (u : Upd cs a (.lst xs) (.lst (xs.eraseIdx i.toNat)) r) (q : ∀ H', Mem P r H' → Q y H') : rPopAt (.ref a) [.int i] H Q := by
  refine ⟨a, xs, i, i.toNat, y, rfl, rfl, m.rd h0, by omega, by omega, ?_, hy, q _ (m.put u)⟩
  unfold seqIndex?
  have e : (i.toNat : Int) = i := by omega
  simp
  omega
def ListRg (x : V) (H : Hp) (Q : VK) : Prop := ∃ n, x = .int n ∧ RgOk 0 n ∧ NewO (.lst (rgV 0 n)) H Q
theorem i_listRg {te : TE} {σ : L2.St} {H : Hp} {Q : VK} (h : te σ H fun x H1 => ListRg x H1 Q) : tLstRg (tRg1 te) σ H Q := h
theorem i_listRgAt {n : Int} {H : Hp} {Q : VK} (h0 : 0 ≤ n) (h1 : n ≤ 100000) (q : NewO (.lst (rgV 0 n)) H Q) : ListRg (.int n) H Q := ⟨n, rfl, RgOk.of_le (by omega) (by omega) (by omega) (by omega), q⟩
theorem rgV_ints (n : Int) : rgV 0 n = ((List.range n.toNat).map fun i : Nat => (i : Int)).map V.int := by
  unfold rgV
  rw [List.map_map]
  have e : (n - 0).toNat = n.toNat := by omega
  rw [e]
  refine List.map_congr_left fun i _ => ?_
  simp
/-! ### families -/
theorem sel_mid {A B : List Ch} {c : Ch} : Sel (A ++ c :: B) c (A ++ B) := by
  induction A with
  | nil => exact .z
  | cons d A ih => exact .s ih
theorem fam_sel {α : Type} (f : α → Ch) {cs : List Ch} : ∀ {l : List α} {k : Nat} {x : α}, l[k]? = some x → ∃ r, Sel (l.map f ++ cs) (f x) r ∧ ∀ y, Sel ((l.set k y).map f ++ cs) (f y) r
  | [], k, x, h => by simp at h
  | z :: l, 0, x, h => by
    obtain rfl : z = x := by simpa using h
    exact ⟨l.map f ++ cs, .z, fun y => .z⟩
  | z :: l, k + 1, x, h => by
    obtain ⟨r, h1, h2⟩ := fam_sel f (cs := cs) (l := l) (k := k) (x := x) (by simpa using h)
    exact ⟨f z :: r, .s h1, fun y => .s (h2 y)⟩
/-- a comprehension whose turns make or change pieces -/
theorem l_lcRM {P : Hp} {cs : List Ch} {j : Int} {g : TG} {tt : TT} {te : TE} {vs : List Nat} {σ : L2.St} {H : Hp} {Qd : Addr → Hp → Prop} (h1 : -(2 ^ 62) ≤ j) (h2 : j < 2 ^ 62) (m : Mem P cs H) (R : Nat → List V → List Ch → Hp → Prop) (h0 : R 0 [] cs P)
    (hs : ∀ (i : Nat) P' H' acc D cs', (i : Int) < j → Ex P P' → Mem P' (pt D (.lst acc) :: cs') H' → R i acc cs' P' → ∀ (Kt : VK) (Kf : Hp → Prop),
      (∀ y P4 H4 cs4, Ex P' P4 → Mem P4 (pt D (.lst acc) :: cs4) H4 → acc.length < 100000 → R (i + 1) (acc ++ [y]) cs4 P4 → Kt y H4) → (∀ P4 H4 cs4, Ex P' P4 → Mem P4 (pt D (.lst acc) :: cs4) H4 → R (i + 1) acc cs4 P4 → Kf H4) →
      g (.int (i : Int)) (wipe σ vs) H' fun σ2 H2 => wipe σ2 vs = wipe σ vs ∧ tt σ2 H2 fun b H3 => if b = true then te σ2 H3 Kt else Kf H3)
    (hd : ∀ D P' H' acc cs', Ex P P' → Mem P' (pt D (.lst acc) :: cs') H' → R j.toNat acc cs' P' → Qd D H') :
    ∃ k : Int, [V.int j] = [.int k] ∧ -(2 ^ 62) ≤ k ∧ k < 2 ^ 62 ∧ ∀ D, H D = none → ∃ W : Nat → Nat → Hp → Prop, (∃ m, W 0 m (upd H D (.lst []))) ∧ ∀ i m H, W i m H →
      ((Itr 0 k.toNat).stop i H ∧ Qd D H) ∨ ((Itr 0 k.toNat).go i H ∧ ∃ Nx : Hp → Prop, (∀ H', Nx H' → ∃ m', m' < m ∧ W (i + 1) m' H') ∧ ∀ x H', (Itr 0 k.toNat).yld i H x H' → g x (wipe σ vs) H' fun σ2 H2 => wipe σ2 vs = wipe σ vs ∧ tt σ2 H2 fun b H3 =>
        if b = true then te σ2 H3 fun y H4 => ∃ acc, H4 D = some (.lst acc) ∧ acc.length < sizeLine ∧ Nx (upd H4 D (.lst (acc ++ [y]))) else Nx H3) := by
  refine ⟨j, rfl, h1, h2, fun D hD => ?_⟩
  refine lc_range (lo := 0) (n := j.toNat) (Qd := Qd D) (fun i H' => ∃ P' acc cs', Ex P P' ∧ Mem P' (pt D (.lst acc) :: cs') H' ∧ R i acc cs' P') ⟨P, [], cs, Ex.refl _, m.new hD, h0⟩ (fun i H' hi ⟨P', acc, cs', e, m', r⟩ => ?_) (fun H' ⟨P', acc, cs', e, m', r⟩ => hd D P' H' acc cs' e m' r)
  rw [Int.zero_add]
  exact hs i P' H' acc D cs' (by omega) e m' r _ _ (fun y P4 H4 cs4 e4 m4 l4 r4 => ⟨acc, m4.rd0, sz_lt l4, P4, _, cs4, e.trans e4, m4.put0, r4⟩) (fun P4 H4 cs4 e4 m4 r4 => ⟨P4, acc, cs4, e.trans e4, m4, r4⟩)
theorem l_lcM {K : PySem.W.Frag} {P : Hp} {cs : List Ch} {a : Addr} {xs : List V} {g : TG} {tt : TT} {te : TE} {vs : List Nat} {σ : L2.St} {H : Hp} {Qd : Addr → Hp → Prop} (m : Mem P cs H) (hq : SqL K P a xs) (R : Nat → List V → List Ch → Hp → Prop) (h0 : R 0 [] cs P)
    (hs : ∀ i x P' H' acc D cs', xs[i]? = some x → Ex P P' → Mem P' (pt D (.lst acc) :: cs') H' → R i acc cs' P' → ∀ (Kt : VK) (Kf : Hp → Prop),
      (∀ y P4 H4 cs4, Ex P' P4 → Mem P4 (pt D (.lst acc) :: cs4) H4 → acc.length < 100000 → R (i + 1) (acc ++ [y]) cs4 P4 → Kt y H4) → (∀ P4 H4 cs4, Ex P' P4 → Mem P4 (pt D (.lst acc) :: cs4) H4 → R (i + 1) acc cs4 P4 → Kf H4) →
      g x (wipe σ vs) H' fun σ2 H2 => wipe σ2 vs = wipe σ vs ∧ tt σ2 H2 fun b H3 => if b = true then te σ2 H3 Kt else Kf H3)
    (hd : ∀ D P' H' acc cs', Ex P P' → Mem P' (pt D (.lst acc) :: cs') H' → R xs.length acc cs' P' → Qd D H') :
    ∃ b, V.ref a = .ref b ∧ (∃ xs, SqL K H b xs) ∧ ∀ D, H D = none → ∃ W : Nat → Nat → Hp → Prop, (∃ m, W 0 m (upd H D (.lst []))) ∧ ∀ i m H, W i m H →
      ((Itl K b).stop i H ∧ Qd D H) ∨ ((Itl K b).go i H ∧ ∃ Nx : Hp → Prop, (∀ H', Nx H' → ∃ m', m' < m ∧ W (i + 1) m' H') ∧ ∀ x H', (Itl K b).yld i H x H' → g x (wipe σ vs) H' fun σ2 H2 => wipe σ2 vs = wipe σ vs ∧ tt σ2 H2 fun b H3 =>
        if b = true then te σ2 H3 fun y H4 => ∃ acc, H4 D = some (.lst acc) ∧ acc.length < sizeLine ∧ Nx (upd H4 D (.lst (acc ++ [y]))) else Nx H3) := by
  refine ⟨a, rfl, ⟨xs, ex_l m.ex hq⟩, fun D hD => ?_⟩
  refine lc_list (K := K) (a := a) (xs := xs) (Qd := Qd D) (fun i H' => ∃ P' acc cs', Ex P P' ∧ Mem P' (pt D (.lst acc) :: cs') H' ∧ R i acc cs' P') ⟨P, [], cs, Ex.refl _, m.new hD, h0⟩ (fun i H' _ ⟨P', acc, cs', e, m', _⟩ => ex_l (e.trans m'.ex) hq) (fun i x H' hx ⟨P', acc, cs', e, m', r⟩ => ?_) (fun H' ⟨P', acc, cs', e, m', r⟩ => hd D P' H' acc cs' e m' r)
  exact hs i x P' H' acc D cs' hx e m' r _ _ (fun y P4 H4 cs4 e4 m4 l4 r4 => ⟨acc, m4.rd0, sz_lt l4, P4, _, cs4, e.trans e4, m4.put0, r4⟩) (fun P4 H4 cs4 e4 m4 r4 => ⟨P4, acc, cs4, e.trans e4, m4, r4⟩)
end FS

set_option Elab.async false
set_option maxRecDepth 100000
set_option linter.all false
/-! FsView: x in d.values(). -/
namespace FS
open PySem PySem.Spec PyProof.Rows L2 Evl LamX PySem.W MeetsSeq
theorem plain_ci : plainId "proto.contains_iter" = true := by decide +kernel
theorem entry_ci : entryFor table "proto.contains_iter" = some Builtin.«proto.contains_iter» := entryFor_of_fast (by kernel_rfl)
theorem no_contains_values : typeLookup (.type "dict_values") "__contains__" = pure none := by rw [typeLookup_type, builtinLookup_eq_fast]; kernel_rfl
section
variable {prog : Program} {w : World} {A : Around} {R : Result → Shared → Prop} {I : Addr} {fp wr : List Addr} {n : Nat} {P : Nat → Value → Prop} {St : Nat → Heap → Prop}
theorem in_loop (W : Walks prog w A.in1 I fp wr n P St) {x : Value} (e : Nat → Bool) (he : ∀ i v, P i v → EqGives v x (e i)) :
    ∀ (k j : Nat) (s : Shared), n - j = k → j ≤ n → St j s.heap → (∀ b h' tk, (b = true ↔ ∃ i, j ≤ i ∧ i < n ∧ e i = true) → (∀ a o, a ∉ wr → s.heap.get? a = some o → h'.get? a = some o) → R (.ok (.ret (.bool b))) { s with heap := h', toks := tk }) →
      codeAny (model prog w) A (.builtin "proto.contains_iter" ⟨[.ref I, x], []⟩) R s := by
  intro k
  induction k with
  | zero =>
    intro j s hk hj hst hR
    have hjn : j = n := by omega
    refine codeAny_builtin entry_ci ?_
    rw [Around.under_plainId plain_ci _]
    show wpAny _ A.in1 (pyNext (.ref I) >>= _) _ _ s
    refine wpAny_bind (W.done s _ _ (hjn ▸ hst) fun h' tk hk' => ?_)
    refine wpAny_bind (wpAny_rule ?_)
    exact wpAny_pure (hR false h' tk ⟨fun z => (Bool.false_ne_true z).elim, fun ⟨i, h1, h2, _⟩ => by omega⟩ hk')
  | succ k ih =>
    intro j s hk hj hst hR
    have hlt : j < n := by omega
    refine codeAny_builtin entry_ci ?_
    rw [Around.under_plainId plain_ci _]
    show wpAny _ A.in1 (pyNext (.ref I) >>= _) _ _ s
    refine wpAny_bind (W.item j s _ _ hlt hst fun v h' tk hP hst' hk' => ?_)
    refine wpAny_bind (he j v hP _ _ _ _ _ _ ?_)
    cases hb : e j with
    | true =>
      simp only [if_true]
      refine wpAny_bind (wpAny_rule ?_)
      exact wpAny_pure (hR true h' tk ⟨fun _ => ⟨j, Nat.le_refl _, hlt, hb⟩, fun _ => rfl⟩ hk')
    | false =>
      simp only [Bool.false_eq_true, if_false]
      refine wpAny_pure ⟨plainId_quiet plain_ci _, ih (j + 1) _ (by omega) hlt hst' fun b h'' tk'' hb2 hk'' => ?_⟩
      refine hR b h'' tk'' (hb2.trans ⟨fun ⟨i, h1, h2, h3⟩ => ⟨i, by omega, h2, h3⟩, fun ⟨i, h1, h2, h3⟩ => ?_⟩) fun a o ha eo => hk'' a o ha (hk' a o ha eo)
      refine ⟨i, ?_, h2, h3⟩
      rcases Nat.eq_or_lt_of_le h1 with rfl | h
      · rw [hb] at h3; cases h3
      · exact h
theorem in_view {s : Shared} {E : Value → Shared → Prop} {x : Value} {d : Addr} {OK : Heap → Prop} {r : Addr} {e : Nat → Bool} {Q : Value → Shared → Prop} (K : KdlSrc prog w "dict_values" r d n P OK) (hh : A.handled = none) (hok : OK s.heap) (he : ∀ i v, P i v → EqGives v x (e i))
    (h : ∀ b h' tk, (b = true ↔ ∃ i, i < n ∧ e i = true) → (∀ a o, s.heap.get? a = some o → h'.get? a = some o) → Q (.bool b) { s with heap := h', toks := tk }) :
    wpAny (model prog w) A (compareOp .In x (.ref r)) Q E s := by
  show wpAny _ _ (do return .bool (← contains (.ref r) x)) Q E s
  have hT := K.type s hok
  refine wpAny_bind ?_
  unfold contains
  refine wpAny_holding ?_
  rw [stdlibNamesSay?_of_typeIs hT]
  refine wpAny_bind (wpAny_specialOf hT no_contains_values ?_)
  show wpAny _ A (if (none == some Value.none) = true then _ else _) _ E s
  rw [if_neg (by simp)]
  refine wpAny_bind (wpAny_callSpecialUnlessNone?_none hT no_contains_values ?_)
  refine wpAny_bind (wpAny_rule ?_)
  obtain ⟨oI, St, h1, W, h0⟩ := K.iter A.in1 s hh hok
  refine wpAny_bind (wpAny_tryCatch (wpAny_of_in1 (h1 _ _ ?_)))
  refine wpAny_bind (wpAny_runValue (in_loop W e he _ 0 _ rfl (Nat.zero_le _) h0 fun b h' tk hb hk => ?_))
  refine wpAny_pure (wpAny_pure (h b h' tk (hb.trans ⟨fun ⟨i, _, h2, h3⟩ => ⟨i, h2, h3⟩, fun ⟨i, h2, h3⟩ => ⟨i, Nat.zero_le _, h2, h3⟩⟩) fun a o e => ?_))
  refine hk a o (fun z => ?_) (Heap.get?_push_of_some _ e)
  have h2 := Heap.lt_size e
  rw [List.mem_singleton] at z
  rw [z] at h2
  exact Nat.lt_irrefl _ h2
end
section
variable {X : Cx} {K : PySem.W.Frag}
/-- d.values(): a view -/
def valsO (p d : Addr) : HO := .ext fun h => h.IsValuesView p d
theorem valsO_ok {P : Program} {w : World} {H : Hp} {h : Heap} {p d : Addr} (e : h.get? p = some { cls := .type "dict_values", data := .fields #[.ref d] }) : ObjOk P w H h p (valsO p d) :=
  ⟨⟨_, e, rfl, rfl⟩, ⟨_, e⟩, fun h1 h2 x k => let ⟨o, ho, r⟩ := x; ⟨o, k o ho, r⟩⟩
def rValuesK : V → List V → Hp → VK → Prop := fun x xs H Q => ∃ (a : Addr) (kvs : List (Key × V)), x = .ref a ∧ xs = [] ∧ H a = some (.dK kvs) ∧ NewO (valsO 0 0) H Q
/-- k in d.values(), whole numbers -/
def InVals (x y : V) (H : Hp) (Q : VK) : Prop := ∃ (k : Int) (d : Addr) (kvs : List (Key × V)) (ns : List Int), x = .int k ∧ y = .ref d ∧ H d = some (.dK kvs) ∧ kvs.map (·.2) = ns.map V.int ∧ Q (.bl (decide (k ∈ ns))) H
def tInVals (ta td : TE) : TE := fun σ H Q => ta σ H fun x H1 => td σ H1 fun y H2 => InVals x y H2 Q
theorem kv_valsI {κ : Type} {kvs : List (κ × V)} {vs : List (κ × Value)} {ns : List Int} (r : KV kvs vs) (h : kvs.map (·.2) = ns.map V.int) : ∀ (i : Nat) (v : Value), (∃ k, vs[i]? = some (k, v)) → ∃ n t, ns[i]? = some n ∧ v = .int n t := by
  unfold KV at r
  induction r generalizing ns with
  | nil => intro i v ⟨k, e⟩; simp at e
  | @cons p q ps qs a t ih =>
    cases ns with
    | nil => simp at h
    | cons n ns =>
      rw [List.map_cons, List.map_cons] at h
      injection h with h1 h2
      intro i v ⟨k, e⟩
      cases i with
      | zero =>
        have e1 : q = (k, v) := by simpa using e
        have a2 := a.2
        rw [h1, e1] at a2
        obtain ⟨tk, ev⟩ := a2
        exact ⟨n, tk, rfl, ev⟩
      | succ i => exact ih h2 i v ⟨k, by simpa using e⟩
theorem pc_inVals {a e : Expr} {ta td : TE} {apos cpos : Pos} (hc : X.calm = true) (ha : PE X a ta) (he : PE X e td)
    (hbase : attributeBase e "values" X.env (eval e X.env) = eval e X.env := by rfl) (hline : (apos.endLine == cpos.line) = true := by rfl) :
    PC X .In a (.Call (.Attribute e "values" apos) [] [] cpos) (tInVals ta td) := by
  refine ⟨fun pins s0 σ H0 Q I0 hq => ?_⟩
  refine thn (ha.run pins s0 σ H0 _ I0 hq) fun v s ⟨y, H, I, ry, hq⟩ => ?_
  refine wpAny_Call_method (T := "dict") (id := "dict.values") hbase rfl hline F.plainAttrs_dict F.slot_dict_values F.type_dict_values (thn (he.run pins s σ H _ I hq) fun u s1 ⟨x, H1, I1, rx, k, d, kvs, ns, ey, ex, hd, hns, q⟩ => ?_)
  subst ex
  subst ey
  obtain rfl : u = Value.ref d := rx
  obtain ⟨tk, rfl⟩ := ry
  obtain ⟨hz, hs0, vs, kv, hdo⟩ := I1.hok d _ hd
  obtain ⟨ep, hat⟩ := hdo.dictAt
  have lk : kvs.length = vs.length := Paired.length kv
  have lns : kvs.length = ns.length := by have := congrArg List.length hns; simpa using this
  refine ⟨hdo.typeIs, hdo.mapOf.noDict, ?_⟩
  show wpAny _ _ (callWith cpos (.builtin "dict.values") [.ref d] [] []) _ X.xe s1
  refine method_meetsIn F.slot_dict_values F.entry_dict_values rfl (PySem.evalArgs_none ⟨rfl, hdo.typeIs, F.args_dict_values_1 _, _, meets_dict_values (mixKind X.prog X.w) d hs0, ⟨vs, hdo⟩, ?_⟩)
  refine in_view (e := fun i => decide (ns[i]? = some k)) (PySem.W.kdl_values (knd := mixKind X.prog X.w) (kvs := vs) (ep := ep) (r := s1.heap.objs.size) (d := d)) (I1.ok.hd hc) ⟨⟨_, Heap.get?_push_size _ rfl, rfl, rfl⟩, hat.push _⟩ (fun i v hv => ?_) fun b h' t' hb hk => ?_
  · obtain ⟨n, t, hn, rfl⟩ := kv_valsI kv hns i v hv
    rw [hn]
    have e1 : decide (some n = some k) = (n == k) := by
      by_cases z : n = k
      · simp [z]
      · simp [z]
    rw [e1]
    exact EqGives.int n k t tk
  · have eb : b = decide (k ∈ ns) := by
      have hm : (∃ i, i < vs.length ∧ decide (ns[i]? = some k) = true) ↔ k ∈ ns := by
        constructor
        · rintro ⟨i, _, h⟩; exact List.mem_of_getElem? (of_decide_eq_true h)
        · intro h
          obtain ⟨i, hi, e⟩ := List.mem_iff_getElem.mp h
          exact ⟨i, by omega, decide_eq_true (by rw [List.getElem?_eq_getElem hi, e])⟩
      cases b with
      | true => exact (decide_eq_true (hm.mp (hb.mp rfl))).symm
      | false =>
        refine (decide_eq_false fun z => ?_).symm
        exact Bool.false_ne_true (hb.mpr (hm.mpr z))
    subst eb
    exact ⟨.bl _, H1, I1.kept fun b o e => hk b o (Heap.get?_push_of_some _ e), rfl, q⟩
end
theorem i_inVals {ta td : TE} {σ : L2.St} {H : Hp} {Q : VK} (h : ta σ H fun x H1 => td σ H1 fun y H2 => InVals x y H2 Q) : tInVals ta td σ H Q := h
theorem i_inValsAt {P H : Hp} {cs r : List Ch} {k : Int} {d : Addr} {kvs : List (Key × V)} {ns : List Int} {Q : VK} (m : Mem P cs H) (s : Sel cs (pt d (.dK kvs)) r) (h : kvs.map (·.2) = ns.map V.int) (q : Q (.bl (decide (k ∈ ns))) H) : InVals (.int k) (.ref d) H Q := ⟨k, d, kvs, ns, rfl, rfl, m.rd s, h, q⟩
end FS

set_option Elab.async false
set_option maxRecDepth 100000
set_option linter.all false
/-! FsMaxV: max(d.values(), key=lambda x: (x[0], len(x[1]))). -/
namespace FS
open PySem PySem.Spec PyProof.Rows L2 Evl LamX
theorem kv_get {κ : Type} {kvs : List (κ × V)} {vs : List (κ × Value)} (r : KV kvs vs) {i : Nat} {v : Value} (h : ∃ k, vs[i]? = some (k, v)) : ∃ y, (kvs.map (·.2))[i]? = some y ∧ RelV y v := by
  unfold KV at r
  obtain ⟨k, h⟩ := h
  induction r generalizing i with
  | nil => simp at h
  | @cons p q ps qs a t ih =>
    cases i with
    | zero =>
      have e1 : q = (k, v) := by simpa using h
      refine ⟨p.2, rfl, ?_⟩
      have a2 := a.2
      rw [e1] at a2
      exact a2
    | succ i => exact ih (i := i) (by simpa using h)
def rValsK : V → List V → Hp → VK → Prop := fun x xs H Q => ∃ (a : Addr) (kvs : List (Key × V)), x = .ref a ∧ xs = [] ∧ H a = some (.dK kvs) ∧ ∀ p, H p = none → Q (.ref p) (upd H p (valsO p a))
theorem mt_vals {X : Cx} : MtR X "dict.values" rValsK := by
  intro pins s σ H x xs v us Q I rx rxs h
  obtain ⟨a, kvs, rfl, rfl, ha, q⟩ := h
  cases rx
  cases rxs
  obtain ⟨hz, hs0, vs, kv, hdo⟩ := I.hok a _ ha
  refine call_meetsIn F.slot_dict_values hdo.typeIs F.entry_dict_values (F.args_dict_values_1 _) (meets_dict_values (mixKind X.prog X.w) a hs0) ⟨⟨vs, hdo⟩, ?_⟩
  have hf : H s.heap.objs.size = none := I.hok.fresh (Nat.le_refl _)
  exact ⟨.ref s.heap.objs.size, upd H s.heap.objs.size (valsO s.heap.objs.size a), I.laid (t' := s.toks) (fun b u e => Heap.get?_push_of_some _ e) (Nat.le_refl _) (valsO_ok (Heap.get?_push_size _ rfl)), rfl, q _ hf⟩
theorem max_runV {κ : Type} [DecidableEq κ] {p : Program} {w : World} {knd : KeyKind p w κ} {d : Addr} {kvs : List (κ × Value)} {ep : Nat} {A : Around} {s : Shared} {a f : Addr} {key : Nat → Int × Int} {Q : Value → Shared → Prop} {E : Value → Shared → Prop} (hh : A.handled = none) (hu : A.units + 64 < cLine) (hv : s.heap.IsValuesView a d) (hm : s.heap.DictAt knd d kvs ep) (hn : 0 < kvs.length)
    (turn : ∀ (i : Nat) (v : Value), (∃ k, kvs[i]? = some (k, v)) → ∀ (h : Heap) (tk : Nat), (∀ b o, s.heap.get? b = some o → h.get? b = some o) → ∀ (Q : Value → Shared → Prop) (E : Value → Shared → Prop),
      (∀ u h₁ h' tk', (∀ b o, h.get? b = some o → h₁.get? b = some o) → (∀ b o, h₁.get? b = some o → h'.get? b = some o) → TupII h₁ h' u (key i).1 (key i).2 → Q u { s with heap := h', toks := tk' }) → wpAny (model p w) A.in1 (call (.ref f) [v]) Q E { s with heap := h, toks := tk })
    (hq : ∀ v h' tk, (∀ b o, s.heap.get? b = some o → h'.get? b = some o) → (∃ k, kvs[argBest (fun i j => ltII (key j) (key i)) (kvs.length - 1)]? = some (k, v)) → Q v { s with heap := h', toks := tk }) :
    wpAny (model p w) A (call (.builtin "max") [.ref a] [(Str.ofString "key", .ref f)]) Q E s := by
  refine PySem.call_max_walkK (wpAny_pyIter_values hv hm ?_)
  have W := (Walks.dictValues (prog := p) (w := w) (knd := knd) (A := A.in1) hh s.heap.objs.size d (Nat.ne_of_lt hm.lt_size) kvs ep).toS
  have kp : ∀ b o, s.heap.get? b = some o → (s.heap.push { cls := .type "dict_valueiterator", data := .fields #[.ref d, .int 0 0, .int kvs.length 0, .int ep 0] }).get? b = some o := fun b o e => Heap.get?_push_of_some _ e
  have hfp : ∀ b ∈ [s.heap.objs.size, d], b < (s.heap.push { cls := .type "dict_valueiterator", data := .fields #[.ref d, .int 0 0, .int kvs.length 0, .int ep 0] }).objs.size := fun b hb => by
    rw [Heap.size_push]
    rcases List.mem_cons.mp hb with rfl | hb
    · exact Nat.lt_succ_self _
    · rw [List.mem_singleton] at hb
      rw [hb]
      exact Nat.lt_succ_of_lt hm.lt_size
  refine ⟨_, _, _, _, _, _, _, (fun s' => ∃ h' tk, s' = { s with heap := h', toks := tk } ∧ ∀ b o, s.heap.get? b = some o → h'.get? b = some o),
    (fun i u s' => ∃ (t : Addr) (ti tj : Tok), u = .ref t ∧ t ≠ (s.heap.push { cls := .type "dict_valueiterator", data := .fields #[.ref d, .int 0 0, .int kvs.length 0, .int ep 0] }).objs.size ∧ t ≠ s.heap.objs.size ∧ s'.heap.get? t = some { cls := .type "tuple", data := .seq #[.int (key i).1 ti, .int (key i).2 tj] }),
    (fun i j => ltII (key j) (key i)), rfl, W, ⟨⟨_, Heap.get?_push_size _ rfl, rfl, rfl⟩, hm.push _⟩, hfp, hn, ?_, ⟨_, _, rfl, kp⟩, ?_⟩
  · refine ⟨?_, ?_, ?_, ?_⟩
    · rintro s1 s' ⟨h1, tk, rfl, k⟩ ⟨m1, m2, m3, m4, m5⟩
      obtain ⟨h', g', d', t', o'⟩ := s'
      cases m2; cases m3; cases m4
      refine ⟨h', t', rfl, fun b o e => m1 b o (fun z => ?_) (k b o e)⟩
      have hb := Heap.lt_size e
      rcases List.mem_cons.mp z with z | z
      · have z2 : b = s.heap.objs.size + 1 := z.trans (Heap.size_push ..)
        exact absurd hb (by rw [z2]; exact Nat.not_lt.mpr (Nat.le_succ _))
      · have z2 : b = s.heap.objs.size := List.mem_singleton.mp z
        exact absurd hb (by rw [z2]; exact Nat.lt_irrefl _)
    · rintro i u s1 s' ⟨t, ti, tj, rfl, n1, n2, e⟩ ⟨m1, _⟩
      refine ⟨t, ti, tj, rfl, n1, n2, m1 _ _ (fun z => ?_) e⟩
      rcases List.mem_cons.mp z with z | z
      · exact n1 z
      · exact n2 (List.mem_singleton.mp z)
    · rintro i v s1 o Q' E' hi hvi ⟨h1, tk, rfl, k⟩ st hS q
      refine turn i v hvi h1 tk k Q' E' fun u h₁ h' tk' k1 k2 r => ?_
      obtain ⟨t, ti, tj, rfl, fr, e⟩ := r
      have n1 : t ≠ (s.heap.push { cls := .type "dict_valueiterator", data := .fields #[.ref d, .int 0 0, .int kvs.length 0, .int ep 0] }).objs.size := fun z => by
        rw [z, k1 _ _ hS] at fr; cases fr
      have n2 : t ≠ s.heap.objs.size := fun z => by
        obtain ⟨⟨oi, ho, _⟩, _⟩ := st
        rw [z, k1 _ _ ho] at fr; cases fr
      have kk : ∀ b o, h1.get? b = some o → h'.get? b = some o := fun b o z => k2 b o (k1 b o z)
      refine q _ _ ⟨h', tk', rfl, fun b o z => kk b o (k b o z)⟩ ⟨?_, ?_⟩ (kk _ _ hS) ⟨t, ti, tj, rfl, n1, n2, e⟩ ?_
      · obtain ⟨⟨oi, ho, hr⟩, _⟩ := st
        exact ⟨oi, kk _ _ ho, hr⟩
      · exact st.2.at' fun o e => kk _ _ e
      · rintro j u' ⟨t2, a2, b2, rfl, c1, c2, e3⟩
        exact ⟨t2, a2, b2, rfl, c1, c2, kk _ _ e3⟩
    · rintro i j ki kj s1 Q' E' hJ ⟨t, ti, tj, rfl, _, _, e⟩ ⟨t2, ti2, tj2, rfl, _, _, e2⟩ q
      have r1 : Reads s1.heap (.ref t) (.tuple [.int (key i).1, .int (key i).2]) [] := .tuple e rfl rfl (.cons (.int _ _) (.cons (.int _ _) .nil))
      have r2 : Reads s1.heap (.ref t2) (.tuple [.int (key j).1, .int (key j).2]) [] := .tuple e2 rfl rfl (.cons (.int _ _) (.cons (.int _ _) .nil))
      refine PySem.W.rcGt_alike _ _ A.in1 s1 _ _ _ _ r1 r2 (by simp [PySem.W.alike, PySem.W.alikeAll]) (by intro z; cases z) ?_ p w E' Q' ?_
      · have hd : (PyData.tuple [.int (key i).1, .int (key i).2]).depth = 1 := by simp [PyData.depth, PyData.depthAll]
        have := Nat.min_le_left (PyData.tuple [.int (key i).1, .int (key i).2]).depth (PyData.tuple [.int (key j).1, .int (key j).2]).depth
        rw [hd] at this
        have h1 : A.in1.units ≤ A.units + 1 := Nat.le_refl _
        omega
      · rw [PySem.W.dataLt_ii]
        exact q
  · rintro v s' hv ⟨h', tk, rfl, k⟩
    exact hq v h' tk k hv
def MaxVAt (K : PySem.W.Frag) (v : V) (H2 : Hp) (Q : VK) : Prop := ∃ (a d : Addr) (kvs : List (Key × V)) (key : Nat → Int × Int), v = .ref a ∧ H2 a = some (valsO a d) ∧ H2 d = some (.dK kvs) ∧ 0 < kvs.length ∧
  (∀ i x, (kvs.map (·.2))[i]? = some x → KeyPL K H2 x (key i)) ∧ ∀ x, (kvs.map (·.2))[argBest (fun i j => ltII (key j) (key i)) (kvs.length - 1)]? = some x → Q x H2
def tMaxPLV (K : PySem.W.Frag) (Pt : Addr) (q : Str) (te : TE) : TE := fun σ H Q => te σ H fun v H1 => TabS H1 Pt q ∧ ∀ H2, Grow Pt q H1 H2 → MaxVAt K v H2 Q
theorem pe_maxPLV {X : Cx} {c Pt : Addr} {q x : Str} {n : Nat} {e : Expr} {te : TE} {params : Arguments} {scope : Scope} {k0 k1 : Nat} {x1} {p1 p2 p3 p4 p5 p6 p7 p8 p9 p10 lpos kpos pos : Pos} (hr : Room n X.A) (he : PE X e te)
    (TB : TabB X.base X.mg c Pt) (hcode : X.env.code = .ref c) (hq : X.env.qual ++ "<lambda>" = q) (hg : Gl X "max") (hm : X.mg "max" = none) (hml : X.mg "len" = none) (hdef : defaultsOf params X.env = ([], [])) (L : LamOk scope x) (hcl : cloFrom X.env.cells scope.names [] = [])
    (hlen : ∀ L f c', (lenv q scope L f c').kindOf "len" = some .globalImplicit) (hx : ∀ L f c', (lenv q scope L f c').kindOf x = some .local) (hd : (x == ("__debug__" : Str)) = false)
    (hbind : ∀ pm cv ctv v, bindArgs (PySem.W.kla_fn "<lambda>" q params (plBody x k0 k1 x1 p2 p3 p4 p5 p6 p7 p8 p9 p10) scope [] pm cv ctv) ⟨[v], []⟩ = pure [(x, v)])
    (hst : backTo pos (starEach [e] X.env) = (false, eval e X.env) :: backTo pos (starEach [] X.env) := by rfl) (hst0 : starEach [e] X.env = (false, eval e X.env) :: starEach [] X.env := by rfl) (hpl : (backTo pos (starEach [e] X.env)).any (·.1) = false := by rfl) :
    PE X (.Call (.Name "max" p1) [e] [⟨some "key", .Lambda params (plBody x k0 k1 x1 p2 p3 p4 p5 p6 p7 p8 p9 p10) scope lpos, kpos⟩] pos) (tMaxPLV X.K Pt q te) := by
  refine ⟨fun pins s σ H Q I h => ?_⟩
  refine wpAny_Call_Name_kw (ld_blt I hg hm (show bootBuiltins "max" = some (.builtin "max") from rfl) ?_ (by decide) rfl)
  refine PyProof.Rows.callWith_kw (thn (((pa_cons he pa_nil hst0 : PA X [e] _)).run pos pins s σ H (fun vs H1 => match vs with
    | [v] => TabS H1 Pt q ∧ ∀ H2, Grow Pt q H1 H2 → MaxVAt X.K v H2 Q
    | _ => False) I h) fun us s1 ⟨vs, H1, I1, r1, q1⟩ => ?_) hst hpl rfl rfl
  obtain ⟨v, rfl, hT, q2⟩ : ∃ v, vs = [v] ∧ TabS H1 Pt q ∧ ∀ H2, Grow Pt q H1 H2 → MaxVAt X.K v H2 Q := by
    match vs, q1 with
    | [v], z => exact ⟨v, rfl, z⟩
  clear q1
  obtain ⟨u, rfl, ru⟩ := vals1 r1
  show wpAny _ _ (evalAll ((do let v ← eval (.Lambda params (plBody x k0 k1 x1 p2 p3 p4 p5 p6 p7 p8 p9 p10) scope lpos) X.env; standAt pos; pure v) :: [])) _ _ s1
  refine wpAny_evalAll_cons (wpAny_bind (lam_new I1 TB hcode hq hT hdef L.nofree hcl fun f c' pm ctv H2 s2 I2 gr hf hcd => wpAny_bind (wpAny_standAt (wpAny_pure (wpAny_evalAll_nil ?_)))))
  obtain ⟨a, d, kvs, key, rfl, hp, hdk, hn, hkey, q3⟩ := q2 H2 gr
  obtain rfl : u = Value.ref a := ru
  have view : s2.heap.IsValuesView a d := (show ObjOk X.prog X.w H2 s2.heap a (valsO a d) from I2.hok a _ hp).1
  obtain ⟨hz, hs0, vs, kv, hdo⟩ := I2.hok d _ hdk
  obtain ⟨ep, hat⟩ := hdo.dictAt
  have hlv : kvs.length = vs.length := Paired.length kv
  obtain ⟨mb, b1, b2⟩ := I2.mod.blt
  show wpAny _ _ (call (.builtin "max") [.ref a] [(Str.ofString "key", .ref f)]) _ _ s2
  refine max_runV (key := key) hr.hd hr.units view hat (by rw [← hlv]; exact hn) (fun i v hv h tk kp Q' E' hq' => ?_) (fun v h' tk kp hv => ?_)
  · obtain ⟨y, hy, ry⟩ := kv_get kv hv
    obtain ⟨t, r, rows, rfl, h1, h2, e2⟩ := hkey i y hy
    obtain rfl : v = Value.ref t := ry
    obtain ⟨ts, rt, pt, zt⟩ := I2.tuple h1
    obtain ⟨rs, rr, pr, zr⟩ := I2.tuple h2
    obtain ⟨v1, v2, rfl, ⟨t1, rfl⟩, rv2⟩ := vals2 rt
    obtain rfl : v2 = Value.ref r := rv2
    have hlr := rr.length
    have hz62 : rs.toArray.size < 2 ^ 62 := by
      rw [List.size_toArray, ← hlr]
      rw [sizeLine_eq] at zr
      omega
    refine lam_call (x := x) (R := fun h₁ h' u => TupII h₁ h' u (key i).1 (key i).2) L hr.depth (kp _ _ hf) ?_ ?_ (hbind _ _ _ _) (fun h₁ kq hns => ?_) fun u h₁ h' tk' kq kr r => hq' u h₁ h' tk' kq kr r
    · obtain ⟨c2, oc, ws, tt, a1, a2, a3, a4⟩ := hcd
      exact ⟨c2, oc, ws, tt, a1, kp _ _ a2, a3, a4⟩
    · exact I2.nolimit.keeps kp
    · have kk : ∀ b o, s2.heap.get? b = some o → h₁.get? b = some o := fun b o z => kq b o (kp b o z)
      have pt' : IsTup h₁ t _ := pt.keeps kk
      have pr' : IsTup h₁ r _ := pr.keeps kk
      have var : ∀ AA pz, Evc X.prog X.w AA (lenv q scope h.objs.size f c') h₁ (.Name x pz) (fun _ u => u = .ref t) := fun AA pz => evc_var (m := fun y => [(x, Value.ref t)].reverse.lookup y) L.kind (hx _ _ _) hns (by simp) hd
      refine evc_tup2 ?_ ?_
      · intro s Q E k q
        refine evc_sub (pos := p4) (y := .int (key i).1 t1) (j := 0) pt' (var _ p2) (evc_int (i := 0) (k := k0) (pos := p3)) (fun _ _ => rfl) (by simp) (by simp) (by simp) s Q E k fun u h' tk kk r => q u h' tk kk ⟨t1, r⟩
      · have e3 : (key i).2 = (rs.toArray.size : Int) := by rw [List.size_toArray, ← hlr]; exact e2
        rw [e3]
        exact evc_len (x := "len") (px := p5) (pos := p9) pr' hz62 L.kind (hlen _ _ _) ((I2.mod.glob.keeps I2.bk).keeps kk) hml ((b1.keeps I2.bk).keeps kk) ((b2 _ (by decide)).trans rfl)
          (evc_sub (pos := p8) (y := .ref r) (j := 1) pt' (var _ p6) (evc_int (i := 1) (k := k1) (pos := p7)) (fun _ _ => rfl) (by simp) (by simp) (by simp)) rfl
  · rw [← hlv] at hv
    obtain ⟨y, hy, ry⟩ := kv_get kv hv
    exact ⟨y, H2, I2.kept kp, ry, q3 y hy⟩
section
variable {X : Cx} {K : PySem.W.Frag}
theorem maxPLV {c Pt : Addr} {q x : Str} {n : Nat} {e : Expr} {te : TE} {params : Arguments} {scope : Scope} {k0 k1 : Nat} {x1 : Nat} {p1 p2 p3 p4 p5 p6 p7 p8 p9 p10 lpos kpos pos : Pos} (h : X.K = K) (hr : Room n X.A) (he : PE X e te)
    (TB : TabB X.base X.mg c Pt) (hcode : X.env.code = .ref c) (hq : X.env.qual ++ "<lambda>" = q) (hg : Gl X "max") (hm : X.mg "max" = none) (hml : X.mg "len" = none) (hdef : defaultsOf params X.env = ([], [])) (L : LamOk scope x) (hcl : cloFrom X.env.cells scope.names [] = [])
    (hlen : ∀ L f c', (lenv q scope L f c').kindOf "len" = some .globalImplicit) (hx : ∀ L f c', (lenv q scope L f c').kindOf x = some .local) (hd : (x == ("__debug__" : Str)) = false)
    (hbind : ∀ pm cv ctv v, bindArgs (PySem.W.kla_fn "<lambda>" q params (plBody x k0 k1 x1 p2 p3 p4 p5 p6 p7 p8 p9 p10) scope [] pm cv ctv) ⟨[v], []⟩ = pure [(x, v)])
    (hst : backTo pos (starEach [e] X.env) = (false, eval e X.env) :: backTo pos (starEach [] X.env) := by rfl) (hst0 : starEach [e] X.env = (false, eval e X.env) :: starEach [] X.env := by rfl) (hpl : (backTo pos (starEach [e] X.env)).any (·.1) = false := by rfl) :
    PE X (.Call (.Name "max" p1) [e] [⟨some "key", .Lambda params (plBody x k0 k1 x1 p2 p3 p4 p5 p6 p7 p8 p9 p10) scope lpos, kpos⟩] pos) (tMaxPLV K Pt q te) := by
  subst h; exact pe_maxPLV hr he TB hcode hq hg hm hml hdef L hcl hlen hx hd hbind hst hst0 hpl
end
def MaxVT (K : PySem.W.Frag) (Pt : Addr) (q : Str) (v : V) (H1 : Hp) (Q : VK) : Prop := TabS H1 Pt q ∧ ∀ H2, Grow Pt q H1 H2 → MaxVAt K v H2 Q
theorem i_maxPLV {K : PySem.W.Frag} {Pt : Addr} {q : Str} {te : TE} {σ : L2.St} {H : Hp} {Q : VK} (h : te σ H fun v H1 => MaxVT K Pt q v H1 Q) : tMaxPLV K Pt q te σ H Q := h
theorem i_maxVT {K : PySem.W.Frag} {P H : Hp} {cs r1 r2 : List Ch} {Pt p d : Addr} {q : Str} {kvs : List (Key × V)} {key : Nat → Int × Int} {Q : VK} (m : Mem P (tabP Pt q :: cs) H) (s1 : Sel cs (pt p (valsO p d)) r1) (s2 : Sel cs (pt d (.dK kvs)) r2) (hn : 0 < kvs.length)
    (hk : ∀ i x, (kvs.map (·.2))[i]? = some x → KeyPL K P x (key i)) (k : ∀ P' H' x, Ex P P' → Mem P' (tabP Pt q :: cs) H' → (kvs.map (·.2))[argBest (fun i j => ltII (key j) (key i)) (kvs.length - 1)]? = some x → Q x H') : MaxVT K Pt q (.ref p) H Q := by
  refine ⟨m.tabS, fun H2 g => ?_⟩
  obtain ⟨P', e, m'⟩ := m.grow g
  exact ⟨p, d, kvs, key, rfl, m'.rd (.s s1), m'.rd (.s s2), hn, fun i x z => keyPL_up (hk i x z) (e.trans m'.ex), fun x z => k P' H2 x e m' z⟩
theorem i_valsK {P H : Hp} {cs r : List Ch} {a : Addr} {kvs : List (Key × V)} {Q : VK} (m : Mem P cs H) (s : Sel cs (pt a (.dK kvs)) r) (k : ∀ p H', Mem P (pt p (valsO p a) :: cs) H' → Q (.ref p) H') : rValsK (.ref a) [] H Q :=
  ⟨a, kvs, rfl, rfl, m.rd s, fun p n => k p _ (m.new n)⟩
theorem i_tyD {K : PySem.W.Frag} {P H : Hp} {cs r : List Ch} {a : Addr} {kvs : List (Key × V)} {R : Prop} (m : Mem P cs H) (s : Sel cs (pt a (.dK kvs)) r) (q : R) : tyV K "dict" (.ref a) H ∧ R := ⟨.inr (.inr (.inl ⟨rfl, .inl ⟨kvs, m.rd s⟩⟩)), q⟩
theorem rmv_at {H : Hp} {a b : Addr} {o : HO} (ne : a ≠ b) (e : H b = some o) : rmv H a b = some o := by
  unfold rmv
  rw [if_neg (fun z => ne z.symm)]
  exact e
theorem Mem.split2 {H : Hp} {a b : Addr} {q r : Str} (ea : H a = some (.tbl #[])) (eb : H b = some (.tbl #[])) (ne : a ≠ b) : Mem (rmv (rmv H a) b) [tabP a q, tabP b r] H := by
  have none' : ∀ {P : Hp} (q : Str), ∀ (pos : Pos) (cv : Value), codeAmong pos (#[] : Array Value).toList = some cv → ∃ c, cv = .ref c ∧ P c = some (CodeO c q) := fun q pos cv z => by
    have z' : codeAmong pos [] = some cv := z
    simp [codeAmong] at z'
  have sg : ∀ {x : Addr}, H x = some (.tbl #[]) → Ex (sgl x (.tbl #[])) H := fun {x} e y o z => by
    unfold sgl at z
    split at z
    · rename_i h; subst h; cases z; exact e
    · cases z
  have m0 : Mem (rmv (rmv H a) b) [pt a (.tbl #[]), pt b (.tbl #[])] H := by
    refine ⟨rmv_ex.trans rmv_ex, Jn (sgl a (.tbl #[])) (sgl b (.tbl #[])), ⟨sgl a (.tbl #[]), sgl b (.tbl #[]), if_pos rfl, ⟨sgl b (.tbl #[]), emp, if_pos rfl, trivial, fun _ => .inr rfl, Ex.refl _, emp_ex⟩, fun x => ?_, Jn.l, Jn.r fun x => ?_⟩, fun x => ?_, Jn.le (sg ea) (sg eb)⟩
    · by_cases h : x = a
      · exact .inr (if_neg (fun z => ne (h.symm.trans z)))
      · exact .inl (if_neg h)
    · by_cases h : x = a
      · exact .inr (if_neg (fun z => ne (h.symm.trans z)))
      · exact .inl (if_neg h)
    · by_cases h : x = b
      · exact .inl (if_pos h)
      · by_cases h2 : x = a
        · left
          unfold rmv
          rw [if_neg h, if_pos h2]
        · right
          unfold Jn sgl
          rw [if_neg h2]
          exact if_neg h
  exact ((((m0.tabI (q := q) trivial (none' q)).sel (.s .z)).tabI (q := r) trivial (none' r))).sel (.s .z)
end FS

set_option Elab.async false
set_option maxRecDepth 100000
set_option linter.all false
set_option maxHeartbeats 4000000
namespace Fs
open PySem L2 Evl FS LamX
local macro_rules | `(tactic| walk_at "tlen") => `(tactic| first | assumption | omega | decide | (simp; omega))
local macro_rules | `(tactic| walk_at "kb") => `(tactic| first | exact FS.kb_bool_bool | exact FS.kb_bool_int | exact FS.kb_bool_str | exact FS.kb_bool_list | exact FS.kb_bool_tuple | exact FS.kb_bool_dict | exact FS.kb_int_bool | exact FS.kb_int_int | exact FS.kb_int_str | exact FS.kb_int_list | exact FS.kb_int_tuple | exact FS.kb_int_dict | exact FS.kb_str_bool | exact FS.kb_str_int | exact FS.kb_str_str | exact FS.kb_str_list | exact FS.kb_str_tuple | exact FS.kb_str_dict | exact FS.kb_NoneType_bool | exact FS.kb_NoneType_int | exact FS.kb_NoneType_str | exact FS.kb_NoneType_list | exact FS.kb_NoneType_tuple | exact FS.kb_NoneType_dict | exact FS.kb_list_bool | exact FS.kb_list_int | exact FS.kb_list_str | exact FS.kb_list_list | exact FS.kb_list_tuple | exact FS.kb_list_dict | exact FS.kb_tuple_bool | exact FS.kb_tuple_int | exact FS.kb_tuple_str | exact FS.kb_tuple_list | exact FS.kb_tuple_tuple | exact FS.kb_tuple_dict | exact FS.kb_dict_bool | exact FS.kb_dict_int | exact FS.kb_dict_str | exact FS.kb_dict_list | exact FS.kb_dict_tuple | exact FS.kb_dict_dict)
local macro_rules | `(tactic| walk_at "exch") => `(tactic| repeat (first | assumption | exact Evl.Ex.refl _ | refine Evl.Ex.trans ?_ (by assumption)))
local macro_rules | `(tactic| walk_at "sel") => `(tactic| repeat (first | exact FS.Sel.z | apply FS.Sel.s))
local macro_rules | `(tactic| walk_at "updc") => `(tactic| repeat (first | exact FS.Upd.z | apply FS.Upd.s))
local macro_rules | `(tactic| walk_at "sets") => `(tactic| repeat (first | exact FS.SetS.z | apply FS.SetS.s))
local macro_rules | `(tactic| walk_at "setv") => `(tactic| repeat (first | exact FS.SetV.z | apply FS.SetV.s))
local macro_rules | `(tactic| walk_at "per") => `(tactic| repeat (first | exact FS.Per.nil | (refine FS.Per.cons (by walk_at "sel") ?_)))
local macro_rules | `(tactic| walk_at "sq") => `(tactic| first
  | assumption
  | exact FS.Mem.sqL (by assumption) (by assumption) (by walk_at "exch")
  | exact FS.Mem.sqT (by assumption) (by assumption) (by walk_at "exch")
  | exact FS.Mem.sqLp (by assumption) (by walk_at "sel")
  | exact FS.sqL_up (by assumption) (by walk_at "exch")
  | exact FS.sqT_up (by assumption) (by walk_at "exch"))
local macro_rules | `(tactic| walk_at "pr") => `(tactic| repeat (first | exact FS.Pr.all | (refine FS.Pr.cons (by walk_at "sel") ?_)))
local macro_rules | `(tactic| walk_at "mul") => `(tactic| first
  | exact Or.inr ⟨by decide, by decide⟩ | exact Or.inl ⟨by decide, by decide⟩
  | exact Or.inr ⟨by omega, by omega⟩ | exact Or.inl ⟨by omega, by omega⟩)
local macro_rules | `(tactic| walk_at "side") => `(tactic| first | (show L2.CMul _ _; walk_at "mul") | (show (0 : Int) < _; first | decide | omega | (dsimp only; omega)) | (show L2.CDivW _ _; first | exact ⟨by decide, by decide⟩ | apply_assumption | fail "divw"))
local macro_rules | `(tactic| walk_at "len") => `(tactic| first | decide | (simp; done) | (simp; omega) | (simp only [List.length_cons, List.length_nil]; decide) | omega)
local macro_rules | `(tactic| walk_at "go1") => `(tactic| first
  | with_reducible refine FS.i_seq ?_
  | with_reducible refine FS.i_set ?_
  | with_reducible refine FS.i_asg ?_
  | ((with_reducible show L2.gName _ _ _ _ _); refine FS.i_name (by walk_at "sets") ?_)
  | with_reducible refine FS.i_var rfl ?_
  | with_reducible refine FS.i_c ?_
  | with_reducible refine FS.i_op ?_
  | with_reducible refine FS.i_un ?_
  | with_reducible refine FS.i_aCons ?_
  | with_reducible refine FS.i_aNil ?_
  | with_reducible refine FS.i_cb ?_
  | with_reducible refine FS.i_call ?_
  | with_reducible refine FS.i_tup ?_
  | with_reducible refine FS.i_lst ?_
  | with_reducible refine FS.i_next ?_
  | with_reducible refine FS.i_ret ?_
  | with_reducible refine FS.i_drop ?_
  | with_reducible refine FS.i_ifS ?_
  | with_reducible refine FS.i_if ?_
  | with_reducible refine FS.i_test ?_
  | with_reducible refine FS.i_tB ?_
  | with_reducible refine FS.i_and ?_
  | with_reducible refine FS.i_or ?_
  | with_reducible refine FS.i_not ?_
  | with_reducible refine FS.i_andV ?_
  | with_reducible refine FS.i_orV ?_
  | with_reducible refine FS.i_notV ?_
  | with_reducible refine FS.i_chain ?_
  | with_reducible refine FS.i_slice ?_
  | with_reducible refine FS.i_noPart ?_
  | with_reducible refine FS.i_part ?_
  | with_reducible refine FS.i_for ?_
  | with_reducible refine FS.i_lc ?_
  | with_reducible refine FS.i_yes ?_
  | with_reducible refine FS.i_iList ?_
  | with_reducible refine FS.i_iTup ?_
  | with_reducible refine FS.i_iEnum ?_
  | with_reducible refine FS.i_iRng1 ?_
  | with_reducible refine FS.i_iRng2 ?_
  | with_reducible refine FS.i_gSub ?_
  | with_reducible refine FS.i_gCons ?_
  | with_reducible refine FS.i_gNil ?_
  | with_reducible refine FS.i_rI0 ?_
  | with_reducible refine FS.i_rU ?_
  | with_reducible refine FS.i_eqI ?_
  | with_reducible refine FS.i_neI ?_
  | with_reducible refine FS.i_eqB ?_
  | with_reducible refine FS.i_neB ?_
  | with_reducible refine FS.i_eqS ?_
  | with_reducible refine FS.i_neS ?_
  | with_reducible refine FS.i_isN ?_
  | with_reducible refine FS.i_blI ?_
  | with_reducible refine L2.iteT ?_
  | with_reducible refine L2.iteF ?_
  | ((with_reducible show (if decide (PySem.Str.ofString _ = PySem.Str.ofString _) = true then _ else _)); first | refine FS.i_dec (fun _ => ?_) (fun z => absurd rfl z) | refine FS.i_dec (fun z => absurd z (by decide)) (fun _ => ?_))
  | with_reducible refine FS.i_iteNT ?_
  | with_reducible refine FS.i_iteNF ?_
  | ((with_reducible show L2.tChain _ _ _ _ _ _ _ _); refine FS.i_chain ?_)
  | refine FS.i_p12 ?_ | refine FS.i_p18 ?_ | refine FS.i_p9 ?_ | refine FS.i_p6 ?_ | refine FS.i_p11 ?_
  | ((with_reducible show L2.rI _ _ _ _ _ _); refine FS.i_rI (by walk_at "side") ?_)
  | ((with_reducible show L2.rCat _ _ _ _); refine FS.i_cat (by assumption) (by walk_at "sel") (by walk_at "sel") ?hl ?_; (case hl => walk_at "len"))
  | ((with_reducible show FS.rCatL _ _ _ _ _); refine FS.i_catL (by walk_at "sq") (by walk_at "sq") (by walk_at "len") ?_)
  | ((with_reducible show L2.rIsi _ _ _ _); refine FS.i_isi (L2.ClsV.ty _) (by first | exact FS.tyx_l (by walk_at "sq") | exact FS.tyx_t (by walk_at "sq") | exact L2.TyX.base (by constructor)) (L2.kit_ty (by walk_at "kb")) ?_)
  | ((with_reducible show FS.NewT (L2.V.ty _ :: _) _ _); refine FS.i_newTy (by walk_at "len") (by assumption) ?_; intro p P' H' m e h)
  | ((with_reducible show FS.NewT _ _ _); refine FS.i_NT (by walk_at "len") ?_; refine FS.i_newT (K := ‹PySem.W.Frag›) (by assumption) ?_; intro p P' H' m e h)
  | ((with_reducible show FS.NewL _ _ _); refine FS.i_NL (by walk_at "len") ?_)
  | ((with_reducible show L2.rIxL _ _ _ _ _); refine FS.i_ixL (by walk_at "sq") rfl ?_)
  | ((with_reducible show L2.rIxT _ _ _ _ _); refine FS.i_ixT (by walk_at "sq") rfl ?_)
  | ((with_reducible show L2.gTup _ _ _ _ _ _ _); refine FS.i_gTup (by walk_at "sq") rfl ?_)
  | ((with_reducible show L2.rSlL _ _ _ _ _ _); refine FS.i_slL (by walk_at "sq") ?_)
  | ((with_reducible show L2.rSetL _ _ _ _ _); refine FS.i_setL (by assumption) (by walk_at "sel") (by walk_at "setv") (by walk_at "updc") ?_; intro H' m)
  | with_reducible refine FS.i_rAbs ?_
  | with_reducible refine FS.i_intB ?_
  | with_reducible refine FS.i_rMx2 ?_
  | with_reducible refine FS.i_rMn2 ?_
  | with_reducible refine FS.i_isBl ?_
  | with_reducible refine FS.i_notBl ?_
  | with_reducible refine FS.i_notN ?_
  | with_reducible refine FS.i_bm ?_
  | with_reducible refine FS.i_bm0 ?_
  | with_reducible refine FS.i_fldT ?_
  | with_reducible refine FS.i_sFld ?_
  | with_reducible refine FS.i_par ?_
  | ((with_reducible show FS.Par2 _ _ _ _ _ _); refine FS.i_par2 (by walk_at "sets") (by walk_at "sets") ?_)
  | with_reducible refine FS.i_sFldAug ?_
  | with_reducible refine FS.i_rAdd ?_
  | with_reducible refine FS.i_meth ?_
  | with_reducible refine FS.i_make ?_
  | with_reducible refine FS.i_dnewK ?_
  | with_reducible refine FS.i_pairC ?_
  | with_reducible refine FS.i_pairN ?_
  | with_reducible refine FS.i_dget ?_
  | with_reducible refine FS.i_din ?_
  | with_reducible refine FS.i_dnotin ?_
  | with_reducible refine FS.i_dput ?_
  | with_reducible refine FS.i_dget2 ?_
  | with_reducible refine FS.i_listVals ?_
  | with_reducible refine FS.i_sortR ?_
  | with_reducible refine FS.i_maxPL ?_
  | with_reducible refine FS.i_maxPLV ?_
  | ((with_reducible show FS.FldAt _ _ _ _ _); walk_at "fld")
  | ((with_reducible show FS.FldPut _ _ _ _ _ _); walk_at "fput")
  | ((with_reducible show FS.FldAug _ _ _ _ _); walk_at "faug")
  | ((with_reducible show FS.FldBack _ _ _ _ _ _); walk_at "fback")
  | ((with_reducible show FS.rLenD _ _ _); refine FS.i_lenDr (by assumption) (by walk_at "sel") ?_)
  | ((with_reducible show FS.rValsL _ _ _); refine FS.i_listValsAt (by assumption) (by walk_at "sel") ?_)
  | ((with_reducible show L2.tDisp _ _ _ _); refine FS.i_disp (by assumption) ?_; intro p H' m)
  | ((with_reducible show FS.DispEnd _ [(L2.V.int _, _)] _ _); refine FS.i_dispI (by assumption) (by walk_at "updc") ?_; intro H' m)
  | ((with_reducible show FS.NewO (L2.HO.tup _) _ _); refine FS.i_newT (K := ‹PySem.W.Frag›) (by assumption) ?_; intro p P' H' m e h)
  | ((with_reducible show L2.rCatT _ _ _ _ _); refine FS.i_catT (by walk_at "sq") (by walk_at "sq") (by intro z; cases z) (by intro z; cases z) (by walk_at "len") ?_)
  | ((with_reducible show FS.MethAt _ _ _ _ _); refine FS.i_methAt (by assumption) (by walk_at "sel") rfl ?_)
  | ((with_reducible show FS.rLen _ _ _ _); first | refine FS.i_lenL (by walk_at "sq") ?_ | refine FS.i_lenT (by walk_at "sq") ?_)
  | ((with_reducible show FS.rListOf _ _ _ _); first | refine FS.i_listL (by walk_at "sq") ?_ | refine FS.i_listT (by walk_at "sq") ?_)
  | ((with_reducible show FS.rTupOf _ _ _ _); refine FS.i_tupL (by walk_at "sq") ?_)
  | ((with_reducible show L2.tyV _ _ _ _ ∧ _); refine FS.i_tyL (by walk_at "sq") ?_)
  | ((with_reducible show L2.rAppend _ _ _ _); refine FS.i_app (by assumption) (by walk_at "updc") (by walk_at "len") ?_; intro H' m)
  | with_reducible refine FS.i_someI ?_
  | with_reducible refine FS.i_m1 ?_
  | with_reducible refine FS.i_strI ?_
  | with_reducible refine FS.i_listRg ?_
  | with_reducible refine FS.i_inSg ?_
  | with_reducible refine FS.i_starts ?_
  | with_reducible refine FS.i_iStr ?_
  | ((with_reducible show FS.rAddS _ _ _ _); refine FS.i_addS (by walk_at "tlen") ?_)
  | ((with_reducible show FS.rLenStr _ _ _); refine FS.i_lenS (FS.sz_up (by walk_at "tlen")) ?_)
  | ((with_reducible show L2.rSlS _ _ _ _ _); refine FS.i_slS (by walk_at "tlen") ?_))
local macro_rules | `(tactic| walk_at "go") => `(tactic| repeat walk_at "go1")
local macro_rules | `(tactic| walk_at "ite") => `(tactic| first | refine FS.i_ndec ?_ ?_ | refine FS.i_dec ?_ ?_ | refine FS.i_ite ?_ ?_)
local macro_rules | `(tactic| walk_at "newL") => `(tactic| first
  | (refine FS.i_newL (K := ‹PySem.W.Frag›) (by assumption) ?_; intro p P' H' m e h)
  | (refine FS.i_newP (by assumption) ?_; intro p P' H' m e h))
local macro_rules | `(tactic| walk_at "newM") => `(tactic| (refine FS.i_newM (by assumption) ?_; intro p H' m))
local macro_rules | `(tactic| walk_at "neg1") => `(tactic| skip)

def top (i : Nat) : Stmt := PySem.Challenge.pw_farshelf_k26_voices.main.body.getD i (.Pass ⟨0, 0, 0, 0⟩)
abbrev s_wall : Stmt := top 0
abbrev N_wall : List Str := ["k"]
theorem sc_wall : FnScope ["k"] ["k"] (defScope s_wall) := ⟨rfl, rfl, rfl, by decide +kernel, rfl, by decide +kernel, by decide +kernel⟩
abbrev s_is_more : Stmt := top 2
abbrev N_is_more : List Str := ["some", "many"]
theorem sc_is_more : FnScope ["some", "many"] ["some", "many"] (defScope s_is_more) := ⟨rfl, rfl, rfl, by decide +kernel, rfl, by decide +kernel, by decide +kernel⟩
abbrev s_best_of : Stmt := top 3
abbrev N_best_of : List Str := ["voices", "greatest"]
theorem sc_best_of : FnScope ["voices", "greatest"] ["voices"] (defScope s_best_of) := ⟨rfl, rfl, rfl, by decide +kernel, rfl, by decide +kernel, by decide +kernel⟩
abbrev s_Master___init__ : Stmt := inClass (top 4) 0
abbrev N_Master___init__ : List Str := ["self", "number", "many"]
theorem sc_Master___init__ : FnScope ["self", "number", "many"] ["self", "number", "many"] (defScope s_Master___init__) := ⟨rfl, rfl, rfl, by decide +kernel, rfl, by decide +kernel, by decide +kernel⟩
abbrev s_Master_others : Stmt := inClass (top 4) 1
abbrev N_Master_others : List Str := ["self", "number"]
theorem sc_Master_others : FnScope ["self", "number"] ["self"] (defScope s_Master_others) := ⟨rfl, rfl, rfl, by decide +kernel, rfl, by decide +kernel, by decide +kernel⟩
abbrev s_Master_rise : Stmt := inClass (top 4) 2
abbrev N_Master_rise : List Str := ["self", "other"]
theorem sc_Master_rise : FnScope ["self", "other"] ["self"] (defScope s_Master_rise) := ⟨rfl, rfl, rfl, by decide +kernel, rfl, by decide +kernel, by decide +kernel⟩
abbrev s_Master_count_voices : Stmt := inClass (top 4) 3
abbrev N_Master_count_voices : List Str := ["self"]
theorem sc_Master_count_voices : FnScope ["self"] ["self"] (defScope s_Master_count_voices) := ⟨rfl, rfl, rfl, by decide +kernel, rfl, by decide +kernel, by decide +kernel⟩
abbrev s_Master_add : Stmt := inClass (top 4) 4
abbrev N_Master_add : List Str := ["self", "row"]
theorem sc_Master_add : FnScope ["self", "row"] ["self", "row"] (defScope s_Master_add) := ⟨rfl, rfl, rfl, by decide +kernel, rfl, by decide +kernel, by decide +kernel⟩
abbrev s_Master_send : Stmt := inClass (top 4) 5
abbrev N_Master_send : List Str := ["self", "rows", "other"]
theorem sc_Master_send : FnScope ["self", "rows", "other"] ["self"] (defScope s_Master_send) := ⟨rfl, rfl, rfl, by decide +kernel, rfl, by decide +kernel, by decide +kernel⟩
abbrev s_Master_fall : Stmt := inClass (top 4) 6
abbrev N_Master_fall : List Str := ["self"]
theorem sc_Master_fall : FnScope ["self"] ["self"] (defScope s_Master_fall) := ⟨rfl, rfl, rfl, by decide +kernel, rfl, by decide +kernel, by decide +kernel⟩
abbrev s_Master_count_sizes : Stmt := inClass (top 4) 7
abbrev N_Master_count_sizes : List Str := ["self", "sizes", "place", "size"]
theorem sc_Master_count_sizes : FnScope ["self", "sizes", "place", "size"] ["self"] (defScope s_Master_count_sizes) := ⟨rfl, rfl, rfl, by decide +kernel, rfl, by decide +kernel, by decide +kernel⟩
abbrev s_Master_hear : Stmt := inClass (top 4) 8
abbrev N_Master_hear : List Str := ["self", "message", "word", "sender", "term"]
theorem sc_Master_hear : FnScope ["self", "message", "word", "sender", "term"] ["self", "message"] (defScope s_Master_hear) := ⟨rfl, rfl, rfl, by decide +kernel, rfl, by decide +kernel, by decide +kernel⟩
abbrev s_Master_hear_keep : Stmt := inClass (top 4) 9
abbrev N_Master_hear_keep : List Str := ["self", "message", "term", "rows", "sure"]
theorem sc_Master_hear_keep : FnScope ["self", "message", "term", "rows", "sure"] ["self", "message"] (defScope s_Master_hear_keep) := ⟨rfl, rfl, rfl, by decide +kernel, rfl, by decide +kernel, by decide +kernel⟩
abbrev s_law_cell_at : Stmt := top 6
abbrev N_law_cell_at : List Str := ["_law_script", "_law_k"]
theorem sc_law_cell_at : FnScope ["_law_script", "_law_k"] ["_law_script", "_law_k"] (defScope s_law_cell_at) := ⟨rfl, rfl, rfl, by decide +kernel, rfl, by decide +kernel, by decide +kernel⟩
abbrev s_law_mix : Stmt := top 7
abbrev N_law_mix : List Str := ["_law_cell", "_law_k", "_law_m"]
theorem sc_law_mix : FnScope ["_law_cell", "_law_k", "_law_m"] ["_law_cell", "_law_k"] (defScope s_law_mix) := ⟨rfl, rfl, rfl, by decide +kernel, rfl, by decide +kernel, by decide +kernel⟩
abbrev s_law_rich : Stmt := top 8
abbrev N_law_rich : List Str := ["_law_cell", "_law_k", "_law_number", "_law_j"]
theorem sc_law_rich : FnScope ["_law_cell", "_law_k", "_law_number", "_law_j"] ["_law_cell", "_law_k"] (defScope s_law_rich) := ⟨rfl, rfl, rfl, by decide +kernel, rfl, by decide +kernel, by decide +kernel⟩
abbrev s_law_left : Stmt := top 9
abbrev N_law_left : List Str := ["_law_script", "_law_k", "_law_cell"]
theorem sc_law_left : FnScope ["_law_script", "_law_k", "_law_cell"] ["_law_script", "_law_k"] (defScope s_law_left) := ⟨rfl, rfl, rfl, by decide +kernel, rfl, by decide +kernel, by decide +kernel⟩
abbrev s_law_pick : Stmt := top 10
abbrev N_law_pick : List Str := ["_law_left_here", "_law_many", "_law_digit"]
theorem sc_law_pick : FnScope ["_law_left_here", "_law_many", "_law_digit"] ["_law_left_here", "_law_many"] (defScope s_law_pick) := ⟨rfl, rfl, rfl, by decide +kernel, rfl, by decide +kernel, by decide +kernel⟩
abbrev s_law_fields : Stmt := top 11
abbrev N_law_fields : List Str := ["_law_one"]
theorem sc_law_fields : FnScope ["_law_one"] ["_law_one"] (defScope s_law_fields) := ⟨rfl, rfl, rfl, by decide +kernel, rfl, by decide +kernel, by decide +kernel⟩
abbrev s_law_rows : Stmt := top 12
abbrev N_law_rows : List Str := ["_law_term", "_law_many", "_law_k"]
theorem sc_law_rows : FnScope ["_law_term", "_law_many", "_law_k"] ["_law_term", "_law_many"] (defScope s_law_rows) := ⟨rfl, rfl, rfl, by decide +kernel, rfl, by decide +kernel, by decide +kernel⟩
abbrev s_law_is_told : Stmt := top 13
abbrev N_law_is_told : List Str := ["_law_found", "_law_due", "_law_message", "_law_part"]
theorem sc_law_is_told : FnScope ["_law_found", "_law_due", "_law_message", "_law_part"] ["_law_found", "_law_due"] (defScope s_law_is_told) := ⟨rfl, rfl, rfl, by decide +kernel, rfl, by decide +kernel, by decide +kernel⟩
abbrev s_law_log_by : Stmt := top 14
abbrev N_law_log_by : List Str := ["_law_left_here", "_law_below", "_law_of"]
theorem sc_law_log_by : FnScope ["_law_left_here", "_law_below", "_law_of"] ["_law_left_here", "_law_below"] (defScope s_law_log_by) := ⟨rfl, rfl, rfl, by decide +kernel, rfl, by decide +kernel, by decide +kernel⟩
abbrev s_law_kept_log : Stmt := top 15
abbrev N_law_kept_log : List Str := ["_law_left_here", "_law_one", "_law_of", "_law_rows_here"]
theorem sc_law_kept_log : FnScope ["_law_left_here", "_law_one", "_law_of", "_law_rows_here"] ["_law_left_here", "_law_one"] (defScope s_law_kept_log) := ⟨rfl, rfl, rfl, by decide +kernel, rfl, by decide +kernel, by decide +kernel⟩
abbrev s_law_asked_for : Stmt := top 16
abbrev N_law_asked_for : List Str := ["_law_left_here", "_law_one", "_law_turn", "_law_term", "_law_due", "_law_ahead", "_law_sender", "_law_found"]
theorem sc_law_asked_for : FnScope ["_law_left_here", "_law_one", "_law_turn", "_law_term", "_law_due", "_law_ahead", "_law_sender", "_law_found"] ["_law_left_here", "_law_one"] (defScope s_law_asked_for) := ⟨rfl, rfl, rfl, by decide +kernel, rfl, by decide +kernel, by decide +kernel⟩
abbrev s_law_voiced : Stmt := top 17
abbrev N_law_voiced : List Str := ["_law_left_here", "_law_one", "_law_voices", "_law_turn", "_law_sender", "_law_term", "_law_of", "_law_rows_here", "_law_ahead", "_law_best"]
theorem sc_law_voiced : FnScope ["_law_left_here", "_law_one", "_law_voices", "_law_turn", "_law_sender", "_law_term", "_law_of", "_law_rows_here", "_law_ahead", "_law_best"] ["_law_left_here", "_law_one"] (defScope s_law_voiced) := ⟨rfl, rfl, rfl, by decide +kernel, rfl, by decide +kernel, by decide +kernel⟩
abbrev s_law : Stmt := top 18
abbrev N_law : List Str := ["_law_script", "_law_k", "_law_left_here", "_law_many", "_law_one", "_law_ahead"]
theorem sc_law : FnScope ["_law_script", "_law_k", "_law_left_here", "_law_many", "_law_one", "_law_ahead"] ["_law_script"] (defScope s_law) := ⟨rfl, rfl, rfl, by decide +kernel, rfl, by decide +kernel, by decide +kernel⟩
structure Txt (K : PySem.W.Frag) (mg : Str → Option Value) (a : Nat → Addr) (c : Nat → Addr) (fd : Nat → FuncData) (lp : Nat → Addr × Addr) : Prop where
  lam_best_of : (fd 2).code = .ref (lp 0).1
  lam_law_voiced : (fd 24).code = .ref (lp 1).1
  F0 : Fun K "_wall" "_wall" s_wall (a 0) (fd 0)
  b0 : Binds K (fd 0) ["k"] []
  m0 : mg "_wall" = some (.ref (a 0))
  F1 : Fun K "is_more" "is_more" s_is_more (a 1) (fd 1)
  b1 : Binds K (fd 1) ["some", "many"] []
  m1 : mg "is_more" = some (.ref (a 1))
  F2 : Fun K "best_of" "best_of" s_best_of (a 2) (fd 2)
  b2 : Binds K (fd 2) ["voices"] []
  m2 : mg "best_of" = some (.ref (a 2))
  F3 : Fun K "__init__" "Master.__init__" s_Master___init__ (a 3) (fd 3)
  b3 : Binds K (fd 3) ["self", "number", "many"] []
  F4 : Fun K "others" "Master.others" s_Master_others (a 4) (fd 4)
  b4 : Binds K (fd 4) ["self"] []
  me4 : Meth K (c 0) "others" (a 4)
  F5 : Fun K "rise" "Master.rise" s_Master_rise (a 5) (fd 5)
  b5 : Binds K (fd 5) ["self"] []
  me5 : Meth K (c 0) "rise" (a 5)
  F6 : Fun K "count_voices" "Master.count_voices" s_Master_count_voices (a 6) (fd 6)
  b6 : Binds K (fd 6) ["self"] []
  me6 : Meth K (c 0) "count_voices" (a 6)
  F7 : Fun K "add" "Master.add" s_Master_add (a 7) (fd 7)
  b7 : Binds K (fd 7) ["self", "row"] []
  me7 : Meth K (c 0) "add" (a 7)
  F8 : Fun K "send" "Master.send" s_Master_send (a 8) (fd 8)
  b8 : Binds K (fd 8) ["self"] []
  me8 : Meth K (c 0) "send" (a 8)
  F9 : Fun K "fall" "Master.fall" s_Master_fall (a 9) (fd 9)
  b9 : Binds K (fd 9) ["self"] []
  me9 : Meth K (c 0) "fall" (a 9)
  F10 : Fun K "count_sizes" "Master.count_sizes" s_Master_count_sizes (a 10) (fd 10)
  b10 : Binds K (fd 10) ["self"] []
  me10 : Meth K (c 0) "count_sizes" (a 10)
  F11 : Fun K "hear" "Master.hear" s_Master_hear (a 11) (fd 11)
  b11 : Binds K (fd 11) ["self", "message"] []
  me11 : Meth K (c 0) "hear" (a 11)
  F12 : Fun K "hear_keep" "Master.hear_keep" s_Master_hear_keep (a 12) (fd 12)
  b12 : Binds K (fd 12) ["self", "message"] []
  me12 : Meth K (c 0) "hear_keep" (a 12)
  F13 : Fun K "_law_cell_at" "_law_cell_at" s_law_cell_at (a 13) (fd 13)
  b13 : Binds K (fd 13) ["_law_script", "_law_k"] []
  m13 : mg "_law_cell_at" = some (.ref (a 13))
  F14 : Fun K "_law_mix" "_law_mix" s_law_mix (a 14) (fd 14)
  b14 : Binds K (fd 14) ["_law_cell", "_law_k"] []
  m14 : mg "_law_mix" = some (.ref (a 14))
  F15 : Fun K "_law_rich" "_law_rich" s_law_rich (a 15) (fd 15)
  b15 : Binds K (fd 15) ["_law_cell", "_law_k"] []
  m15 : mg "_law_rich" = some (.ref (a 15))
  F16 : Fun K "_law_left" "_law_left" s_law_left (a 16) (fd 16)
  b16 : Binds K (fd 16) ["_law_script", "_law_k"] []
  m16 : mg "_law_left" = some (.ref (a 16))
  F17 : Fun K "_law_pick" "_law_pick" s_law_pick (a 17) (fd 17)
  b17 : Binds K (fd 17) ["_law_left_here", "_law_many"] []
  m17 : mg "_law_pick" = some (.ref (a 17))
  F18 : Fun K "_law_fields" "_law_fields" s_law_fields (a 18) (fd 18)
  b18 : Binds K (fd 18) ["_law_one"] []
  m18 : mg "_law_fields" = some (.ref (a 18))
  F19 : Fun K "_law_rows" "_law_rows" s_law_rows (a 19) (fd 19)
  b19 : Binds K (fd 19) ["_law_term", "_law_many"] []
  m19 : mg "_law_rows" = some (.ref (a 19))
  F20 : Fun K "_law_is_told" "_law_is_told" s_law_is_told (a 20) (fd 20)
  b20 : Binds K (fd 20) ["_law_found", "_law_due"] []
  m20 : mg "_law_is_told" = some (.ref (a 20))
  F21 : Fun K "_law_log_by" "_law_log_by" s_law_log_by (a 21) (fd 21)
  b21 : Binds K (fd 21) ["_law_left_here", "_law_below"] []
  m21 : mg "_law_log_by" = some (.ref (a 21))
  F22 : Fun K "_law_kept_log" "_law_kept_log" s_law_kept_log (a 22) (fd 22)
  b22 : Binds K (fd 22) ["_law_left_here", "_law_one"] []
  m22 : mg "_law_kept_log" = some (.ref (a 22))
  F23 : Fun K "_law_asked_for" "_law_asked_for" s_law_asked_for (a 23) (fd 23)
  b23 : Binds K (fd 23) ["_law_left_here", "_law_one"] []
  m23 : mg "_law_asked_for" = some (.ref (a 23))
  F24 : Fun K "_law_voiced" "_law_voiced" s_law_voiced (a 24) (fd 24)
  b24 : Binds K (fd 24) ["_law_left_here", "_law_one"] []
  m24 : mg "_law_voiced" = some (.ref (a 24))
  F25 : Fun K "law" "law" s_law (a 25) (fd 25)
  b25 : Binds K (fd 25) ["_law_script"] []
  m25 : mg "law" = some (.ref (a 25))
  cl_Master : Cls K (c 0)
  M_Master : Mk K (c 0) (a 3)
  C_Master : mg "Master" = some (.ref (c 0))
  n_Master_number : NoAttr K (c 0) "number"
  n_Master_many : NoAttr K (c 0) "many"
  n_Master_term : NoAttr K (c 0) "term"
  n_Master_of : NoAttr K (c 0) "of"
  n_Master_log : NoAttr K (c 0) "log"
  n_Master_done : NoAttr K (c 0) "done"
  n_Master_role : NoAttr K (c 0) "role"
  n_Master_voices : NoAttr K (c 0) "voices"
  n_Master_sizes : NoAttr K (c 0) "sizes"
  g_max : mg "max" = none
  g_list : mg "list" = none
  g_len : mg "len" = none
  g_range : mg "range" = none
  g_tuple : mg "tuple" = none
  g_sorted : mg "sorted" = none
  g_enumerate : mg "enumerate" = none
  g_min : mg "min" = none
  g_isinstance : mg "isinstance" = none
  g_any : mg "any" = none
  g_all : mg "all" = none
  g_bool : mg "bool" = none
  g_int : mg "int" = none
  g_str : mg "str" = none
def fl_Master (x0 x1 x2 x3 x4 x5 x6 x7 x8 : V) : List (Str × V) := [("number", x0), ("many", x1), ("term", x2), ("of", x3), ("log", x4), ("done", x5), ("role", x6), ("voices", x7), ("sizes", x8)]
theorem pf_Master_number {x0 x1 x2 x3 x4 x5 x6 x7 x8 y : V} : putF ("number" : Str) y (fl_Master x0 x1 x2 x3 x4 x5 x6 x7 x8) = fl_Master y x1 x2 x3 x4 x5 x6 x7 x8 := rfl
theorem pi_Master_number {x0 : V} : putF ("number" : Str) x0 [] = [(("number" : Str), x0)] := rfl
theorem pf_Master_many {x0 x1 x2 x3 x4 x5 x6 x7 x8 y : V} : putF ("many" : Str) y (fl_Master x0 x1 x2 x3 x4 x5 x6 x7 x8) = fl_Master x0 y x2 x3 x4 x5 x6 x7 x8 := rfl
theorem pi_Master_many {x0 x1 : V} : putF ("many" : Str) x1 [(("number" : Str), x0)] = [(("number" : Str), x0), (("many" : Str), x1)] := rfl
theorem pf_Master_term {x0 x1 x2 x3 x4 x5 x6 x7 x8 y : V} : putF ("term" : Str) y (fl_Master x0 x1 x2 x3 x4 x5 x6 x7 x8) = fl_Master x0 x1 y x3 x4 x5 x6 x7 x8 := rfl
theorem pi_Master_term {x0 x1 x2 : V} : putF ("term" : Str) x2 [(("number" : Str), x0), (("many" : Str), x1)] = [(("number" : Str), x0), (("many" : Str), x1), (("term" : Str), x2)] := rfl
theorem pf_Master_of {x0 x1 x2 x3 x4 x5 x6 x7 x8 y : V} : putF ("of" : Str) y (fl_Master x0 x1 x2 x3 x4 x5 x6 x7 x8) = fl_Master x0 x1 x2 y x4 x5 x6 x7 x8 := rfl
theorem pi_Master_of {x0 x1 x2 x3 : V} : putF ("of" : Str) x3 [(("number" : Str), x0), (("many" : Str), x1), (("term" : Str), x2)] = [(("number" : Str), x0), (("many" : Str), x1), (("term" : Str), x2), (("of" : Str), x3)] := rfl
theorem pf_Master_log {x0 x1 x2 x3 x4 x5 x6 x7 x8 y : V} : putF ("log" : Str) y (fl_Master x0 x1 x2 x3 x4 x5 x6 x7 x8) = fl_Master x0 x1 x2 x3 y x5 x6 x7 x8 := rfl
theorem pi_Master_log {x0 x1 x2 x3 x4 : V} : putF ("log" : Str) x4 [(("number" : Str), x0), (("many" : Str), x1), (("term" : Str), x2), (("of" : Str), x3)] = [(("number" : Str), x0), (("many" : Str), x1), (("term" : Str), x2), (("of" : Str), x3), (("log" : Str), x4)] := rfl
theorem pf_Master_done {x0 x1 x2 x3 x4 x5 x6 x7 x8 y : V} : putF ("done" : Str) y (fl_Master x0 x1 x2 x3 x4 x5 x6 x7 x8) = fl_Master x0 x1 x2 x3 x4 y x6 x7 x8 := rfl
theorem pi_Master_done {x0 x1 x2 x3 x4 x5 : V} : putF ("done" : Str) x5 [(("number" : Str), x0), (("many" : Str), x1), (("term" : Str), x2), (("of" : Str), x3), (("log" : Str), x4)] = [(("number" : Str), x0), (("many" : Str), x1), (("term" : Str), x2), (("of" : Str), x3), (("log" : Str), x4), (("done" : Str), x5)] := rfl
theorem pf_Master_role {x0 x1 x2 x3 x4 x5 x6 x7 x8 y : V} : putF ("role" : Str) y (fl_Master x0 x1 x2 x3 x4 x5 x6 x7 x8) = fl_Master x0 x1 x2 x3 x4 x5 y x7 x8 := rfl
theorem pi_Master_role {x0 x1 x2 x3 x4 x5 x6 : V} : putF ("role" : Str) x6 [(("number" : Str), x0), (("many" : Str), x1), (("term" : Str), x2), (("of" : Str), x3), (("log" : Str), x4), (("done" : Str), x5)] = [(("number" : Str), x0), (("many" : Str), x1), (("term" : Str), x2), (("of" : Str), x3), (("log" : Str), x4), (("done" : Str), x5), (("role" : Str), x6)] := rfl
theorem pf_Master_voices {x0 x1 x2 x3 x4 x5 x6 x7 x8 y : V} : putF ("voices" : Str) y (fl_Master x0 x1 x2 x3 x4 x5 x6 x7 x8) = fl_Master x0 x1 x2 x3 x4 x5 x6 y x8 := rfl
theorem pi_Master_voices {x0 x1 x2 x3 x4 x5 x6 x7 : V} : putF ("voices" : Str) x7 [(("number" : Str), x0), (("many" : Str), x1), (("term" : Str), x2), (("of" : Str), x3), (("log" : Str), x4), (("done" : Str), x5), (("role" : Str), x6)] = [(("number" : Str), x0), (("many" : Str), x1), (("term" : Str), x2), (("of" : Str), x3), (("log" : Str), x4), (("done" : Str), x5), (("role" : Str), x6), (("voices" : Str), x7)] := rfl
theorem pf_Master_sizes {x0 x1 x2 x3 x4 x5 x6 x7 x8 y : V} : putF ("sizes" : Str) y (fl_Master x0 x1 x2 x3 x4 x5 x6 x7 x8) = fl_Master x0 x1 x2 x3 x4 x5 x6 x7 y := rfl
theorem pi_Master_sizes {x0 x1 x2 x3 x4 x5 x6 x7 x8 : V} : putF ("sizes" : Str) x8 [(("number" : Str), x0), (("many" : Str), x1), (("term" : Str), x2), (("of" : Str), x3), (("log" : Str), x4), (("done" : Str), x5), (("role" : Str), x6), (("voices" : Str), x7)] = fl_Master x0 x1 x2 x3 x4 x5 x6 x7 x8 := rfl
local macro_rules | `(tactic| walk_at "fld") => `(tactic| first
  | ((with_reducible show FS.FldAt _ ("number" : Str) _ _ _); refine FS.i_fldAt (by assumption) (by walk_at "sel") (‹Txt _ _ _ _ _ _›).cl_Master (‹Txt _ _ _ _ _ _›).n_Master_number rfl ?_)
  | ((with_reducible show FS.FldAt _ ("many" : Str) _ _ _); refine FS.i_fldAt (by assumption) (by walk_at "sel") (‹Txt _ _ _ _ _ _›).cl_Master (‹Txt _ _ _ _ _ _›).n_Master_many rfl ?_)
  | ((with_reducible show FS.FldAt _ ("term" : Str) _ _ _); refine FS.i_fldAt (by assumption) (by walk_at "sel") (‹Txt _ _ _ _ _ _›).cl_Master (‹Txt _ _ _ _ _ _›).n_Master_term rfl ?_)
  | ((with_reducible show FS.FldAt _ ("of" : Str) _ _ _); refine FS.i_fldAt (by assumption) (by walk_at "sel") (‹Txt _ _ _ _ _ _›).cl_Master (‹Txt _ _ _ _ _ _›).n_Master_of rfl ?_)
  | ((with_reducible show FS.FldAt _ ("log" : Str) _ _ _); refine FS.i_fldAt (by assumption) (by walk_at "sel") (‹Txt _ _ _ _ _ _›).cl_Master (‹Txt _ _ _ _ _ _›).n_Master_log rfl ?_)
  | ((with_reducible show FS.FldAt _ ("done" : Str) _ _ _); refine FS.i_fldAt (by assumption) (by walk_at "sel") (‹Txt _ _ _ _ _ _›).cl_Master (‹Txt _ _ _ _ _ _›).n_Master_done rfl ?_)
  | ((with_reducible show FS.FldAt _ ("role" : Str) _ _ _); refine FS.i_fldAt (by assumption) (by walk_at "sel") (‹Txt _ _ _ _ _ _›).cl_Master (‹Txt _ _ _ _ _ _›).n_Master_role rfl ?_)
  | ((with_reducible show FS.FldAt _ ("voices" : Str) _ _ _); refine FS.i_fldAt (by assumption) (by walk_at "sel") (‹Txt _ _ _ _ _ _›).cl_Master (‹Txt _ _ _ _ _ _›).n_Master_voices rfl ?_)
  | ((with_reducible show FS.FldAt _ ("sizes" : Str) _ _ _); refine FS.i_fldAt (by assumption) (by walk_at "sel") (‹Txt _ _ _ _ _ _›).cl_Master (‹Txt _ _ _ _ _ _›).n_Master_sizes rfl ?_))
local macro_rules | `(tactic| walk_at "fput") => `(tactic| first
  | ((with_reducible show FS.FldPut _ ("number" : Str) _ _ _ _); refine FS.i_fldPut (by assumption) (‹Txt _ _ _ _ _ _›).cl_Master (‹Txt _ _ _ _ _ _›).n_Master_number pf_Master_number (by walk_at "updc") (by show 9 < 1000; decide) ?_; intro H' m)
  | ((with_reducible show FS.FldPut _ ("number" : Str) _ _ _ _); refine FS.i_fldPut (by assumption) (‹Txt _ _ _ _ _ _›).cl_Master (‹Txt _ _ _ _ _ _›).n_Master_number pi_Master_number (by walk_at "updc") (by show 0 < 1000; decide) ?_; intro H' m)
  | ((with_reducible show FS.FldPut _ ("many" : Str) _ _ _ _); refine FS.i_fldPut (by assumption) (‹Txt _ _ _ _ _ _›).cl_Master (‹Txt _ _ _ _ _ _›).n_Master_many pf_Master_many (by walk_at "updc") (by show 9 < 1000; decide) ?_; intro H' m)
  | ((with_reducible show FS.FldPut _ ("many" : Str) _ _ _ _); refine FS.i_fldPut (by assumption) (‹Txt _ _ _ _ _ _›).cl_Master (‹Txt _ _ _ _ _ _›).n_Master_many pi_Master_many (by walk_at "updc") (by show 1 < 1000; decide) ?_; intro H' m)
  | ((with_reducible show FS.FldPut _ ("term" : Str) _ _ _ _); refine FS.i_fldPut (by assumption) (‹Txt _ _ _ _ _ _›).cl_Master (‹Txt _ _ _ _ _ _›).n_Master_term pf_Master_term (by walk_at "updc") (by show 9 < 1000; decide) ?_; intro H' m)
  | ((with_reducible show FS.FldPut _ ("term" : Str) _ _ _ _); refine FS.i_fldPut (by assumption) (‹Txt _ _ _ _ _ _›).cl_Master (‹Txt _ _ _ _ _ _›).n_Master_term pi_Master_term (by walk_at "updc") (by show 2 < 1000; decide) ?_; intro H' m)
  | ((with_reducible show FS.FldPut _ ("of" : Str) _ _ _ _); refine FS.i_fldPut (by assumption) (‹Txt _ _ _ _ _ _›).cl_Master (‹Txt _ _ _ _ _ _›).n_Master_of pf_Master_of (by walk_at "updc") (by show 9 < 1000; decide) ?_; intro H' m)
  | ((with_reducible show FS.FldPut _ ("of" : Str) _ _ _ _); refine FS.i_fldPut (by assumption) (‹Txt _ _ _ _ _ _›).cl_Master (‹Txt _ _ _ _ _ _›).n_Master_of pi_Master_of (by walk_at "updc") (by show 3 < 1000; decide) ?_; intro H' m)
  | ((with_reducible show FS.FldPut _ ("log" : Str) _ _ _ _); refine FS.i_fldPut (by assumption) (‹Txt _ _ _ _ _ _›).cl_Master (‹Txt _ _ _ _ _ _›).n_Master_log pf_Master_log (by walk_at "updc") (by show 9 < 1000; decide) ?_; intro H' m)
  | ((with_reducible show FS.FldPut _ ("log" : Str) _ _ _ _); refine FS.i_fldPut (by assumption) (‹Txt _ _ _ _ _ _›).cl_Master (‹Txt _ _ _ _ _ _›).n_Master_log pi_Master_log (by walk_at "updc") (by show 4 < 1000; decide) ?_; intro H' m)
  | ((with_reducible show FS.FldPut _ ("done" : Str) _ _ _ _); refine FS.i_fldPut (by assumption) (‹Txt _ _ _ _ _ _›).cl_Master (‹Txt _ _ _ _ _ _›).n_Master_done pf_Master_done (by walk_at "updc") (by show 9 < 1000; decide) ?_; intro H' m)
  | ((with_reducible show FS.FldPut _ ("done" : Str) _ _ _ _); refine FS.i_fldPut (by assumption) (‹Txt _ _ _ _ _ _›).cl_Master (‹Txt _ _ _ _ _ _›).n_Master_done pi_Master_done (by walk_at "updc") (by show 5 < 1000; decide) ?_; intro H' m)
  | ((with_reducible show FS.FldPut _ ("role" : Str) _ _ _ _); refine FS.i_fldPut (by assumption) (‹Txt _ _ _ _ _ _›).cl_Master (‹Txt _ _ _ _ _ _›).n_Master_role pf_Master_role (by walk_at "updc") (by show 9 < 1000; decide) ?_; intro H' m)
  | ((with_reducible show FS.FldPut _ ("role" : Str) _ _ _ _); refine FS.i_fldPut (by assumption) (‹Txt _ _ _ _ _ _›).cl_Master (‹Txt _ _ _ _ _ _›).n_Master_role pi_Master_role (by walk_at "updc") (by show 6 < 1000; decide) ?_; intro H' m)
  | ((with_reducible show FS.FldPut _ ("voices" : Str) _ _ _ _); refine FS.i_fldPut (by assumption) (‹Txt _ _ _ _ _ _›).cl_Master (‹Txt _ _ _ _ _ _›).n_Master_voices pf_Master_voices (by walk_at "updc") (by show 9 < 1000; decide) ?_; intro H' m)
  | ((with_reducible show FS.FldPut _ ("voices" : Str) _ _ _ _); refine FS.i_fldPut (by assumption) (‹Txt _ _ _ _ _ _›).cl_Master (‹Txt _ _ _ _ _ _›).n_Master_voices pi_Master_voices (by walk_at "updc") (by show 7 < 1000; decide) ?_; intro H' m)
  | ((with_reducible show FS.FldPut _ ("sizes" : Str) _ _ _ _); refine FS.i_fldPut (by assumption) (‹Txt _ _ _ _ _ _›).cl_Master (‹Txt _ _ _ _ _ _›).n_Master_sizes pf_Master_sizes (by walk_at "updc") (by show 9 < 1000; decide) ?_; intro H' m)
  | ((with_reducible show FS.FldPut _ ("sizes" : Str) _ _ _ _); refine FS.i_fldPut (by assumption) (‹Txt _ _ _ _ _ _›).cl_Master (‹Txt _ _ _ _ _ _›).n_Master_sizes pi_Master_sizes (by walk_at "updc") (by show 8 < 1000; decide) ?_; intro H' m))
local macro_rules | `(tactic| walk_at "faug") => `(tactic| first
  | ((with_reducible show FS.FldAug _ ("number" : Str) _ _ _); refine FS.i_fldAug (by assumption) (by walk_at "sel") (‹Txt _ _ _ _ _ _›).cl_Master (‹Txt _ _ _ _ _ _›).n_Master_number rfl ?_)
  | ((with_reducible show FS.FldAug _ ("many" : Str) _ _ _); refine FS.i_fldAug (by assumption) (by walk_at "sel") (‹Txt _ _ _ _ _ _›).cl_Master (‹Txt _ _ _ _ _ _›).n_Master_many rfl ?_)
  | ((with_reducible show FS.FldAug _ ("term" : Str) _ _ _); refine FS.i_fldAug (by assumption) (by walk_at "sel") (‹Txt _ _ _ _ _ _›).cl_Master (‹Txt _ _ _ _ _ _›).n_Master_term rfl ?_)
  | ((with_reducible show FS.FldAug _ ("of" : Str) _ _ _); refine FS.i_fldAug (by assumption) (by walk_at "sel") (‹Txt _ _ _ _ _ _›).cl_Master (‹Txt _ _ _ _ _ _›).n_Master_of rfl ?_)
  | ((with_reducible show FS.FldAug _ ("log" : Str) _ _ _); refine FS.i_fldAug (by assumption) (by walk_at "sel") (‹Txt _ _ _ _ _ _›).cl_Master (‹Txt _ _ _ _ _ _›).n_Master_log rfl ?_)
  | ((with_reducible show FS.FldAug _ ("done" : Str) _ _ _); refine FS.i_fldAug (by assumption) (by walk_at "sel") (‹Txt _ _ _ _ _ _›).cl_Master (‹Txt _ _ _ _ _ _›).n_Master_done rfl ?_)
  | ((with_reducible show FS.FldAug _ ("role" : Str) _ _ _); refine FS.i_fldAug (by assumption) (by walk_at "sel") (‹Txt _ _ _ _ _ _›).cl_Master (‹Txt _ _ _ _ _ _›).n_Master_role rfl ?_)
  | ((with_reducible show FS.FldAug _ ("voices" : Str) _ _ _); refine FS.i_fldAug (by assumption) (by walk_at "sel") (‹Txt _ _ _ _ _ _›).cl_Master (‹Txt _ _ _ _ _ _›).n_Master_voices rfl ?_)
  | ((with_reducible show FS.FldAug _ ("sizes" : Str) _ _ _); refine FS.i_fldAug (by assumption) (by walk_at "sel") (‹Txt _ _ _ _ _ _›).cl_Master (‹Txt _ _ _ _ _ _›).n_Master_sizes rfl ?_))
local macro_rules | `(tactic| walk_at "fback") => `(tactic| first
  | ((with_reducible show FS.FldBack _ _ ("number" : Str) _ _ _); refine FS.i_fldBack (by assumption) pf_Master_number (by walk_at "updc") (by show 9 < 1000; decide) ?_; intro H' m)
  | ((with_reducible show FS.FldBack _ _ ("many" : Str) _ _ _); refine FS.i_fldBack (by assumption) pf_Master_many (by walk_at "updc") (by show 9 < 1000; decide) ?_; intro H' m)
  | ((with_reducible show FS.FldBack _ _ ("term" : Str) _ _ _); refine FS.i_fldBack (by assumption) pf_Master_term (by walk_at "updc") (by show 9 < 1000; decide) ?_; intro H' m)
  | ((with_reducible show FS.FldBack _ _ ("of" : Str) _ _ _); refine FS.i_fldBack (by assumption) pf_Master_of (by walk_at "updc") (by show 9 < 1000; decide) ?_; intro H' m)
  | ((with_reducible show FS.FldBack _ _ ("log" : Str) _ _ _); refine FS.i_fldBack (by assumption) pf_Master_log (by walk_at "updc") (by show 9 < 1000; decide) ?_; intro H' m)
  | ((with_reducible show FS.FldBack _ _ ("done" : Str) _ _ _); refine FS.i_fldBack (by assumption) pf_Master_done (by walk_at "updc") (by show 9 < 1000; decide) ?_; intro H' m)
  | ((with_reducible show FS.FldBack _ _ ("role" : Str) _ _ _); refine FS.i_fldBack (by assumption) pf_Master_role (by walk_at "updc") (by show 9 < 1000; decide) ?_; intro H' m)
  | ((with_reducible show FS.FldBack _ _ ("voices" : Str) _ _ _); refine FS.i_fldBack (by assumption) pf_Master_voices (by walk_at "updc") (by show 9 < 1000; decide) ?_; intro H' m)
  | ((with_reducible show FS.FldBack _ _ ("sizes" : Str) _ _ _); refine FS.i_fldBack (by assumption) pf_Master_sizes (by walk_at "updc") (by show 9 < 1000; decide) ?_; intro H' m))
section
variable {P : Program} {w : World} {K : PySem.W.Frag} {mg : Str → Option Value} {base : Heap} {a c : Nat → Addr} {fd : Nat → FuncData} {lp : Nat → Addr × Addr}
/-- the numbers that draws are taken of: one list of one number or two -/
def Draw2 (o : HO) : Prop := ∃ x : Int, o = .lst [.int x] ∨ ∃ y : Int, o = .lst [.int x, .int y]
abbrev draw (st : Addr) : Ch := ptx st Draw2
def spCell (K : PySem.W.Frag) : Sp := fun vs H Q _ => ∃ (P : Hp) (cs : List Ch) (a : Addr) (ns : List Int) (k : Int), vs = [.ref a, .int k] ∧ SqL K P a (ns.map V.int) ∧ 0 ≤ k ∧ Mem P cs H ∧ ∀ z, Q (.int z) H
theorem ok_law_cell_at (T : Txt K mg a c fd lp) (B : ∀ i, i < 2 → TabB base mg (lp i).1 (lp i).2) : FnOk P w K mg base CX0 1 (a 13) (fd 13) ["_law_script", "_law_k"] (spCell K) := by
  refine T.F13.ok sc_law_cell_at (fun vs H Q E h => ?_) (fun cdv A outer s H vs Q E hr h => ?_)
  · obtain ⟨_, _, _, _, _, rfl, _⟩ := h; rfl
  · obtain ⟨P0, cs, ad, ns, k, rfl, hS, k0, m, q⟩ := h
    refine ⟨_, (pss_cons (ps_if (pt_cmpR op_lt (pv 1) (pe_callB (lenQ (K := K) rfl) (by rfl) T.g_len (by decide +kernel) (pa_cons (pv 0) pa_nil)) (nomark _)) (pss_one (ps_ret (pe_ix (ixL (K := K) rfl) (pv 0) (pv 1) (fun _ _ => rfl)))) pss_nil)
      (pss_one (ps_ret pe_int))), ?_⟩
    walk_at "go"
    walk_at "ite" <;> intro hc
    · walk_at "go"
      have hk : k.toNat < ns.length := by
        rw [List.length_map] at hc
        omega
      refine i_ixL (m.sqL hS (Ex.refl _)) (v := .int ns[k.toNat]) ?_ (q _)
      unfold atI ixN
      rw [if_pos k0, if_pos (by rw [List.length_map]; omega)]
      simp [hk]
    · walk_at "go"
      exact q 0
def spMix : Sp := fun vs H Q _ => ∃ (c k : Int), vs = [.int c, .int k] ∧ 0 ≤ k ∧ k ≤ 1000000 ∧ ∀ r, 0 ≤ r → Q (.int r) H
theorem ok_law_mix (T : Txt K mg a c fd lp) (B : ∀ i, i < 2 → TabB base mg (lp i).1 (lp i).2) : FnOk P w K mg base CX0 1 (a 14) (fd 14) ["_law_cell", "_law_k"] (spMix) := by
  refine T.F14.ok sc_law_mix (fun vs H Q E h => ?_) (fun cdv A outer s H vs Q E hr h => ?_)
  · obtain ⟨_, _, rfl, _⟩ := h; rfl
  · obtain ⟨cl, k, rfl, k0, k1, q⟩ := h
    have hm0 : 0 ≤ ((cl % 2147483629 + k * k * 7919 + 11) * 48271 % 2147483647) := Int.emod_nonneg _ (by decide)
    have hm1 : ((cl % 2147483629 + k * k * 7919 + 11) * 48271 % 2147483647) < 2147483647 := Int.emod_lt_of_pos _ (by decide)
    refine ⟨_, (pss_cons (ps_set (i := 2) sc_law_mix.nd rfl (Or.inl rfl) (pe_op op_mod (pe_op op_mul (pe_op op_add (pe_op op_add (pe_op op_mod (pv 0) pe_int) (pe_op op_mul (pe_op op_mul (pv 1) (pv 1)) pe_int)) pe_int) pe_int) pe_int))
      (pss_one (ps_ret (pe_op op_mod (pe_op op_mul (pv 2) (pv 2)) pe_int)))), ?_⟩
    walk_at "go"
    exact q _ (Int.emod_nonneg _ (by decide))
def spRich : Sp := fun vs H Q _ => ∃ (P : Hp) (cs : List Ch) (c k : Int), vs = [.int c, .int k] ∧ 0 ≤ k ∧ k ≤ 1000 ∧ Mem P cs H ∧ ∀ r H', Mem P cs H' → Q (.int r) H'
theorem ok_law_rich (T : Txt K mg a c fd lp) (B : ∀ i, i < 2 → TabB base mg (lp i).1 (lp i).2) : FnOk P w K mg base CX0 2 (a 15) (fd 15) ["_law_cell", "_law_k"] (spRich) := by
  refine T.F15.ok sc_law_rich (fun vs H Q E h => ?_) (fun cdv A outer s H vs Q E hr h => ?_)
  · obtain ⟨_, _, _, _, rfl, _⟩ := h; rfl
  · obtain ⟨P0, cs, cl, k, rfl, k0, k1, m, q⟩ := h
    have G_law_mix := ok_law_mix (P := P) (w := w) (base := base) T B
    refine ⟨_, (pss_cons (ps_set (i := 2) sc_law_rich.nd rfl (Or.inl rfl) pe_int)
      (pss_cons (ps_for PassesOwn.never rfl (pi_range1 rfl T.g_range (pa_cons pe_int pa_nil)) (pg_name (i := 3) sc_law_rich.nd rfl (Or.inl rfl))
      (pss_one (ps_set (i := 2) sc_law_rich.nd rfl (Or.inl rfl) (pe_op op_add (pe_op op_mul (pv 2) pe_int) (pe_call G_law_mix hr rfl T.m14 T.F14.kp T.b14 .nil pass0 (pa_cons (pe_call G_law_mix hr rfl T.m14 T.F14.kp T.b14 .nil pass0 (pa_cons (pv 0) (pa_cons (pe_op op_add (pv 1) (pe_op op_mul pe_int (pv 3))) pa_nil))) (pa_cons (pv 3) pa_nil)))))))
      (pss_one (ps_ret (pv 2))))), ?_⟩
    walk_at "go"
    refine l_range1 (by omega) (by omega) (fun i σ H' => Mem P0 cs H' ∧ ∃ (n : Int) (y : Option V), σ = [some (.int cl), some (.int k), some (.int n), y]) ⟨m, _, _, rfl⟩ ?_ ?_
    · rintro i σ H' hi ⟨m', n, y, rfl⟩
      walk_at "go"
      refine ⟨_, _, rfl, by omega, by omega, fun r r0 => ?_⟩
      walk_at "go"
      refine ⟨_, _, rfl, by omega, by omega, fun r2 r20 => ?_⟩
      walk_at "go"
      exact ⟨m', _, _, rfl⟩
    · rintro σ H' ⟨m', n, y, rfl⟩
      walk_at "go"
      exact q _ _ m'
def spLeft (K : PySem.W.Frag) : Sp := fun vs H Q _ => ∃ (P : Hp) (cs : List Ch) (a : Addr) (ns : List Int) (k : Int), vs = [.ref a, .int k] ∧ SqL K P a (ns.map V.int) ∧ 0 ≤ k ∧ k ≤ 1000 ∧ Mem P cs H ∧ ∀ st H', Mem P (draw st :: cs) H' → Q (.ref st) H'
theorem ok_law_left (T : Txt K mg a c fd lp) (B : ∀ i, i < 2 → TabB base mg (lp i).1 (lp i).2) : FnOk P w K mg base CX0 3 (a 16) (fd 16) ["_law_script", "_law_k"] (spLeft K) := by
  refine T.F16.ok sc_law_left (fun vs H Q E h => ?_) (fun cdv A outer s H vs Q E hr h => ?_)
  · obtain ⟨_, _, _, _, _, rfl, _⟩ := h; rfl
  · obtain ⟨P0, cs, ad, ns, k, rfl, hS, k0, k1, m, q⟩ := h
    have G_law_cell_at := ok_law_cell_at (P := P) (w := w) (base := base) T B
    have G_law_rich := ok_law_rich (P := P) (w := w) (base := base) T B
    refine ⟨_, (pss_cons (ps_set (i := 2) sc_law_left.nd rfl (Or.inl rfl) (pe_call G_law_cell_at (hr.mono (by decide)) rfl T.m13 T.F13.kp T.b13 .nil pass0 (pa_cons (pv 0) (pa_cons (pv 1) pa_nil))))
      (pss_cons (ps_if (pt_cmpR op_ge (pv 2) (pe_op op_pow pe_int pe_int) (nomark _)) (pss_one (ps_ret (pe_lst (pa_cons (pv 2) (pa_cons (pe_call G_law_rich hr rfl T.m15 T.F15.kp T.b15 .nil pass0 (pa_cons (pv 2) (pa_cons (pv 1) pa_nil))) pa_nil))))) pss_nil)
      (pss_one (ps_ret (pe_lst (pa_cons (pe_call G_law_rich hr rfl T.m15 T.F15.kp T.b15 .nil pass0 (pa_cons (pv 2) (pa_cons (pv 1) pa_nil))) pa_nil)))))), ?_⟩
    walk_at "go"
    refine ⟨P0, cs, ad, ns, k, rfl, hS, k0, m, fun z => ?_⟩
    walk_at "go"
    walk_at "ite" <;> intro hc
    · walk_at "go"
      refine ⟨P0, cs, _, _, rfl, k0, k1, m, fun r H1 m1 => ?_⟩
      walk_at "go"
      walk_at "newM"
      exact q _ _ (Mem.tox (by assumption) ⟨_, .inr ⟨_, rfl⟩⟩)
    · walk_at "go"
      refine ⟨P0, cs, _, _, rfl, k0, k1, m, fun r H1 m1 => ?_⟩
      walk_at "go"
      walk_at "newM"
      exact q _ _ (Mem.tox (by assumption) ⟨_, .inl rfl⟩)
def spPick : Sp := fun vs H Q _ => ∃ (P : Hp) (F : List Ch) (st : Addr) (many : Int), vs = [.ref st, .int many] ∧ 0 < many ∧ many < 2 ^ 100 ∧ Mem P (draw st :: F) H ∧ ∀ r H', 0 ≤ r → r < many → Mem P (draw st :: F) H' → Q (.int r) H'
theorem ok_law_pick (T : Txt K mg a c fd lp) (B : ∀ i, i < 2 → TabB base mg (lp i).1 (lp i).2) : FnOk P w K mg base CX0 1 (a 17) (fd 17) ["_law_left_here", "_law_many"] (spPick) := by
  refine T.F17.ok sc_law_pick (fun vs H Q E h => ?_) (fun cdv A outer s H vs Q E hr h => ?_)
  · obtain ⟨_, _, _, _, rfl, _⟩ := h; rfl
  · obtain ⟨P0, F, st, many, rfl, h0, h1, m, q⟩ := h
    obtain ⟨o, ⟨x, hx⟩, m⟩ := m.rdx
    have dw := fun i => (wide_div (i := i) (j := many) (b := 100) h0 (by omega) (by decide) (by decide))
    have r0 : ∀ i : Int, 0 ≤ i % many := fun i => Int.emod_nonneg _ (by omega)
    have r1 : ∀ i : Int, i % many < many := fun i => Int.emod_lt_of_pos _ h0
    refine ⟨_, (pss_cons (ps_if (PW.pt (pw_and (pt_cmpR op_eq (pe_ix (ixL (K := K) rfl) (pv 0) pe_int (fun _ _ => rfl)) pe_int (nomark _)) (pw_and1 (pt_cmpR op_gt (pe_callB (lenQ (K := K) rfl) (by rfl) T.g_len (by decide +kernel) (pa_cons (pv 0) pa_nil)) pe_int (nomark _))))) (pss_one (ps_asg (peM0 (K := K) rfl PySem.F.plainAttrs_list PySem.F.slot_list_pop PySem.F.type_list_pop mt_pop (pv 0)) (pg_sub (pv 0) pe_int set_list))) pss_nil)
      (pss_cons (ps_set (i := 2) sc_law_pick.nd rfl (Or.inl rfl) (pe_op op_mod (pe_ix (ixL (K := K) rfl) (pv 0) pe_int (fun _ _ => rfl)) (pv 1)))
      (pss_cons (ps_asg (pe_op op_fdivW (pe_ix (ixL (K := K) rfl) (pv 0) pe_int (fun _ _ => rfl)) (pv 1)) (pg_sub (pv 0) pe_int set_list))
      (pss_one (ps_ret (pv 2)))))), ?_⟩
    rcases hx with rfl | ⟨y, rfl⟩
    · walk_at "go"
      walk_at "ite" <;> intro hc
      · walk_at "go"
        walk_at "ite" <;> intro hd
        · simp at hd
        · walk_at "go"
          exact q _ _ (r0 _) (r1 _) (Mem.tox (by assumption) ⟨_, .inl rfl⟩)
      · walk_at "go"
        exact q _ _ (r0 _) (r1 _) (Mem.tox (by assumption) ⟨_, .inl rfl⟩)
    · walk_at "go"
      walk_at "ite" <;> intro hc
      · walk_at "go"
        walk_at "ite" <;> intro hd
        · walk_at "go"
          refine i_pop (ys := [.int x]) (by assumption) rfl (by walk_at "updc") ?_
          intro H' m
          walk_at "go"
          exact q _ _ (r0 _) (r1 _) (Mem.tox (by assumption) ⟨_, .inl rfl⟩)
        · walk_at "go"
          exact q _ _ (r0 _) (r1 _) (Mem.tox (by assumption) ⟨_, .inr ⟨_, rfl⟩⟩)
      · walk_at "go"
        exact q _ _ (r0 _) (r1 _) (Mem.tox (by assumption) ⟨_, .inr ⟨_, rfl⟩⟩)

/-! ### a master -/
structure Ma where
  nr : Int
  many : Int
  term : Int
  of : Int
  log : List PyData
  done : Int
  role : Str
  voices : List (Int × (Int × List PyData))
  sizes : List (Int × Int)
structure MaX where
  dx : Addr
  lg : Addr
  vo : Addr
  sz : Addr
  lv : List V
  vv : List (Key × V)
theorem dpLen {K : PySem.W.Frag} {P : Hp} : ∀ {vs : List V} {ds : List PyData}, DpAll K P vs ds → vs.length = ds.length
  | _, _, .nil => rfl
  | _, _, .cons _ t => congrArg (· + 1) (dpLen t)
theorem dpSnoc {K : PySem.W.Frag} {P : Hp} : ∀ {vs : List V} {ds : List PyData} {v : V} {d : PyData}, DpAll K P vs ds → Dp K P v d → DpAll K P (vs ++ [v]) (ds ++ [d])
  | _, _, _, _, .nil, h => .cons h .nil
  | _, _, _, _, .cons a t, h => .cons a (dpSnoc t h)
def VoR (K : PySem.W.Frag) (P : Hp) (v : V) (d : Int × List PyData) : Prop := ∃ (t r : Addr) (rows : List V), v = .ref t ∧ SqT K P t [.int d.1, .ref r] ∧ SqT K P r rows ∧ DpAll K P rows d.2
theorem VoR.up {K : PySem.W.Frag} {P P' : Hp} {v : V} {d : Int × List PyData} (e : Ex P P') (h : VoR K P v d) : VoR K P' v d := by
  obtain ⟨t, r, rows, h1, h2, h3, h4⟩ := h
  exact ⟨t, r, rows, h1, ex_t e h2, ex_t e h3, DpAll.up e h4⟩
theorem pmono {α β : Type} {F G : α → β → Prop} (h : ∀ x y, F x y → G x y) : ∀ {xs : List α} {ys : List β}, Paired F xs ys → Paired G xs ys
  | _, _, .nil => .nil
  | _, _, .cons a t => .cons (h _ _ a) (pmono h t)
theorem pget {α β : Type} {F : α → β → Prop} : ∀ {xs : List α} {ys : List β}, Paired F xs ys → ∀ {i : Nat} {x : α}, xs[i]? = some x → ∃ y, ys[i]? = some y ∧ F x y
  | _, _, .nil, i, x, h => by simp at h
  | _, _, .cons r t, 0, x, h => ⟨_, rfl, by
    have e := Option.some.inj (show some _ = some x from h)
    rw [← e]; exact r⟩
  | _, _, .cons r t, i + 1, x, h => pget t (i := i) (by simpa using h)
abbrev VosR (K : PySem.W.Frag) (P : Hp) : List (Key × V) → List (Int × (Int × List PyData)) → Prop := Paired fun p d => p.1 = Sum.inl d.1 ∧ VoR K P p.2 d.2
theorem VosR.up {K : PySem.W.Frag} {P P' : Hp} {vv : List (Key × V)} {ds : List (Int × (Int × List PyData))} (e : Ex P P') (h : VosR K P vv ds) : VosR K P' vv ds := pmono (fun _ _ z => ⟨z.1, z.2.up e⟩) h
def maFacts (K : PySem.W.Frag) (s : Ma) (x : MaX) (P : Hp) : Prop := DpAll K P x.lv s.log ∧ VosR K P x.vv s.voices
theorem maFacts.up {K : PySem.W.Frag} {s : Ma} {x : MaX} (P P' : Hp) (e : Ex P P') (h : maFacts K s x P) : maFacts K s x P' := ⟨DpAll.up e h.1, h.2.up e⟩
abbrev szV (zs : List (Int × Int)) : List (Key × V) := zs.map fun p => (Sum.inl p.1, V.int p.2)
abbrev maO (C : Addr) (s : Ma) (x : MaX) : HO := .ins C x.dx (fl_Master (.int s.nr) (.int s.many) (.int s.term) (.int s.of) (.ref x.lg) (.int s.done) (.str s.role) (.ref x.vo) (.ref x.sz))
def maP (K : PySem.W.Frag) (C a : Addr) (s : Ma) : Ch := exc fun x : MaX => sep [fct (maFacts K s x) maFacts.up, pt a (maO C s x), pt x.lg (.lst x.lv), pt x.vo (.dK x.vv), pt x.sz (.dK (szV s.sizes))]
theorem maOpen {K : PySem.W.Frag} {P H : Hp} {cs : List Ch} {C a : Addr} {s : Ma} (m : Mem P (maP K C a s :: cs) H) : ∃ x : MaX, maFacts K s x P ∧ Mem P (pt a (maO C s x) :: pt x.lg (.lst x.lv) :: pt x.vo (.dK x.vv) :: pt x.sz (.dK (szV s.sizes)) :: cs) H := by
  obtain ⟨x, m⟩ := m.exE
  obtain ⟨h, m⟩ := Mem.fctE m.open
  exact ⟨x, h, m⟩
theorem maClose {K : PySem.W.Frag} {P H : Hp} {cs : List Ch} {C a : Addr} {s : Ma} (x : MaX) (h : maFacts K s x P) (m : Mem P (pt a (maO C s x) :: pt x.lg (.lst x.lv) :: pt x.vo (.dK x.vv) :: pt x.sz (.dK (szV s.sizes)) :: cs) H) : Mem P (maP K C a s :: cs) H :=
  Mem.exI x (Mem.close (ds := [fct (maFacts K s x) maFacts.up, pt a (maO C s x), pt x.lg (.lst x.lv), pt x.vo (.dK x.vv), pt x.sz (.dK (szV s.sizes))]) (Mem.fctI h m))
theorem maPut {K : PySem.W.Frag} {P H : Hp} {cs r1 r2 r3 F : List Ch} {C a : Addr} {s : Ma} (x : MaX) (h : maFacts K s x P) (m : Mem P cs H) (q1 : Sel cs (pt x.sz (.dK (szV s.sizes))) r1) (q2 : Sel r1 (pt x.vo (.dK x.vv)) r2) (q3 : Sel r2 (pt x.lg (.lst x.lv)) r3) (q4 : Sel r3 (pt a (maO C s x)) F) : Mem P (maP K C a s :: F) H :=
  maClose x h ((((m.sel q1).sel (.s q2)).sel (.s (.s q3))).sel (.s (.s (.s q4))))
def Ma.new (n k : Int) : Ma := ⟨n, k, 0, 0, [], 0, "hears", [], []⟩
/-! the least the methods tell -/
def spNone : Sp := fun _ _ _ _ => False
def spIsMore : Sp := fun vs H Q _ => ∃ n m : Int, vs = [.int n, .int m] ∧ Q (.bl (decide (m < 2 * n))) H
theorem ok_is_more (T : Txt K mg a c fd lp) (B : ∀ i, i < 2 → TabB base mg (lp i).1 (lp i).2) : FnOk P w K mg base CX0 1 (a 1) (fd 1) ["some", "many"] (spIsMore) := by
  refine T.F1.ok sc_is_more (fun vs H Q E h => ?_) (fun cdv A outer s H vs Q E hr h => ?_)
  · obtain ⟨_, _, rfl, _⟩ := h; rfl
  · obtain ⟨n, mm, rfl, q⟩ := h
    refine ⟨_, (pss_one (ps_ret (pe_cmpR op_gt (pe_op op_mul pe_int (pv 0)) (pv 1) (nomark _)))), ?_⟩
    walk_at "go"
    exact q
def keyD (ds : List (Int × List PyData)) (i : Nat) : Int × Int := ((ds.getD i (0, [])).1, ((ds.getD i (0, [])).2.length : Int))
def bestL (ds : List (Int × List PyData)) : List PyData := (ds.getD (argBest (fun i j => ltII (keyD ds j) (keyD ds i)) (ds.length - 1)) (0, [])).2
abbrev QB : Str := "best_of.<locals>.<lambda>"
def spBest (K : PySem.W.Frag) (Pt : Addr) : Sp := fun vs H Q _ => ∃ (P : Hp) (F : List Ch) (l : Addr) (xs : List V) (ds : List (Int × List PyData)), vs = [.ref l] ∧ SqL K P l xs ∧ Paired (VoR K P) xs ds ∧ 0 < ds.length ∧ Mem P (tabP Pt QB :: F) H ∧
  ∀ D P' H' rv, Ex P P' → DpAll K P' rv (bestL ds) → Mem P' (pt D (.lst rv) :: tabP Pt QB :: F) H' → Q (.ref D) H'
theorem getD_of {α : Type} {l : List α} {i : Nat} {x d : α} (h : l[i]? = some x) : l.getD i d = x := by
  rw [List.getD_eq_getElem?_getD, h]; rfl
theorem ok_best_of (T : Txt K mg a c fd lp) (B : ∀ i, i < 2 → TabB base mg (lp i).1 (lp i).2) : FnOk P w K mg base CX0 1 (a 2) (fd 2) ["voices"] (spBest K (lp 0).2) := by
  refine fnC T.F2 T.lam_best_of sc_best_of (fun vs H Q E h => ?_) (fun cdv A outer s H vs Q E hcd hr h => ?_)
  · obtain ⟨_, _, _, _, _, rfl, _⟩ := h; rfl
  · obtain ⟨P0, F, l, xs, ds, rfl, hl, hv, hn, m, q⟩ := h
    have hlen : xs.length = ds.length := Paired.length hv
    refine ⟨_, (pss_cons (ps_set (i := 1) sc_best_of.nd rfl (Or.inl rfl) (maxPL (K := K) rfl hr (pv 0) (B 0 (by decide)) hcd rfl (by rfl) T.g_max T.g_len rfl ⟨rfl, rfl, rfl, by decide, by decide, rfl⟩ rfl (fun _ _ _ => rfl) (fun _ _ _ => rfl) (by decide) (fun _ _ _ _ => rfl)))
      (pss_one (ps_ret (pe_callTy (listOf (K := K) rfl) (by rfl) T.g_list (by decide +kernel) (pa_cons (pe_ix (ixT (K := K) rfl) (pv 1) pe_int (fun _ _ => rfl)) pa_nil))))), ?_⟩
    walk_at "go"
    refine i_maxAt (key := keyD ds) m hl (by omega) (fun i x hx => ?_) (fun P1 H1 x e1 m1 hx => ?_)
    · obtain ⟨d, hd, t, r, rows, h1, h2, h3, h4⟩ := pget hv hx
      have ek : keyD ds i = (d.1, (d.2.length : Int)) := by unfold keyD; rw [getD_of hd]
      rw [ek]
      exact ⟨t, r, rows, h1, h2, h3, by rw [dpLen h4]⟩
    · obtain ⟨d, hd, t, r, rows, rfl, h2, h3, h4⟩ := pget hv hx
      have h2 := ex_t e1 h2
      have h3 := ex_t e1 h3
      walk_at "go"
      walk_at "newM"
      rename_i D H2 m2
      refine q _ P1 H2 rows e1 ?_ m2
      have eb : bestL ds = d.2 := by
        unfold bestL
        rw [hlen] at hd
        rw [getD_of hd]
      rw [eb]
      exact DpAll.up e1 h4
def spInit (K : PySem.W.Frag) (C : Addr) : Sp := fun vs H Q _ => ∃ (P : Hp) (F : List Ch) (x dx : Addr) (n k : Int), vs = [.ref x, .int n, .int k] ∧ Mem P (pt x (.ins C dx []) :: F) H ∧ ∀ P' H', Ex P P' → Mem P' (maP K C x (Ma.new n k) :: F) H' → Q .non H'
theorem ok_Master___init__ (T : Txt K mg a c fd lp) (B : ∀ i, i < 2 → TabB base mg (lp i).1 (lp i).2) : FnOk P w K mg base CX0 1 (a 3) (fd 3) ["self", "number", "many"] (spInit K (c 0)) := by
  refine T.F3.ok sc_Master___init__ (fun vs H Q E h => ?_) (fun cdv A outer s H vs Q E hr h => ?_)
  · obtain ⟨_, _, _, _, _, _, rfl, _⟩ := h; rfl
  · obtain ⟨P0, F, x, dx, n, k, rfl, m, q⟩ := h
    refine ⟨_, (pss_cons (psF (K := K) rfl (pv 0) (pv 1) rfl)
      (pss_cons (psF (K := K) rfl (pv 0) (pv 2) rfl)
      (pss_cons (psF (K := K) rfl (pv 0) pe_int rfl)
      (pss_cons (psF (K := K) rfl (pv 0) pe_int rfl)
      (pss_cons (psF (K := K) rfl (pv 0) (pe_lst pa_nil) rfl)
      (pss_cons (psF (K := K) rfl (pv 0) pe_int rfl)
      (pss_cons (psF (K := K) rfl (pv 0) pe_str rfl)
      (pss_cons (psF (K := K) rfl (pv 0) pe_dnewK rfl)
      (pss_one (psF (K := K) rfl (pv 0) pe_dnewK rfl)))))))))), ?_⟩
    walk_at "go"
    walk_at "newM"
    rename_i lg H1 m1
    walk_at "go"
    walk_at "newM"
    rename_i vo H2 m2
    walk_at "go"
    walk_at "newM"
    rename_i sz H3 m3
    walk_at "go"
    rename_i H8 m8
    exact q P0 H8 (Ex.refl _) (maPut ⟨dx, lg, vo, sz, [], []⟩ ⟨.nil, .nil⟩ m8 (by walk_at "sel") (by walk_at "sel") (by walk_at "sel") (by walk_at "sel"))
def othersN (nr : Int) (i : Nat) : List Int := ((List.range i).map Int.ofNat).filter fun j => !decide (j = nr)
theorem othersN_succ (nr : Int) (i : Nat) : othersN nr (i + 1) = othersN nr i ++ if (i : Int) = nr then [] else [(i : Int)] := by
  unfold othersN
  rw [List.range_succ, List.map_append, List.filter_append]
  congr 1
  by_cases h : (i : Int) = nr
  · rw [if_pos h]; simp [h]
  · rw [if_neg h]; simp [h]
theorem othersN_len (nr : Int) (i : Nat) : (othersN nr i).length ≤ i := by
  unfold othersN
  exact Nat.le_trans (List.length_filter_le _ _) (by simp)
def spOthers (K : PySem.W.Frag) (C : Addr) : Sp := fun vs H Q _ => ∃ (P : Hp) (F : List Ch) (a : Addr) (s : Ma), vs = [.ref a] ∧ 0 ≤ s.many ∧ s.many ≤ 1000 ∧ Mem P (maP K C a s :: F) H ∧ ∀ l P' H', Ex P P' → SqL K P' l ((othersN s.nr s.many.toNat).map V.int) → Mem P' (maP K C a s :: F) H' → Q (.ref l) H'
theorem ok_Master_others (T : Txt K mg a c fd lp) (B : ∀ i, i < 2 → TabB base mg (lp i).1 (lp i).2) : FnOk P w K mg base CX0 1 (a 4) (fd 4) ["self"] (spOthers K (c 0)) := by
  refine T.F4.ok sc_Master_others (fun vs H Q E h => ?_) (fun cdv A outer s H vs Q E hr h => ?_)
  · obtain ⟨_, _, _, _, rfl, _⟩ := h; rfl
  · obtain ⟨P0, F, ad, s, rfl, h0, h1, m, q⟩ := h
    obtain ⟨x, hx, m⟩ := maOpen m
    refine ⟨_, (pss_one (ps_ret (pe_lc (own := [("number", 1)]) (by rfl) sc_Master_others.nd (pi_range1 rfl T.g_range (pa_cons (peF (K := K) rfl (pv 0) rfl) pa_nil)) (blkOk_by (own := [("number", 1)]) (N := N_Master_others) (sc := defScope s_Master_others) (by decide +kernel)) (fun _ _ _ _ _ => (pg_name (i := 1) sc_Master_others.nd rfl (Or.inl rfl))) (fun _ _ _ _ _ => (pts_one (pt_cmpR op_ne (pv 1) (peF (K := K) rfl (pv 0) rfl) (nomark _)))) (fun _ _ _ _ _ => (pv 1))))), ?_⟩
    walk_at "go"
    refine l_lcR (by omega) (by omega) m (fun i acc _ => acc = (othersN s.nr i).map V.int) rfl ?_ ?_
    · rintro i P1 H1 acc D hi e1 m1 rfl Kt Kf ht hf
      walk_at "go"
      refine ⟨rfl, ?_⟩
      walk_at "go"
      walk_at "ite" <;> intro hc
      · walk_at "go"
        refine ht _ P1 _ (Ex.refl _) m1 (by have := othersN_len s.nr i; simp; omega) ?_
        rw [othersN_succ, if_neg hc, List.map_append]; rfl
      · refine hf P1 _ (Ex.refl _) m1 ?_
        rw [othersN_succ, if_pos hc, List.append_nil]
    · rintro D P1 H1 acc e1 m1 rfl
      have f := m1.freeze
      exact q D _ H1 (e1.trans f.2) (SqL.of upd_same) (maPut x (maFacts.up _ _ (e1.trans f.2) hx) f.1 (by walk_at "sel") (by walk_at "sel") (by walk_at "sel") (by walk_at "sel"))
def Ma.count (s : Ma) : Ma := if s.many < 2 * (s.voices.length : Int) then { s with log := bestL (s.voices.map (·.2)), of := s.term, role := "leads", sizes := [] } else s
def spCount (K : PySem.W.Frag) (C Pt : Addr) : Sp := fun vs H Q _ => ∃ (P : Hp) (F : List Ch) (a : Addr) (s : Ma), vs = [.ref a] ∧ 0 < s.voices.length ∧ Mem P (maP K C a s :: tabP Pt QB :: F) H ∧ ∀ P' H', Ex P P' → Mem P' (maP K C a s.count :: tabP Pt QB :: F) H' → Q .non H'
theorem vosVals {K : PySem.W.Frag} {P : Hp} : ∀ {vv : List (Key × V)} {ds : List (Int × (Int × List PyData))}, VosR K P vv ds → Paired (VoR K P) (vv.map (·.2)) (ds.map (·.2))
  | _, _, .nil => .nil
  | _, _, .cons a t => .cons a.2 (vosVals t)
theorem ok_Master_count_voices (T : Txt K mg a c fd lp) (B : ∀ i, i < 2 → TabB base mg (lp i).1 (lp i).2) : FnOk P w K mg base CX0 2 (a 6) (fd 6) ["self"] (spCount K (c 0) (lp 0).2) := by
  refine T.F6.ok sc_Master_count_voices (fun vs H Q E h => ?_) (fun cdv A outer s H vs Q E hr h => ?_)
  · obtain ⟨_, _, _, _, rfl, _⟩ := h; rfl
  · obtain ⟨P0, F, ad, s, rfl, h0, m, q⟩ := h
    obtain ⟨x, hx, m⟩ := maOpen m
    have hlen : x.vv.length = s.voices.length := Paired.length hx.2
    have G_is_more := ok_is_more (P := P) (w := w) (base := base) T B
    have G_best_of := ok_best_of (P := P) (w := w) (base := base) T B
    refine ⟨_, (pss_one (ps_if (pt_val (pe_call G_is_more hr rfl T.m1 T.F1.kp T.b1 .nil pass0 (pa_cons (pe_callB lenD (by rfl) T.g_len (by decide +kernel) (pa_cons (peF (K := K) rfl (pv 0) rfl) pa_nil)) (pa_cons (peF (K := K) rfl (pv 0) rfl) pa_nil)))) (pss_cons (psF (K := K) rfl (pv 0) (pe_call G_best_of hr rfl T.m2 T.F2.kp T.b2 .nil pass0 (pa_cons (pe_listVals rfl (peF (K := K) rfl (pv 0) rfl) (by rfl) T.g_list) pa_nil)) rfl)
      (pss_cons (psF (K := K) rfl (pv 0) (peF (K := K) rfl (pv 0) rfl) rfl)
      (pss_cons (psF (K := K) rfl (pv 0) pe_str rfl)
      (pss_one (psF (K := K) rfl (pv 0) pe_dnewK rfl))))) pss_nil)), ?_⟩
    walk_at "go"
    refine ⟨_, _, rfl, ?_⟩
    walk_at "go"
    walk_at "ite" <;> intro hc
    · walk_at "go"
      walk_at "newL"
      rename_i l P1 H1 m1 e1 hl
      walk_at "go"
      refine ⟨P1, _, l, _, s.voices.map (·.2), rfl, hl, vosVals (hx.2.up e1), by rw [List.length_map]; exact h0, m1.sel (c := tabP (lp 0).2 QB) (by walk_at "sel"), fun D P2 H2 rv e2 hr m2 => ?_⟩
      walk_at "go"
      walk_at "newM"
      rename_i sz H4 m4
      walk_at "go"
      rename_i H3 m3
      have hs : s.count = { s with log := bestL (s.voices.map (·.2)), of := s.term, role := "leads", sizes := [] } := by
        unfold Ma.count
        rw [if_pos (by rw [← hlen]; exact hc)]
      rw [hs] at q
      have m3 := (m3.gone (c := pt x.lg (.lst x.lv)) (by walk_at "sel")).gone (c := pt x.sz (.dK (szV s.sizes))) (by walk_at "sel")
      exact q P2 H3 (e1.trans e2) (maPut ⟨x.dx, D, x.vo, sz, rv, x.vv⟩ ⟨hr, hx.2.up (e1.trans e2)⟩ m3 (by walk_at "sel") (by walk_at "sel") (by walk_at "sel") (by walk_at "sel"))
    · have hs : s.count = s := by
        unfold Ma.count
        rw [if_neg (by rw [← hlen]; exact hc)]
      rw [hs] at q
      walk_at "go"
      exact q P0 _ (Ex.refl _) (maClose x hx m)
def riseT (nr many term : Int) : Int := term + 1 + (nr - (term + 1)) % many
theorem riseT_mod {nr many term : Int} (h0 : 0 ≤ nr) (h1 : nr < many) : riseT nr many term % many = nr := by
  unfold riseT
  rw [Int.add_emod, Int.emod_emod_of_dvd _ (Int.dvd_refl _), ← Int.add_emod, show term + 1 + (nr - (term + 1)) = nr by omega, Int.emod_eq_of_lt h0 h1]
theorem riseT_eq {nr many term t : Int} (h0 : 0 ≤ nr) (h1 : nr < many) (a : term + 1 ≤ t) (b : t ≤ riseT nr many term) (e : t % many = nr) : t = riseT nr many term := by
  have hm : 0 < many := by omega
  have z : (riseT nr many term - t) % many = 0 := by
    rw [Int.sub_emod, riseT_mod h0 h1, e, Int.sub_self, Int.zero_emod]
  have w : riseT nr many term - t < many := by
    have := Int.emod_lt_of_pos (nr - (term + 1)) hm
    unfold riseT
    omega
  rw [Int.emod_eq_of_lt (by omega) w] at z
  omega
theorem riseT_ge {nr many term : Int} (hm : 0 < many) : term + 1 ≤ riseT nr many term := by
  have := Int.emod_nonneg (nr - (term + 1)) (show many ≠ 0 by omega)
  unfold riseT
  omega
def Ma.risen (s : Ma) : Ma := Ma.count { s with term := riseT s.nr s.many s.term, role := "stands", voices := [(s.nr, (s.of, s.log))] }
def standD (s : Ma) (o : Int) : PyData := .tuple [.str "stand", .int s.nr, .int o, .int s.term]
def standM (s : Ma) : List PyData := (othersN s.nr s.many.toNat).map (standD s)
structure Ma.ok (s : Ma) : Prop where
  nr0 : 0 ≤ s.nr
  nrm : s.nr < s.many
  many : s.many ≤ 1000
theorem Ma.count_nr (s : Ma) : s.count.nr = s.nr := by unfold Ma.count; split <;> rfl
theorem Ma.count_many (s : Ma) : s.count.many = s.many := by unfold Ma.count; split <;> rfl
theorem Ma.ok.count {s : Ma} (h : s.ok) : s.count.ok := ⟨by rw [s.count_nr]; exact h.nr0, by rw [s.count_nr, s.count_many]; exact h.nrm, by rw [s.count_many]; exact h.many⟩
theorem Ma.ok.risen {s : Ma} (h : s.ok) : s.risen.ok := Ma.ok.count (s := { s with term := riseT s.nr s.many s.term, role := "stands", voices := [(s.nr, (s.of, s.log))] }) ⟨h.nr0, h.nrm, h.many⟩
def spRise (K : PySem.W.Frag) (C Pt : Addr) : Sp := fun vs H Q _ => ∃ (P : Hp) (F : List Ch) (a : Addr) (s : Ma), vs = [.ref a] ∧ s.ok ∧ Mem P (maP K C a s :: tabP Pt QB :: F) H ∧
  ∀ D P' H' ms, Ex P P' → DpAll K P' ms (standM s.risen) → Mem P' (pt D (.lst ms) :: maP K C a s.risen :: tabP Pt QB :: F) H' → Q (.ref D) H'
theorem ok_Master_rise (T : Txt K mg a c fd lp) (B : ∀ i, i < 2 → TabB base mg (lp i).1 (lp i).2) : FnOk P w K mg base CX0 3 (a 5) (fd 5) ["self"] (spRise K (c 0) (lp 0).2) := by
  refine T.F5.ok sc_Master_rise (fun vs H Q E h => ?_) (fun cdv A outer s H vs Q E hr h => ?_)
  · obtain ⟨_, _, _, _, rfl, _⟩ := h; rfl
  · obtain ⟨P0, F, ad, s, rfl, hok, m, q⟩ := h
    obtain ⟨x, hx, m⟩ := maOpen m
    obtain ⟨h0, h1, h2⟩ := id hok
    have G_Master_count_voices := ok_Master_count_voices (P := P) (w := w) (base := base) T B
    have G_Master_others := ok_Master_others (P := P) (w := w) (base := base) T B
    refine ⟨_, (pss_cons (psFA (K := K) rfl (pv 0) pe_int in_add)
      (pss_cons (ps_while PassesOwn.never (pt_cmpR op_ne (pe_op op_mod (peF (K := K) rfl (pv 0) rfl) (peF (K := K) rfl (pv 0) rfl)) (peF (K := K) rfl (pv 0) rfl) (nomark _))
      (pss_one (psFA (K := K) rfl (pv 0) pe_int in_add)))
      (pss_cons (psF (K := K) rfl (pv 0) pe_str rfl)
      (pss_cons (psF (K := K) rfl (pv 0) (pe_disp (pps_cons (peF (K := K) rfl (pv 0) rfl) (pe_tup (pa_cons (peF (K := K) rfl (pv 0) rfl) (pa_cons (pe_callTy (tupOf (K := K) rfl) (by rfl) T.g_tuple (by decide +kernel) (pa_cons (peF (K := K) rfl (pv 0) rfl) pa_nil)) pa_nil))) pps_nil) rfl rfl (fun z => nomatch z) (by decide)) rfl)
      (pss_cons (ps_expr (pe_meth0 (pv 0) T.cl_Master T.me6 G_Master_count_voices hr T.b6 .nil pass0))
      (pss_one (ps_ret (pe_lc (own := [("other", 1)]) (tt := tYes) (by rfl) sc_Master_rise.nd (piL (K := K) rfl (pe_meth0 (pv 0) T.cl_Master T.me4 G_Master_others (hr.mono (by decide)) T.b4 .nil pass0)) (blkOk_by (own := [("other", 1)]) (N := N_Master_rise) (sc := defScope s_Master_rise) (by decide +kernel)) (fun _ _ _ _ _ => (pg_name (i := 1) sc_Master_rise.nd rfl (Or.inl rfl))) (fun _ _ _ _ _ => pts_nil) (fun _ _ _ _ _ => (pe_tup (pa_cons pe_str (pa_cons (peF (K := K) rfl (pv 0) rfl) (pa_cons (pv 1) (pa_cons (peF (K := K) rfl (pv 0) rfl) pa_nil)))))))))))))), ?_⟩
    walk_at "go"
    rename_i H1 m1
    have rg := riseT_ge (nr := s.nr) (term := s.term) (many := s.many) (by omega)
    refine ⟨fun k σ H' => ∃ t : Int, k = (riseT s.nr s.many s.term - t).toNat ∧ s.term + 1 ≤ t ∧ t ≤ riseT s.nr s.many s.term ∧ Mem P0 (pt ad (maO (c 0) { s with term := t } x) :: pt x.lg (.lst x.lv) :: pt x.vo (.dK x.vv) :: pt x.sz (.dK (szV s.sizes)) :: tabP (lp 0).2 QB :: F) H' ∧ σ = [some (.ref ad), none], ⟨_, _, rfl, Int.le_refl _, rg, m1, rfl⟩, ?_⟩
    rintro k σ H2 ⟨t, rfl, t0, t1, m2, rfl⟩
    walk_at "go"
    walk_at "ite" <;> intro hc
    · have ne : t ≠ riseT s.nr s.many s.term := fun z => hc (by rw [z]; exact riseT_mod h0 h1)
      refine ⟨_, fun σ' H' z => z, ?_⟩
      walk_at "go"
      rename_i H3 m3
      exact ⟨_, by omega, t + 1, rfl, by omega, by omega, m3, rfl⟩
    · have et := riseT_eq h0 h1 t0 t1 hc
      subst et
      walk_at "go"
      rename_i vo Ha ma r P1 Hb mb e1 hr1 t P2 Hc mc e2 ht Hd md He me
      have e12 := e1.trans e2
      refine ⟨P2, F, ad, { s with term := riseT s.nr s.many s.term, role := "stands", voices := [(s.nr, (s.of, s.log))] }, rfl, by show 0 < 1; decide,
        maPut ⟨x.dx, x.lg, vo, x.sz, x.lv, [(Sum.inl s.nr, .ref t)]⟩ ⟨DpAll.up e12 hx.1, .cons ⟨rfl, t, r, x.lv, rfl, ht, ex_t e2 hr1, DpAll.up e12 hx.1⟩ .nil⟩ (me.gone (c := pt x.vo (.dK x.vv)) (by walk_at "sel")) (by walk_at "sel") (by walk_at "sel") (by walk_at "sel") (by walk_at "sel"),
        fun P3 H3 e3 m3 => ?_⟩
      have m3 : Mem P3 (maP K (c 0) ad s.risen :: tabP (lp 0).2 QB :: F) H3 := m3
      have kr := hok.risen
      obtain ⟨y3, hy3, mo⟩ := maOpen m3
      walk_at "go"
      refine ⟨P3, _, ad, s.risen, rfl, Int.le_of_lt (Int.lt_of_le_of_lt kr.nr0 kr.nrm), kr.many, m3, fun l P4 H4 e4 hl m4 => ?_⟩
      obtain ⟨y, hy, m4⟩ := maOpen m4
      refine l_lc (K := K) (xs := (othersN s.risen.nr s.risen.many.toNat).map V.int) m4 (fun P' H' c' e' mm => ex_l (e'.trans mm.ex) hl) (fun i acc P' => DpAll K P' acc (((othersN s.risen.nr s.risen.many.toNat).take i).map (standD s.risen))) .nil ?_ ?_
      · rintro i z P5 H5 acc D hz e5 m5 hacc Kt Kf hKt hKf
        rw [List.getElem?_map] at hz
        obtain ⟨o, ho, rfl⟩ := Option.map_eq_some_iff.mp hz
        walk_at "go"
        refine ⟨rfl, ?_⟩
        walk_at "go"
        rename_i p P6 H6 m6 e6 hp
        have hlen := dpLen hacc
        have hil : i < (othersN s.risen.nr s.risen.many.toNat).length := (List.getElem?_eq_some_iff.mp ho).1
        have hol := othersN_len s.risen.nr s.risen.many.toNat
        have := kr.many
        refine hKt _ P6 _ e6 m6 ?_ ?_
        · rw [hlen, List.length_map, List.length_take]; omega
        · rw [List.take_add_one, ho, List.map_append]
          exact dpSnoc (DpAll.up e6 hacc) (.tup hp (.cons (.str _) (.cons (.int _) (.cons (.int _) (.cons (.int _) .nil)))))
      · rintro D P5 H5 acc e5 m5 hacc
        rw [List.length_map, List.take_length] at hacc
        exact q D P5 H5 acc (e12.trans (e3.trans (e4.trans e5))) hacc ((maPut y (maFacts.up _ _ e5 hy) m5 (by walk_at "sel") (by walk_at "sel") (by walk_at "sel") (by walk_at "sel")).sel (.s .z))

/-! ### how much is written -/
def sortD (ns : List Int) : List Int := ns.mergeSort fun a b => decide (b ≤ a)
theorem sortD_eq {ns ms : List Int} (hp : ms.Perm ns) (hs : ms.Pairwise (· ≥ ·)) : ms = sortD ns := by
  have h1 : (sortD ns).Pairwise fun a b => decide (b ≤ a) = true := List.pairwise_mergeSort (fun a b c h1 h2 => by simp at *; omega) (fun a b => by simp; omega) ns
  have h2 : (sortD ns).Perm ns := List.mergeSort_perm ns _
  refine (hp.trans h2.symm).eq_of_pairwise (le := fun a b => b ≤ a) (fun a b _ _ h1 h2 => Int.le_antisymm h2 h1) hs ?_
  exact h1.imp (by simp)
def Ma.sizeL (s : Ma) : List Int := s.sizes.map (·.2) ++ [(s.log.length : Int)]
/-- the size at the place with which more than half are told -/
def Ma.sized (s : Ma) : Ma := match (sortD s.sizeL)[(s.many / 2).toNat]? with
  | some z => { s with done := if z > s.done then z else s.done }
  | none => s
def spSizes (K : PySem.W.Frag) (C : Addr) : Sp := fun vs H Q _ => ∃ (P : Hp) (F : List Ch) (a : Addr) (s : Ma), vs = [.ref a] ∧ 0 ≤ s.many ∧ s.sizes.length ≤ 10000 ∧ s.log.length ≤ 90000 ∧ Mem P (maP K C a s :: F) H ∧
  ∀ P' H', Ex P P' → Mem P' (maP K C a s.sized :: F) H' → Q .non H'
theorem ok_Master_count_sizes (T : Txt K mg a c fd lp) (B : ∀ i, i < 2 → TabB base mg (lp i).1 (lp i).2) : FnOk P w K mg base CX0 2 (a 10) (fd 10) ["self"] (spSizes K (c 0)) := by
  refine T.F10.ok sc_Master_count_sizes (fun vs H Q E h => ?_) (fun cdv A outer s H vs Q E hr h => ?_)
  · obtain ⟨_, _, _, _, rfl, _⟩ := h; rfl
  · obtain ⟨P0, F, ad, s, rfl, hm0, hz1, hz2, m, q⟩ := h
    obtain ⟨x, hx, mo⟩ := maOpen m
    have hlv := dpLen hx.1
    have hsv : (szV s.sizes).map (·.2) = (s.sizes.map (·.2)).map V.int := by rw [List.map_map, List.map_map]; rfl
    have G_is_more := ok_is_more (P := P) (w := w) (base := base) T B
    refine ⟨_, (pss_cons (ps_set (i := 1) sc_Master_count_sizes.nd rfl (Or.inl rfl) (sortedRev (K := K) rfl (by rfl) T.g_sorted (pe_op (catL (K := K) rfl) (pe_listVals rfl (peF (K := K) rfl (pv 0) rfl) (by rfl) T.g_list) (pe_lst (pa_cons (pe_callB (lenQ (K := K) rfl) (by rfl) T.g_len (by decide +kernel) (pa_cons (peF (K := K) rfl (pv 0) rfl) pa_nil)) pa_nil)))))
      (pss_one (ps_for PassesOwn.never rfl (piE (K := K) rfl (by rfl) T.g_enumerate (pa_cons (pv 1) pa_nil)) (pgT (K := K) rfl rfl (pgs_cons (pg_name (i := 2) sc_Master_count_sizes.nd rfl (Or.inl rfl)) (pgs_cons (pg_name (i := 3) sc_Master_count_sizes.nd rfl (Or.inl rfl)) pgs_nil)))
      (pss_one (ps_if (pt_val (pe_call G_is_more hr rfl T.m1 T.F1.kp T.b1 .nil pass0 (pa_cons (pe_op op_add (pv 2) pe_int) (pa_cons (peF (K := K) rfl (pv 0) rfl) pa_nil)))) (pss_cons (psF (K := K) rfl (pv 0) (pe_callB (mx2 rfl) (by rfl) T.g_max (by decide +kernel) (pa_cons (peF (K := K) rfl (pv 0) rfl) (pa_cons (pv 3) pa_nil))) rfl)
      (pss_one ps_retN)) pss_nil))))), ?_⟩
    walk_at "go"
    walk_at "newM"
    rename_i D1 H1 m1
    walk_at "go"
    walk_at "newM"
    rename_i D2 H2 m2
    rw [hsv] at m2
    have hl1 : ((s.sizes.map (·.2)).map V.int).length + 1 ≤ 100000 := by simp; omega
    walk_at "go"
    walk_at "newL"
    rename_i l P1 H3 m3 e1 hl
    have hl : SqL K P1 l (s.sizeL.map V.int) := by
      have e : s.sizeL.map V.int = (s.sizes.map (·.2)).map V.int ++ [.int x.lv.length] := by
        unfold Ma.sizeL
        rw [List.map_append, hlv]; rfl
      rw [e]; exact hl
    refine i_sortRAt (sqL_up hl m3.ex) (fun ns' hp ho => ?_)
    obtain rfl := sortD_eq hp ho
    walk_at "newL"
    rename_i l2 P2 H4 m4 e2 hl2
    have m4 := (m4.gone (c := pt D2 _) (by walk_at "sel")).gone (c := pt D1 _) (by walk_at "sel")
    walk_at "go"
    refine l_enum (K := K) (sqL_up hl2 m4.ex) (fun i σ H' => (∃ P', Ex P2 P' ∧ Mem P' _ H') ∧ 2 * (i : Int) ≤ s.many ∧ ∃ x1 x2, σ = [some (.ref ad), some (.ref l2), x1, x2])
      ⟨⟨P2, Ex.refl _, m4⟩, by omega, _, _, rfl⟩ (fun i σ H' _ ⟨⟨P', e', m'⟩, _⟩ => sqL_up hl2 (e'.trans m'.ex)) ?_ ?_
    · rintro i z σ H5 Tp hz ⟨⟨P5, e5, m5⟩, hi, x1, x2, rfl⟩ hT
      rw [List.getElem?_map] at hz
      obtain ⟨sz, hsz, rfl⟩ := Option.map_eq_some_iff.mp hz
      obtain ⟨P6, m6, e6, hT6⟩ := Mem.enum (K := K) (xs := [.int (i : Int), .int sz]) m5 hT
      walk_at "go"
      refine ⟨_, _, rfl, ?_⟩
      walk_at "go"
      walk_at "ite" <;> intro hc
      · walk_at "go"
        rename_i H7 m7
        have hs : s.sized = { s with done := if sz > s.done then sz else s.done } := by
          unfold Ma.sized
          rw [show (s.many / 2).toNat = i by omega, hsz]
        rw [hs] at q
        have ep := ((e1.trans e2).trans e5).trans e6
        exact q P6 H7 ep (maPut (s := { s with done := if sz > s.done then sz else s.done }) x (maFacts.up _ _ ep hx) m7 (by walk_at "sel") (by walk_at "sel") (by walk_at "sel") (by walk_at "sel"))
      · walk_at "go"
        exact ⟨⟨P6, e5.trans e6, m6⟩, by omega, _, _, rfl⟩
    · rintro σ H5 ⟨⟨P5, e5, m5⟩, hi, x1, x2, rfl⟩
      rw [List.length_map] at hi
      have hs : s.sized = s := by
        unfold Ma.sized
        rw [List.getElem?_eq_none (by omega)]
      rw [hs] at q
      have ep := (e1.trans e2).trans e5
      exact q P5 H5 ep (maPut (s := s) x (maFacts.up _ _ ep hx) m5 (by walk_at "sel") (by walk_at "sel") (by walk_at "sel") (by walk_at "sel"))
theorem Ma.sized_eq (s : Ma) : ∃ d, s.sized = { s with done := d } := by
  unfold Ma.sized
  split
  · exact ⟨_, rfl⟩
  · exact ⟨s.done, rfl⟩
/-! ### what a master hears -/
inductive Msg where
  | stand (sender to term : Int)
  | voice (sender to term of : Int) (rows : List PyData)
  | keep (sender to term : Int) (rows : List PyData) (sure : Int)
  | kept (sender to term size : Int)
def MsgR (K : PySem.W.Frag) (P : Hp) (t : Addr) : Msg → Prop
  | .stand s o e => SqT K P t [.str "stand", .int s, .int o, .int e]
  | .voice s o e f rows => ∃ (r : Addr) (rv : List V), SqT K P t [.str "voice", .int s, .int o, .int e, .int f, .ref r] ∧ SqT K P r rv ∧ DpAll K P rv rows
  | .keep s o e rows sure => ∃ (r : Addr) (rv : List V), SqT K P t [.str "keep", .int s, .int o, .int e, .ref r, .int sure] ∧ SqT K P r rv ∧ DpAll K P rv rows
  | .kept s o e z => SqT K P t [.str "kept", .int s, .int o, .int e, .int z]
def dset {α : Type} (l : List (Int × α)) (k : Int) (v : α) : List (Int × α) := if l.any (fun p => decide (p.1 = k)) = true then l.map (fun p => if p.1 = k then (p.1, v) else p) else l ++ [(k, v)]
def dgetO {α : Type} (l : List (Int × α)) (k : Int) : Option α := (l.find? fun p => decide (p.1 = k)).map (·.2)
def Ma.keeps (s : Ma) (term : Int) (rows : List PyData) (sure : Int) : Ma :=
  let u : Ma := if s.of < term ∨ s.log.length < rows.length then { s with term := term, role := "hears", log := rows, of := term } else { s with term := term, role := "hears" }
  let z : Int := if (u.log.length : Int) < sure then (u.log.length : Int) else sure
  { u with done := if z > u.done then z else u.done }
def keptM (s : Ma) (sender term : Int) : List PyData := [.tuple [.str "kept", .int s.nr, .int sender, .int term, .int s.log.length]]
def spKeep (K : PySem.W.Frag) (C : Addr) : Sp := fun vs H Q _ => ∃ (P : Hp) (F : List Ch) (a t : Addr) (s : Ma) (sender to term : Int) (rows : List PyData) (sure : Int), vs = [.ref a, .ref t] ∧ MsgR K P t (.keep sender to term rows sure) ∧ Mem P (maP K C a s :: F) H ∧
  ∀ D P' H' ms, Ex P P' → DpAll K P' ms (keptM (s.keeps term rows sure) sender term) → Mem P' (pt D (.lst ms) :: maP K C a (s.keeps term rows sure) :: F) H' → Q (.ref D) H'
theorem ok_Master_hear_keep (T : Txt K mg a c fd lp) (B : ∀ i, i < 2 → TabB base mg (lp i).1 (lp i).2) : FnOk P w K mg base CX0 1 (a 12) (fd 12) ["self", "message"] (spKeep K (c 0)) := by
  refine T.F12.ok sc_Master_hear_keep (fun vs H Q E h => ?_) (fun cdv A outer s H vs Q E hr h => ?_)
  · obtain ⟨_, _, _, _, _, _, _, _, _, _, rfl, _⟩ := h; rfl
  · obtain ⟨P0, F, ad, t, s, sender, to, term, rows, sure, rfl, ⟨r, rv, ht, hr1, hrv⟩, m, q⟩ := h
    obtain ⟨x, hx, mo⟩ := maOpen m
    have hlv := dpLen hx.1
    have hrl := dpLen hrv
    refine ⟨_, (pss_cons (ps_asg (pe_slice (slT (K := K) rfl) (pv 1) (po_some pe_int) po_none) (pgT (K := K) rfl rfl (pgs_cons (pg_name (i := 2) sc_Master_hear_keep.nd rfl (Or.inl rfl)) (pgs_cons (pg_name (i := 3) sc_Master_hear_keep.nd rfl (Or.inl rfl)) (pgs_cons (pg_name (i := 4) sc_Master_hear_keep.nd rfl (Or.inl rfl)) pgs_nil)))))
      (pss_cons (psF (K := K) rfl (pv 0) (pv 2) rfl)
      (pss_cons (psF (K := K) rfl (pv 0) pe_str rfl)
      (pss_cons (ps_if (PW.pt (pw_or (pt_cmpR op_lt (peF (K := K) rfl (pv 0) rfl) (pv 2) (nomark _)) (pw_or1 (pt_cmpR op_gt (pe_callB (lenQ (K := K) rfl) (by rfl) T.g_len (by decide +kernel) (pa_cons (pv 3) pa_nil)) (pe_callB (lenQ (K := K) rfl) (by rfl) T.g_len (by decide +kernel) (pa_cons (peF (K := K) rfl (pv 0) rfl) pa_nil)) (nomark _))))) (pss_cons (psF (K := K) rfl (pv 0) (pe_callTy (listOf (K := K) rfl) (by rfl) T.g_list (by decide +kernel) (pa_cons (pv 3) pa_nil)) rfl)
      (pss_one (psF (K := K) rfl (pv 0) (pv 2) rfl))) pss_nil)
      (pss_cons (psF (K := K) rfl (pv 0) (pe_callB (mx2 rfl) (by rfl) T.g_max (by decide +kernel) (pa_cons (peF (K := K) rfl (pv 0) rfl) (pa_cons (pe_callB (mn2 rfl) (by rfl) T.g_min (by decide +kernel) (pa_cons (pv 4) (pa_cons (pe_callB (lenQ (K := K) rfl) (by rfl) T.g_len (by decide +kernel) (pa_cons (peF (K := K) rfl (pv 0) rfl) pa_nil)) pa_nil))) pa_nil))) rfl)
      (pss_one (ps_ret (pe_lst (pa_cons (pe_tup (pa_cons pe_str (pa_cons (peF (K := K) rfl (pv 0) rfl) (pa_cons (pe_ix (ixT (K := K) rfl) (pv 1) pe_int (fun _ _ => rfl)) (pa_cons (pv 2) (pa_cons (pe_callB (lenQ (K := K) rfl) (by rfl) T.g_len (by decide +kernel) (pa_cons (peF (K := K) rfl (pv 0) rfl) pa_nil)) pa_nil)))))) pa_nil))))))))), ?_⟩
    walk_at "go"
    refine i_slT (ys := [.int term, .ref r, .int sure]) (by walk_at "sq") (by simp [HT.sIx]) rfl ?_
    refine i_newT (K := K) mo fun sl P1 Ha ma e1 hsl => ?_
    have hx := maFacts.up _ _ e1 hx
    have hrv := DpAll.up e1 hrv
    walk_at "go"
    walk_at "ite" <;> intro hc
    · walk_at "go"
      walk_at "newM"
      rename_i l2 H2 m2
      walk_at "go"
      rename_i Hd md pk P3 H3 m3 e3 hp3
      walk_at "newM"
      rename_i D H4 m4
      rw [hrl] at m4 hp3
      have hs : s.keeps term rows sure = { s with term := term, role := "hears", log := rows, of := term, done := if (if (rows.length : Int) < sure then (rows.length : Int) else sure) > s.done then (if (rows.length : Int) < sure then (rows.length : Int) else sure) else s.done } := by
        unfold Ma.keeps
        rw [if_pos (.inl hc)]
      rw [hs] at q
      have m5 := m4.gone (c := pt x.lg (.lst x.lv)) (by walk_at "sel")
      exact q D P3 H4 [.ref pk] (e1.trans e3) (.cons (.tup hp3 (.cons (.str _) (.cons (.int _) (.cons (.int _) (.cons (.int _) (.cons (.int _) .nil)))))) .nil)
        ((maPut (s := { s with term := term, role := "hears", log := rows, of := term, done := if (if (rows.length : Int) < sure then (rows.length : Int) else sure) > s.done then (if (rows.length : Int) < sure then (rows.length : Int) else sure) else s.done }) ⟨x.dx, l2, x.vo, x.sz, rv, x.vv⟩ ⟨DpAll.up e3 hrv, hx.2.up e3⟩ m5 (by walk_at "sel") (by walk_at "sel") (by walk_at "sel") (by walk_at "sel")).sel (.s .z))
    · walk_at "go"
      walk_at "ite" <;> intro hd
      · walk_at "go"
        walk_at "newM"
        rename_i l2 H2 m2
        walk_at "go"
        rename_i Hd md pk P3 H3 m3 e3 hp3
        walk_at "newM"
        rename_i D H4 m4
        rw [hrl] at m4 hp3
        have hs : s.keeps term rows sure = { s with term := term, role := "hears", log := rows, of := term, done := if (if (rows.length : Int) < sure then (rows.length : Int) else sure) > s.done then (if (rows.length : Int) < sure then (rows.length : Int) else sure) else s.done } := by
          unfold Ma.keeps
          rw [if_pos (.inr (by omega))]
        rw [hs] at q
        have m5 := m4.gone (c := pt x.lg (.lst x.lv)) (by walk_at "sel")
        exact q D P3 H4 [.ref pk] (e1.trans e3) (.cons (.tup hp3 (.cons (.str _) (.cons (.int _) (.cons (.int _) (.cons (.int _) (.cons (.int _) .nil)))))) .nil)
          ((maPut (s := { s with term := term, role := "hears", log := rows, of := term, done := if (if (rows.length : Int) < sure then (rows.length : Int) else sure) > s.done then (if (rows.length : Int) < sure then (rows.length : Int) else sure) else s.done }) ⟨x.dx, l2, x.vo, x.sz, rv, x.vv⟩ ⟨DpAll.up e3 hrv, hx.2.up e3⟩ m5 (by walk_at "sel") (by walk_at "sel") (by walk_at "sel") (by walk_at "sel")).sel (.s .z))
      · walk_at "go"
        rename_i Hd md pk P3 H3 m3 e3 hp3
        walk_at "newM"
        rename_i D H4 m4
        rw [hlv] at m4 hp3
        have hs : s.keeps term rows sure = { s with term := term, role := "hears", done := if (if (s.log.length : Int) < sure then (s.log.length : Int) else sure) > s.done then (if (s.log.length : Int) < sure then (s.log.length : Int) else sure) else s.done } := by
          unfold Ma.keeps
          rw [if_neg (by rintro (z | z); exact hc z; omega)]
        rw [hs] at q
        exact q D P3 H4 [.ref pk] (e1.trans e3) (.cons (.tup hp3 (.cons (.str _) (.cons (.int _) (.cons (.int _) (.cons (.int _) (.cons (.int _) .nil)))))) .nil)
          ((maPut (s := { s with term := term, role := "hears", done := if (if (s.log.length : Int) < sure then (s.log.length : Int) else sure) > s.done then (if (s.log.length : Int) < sure then (s.log.length : Int) else sure) else s.done }) x (maFacts.up _ _ e3 hx) m4 (by walk_at "sel") (by walk_at "sel") (by walk_at "sel") (by walk_at "sel")).sel (.s .z))
theorem vosPut {K : PySem.W.Frag} {P : Hp} {vv : List (Key × V)} {ds : List (Int × (Int × List PyData))} {k : Int} {v : V} {d : Int × List PyData} (h : VosR K P vv ds) (hv : VoR K P v d) : VosR K P (putK vv (Sum.inl k) v) (dset ds k d) := by
  have ea : (vv.any fun kv => decide (kv.1 = Sum.inl k)) = ds.any fun p => decide (p.1 = k) := by
    induction h with
    | nil => rfl
    | cons a t ih => rw [List.any_cons, List.any_cons, ih, a.1]; simp
  unfold putK dset
  rw [ea]
  split
  · rename_i hh
    clear ea hh
    induction h with
    | nil => exact .nil
    | @cons p q ps qs a t ih =>
      rw [List.map_cons, List.map_cons]
      refine .cons ?_ ih
      by_cases e : q.1 = k
      · rw [if_pos (by rw [a.1, e]), if_pos e]; exact ⟨a.1, hv⟩
      · rw [if_neg (by rw [a.1]; intro z; exact e (Sum.inl.inj z)), if_neg e]; exact a
  · exact Paired.snoc h ⟨rfl, hv⟩
theorem szPut (zs : List (Int × Int)) (k z : Int) : putK (szV zs) (Sum.inl k) (.int z) = szV (dset zs k z) := by
  have ea : ((szV zs).any fun kv => decide (kv.1 = Sum.inl k)) = zs.any fun p => decide (p.1 = k) := by
    induction zs with
    | nil => rfl
    | cons a t ih => rw [szV, List.map_cons, List.any_cons, List.any_cons, ← szV, ih]; simp
  unfold putK dset
  rw [ea]
  split
  · rw [szV, szV, List.map_map, List.map_map]
    refine List.map_congr_left fun p _ => ?_
    by_cases e : p.1 = k
    · simp [e]
    · simp [e]
  · rw [szV, szV, List.map_append]; rfl
theorem szGet (zs : List (Int × Int)) (k : Int) : (valV (szV zs) (Sum.inl k)).getD (.int 0) = .int ((dgetO zs k).getD 0) := by
  unfold valV dgetO
  induction zs with
  | nil => rfl
  | cons a t ih =>
    rw [szV, List.map_cons, List.find?_cons, List.find?_cons]
    by_cases e : a.1 = k
    · simp [e]
    · simp only [Sum.inl.injEq, e, decide_false]
      exact ih
theorem dset_len {α : Type} (l : List (Int × α)) (k : Int) (v : α) : (dset l k v).length ≤ l.length + 1 ∧ 0 < (dset l k v).length := by
  unfold dset
  split
  · rename_i h
    rw [List.length_map]
    refine ⟨Nat.le_succ _, ?_⟩
    cases l with
    | nil => simp at h
    | cons _ _ => exact Nat.succ_pos _
  · rw [List.length_append]
    exact ⟨Nat.le_refl _, by simp⟩
def Ma.heard (s : Ma) : Msg → Ma × List PyData
  | .stand sd _ e => if s.term < e then ({ s with term := e, role := "hears" }, [.tuple [.str "voice", .int s.nr, .int sd, .int e, .int s.of, .tuple s.log]]) else (s, [])
  | .voice sd _ e f rows => if s.role = "stands" ∧ e = s.term then (Ma.count { s with voices := dset s.voices sd (f, rows) }, []) else (s, [])
  | .keep sd _ e rows sure => if s.term ≤ e then (s.keeps e rows sure, keptM (s.keeps e rows sure) sd e) else (s, [])
  | .kept sd _ e z => if s.role = "leads" ∧ e = s.term then (Ma.sized { s with sizes := dset s.sizes sd (if z > (dgetO s.sizes sd).getD 0 then z else (dgetO s.sizes sd).getD 0) }, []) else (s, [])
structure Ma.small (s : Ma) : Prop where
  ok : s.ok
  vo : s.voices.length ≤ 9000
  sz : s.sizes.length ≤ 9000
  lg : s.log.length ≤ 80000
def spHear (K : PySem.W.Frag) (C Pt : Addr) : Sp := fun vs H Q _ => ∃ (P : Hp) (F : List Ch) (a t : Addr) (s : Ma) (g : Msg), vs = [.ref a, .ref t] ∧ s.small ∧ MsgR K P t g ∧ Mem P (maP K C a s :: tabP Pt QB :: F) H ∧
  ∀ D P' H' ms, Ex P P' → DpAll K P' ms (s.heard g).2 → Mem P' (pt D (.lst ms) :: maP K C a (s.heard g).1 :: tabP Pt QB :: F) H' → Q (.ref D) H'
theorem ok_Master_hear (T : Txt K mg a c fd lp) (B : ∀ i, i < 2 → TabB base mg (lp i).1 (lp i).2) : FnOk P w K mg base CX0 3 (a 11) (fd 11) ["self", "message"] (spHear K (c 0) (lp 0).2) := by
  refine T.F11.ok sc_Master_hear (fun vs H Q E h => ?_) (fun cdv A outer s H vs Q E hr h => ?_)
  · obtain ⟨_, _, _, _, _, _, rfl, _⟩ := h; rfl
  · obtain ⟨P0, F, ad, t, s, g, rfl, hs, hg, m, q⟩ := h
    obtain ⟨x, hx, mo⟩ := maOpen m
    have hvl : x.vv.length ≤ 9000 := by rw [Paired.length hx.2]; exact hs.vo
    have hzl : (szV s.sizes).length ≤ 9000 := by rw [List.length_map]; exact hs.sz
    have G_Master_count_voices := ok_Master_count_voices (P := P) (w := w) (base := base) T B
    have G_Master_hear_keep := ok_Master_hear_keep (P := P) (w := w) (base := base) T B
    have G_Master_count_sizes := ok_Master_count_sizes (P := P) (w := w) (base := base) T B
    refine ⟨_, (pss_cons (ps_set (i := 2) sc_Master_hear.nd rfl (Or.inl rfl) (pe_ix (ixT (K := K) rfl) (pv 1) pe_int (fun _ _ => rfl)))
      (pss_cons (ps_set (i := 3) sc_Master_hear.nd rfl (Or.inl rfl) (pe_ix (ixT (K := K) rfl) (pv 1) pe_int (fun _ _ => rfl)))
      (pss_cons (ps_set (i := 4) sc_Master_hear.nd rfl (Or.inl rfl) (pe_ix (ixT (K := K) rfl) (pv 1) pe_int (fun _ _ => rfl)))
      (pss_cons (ps_if (PW.pt (pw_and (pt_cmpR op_eq (pv 2) pe_str (nomark _)) (pw_and1 (pt_cmpR op_gt (pv 4) (peF (K := K) rfl (pv 0) rfl) (nomark _))))) (pss_cons (psF (K := K) rfl (pv 0) (pv 4) rfl)
      (pss_cons (psF (K := K) rfl (pv 0) pe_str rfl)
      (pss_one (ps_ret (pe_lst (pa_cons (pe_tup (pa_cons pe_str (pa_cons (peF (K := K) rfl (pv 0) rfl) (pa_cons (pv 3) (pa_cons (pv 4) (pa_cons (peF (K := K) rfl (pv 0) rfl) (pa_cons (pe_callTy (tupOf (K := K) rfl) (by rfl) T.g_tuple (by decide +kernel) (pa_cons (peF (K := K) rfl (pv 0) rfl) pa_nil)) pa_nil))))))) pa_nil)))))) pss_nil)
      (pss_cons (ps_if (PW.pt (pw_and (pt_cmpR op_eq (pv 2) pe_str (nomark _)) (pw_and (pt_cmpR op_eq (peF (K := K) rfl (pv 0) rfl) pe_str (nomark _)) (pw_and1 (pt_cmpR op_eq (pv 4) (peF (K := K) rfl (pv 0) rfl) (nomark _)))))) (pss_cons (ps_dput (hu_of hr) (peF (K := K) rfl (pv 0) rfl) (pv 3) (pe_tup (pa_cons (pe_ix (ixT (K := K) rfl) (pv 1) pe_int (fun _ _ => rfl)) (pa_cons (pe_ix (ixT (K := K) rfl) (pv 1) pe_int (fun _ _ => rfl)) pa_nil))) rfl)
      (pss_one (ps_expr (pe_meth0 (pv 0) T.cl_Master T.me6 G_Master_count_voices hr T.b6 .nil pass0)))) pss_nil)
      (pss_cons (ps_if (PW.pt (pw_and (pt_cmpR op_eq (pv 2) pe_str (nomark _)) (pw_and1 (pt_cmpR op_ge (pv 4) (peF (K := K) rfl (pv 0) rfl) (nomark _))))) (pss_one (ps_ret (pe_meth (pv 0) T.cl_Master T.me12 G_Master_hear_keep (hr.mono (by decide)) T.b12 .nil pass0 (pa_cons (pv 1) pa_nil)))) pss_nil)
      (pss_cons (ps_if (PW.pt (pw_and (pt_cmpR op_eq (pv 2) pe_str (nomark _)) (pw_and (pt_cmpR op_eq (peF (K := K) rfl (pv 0) rfl) pe_str (nomark _)) (pw_and1 (pt_cmpR op_eq (pv 4) (peF (K := K) rfl (pv 0) rfl) (nomark _)))))) (pss_cons (ps_dput (hu_of hr) (peF (K := K) rfl (pv 0) rfl) (pv 3) (pe_callB (mx2 rfl) (by rfl) T.g_max (by decide +kernel) (pa_cons (pe_dget2 (hu_of hr) (peF (K := K) rfl (pv 0) rfl) (pv 3) pe_int ⟨rfl, rfl, rfl, rfl⟩) (pa_cons (pe_ix (ixT (K := K) rfl) (pv 1) pe_int (fun _ _ => rfl)) pa_nil))) rfl)
      (pss_one (ps_expr (pe_meth0 (pv 0) T.cl_Master T.me10 G_Master_count_sizes hr T.b10 .nil pass0)))) pss_nil)
      (pss_one (ps_ret (pe_lst pa_nil)))))))))), ?_⟩
    cases g with
    | stand sd to e =>
      have hg : SqT K P0 t [.str "stand", .int sd, .int to, .int e] := hg
      walk_at "go"
      walk_at "ite" <;> intro hc
      · walk_at "go"
        rename_i r P1 Ha ma e0 hr1 l P2 H1 m1 e1 hl
        have e2 := e0.trans e1
        walk_at "newM"
        rename_i D H2 m2
        have hh : s.heard (.stand sd to e) = ({ s with term := e, role := "hears" }, [.tuple [.str "voice", .int s.nr, .int sd, .int e, .int s.of, .tuple s.log]]) := if_pos hc
        rw [hh] at q
        exact q D P2 H2 [.ref l] e2 (.cons (.tup hl (.cons (.str _) (.cons (.int _) (.cons (.int _) (.cons (.int _) (.cons (.int _) (.cons (.tup (ex_t e1 hr1) (DpAll.up e2 hx.1)) .nil))))))) .nil)
          ((maPut (s := { s with term := e, role := "hears" }) x (maFacts.up _ _ e2 hx) m2 (by walk_at "sel") (by walk_at "sel") (by walk_at "sel") (by walk_at "sel")).sel (.s .z))
      · walk_at "go"
        walk_at "newM"
        rename_i D H2 m2
        have hh : s.heard (.stand sd to e) = (s, []) := if_neg hc
        rw [hh] at q
        exact q D P0 H2 [] (Ex.refl _) .nil ((maPut (s := s) x hx m2 (by walk_at "sel") (by walk_at "sel") (by walk_at "sel") (by walk_at "sel")).sel (.s .z))
    | voice sd to e f rows =>
      obtain ⟨r, rv, ht, hr1, hrv⟩ := hg
      have no : ¬ (s.role = "stands" ∧ e = s.term) → s.heard (.voice sd to e f rows) = (s, []) := fun z => if_neg z
      walk_at "go"
      walk_at "ite" <;> intro hc
      · walk_at "go"
        walk_at "ite" <;> intro hd
        · walk_at "go"
          rename_i p P1 Ha ma e0 hp
          refine i_dputAt (k := Sum.inl sd) ma (by walk_at "updc") (by omega) fun H2 m2 => ?_
          walk_at "go"
          refine ⟨P1, F, ad, { s with voices := dset s.voices sd (f, rows) }, rfl, (dset_len _ _ _).2, maPut (s := { s with voices := dset s.voices sd (f, rows) }) ⟨x.dx, x.lg, x.vo, x.sz, x.lv, putK x.vv (Sum.inl sd) (.ref p)⟩
            ⟨DpAll.up e0 hx.1, vosPut (hx.2.up e0) ⟨p, r, rv, rfl, hp, ex_t e0 hr1, DpAll.up e0 hrv⟩⟩ m2 (by walk_at "sel") (by walk_at "sel") (by walk_at "sel") (by walk_at "sel"), fun P3 H3 e3 m3 => ?_⟩
          walk_at "go"
          walk_at "newM"
          rename_i D H4 m4
          have hh : s.heard (.voice sd to e f rows) = (Ma.count { s with voices := dset s.voices sd (f, rows) }, []) := if_pos ⟨hc, hd⟩
          rw [hh] at q
          exact q D P3 H4 [] (e0.trans e3) .nil m4
        · rw [no (fun z => hd z.2)] at q
          walk_at "go"
          walk_at "newM"
          rename_i D H2 m2
          exact q D P0 H2 [] (Ex.refl _) .nil ((maPut (s := s) x hx m2 (by walk_at "sel") (by walk_at "sel") (by walk_at "sel") (by walk_at "sel")).sel (.s .z))
      · rw [no (fun z => hc z.1)] at q
        walk_at "go"
        walk_at "newM"
        rename_i D H2 m2
        exact q D P0 H2 [] (Ex.refl _) .nil ((maPut (s := s) x hx m2 (by walk_at "sel") (by walk_at "sel") (by walk_at "sel") (by walk_at "sel")).sel (.s .z))
    | keep sd to e rows sure =>
      have hk : MsgR K P0 t (.keep sd to e rows sure) := hg
      obtain ⟨r, rv, ht, hr1, hrv⟩ := hg
      walk_at "go"
      walk_at "ite" <;> intro hc
      · walk_at "go"
        have hh : s.heard (.keep sd to e rows sure) = (s.keeps e rows sure, keptM (s.keeps e rows sure) sd e) := if_pos hc
        rw [hh] at q
        exact ⟨P0, _, ad, t, s, sd, to, e, rows, sure, rfl, hk, m, fun D P2 H2 ms e2 hms m2 => q D P2 H2 ms e2 hms m2⟩
      · walk_at "go"
        walk_at "newM"
        rename_i D H2 m2
        have hh : s.heard (.keep sd to e rows sure) = (s, []) := if_neg hc
        rw [hh] at q
        exact q D P0 H2 [] (Ex.refl _) .nil ((maPut (s := s) x hx m2 (by walk_at "sel") (by walk_at "sel") (by walk_at "sel") (by walk_at "sel")).sel (.s .z))
    | kept sd to e z =>
      have hg : SqT K P0 t [.str "kept", .int sd, .int to, .int e, .int z] := hg
      have no : ¬ (s.role = "leads" ∧ e = s.term) → s.heard (.kept sd to e z) = (s, []) := fun z => if_neg z
      walk_at "go"
      walk_at "ite" <;> intro hc
      · walk_at "go"
        walk_at "ite" <;> intro hd
        · walk_at "go"
          refine i_isDAt mo (by walk_at "sel") ?_
          walk_at "go"
          refine i_dgetO (k := Sum.inl sd) mo (by walk_at "sel") ?_
          rw [szGet]
          walk_at "go"
          refine i_dputAt (k := Sum.inl sd) mo (by walk_at "updc") (by omega) fun H2 m2 => ?_
          rw [szPut] at m2
          walk_at "go"
          have hdl := dset_len s.sizes sd (if z > (dgetO s.sizes sd).getD 0 then z else (dgetO s.sizes sd).getD 0)
          have hsz := hs.sz
          have hslg := hs.lg
          refine ⟨P0, _, ad, { s with sizes := dset s.sizes sd (if z > (dgetO s.sizes sd).getD 0 then z else (dgetO s.sizes sd).getD 0) }, rfl, Int.le_of_lt (Int.lt_of_le_of_lt hs.ok.nr0 hs.ok.nrm), by show (dset _ _ _).length ≤ 10000; omega, by show s.log.length ≤ 90000; omega,
            maPut (s := { s with sizes := dset s.sizes sd (if z > (dgetO s.sizes sd).getD 0 then z else (dgetO s.sizes sd).getD 0) }) x hx m2 (by walk_at "sel") (by walk_at "sel") (by walk_at "sel") (by walk_at "sel"), fun P3 H3 e3 m3 => ?_⟩
          walk_at "go"
          walk_at "newM"
          rename_i D H4 m4
          have hh : s.heard (.kept sd to e z) = (Ma.sized { s with sizes := dset s.sizes sd (if z > (dgetO s.sizes sd).getD 0 then z else (dgetO s.sizes sd).getD 0) }, []) := if_pos ⟨hc, hd⟩
          rw [hh] at q
          exact q D P3 H4 [] e3 .nil m4
        · rw [no (fun z => hd z.2)] at q
          walk_at "go"
          walk_at "newM"
          rename_i D H2 m2
          exact q D P0 H2 [] (Ex.refl _) .nil ((maPut (s := s) x hx m2 (by walk_at "sel") (by walk_at "sel") (by walk_at "sel") (by walk_at "sel")).sel (.s .z))
      · rw [no (fun z => hc z.1)] at q
        walk_at "go"
        walk_at "newM"
        rename_i D H2 m2
        exact q D P0 H2 [] (Ex.refl _) .nil ((maPut (s := s) x hx m2 (by walk_at "sel") (by walk_at "sel") (by walk_at "sel") (by walk_at "sel")).sel (.s .z))

/-! ### what the laws tell of a master -/
def fieldV (s : Ma) (l : Addr) : List V := [.int s.nr, .int s.many, .int s.term, .int s.of, .ref l, .int s.done, .str s.role]
def fieldD (s : Ma) : PyData := .tuple [.int s.nr, .int s.many, .int s.term, .int s.of, .list s.log, .int s.done, .str s.role]
theorem field_dp {K : PySem.W.Frag} {P : Hp} {s : Ma} {t l : Addr} (h : SqT K P t (fieldV s l)) (hl : Dp K P (.ref l) (.list s.log)) : Dp K P (.ref t) (fieldD s) :=
  .tup h (.cons (.int _) (.cons (.int _) (.cons (.int _) (.cons (.int _) (.cons hl (.cons (.int _) (.cons (.str _) .nil)))))))
def spFields (K : PySem.W.Frag) (C : Addr) : Sp := fun vs H Q _ => ∃ (P : Hp) (F : List Ch) (a : Addr) (s : Ma), vs = [.ref a] ∧ Mem P (maP K C a s :: F) H ∧
  ∀ t l P' H', Ex P P' → SqT K P' t (fieldV s l) → Dp K P' (.ref l) (.list s.log) → Mem P' (maP K C a s :: F) H' → Q (.ref t) H'
theorem ok_law_fields (T : Txt K mg a c fd lp) (B : ∀ i, i < 2 → TabB base mg (lp i).1 (lp i).2) : FnOk P w K mg base CX0 1 (a 18) (fd 18) ["_law_one"] (spFields K (c 0)) := by
  refine T.F18.ok sc_law_fields (fun vs H Q E h => ?_) (fun cdv A outer s H vs Q E hr h => ?_)
  · obtain ⟨_, _, _, _, rfl, _⟩ := h; rfl
  · obtain ⟨P0, F, ad, s, rfl, m, q⟩ := h
    obtain ⟨x, hx, m⟩ := maOpen m
    refine ⟨_, (pss_one (ps_ret (pe_tup (pa_cons (peF (K := K) rfl (pv 0) rfl) (pa_cons (peF (K := K) rfl (pv 0) rfl) (pa_cons (peF (K := K) rfl (pv 0) rfl) (pa_cons (peF (K := K) rfl (pv 0) rfl) (pa_cons (pe_callTy (listOf (K := K) rfl) (by rfl) T.g_list (by decide +kernel) (pa_cons (peF (K := K) rfl (pv 0) rfl) pa_nil)) (pa_cons (peF (K := K) rfl (pv 0) rfl) (pa_cons (peF (K := K) rfl (pv 0) rfl) pa_nil)))))))))), ?_⟩
    walk_at "go"
    walk_at "newL"
    rename_i l P1 H1 m1 e1 hl
    walk_at "go"
    rename_i t P2 H2 m2 e2 ht
    have e12 := e1.trans e2
    exact q t l P2 H2 e12 ht (.lst (sqL_up hl e2) (DpAll.up e12 hx.1)) (maClose x (maFacts.up _ _ e12 hx) m2)

/-- a message: a tuple of numbers, texts and tuples -/
def MsgOk (d : PyData) : Prop := Sh 3 d ∧ ∃ ps : List PyData, d = .tuple ps ∧ ps.length ≤ 1000 ∧ ∀ p ∈ ps, PartOk p
def spIsTold (K : PySem.W.Frag) : Sp := fun vs H Q _ => ∃ (P : Hp) (F : List Ch) (p r : Addr) (xs : List V) (ms : List PyData), vs = [.ref p, .ref r] ∧ DpAll K P xs ms ∧ Dp K P (.ref r) (.list ms) ∧ (∀ d ∈ ms, MsgOk d) ∧ Mem P (pt p (.lst xs) :: F) H ∧
  ∀ P' H', Ex P P' → Mem P' (pt p (.lst xs) :: F) H' → Q (.bl true) H'
theorem dpAt {K : PySem.W.Frag} {P : Hp} : ∀ {vs : List V} {ds : List PyData} {i : Nat} {v : V}, DpAll K P vs ds → vs[i]? = some v → ∃ d, ds[i]? = some d ∧ Dp K P v d
  | _, _, i, v, .nil, h => by simp at h
  | _, _, 0, v, .cons a t, h => ⟨_, rfl, by
    have e := Option.some.inj (show some _ = some v from h)
    rw [← e]; exact a⟩
  | _, _, i + 1, v, .cons a t, h => dpAt (i := i) t (by simpa using h)
theorem ok_law_is_told (T : Txt K mg a c fd lp) (B : ∀ i, i < 2 → TabB base mg (lp i).1 (lp i).2) : FnOk P w K mg base CX0 1 (a 20) (fd 20) ["_law_found", "_law_due"] (spIsTold K) := by
  refine T.F20.ok sc_law_is_told (fun vs H Q E h => ?_) (fun cdv A outer s H vs Q E hr h => ?_)
  · obtain ⟨_, _, _, _, _, _, rfl, _⟩ := h; rfl
  · obtain ⟨P0, F, p, r, xs, ms, rfl, hx, hdue, hm, m, q⟩ := h
    have sh : Sh 4 (.list ms) := Sh.lst fun d hd => (hm d hd).1
    refine ⟨_, (pss_cons (ps_if (PW.pt (pw_or (pt_not (pt_val (pe_callB (isiK (K := K) rfl) (by rfl) T.g_isinstance (by decide +kernel) (pa_cons (pv 0) (pa_cons (pe_bltn (v := .ty "list") (by rfl) T.g_list (by decide +kernel) rfl) pa_nil))))) (pw_or1 (pt_cmpR (neD (K := K) rfl hr.units) (pv 0) (pv 1) (nomark _))))) (pss_one (ps_ret pe_bl)) pss_nil)
      (pss_cons (ps_for PassesOwn.never rfl (piL (K := K) rfl (pv 0)) (pg_name (i := 2) sc_law_is_told.nd rfl (Or.inl rfl))
      (pss_cons (ps_if (PW.pt (pw_or (pt_not (pt_val (pe_callB (isiK (K := K) rfl) (by rfl) T.g_isinstance (by decide +kernel) (pa_cons (pv 2) (pa_cons (pe_bltn (v := .ty "tuple") (by rfl) T.g_tuple (by decide +kernel) rfl) pa_nil))))) (pw_or1 (pt_val (pe_callB (anyK (K := K) rfl rfl) (by rfl) T.g_any (by decide +kernel) (pa_cons (pe_lc (own := [("_law_part", 3)]) (tt := tYes) (by rfl) sc_law_is_told.nd (piT (K := K) rfl (pv 2)) (blkOk_by (own := [("_law_part", 3)]) (N := N_law_is_told) (sc := defScope s_law_is_told) (by decide +kernel)) (fun _ _ _ _ _ => (pg_name (i := 3) sc_law_is_told.nd rfl (Or.inl rfl))) (fun _ _ _ _ _ => pts_nil) (fun _ _ _ _ _ => (pe_callB (isiK (K := K) rfl) (by rfl) T.g_isinstance (by decide +kernel) (pa_cons (pv 3) (pa_cons (pe_bltn (v := .ty "bool") (by rfl) T.g_bool (by decide +kernel) rfl) pa_nil))))) pa_nil)))))) (pss_one (ps_ret pe_bl)) pss_nil)
      (pss_one (ps_if (pt_not (pt_val (pe_callB (allK (K := K) rfl rfl) (by rfl) T.g_all (by decide +kernel) (pa_cons (pe_lc (own := [("_law_part", 3)]) (tt := tYes) (by rfl) sc_law_is_told.nd (piT (K := K) rfl (pv 2)) (blkOk_by (own := [("_law_part", 3)]) (N := N_law_is_told) (sc := defScope s_law_is_told) (by decide +kernel)) (fun _ _ _ _ _ => (pg_name (i := 3) sc_law_is_told.nd rfl (Or.inl rfl))) (fun _ _ _ _ _ => pts_nil) (fun _ _ _ _ _ => (pe_callB (isiTK (K := K) rfl) (by rfl) T.g_isinstance (by decide +kernel) (pa_cons (pv 3) (pa_cons (pe_tup (pa_cons (pe_bltn (v := .ty "int") (by rfl) T.g_int (by decide +kernel) rfl) (pa_cons (pe_bltn (v := .ty "str") (by rfl) T.g_str (by decide +kernel) rfl) (pa_cons (pe_bltn (v := .ty "tuple") (by rfl) T.g_tuple (by decide +kernel) rfl) pa_nil)))) pa_nil))))) pa_nil)))) (pss_one (ps_ret pe_bl)) pss_nil))))
      (pss_one (ps_ret pe_bl)))), ?_⟩
    walk_at "go"
    refine i_neDt (.lst (SqL.of m.rd0) (DpAll.up m.ex hx)) (Dp.up m.ex hdue) (sh.ok (by decide)) (sh.ok (by decide)) ?_
    rw [eqv_self sh]
    walk_at "go"
    refine l_list (K := K) (xs := xs) (SqL.of m.rd0) (fun i σ H' => ∃ P', Ex P0 P' ∧ Mem P' (pt p (.lst xs) :: F) H' ∧ ∃ x1 x2, σ = [some (.ref p), some (.ref r), x1, x2]) ⟨P0, Ex.refl _, m, _, _, rfl⟩ (fun i σ H' _ ⟨P', e', m', _⟩ => SqL.of m'.rd0) ?_ ?_
    · rintro i v σ H1 hv ⟨P1, e1, m1, x1, x2, rfl⟩
      obtain ⟨d, hd, dv⟩ := dpAt hx hv
      obtain ⟨_, ps, rfl, hpl, hps⟩ := hm d (List.mem_of_getElem? hd)
      have dv := Dp.up e1 dv
      cases dv with
      | tup hq hall =>
        walk_at "go"
        rename_i ys
        have hyl := dpLen hall
        refine l_lcT (K := K) m1 hq (fun j acc _ => acc = (List.replicate j false).map V.bl) rfl ?_ ?_
        · rintro j u P2 H2 acc D hu e2 m2 rfl Kt Kf hKt hKf
          obtain ⟨dd, hdd, du⟩ := dpAt hall hu
          walk_at "go"
          refine ⟨rfl, ?_⟩
          walk_at "go"
          obtain ⟨t, ht, ty⟩ := part_ty (Dp.up (e2.trans m2.ex) du) (hps dd (List.mem_of_getElem? hdd))
          refine part_nobool ht ty ?_
          refine hKt _ P2 _ (Ex.refl _) m2 ?_ ?_
          · have := (List.getElem?_eq_some_iff.mp hu).1
            rw [List.length_map, List.length_replicate]; omega
          · rw [List.replicate_succ', List.map_append]; rfl
        · rintro D P2 H2 acc e2 m2 rfl
          walk_at "go"
          refine i_any (K := K) (SqL.of m2.rd0) ?_
          rw [show (List.replicate ys.length false).any id = false by simp]
          walk_at "go"
          refine l_lcT (K := K) m2.drop (ex_t e2 hq) (fun j acc _ => acc = (List.replicate j true).map V.bl) rfl ?_ ?_
          · rintro j u P3 H3 acc D3 hu e3 m3 rfl Kt Kf hKt hKf
            obtain ⟨dd, hdd, du⟩ := dpAt hall hu
            walk_at "go"
            refine ⟨rfl, ?_⟩
            walk_at "go"
            rename_i tp P4 H4 m4 e4 htp
            obtain ⟨t, ht, ty⟩ := part_ty (Dp.up (e2.trans (e3.trans (e4.trans m4.ex))) du) (hps dd (List.mem_of_getElem? hdd))
            refine i_isiT m4 htp (.cons (.ty _) (.cons (.ty _) (.cons (.ty _) .nil))) ty (kany3 ht) ?_
            refine hKt _ P4 _ e4 m4 ?_ ?_
            · have := (List.getElem?_eq_some_iff.mp hu).1
              rw [List.length_map, List.length_replicate]; omega
            · rw [List.replicate_succ', List.map_append]; rfl
          · rintro D3 P3 H3 acc e3 m3 rfl
            walk_at "go"
            refine i_all (K := K) (SqL.of m3.rd0) ?_
            rw [show (List.replicate ys.length true).all id = true by simp]
            walk_at "go"
            exact ⟨P3, e1.trans (e2.trans e3), m3.drop, _, _, rfl⟩
    · rintro σ H1 ⟨P1, e1, m1, x1, x2, rfl⟩
      walk_at "go"
      exact q P1 H1 e1 m1

/-- rows that stand in logs -/
def RowsOk (n : Nat) (ds : List PyData) : Prop := (∀ d ∈ ds, Sh 1 d) ∧ ds.length ≤ n
def rowD1 (k : Nat) : PyData := .tuple [.str "row", .int (k : Int)]
def rowD2 (term : Int) (k : Nat) : PyData := .tuple [.str "row", .int (5 + (k : Int)), .int term]
theorem row1_sh (k : Nat) : Sh 1 (rowD1 k) := Sh.tup (n := 0) fun d hd => by
  simp only [List.mem_cons, List.not_mem_nil, or_false] at hd
  rcases hd with rfl | rfl
  · exact Sh.str (by decide +kernel)
  · exact Sh.int _
theorem row2_sh (t : Int) (k : Nat) : Sh 1 (rowD2 t k) := Sh.tup (n := 0) fun d hd => by
  simp only [List.mem_cons, List.not_mem_nil, or_false] at hd
  rcases hd with rfl | rfl | rfl
  · exact Sh.str (by decide +kernel)
  · exact Sh.int _
  · exact Sh.int _
theorem dpApp {K : PySem.W.Frag} {P : Hp} : ∀ {vs ws : List V} {ds es : List PyData}, DpAll K P vs ds → DpAll K P ws es → DpAll K P (vs ++ ws) (ds ++ es)
  | _, _, _, _, .nil, h => h
  | _, _, _, _, .cons a t, h => .cons a (dpApp t h)
def spRows (K : PySem.W.Frag) : Sp := fun vs H Q _ => ∃ (P : Hp) (F : List Ch) (term many : Int), vs = [.int term, .int many] ∧ 0 ≤ many ∧ many ≤ 1000 ∧ Mem P F H ∧
  ∀ t P' H' rv ds, Ex P P' → SqT K P' t rv → DpAll K P' rv ds → RowsOk 2000 ds → (ds.length : Int) = many → Mem P' F H' → Q (.ref t) H'
theorem ok_law_rows (T : Txt K mg a c fd lp) (B : ∀ i, i < 2 → TabB base mg (lp i).1 (lp i).2) : FnOk P w K mg base CX0 1 (a 19) (fd 19) ["_law_term", "_law_many"] (spRows K) := by
  refine T.F19.ok sc_law_rows (fun vs H Q E h => ?_) (fun cdv A outer s H vs Q E hr h => ?_)
  · obtain ⟨_, _, _, _, rfl, _⟩ := h; rfl
  · obtain ⟨P0, F, term, many, rfl, h0, h1, m, q⟩ := h
    refine ⟨_, (pss_one (ps_ret (pe_callTy (tupOf (K := K) rfl) (by rfl) T.g_tuple (by decide +kernel) (pa_cons (pe_op (catL (K := K) rfl) (pe_lc (own := [("_law_k", 2)]) (tt := tYes) (by rfl) sc_law_rows.nd (pi_range1 rfl T.g_range (pa_cons (pe_callB (mn2 rfl) (by rfl) T.g_min (by decide +kernel) (pa_cons (pv 1) (pa_cons pe_int pa_nil))) pa_nil)) (blkOk_by (own := [("_law_k", 2)]) (N := N_law_rows) (sc := defScope s_law_rows) (by decide +kernel)) (fun _ _ _ _ _ => (pg_name (i := 2) sc_law_rows.nd rfl (Or.inl rfl))) (fun _ _ _ _ _ => pts_nil) (fun _ _ _ _ _ => (pe_tup (pa_cons pe_str (pa_cons (pv 2) pa_nil))))) (pe_lc (own := [("_law_k", 2)]) (tt := tYes) (by rfl) sc_law_rows.nd (pi_range2 rfl T.g_range (pa_cons pe_int (pa_cons (pv 1) pa_nil))) (blkOk_by (own := [("_law_k", 2)]) (N := N_law_rows) (sc := defScope s_law_rows) (by decide +kernel)) (fun _ _ _ _ _ => (pg_name (i := 2) sc_law_rows.nd rfl (Or.inl rfl))) (fun _ _ _ _ _ => pts_nil) (fun _ _ _ _ _ => (pe_tup (pa_cons pe_str (pa_cons (pv 2) (pa_cons (pv 0) pa_nil))))))) pa_nil)))), ?_⟩
    have hmn : ∃ n : Int, n = (if 5 < many then 5 else many) ∧ 0 ≤ n ∧ n ≤ 5 ∧ n ≤ many ∧ n + (many - 5).toNat = many := by
      refine ⟨_, rfl, ?_⟩
      split <;> omega
    obtain ⟨n, hn, n0, n5, nm, ns⟩ := hmn
    walk_at "go"
    rw [← hn]
    refine l_lcR (by omega) (by omega) m (fun i acc P' => DpAll K P' acc ((List.range i).map rowD1)) .nil ?_ ?_
    · rintro i P1 H1 acc D hi e1 m1 hacc Kt Kf hKt hKf
      walk_at "go"
      refine ⟨rfl, ?_⟩
      walk_at "go"
      rename_i p P2 H2 m2 e2 hp
      have hlen := dpLen hacc
      rw [List.length_map, List.length_range] at hlen
      refine hKt _ P2 _ e2 m2 (by omega) ?_
      rw [List.range_succ, List.map_append]
      exact dpSnoc (DpAll.up e2 hacc) (.tup hp (.cons (.str _) (.cons (.int _) .nil)))
    · rintro D1 P1 H1 acc1 e1 m1 hacc1
      walk_at "go"
      refine l_lcR2 (by omega) m1 (fun i acc P' => DpAll K P' acc ((List.range i).map (rowD2 term))) .nil ?_ ?_
      · rintro i P2 H2 acc D hi e2 m2 hacc Kt Kf hKt hKf
        walk_at "go"
        refine ⟨rfl, ?_⟩
        walk_at "go"
        rename_i p P3 H3 m3 e3 hp
        have hlen := dpLen hacc
        rw [List.length_map, List.length_range] at hlen
        refine hKt _ P3 _ e3 m3 (by omega) ?_
        rw [List.range_succ, List.map_append]
        exact dpSnoc (DpAll.up e3 hacc) (.tup hp (.cons (.str _) (.cons (.int _) (.cons (.int _) .nil))))
      · rintro D2 P2 H2 acc2 e2 m2 hacc2
        have l1 := dpLen hacc1
        have l2 := dpLen hacc2
        rw [List.length_map, List.length_range] at l1 l2
        walk_at "go"
        walk_at "newM"
        rename_i D3 H3 m3
        walk_at "go"
        rename_i t P4 H4 m4 e4 ht
        refine q t P4 H4 _ _ ((e1.trans e2).trans e4) ht (dpApp (DpAll.up (e2.trans e4) hacc1) (DpAll.up e4 hacc2)) ⟨fun d hd => ?_, ?_⟩ ?_ (((m4.gone (c := pt D3 _) (by walk_at "sel")).gone (c := pt D2 (.lst acc2)) (by walk_at "sel")).gone (c := pt D1 (.lst acc1)) (by walk_at "sel"))
        · rcases List.mem_append.mp hd with h | h
          · obtain ⟨k, _, rfl⟩ := List.mem_map.mp h; exact row1_sh k
          · obtain ⟨k, _, rfl⟩ := List.mem_map.mp h; exact row2_sh term k
        · rw [List.length_append, List.length_map, List.length_map, List.length_range, List.length_range]; omega
        · rw [List.length_append, List.length_map, List.length_map, List.length_range, List.length_range]; omega

theorem keeps_big {s : Ma} {term sure : Int} {rows : List PyData} (h : s.of < term ∨ s.log.length < rows.length) (hs : sure ≤ rows.length) :
    s.keeps term rows sure = { s with term := term, role := "hears", log := rows, of := term, done := if sure > s.done then sure else s.done } := by
  unfold Ma.keeps
  rw [if_pos h]
  show ({ s with term := term, role := "hears", log := rows, of := term, done := if (if (rows.length : Int) < sure then (rows.length : Int) else sure) > s.done then (if (rows.length : Int) < sure then (rows.length : Int) else sure) else s.done } : Ma) = _
  rw [if_neg (show ¬ (rows.length : Int) < sure by omega)]
abbrev QV : Str := "_law_voiced.<locals>.<lambda>"
structure In26 (many : Int) (B : Int) (s : Ma) : Prop where
  ok : s.ok
  mn : s.many = many
  m7 : many ≤ 7
  lg : RowsOk 2000 s.log
  vo : s.voices = []
  sz : s.sizes = []
  rl : PyData.strOk s.role = true
  t0 : 0 ≤ s.term
  t1 : s.term ≤ B
  hr : s.role = "hears"
theorem In26.small {many B : Int} {s : Ma} (h : In26 many B s) : s.small := ⟨h.ok, by rw [h.vo]; exact Nat.zero_le _, by rw [h.sz]; exact Nat.zero_le _, Nat.le_trans h.lg.2 (by decide)⟩
theorem In26.mono {many B C : Int} {s : Ma} (h : In26 many B s) (hB : B ≤ C) : In26 many C s := ⟨h.ok, h.mn, h.m7, h.lg, h.vo, h.sz, h.rl, h.t0, Int.le_trans h.t1 hB, h.hr⟩
theorem field_sh {s : Ma} (hl : RowsOk 2000 s.log) (hr : PyData.strOk s.role = true) : Sh 3 (fieldD s) := by
  have l : Sh 2 (.list s.log) := Sh.lst hl.1
  refine Sh.tup fun d hd => ?_
  simp only [List.mem_cons, List.not_mem_nil, or_false] at hd
  rcases hd with rfl | rfl | rfl | rfl | rfl | rfl | rfl
  · exact (Sh.int _).mono (Nat.zero_le _)
  · exact (Sh.int _).mono (Nat.zero_le _)
  · exact (Sh.int _).mono (Nat.zero_le _)
  · exact (Sh.int _).mono (Nat.zero_le _)
  · exact l
  · exact (Sh.int _).mono (Nat.zero_le _)
  · exact (Sh.str hr).mono (Nat.zero_le _)
theorem In26.sh {many B : Int} {s : Ma} (h : In26 many B s) : Sh 3 (fieldD s) := field_sh h.lg h.rl
def spLogBy (K : PySem.W.Frag) : Sp := fun vs H Q _ => ∃ (P : Hp) (F : List Ch) (st : Addr) (below : Int), vs = [.ref st, .int below] ∧ 0 < below ∧ below < 1000 ∧ Mem P (draw st :: F) H ∧
  ∀ t r P' H' o rv ds, Ex P P' → SqT K P' t [.int o, .ref r] → SqT K P' r rv → DpAll K P' rv ds → RowsOk 2000 ds → Mem P' (draw st :: F) H' → Q (.ref t) H'
theorem ok_law_log_by (T : Txt K mg a c fd lp) (B : ∀ i, i < 2 → TabB base mg (lp i).1 (lp i).2) : FnOk P w K mg base CX0 2 (a 21) (fd 21) ["_law_left_here", "_law_below"] (spLogBy K) := by
  refine T.F21.ok sc_law_log_by (fun vs H Q E h => ?_) (fun cdv A outer s H vs Q E hr h => ?_)
  · obtain ⟨_, _, _, _, rfl, _⟩ := h; rfl
  · obtain ⟨P0, F, st, below, rfl, h0, h1, m, q⟩ := h
    have G_law_pick := ok_law_pick (P := P) (w := w) (base := base) T B
    have G_law_rows := ok_law_rows (P := P) (w := w) (base := base) T B
    refine ⟨_, (pss_cons (ps_set (i := 2) sc_law_log_by.nd rfl (Or.inl rfl) (pe_call G_law_pick hr rfl T.m17 T.F17.kp T.b17 .nil pass0 (pa_cons (pv 0) (pa_cons (pv 1) pa_nil))))
      (pss_one (ps_ret (pe_tup (pa_cons (pv 2) (pa_cons (pe_call G_law_rows hr rfl T.m19 T.F19.kp T.b19 .nil pass0 (pa_cons (pv 2) (pa_cons (pe_op op_mul (pe_call G_law_pick hr rfl T.m17 T.F17.kp T.b17 .nil pass0 (pa_cons (pv 0) (pa_cons pe_int pa_nil))) (pe_callTy intB (by rfl) T.g_int (by decide +kernel) (pa_cons (pe_cmpR op_gt (pv 2) pe_int (nomark _)) pa_nil))) pa_nil))) pa_nil)))))), ?_⟩
    walk_at "go"
    refine ⟨P0, _, st, below, rfl, h0, by omega, m, fun o H1 o0 o1 m1 => ?_⟩
    walk_at "go"
    refine ⟨P0, _, st, 13, rfl, by decide, by decide, m1, fun r H2 r0 r1 m2 => ?_⟩
    walk_at "go"
    have hmul : 0 ≤ (r * if decide (0 < o) = true then 1 else 0) ∧ (r * if decide (0 < o) = true then 1 else 0) ≤ 1000 := by split <;> omega
    generalize (r * if decide (0 < o) = true then 1 else 0) = rn at hmul ⊢
    refine ⟨P0, _, _, _, rfl, hmul.1, hmul.2, m2, fun rt P6 H6 rv ds e6 hrt hds hrok hdl m6 => ?_⟩
    walk_at "go"
    rename_i t P7 H7 m7 e7 ht
    exact q t rt P7 H7 o rv ds (e6.trans e7) ht (ex_t e7 hrt) (DpAll.up e7 hds) hrok m7
def spKeptLog (K : PySem.W.Frag) (C Pt : Addr) : Sp := fun vs H Q _ => ∃ (P : Hp) (F : List Ch) (st a : Addr) (nr many : Int), vs = [.ref st, .ref a] ∧ 0 ≤ nr ∧ nr < many ∧ many ≤ 7 ∧ Mem P (maP K C a (Ma.new nr many) :: tabP Pt QB :: draw st :: F) H ∧
  ∀ P' H' s, Ex P P' → In26 many 6 s → Mem P' (maP K C a s :: tabP Pt QB :: draw st :: F) H' → Q (.bl true) H'
theorem ok_law_kept_log (T : Txt K mg a c fd lp) (B : ∀ i, i < 2 → TabB base mg (lp i).1 (lp i).2) : FnOk P w K mg base CX0 4 (a 22) (fd 22) ["_law_left_here", "_law_one"] (spKeptLog K (c 0) (lp 0).2) := by
  refine T.F22.ok sc_law_kept_log (fun vs H Q E h => ?_) (fun cdv A outer s H vs Q E hr h => ?_)
  · obtain ⟨_, _, _, _, _, _, rfl, _⟩ := h; rfl
  · obtain ⟨P0, F, st, ad, nr, many, rfl, n0, n1, m7, m, q⟩ := h
    have hok : (Ma.new nr many).ok := ⟨n0, n1, by show many ≤ 1000; omega⟩
    have r0 : RowsOk 2000 [] := ⟨(fun _ z => by cases z), Nat.zero_le _⟩
    have in0 : In26 many 6 (Ma.new nr many) := ⟨hok, rfl, m7, r0, rfl, rfl, by show PyData.strOk "hears" = true; decide +kernel, Int.le_refl _, by show (0 : Int) ≤ 6; decide, rfl⟩
    have G_law_rows := ok_law_rows (P := P) (w := w) (base := base) T B
    have G_Master_hear := ok_Master_hear (P := P) (w := w) (base := base) T B
    have G_law_pick := ok_law_pick (P := P) (w := w) (base := base) T B
    have G_law_fields := ok_law_fields (P := P) (w := w) (base := base) T B
    refine ⟨_, (pss_cons (ps_set (i := 2) sc_law_kept_log.nd rfl (Or.inl rfl) (pe_op op_add pe_int (pe_call G_law_pick (hr.mono (by decide)) rfl T.m17 T.F17.kp T.b17 .nil pass0 (pa_cons (pv 0) (pa_cons pe_int pa_nil)))))
      (pss_cons (ps_if (pt_cmpR op_eq (pe_op op_mod (pv 2) (peF (K := K) rfl (pv 1) rfl)) (peF (K := K) rfl (pv 1) rfl) (nomark _)) (pss_one (ps_ret pe_bl)) pss_nil)
      (pss_cons (ps_set (i := 3) sc_law_kept_log.nd rfl (Or.inl rfl) (pe_call G_law_rows (hr.mono (by decide)) rfl T.m19 T.F19.kp T.b19 .nil pass0 (pa_cons (pv 2) (pa_cons (pe_call G_law_pick (hr.mono (by decide)) rfl T.m17 T.F17.kp T.b17 .nil pass0 (pa_cons (pv 0) (pa_cons pe_int pa_nil))) pa_nil))))
      (pss_cons (ps_expr (pe_meth (pv 1) T.cl_Master T.me11 G_Master_hear hr T.b11 .nil pass0 (pa_cons (pe_tup (pa_cons pe_str (pa_cons (pe_op op_mod (pv 2) (peF (K := K) rfl (pv 1) rfl)) (pa_cons (peF (K := K) rfl (pv 1) rfl) (pa_cons (pv 2) (pa_cons (pv 3) (pa_cons pe_int pa_nil))))))) pa_nil)))
      (pss_one (ps_ret (pe_cmpR (eqD (K := K) rfl hr.units) (pe_call G_law_fields (hr.mono (by decide)) rfl T.m18 T.F18.kp T.b18 .nil pass0 (pa_cons (pv 1) pa_nil)) (pe_tup (pa_cons (peF (K := K) rfl (pv 1) rfl) (pa_cons (peF (K := K) rfl (pv 1) rfl) (pa_cons (pv 2) (pa_cons (pv 2) (pa_cons (pe_callTy (listOf (K := K) rfl) (by rfl) T.g_list (by decide +kernel) (pa_cons (pv 3) pa_nil)) (pa_cons pe_int (pa_cons pe_str pa_nil)))))))) (nomark _)))))))), ?_⟩
    walk_at "go"
    refine ⟨P0, _, st, 6, rfl, by decide, by decide, m.sel (c := draw st) (by walk_at "sel"), fun o H1 o0 o1 m1 => ?_⟩
    have m1 := (m1.sel (c := tabP (lp 0).2 QB) (by walk_at "sel")).sel (c := maP K (c 0) ad (Ma.new nr many)) (by walk_at "sel")
    obtain ⟨x1, hx1, mo1⟩ := maOpen m1
    have hmm : (Ma.new nr many).many = many := rfl
    walk_at "go"
    walk_at "ite" <;> intro hc
    · walk_at "go"
      exact q P0 H1 _ (Ex.refl _) in0 (m1.pr (by walk_at "pr"))
    · walk_at "go"
      refine ⟨P0, _, st, 13, rfl, by decide, by decide, m1.sel (c := draw st) (by walk_at "sel"), fun r H2 r0 r1 m2 => ?_⟩
      walk_at "go"
      refine ⟨P0, _, _, _, rfl, by omega, by omega, m2, fun rt P6 H6 rv ds e6 hrt hds hrok hdl m6 => ?_⟩
      have m6 := (m6.sel (c := tabP (lp 0).2 QB) (by walk_at "sel")).sel (c := maP K (c 0) ad (Ma.new nr many)) (by walk_at "sel")
      obtain ⟨x6, hx6, mo6⟩ := maOpen m6
      walk_at "go"
      rename_i kt P7 H7 m7' e7 hkt
      have hh : (Ma.new nr many).heard (.keep ((1 + o) % many) nr (1 + o) ds 0) = ({ Ma.new nr many with term := 1 + o, role := "hears", log := ds, of := 1 + o, done := 0 }, keptM ((Ma.new nr many).keeps (1 + o) ds 0) ((1 + o) % many) (1 + o)) := by
        show (if (0 : Int) ≤ 1 + o then ((Ma.new nr many).keeps (1 + o) ds 0, keptM ((Ma.new nr many).keeps (1 + o) ds 0) ((1 + o) % many) (1 + o)) else (Ma.new nr many, [])) = _
        rw [if_pos (by omega), keeps_big (.inl (by show (0 : Int) < 1 + o; omega)) (by omega)]
        rfl
      refine ⟨P7, _, ad, kt, Ma.new nr many, .keep ((1 + o) % many) nr (1 + o) ds 0, rfl, in0.small, ⟨rt, rv, hkt, ex_t e7 hrt, DpAll.up e7 hds⟩, maPut (s := Ma.new nr many) x6 (maFacts.up _ _ e7 hx6) m7' (by walk_at "sel") (by walk_at "sel") (by walk_at "sel") (by walk_at "sel"), fun D P8 H8 ms e8 hms m8 => ?_⟩
      rw [hh] at m8
      have in1 : In26 many 6 { Ma.new nr many with term := 1 + o, role := "hears", log := ds, of := 1 + o, done := 0 } := ⟨⟨n0, n1, by show many ≤ 1000; omega⟩, rfl, m7, hrok, rfl, rfl, by show PyData.strOk "hears" = true; decide +kernel, by show 0 ≤ 1 + o; omega, by show 1 + o ≤ 6; omega, rfl⟩
      obtain ⟨s1, hs1⟩ : ∃ s1 : Ma, s1 = { Ma.new nr many with term := 1 + o, role := "hears", log := ds, of := 1 + o, done := 0 } := ⟨_, rfl⟩
      have hf1 : fieldD s1 = .tuple [.int s1.nr, .int s1.many, .int (1 + o), .int (1 + o), .list ds, .int 0, .str "hears"] := by rw [hs1]; rfl
      rw [← hs1] at m8 in1
      have m8 : Mem P8 (maP K (c 0) ad s1 :: tabP (lp 0).2 QB :: draw st :: F) H8 := m8.drop
      walk_at "go"
      refine ⟨P8, _, ad, _, rfl, m8, fun t9 l9 P9 H9 e9 ht9 hd9 m9 => ?_⟩
      obtain ⟨x9, hx9, mo9⟩ := maOpen m9
      have hrt9 := ex_t (e7.trans (e8.trans e9)) hrt
      walk_at "go"
      walk_at "newL"
      rename_i l Pa Ha ma ea hl
      walk_at "go"
      rename_i t Pb Hb mb eb ht
      have sh := in1.sh
      have eab := ea.trans eb
      refine i_eqDt (e := fieldD s1) (Dp.up (eab.trans mb.ex) (field_dp ht9 hd9)) (by
        rw [hf1]
        exact Dp.up mb.ex (.tup ht (.cons (.int _) (.cons (.int _) (.cons (.int _) (.cons (.int _) (.cons (.lst (sqL_up hl eb) (DpAll.up (e7.trans (e8.trans (e9.trans eab))) hds)) (.cons (.int _) (.cons (.str _) .nil))))))))) (sh.ok (by decide)) (sh.ok (by decide)) ?_
      rw [eqv_self sh]
      exact q Pb Hb s1 (e6.trans (e7.trans (e8.trans (e9.trans eab)))) in1 ((maPut (s := s1) x9 (maFacts.up _ _ eab hx9) mb (by walk_at "sel") (by walk_at "sel") (by walk_at "sel") (by walk_at "sel")).pr (by walk_at "pr"))
theorem stand_msgs {s : Ma} {sd to e : Int} (hl : RowsOk 2000 s.log) : ∀ d ∈ (s.heard (.stand sd to e)).2, MsgOk d := by
  show ∀ d ∈ (if s.term < e then (({ s with term := e, role := "hears" } : Ma), [PyData.tuple [.str "voice", .int s.nr, .int sd, .int e, .int s.of, .tuple s.log]]) else (s, [])).2, MsgOk d
  split
  · intro d hd
    have hd := List.mem_singleton.mp hd
    subst hd
    refine ⟨Sh.tup (n := 2) fun x hx => ?_, _, rfl, by show 6 ≤ 1000; decide, fun p hp => ?_⟩
    · simp only [List.mem_cons, List.not_mem_nil, or_false] at hx
      rcases hx with rfl | rfl | rfl | rfl | rfl | rfl
      · exact (Sh.str (by decide +kernel)).mono (Nat.zero_le _)
      · exact (Sh.int _).mono (Nat.zero_le _)
      · exact (Sh.int _).mono (Nat.zero_le _)
      · exact (Sh.int _).mono (Nat.zero_le _)
      · exact (Sh.int _).mono (Nat.zero_le _)
      · exact Sh.tup (n := 1) hl.1
    · simp only [List.mem_cons, List.not_mem_nil, or_false] at hp
      rcases hp with rfl | rfl | rfl | rfl | rfl | rfl
      · exact .inr (.inl ⟨_, rfl⟩)
      · exact .inl ⟨_, rfl⟩
      · exact .inl ⟨_, rfl⟩
      · exact .inl ⟨_, rfl⟩
      · exact .inl ⟨_, rfl⟩
      · exact .inr (.inr ⟨_, rfl⟩)
  · intro d hd; cases hd
theorem In26.stand {many B sd to e : Int} {s : Ma} (h : In26 many B s) (he : e ≤ B + 2) (he0 : 0 ≤ e) (hB : 0 ≤ B) : In26 many (B + 2) (s.heard (.stand sd to e)).1 := by
  show In26 many (B + 2) (if s.term < e then (({ s with term := e, role := "hears" } : Ma), [PyData.tuple [.str "voice", .int s.nr, .int sd, .int e, .int s.of, .tuple s.log]]) else (s, [])).1
  split
  · exact ⟨⟨h.ok.nr0, h.ok.nrm, h.ok.many⟩, h.mn, h.m7, h.lg, h.vo, h.sz, by show PyData.strOk "hears" = true; decide +kernel, he0, he, rfl⟩
  · exact h.mono (by omega)
def spAsked (K : PySem.W.Frag) (C Pt : Addr) : Sp := fun vs H Q _ => ∃ (P : Hp) (F : List Ch) (st a : Addr) (s : Ma) (many : Int), vs = [.ref st, .ref a] ∧ In26 many 6 s ∧ Mem P (maP K C a s :: tabP Pt QB :: draw st :: F) H ∧
  ∀ P' H' s', Ex P P' → In26 many 20 s' → Mem P' (maP K C a s' :: tabP Pt QB :: draw st :: F) H' → Q (.bl true) H'
theorem ok_law_asked_for (T : Txt K mg a c fd lp) (B : ∀ i, i < 2 → TabB base mg (lp i).1 (lp i).2) : FnOk P w K mg base CX0 4 (a 23) (fd 23) ["_law_left_here", "_law_one"] (spAsked K (c 0) (lp 0).2) := by
  refine T.F23.ok sc_law_asked_for (fun vs H Q E h => ?_) (fun cdv A outer s H vs Q E hr h => ?_)
  · obtain ⟨_, _, _, _, _, _, rfl, _⟩ := h; rfl
  · obtain ⟨P0, F, st, ad, s0, many, rfl, hin0, m, q⟩ := h
    have G_law_pick := ok_law_pick (P := P) (w := w) (base := base) T B
    have G_law_fields := ok_law_fields (P := P) (w := w) (base := base) T B
    have G_Master_hear := ok_Master_hear (P := P) (w := w) (base := base) T B
    have G_law_is_told := ok_law_is_told (P := P) (w := w) (base := base) T B
    refine ⟨_, (pss_cons (ps_for PassesOwn.never rfl (pi_range1 rfl T.g_range (pa_cons (pe_call G_law_pick (hr.mono (by decide)) rfl T.m17 T.F17.kp T.b17 .nil pass0 (pa_cons (pv 0) (pa_cons pe_int pa_nil))) pa_nil)) (pg_name (i := 2) sc_law_asked_for.nd rfl (Or.inl rfl))
      (pss_cons (ps_set (i := 3) sc_law_asked_for.nd rfl (Or.inl rfl) (pe_callB (mx2 rfl) (by rfl) T.g_max (by decide +kernel) (pa_cons pe_int (pa_cons (pe_op op_sub (pe_op op_add (peF (K := K) rfl (pv 1) rfl) (pe_call G_law_pick (hr.mono (by decide)) rfl T.m17 T.F17.kp T.b17 .nil pass0 (pa_cons (pv 0) (pa_cons pe_int pa_nil)))) pe_int) pa_nil))))
      (pss_one (ps_if (pt_cmpR op_ne (pe_op op_mod (pv 3) (peF (K := K) rfl (pv 1) rfl)) (peF (K := K) rfl (pv 1) rfl) (nomark _)) (pss_cons (ps_set (i := 4) sc_law_asked_for.nd rfl (Or.inl rfl) (pe_lst pa_nil))
      (pss_cons (ps_set (i := 5) sc_law_asked_for.nd rfl (Or.inl rfl) (pe_call G_law_fields (hr.mono (by decide)) rfl T.m18 T.F18.kp T.b18 .nil pass0 (pa_cons (pv 1) pa_nil)))
      (pss_cons (ps_set (i := 6) sc_law_asked_for.nd rfl (Or.inl rfl) (pe_op op_mod (pv 3) (peF (K := K) rfl (pv 1) rfl)))
      (pss_cut (ps_if (pt_cmpR op_gt (pv 3) (peF (K := K) rfl (pv 1) rfl) (nomark _)) (pss_cons (ps_set (i := 4) sc_law_asked_for.nd rfl (Or.inl rfl) (pe_lst (pa_cons (pe_tup (pa_cons pe_str (pa_cons (peF (K := K) rfl (pv 1) rfl) (pa_cons (pv 6) (pa_cons (pv 3) (pa_cons (peF (K := K) rfl (pv 1) rfl) (pa_cons (pe_callTy (tupOf (K := K) rfl) (by rfl) T.g_tuple (by decide +kernel) (pa_cons (peF (K := K) rfl (pv 1) rfl) pa_nil)) pa_nil))))))) pa_nil)))
      (pss_one (ps_set (i := 5) sc_law_asked_for.nd rfl (Or.inl rfl) (pe_op (catT (K := K) rfl) (pe_op (catT (K := K) rfl) (pe_op (catT (K := K) rfl) (pe_slice (slT (K := K) rfl) (pv 5) po_none (po_some pe_int)) (pe_tup (pa_cons (pv 3) pa_nil))) (pe_slice (slT (K := K) rfl) (pv 5) (po_some pe_int) (po_some pe_int))) (pe_tup (pa_cons pe_str pa_nil)))))) pss_nil)
      (pss_cons (ps_set (i := 7) sc_law_asked_for.nd rfl (Or.inl rfl) (pe_meth (pv 1) T.cl_Master T.me11 G_Master_hear hr T.b11 .nil pass0 (pa_cons (pe_tup (pa_cons pe_str (pa_cons (pv 6) (pa_cons (peF (K := K) rfl (pv 1) rfl) (pa_cons (pv 3) pa_nil))))) pa_nil)))
      (pss_cons (ps_if (PW.pt (pw_or (pt_not (pt_val (pe_call G_law_is_told (hr.mono (by decide)) rfl T.m20 T.F20.kp T.b20 .nil pass0 (pa_cons (pv 7) (pa_cons (pv 4) pa_nil))))) (pw_or1 (pt_cmpR (neD (K := K) rfl hr.units) (pe_call G_law_fields (hr.mono (by decide)) rfl T.m18 T.F18.kp T.b18 .nil pass0 (pa_cons (pv 1) pa_nil)) (pv 5) (nomark _))))) (pss_one (ps_ret pe_bl)) pss_nil)
      (pss_one (ps_expr (peM (K := K) rfl PySem.F.plainAttrs_list PySem.F.slot_list_append PySem.F.type_list_append mt_append (pv 7) (pa_cons (pe_tup (pa_cons pe_str (pa_cons pe_int (pa_cons pe_int (pa_cons pe_int pa_nil))))) pa_nil)))))))))) pss_nil))))
      (pss_one (ps_ret pe_bl))), ?_⟩
    walk_at "go"
    refine ⟨P0, _, st, 4, rfl, by decide, by decide, m.sel (c := draw st) (by walk_at "sel"), fun r H2 r0 r1 m2 => ?_⟩
    have m2 : Mem P0 (maP K (c 0) ad s0 :: tabP (lp 0).2 QB :: draw st :: F) H2 := m2.pr (by walk_at "pr")
    walk_at "go"
    refine l_range1 (by omega) (by omega) (fun i σ H' => (∃ P' s, Ex P0 P' ∧ In26 many (6 + 2 * (i : Int)) s ∧ Mem P' (maP K (c 0) ad s :: tabP (lp 0).2 QB :: draw st :: F) H') ∧ ∃ x2 x3 x4 x5 x6 x7, σ = [some (.ref st), some (.ref ad), x2, x3, x4, x5, x6, x7])
      ⟨⟨P0, s0, Ex.refl _, hin0.mono (by omega), m2⟩, _, _, _, _, _, _, rfl⟩ ?_ ?_
    · rintro i σ H3 hi ⟨⟨P3, s, e3, hin, m3⟩, x2, x3, x4, x5, x6, x7, rfl⟩
      have hmn := hin.mn
      have ht0 := hin.t0
      have ht1 := hin.t1
      have hn0 := hin.ok.nr0
      have hn1 := hin.ok.nrm
      obtain ⟨x, hx, mo⟩ := maOpen m3
      walk_at "go"
      refine ⟨P3, _, st, 5, rfl, by decide, by decide, m3.sel (c := draw st) (by walk_at "sel"), fun p H4 p0 p1 m4 => ?_⟩
      have m4 : Mem P3 (maP K (c 0) ad s :: tabP (lp 0).2 QB :: draw st :: F) H4 := m4.pr (by walk_at "pr")
      have htm : 0 ≤ (if s.term + p - 2 > 1 then s.term + p - 2 else 1) ∧ (if s.term + p - 2 > 1 then s.term + p - 2 else 1) ≤ 6 + 2 * (i : Int) + 2 := by split <;> omega
      obtain ⟨x4', hx4, mo4⟩ := maOpen m4
      walk_at "go"
      generalize (if s.term + p - 2 > 1 then s.term + p - 2 else 1) = tm at htm ⊢
      obtain ⟨tm0, tm1⟩ := htm
      refine i_ndec (fun hc => ?_) (fun hc => ?_)
      · walk_at "go"
        refine i_newL (K := K) mo4 fun el P5 H5 m5 e5 hel => ?_
        walk_at "go"
        have m5c := maPut (s := s) x4' (maFacts.up _ _ e5 hx4) m5 (by walk_at "sel") (by walk_at "sel") (by walk_at "sel") (by walk_at "sel")
        refine ⟨P5, _, ad, s, rfl, m5c, fun t1 l1 P6 H6 e6 ht1 hd1 m6 => ?_⟩
        obtain ⟨x6, hx6, mo6⟩ := maOpen m6
        walk_at "go"
        refine i_cut (fun σ' H' => (∃ P' dl tf, Ex P6 P' ∧ Dp K P' (.ref dl) (.list (s.heard (.stand (tm % s.many) s.nr tm)).2) ∧ Dp K P' (.ref tf) (fieldD (s.heard (.stand (tm % s.many) s.nr tm)).1) ∧ Mem P' (maP K (c 0) ad s :: tabP (lp 0).2 QB :: draw st :: F) H' ∧ ∃ x7, σ' = [some (.ref st), some (.ref ad), some (.int (i : Int)), some (.int tm), some (.ref dl), some (.ref tf), some (.int (tm % s.many)), x7])) ?_ ?_
        · walk_at "go"
          walk_at "ite" <;> intro hlt
          · have hh : s.heard (.stand (tm % s.many) s.nr tm) = ({ s with term := tm, role := "hears" }, [.tuple [.str "voice", .int s.nr, .int (tm % s.many), .int tm, .int s.of, .tuple s.log]]) := if_pos hlt
            rw [hh]
            walk_at "go"
            rename_i rt P7 H7 m7 e7 hrt kt P8 H8 m8 e8 hkt
            walk_at "newL"
            rename_i dl P9 H9 m9 e9 hdl
            walk_at "go"
            have e69 := e7.trans (e8.trans e9)
            refine i_slT (ys := [.int s.nr, .int s.many]) (sqT_up (sqT_up ht1 e69) m9.ex) (by simp [HT.sIx, fieldV]) rfl ?_
            walk_at "go"
            rename_i pa Pa Ha ma ea hpa pb Pb Hb mb eb hpb pc Pc Hc mc ec hpc
            have eac := ea.trans (eb.trans ec)
            refine i_slT (ys := [.int s.of, .ref l1, .int s.done]) (sqT_up (sqT_up ht1 (e69.trans eac)) mc.ex) (by simp [HT.sIx, fieldV]) rfl ?_
            walk_at "go"
            rename_i pd Pd Hd md ed hpd pe Pe He me ee hpe pf Pf Hf mf ef hpf pg Pg Hg mg' eg hpg
            have edg := ed.trans (ee.trans (ef.trans eg))
            have e9g := eac.trans edg
            have e6g := e69.trans e9g
            refine ⟨Pg, dl, pg, e6g, .lst (sqL_up hdl e9g) (.cons (.tup (ex_t (e9.trans e9g) hkt) (.cons (.str _) (.cons (.int _) (.cons (.int _) (.cons (.int _) (.cons (.int _) (.cons (.tup (ex_t (e8.trans (e9.trans e9g)) hrt) (DpAll.up e6g hx6.1)) .nil))))))) .nil), .tup hpg (.cons (.int _) (.cons (.int _) (.cons (.int _) (.cons (.int _) (.cons (dp_up hd1 e6g) (.cons (.int _) (.cons (.str _) .nil))))))), maPut (s := s) x6 (maFacts.up _ _ e6g hx6) mg' (by walk_at "sel") (by walk_at "sel") (by walk_at "sel") (by walk_at "sel"), _, rfl⟩
          · have hh : s.heard (.stand (tm % s.many) s.nr tm) = (s, []) := if_neg hlt
            rw [hh]
            walk_at "go"
            exact ⟨P6, el, t1, Ex.refl _, .lst (sqL_up hel e6) .nil, field_dp ht1 hd1, m6, _, rfl⟩
        · rintro σ' H7 ⟨P7, dl, tf, e7, hdl, htf, m7, y7, rfl⟩
          obtain ⟨x7, hx7, mo7⟩ := maOpen m7
          walk_at "go"
          rename_i kt P8 H8 m8 e8 hkt
          refine ⟨P8, _, ad, kt, s, .stand (tm % s.many) s.nr tm, rfl, hin.small, hkt, maPut (s := s) x7 (maFacts.up _ _ e8 hx7) m8 (by walk_at "sel") (by walk_at "sel") (by walk_at "sel") (by walk_at "sel"), fun D P9 H9 ms e9 hms m9 => ?_⟩
          have in9 := hin.stand (sd := tm % s.many) (to := s.nr) tm1 tm0 (by omega)
          have msg9 := stand_msgs (s := s) (sd := tm % s.many) (to := s.nr) (e := tm) hin.lg
          have len9 : (s.heard (.stand (tm % s.many) s.nr tm)).2.length ≤ 1 := by
            show (if s.term < tm then (({ s with term := tm, role := "hears" } : Ma), [PyData.tuple [.str "voice", .int s.nr, .int (tm % s.many), .int tm, .int s.of, .tuple s.log]]) else (s, [])).2.length ≤ 1
            split
            · exact Nat.le_refl _
            · exact Nat.zero_le _
          generalize s.heard (.stand (tm % s.many) s.nr tm) = hh at hms hdl htf m9 in9 msg9 len9
          walk_at "go"
          refine ⟨P9, _, D, dl, ms, hh.2, rfl, hms, dp_up hdl (e8.trans e9), msg9, m9, fun P10 H10 e10 m10 => ?_⟩
          walk_at "go"
          refine ⟨P10, _, ad, hh.1, rfl, m10.sel (c := maP K (c 0) ad hh.1) (by walk_at "sel"), fun t11 l11 P11 H11 e11 ht11 hd11 m11 => ?_⟩
          walk_at "go"
          have sh := in9.sh
          refine i_neDt (Dp.up m11.ex (field_dp ht11 hd11)) (Dp.up ((e8.trans (e9.trans (e10.trans e11))).trans m11.ex) htf) (sh.ok (by decide)) (sh.ok (by decide)) ?_
          rw [eqv_self sh]
          have hml : ms.length ≤ 1000 := by
            rw [dpLen hms]; omega
          walk_at "go"
          rename_i kp P12 H12 m12 e12 hkp H13 m13
          exact ⟨⟨P12, hh.1, e3.trans (e5.trans (e6.trans (e7.trans (e8.trans (e9.trans (e10.trans (e11.trans e12))))))), in9.mono (by omega), m13.gone (c := pt D (.lst (ms ++ [.ref kp]))) (by walk_at "sel")⟩, _, _, _, _, _, _, rfl⟩
      · walk_at "go"
        exact ⟨⟨P3, s, e3, hin.mono (by omega), m4⟩, _, _, _, _, _, _, rfl⟩
    · rintro σ H3 ⟨⟨P3, s, e3, hin, m3⟩, x2, x3, x4, x5, x6, x7, rfl⟩
      walk_at "go"
      exact q P3 H3 s e3 (hin.mono (by omega)) m3
/-- a master that stands, or leads, by voices that the law keeps as well -/
structure Sta (many : Int) (B : Nat) (s : Ma) (vl : List (Int × (Int × List PyData))) : Prop where
  ok : s.ok
  mn : s.many = many
  m7 : many ≤ 7
  m2 : 2 ≤ many
  lg : RowsOk 2000 s.log
  vr : ∀ p ∈ vl, RowsOk 2000 p.2.2
  ve : s.role = "stands" → vl = s.voices
  v0 : 0 < vl.length
  vb : vl.length ≤ B
  vs : s.voices.length ≤ B
  sz : s.sizes = []
  rl : PyData.strOk s.role = true
  t0 : 0 < s.term
  t1 : s.term ≤ 100
theorem best_ok {n : Nat} {ds : List (Int × List PyData)} (h : ∀ d ∈ ds, RowsOk n d.2) : RowsOk n (bestL ds) := by
  unfold bestL
  rw [List.getD_eq_getElem?_getD]
  cases e : ds[argBest (fun i j => ltII (keyD ds j) (keyD ds i)) (ds.length - 1)]? with
  | none => exact ⟨(fun _ z => by cases z), Nat.zero_le _⟩
  | some d => exact h d (List.mem_of_getElem? e)
theorem dset_mem {α : Type} {l : List (Int × α)} {k : Int} {v : α} {p : Int × α} (h : p ∈ dset l k v) : p ∈ l ∨ p.2 = v := by
  unfold dset at h
  split at h
  · obtain ⟨x, hx, rfl⟩ := List.mem_map.mp h
    split
    · exact .inr rfl
    · exact .inl hx
  · rcases List.mem_append.mp h with h | h
    · exact .inl h
    · rw [List.mem_singleton] at h; subst h; exact .inr rfl
theorem vosGet {K : PySem.W.Frag} {P : Hp} {vv : List (Key × V)} {ds : List (Int × (Int × List PyData))} {k : Int} {v : V} (h : VosR K P vv ds) (e : valV vv (Sum.inl k) = some v) : ∃ d, (k, d) ∈ ds ∧ VoR K P v d := by
  induction h with
  | nil => simp [valV] at e
  | @cons p q ps qs a t ih =>
    unfold valV at e ih
    rw [List.find?_cons] at e
    by_cases z : p.1 = Sum.inl k
    · rw [decide_eq_true z] at e
      have ev : p.2 = v := by simpa using e
      have ek : q.1 = k := Sum.inl.inj (a.1.symm.trans z)
      refine ⟨q.2, ?_, ev ▸ a.2⟩
      rw [← ek]
      exact List.mem_cons_self
    · rw [decide_eq_false z] at e
      obtain ⟨d, hd, hv⟩ := ih e
      exact ⟨d, List.mem_cons_of_mem _ hd, hv⟩
theorem Sta.small {many : Int} {B : Nat} {s : Ma} {vl : List (Int × (Int × List PyData))} (h : Sta many B s vl) (hB : B ≤ 100) : s.small := ⟨h.ok, Nat.le_trans h.vs (by omega), by rw [h.sz]; exact Nat.zero_le _, Nat.le_trans h.lg.2 (by decide)⟩
theorem Sta.sh {many : Int} {B : Nat} {s : Ma} {vl : List (Int × (Int × List PyData))} (h : Sta many B s vl) : Sh 3 (fieldD s) := field_sh h.lg h.rl
theorem In26.risen {many : Int} {s : Ma} (h : In26 many 20 s) (m2 : 2 ≤ many) : Sta many 1 s.risen [(s.nr, (s.of, s.log))] := by
  have hmn := h.mn
  have ht0 := h.t0
  have ht1 := h.t1
  have hm7 := h.m7
  have e : s.risen = { s with term := riseT s.nr s.many s.term, role := "stands", voices := [(s.nr, (s.of, s.log))] } := by
    unfold Ma.risen Ma.count
    exact if_neg (by show ¬ s.many < 2 * ((1 : Nat) : Int); omega)
  have hk := h.ok.risen
  have rg := riseT_ge (nr := s.nr) (term := s.term) (many := s.many) (by omega)
  have rl : riseT s.nr s.many s.term ≤ s.term + 7 := by
    have := Int.emod_lt_of_pos (s.nr - (s.term + 1)) (show 0 < s.many by omega)
    unfold riseT
    omega
  rw [e] at hk ⊢
  exact ⟨hk, h.mn, h.m7, m2, h.lg, fun p hp => by rw [List.mem_singleton] at hp; subst hp; exact h.lg, fun _ => rfl, by show 0 < 1; decide, Nat.le_refl _, Nat.le_refl _, h.sz, by show PyData.strOk "stands" = true; decide +kernel, by show 0 < riseT s.nr s.many s.term; omega, by show riseT s.nr s.many s.term ≤ 100; omega⟩
def newVl (s : Ma) (vl : List (Int × (Int × List PyData))) (sd e f : Int) (rows : List PyData) : List (Int × (Int × List PyData)) := if s.role = "stands" ∧ e = s.term then dset vl sd (f, rows) else vl
theorem Sta.voice {many sd to e f : Int} {B : Nat} {s : Ma} {vl : List (Int × (Int × List PyData))} {rows : List PyData} (h : Sta many B s vl) (hr : RowsOk 2000 rows) : Sta many (B + 1) (s.heard (.voice sd to e f rows)).1 (newVl s vl sd e f rows) := by
  show Sta many (B + 1) (if s.role = "stands" ∧ e = s.term then (Ma.count { s with voices := dset s.voices sd (f, rows) }, ([] : List PyData)) else (s, [])).1 (if s.role = "stands" ∧ e = s.term then dset vl sd (f, rows) else vl)
  by_cases hc : s.role = "stands" ∧ e = s.term
  · rw [if_pos hc, if_pos hc]
    have hve := h.ve hc.1
    have hdl := dset_len s.voices sd (f, rows)
    have hvb := h.vs
    have hvr : ∀ p ∈ dset s.voices sd (f, rows), RowsOk 2000 p.2.2 := fun p hp => by
      rcases dset_mem hp with z | z
      · exact h.vr p (by rw [hve]; exact z)
      · rw [z]; exact hr
    rw [hve]
    unfold Ma.count
    split
    · refine ⟨⟨h.ok.nr0, h.ok.nrm, h.ok.many⟩, h.mn, h.m7, h.m2, best_ok fun d hd => ?_, hvr, fun z => absurd z (by show ¬ (("leads" : Str) = "stands"); decide), hdl.2, Nat.le_trans hdl.1 (Nat.succ_le_succ hvb), Nat.le_trans hdl.1 (Nat.succ_le_succ hvb), rfl, by show PyData.strOk "leads" = true; decide +kernel, h.t0, h.t1⟩
      obtain ⟨p, hp, rfl⟩ := List.mem_map.mp hd
      exact hvr p hp
    · exact ⟨⟨h.ok.nr0, h.ok.nrm, h.ok.many⟩, h.mn, h.m7, h.m2, h.lg, hvr, fun _ => rfl, hdl.2, Nat.le_trans hdl.1 (Nat.succ_le_succ hvb), Nat.le_trans hdl.1 (Nat.succ_le_succ hvb), h.sz, h.rl, h.t0, h.t1⟩
  · rw [if_neg hc, if_neg hc]
    exact ⟨h.ok, h.mn, h.m7, h.m2, h.lg, h.vr, h.ve, h.v0, Nat.le_succ_of_le h.vb, Nat.le_succ_of_le h.vs, h.sz, h.rl, h.t0, h.t1⟩
theorem voice_nil {s : Ma} {sd to e f : Int} {rows : List PyData} : (s.heard (.voice sd to e f rows)).2 = [] := by
  show (if s.role = "stands" ∧ e = s.term then (Ma.count { s with voices := dset s.voices sd (f, rows) }, ([] : List PyData)) else (s, [])).2 = []
  split <;> rfl
def spVoiced (K : PySem.W.Frag) (C Pt Pv : Addr) : Sp := fun vs H Q _ => ∃ (P : Hp) (F : List Ch) (st a : Addr) (s : Ma) (many : Int), vs = [.ref st, .ref a] ∧ In26 many 20 s ∧ 2 ≤ many ∧ Mem P (maP K C a s :: tabP Pt QB :: draw st :: tabP Pv QV :: F) H ∧
  ∀ P' H', Ex P P' → Mem P' (tabP Pt QB :: draw st :: tabP Pv QV :: F) H' → Q (.bl true) H'
theorem ok_law_voiced (T : Txt K mg a c fd lp) (B : ∀ i, i < 2 → TabB base mg (lp i).1 (lp i).2) : FnOk P w K mg base CX0 4 (a 24) (fd 24) ["_law_left_here", "_law_one"] (spVoiced K (c 0) (lp 0).2 (lp 1).2) := by
  refine fnC T.F24 T.lam_law_voiced sc_law_voiced (fun vs H Q E h => ?_) (fun cdv A outer s H vs Q E hcd hr h => ?_)
  · obtain ⟨_, _, _, _, _, _, rfl, _⟩ := h; rfl
  · obtain ⟨P0, F, st, ad, s0, many, rfl, hin0, hm2, m, q⟩ := h
    obtain ⟨x0, hx0, mo0⟩ := maOpen m
    have G_Master_rise := ok_Master_rise (P := P) (w := w) (base := base) T B
    have G_law_pick := ok_law_pick (P := P) (w := w) (base := base) T B
    have G_law_log_by := ok_law_log_by (P := P) (w := w) (base := base) T B
    have G_law_fields := ok_law_fields (P := P) (w := w) (base := base) T B
    have G_Master_hear := ok_Master_hear (P := P) (w := w) (base := base) T B
    refine ⟨_, (pss_cons (ps_set (i := 2) sc_law_voiced.nd rfl (Or.inl rfl) (pe_disp (pps_cons (peF (K := K) rfl (pv 1) rfl) (pe_tup (pa_cons (peF (K := K) rfl (pv 1) rfl) (pa_cons (pe_callTy (tupOf (K := K) rfl) (by rfl) T.g_tuple (by decide +kernel) (pa_cons (peF (K := K) rfl (pv 1) rfl) pa_nil)) pa_nil))) pps_nil) rfl rfl (fun z => nomatch z) (by decide)))
      (pss_cons (ps_expr (pe_meth0 (pv 1) T.cl_Master T.me5 G_Master_rise hr T.b5 .nil pass0))
      (pss_cons (ps_for PassesOwn.never rfl (pi_range1 rfl T.g_range (pa_cons (pe_call G_law_pick (hr.mono (by decide)) rfl T.m17 T.F17.kp T.b17 .nil pass0 (pa_cons (pv 0) (pa_cons pe_int pa_nil))) pa_nil)) (pg_name (i := 3) sc_law_voiced.nd rfl (Or.inl rfl))
      (pss_cons (ps_set (i := 4) sc_law_voiced.nd rfl (Or.inl rfl) (pe_op op_mod (pe_op op_add (pe_op op_add (peF (K := K) rfl (pv 1) rfl) pe_int) (pe_call G_law_pick (hr.mono (by decide)) rfl T.m17 T.F17.kp T.b17 .nil pass0 (pa_cons (pv 0) (pa_cons (pe_op op_sub (peF (K := K) rfl (pv 1) rfl) pe_int) pa_nil)))) (peF (K := K) rfl (pv 1) rfl)))
      (pss_cons (ps_set (i := 5) sc_law_voiced.nd rfl (Or.inl rfl) (pe_callB (mx2 rfl) (by rfl) T.g_max (by decide +kernel) (pa_cons pe_int (pa_cons (pe_op op_sub (peF (K := K) rfl (pv 1) rfl) (pe_ix (ixL (K := K) rfl) (pe_lst (pa_cons pe_int (pa_cons pe_int (pa_cons pe_int (pa_cons pe_int (pa_cons (peF (K := K) rfl (pv 1) rfl) pa_nil)))))) (pe_call G_law_pick (hr.mono (by decide)) rfl T.m17 T.F17.kp T.b17 .nil pass0 (pa_cons (pv 0) (pa_cons pe_int pa_nil))) (fun _ _ => rfl))) pa_nil))))
      (pss_cons (ps_asg (pe_call G_law_log_by (hr.mono (by decide)) rfl T.m21 T.F21.kp T.b21 .nil pass0 (pa_cons (pv 0) (pa_cons (peF (K := K) rfl (pv 1) rfl) pa_nil))) (pgT (K := K) rfl rfl (pgs_cons (pg_name (i := 6) sc_law_voiced.nd rfl (Or.inl rfl)) (pgs_cons (pg_name (i := 7) sc_law_voiced.nd rfl (Or.inl rfl)) pgs_nil))))
      (pss_cut (ps_if (pt_cmp (pc_din (hu_of hr) (pv 4) (pv 2))) (pss_one (ps_asg (pe_dget (hu_of hr) (pv 2) (pv 4) (fun _ _ => rfl)) (pgT (K := K) rfl rfl (pgs_cons (pg_name (i := 6) sc_law_voiced.nd rfl (Or.inl rfl)) (pgs_cons (pg_name (i := 7) sc_law_voiced.nd rfl (Or.inl rfl)) pgs_nil))))) pss_nil)
      (pss_cons (ps_set (i := 8) sc_law_voiced.nd rfl (Or.inl rfl) (pe_call G_law_fields (hr.mono (by decide)) rfl T.m18 T.F18.kp T.b18 .nil pass0 (pa_cons (pv 1) pa_nil)))
      (pss_cut (ps_if (PW.pt (pw_and (pt_cmpR op_eq (peF (K := K) rfl (pv 1) rfl) pe_str (nomark _)) (pw_and1 (pt_cmpR op_eq (pv 5) (peF (K := K) rfl (pv 1) rfl) (nomark _))))) (pss_cons (ps_dput (hu_of hr) (pv 2) (pv 4) (pe_tup (pa_cons (pv 6) (pa_cons (pv 7) pa_nil))) rfl)
      (pss_one (ps_if (pt_cmpR op_gt (pe_op op_mul pe_int (pe_callB lenD (by rfl) T.g_len (by decide +kernel) (pa_cons (pv 2) pa_nil))) (peF (K := K) rfl (pv 1) rfl) (nomark _)) (pss_cons (ps_set (i := 9) sc_law_voiced.nd rfl (Or.inl rfl) (maxPLV (K := K) rfl hr (peM0 (K := K) rfl PySem.F.plainAttrs_dict PySem.F.slot_dict_values PySem.F.type_dict_values mt_vals (pv 2)) (B 1 (by decide)) hcd rfl (by rfl) T.g_max T.g_len rfl ⟨rfl, rfl, rfl, by decide, by decide, rfl⟩ rfl (fun _ _ _ => rfl) (fun _ _ _ => rfl) (by decide) (fun _ _ _ _ => rfl)))
      (pss_one (ps_set (i := 8) sc_law_voiced.nd rfl (Or.inl rfl) (pe_op (catT (K := K) rfl) (pe_slice (slT (K := K) rfl) (pv 8) po_none (po_some pe_int)) (pe_tup (pa_cons (peF (K := K) rfl (pv 1) rfl) (pa_cons (pe_callTy (listOf (K := K) rfl) (by rfl) T.g_list (by decide +kernel) (pa_cons (pe_ix (ixT (K := K) rfl) (pv 9) pe_int (fun _ _ => rfl)) pa_nil)) (pa_cons (pe_ix (ixT (K := K) rfl) (pv 8) pe_int (fun _ _ => rfl)) (pa_cons pe_str pa_nil))))))))) pss_nil))) pss_nil)
      (pss_one (ps_if (PW.pt (pw_or (pt_cmpR (neD (K := K) rfl hr.units) (pe_meth (pv 1) T.cl_Master T.me11 G_Master_hear hr T.b11 .nil pass0 (pa_cons (pe_tup (pa_cons pe_str (pa_cons (pv 4) (pa_cons (peF (K := K) rfl (pv 1) rfl) (pa_cons (pv 5) (pa_cons (pv 6) (pa_cons (pv 7) pa_nil))))))) pa_nil)) (pe_lst pa_nil) (nomark _)) (pw_or1 (pt_cmpR (neD (K := K) rfl hr.units) (pe_call G_law_fields (hr.mono (by decide)) rfl T.m18 T.F18.kp T.b18 .nil pass0 (pa_cons (pv 1) pa_nil)) (pv 8) (nomark _))))) (pss_one (ps_ret pe_bl)) pss_nil)))))))))
      (pss_one (ps_ret pe_bl))))), ?_⟩
    walk_at "go"
    rename_i d Ha ma r P1 Hb mb e1 hr1 t P2 Hc mc e2 ht Hd md
    have e12 := e1.trans e2
    have hst := hin0.risen hm2
    have md2 : Mem P2 (maP K (c 0) ad s0 :: tabP (lp 0).2 QB :: draw st :: tabP (lp 1).2 QV :: pt d (.dK [(Sum.inl s0.nr, .ref t)]) :: F) Hd := (maPut (s := s0) x0 (maFacts.up _ _ e12 hx0) md (by walk_at "sel") (by walk_at "sel") (by walk_at "sel") (by walk_at "sel")).pr (by walk_at "pr")
    refine ⟨P2, _, ad, s0, rfl, hin0.ok, md2, fun D P3 H3 ms e3 hms m3 => ?_⟩
    have m3 := m3.drop
    have hvv : VosR K P3 [(Sum.inl s0.nr, .ref t)] [(s0.nr, (s0.of, s0.log))] := .cons ⟨rfl, t, r, x0.lv, rfl, ex_t e3 ht, ex_t (e2.trans e3) hr1, DpAll.up (e12.trans e3) hx0.1⟩ .nil
    generalize s0.risen = s3 at hst m3
    walk_at "go"
    refine ⟨P3, _, st, 15, rfl, by decide, by decide, m3.sel (c := draw st) (by walk_at "sel"), fun r4 H4 r40 r41 m4 => ?_⟩
    have m4 : Mem P3 (maP K (c 0) ad s3 :: tabP (lp 0).2 QB :: draw st :: tabP (lp 1).2 QV :: pt d (.dK [(Sum.inl s0.nr, .ref t)]) :: F) H4 := m4.pr (by walk_at "pr")
    walk_at "go"
    refine l_range1 (by omega) (by omega) (fun i σ H' => (∃ P' s vl vv, Ex P3 P' ∧ Sta many (1 + i) s vl ∧ VosR K P' vv vl ∧ Mem P' (maP K (c 0) ad s :: tabP (lp 0).2 QB :: draw st :: tabP (lp 1).2 QV :: pt d (.dK vv) :: F) H') ∧ ∃ x3 x4 x5 x6 x7 x8 x9, σ = [some (.ref st), some (.ref ad), some (.ref d), x3, x4, x5, x6, x7, x8, x9])
      ⟨⟨P3, s3, _, _, Ex.refl _, hst, hvv, m4⟩, _, _, _, _, _, _, _, rfl⟩ ?_ ?_
    · rintro i σ H5 hi ⟨⟨P5, s, vl, vv, e5, hs, hvv, m5⟩, x3, x4, x5, x6, x7, x8, x9, rfl⟩
      have hmn := hs.mn
      have hm7 := hs.m7
      have ht0 := hs.t0
      have ht1 := hs.t1
      obtain ⟨y5, hy5, mo5⟩ := maOpen m5
      walk_at "go"
      refine ⟨P5, _, st, _, rfl, by omega, by omega, m5.sel (c := draw st) (by walk_at "sel"), fun r6 H6 r60 r61 m6 => ?_⟩
      have m6 : Mem P5 (maP K (c 0) ad s :: tabP (lp 0).2 QB :: draw st :: tabP (lp 1).2 QV :: pt d (.dK vv) :: F) H6 := m6.pr (by walk_at "pr")
      obtain ⟨y6, hy6, mo6⟩ := maOpen m6
      walk_at "go"
      refine i_newL (K := K) mo6 fun kl P7 H7 m7 e7 hkl => ?_
      walk_at "go"
      refine ⟨P7, _, st, 5, rfl, by decide, by decide, m7.sel (c := draw st) (by walk_at "sel"), fun r8 H8 r80 r81 m8 => ?_⟩
      have hz : ∃ z : Int, atI [V.int 0, V.int 0, V.int 0, V.int 0, V.int s.many] r8 = some (V.int z) := by
        rcases (show r8 = 0 ∨ r8 = 1 ∨ r8 = 2 ∨ r8 = 3 ∨ r8 = 4 by omega) with rfl | rfl | rfl | rfl | rfl <;> exact ⟨_, rfl⟩
      obtain ⟨z, hz⟩ := hz
      refine i_ixL (by walk_at "sq") hz ?_
      walk_at "go"
      have m8c : Mem P7 (maP K (c 0) ad s :: tabP (lp 0).2 QB :: draw st :: tabP (lp 1).2 QV :: pt d (.dK vv) :: F) H8 := (maPut (s := s) y6 (maFacts.up _ _ e7 hy6) m8 (by walk_at "sel") (by walk_at "sel") (by walk_at "sel") (by walk_at "sel")).pr (by walk_at "pr")
      refine ⟨P7, _, st, s.term, rfl, ht0, by omega, m8c.sel (c := draw st) (by walk_at "sel"), fun tt rt P9 H9 o rv ds e9 htt hrt hds hrok m9 => ?_⟩
      have m9 : Mem P9 (maP K (c 0) ad s :: tabP (lp 0).2 QB :: draw st :: tabP (lp 1).2 QV :: pt d (.dK vv) :: F) H9 := m9.pr (by walk_at "pr")
      generalize (s.nr + 1 + r6) % s.many = sd
      walk_at "go"
      generalize (if s.term - z > 0 then s.term - z else 0) = tm
      have hvv9 := VosR.up (e7.trans e9) hvv
      refine i_cut (fun σ' H' => ∃ P' f rt rv ds, Ex P9 P' ∧ SqT K P' rt rv ∧ DpAll K P' rv ds ∧ RowsOk 2000 ds ∧ Mem P' (maP K (c 0) ad s :: tabP (lp 0).2 QB :: draw st :: tabP (lp 1).2 QV :: pt d (.dK vv) :: F) H' ∧ ∃ y8 y9, σ' = [some (.ref st), some (.ref ad), some (.ref d), some (.int (i : Int)), some (.int sd), some (.int tm), some (.int f), some (.ref rt), y8, y9]) ?_ ?_
      · walk_at "go"
        refine i_dinAt (a := d) (k := Sum.inl sd) m9 (by walk_at "sel") ?_
        walk_at "go"
        refine i_ite (fun h => ?_) (fun h => ?_)
        · obtain ⟨v, hv⟩ := Option.isSome_iff_exists.mp h
          obtain ⟨dd, hdm, t', r', rows', rfl, k1, k2, k3⟩ := vosGet hvv9 hv
          walk_at "go"
          refine i_dgetAt (a := d) (k := Sum.inl sd) m9 (by walk_at "sel") hv ?_
          walk_at "go"
          exact ⟨P9, dd.1, r', rows', dd.2, Ex.refl _, k2, k3, hs.vr _ hdm, m9, _, _, rfl⟩
        · walk_at "go"
          exact ⟨P9, o, rt, rv, ds, Ex.refl _, hrt, hds, hrok, m9, _, _, rfl⟩
      · rintro σ' H10 ⟨P10, f, rt, rv, ds, e10, hrt, hds, hrok, m10, y8, y9, rfl⟩
        walk_at "go"
        refine ⟨P10, _, ad, s, rfl, m10, fun t1 l1 P11 H11 e11 ht1 hd1 m11 => ?_⟩
        have hvv11 := VosR.up (e10.trans e11) hvv9
        have hrt11 := ex_t e11 hrt
        have hds11 := DpAll.up e11 hds
        walk_at "go"
        refine i_cut (fun σ' H' => ∃ P' tf vv', Ex P11 P' ∧ VosR K P' vv' (newVl s vl sd tm f ds) ∧ Dp K P' (.ref tf) (fieldD (s.heard (.voice sd s.nr tm f ds)).1) ∧ Mem P' (maP K (c 0) ad s :: tabP (lp 0).2 QB :: draw st :: tabP (lp 1).2 QV :: pt d (.dK vv') :: F) H' ∧ ∃ z9, σ' = [some (.ref st), some (.ref ad), some (.ref d), some (.int (i : Int)), some (.int sd), some (.int tm), some (.int f), some (.ref rt), some (.ref tf), z9]) ?_ ?_
        · refine i_ifJ (fun H' => (s.role = "stands" ∧ tm = s.term) ∧ Mem P11 (maP K (c 0) ad s :: tabP (lp 0).2 QB :: draw st :: tabP (lp 1).2 QV :: pt d (.dK vv) :: F) H') (fun H' => ¬ (s.role = "stands" ∧ tm = s.term) ∧ Mem P11 (maP K (c 0) ad s :: tabP (lp 0).2 QB :: draw st :: tabP (lp 1).2 QV :: pt d (.dK vv) :: F) H') ?_ ?_ ?_
          · rintro H12 ⟨hc, m12⟩
            obtain ⟨y12, hy12, mo12⟩ := maOpen m12
            walk_at "go"
            rename_i pt1 P13 H13 m13 e13 hpt
            obtain ⟨hc1, hc2⟩ := hc
            have hve := hs.ve hc1
            have hvb := hs.vb
            have hvl : vv.length = vl.length := Paired.length hvv11
            refine i_dputAt (a := d) (k := Sum.inl sd) m13 (by walk_at "updc") (by omega) fun H14 m14 => ?_
            have hvv14 : VosR K P13 (putK vv (Sum.inl sd) (.ref pt1)) (dset vl sd (f, ds)) := vosPut (VosR.up e13 hvv11) ⟨pt1, rt, rv, rfl, hpt, ex_t e13 hrt11, DpAll.up e13 hds11⟩
            have hnew : newVl s vl sd tm f ds = dset vl sd (f, ds) := if_pos ⟨hc1, hc2⟩
            have hh : s.heard (.voice sd s.nr tm f ds) = (Ma.count { s with voices := dset vl sd (f, ds) }, []) := by
              rw [hve]
              exact if_pos ⟨hc1, hc2⟩
            have hdl := (dset_len vl sd (f, ds)).2
            rw [hnew, hh]
            generalize putK vv (Sum.inl sd) (.ref pt1) = vv2 at hvv14 m14
            generalize dset vl sd (f, ds) = vl2 at hvv14 hdl ⊢
            have hl2 : vv2.length = vl2.length := Paired.length hvv14
            walk_at "go"
            walk_at "ite" <;> intro hm
            · have hcnt : Ma.count { s with voices := vl2 } = { s with voices := vl2, log := bestL (vl2.map (·.2)), of := s.term, role := "leads", sizes := [] } := if_pos (by rw [← hl2]; exact hm)
              rw [hcnt]
              walk_at "go"
              refine i_tyD (a := d) m14 (by walk_at "sel") ?_
              refine i_valsK (a := d) m14 (by walk_at "sel") fun pv H15 m15 => ?_
              refine i_maxVT (d := d) (key := keyD (vl2.map (·.2))) (m15.sel (c := tabP (lp 1).2 QV) (by walk_at "sel")) (by walk_at "sel") (by walk_at "sel") (by omega) (fun i x hx => ?_) (fun P16 H16 x e16 m16 hx => ?_)
              · obtain ⟨d', hd', t', r', rows', h1, k1, k2, k3⟩ := pget (vosVals hvv14) hx
                have ek : keyD (vl2.map (·.2)) i = (d'.1, (d'.2.length : Int)) := by unfold keyD; rw [getD_of hd']
                rw [ek]
                exact ⟨t', r', rows', h1, k1, k2, by rw [dpLen k3]⟩
              · obtain ⟨d', hd', t', r', rows', rfl, k1, k2, k3⟩ := pget (vosVals hvv14) hx
                have hb : bestL (vl2.map (·.2)) = d'.2 := by
                  unfold bestL
                  rw [List.length_map, ← hl2, getD_of hd']
                have k1 := ex_t e16 k1
                have k2 := ex_t e16 k2
                have k3 := DpAll.up e16 k3
                have e1116 := e13.trans e16
                walk_at "go"
                refine i_slT (ys := [.int s.nr, .int s.many, .int s.term]) (sqT_up (sqT_up ht1 e1116) m16.ex) (by simp [HT.sIx, fieldV]) rfl ?_
                walk_at "go"
                rename_i pa Pa Ha ma ea hpa
                walk_at "newL"
                rename_i pl Pb Hb mb eb hpl
                have ht1b := sqT_up ht1 (e1116.trans (ea.trans eb))
                unfold fieldV at ht1b
                walk_at "go"
                rename_i pc Pc Hc' mc ec hpc pd Pd Hd' md' ed hpd
                have e1d := ea.trans (eb.trans (ec.trans ed))
                have e11d := e1116.trans e1d
                rw [hb]
                refine ⟨Pd, pd, vv2, e11d, VosR.up (e16.trans e1d) hvv14, .tup hpd (.cons (.int _) (.cons (.int _) (.cons (.int _) (.cons (.int _) (.cons (.lst (sqL_up hpl (ec.trans ed)) (DpAll.up e1d k3)) (.cons (.int _) (.cons (.str _) .nil))))))), ?_, _, rfl⟩
                exact ((maPut (s := s) y12 (maFacts.up _ _ e11d hy12) md' (by walk_at "sel") (by walk_at "sel") (by walk_at "sel") (by walk_at "sel")).gone (c := pt pv (valsO pv d)) (by walk_at "sel")).pr (by walk_at "pr")
            · have hcnt : Ma.count { s with voices := vl2 } = { s with voices := vl2 } := if_neg (by rw [← hl2]; exact hm)
              rw [hcnt]
              walk_at "go"
              exact ⟨P13, t1, vv2, e13, hvv14, field_dp (s := s) (sqT_up ht1 e13) (dp_up hd1 e13), (maPut (s := s) y12 (maFacts.up _ _ e13 hy12) m14 (by walk_at "sel") (by walk_at "sel") (by walk_at "sel") (by walk_at "sel")).pr (by walk_at "pr"), _, rfl⟩
          · rintro H12 ⟨hc, m12⟩
            walk_at "go"
            have h1 : newVl s vl sd tm f ds = vl := if_neg hc
            have h2 : s.heard (.voice sd s.nr tm f ds) = (s, []) := if_neg hc
            rw [h1, h2]
            exact ⟨P11, t1, vv, Ex.refl _, hvv11, field_dp ht1 hd1, m12, _, rfl⟩
          · intro TA TB hA hB
            obtain ⟨y12, hy12, mo12⟩ := maOpen m11
            walk_at "go"
            refine i_dec (fun h1 => ?_) (fun h1 => ?_)
            · walk_at "go"
              refine i_dec (fun h2 => ?_) (fun h2 => ?_)
              · walk_at "go"
                exact hA _ ⟨⟨h1, h2⟩, m11⟩
              · walk_at "go"
                exact hB _ ⟨fun z => h2 z.2, m11⟩
            · walk_at "go"
              exact hB _ ⟨fun z => h1 z.1, m11⟩
        · rintro σ'' H12 ⟨P12, tf, vv', e12', hvv12, htf, m12, z9, rfl⟩
          obtain ⟨y12, hy12, mo12⟩ := maOpen m12
          walk_at "go"
          rename_i kt P13 H13 m13 e13 hkt
          have m13c : Mem P13 (maP K (c 0) ad s :: tabP (lp 0).2 QB :: draw st :: tabP (lp 1).2 QV :: pt d (.dK vv') :: F) H13 := (maPut (s := s) y12 (maFacts.up _ _ e13 hy12) m13 (by walk_at "sel") (by walk_at "sel") (by walk_at "sel") (by walk_at "sel")).pr (by walk_at "pr")
          have e1113 := e12'.trans e13
          refine ⟨P13, _, ad, kt, s, .voice sd s.nr tm f ds, rfl, hs.small (by omega), ⟨rt, rv, hkt, ex_t e1113 hrt11, DpAll.up e1113 hds11⟩, m13c, fun D P14 H14 ms e14 hms m14 => ?_⟩
          have in14 := hs.voice (sd := sd) (to := s.nr) (e := tm) (f := f) hrok
          rw [voice_nil] at hms
          cases hms
          generalize (s.heard (.voice sd s.nr tm f ds)).1 = s4 at htf m14 in14
          walk_at "go"
          refine i_newL (K := K) m14 fun el P15 H15 m15 e15 hel => ?_
          refine i_neDt (d := .list []) (e := .list []) (.lst (SqL.of (m15.rd .z)) .nil) (.lst (sqL_up hel m15.ex) .nil) rfl rfl ?_
          rw [show PyData.eqv (.list []) (.list []) = true from rfl]
          walk_at "go"
          refine ⟨P15, _, ad, s4, rfl, m15.drop, fun t16 l16 P16 H16 e16 ht16 hd16 m16 => ?_⟩
          walk_at "go"
          have sh := in14.sh
          have e1316 := e13.trans (e14.trans (e15.trans e16))
          refine i_neDt (Dp.up m16.ex (field_dp ht16 hd16)) (Dp.up (e1316.trans m16.ex) htf) (sh.ok (by decide)) (sh.ok (by decide)) ?_
          rw [eqv_self sh]
          walk_at "go"
          exact ⟨⟨P16, s4, _, vv', e5.trans (e7.trans (e9.trans (e10.trans (e11.trans (e12'.trans e1316))))), by rw [show 1 + (i + 1) = 1 + i + 1 by omega]; exact in14, VosR.up e1316 hvv12, m16⟩, _, _, _, _, _, _, _, rfl⟩
    · rintro σ H5 ⟨⟨P5, s, vl, vv, e5, hs, hvv, m5⟩, x3, x4, x5, x6, x7, x8, x9, rfl⟩
      walk_at "go"
      exact q P5 H5 (e12.trans (e3.trans e5)) (m5.drop.gone (c := pt d (.dK vv)) (by walk_at "sel"))
theorem capN (x : Int) (h : 0 ≤ x) : 1 ≤ (if (if 8 < x then 8 else x) > 1 then (if 8 < x then 8 else x) else 1) ∧ (if (if 8 < x then 8 else x) > 1 then (if 8 < x then 8 else x) else 1) ≤ 8 := by
  split <;> split <;> omega
def spLaw (K : PySem.W.Frag) (Pt Pv : Addr) : Sp := fun vs H Q _ => ∃ (P : Hp) (a : Addr) (ns : List Int), vs = [.ref a] ∧ SqL K P a (ns.map V.int) ∧ ns.length ≤ 63 ∧ Mem P [tabP Pt QB, tabP Pv QV] H ∧ ∀ H', Q (.bl true) H'
theorem ok_law (T : Txt K mg a c fd lp) (B : ∀ i, i < 2 → TabB base mg (lp i).1 (lp i).2) : FnOk P w K mg base CX0 5 (a 25) (fd 25) ["_law_script"] (spLaw K (lp 0).2 (lp 1).2) := by
  refine T.F25.ok sc_law (fun vs H Q E h => ?_) (fun cdv A outer s H vs Q E hr h => ?_)
  · obtain ⟨_, _, _, rfl, _⟩ := h; rfl
  · obtain ⟨P0, ad, ns, rfl, hS, hlen, m, q⟩ := h
    have G_law_left := ok_law_left (P := P) (w := w) (base := base) T B
    have G_law_fields := ok_law_fields (P := P) (w := w) (base := base) T B
    have G_law_pick := ok_law_pick (P := P) (w := w) (base := base) T B
    have G_Master_hear := ok_Master_hear (P := P) (w := w) (base := base) T B
    have G_law_kept_log := ok_law_kept_log (P := P) (w := w) (base := base) T B
    have G_law_asked_for := ok_law_asked_for (P := P) (w := w) (base := base) T B
    have G_law_voiced := ok_law_voiced (P := P) (w := w) (base := base) T B
    have G_Master___init__ := ok_Master___init__ (P := P) (w := w) (base := base) T B
    refine ⟨_, (pss_cons (ps_for PassesOwn.never rfl (pi_range1 rfl T.g_range (pa_cons (pe_callB (mx2 rfl) (by rfl) T.g_max (by decide +kernel) (pa_cons pe_int (pa_cons (pe_callB (mn2 rfl) (by rfl) T.g_min (by decide +kernel) (pa_cons (pe_callB (lenQ (K := K) rfl) (by rfl) T.g_len (by decide +kernel) (pa_cons (pv 0) pa_nil)) (pa_cons pe_int pa_nil))) pa_nil))) pa_nil)) (pg_name (i := 1) sc_law.nd rfl (Or.inl rfl))
      (pss_cons (ps_set (i := 2) sc_law.nd rfl (Or.inl rfl) (pe_call G_law_left (hr.mono (by decide)) rfl T.m16 T.F16.kp T.b16 .nil pass0 (pa_cons (pv 0) (pa_cons (pv 1) pa_nil))))
      (pss_cons (ps_set (i := 3) sc_law.nd rfl (Or.inl rfl) (pe_op op_add pe_int (pe_call G_law_pick (hr.mono (by decide)) rfl T.m17 T.F17.kp T.b17 .nil pass0 (pa_cons (pv 2) (pa_cons pe_int pa_nil)))))
      (pss_cons (ps_set (i := 4) sc_law.nd rfl (Or.inl rfl) (pe_make T.M_Master G_Master___init__ (hr.mono (by decide)) rfl T.C_Master T.b3 .nil pass0 (pa_cons (pe_call G_law_pick (hr.mono (by decide)) rfl T.m17 T.F17.kp T.b17 .nil pass0 (pa_cons (pv 2) (pa_cons (pv 3) pa_nil))) (pa_cons (pv 3) pa_nil))))
      (pss_cons (ps_if (PW.pt (pw_or (pt_not (pt_val (pe_call G_law_kept_log hr rfl T.m22 T.F22.kp T.b22 .nil pass0 (pa_cons (pv 2) (pa_cons (pv 4) pa_nil))))) (pw_or1 (pt_not (pt_val (pe_call G_law_asked_for hr rfl T.m23 T.F23.kp T.b23 .nil pass0 (pa_cons (pv 2) (pa_cons (pv 4) pa_nil)))))))) (pss_one (ps_ret pe_bl)) pss_nil)
      (pss_cons (ps_set (i := 5) sc_law.nd rfl (Or.inl rfl) (pe_call G_law_fields (hr.mono (by decide)) rfl T.m18 T.F18.kp T.b18 .nil pass0 (pa_cons (pv 4) pa_nil)))
      (pss_cons (ps_if (pt_cmpR (neD (K := K) rfl hr.units) (pe_meth (pv 4) T.cl_Master T.me11 G_Master_hear (hr.mono (by decide)) T.b11 .nil pass0 (pa_cons (pe_tup (pa_cons pe_str (pa_cons (pe_op op_mod (pe_op op_add (peF (K := K) rfl (pv 4) rfl) pe_int) (pv 3)) (pa_cons (peF (K := K) rfl (pv 4) rfl) (pa_cons (peF (K := K) rfl (pv 4) rfl) (pa_cons pe_int (pa_cons (pe_tup pa_nil) pa_nil))))))) pa_nil)) (pe_lst pa_nil) (nomark _)) (pss_one (ps_ret pe_bl)) pss_nil)
      (pss_one (ps_if (PW.pt (pw_or (pt_cmpR (neD (K := K) rfl hr.units) (pe_call G_law_fields (hr.mono (by decide)) rfl T.m18 T.F18.kp T.b18 .nil pass0 (pa_cons (pv 4) pa_nil)) (pv 5) (nomark _)) (pw_or1 (pt_not (pt_val (pe_call G_law_voiced hr rfl T.m24 T.F24.kp T.b24 .nil pass0 (pa_cons (pv 2) (pa_cons (pv 4) pa_nil)))))))) (pss_one (ps_ret pe_bl)) pss_nil)))))))))
      (pss_one (ps_ret pe_bl))), ?_⟩
    walk_at "go"
    have cap := capN ((ns.map V.int).length : Nat) (by omega)
    refine l_range1 (by omega) (by omega) (fun i σ H' => (∃ P', Ex P0 P' ∧ Mem P' [tabP (lp 0).2 QB, tabP (lp 1).2 QV] H') ∧ ∃ x1 x2 x3 x4 x5, σ = [some (.ref ad), x1, x2, x3, x4, x5]) ⟨⟨P0, Ex.refl _, m⟩, _, _, _, _, _, rfl⟩ ?_ (fun σ H' _ => ?_)
    · rintro i σ H1 hi ⟨⟨P1, e1, m1⟩, x1, x2, x3, x4, x5, rfl⟩
      walk_at "go"
      refine ⟨P1, _, ad, ns, _, rfl, sqL_up hS e1, by omega, by omega, m1, fun st H2 m2 => ?_⟩
      walk_at "go"
      refine ⟨P1, _, st, 6, rfl, by decide, by decide, m2, fun r H3 r0 r1 m3 => ?_⟩
      walk_at "go"
      refine ⟨P1, _, st, _, rfl, by omega, by omega, m3, fun nr H4 n0 n1 m4 => ?_⟩
      walk_at "go"
      refine i_newIns m4 fun xa dxa P5 H5 e5 m5 => ?_
      refine ⟨P5, _, xa, dxa, _, _, rfl, m5, fun P6 H6 e6 m6 => ⟨rfl, ?_⟩⟩
      walk_at "go"
      have m6 : Mem P6 (maP K (c 0) xa (Ma.new nr (2 + r)) :: tabP (lp 0).2 QB :: draw st :: tabP (lp 1).2 QV :: []) H6 := m6.pr (by walk_at "pr")
      refine ⟨P6, _, st, xa, nr, 2 + r, rfl, n0, n1, by omega, m6, fun P7 H7 s7 e7 in7 m7 => ?_⟩
      walk_at "go"
      refine ⟨P7, _, st, xa, s7, 2 + r, rfl, in7, m7, fun P8 H8 s8 e8 in8 m8 => ?_⟩
      have hn80 := in8.ok.nr0
      have hn81 := in8.ok.nrm
      walk_at "go"
      refine ⟨P8, _, xa, s8, rfl, m8, fun t1 l1 P9 H9 e9 ht1 hd1 m9 => ?_⟩
      obtain ⟨y9, hy9, mo9⟩ := maOpen m9
      walk_at "go"
      rename_i rt P10 H10 m10 e10 hrt kt P11 H11 m11 e11 hkt
      have e911 := e10.trans e11
      have hh : s8.heard (.voice ((s8.nr + 1) % (2 + r)) s8.nr s8.term 0 []) = (s8, []) := if_neg (fun z => absurd (in8.hr.symm.trans z.1) (by decide))
      refine ⟨P11, _, xa, kt, s8, .voice ((s8.nr + 1) % (2 + r)) s8.nr s8.term 0 [], rfl, in8.small, ⟨rt, [], hkt, ex_t e11 hrt, .nil⟩, maPut (s := s8) y9 (maFacts.up _ _ e911 hy9) m11 (by walk_at "sel") (by walk_at "sel") (by walk_at "sel") (by walk_at "sel"), fun D P12 H12 ms e12 hms m12 => ?_⟩
      rw [hh] at hms m12
      cases hms
      walk_at "go"
      refine i_newL (K := K) m12 fun el P13 H13 m13 e13 hel => ?_
      refine i_neDt (d := .list []) (e := .list []) (.lst (SqL.of (m13.rd .z)) .nil) (.lst (sqL_up hel m13.ex) .nil) rfl rfl ?_
      rw [show PyData.eqv (.list []) (.list []) = true from rfl]
      walk_at "go"
      refine ⟨P13, _, xa, s8, rfl, m13.drop, fun t14 l14 P14 H14 e14 ht14 hd14 m14 => ?_⟩
      walk_at "go"
      have sh := in8.sh
      refine i_neDt (Dp.up m14.ex (field_dp ht14 hd14)) (Dp.up ((e911.trans (e12.trans (e13.trans e14))).trans m14.ex) (field_dp ht1 hd1)) (sh.ok (by decide)) (sh.ok (by decide)) ?_
      rw [eqv_self sh]
      walk_at "go"
      refine ⟨P14, _, st, xa, s8, 2 + r, rfl, in8, by omega, m14, fun P15 H15 e15 m15 => ?_⟩
      walk_at "go"
      exact ⟨⟨P15, e1.trans (e5.trans (e6.trans (e7.trans (e8.trans (e9.trans (e911.trans (e12.trans (e13.trans (e14.trans e15))))))))), m15.per (.cons .z (.cons (.s .z) .nil))⟩, _, _, _, _, _, rfl⟩
    · walk_at "go"
      exact q _

end
theorem all_mk {l : PySem.W.OpenLaw} {w : World} {K : PySem.W.Frag} {h : Heap} {mg : Str → Option Value} {fa C0 f0 f1 f2 f3 f4 f5 f6 f7 f8 f9 f10 f11 f12 f13 f14 f15 f16 f17 f18 f19 f20 f21 f22 f23 f24 f25 : Addr} (X : K.In h) (G : h.Ns mainGlobals mg) (hfa : mg "law" = some (.ref fa))
    {od0 an0 od1 an1 od2 an2 od3 an3 od4 an4 od5 an5 od6 an6 od7 an7 od8 an8 od9 an9 od10 an10 od11 an11 od12 an12 od13 an13 od14 an14 od15 an15 od16 an16 od17 an17 od18 an18 od19 an19 od20 an20 od21 an21 od22 an22 od23 an23 od24 an24 od25 an25 : Option Addr} {sl0 sl1 sl2 sl3 sl4 sl5 sl6 sl7 sl8 sl9 sl10 sl11 sl12 sl13 sl14 sl15 sl16 sl17 sl18 sl19 sl20 sl21 sl22 sl23 sl24 sl25 : Array (Option Value)} {oc0 kV0 dc0 pm0 cd0 ct0 oc1 kV1 dc1 pm1 cd1 ct1 oc2 kV2 dc2 pm2 cd2 ct2 oc3 kV3 dc3 pm3 cd3 ct3 oc4 kV4 dc4 pm4 cd4 ct4 oc5 kV5 dc5 pm5 cd5 ct5 oc6 kV6 dc6 pm6 cd6 ct6 oc7 kV7 dc7 pm7 cd7 ct7 oc8 kV8 dc8 pm8 cd8 ct8 oc9 kV9 dc9 pm9 cd9 ct9 oc10 kV10 dc10 pm10 cd10 ct10 oc11 kV11 dc11 pm11 cd11 ct11 oc12 kV12 dc12 pm12 cd12 ct12 oc13 kV13 dc13 pm13 cd13 ct13 oc14 kV14 dc14 pm14 cd14 ct14 oc15 kV15 dc15 pm15 cd15 ct15 oc16 kV16 dc16 pm16 cd16 ct16 oc17 kV17 dc17 pm17 cd17 ct17 oc18 kV18 dc18 pm18 cd18 ct18 oc19 kV19 dc19 pm19 cd19 ct19 oc20 kV20 dc20 pm20 cd20 ct20 oc21 kV21 dc21 pm21 cd21 ct21 oc22 kV22 dc22 pm22 cd22 ct22 oc23 kV23 dc23 pm23 cd23 ct23 oc24 kV24 dc24 pm24 cd24 ct24 oc25 kV25 dc25 pm25 cd25 ct25 : Value} {cM0 PM0 cM1 PM1 : Addr}
    (aC0 : PySem.W.nsIn K mainGlobals "Master" = some (some (.ref C0)))
    (a0 : PySem.W.nsIn K mainGlobals "_wall" = some (some (.ref f0)))
    (l0 : K.lookup f0 = some ⟨oc0, od0, .func (PySem.W.fnOf "_wall" "_wall" (defArgs s_wall) (defBody s_wall) (defScope s_wall) .none kV0 dc0 pm0 an0 cd0 ct0), sl0⟩)
    (c0 : PySem.W.codeIn K cd0 "_wall" = true)
    (k0 : PySem.W.keepIn K (.ref f0) = true)
    (a1 : PySem.W.nsIn K mainGlobals "is_more" = some (some (.ref f1)))
    (l1 : K.lookup f1 = some ⟨oc1, od1, .func (PySem.W.fnOf "is_more" "is_more" (defArgs s_is_more) (defBody s_is_more) (defScope s_is_more) .none kV1 dc1 pm1 an1 cd1 ct1), sl1⟩)
    (c1 : PySem.W.codeIn K cd1 "is_more" = true)
    (k1 : PySem.W.keepIn K (.ref f1) = true)
    (a2 : PySem.W.nsIn K mainGlobals "best_of" = some (some (.ref f2)))
    (l2 : K.lookup f2 = some ⟨oc2, od2, .func (PySem.W.fnOf "best_of" "best_of" (defArgs s_best_of) (defBody s_best_of) (defScope s_best_of) .none kV2 dc2 pm2 an2 cd2 ct2), sl2⟩)
    (c2 : PySem.W.codeIn K cd2 "best_of" = true)
    (k2 : PySem.W.keepIn K (.ref f2) = true)
    (a3 : PySem.W.findIn K (.ref C0) "__init__" = some (some (.ref f3)))
    (i3 : PySem.W.isFn K (.ref f3) = true)
    (l3 : K.lookup f3 = some ⟨oc3, od3, .func (PySem.W.fnOf "__init__" "Master.__init__" (defArgs s_Master___init__) (defBody s_Master___init__) (defScope s_Master___init__) .none kV3 dc3 pm3 an3 cd3 ct3), sl3⟩)
    (c3 : PySem.W.codeIn K cd3 "Master.__init__" = true)
    (k3 : PySem.W.keepIn K (.ref f3) = true)
    (a4 : PySem.W.findIn K (.ref C0) "others" = some (some (.ref f4)))
    (i4 : PySem.W.isFn K (.ref f4) = true)
    (l4 : K.lookup f4 = some ⟨oc4, od4, .func (PySem.W.fnOf "others" "Master.others" (defArgs s_Master_others) (defBody s_Master_others) (defScope s_Master_others) .none kV4 dc4 pm4 an4 cd4 ct4), sl4⟩)
    (c4 : PySem.W.codeIn K cd4 "Master.others" = true)
    (k4 : PySem.W.keepIn K (.ref f4) = true)
    (a5 : PySem.W.findIn K (.ref C0) "rise" = some (some (.ref f5)))
    (i5 : PySem.W.isFn K (.ref f5) = true)
    (l5 : K.lookup f5 = some ⟨oc5, od5, .func (PySem.W.fnOf "rise" "Master.rise" (defArgs s_Master_rise) (defBody s_Master_rise) (defScope s_Master_rise) .none kV5 dc5 pm5 an5 cd5 ct5), sl5⟩)
    (c5 : PySem.W.codeIn K cd5 "Master.rise" = true)
    (k5 : PySem.W.keepIn K (.ref f5) = true)
    (a6 : PySem.W.findIn K (.ref C0) "count_voices" = some (some (.ref f6)))
    (i6 : PySem.W.isFn K (.ref f6) = true)
    (l6 : K.lookup f6 = some ⟨oc6, od6, .func (PySem.W.fnOf "count_voices" "Master.count_voices" (defArgs s_Master_count_voices) (defBody s_Master_count_voices) (defScope s_Master_count_voices) .none kV6 dc6 pm6 an6 cd6 ct6), sl6⟩)
    (c6 : PySem.W.codeIn K cd6 "Master.count_voices" = true)
    (k6 : PySem.W.keepIn K (.ref f6) = true)
    (a7 : PySem.W.findIn K (.ref C0) "add" = some (some (.ref f7)))
    (i7 : PySem.W.isFn K (.ref f7) = true)
    (l7 : K.lookup f7 = some ⟨oc7, od7, .func (PySem.W.fnOf "add" "Master.add" (defArgs s_Master_add) (defBody s_Master_add) (defScope s_Master_add) .none kV7 dc7 pm7 an7 cd7 ct7), sl7⟩)
    (c7 : PySem.W.codeIn K cd7 "Master.add" = true)
    (k7 : PySem.W.keepIn K (.ref f7) = true)
    (a8 : PySem.W.findIn K (.ref C0) "send" = some (some (.ref f8)))
    (i8 : PySem.W.isFn K (.ref f8) = true)
    (l8 : K.lookup f8 = some ⟨oc8, od8, .func (PySem.W.fnOf "send" "Master.send" (defArgs s_Master_send) (defBody s_Master_send) (defScope s_Master_send) .none kV8 dc8 pm8 an8 cd8 ct8), sl8⟩)
    (c8 : PySem.W.codeIn K cd8 "Master.send" = true)
    (k8 : PySem.W.keepIn K (.ref f8) = true)
    (a9 : PySem.W.findIn K (.ref C0) "fall" = some (some (.ref f9)))
    (i9 : PySem.W.isFn K (.ref f9) = true)
    (l9 : K.lookup f9 = some ⟨oc9, od9, .func (PySem.W.fnOf "fall" "Master.fall" (defArgs s_Master_fall) (defBody s_Master_fall) (defScope s_Master_fall) .none kV9 dc9 pm9 an9 cd9 ct9), sl9⟩)
    (c9 : PySem.W.codeIn K cd9 "Master.fall" = true)
    (k9 : PySem.W.keepIn K (.ref f9) = true)
    (a10 : PySem.W.findIn K (.ref C0) "count_sizes" = some (some (.ref f10)))
    (i10 : PySem.W.isFn K (.ref f10) = true)
    (l10 : K.lookup f10 = some ⟨oc10, od10, .func (PySem.W.fnOf "count_sizes" "Master.count_sizes" (defArgs s_Master_count_sizes) (defBody s_Master_count_sizes) (defScope s_Master_count_sizes) .none kV10 dc10 pm10 an10 cd10 ct10), sl10⟩)
    (c10 : PySem.W.codeIn K cd10 "Master.count_sizes" = true)
    (k10 : PySem.W.keepIn K (.ref f10) = true)
    (a11 : PySem.W.findIn K (.ref C0) "hear" = some (some (.ref f11)))
    (i11 : PySem.W.isFn K (.ref f11) = true)
    (l11 : K.lookup f11 = some ⟨oc11, od11, .func (PySem.W.fnOf "hear" "Master.hear" (defArgs s_Master_hear) (defBody s_Master_hear) (defScope s_Master_hear) .none kV11 dc11 pm11 an11 cd11 ct11), sl11⟩)
    (c11 : PySem.W.codeIn K cd11 "Master.hear" = true)
    (k11 : PySem.W.keepIn K (.ref f11) = true)
    (a12 : PySem.W.findIn K (.ref C0) "hear_keep" = some (some (.ref f12)))
    (i12 : PySem.W.isFn K (.ref f12) = true)
    (l12 : K.lookup f12 = some ⟨oc12, od12, .func (PySem.W.fnOf "hear_keep" "Master.hear_keep" (defArgs s_Master_hear_keep) (defBody s_Master_hear_keep) (defScope s_Master_hear_keep) .none kV12 dc12 pm12 an12 cd12 ct12), sl12⟩)
    (c12 : PySem.W.codeIn K cd12 "Master.hear_keep" = true)
    (k12 : PySem.W.keepIn K (.ref f12) = true)
    (a13 : PySem.W.nsIn K mainGlobals "_law_cell_at" = some (some (.ref f13)))
    (l13 : K.lookup f13 = some ⟨oc13, od13, .func (PySem.W.fnOf "_law_cell_at" "_law_cell_at" (defArgs s_law_cell_at) (defBody s_law_cell_at) (defScope s_law_cell_at) .none kV13 dc13 pm13 an13 cd13 ct13), sl13⟩)
    (c13 : PySem.W.codeIn K cd13 "_law_cell_at" = true)
    (k13 : PySem.W.keepIn K (.ref f13) = true)
    (a14 : PySem.W.nsIn K mainGlobals "_law_mix" = some (some (.ref f14)))
    (l14 : K.lookup f14 = some ⟨oc14, od14, .func (PySem.W.fnOf "_law_mix" "_law_mix" (defArgs s_law_mix) (defBody s_law_mix) (defScope s_law_mix) .none kV14 dc14 pm14 an14 cd14 ct14), sl14⟩)
    (c14 : PySem.W.codeIn K cd14 "_law_mix" = true)
    (k14 : PySem.W.keepIn K (.ref f14) = true)
    (a15 : PySem.W.nsIn K mainGlobals "_law_rich" = some (some (.ref f15)))
    (l15 : K.lookup f15 = some ⟨oc15, od15, .func (PySem.W.fnOf "_law_rich" "_law_rich" (defArgs s_law_rich) (defBody s_law_rich) (defScope s_law_rich) .none kV15 dc15 pm15 an15 cd15 ct15), sl15⟩)
    (c15 : PySem.W.codeIn K cd15 "_law_rich" = true)
    (k15 : PySem.W.keepIn K (.ref f15) = true)
    (a16 : PySem.W.nsIn K mainGlobals "_law_left" = some (some (.ref f16)))
    (l16 : K.lookup f16 = some ⟨oc16, od16, .func (PySem.W.fnOf "_law_left" "_law_left" (defArgs s_law_left) (defBody s_law_left) (defScope s_law_left) .none kV16 dc16 pm16 an16 cd16 ct16), sl16⟩)
    (c16 : PySem.W.codeIn K cd16 "_law_left" = true)
    (k16 : PySem.W.keepIn K (.ref f16) = true)
    (a17 : PySem.W.nsIn K mainGlobals "_law_pick" = some (some (.ref f17)))
    (l17 : K.lookup f17 = some ⟨oc17, od17, .func (PySem.W.fnOf "_law_pick" "_law_pick" (defArgs s_law_pick) (defBody s_law_pick) (defScope s_law_pick) .none kV17 dc17 pm17 an17 cd17 ct17), sl17⟩)
    (c17 : PySem.W.codeIn K cd17 "_law_pick" = true)
    (k17 : PySem.W.keepIn K (.ref f17) = true)
    (a18 : PySem.W.nsIn K mainGlobals "_law_fields" = some (some (.ref f18)))
    (l18 : K.lookup f18 = some ⟨oc18, od18, .func (PySem.W.fnOf "_law_fields" "_law_fields" (defArgs s_law_fields) (defBody s_law_fields) (defScope s_law_fields) .none kV18 dc18 pm18 an18 cd18 ct18), sl18⟩)
    (c18 : PySem.W.codeIn K cd18 "_law_fields" = true)
    (k18 : PySem.W.keepIn K (.ref f18) = true)
    (a19 : PySem.W.nsIn K mainGlobals "_law_rows" = some (some (.ref f19)))
    (l19 : K.lookup f19 = some ⟨oc19, od19, .func (PySem.W.fnOf "_law_rows" "_law_rows" (defArgs s_law_rows) (defBody s_law_rows) (defScope s_law_rows) .none kV19 dc19 pm19 an19 cd19 ct19), sl19⟩)
    (c19 : PySem.W.codeIn K cd19 "_law_rows" = true)
    (k19 : PySem.W.keepIn K (.ref f19) = true)
    (a20 : PySem.W.nsIn K mainGlobals "_law_is_told" = some (some (.ref f20)))
    (l20 : K.lookup f20 = some ⟨oc20, od20, .func (PySem.W.fnOf "_law_is_told" "_law_is_told" (defArgs s_law_is_told) (defBody s_law_is_told) (defScope s_law_is_told) .none kV20 dc20 pm20 an20 cd20 ct20), sl20⟩)
    (c20 : PySem.W.codeIn K cd20 "_law_is_told" = true)
    (k20 : PySem.W.keepIn K (.ref f20) = true)
    (a21 : PySem.W.nsIn K mainGlobals "_law_log_by" = some (some (.ref f21)))
    (l21 : K.lookup f21 = some ⟨oc21, od21, .func (PySem.W.fnOf "_law_log_by" "_law_log_by" (defArgs s_law_log_by) (defBody s_law_log_by) (defScope s_law_log_by) .none kV21 dc21 pm21 an21 cd21 ct21), sl21⟩)
    (c21 : PySem.W.codeIn K cd21 "_law_log_by" = true)
    (k21 : PySem.W.keepIn K (.ref f21) = true)
    (a22 : PySem.W.nsIn K mainGlobals "_law_kept_log" = some (some (.ref f22)))
    (l22 : K.lookup f22 = some ⟨oc22, od22, .func (PySem.W.fnOf "_law_kept_log" "_law_kept_log" (defArgs s_law_kept_log) (defBody s_law_kept_log) (defScope s_law_kept_log) .none kV22 dc22 pm22 an22 cd22 ct22), sl22⟩)
    (c22 : PySem.W.codeIn K cd22 "_law_kept_log" = true)
    (k22 : PySem.W.keepIn K (.ref f22) = true)
    (a23 : PySem.W.nsIn K mainGlobals "_law_asked_for" = some (some (.ref f23)))
    (l23 : K.lookup f23 = some ⟨oc23, od23, .func (PySem.W.fnOf "_law_asked_for" "_law_asked_for" (defArgs s_law_asked_for) (defBody s_law_asked_for) (defScope s_law_asked_for) .none kV23 dc23 pm23 an23 cd23 ct23), sl23⟩)
    (c23 : PySem.W.codeIn K cd23 "_law_asked_for" = true)
    (k23 : PySem.W.keepIn K (.ref f23) = true)
    (a24 : PySem.W.nsIn K mainGlobals "_law_voiced" = some (some (.ref f24)))
    (l24 : K.lookup f24 = some ⟨oc24, od24, .func (PySem.W.fnOf "_law_voiced" "_law_voiced" (defArgs s_law_voiced) (defBody s_law_voiced) (defScope s_law_voiced) .none kV24 dc24 pm24 an24 cd24 ct24), sl24⟩)
    (c24 : PySem.W.codeIn K cd24 "_law_voiced" = true)
    (k24 : PySem.W.keepIn K (.ref f24) = true)
    (a25 : PySem.W.nsIn K mainGlobals "law" = some (some (.ref f25)))
    (l25 : K.lookup f25 = some ⟨oc25, od25, .func (PySem.W.fnOf "law" "law" (defArgs s_law) (defBody s_law) (defScope s_law) .none kV25 dc25 pm25 an25 cd25 ct25), sl25⟩)
    (c25 : PySem.W.codeIn K cd25 "law" = true)
    (k25 : PySem.W.keepIn K (.ref f25) = true)
    (pg0 : PySem.W.plainGet K C0 Str.empty = true)
    (hd0 : PySem.W.hasDictIn K C0 = true)
    (po0 : PySem.W.plainOver K C0 = true)
    (sa0 : PySem.W.findIn K (.ref C0) "__setattr__" = some (some (.builtin "object.__setattr__")))
    (mk0 : PySem.W.makesIn K C0 = true)
    (kc0 : PySem.W.keepIn K (.ref C0) = true)
    (n0_number : PySem.W.findIn K (.ref C0) "number" = some none)
    (n0_many : PySem.W.findIn K (.ref C0) "many" = some none)
    (n0_term : PySem.W.findIn K (.ref C0) "term" = some none)
    (n0_of : PySem.W.findIn K (.ref C0) "of" = some none)
    (n0_log : PySem.W.findIn K (.ref C0) "log" = some none)
    (n0_done : PySem.W.findIn K (.ref C0) "done" = some none)
    (n0_role : PySem.W.findIn K (.ref C0) "role" = some none)
    (n0_voices : PySem.W.findIn K (.ref C0) "voices" = some none)
    (n0_sizes : PySem.W.findIn K (.ref C0) "sizes" = some none)
    (z_max : PySem.W.nsIn K mainGlobals "max" = some none)
    (z_list : PySem.W.nsIn K mainGlobals "list" = some none)
    (z_len : PySem.W.nsIn K mainGlobals "len" = some none)
    (z_range : PySem.W.nsIn K mainGlobals "range" = some none)
    (z_tuple : PySem.W.nsIn K mainGlobals "tuple" = some none)
    (z_sorted : PySem.W.nsIn K mainGlobals "sorted" = some none)
    (z_enumerate : PySem.W.nsIn K mainGlobals "enumerate" = some none)
    (z_min : PySem.W.nsIn K mainGlobals "min" = some none)
    (z_isinstance : PySem.W.nsIn K mainGlobals "isinstance" = some none)
    (z_any : PySem.W.nsIn K mainGlobals "any" = some none)
    (z_all : PySem.W.nsIn K mainGlobals "all" = some none)
    (z_bool : PySem.W.nsIn K mainGlobals "bool" = some none)
    (z_int : PySem.W.nsIn K mainGlobals "int" = some none)
    (z_str : PySem.W.nsIn K mainGlobals "str" = some none)
    (hc0 : cd2 = .ref cM0)
    (ht0 : h.get? PM0 = some { cls := .none, data := .fields #[] })
    (hh0 : PySem.W.codeHdIn K cM0 PM0 = true)
    (hn0 : K.lookup PM0 = none)
    (hc1 : cd24 = .ref cM1)
    (ht1 : h.get? PM1 = some { cls := .none, data := .fields #[] })
    (hh1 : PySem.W.codeHdIn K cM1 PM1 = true)
    (hn1 : K.lookup PM1 = none)
    (hd01 : PM0 ≠ PM1)
    : LawAtS l w K CX0 5 63 "_law_script" mg fa h := by
  have e := hfa.symm.trans (PySem.W.mg_of X G a25)
  cases e
  have F0 := fun_mk (st := s_wall) l0 c0 k0
  have b0 := F0.binds (ps := ["k"]) fun _ _ _ _ _ _ us hl => match us, hl with | [_], _ => rfl
  have F1 := fun_mk (st := s_is_more) l1 c1 k1
  have b1 := F1.binds (ps := ["some", "many"]) fun _ _ _ _ _ _ us hl => match us, hl with | [_, _], _ => rfl
  have F2 := fun_mk (st := s_best_of) l2 c2 k2
  have b2 := F2.binds (ps := ["voices"]) fun _ _ _ _ _ _ us hl => match us, hl with | [_], _ => rfl
  have F3 := fun_mk (st := s_Master___init__) l3 c3 k3
  have b3 := F3.binds (ps := ["self", "number", "many"]) fun _ _ _ _ _ _ us hl => match us, hl with | [_, _, _], _ => rfl
  have F4 := fun_mk (st := s_Master_others) l4 c4 k4
  have b4 := F4.binds (ps := ["self"]) fun _ _ _ _ _ _ us hl => match us, hl with | [_], _ => rfl
  have F5 := fun_mk (st := s_Master_rise) l5 c5 k5
  have b5 := F5.binds (ps := ["self"]) fun _ _ _ _ _ _ us hl => match us, hl with | [_], _ => rfl
  have F6 := fun_mk (st := s_Master_count_voices) l6 c6 k6
  have b6 := F6.binds (ps := ["self"]) fun _ _ _ _ _ _ us hl => match us, hl with | [_], _ => rfl
  have F7 := fun_mk (st := s_Master_add) l7 c7 k7
  have b7 := F7.binds (ps := ["self", "row"]) fun _ _ _ _ _ _ us hl => match us, hl with | [_, _], _ => rfl
  have F8 := fun_mk (st := s_Master_send) l8 c8 k8
  have b8 := F8.binds (ps := ["self"]) fun _ _ _ _ _ _ us hl => match us, hl with | [_], _ => rfl
  have F9 := fun_mk (st := s_Master_fall) l9 c9 k9
  have b9 := F9.binds (ps := ["self"]) fun _ _ _ _ _ _ us hl => match us, hl with | [_], _ => rfl
  have F10 := fun_mk (st := s_Master_count_sizes) l10 c10 k10
  have b10 := F10.binds (ps := ["self"]) fun _ _ _ _ _ _ us hl => match us, hl with | [_], _ => rfl
  have F11 := fun_mk (st := s_Master_hear) l11 c11 k11
  have b11 := F11.binds (ps := ["self", "message"]) fun _ _ _ _ _ _ us hl => match us, hl with | [_, _], _ => rfl
  have F12 := fun_mk (st := s_Master_hear_keep) l12 c12 k12
  have b12 := F12.binds (ps := ["self", "message"]) fun _ _ _ _ _ _ us hl => match us, hl with | [_, _], _ => rfl
  have F13 := fun_mk (st := s_law_cell_at) l13 c13 k13
  have b13 := F13.binds (ps := ["_law_script", "_law_k"]) fun _ _ _ _ _ _ us hl => match us, hl with | [_, _], _ => rfl
  have F14 := fun_mk (st := s_law_mix) l14 c14 k14
  have b14 := F14.binds (ps := ["_law_cell", "_law_k"]) fun _ _ _ _ _ _ us hl => match us, hl with | [_, _], _ => rfl
  have F15 := fun_mk (st := s_law_rich) l15 c15 k15
  have b15 := F15.binds (ps := ["_law_cell", "_law_k"]) fun _ _ _ _ _ _ us hl => match us, hl with | [_, _], _ => rfl
  have F16 := fun_mk (st := s_law_left) l16 c16 k16
  have b16 := F16.binds (ps := ["_law_script", "_law_k"]) fun _ _ _ _ _ _ us hl => match us, hl with | [_, _], _ => rfl
  have F17 := fun_mk (st := s_law_pick) l17 c17 k17
  have b17 := F17.binds (ps := ["_law_left_here", "_law_many"]) fun _ _ _ _ _ _ us hl => match us, hl with | [_, _], _ => rfl
  have F18 := fun_mk (st := s_law_fields) l18 c18 k18
  have b18 := F18.binds (ps := ["_law_one"]) fun _ _ _ _ _ _ us hl => match us, hl with | [_], _ => rfl
  have F19 := fun_mk (st := s_law_rows) l19 c19 k19
  have b19 := F19.binds (ps := ["_law_term", "_law_many"]) fun _ _ _ _ _ _ us hl => match us, hl with | [_, _], _ => rfl
  have F20 := fun_mk (st := s_law_is_told) l20 c20 k20
  have b20 := F20.binds (ps := ["_law_found", "_law_due"]) fun _ _ _ _ _ _ us hl => match us, hl with | [_, _], _ => rfl
  have F21 := fun_mk (st := s_law_log_by) l21 c21 k21
  have b21 := F21.binds (ps := ["_law_left_here", "_law_below"]) fun _ _ _ _ _ _ us hl => match us, hl with | [_, _], _ => rfl
  have F22 := fun_mk (st := s_law_kept_log) l22 c22 k22
  have b22 := F22.binds (ps := ["_law_left_here", "_law_one"]) fun _ _ _ _ _ _ us hl => match us, hl with | [_, _], _ => rfl
  have F23 := fun_mk (st := s_law_asked_for) l23 c23 k23
  have b23 := F23.binds (ps := ["_law_left_here", "_law_one"]) fun _ _ _ _ _ _ us hl => match us, hl with | [_, _], _ => rfl
  have F24 := fun_mk (st := s_law_voiced) l24 c24 k24
  have b24 := F24.binds (ps := ["_law_left_here", "_law_one"]) fun _ _ _ _ _ _ us hl => match us, hl with | [_, _], _ => rfl
  have F25 := fun_mk (st := s_law) l25 c25 k25
  have b25 := F25.binds (ps := ["_law_script"]) fun _ _ _ _ _ _ us hl => match us, hl with | [_], _ => rfl
  have T : Txt K mg (fun n => [f0, f1, f2, f3, f4, f5, f6, f7, f8, f9, f10, f11, f12, f13, f14, f15, f16, f17, f18, f19, f20, f21, f22, f23, f24, fa].getD n 0) (fun n => [C0].getD n 0) (fun n => [(PySem.W.fnOf "_wall" "_wall" (defArgs s_wall) (defBody s_wall) (defScope s_wall) .none kV0 dc0 pm0 an0 cd0 ct0), (PySem.W.fnOf "is_more" "is_more" (defArgs s_is_more) (defBody s_is_more) (defScope s_is_more) .none kV1 dc1 pm1 an1 cd1 ct1), (PySem.W.fnOf "best_of" "best_of" (defArgs s_best_of) (defBody s_best_of) (defScope s_best_of) .none kV2 dc2 pm2 an2 cd2 ct2), (PySem.W.fnOf "__init__" "Master.__init__" (defArgs s_Master___init__) (defBody s_Master___init__) (defScope s_Master___init__) .none kV3 dc3 pm3 an3 cd3 ct3), (PySem.W.fnOf "others" "Master.others" (defArgs s_Master_others) (defBody s_Master_others) (defScope s_Master_others) .none kV4 dc4 pm4 an4 cd4 ct4), (PySem.W.fnOf "rise" "Master.rise" (defArgs s_Master_rise) (defBody s_Master_rise) (defScope s_Master_rise) .none kV5 dc5 pm5 an5 cd5 ct5), (PySem.W.fnOf "count_voices" "Master.count_voices" (defArgs s_Master_count_voices) (defBody s_Master_count_voices) (defScope s_Master_count_voices) .none kV6 dc6 pm6 an6 cd6 ct6), (PySem.W.fnOf "add" "Master.add" (defArgs s_Master_add) (defBody s_Master_add) (defScope s_Master_add) .none kV7 dc7 pm7 an7 cd7 ct7), (PySem.W.fnOf "send" "Master.send" (defArgs s_Master_send) (defBody s_Master_send) (defScope s_Master_send) .none kV8 dc8 pm8 an8 cd8 ct8), (PySem.W.fnOf "fall" "Master.fall" (defArgs s_Master_fall) (defBody s_Master_fall) (defScope s_Master_fall) .none kV9 dc9 pm9 an9 cd9 ct9), (PySem.W.fnOf "count_sizes" "Master.count_sizes" (defArgs s_Master_count_sizes) (defBody s_Master_count_sizes) (defScope s_Master_count_sizes) .none kV10 dc10 pm10 an10 cd10 ct10), (PySem.W.fnOf "hear" "Master.hear" (defArgs s_Master_hear) (defBody s_Master_hear) (defScope s_Master_hear) .none kV11 dc11 pm11 an11 cd11 ct11), (PySem.W.fnOf "hear_keep" "Master.hear_keep" (defArgs s_Master_hear_keep) (defBody s_Master_hear_keep) (defScope s_Master_hear_keep) .none kV12 dc12 pm12 an12 cd12 ct12), (PySem.W.fnOf "_law_cell_at" "_law_cell_at" (defArgs s_law_cell_at) (defBody s_law_cell_at) (defScope s_law_cell_at) .none kV13 dc13 pm13 an13 cd13 ct13), (PySem.W.fnOf "_law_mix" "_law_mix" (defArgs s_law_mix) (defBody s_law_mix) (defScope s_law_mix) .none kV14 dc14 pm14 an14 cd14 ct14), (PySem.W.fnOf "_law_rich" "_law_rich" (defArgs s_law_rich) (defBody s_law_rich) (defScope s_law_rich) .none kV15 dc15 pm15 an15 cd15 ct15), (PySem.W.fnOf "_law_left" "_law_left" (defArgs s_law_left) (defBody s_law_left) (defScope s_law_left) .none kV16 dc16 pm16 an16 cd16 ct16), (PySem.W.fnOf "_law_pick" "_law_pick" (defArgs s_law_pick) (defBody s_law_pick) (defScope s_law_pick) .none kV17 dc17 pm17 an17 cd17 ct17), (PySem.W.fnOf "_law_fields" "_law_fields" (defArgs s_law_fields) (defBody s_law_fields) (defScope s_law_fields) .none kV18 dc18 pm18 an18 cd18 ct18), (PySem.W.fnOf "_law_rows" "_law_rows" (defArgs s_law_rows) (defBody s_law_rows) (defScope s_law_rows) .none kV19 dc19 pm19 an19 cd19 ct19), (PySem.W.fnOf "_law_is_told" "_law_is_told" (defArgs s_law_is_told) (defBody s_law_is_told) (defScope s_law_is_told) .none kV20 dc20 pm20 an20 cd20 ct20), (PySem.W.fnOf "_law_log_by" "_law_log_by" (defArgs s_law_log_by) (defBody s_law_log_by) (defScope s_law_log_by) .none kV21 dc21 pm21 an21 cd21 ct21), (PySem.W.fnOf "_law_kept_log" "_law_kept_log" (defArgs s_law_kept_log) (defBody s_law_kept_log) (defScope s_law_kept_log) .none kV22 dc22 pm22 an22 cd22 ct22), (PySem.W.fnOf "_law_asked_for" "_law_asked_for" (defArgs s_law_asked_for) (defBody s_law_asked_for) (defScope s_law_asked_for) .none kV23 dc23 pm23 an23 cd23 ct23), (PySem.W.fnOf "_law_voiced" "_law_voiced" (defArgs s_law_voiced) (defBody s_law_voiced) (defScope s_law_voiced) .none kV24 dc24 pm24 an24 cd24 ct24), (PySem.W.fnOf "law" "law" (defArgs s_law) (defBody s_law) (defScope s_law) .none kV25 dc25 pm25 an25 cd25 ct25)].getD n (PySem.W.fnOf "_wall" "_wall" (defArgs s_wall) (defBody s_wall) (defScope s_wall) .none kV0 dc0 pm0 an0 cd0 ct0)) (fun n => [(cM0, PM0), (cM1, PM1)].getD n (0, 0)) := {
    lam_best_of := hc0,
    lam_law_voiced := hc1,
    F0 := F0,
    b0 := b0,
    m0 := PySem.W.mg_of X G a0,
    F1 := F1,
    b1 := b1,
    m1 := PySem.W.mg_of X G a1,
    F2 := F2,
    b2 := b2,
    m2 := PySem.W.mg_of X G a2,
    F3 := F3,
    b3 := b3,
    F4 := F4,
    b4 := b4,
    me4 := ⟨a4, i4, k4⟩,
    F5 := F5,
    b5 := b5,
    me5 := ⟨a5, i5, k5⟩,
    F6 := F6,
    b6 := b6,
    me6 := ⟨a6, i6, k6⟩,
    F7 := F7,
    b7 := b7,
    me7 := ⟨a7, i7, k7⟩,
    F8 := F8,
    b8 := b8,
    me8 := ⟨a8, i8, k8⟩,
    F9 := F9,
    b9 := b9,
    me9 := ⟨a9, i9, k9⟩,
    F10 := F10,
    b10 := b10,
    me10 := ⟨a10, i10, k10⟩,
    F11 := F11,
    b11 := b11,
    me11 := ⟨a11, i11, k11⟩,
    F12 := F12,
    b12 := b12,
    me12 := ⟨a12, i12, k12⟩,
    F13 := F13,
    b13 := b13,
    m13 := PySem.W.mg_of X G a13,
    F14 := F14,
    b14 := b14,
    m14 := PySem.W.mg_of X G a14,
    F15 := F15,
    b15 := b15,
    m15 := PySem.W.mg_of X G a15,
    F16 := F16,
    b16 := b16,
    m16 := PySem.W.mg_of X G a16,
    F17 := F17,
    b17 := b17,
    m17 := PySem.W.mg_of X G a17,
    F18 := F18,
    b18 := b18,
    m18 := PySem.W.mg_of X G a18,
    F19 := F19,
    b19 := b19,
    m19 := PySem.W.mg_of X G a19,
    F20 := F20,
    b20 := b20,
    m20 := PySem.W.mg_of X G a20,
    F21 := F21,
    b21 := b21,
    m21 := PySem.W.mg_of X G a21,
    F22 := F22,
    b22 := b22,
    m22 := PySem.W.mg_of X G a22,
    F23 := F23,
    b23 := b23,
    m23 := PySem.W.mg_of X G a23,
    F24 := F24,
    b24 := b24,
    m24 := PySem.W.mg_of X G a24,
    F25 := F25,
    b25 := b25,
    m25 := PySem.W.mg_of X G a25,
    cl_Master := ⟨pg0, hd0, po0, sa0⟩,
    M_Master := ⟨mk0, a3, i3, kc0⟩,
    C_Master := PySem.W.mg_of X G aC0,
    n_Master_number := n0_number,
    n_Master_many := n0_many,
    n_Master_term := n0_term,
    n_Master_of := n0_of,
    n_Master_log := n0_log,
    n_Master_done := n0_done,
    n_Master_role := n0_role,
    n_Master_voices := n0_voices,
    n_Master_sizes := n0_sizes,
    g_max := PySem.W.mg_none_of X G z_max,
    g_list := PySem.W.mg_none_of X G z_list,
    g_len := PySem.W.mg_none_of X G z_len,
    g_range := PySem.W.mg_none_of X G z_range,
    g_tuple := PySem.W.mg_none_of X G z_tuple,
    g_sorted := PySem.W.mg_none_of X G z_sorted,
    g_enumerate := PySem.W.mg_none_of X G z_enumerate,
    g_min := PySem.W.mg_none_of X G z_min,
    g_isinstance := PySem.W.mg_none_of X G z_isinstance,
    g_any := PySem.W.mg_none_of X G z_any,
    g_all := PySem.W.mg_none_of X G z_all,
    g_bool := PySem.W.mg_none_of X G z_bool,
    g_int := PySem.W.mg_none_of X G z_int,
    g_str := PySem.W.mg_none_of X G z_str }
  refine ⟨PySem.W.fnOf "law" "law" (defArgs s_law) (defBody s_law) (defScope s_law) .none kV25 dc25 pm25 an25 cd25 ct25, [(cM0, PM0), (cM1, PM1)], spLaw K PM0 PM1, (List.forall_mem_cons.mpr ⟨ht0, (List.forall_mem_cons.mpr ⟨ht1, (fun _ z => nomatch z)⟩)⟩), (List.forall_mem_cons.mpr ⟨hn0, (List.forall_mem_cons.mpr ⟨hn1, (fun _ z => nomatch z)⟩)⟩), (List.forall_mem_cons.mpr ⟨PySem.W.codeHd_of_K X hh0, (List.forall_mem_cons.mpr ⟨PySem.W.codeHd_of_K X hh1, (fun _ z => nomatch z)⟩)⟩), fun s v => .of_eq rfl, fun H a ns hl _ hT hS => ?_, fun base _ _ hB => ok_law T (fun i hi => match i, hi with | 0, _ => hB _ (.head _) | 1, _ => hB _ (.tail _ (.head _)) | n + 2, z => absurd z (by omega))⟩
  exact ⟨rmv (rmv H PM0) PM1, a, ns, rfl, rmv_sq (rmv_at hd01 (hT _ (.tail _ (.head _)))) (rmv_sq (hT _ (.head _)) hS), hl, Mem.split2 (hT _ (.head _)) (hT _ (.tail _ (.head _))) hd01, fun _ => rfl⟩
theorem walk {l : PySem.W.OpenLaw} {q : Program} {loose : List Str} {XP : (Str → Option Value) → Heap → Prop} {YP : World → Heap → Prop} {d : DefRec} {K : Params → PySem.W.Frag} (hn : l.most = some 63) (hdf : d.params.defaults = [])
    (hY : ∀ (w : World) (h : Heap), YP w h → (K w.params).In h)
    (F : ∀ (w : World) (mg : Str → Option Value) (fa : Addr) (h : Heap), YP w h → (K w.params).In h → h.Ns mainGlobals mg → mg d.name = some (.ref fa) → LawAtS l w (K w.params) CX0 5 63 "_law_script" mg fa h) :
    PySem.W.WalkO q loose XP YP l.row.toRowW d [] (fun f vs => PySem.call f vs) :=
  walk_ofTs (CX := fun _ => CX0) hn (by decide) hdf ⟨rfl, by decide, by decide⟩ hY F fun _ _ _ _ _ z => z
end Fs
open PySem PySem.W PyProof.Rows in
set_option maxRecDepth 100000 in
set_option maxHeartbeats 0 in
theorem PySem.Challenge.cw_farshelf_k26_voices_holds : PySem.Challenge.rw_farshelf_k26_voices.Holds := by
  w_on; o_law; k_head; (case hw => w_witness2)
  k_fill
  refine Fs.walk (l := PySem.Challenge.rw_farshelf_k26_voices) rfl rfl (fun w h Y => PySem.W.km_in_of Y) ?F
  case F =>
    intro w mg fa h Y KX G hmg
    refine' Fs.all_mk KX G hmg ?aC0 ?a0 ?l0 ?c0 ?k0 ?a1 ?l1 ?c1 ?k1 ?a2 ?l2 ?c2 ?k2 ?a3 ?i3 ?l3 ?c3 ?k3 ?a4 ?i4 ?l4 ?c4 ?k4 ?a5 ?i5 ?l5 ?c5 ?k5 ?a6 ?i6 ?l6 ?c6 ?k6 ?a7 ?i7 ?l7 ?c7 ?k7 ?a8 ?i8 ?l8 ?c8 ?k8 ?a9 ?i9 ?l9 ?c9 ?k9 ?a10 ?i10 ?l10 ?c10 ?k10 ?a11 ?i11 ?l11 ?c11 ?k11 ?a12 ?i12 ?l12 ?c12 ?k12 ?a13 ?l13 ?c13 ?k13 ?a14 ?l14 ?c14 ?k14 ?a15 ?l15 ?c15 ?k15 ?a16 ?l16 ?c16 ?k16 ?a17 ?l17 ?c17 ?k17 ?a18 ?l18 ?c18 ?k18 ?a19 ?l19 ?c19 ?k19 ?a20 ?l20 ?c20 ?k20 ?a21 ?l21 ?c21 ?k21 ?a22 ?l22 ?c22 ?k22 ?a23 ?l23 ?c23 ?k23 ?a24 ?l24 ?c24 ?k24 ?a25 ?l25 ?c25 ?k25 ?pg0 ?hd0 ?po0 ?sa0 ?mk0 ?kc0 ?n0_number ?n0_many ?n0_term ?n0_of ?n0_log ?n0_done ?n0_role ?n0_voices ?n0_sizes ?z_max ?z_list ?z_len ?z_range ?z_tuple ?z_sorted ?z_enumerate ?z_min ?z_isinstance ?z_any ?z_all ?z_bool ?z_int ?z_str ?hc0 ?ht0 ?hh0 ?hn0 ?hc1 ?ht1 ?hh1 ?hn1 ?hd01
    (case aC0 => k_is)
    (case a0 => k_is)
    (case l0 => k_is)
    (case c0 => k_is)
    (case k0 => k_is)
    (case a1 => k_is)
    (case l1 => k_is)
    (case c1 => k_is)
    (case k1 => k_is)
    (case a2 => k_is)
    (case l2 => k_is)
    (case c2 => k_is)
    (case k2 => k_is)
    (case a3 => k_is)
    (case i3 => k_is)
    (case l3 => k_is)
    (case c3 => k_is)
    (case k3 => k_is)
    (case a4 => k_is)
    (case i4 => k_is)
    (case l4 => k_is)
    (case c4 => k_is)
    (case k4 => k_is)
    (case a5 => k_is)
    (case i5 => k_is)
    (case l5 => k_is)
    (case c5 => k_is)
    (case k5 => k_is)
    (case a6 => k_is)
    (case i6 => k_is)
    (case l6 => k_is)
    (case c6 => k_is)
    (case k6 => k_is)
    (case a7 => k_is)
    (case i7 => k_is)
    (case l7 => k_is)
    (case c7 => k_is)
    (case k7 => k_is)
    (case a8 => k_is)
    (case i8 => k_is)
    (case l8 => k_is)
    (case c8 => k_is)
    (case k8 => k_is)
    (case a9 => k_is)
    (case i9 => k_is)
    (case l9 => k_is)
    (case c9 => k_is)
    (case k9 => k_is)
    (case a10 => k_is)
    (case i10 => k_is)
    (case l10 => k_is)
    (case c10 => k_is)
    (case k10 => k_is)
    (case a11 => k_is)
    (case i11 => k_is)
    (case l11 => k_is)
    (case c11 => k_is)
    (case k11 => k_is)
    (case a12 => k_is)
    (case i12 => k_is)
    (case l12 => k_is)
    (case c12 => k_is)
    (case k12 => k_is)
    (case a13 => k_is)
    (case l13 => k_is)
    (case c13 => k_is)
    (case k13 => k_is)
    (case a14 => k_is)
    (case l14 => k_is)
    (case c14 => k_is)
    (case k14 => k_is)
    (case a15 => k_is)
    (case l15 => k_is)
    (case c15 => k_is)
    (case k15 => k_is)
    (case a16 => k_is)
    (case l16 => k_is)
    (case c16 => k_is)
    (case k16 => k_is)
    (case a17 => k_is)
    (case l17 => k_is)
    (case c17 => k_is)
    (case k17 => k_is)
    (case a18 => k_is)
    (case l18 => k_is)
    (case c18 => k_is)
    (case k18 => k_is)
    (case a19 => k_is)
    (case l19 => k_is)
    (case c19 => k_is)
    (case k19 => k_is)
    (case a20 => k_is)
    (case l20 => k_is)
    (case c20 => k_is)
    (case k20 => k_is)
    (case a21 => k_is)
    (case l21 => k_is)
    (case c21 => k_is)
    (case k21 => k_is)
    (case a22 => k_is)
    (case l22 => k_is)
    (case c22 => k_is)
    (case k22 => k_is)
    (case a23 => k_is)
    (case l23 => k_is)
    (case c23 => k_is)
    (case k23 => k_is)
    (case a24 => k_is)
    (case l24 => k_is)
    (case c24 => k_is)
    (case k24 => k_is)
    (case a25 => k_is)
    (case l25 => k_is)
    (case c25 => k_is)
    (case k25 => k_is)
    (case pg0 => k_is)
    (case hd0 => k_is)
    (case po0 => k_is)
    (case sa0 => k_is)
    (case mk0 => k_is)
    (case kc0 => k_is)
    (case n0_number => k_is)
    (case n0_many => k_is)
    (case n0_term => k_is)
    (case n0_of => k_is)
    (case n0_log => k_is)
    (case n0_done => k_is)
    (case n0_role => k_is)
    (case n0_voices => k_is)
    (case n0_sizes => k_is)
    (case z_max => k_is)
    (case z_list => k_is)
    (case z_len => k_is)
    (case z_range => k_is)
    (case z_tuple => k_is)
    (case z_sorted => k_is)
    (case z_enumerate => k_is)
    (case z_min => k_is)
    (case z_isinstance => k_is)
    (case z_any => k_is)
    (case z_all => k_is)
    (case z_bool => k_is)
    (case z_int => k_is)
    (case z_str => k_is)
    (case hc0 => exact rfl)
    (case ht0 => exact PySem.W.km_tabs_of Y _ (.tail _ (.head _)))
    (case hh0 => kernel_rfl)
    (case hn0 => kernel_rfl)
    (case hc1 => exact rfl)
    (case ht1 => exact PySem.W.km_tabs_of Y _ (.head _))
    (case hh1 => kernel_rfl)
    (case hn1 => kernel_rfl)
    (case hd01 => decide)

