import PyProof.Rows.All
import Wide.All
import OpenK.AllK
import Wide.FinOn
import HandS.ForMost
import HandS.Evl
import HandS.Wide
import HandS.IsInst
import HandS.TupLe
import HandS.Steps
import HandS.EndBits
import KE.KLam
import KE.KNestM
import KE.DataMinKey
import KE.SortData
import HandS.Lambda
import HandS.EndTab
import HandS.SortKw
import KE.KDictList
import HandS.Dict
import HandS.Iter
import HandS.WordsDict
import HandS.SortInts
import PyProof.Rows.SeqMore
import HandS.Conv
import KE.DatumOrd
import PyProof.DictWalks
import PyProof.DictValues
import HandS.DictTup
import HandS.Walk
import HandS.TupAny
import HandS.Zip
import PyProof.ReprRoads
import PyProof.ReprLen
import PyProof.FitsInt
import HandS.StrMore
import PyProof.StrBlock2
import HandS.More
import KE.GoesNew
import PySem.Challenge.RW_farshelf_k55_the_first_fault
set_option Elab.async false
set_option maxRecDepth 100000
set_option linter.all false
/-! FsMem: what is kept for good (P) and what may change (a list of pieces), side by side. -/
namespace FS
open PySem L2 Evl

def Dj (h1 h2 : Hp) : Prop := ∀ a, h1 a = none ∨ h2 a = none
theorem Dj.symm {h1 h2 : Hp} (d : Dj h1 h2) : Dj h2 h1 := fun a => (d a).symm
theorem Dj.left {h1 h2 : Hp} (d : Dj h1 h2) {a : Addr} {o : HO} (e : h1 a = some o) : h2 a = none := by
  rcases d a with z | z
  · rw [e] at z; cases z
  · exact z
theorem Dj.right {h1 h2 : Hp} (d : Dj h1 h2) {a : Addr} {o : HO} (e : h2 a = some o) : h1 a = none := d.symm.left e
theorem Dj.sub {h1 h2 k1 k2 : Hp} (d : Dj h1 h2) (e1 : Ex k1 h1) (e2 : Ex k2 h2) : Dj k1 k2 := fun a => by
  cases q : k1 a with
  | none => exact .inl rfl
  | some o =>
    right
    exact fresh_back e2 (d.left (e1 a o q))
def emp : Hp := fun _ => none
theorem emp_ex {h : Hp} : Ex emp h := fun _ _ e => by cases e
def sgl (p : Addr) (o : HO) : Hp := fun b => if b = p then some o else none
def Jn (h1 h2 : Hp) : Hp := fun a => match h1 a with | some o => some o | none => h2 a
theorem Jn.l {h1 h2 : Hp} : Ex h1 (Jn h1 h2) := fun a o e => by unfold Jn; rw [e]
theorem Jn.r {h1 h2 : Hp} (d : Dj h1 h2) : Ex h2 (Jn h1 h2) := fun a o e => by unfold Jn; rw [d.right e]; exact e
theorem Jn.le {h1 h2 h : Hp} (a : Ex h1 h) (b : Ex h2 h) : Ex (Jn h1 h2) h := fun x o e => by
  unfold Jn at e
  cases q : h1 x with
  | none => rw [q] at e; exact b x o e
  | some u => rw [q] at e; exact a x o (q.trans e)
theorem Jn.dj {h1 h2 k : Hp} (a : Dj h1 k) (b : Dj h2 k) : Dj (Jn h1 h2) k := fun x => by
  rcases a x with z | z
  · rcases b x with y | y
    · left; unfold Jn; rw [z]; exact y
    · exact .inr y
  · exact .inr z

/-- a piece of what may change: by what is kept for good, a heap of its own -/
structure Ch where
  on : Hp → Hp → Prop
  up : ∀ {P P' h : Hp}, Ex P P' → on P h → on P' h
def Sep (P : Hp) : List Ch → Hp → Prop
  | [], _ => True
  | c :: cs, h => ∃ h1 h2, c.on P h1 ∧ Sep P cs h2 ∧ Dj h1 h2 ∧ Ex h1 h ∧ Ex h2 h
theorem Sep.up {P P' : Hp} (e : Ex P P') : ∀ {cs : List Ch} {h : Hp}, Sep P cs h → Sep P' cs h
  | [], _, _ => trivial
  | c :: _, _, ⟨h1, h2, a, b, r⟩ => ⟨h1, h2, c.up e a, Sep.up e b, r⟩
theorem Sep.le {P : Hp} {h h' : Hp} (e : Ex h h') : ∀ {cs : List Ch}, Sep P cs h → Sep P cs h'
  | [], _ => trivial
  | c :: _, ⟨h1, h2, a, b, d, r1, r2⟩ => ⟨h1, h2, a, b, d, r1.trans e, r2.trans e⟩
def pt (a : Addr) (o : HO) : Ch := ⟨fun _ h => h a = some o, fun _ e => e⟩
/-- some content with a property -/
def ptx (a : Addr) (p : HO → Prop) : Ch := ⟨fun _ h => ∃ o, h a = some o ∧ p o, fun _ e => e⟩
/-- a piece that is made of others -/
def sep (cs : List Ch) : Ch := ⟨fun P h => Sep P cs h, fun e s => Sep.up e s⟩
def exc {α : Type} (f : α → Ch) : Ch := ⟨fun P h => ∃ x, (f x).on P h, fun e ⟨x, s⟩ => ⟨x, (f x).up e s⟩⟩
/-- a fact about what is kept -/
def fct (φ : Hp → Prop) (m : ∀ P P', Ex P P' → φ P → φ P') : Ch := ⟨fun P _ => φ P, fun e s => m _ _ e s⟩
def pur (φ : Prop) : Ch := ⟨fun _ _ => φ, fun _ s => s⟩

inductive Sel : List Ch → Ch → List Ch → Prop
  | z {c : Ch} {cs : List Ch} : Sel (c :: cs) c cs
  | s {c d : Ch} {cs r : List Ch} : Sel cs c r → Sel (d :: cs) c (d :: r)
theorem Sep.sel {P : Hp} {c : Ch} : ∀ {cs r : List Ch} {h : Hp}, Sel cs c r → Sep P cs h → Sep P (c :: r) h
  | _, _, _, .z, s => s
  | _, _, h, .s q, ⟨h1, h2, a, b, d, e1, e2⟩ => by
    obtain ⟨k1, k2, a', b', d', f1, f2⟩ := Sep.sel q b
    have d1 : Dj h1 k1 := d.sub (Ex.refl _) f1
    have d2 : Dj h1 k2 := d.sub (Ex.refl _) f2
    exact ⟨k1, Jn h1 k2, a', ⟨h1, k2, a, b', d2, Jn.l, Jn.r d2⟩, (Jn.dj d1 d'.symm).symm, f1.trans e2, Jn.le e1 (f2.trans e2)⟩
inductive Per : List Ch → List Ch → Prop
  | nil {cs : List Ch} : Per cs []
  | cons {c : Ch} {cs r qs : List Ch} : Sel cs c r → Per r qs → Per cs (c :: qs)
theorem Sep.per {P : Hp} : ∀ {cs qs : List Ch} {h : Hp}, Per cs qs → Sep P cs h → Sep P qs h
  | _, _, _, .nil, _ => trivial
  | _, _, _, .cons q t, s => by
    obtain ⟨h1, h2, a, b, r⟩ := Sep.sel q s
    exact ⟨h1, h2, a, Sep.per t b, r⟩

/-- P is kept for good, the pieces cs stand apart from it and from one another -/
def Mem (P : Hp) (cs : List Ch) (H : Hp) : Prop := Ex P H ∧ ∃ h, Sep P cs h ∧ Dj P h ∧ Ex h H
theorem Mem.ex {P H : Hp} {cs : List Ch} (m : Mem P cs H) : Ex P H := m.1
theorem Mem.sel {P H : Hp} {cs r : List Ch} {c : Ch} (m : Mem P cs H) (q : Sel cs c r) : Mem P (c :: r) H := by
  obtain ⟨e, h, s, d, l⟩ := m
  exact ⟨e, h, Sep.sel q s, d, l⟩
theorem Mem.per {P H : Hp} {cs qs : List Ch} (m : Mem P cs H) (q : Per cs qs) : Mem P qs H := by
  obtain ⟨e, h, s, d, l⟩ := m
  exact ⟨e, h, Sep.per q s, d, l⟩
theorem Mem.drop {P H : Hp} {cs : List Ch} {c : Ch} (m : Mem P (c :: cs) H) : Mem P cs H := by
  obtain ⟨e, h, ⟨h1, h2, a, b, dd, e1, e2⟩, d, l⟩ := m
  exact ⟨e, h2, b, d.sub (Ex.refl _) e2, e2.trans l⟩
theorem Mem.all {H : Hp} : Mem H [] H := ⟨Ex.refl _, emp, trivial, fun _ => .inr rfl, emp_ex⟩
theorem Mem.rd0 {P H : Hp} {cs : List Ch} {a : Addr} {o : HO} (m : Mem P (pt a o :: cs) H) : H a = some o := by
  obtain ⟨e, h, ⟨h1, h2, q, b, dd, e1, e2⟩, d, l⟩ := m
  exact l _ _ (e1 _ _ q)
theorem Mem.out0 {P H : Hp} {cs : List Ch} {a : Addr} {o : HO} (m : Mem P (pt a o :: cs) H) : P a = none := by
  obtain ⟨e, h, ⟨h1, h2, q, b, dd, e1, e2⟩, d, l⟩ := m
  exact d.right (e1 _ _ q)
theorem Mem.rd {P H : Hp} {cs r : List Ch} {a : Addr} {o : HO} (m : Mem P cs H) (q : Sel cs (pt a o) r) : H a = some o := (m.sel q).rd0
theorem Mem.rdx {P H : Hp} {cs : List Ch} {a : Addr} {p : HO → Prop} (m : Mem P (ptx a p :: cs) H) : ∃ o, p o ∧ Mem P (pt a o :: cs) H := by
  obtain ⟨e, h, ⟨h1, h2, ⟨o, q, po⟩, b, dd, e1, e2⟩, d, l⟩ := m
  exact ⟨o, po, e, h, ⟨h1, h2, q, b, dd, e1, e2⟩, d, l⟩
theorem Mem.tox {P H : Hp} {cs : List Ch} {a : Addr} {o : HO} {p : HO → Prop} (m : Mem P (pt a o :: cs) H) (h : p o) : Mem P (ptx a p :: cs) H := by
  obtain ⟨e, k, ⟨h1, h2, q, b, dd, e1, e2⟩, d, l⟩ := m
  exact ⟨e, k, ⟨h1, h2, ⟨o, q, h⟩, b, dd, e1, e2⟩, d, l⟩
theorem upd_of {H : Hp} {a b : Addr} {o u : HO} (h : upd H a o b = some u) : (b = a ∧ u = o) ∨ (b ≠ a ∧ H b = some u) := by
  by_cases e : b = a
  · subst e; rw [upd_same] at h; exact .inl ⟨rfl, (Option.some.inj h).symm⟩
  · rw [upd_ne e] at h; exact .inr ⟨e, h⟩
theorem Mem.put0 {P H : Hp} {cs : List Ch} {a : Addr} {o o' : HO} (m : Mem P (pt a o :: cs) H) : Mem P (pt a o' :: cs) (upd H a o') := by
  have po := m.out0
  obtain ⟨e, h, ⟨h1, h2, q, b, dd, e1, e2⟩, d, l⟩ := m
  have q' : h1 a = some o := q
  have n2 : h2 a = none := dd.left q'
  refine ⟨e.mut po, upd h a o', ⟨upd h1 a o', h2, upd_same, b, fun x => ?_, fun x u z => ?_, e2.mut n2⟩, fun x => ?_, fun x u z => ?_⟩
  · by_cases z : x = a
    · subst z; exact .inr n2
    · rw [upd_ne z]; exact dd x
  · rcases upd_of z with ⟨rfl, rfl⟩ | ⟨z1, z2⟩
    · exact upd_same
    · rw [upd_ne z1]; exact e1 _ _ z2
  · by_cases z : x = a
    · subst z; exact .inl po
    · rw [upd_ne z]; exact d x
  · rcases upd_of z with ⟨rfl, rfl⟩ | ⟨z1, z2⟩
    · exact upd_same
    · rw [upd_ne z1]; exact l _ _ z2
/-- the piece at a changed within the list of pieces -/
inductive Upd : List Ch → Addr → HO → HO → List Ch → Prop
  | z {a : Addr} {o o' : HO} {cs : List Ch} : Upd (pt a o :: cs) a o o' (pt a o' :: cs)
  | s {a : Addr} {o o' : HO} {c : Ch} {cs r : List Ch} : Upd cs a o o' r → Upd (c :: cs) a o o' (c :: r)
theorem Upd.sel : ∀ {cs r : List Ch} {a : Addr} {o o' : HO}, Upd cs a o o' r → ∃ k, Sel cs (pt a o) k ∧ Sel r (pt a o') k
  | _, _, _, _, _, .z => ⟨_, .z, .z⟩
  | _, _, _, _, _, .s q => let ⟨_, x, y⟩ := Upd.sel q; ⟨_, .s x, .s y⟩
theorem Sep.unsel {P : Hp} {c : Ch} : ∀ {cs r : List Ch} {h : Hp}, Sel cs c r → Sep P (c :: r) h → Sep P cs h
  | _, _, _, .z, s => s
  | _, _, h, .s q, ⟨h1, h2, a, ⟨k1, k2, a', b', d', f1, f2⟩, d, e1, e2⟩ => by
    have d1 : Dj h1 k1 := d.sub (Ex.refl _) f1
    have d2 : Dj h1 k2 := d.sub (Ex.refl _) f2
    exact ⟨k1, Jn h1 k2, a', Sep.unsel q ⟨h1, k2, a, b', d2, Jn.l, Jn.r d2⟩, (Jn.dj d1 d'.symm).symm, f1.trans e2, Jn.le e1 (f2.trans e2)⟩
theorem Mem.unsel {P H : Hp} {cs r : List Ch} {c : Ch} (q : Sel cs c r) (m : Mem P (c :: r) H) : Mem P cs H := by
  obtain ⟨e, h, s, d, l⟩ := m
  exact ⟨e, h, Sep.unsel q s, d, l⟩
theorem Mem.put {P H : Hp} {cs r : List Ch} {a : Addr} {o o' : HO} (m : Mem P cs H) (q : Upd cs a o o' r) : Mem P r (upd H a o') := by
  obtain ⟨k, x, y⟩ := q.sel
  exact Mem.unsel y (m.sel x).put0
theorem Upd.rd {P H : Hp} {cs r : List Ch} {a : Addr} {o o' : HO} (m : Mem P cs H) (q : Upd cs a o o' r) : H a = some o := by
  obtain ⟨k, x, y⟩ := q.sel
  exact (m.sel x).rd0
theorem Mem.new {P H : Hp} {cs : List Ch} {p : Addr} {o : HO} (m : Mem P cs H) (n : H p = none) : Mem P (pt p o :: cs) (upd H p o) := by
  obtain ⟨e, h, s, d, l⟩ := m
  have hn : h p = none := fresh_back l n
  have pn : P p = none := fresh_back e n
  refine ⟨e.mut pn, upd h p o, ⟨sgl p o, h, if_pos rfl, s, fun x => ?_, fun x u z => ?_, (Ex.refl h).mut hn⟩, fun x => ?_, fun x u z => ?_⟩
  · by_cases z : x = p
    · subst z; exact .inr hn
    · exact .inl (if_neg z)
  · unfold sgl at z
    split at z
    · rename_i q; subst q; cases z; exact upd_same
    · cases z
  · by_cases z : x = p
    · subst z; exact .inl pn
    · rw [upd_ne z]; exact d x
  · rcases upd_of z with ⟨rfl, rfl⟩ | ⟨z1, z2⟩
    · exact upd_same
    · rw [upd_ne z1]; exact l _ _ z2
/-- kept for good from now on -/
theorem Mem.freeze {P H : Hp} {cs : List Ch} {a : Addr} {o : HO} (m : Mem P (pt a o :: cs) H) : Mem (upd P a o) cs H ∧ Ex P (upd P a o) := by
  have po := m.out0
  have ho := m.rd0
  obtain ⟨e, h, ⟨h1, h2, q, b, dd, e1, e2⟩, d, l⟩ := m
  have q' : h1 a = some o := q
  have n2 : h2 a = none := dd.left q'
  have eP : Ex P (upd P a o) := Ex.new po
  refine ⟨⟨fun x u z => ?_, h2, Sep.up eP b, fun x => ?_, e2.trans l⟩, eP⟩
  · rcases upd_of z with ⟨rfl, rfl⟩ | ⟨z1, z2⟩
    · exact ho
    · exact e _ _ z2
  · by_cases z : x = a
    · subst z; exact .inr n2
    · rw [upd_ne z]; exact (d.sub (Ex.refl _) e2) x
theorem Mem.newP {P H : Hp} {cs : List Ch} {p : Addr} {o : HO} (m : Mem P cs H) (n : H p = none) : Mem (upd P p o) cs (upd H p o) ∧ Ex P (upd P p o) := (m.new n).freeze
/-- pieces made of pieces -/
theorem Mem.open {P H : Hp} {cs ds : List Ch} (m : Mem P (sep ds :: cs) H) : Mem P (ds ++ cs) H := by
  obtain ⟨e, h, ⟨h1, h2, q, b, dd, e1, e2⟩, d, l⟩ := m
  refine ⟨e, h, ?_, d, l⟩
  have q' : Sep P ds h1 := q
  clear q
  induction ds generalizing h1 h with
  | nil => exact Sep.le e2 b
  | cons c ds ih =>
    obtain ⟨k1, k2, a', b', d', f1, f2⟩ := q'
    have dk2 : Dj k2 h2 := dd.sub f2 (Ex.refl _)
    have dk1 : Dj k1 h2 := dd.sub f1 (Ex.refl _)
    have le2 : Ex (Jn k2 h2) h := Jn.le (f2.trans e1) e2
    exact ⟨k1, Jn k2 h2, a', ih (Jn k2 h2) k2 dk2 Jn.l (Jn.r dk2) (d.sub (Ex.refl _) le2) (le2.trans l) b', (Jn.dj d'.symm dk1.symm).symm, f1.trans e1, le2⟩
theorem Mem.close {P H : Hp} {cs ds : List Ch} (m : Mem P (ds ++ cs) H) : Mem P (sep ds :: cs) H := by
  obtain ⟨e, h, s, d, l⟩ := m
  refine ⟨e, h, ?_, d, l⟩
  clear d l
  induction ds generalizing h with
  | nil => exact ⟨emp, h, trivial, s, fun _ => .inl rfl, emp_ex, Ex.refl _⟩
  | cons c ds ih =>
    obtain ⟨k1, k2, a', b', d', f1, f2⟩ := s
    obtain ⟨g1, g2, x, y, dd, i1, i2⟩ := ih k2 b'
    have d1 : Dj k1 g1 := d'.sub (Ex.refl _) i1
    have d2 : Dj k1 g2 := d'.sub (Ex.refl _) i2
    exact ⟨Jn k1 g1, g2, ⟨k1, g1, a', x, d1, Jn.l, Jn.r d1⟩, y, Jn.dj d2 dd, Jn.le f1 (i1.trans f2), i2.trans f2⟩
theorem Mem.exE {P H : Hp} {cs : List Ch} {α : Type} {f : α → Ch} (m : Mem P (exc f :: cs) H) : ∃ x, Mem P (f x :: cs) H := by
  obtain ⟨e, h, ⟨h1, h2, ⟨x, q⟩, b, r⟩, d⟩ := m
  exact ⟨x, e, h, ⟨h1, h2, q, b, r⟩, d⟩
theorem Mem.exI {P H : Hp} {cs : List Ch} {α : Type} {f : α → Ch} (x : α) (m : Mem P (f x :: cs) H) : Mem P (exc f :: cs) H := by
  obtain ⟨e, h, ⟨h1, h2, q, b, r⟩, d⟩ := m
  exact ⟨e, h, ⟨h1, h2, ⟨x, q⟩, b, r⟩, d⟩
theorem Mem.purE {P H : Hp} {cs : List Ch} {φ : Prop} (m : Mem P (pur φ :: cs) H) : φ ∧ Mem P cs H := by
  have z := m.drop
  obtain ⟨e, h, ⟨h1, h2, q, b, r⟩, d⟩ := m
  exact ⟨q, z⟩
theorem Mem.purI {P H : Hp} {cs : List Ch} {φ : Prop} (h : φ) (m : Mem P cs H) : Mem P (pur φ :: cs) H := by
  obtain ⟨e, k, s, d, l⟩ := m
  exact ⟨e, k, ⟨emp, k, h, s, fun _ => .inl rfl, emp_ex, Ex.refl _⟩, d, l⟩
theorem Mem.fctE {P H : Hp} {cs : List Ch} {φ : Hp → Prop} {mo} (m : Mem P (fct φ mo :: cs) H) : φ P ∧ Mem P cs H := by
  have z := m.drop
  obtain ⟨e, h, ⟨h1, h2, q, b, r⟩, d⟩ := m
  exact ⟨q, z⟩
theorem Mem.fctI {P H : Hp} {cs : List Ch} {φ : Hp → Prop} {mo} (h : φ P) (m : Mem P cs H) : Mem P (fct φ mo :: cs) H := by
  obtain ⟨e, k, s, d, l⟩ := m
  exact ⟨e, k, ⟨emp, k, h, s, fun _ => .inl rfl, emp_ex, Ex.refl _⟩, d, l⟩

/-! ### data that is kept -/
mutual
theorem Dp.up {K : PySem.W.Frag} {P P' : Hp} (e : Ex P P') : ∀ {v : V} {d : PyData}, Dp K P v d → Dp K P' v d
  | _, _, .non => .non
  | _, _, .bl b => .bl b
  | _, _, .int i => .int i
  | _, _, .str x => .str x
  | _, _, .lst h a => .lst (ex_l e h) (DpAll.up e a)
  | _, _, .tup h a => .tup (ex_t e h) (DpAll.up e a)
theorem DpAll.up {K : PySem.W.Frag} {P P' : Hp} (e : Ex P P') : ∀ {vs : List V} {ds : List PyData}, DpAll K P vs ds → DpAll K P' vs ds
  | _, _, .nil => .nil
  | _, _, .cons a b => .cons (Dp.up e a) (DpAll.up e b)
end
theorem Mem.sqL {K : PySem.W.Frag} {Pa P H : Hp} {cs : List Ch} {a : Addr} {xs : List V} (m : Mem P cs H) (h : SqL K Pa a xs) (e : Ex Pa P) : SqL K H a xs := ex_l (e.trans m.ex) h
theorem Mem.sqT {K : PySem.W.Frag} {Pa P H : Hp} {cs : List Ch} {a : Addr} {xs : List V} (m : Mem P cs H) (h : SqT K Pa a xs) (e : Ex Pa P) : SqT K H a xs := ex_t (e.trans m.ex) h
theorem Mem.sqLp {K : PySem.W.Frag} {P H : Hp} {cs r : List Ch} {a : Addr} {xs : List V} (m : Mem P cs H) (q : Sel cs (pt a (.lst xs)) r) : SqL K H a xs := SqL.of (m.rd q)

theorem sqL_up {K : PySem.W.Frag} {P P' : Hp} {a : Addr} {xs : List V} (h : SqL K P a xs) (e : Ex P P') : SqL K P' a xs := ex_l e h
theorem sqT_up {K : PySem.W.Frag} {P P' : Hp} {a : Addr} {xs : List V} (h : SqT K P a xs) (e : Ex P P') : SqT K P' a xs := ex_t e h
theorem dp_up {K : PySem.W.Frag} {P P' : Hp} {v : V} {d : PyData} (h : Dp K P v d) (e : Ex P P') : Dp K P' v d := Dp.up e h
theorem sz_up {n : Nat} (h : n ≤ 100000) : n ≤ sizeLine := sz_of h
/-! ### readings: a name stored, an object made -/
inductive SetS : List (Option V) → Nat → V → List (Option V) → Prop
  | z {v : V} {x : Option V} {r : List (Option V)} : SetS (x :: r) 0 v (some v :: r)
  | s {v : V} {x : Option V} {r r' : List (Option V)} {n : Nat} : SetS r n v r' → SetS (x :: r) (n + 1) v (x :: r')
theorem SetS.eq : ∀ {σ σ' : List (Option V)} {i : Nat} {v : V}, SetS σ i v σ' → σ.set i (some v) = σ'
  | _, _, _, _, .z => rfl
  | _, _, _, _, .s q => by rw [List.set_cons_succ, SetS.eq q]
theorem i_name {i : Nat} {v : V} {σ σ' : L2.St} {H : Hp} {Q : L2.St → Hp → Prop} (h : SetS σ i v σ') (q : Q σ' H) : gName i v σ H Q := by
  show Q (σ.set i (some v)) H
  rw [h.eq]; exact q
theorem i_set {i : Nat} {te : TE} {D : Ends} {σ : L2.St} {H : Hp} (h : te σ H fun v H1 => gName i v σ H1 D.nx) : tAsg te (gName i) D σ H := h
theorem i_asg {te : TE} {g : TG} {D : Ends} {σ : L2.St} {H : Hp} (h : te σ H fun v H1 => g v σ H1 D.nx) : tAsg te g D σ H := h
theorem i_seq {t u : TS} {D : Ends} {σ : L2.St} {H : Hp} (h : t { D with nx := u D } σ H) : tSeq t u D σ H := h
theorem i_next {D : Ends} {σ : L2.St} {H : Hp} (h : D.nx σ H) : tNext D σ H := h
theorem i_ret {te : TE} {D : Ends} {σ : L2.St} {H : Hp} (h : te σ H D.rt) : tRet te D σ H := h
theorem i_drop {te : TE} {D : Ends} {σ : L2.St} {H : Hp} (h : te σ H fun _ H1 => D.nx σ H1) : tDrop te D σ H := h
theorem i_var {i : Nat} {σ : L2.St} {H : Hp} {v : V} {Q : VK} (h : σ[i]? = some (some v)) (q : Q v H) : tVar i σ H Q := ⟨v, h, q⟩
theorem i_c {v : V} {σ : L2.St} {H : Hp} {Q : VK} (q : Q v H) : tC v σ H Q := q
theorem i_op {r : R2} {ta tb : TE} {σ : L2.St} {H : Hp} {Q : VK} (h : ta σ H fun x H1 => tb σ H1 fun y H2 => r x y H2 Q) : tOp r ta tb σ H Q := h
theorem i_un {r : V → Hp → VK → Prop} {ta : TE} {σ : L2.St} {H : Hp} {Q : VK} (h : ta σ H fun x H1 => r x H1 Q) : tUn r ta σ H Q := h
theorem i_rI0 {g : Int → Int → V} {i j : Int} {H : Hp} {Q : VK} (q : Q (g i j) H) : rI0 g (.int i) (.int j) H Q := ⟨i, j, rfl, rfl, q⟩
theorem i_rI {C : Int → Int → Prop} {g : Int → Int → V} {i j : Int} {H : Hp} {Q : VK} (c : C i j) (q : Q (g i j) H) : rI C g (.int i) (.int j) H Q := ⟨i, j, rfl, rfl, c, q⟩
theorem i_rU {g : Int → V} {i : Int} {H : Hp} {Q : VK} (q : Q (g i) H) : rU g (.int i) H Q := ⟨i, rfl, q⟩
theorem i_eqI {i j : Int} {H : Hp} {Q : VK} (q : Q (.bl (decide (i = j))) H) : rEq (.int i) (.int j) H Q := by
  refine ⟨rfl, ?_⟩
  rw [show decide (V.int i = V.int j) = decide (i = j) from by simp only [V.int.injEq]]
  exact q
theorem i_neI {i j : Int} {H : Hp} {Q : VK} (q : Q (.bl (!decide (i = j))) H) : rNe (.int i) (.int j) H Q := by
  refine ⟨rfl, ?_⟩
  rw [show decide (V.int i = V.int j) = decide (i = j) from by simp only [V.int.injEq]]
  exact q
theorem i_eqB {i j : Bool} {H : Hp} {Q : VK} (q : Q (.bl (decide (i = j))) H) : rEq (.bl i) (.bl j) H Q := by
  refine ⟨rfl, ?_⟩
  rw [show decide (V.bl i = V.bl j) = decide (i = j) from by simp only [V.bl.injEq]]
  exact q
theorem i_neB {i j : Bool} {H : Hp} {Q : VK} (q : Q (.bl (!decide (i = j))) H) : rNe (.bl i) (.bl j) H Q := by
  refine ⟨rfl, ?_⟩
  rw [show decide (V.bl i = V.bl j) = decide (i = j) from by simp only [V.bl.injEq]]
  exact q
theorem i_eqS {i j : Str} {H : Hp} {Q : VK} (q : Q (.bl (decide (i = j))) H) : rEq (.str i) (.str j) H Q := by
  refine ⟨rfl, ?_⟩
  rw [show decide (V.str i = V.str j) = decide (i = j) from by simp only [V.str.injEq]]
  exact q
theorem i_neS {i j : Str} {H : Hp} {Q : VK} (q : Q (.bl (!decide (i = j))) H) : rNe (.str i) (.str j) H Q := by
  refine ⟨rfl, ?_⟩
  rw [show decide (V.str i = V.str j) = decide (i = j) from by simp only [V.str.injEq]]
  exact q
theorem i_isN {v : V} {H : Hp} {Q : VK} (q : Q (.bl (decide (v = .non))) H) : rIsN v .non H Q := ⟨rfl, q⟩
theorem i_aNil {σ : L2.St} {H : Hp} {Q : List V → Hp → Prop} (q : Q [] H) : tNil σ H Q := q
theorem i_aCons {ta : TE} {tr : TA} {σ : L2.St} {H : Hp} {Q : List V → Hp → Prop} (h : ta σ H fun x H1 => tr σ H1 fun xs H2 => Q (x :: xs) H2) : tCons ta tr σ H Q := h
theorem i_cb {r : List V → Hp → VK → Prop} {t : TA} {σ : L2.St} {H : Hp} {Q : VK} (h : t σ H fun vs H1 => r vs H1 Q) : tCB r t σ H Q := h
theorem i_call {sp : Sp} {dvs : List V} {E : XK} {t : TA} {σ : L2.St} {H : Hp} {Q : VK} (h : t σ H fun vs H1 => sp (vs ++ dvs) H1 Q E) : tCall sp dvs E t σ H Q := h
theorem i_test {t : TE} {σ : L2.St} {H : Hp} {Q : Bool → Hp → Prop} (h : t σ H fun x H' => ∃ k, x = .bl k ∧ Q k H') : tTest t σ H Q := h
theorem i_tB {t : TE} {σ : L2.St} {H : Hp} {Q : Bool → Hp → Prop} (h : t σ H fun x H' => ∃ k, x = .bl k ∧ Q k H') : tB t σ H Q := h
theorem i_tb {b : Bool} {H : Hp} {Q : Bool → Hp → Prop} (h : Q b H) : ∃ k, V.bl b = .bl k ∧ Q k H := ⟨b, rfl, h⟩
/-- an object laid at a new place, what follows told of it -/
def NewO (o : HO) (H : Hp) (Q : VK) : Prop := ∀ p, H p = none → Q (.ref p) (upd H p o)
theorem i_newP {P H : Hp} {cs : List Ch} {o : HO} {Q : VK} (m : Mem P cs H) (q : ∀ p P' H', Mem P' cs H' → Ex P P' → P' p = some o → Q (.ref p) H') : NewO o H Q := fun p n => q p _ _ (m.newP n).1 (m.newP n).2 upd_same
theorem i_newT {K : PySem.W.Frag} {P H : Hp} {cs : List Ch} {xs : List V} {Q : VK} (m : Mem P cs H) (q : ∀ p P' H', Mem P' cs H' → Ex P P' → SqT K P' p xs → Q (.ref p) H') : NewO (.tup xs) H Q :=
  fun p n => q p _ _ (m.newP n).1 (m.newP n).2 (SqT.of upd_same)
theorem i_newL {K : PySem.W.Frag} {P H : Hp} {cs : List Ch} {xs : List V} {Q : VK} (m : Mem P cs H) (q : ∀ p P' H', Mem P' cs H' → Ex P P' → SqL K P' p xs → Q (.ref p) H') : NewO (.lst xs) H Q :=
  fun p n => q p _ _ (m.newP n).1 (m.newP n).2 (SqL.of upd_same)
theorem i_newM {P H : Hp} {cs : List Ch} {o : HO} {Q : VK} (m : Mem P cs H) (q : ∀ p H', Mem P (pt p o :: cs) H' → Q (.ref p) H') : NewO o H Q := fun p n => q p _ (m.new n)
def NewT (xs : List V) (H : Hp) (Q : VK) : Prop := xs.length ≤ sizeLine ∧ NewO (.tup xs) H Q
def NewL (xs : List V) (H : Hp) (Q : VK) : Prop := xs.length ≤ sizeLine ∧ NewO (.lst xs) H Q
theorem i_NT {xs : List V} {H : Hp} {Q : VK} (hl : xs.length ≤ 100000) (h : NewO (.tup xs) H Q) : NewT xs H Q := ⟨sz_of hl, h⟩
theorem i_NL {xs : List V} {H : Hp} {Q : VK} (hl : xs.length ≤ 100000) (h : NewO (.lst xs) H Q) : NewL xs H Q := ⟨sz_of hl, h⟩
theorem i_tup {ta : TA} {σ : L2.St} {H : Hp} {Q : VK} (h : ta σ H fun xs H1 => NewT xs H1 Q) : tTup ta σ H Q := h
theorem i_lst {ta : TA} {σ : L2.St} {H : Hp} {Q : VK} (h : ta σ H fun xs H1 => NewL xs H1 Q) : tLst ta σ H Q := h
theorem i_ixL {K : PySem.W.Frag} {p : Addr} {xs : List V} {i : Int} {v : V} {H : Hp} {Q : VK} (h : SqL K H p xs) (ha : atI xs i = some v) (q : Q v H) : rIxL K (.ref p) (.int i) H Q := ⟨p, xs, i, v, rfl, rfl, h, ha, q⟩
theorem i_ixT {K : PySem.W.Frag} {p : Addr} {xs : List V} {i : Int} {v : V} {H : Hp} {Q : VK} (h : SqT K H p xs) (ha : atI xs i = some v) (q : Q v H) : rIxT K (.ref p) (.int i) H Q := ⟨p, xs, i, v, rfl, rfl, h, ha, q⟩
end FS

set_option Elab.async false
set_option maxRecDepth 100000
set_option linter.all false
/-! FsGo: readings, by leaves. -/
namespace FS
open PySem L2 Evl
/-! loops -/
theorem i_for {wi : TI} {g : TG} {tb : TS} {D : Ends} {σ : L2.St} {H : Hp} (h : wi σ H fun J H1 => ∃ W : Nat → Nat → L2.St → Hp → Prop, (∃ m, W 0 m σ H1) ∧ ∀ i m σ H, W i m σ H →
  (J.stop i H ∧ D.nx σ H) ∨ (J.go i H ∧ ∃ N : L2.St → Hp → Prop, (∀ σ' H', N σ' H' → ∃ m', m' < m ∧ W (i + 1) m' σ' H') ∧ ∀ x H', J.yld i H x H' → g x σ H' fun σ2 H2 => tb { D with nx := N, ct := N, bk := D.nx } σ2 H2)) : tFor wi g tb D σ H := h
theorem i_iList {K : PySem.W.Frag} {tl : TE} {σ : L2.St} {H : Hp} {R : It → Hp → Prop} (h : tl σ H fun x H1 => ∃ a, x = .ref a ∧ (∃ xs, SqL K H1 a xs) ∧ R (Itl K a) H1) : iList K tl σ H R := h
theorem i_iTup {K : PySem.W.Frag} {tl : TE} {σ : L2.St} {H : Hp} {R : It → Hp → Prop} (h : tl σ H fun x H1 => ∃ a, x = .ref a ∧ (∃ xs, SqT K H1 a xs) ∧ R (Itt K a) H1) : iTup K tl σ H R := h
theorem i_iEnum {K : PySem.W.Frag} {ta : TA} {σ : L2.St} {H : Hp} {R : It → Hp → Prop} (h : ta σ H fun vs H1 => ∃ a xs, vs = [.ref a] ∧ SqL K H1 a xs ∧ R (Ite K a) H1) : iEnum K ta σ H R := h
theorem i_iRng1 {ta : TA} {σ : L2.St} {H : Hp} {R : It → Hp → Prop} (h : ta σ H fun vs H1 => ∃ j : Int, vs = [.int j] ∧ -(2 ^ 62) ≤ j ∧ j < 2 ^ 62 ∧ R (Itr 0 j.toNat) H1) : iRng1 ta σ H R := h
theorem i_iRng2 {ta : TA} {σ : L2.St} {H : Hp} {R : It → Hp → Prop} (h : ta σ H fun vs H1 => ∃ i j : Int, vs = [.int i, .int j] ∧ (-(2 ^ 62) ≤ i ∧ i < 2 ^ 62 ∧ -(2 ^ 62) ≤ j ∧ j < 2 ^ 62) ∧ R (Itr i (j - i).toNat) H1) : iRng2 ta σ H R := h
theorem l_list {K : PySem.W.Frag} {a : Addr} {xs : List V} {g : TG} {tb : TS} {D : Ends} {σ : L2.St} {H : Hp} (hq : SqL K H a xs) (Pv : Nat → L2.St → Hp → Prop) (h0 : Pv 0 σ H) (hl : ∀ i σ H, i ≤ xs.length → Pv i σ H → SqL K H a xs)
    (hs : ∀ i x σ H, xs[i]? = some x → Pv i σ H → g x σ H fun σ2 H2 => tb { D with nx := Pv (i + 1), ct := Pv (i + 1), bk := D.nx } σ2 H2) (hd : ∀ σ H, Pv xs.length σ H → D.nx σ H) :
    ∃ b, V.ref a = .ref b ∧ (∃ xs, SqL K H b xs) ∧ ∃ W : Nat → Nat → L2.St → Hp → Prop, (∃ m, W 0 m σ H) ∧ ∀ i m σ H, W i m σ H →
      ((Itl K b).stop i H ∧ D.nx σ H) ∨ ((Itl K b).go i H ∧ ∃ N : L2.St → Hp → Prop, (∀ σ' H', N σ' H' → ∃ m', m' < m ∧ W (i + 1) m' σ' H') ∧ ∀ x H', (Itl K b).yld i H x H' → g x σ H' fun σ2 H2 => tb { D with nx := N, ct := N, bk := D.nx } σ2 H2) :=
  ⟨a, rfl, ⟨_, hq⟩, for_list Pv h0 hl hs hd⟩
theorem l_tup {K : PySem.W.Frag} {a : Addr} {xs : List V} {g : TG} {tb : TS} {D : Ends} {σ : L2.St} {H : Hp} (hq : SqT K H a xs) (Pv : Nat → L2.St → Hp → Prop) (h0 : Pv 0 σ H) (hl : ∀ i σ H, i ≤ xs.length → Pv i σ H → SqT K H a xs)
    (hs : ∀ i x σ H, xs[i]? = some x → Pv i σ H → g x σ H fun σ2 H2 => tb { D with nx := Pv (i + 1), ct := Pv (i + 1), bk := D.nx } σ2 H2) (hd : ∀ σ H, Pv xs.length σ H → D.nx σ H) :
    ∃ b, V.ref a = .ref b ∧ (∃ xs, SqT K H b xs) ∧ ∃ W : Nat → Nat → L2.St → Hp → Prop, (∃ m, W 0 m σ H) ∧ ∀ i m σ H, W i m σ H →
      ((Itt K b).stop i H ∧ D.nx σ H) ∨ ((Itt K b).go i H ∧ ∃ N : L2.St → Hp → Prop, (∀ σ' H', N σ' H' → ∃ m', m' < m ∧ W (i + 1) m' σ' H') ∧ ∀ x H', (Itt K b).yld i H x H' → g x σ H' fun σ2 H2 => tb { D with nx := N, ct := N, bk := D.nx } σ2 H2) :=
  ⟨a, rfl, ⟨_, hq⟩, for_tup Pv h0 hl hs hd⟩
theorem l_enum {K : PySem.W.Frag} {a : Addr} {xs : List V} {g : TG} {tb : TS} {D : Ends} {σ : L2.St} {H : Hp} (hq : SqL K H a xs) (Pv : Nat → L2.St → Hp → Prop) (h0 : Pv 0 σ H) (hl : ∀ i σ H, i ≤ xs.length → Pv i σ H → SqL K H a xs)
    (hs : ∀ i x σ H T, xs[i]? = some x → Pv i σ H → H T = none → g (.ref T) σ (upd H T (.tup [.int (i : Int), x])) fun σ2 H2 => tb { D with nx := Pv (i + 1), ct := Pv (i + 1), bk := D.nx } σ2 H2) (hd : ∀ σ H, Pv xs.length σ H → D.nx σ H) :
    ∃ b ys, [V.ref a] = [.ref b] ∧ SqL K H b ys ∧ ∃ W : Nat → Nat → L2.St → Hp → Prop, (∃ m, W 0 m σ H) ∧ ∀ i m σ H, W i m σ H →
      ((Ite K b).stop i H ∧ D.nx σ H) ∨ ((Ite K b).go i H ∧ ∃ N : L2.St → Hp → Prop, (∀ σ' H', N σ' H' → ∃ m', m' < m ∧ W (i + 1) m' σ' H') ∧ ∀ x H', (Ite K b).yld i H x H' → g x σ H' fun σ2 H2 => tb { D with nx := N, ct := N, bk := D.nx } σ2 H2) := by
  refine ⟨a, xs, rfl, hq, fun i m σ H => m = xs.length - i ∧ i ≤ xs.length ∧ Pv i σ H, ⟨xs.length, by simp, Nat.zero_le _, h0⟩, ?_⟩
  rintro i m σ H ⟨rfl, hi, p⟩
  have q := hl i σ H hi p
  by_cases hlt : i < xs.length
  · refine .inr ⟨⟨xs, xs[i], q, by simp [hlt]⟩, Pv (i + 1), fun σ' H' p' => ⟨xs.length - (i + 1), by omega, rfl, hlt, p'⟩, fun x H' y => ?_⟩
    obtain ⟨T, x', rfl, hT, rfl, e⟩ := y
    exact hs i x' σ H T (e xs q) p hT
  · have e : i = xs.length := by omega
    subst e
    exact .inl ⟨⟨xs, q, Nat.le_refl _⟩, hd σ H p⟩
theorem l_range1 {j : Int} {g : TG} {tb : TS} {D : Ends} {σ : L2.St} {H : Hp} (h1 : -(2 ^ 62) ≤ j) (h2 : j < 2 ^ 62) (Pv : Nat → L2.St → Hp → Prop) (h0 : Pv 0 σ H)
    (hs : ∀ (i : Nat) σ H, (i : Int) < j → Pv i σ H → g (.int (i : Int)) σ H fun σ2 H2 => tb { D with nx := Pv (i + 1), ct := Pv (i + 1), bk := D.nx } σ2 H2) (hd : ∀ σ H, Pv j.toNat σ H → D.nx σ H) :
    ∃ k : Int, [V.int j] = [.int k] ∧ -(2 ^ 62) ≤ k ∧ k < 2 ^ 62 ∧ ∃ W : Nat → Nat → L2.St → Hp → Prop, (∃ m, W 0 m σ H) ∧ ∀ i m σ H, W i m σ H →
      ((Itr 0 k.toNat).stop i H ∧ D.nx σ H) ∨ ((Itr 0 k.toNat).go i H ∧ ∃ N : L2.St → Hp → Prop, (∀ σ' H', N σ' H' → ∃ m', m' < m ∧ W (i + 1) m' σ' H') ∧ ∀ x H', (Itr 0 k.toNat).yld i H x H' → g x σ H' fun σ2 H2 => tb { D with nx := N, ct := N, bk := D.nx } σ2 H2) :=
  ⟨j, rfl, h1, h2, for_range (lo := 0) (n := j.toNat) Pv h0 (fun i σ H hi p => by rw [Int.zero_add]; exact hs i σ H (by omega) p) hd⟩

/-- a comprehension over a list: what is kept grows, the new list at D -/
theorem l_lc {K : PySem.W.Frag} {P : Hp} {cs : List Ch} {a : Addr} {xs : List V} {g : TG} {tt : TT} {te : TE} {vs : List Nat} {σ : L2.St} {H : Hp} {Qd : Addr → Hp → Prop} (m : Mem P cs H) (hl : ∀ P' H' c, Ex P P' → Mem P' (c :: cs) H' → SqL K H' a xs) (R : Nat → List V → Hp → Prop) (h0 : R 0 [] P)
    (hs : ∀ i x P' H' acc D, xs[i]? = some x → Ex P P' → Mem P' (pt D (.lst acc) :: cs) H' → R i acc P' → ∀ (Kt : VK) (Kf : Hp → Prop),
      (∀ y P4 H4, Ex P' P4 → Mem P4 (pt D (.lst acc) :: cs) H4 → acc.length < 100000 → R (i + 1) (acc ++ [y]) P4 → Kt y H4) → (∀ P4 H4, Ex P' P4 → Mem P4 (pt D (.lst acc) :: cs) H4 → R (i + 1) acc P4 → Kf H4) →
      g x (wipe σ vs) H' fun σ2 H2 => wipe σ2 vs = wipe σ vs ∧ tt σ2 H2 fun b H3 => if b = true then te σ2 H3 Kt else Kf H3)
    (hd : ∀ D P' H' acc, Ex P P' → Mem P' (pt D (.lst acc) :: cs) H' → R xs.length acc P' → Qd D H') :
    ∃ b, V.ref a = .ref b ∧ (∃ xs, SqL K H b xs) ∧ ∀ D, H D = none → ∃ W : Nat → Nat → Hp → Prop, (∃ m, W 0 m (upd H D (.lst []))) ∧ ∀ i m H, W i m H →
      ((Itl K b).stop i H ∧ Qd D H) ∨ ((Itl K b).go i H ∧ ∃ Nx : Hp → Prop, (∀ H', Nx H' → ∃ m', m' < m ∧ W (i + 1) m' H') ∧ ∀ x H', (Itl K b).yld i H x H' → g x (wipe σ vs) H' fun σ2 H2 => wipe σ2 vs = wipe σ vs ∧ tt σ2 H2 fun b H3 =>
        if b = true then te σ2 H3 fun y H4 => ∃ acc, H4 D = some (.lst acc) ∧ acc.length < sizeLine ∧ Nx (upd H4 D (.lst (acc ++ [y]))) else Nx H3) := by
  have hq : SqL K H a xs := by
    have z := hl P H (pur True) (Ex.refl _) (Mem.purI trivial m)
    exact z
  refine ⟨a, rfl, ⟨xs, hq⟩, fun D hD => ?_⟩
  refine lc_list (K := K) (a := a) (xs := xs) (Qd := Qd D) (fun i H' => ∃ P' acc, Ex P P' ∧ Mem P' (pt D (.lst acc) :: cs) H' ∧ R i acc P') ⟨P, [], Ex.refl _, m.new hD, h0⟩ (fun i H' _ ⟨P', acc, e, m', _⟩ => hl P' H' _ e m') (fun i x H' hx ⟨P', acc, e, m', r⟩ => ?_) (fun H' ⟨P', acc, e, m', r⟩ => hd D P' H' acc e m' r)
  exact hs i x P' H' acc D hx e m' r _ _ (fun y P4 H4 e4 m4 l4 r4 => ⟨acc, m4.rd0, sz_lt l4, P4, _, e.trans e4, m4.put0, r4⟩) (fun P4 H4 e4 m4 r4 => ⟨P4, acc, e.trans e4, m4, r4⟩)
theorem l_lcT {K : PySem.W.Frag} {P : Hp} {cs : List Ch} {a : Addr} {xs : List V} {g : TG} {tt : TT} {te : TE} {vs : List Nat} {σ : L2.St} {H : Hp} {Qd : Addr → Hp → Prop} (m : Mem P cs H) (hq : SqT K P a xs) (R : Nat → List V → Hp → Prop) (h0 : R 0 [] P)
    (hs : ∀ i x P' H' acc D, xs[i]? = some x → Ex P P' → Mem P' (pt D (.lst acc) :: cs) H' → R i acc P' → ∀ (Kt : VK) (Kf : Hp → Prop),
      (∀ y P4 H4, Ex P' P4 → Mem P4 (pt D (.lst acc) :: cs) H4 → acc.length < 100000 → R (i + 1) (acc ++ [y]) P4 → Kt y H4) → (∀ P4 H4, Ex P' P4 → Mem P4 (pt D (.lst acc) :: cs) H4 → R (i + 1) acc P4 → Kf H4) →
      g x (wipe σ vs) H' fun σ2 H2 => wipe σ2 vs = wipe σ vs ∧ tt σ2 H2 fun b H3 => if b = true then te σ2 H3 Kt else Kf H3)
    (hd : ∀ D P' H' acc, Ex P P' → Mem P' (pt D (.lst acc) :: cs) H' → R xs.length acc P' → Qd D H') :
    ∃ b, V.ref a = .ref b ∧ (∃ xs, SqT K H b xs) ∧ ∀ D, H D = none → ∃ W : Nat → Nat → Hp → Prop, (∃ m, W 0 m (upd H D (.lst []))) ∧ ∀ i m H, W i m H →
      ((Itt K b).stop i H ∧ Qd D H) ∨ ((Itt K b).go i H ∧ ∃ Nx : Hp → Prop, (∀ H', Nx H' → ∃ m', m' < m ∧ W (i + 1) m' H') ∧ ∀ x H', (Itt K b).yld i H x H' → g x (wipe σ vs) H' fun σ2 H2 => wipe σ2 vs = wipe σ vs ∧ tt σ2 H2 fun b H3 =>
        if b = true then te σ2 H3 fun y H4 => ∃ acc, H4 D = some (.lst acc) ∧ acc.length < sizeLine ∧ Nx (upd H4 D (.lst (acc ++ [y]))) else Nx H3) := by
  refine ⟨a, rfl, ⟨xs, ex_t m.ex hq⟩, fun D hD => ?_⟩
  refine lc_tup (K := K) (a := a) (xs := xs) (Qd := Qd D) (fun i H' => ∃ P' acc, Ex P P' ∧ Mem P' (pt D (.lst acc) :: cs) H' ∧ R i acc P') ⟨P, [], Ex.refl _, m.new hD, h0⟩ (fun i H' _ ⟨P', acc, e, m', _⟩ => ex_t (e.trans m'.ex) hq) (fun i x H' hx ⟨P', acc, e, m', r⟩ => ?_) (fun H' ⟨P', acc, e, m', r⟩ => hd D P' H' acc e m' r)
  exact hs i x P' H' acc D hx e m' r _ _ (fun y P4 H4 e4 m4 l4 r4 => ⟨acc, m4.rd0, sz_lt l4, P4, _, e.trans e4, m4.put0, r4⟩) (fun P4 H4 e4 m4 r4 => ⟨P4, acc, e.trans e4, m4, r4⟩)
theorem l_lcR {P : Hp} {cs : List Ch} {j : Int} {g : TG} {tt : TT} {te : TE} {vs : List Nat} {σ : L2.St} {H : Hp} {Qd : Addr → Hp → Prop} (h1 : -(2 ^ 62) ≤ j) (h2 : j < 2 ^ 62) (m : Mem P cs H) (R : Nat → List V → Hp → Prop) (h0 : R 0 [] P)
    (hs : ∀ (i : Nat) P' H' acc D, (i : Int) < j → Ex P P' → Mem P' (pt D (.lst acc) :: cs) H' → R i acc P' → ∀ (Kt : VK) (Kf : Hp → Prop),
      (∀ y P4 H4, Ex P' P4 → Mem P4 (pt D (.lst acc) :: cs) H4 → acc.length < 100000 → R (i + 1) (acc ++ [y]) P4 → Kt y H4) → (∀ P4 H4, Ex P' P4 → Mem P4 (pt D (.lst acc) :: cs) H4 → R (i + 1) acc P4 → Kf H4) →
      g (.int (i : Int)) (wipe σ vs) H' fun σ2 H2 => wipe σ2 vs = wipe σ vs ∧ tt σ2 H2 fun b H3 => if b = true then te σ2 H3 Kt else Kf H3)
    (hd : ∀ D P' H' acc, Ex P P' → Mem P' (pt D (.lst acc) :: cs) H' → R j.toNat acc P' → Qd D H') :
    ∃ k : Int, [V.int j] = [.int k] ∧ -(2 ^ 62) ≤ k ∧ k < 2 ^ 62 ∧ ∀ D, H D = none → ∃ W : Nat → Nat → Hp → Prop, (∃ m, W 0 m (upd H D (.lst []))) ∧ ∀ i m H, W i m H →
      ((Itr 0 k.toNat).stop i H ∧ Qd D H) ∨ ((Itr 0 k.toNat).go i H ∧ ∃ Nx : Hp → Prop, (∀ H', Nx H' → ∃ m', m' < m ∧ W (i + 1) m' H') ∧ ∀ x H', (Itr 0 k.toNat).yld i H x H' → g x (wipe σ vs) H' fun σ2 H2 => wipe σ2 vs = wipe σ vs ∧ tt σ2 H2 fun b H3 =>
        if b = true then te σ2 H3 fun y H4 => ∃ acc, H4 D = some (.lst acc) ∧ acc.length < sizeLine ∧ Nx (upd H4 D (.lst (acc ++ [y]))) else Nx H3) := by
  refine ⟨j, rfl, h1, h2, fun D hD => ?_⟩
  refine lc_range (lo := 0) (n := j.toNat) (Qd := Qd D) (fun i H' => ∃ P' acc, Ex P P' ∧ Mem P' (pt D (.lst acc) :: cs) H' ∧ R i acc P') ⟨P, [], Ex.refl _, m.new hD, h0⟩ (fun i H' hi ⟨P', acc, e, m', r⟩ => ?_) (fun H' ⟨P', acc, e, m', r⟩ => hd D P' H' acc e m' r)
  rw [Int.zero_add]
  exact hs i P' H' acc D (by omega) e m' r _ _ (fun y P4 H4 e4 m4 l4 r4 => ⟨acc, m4.rd0, sz_lt l4, P4, _, e.trans e4, m4.put0, r4⟩) (fun P4 H4 e4 m4 r4 => ⟨P4, acc, e.trans e4, m4, r4⟩)
theorem i_lc {wi : TI} {g : TG} {tt : TT} {te : TE} {vs : List Nat} {σ : L2.St} {H : Hp} {Q : VK} (h : wi σ H fun J H1 => ∀ D, H1 D = none → ∃ W : Nat → Nat → Hp → Prop, (∃ m, W 0 m (upd H1 D (.lst []))) ∧ ∀ i m H, W i m H →
      (J.stop i H ∧ Q (.ref D) H) ∨ (J.go i H ∧ ∃ Nx : Hp → Prop, (∀ H', Nx H' → ∃ m', m' < m ∧ W (i + 1) m' H') ∧ ∀ x H', J.yld i H x H' → g x (wipe σ vs) H' fun σ2 H2 => wipe σ2 vs = wipe σ vs ∧ tt σ2 H2 fun b H3 =>
        if b = true then te σ2 H3 fun y H4 => ∃ acc, H4 D = some (.lst acc) ∧ acc.length < sizeLine ∧ Nx (upd H4 D (.lst (acc ++ [y]))) else Nx H3)) : tLc wi g tt te vs σ H Q := h
theorem i_yes {σ : L2.St} {H : Hp} {Q : Bool → Hp → Prop} (h : Q true H) : tYes σ H Q := h
/-! tests -/
theorem i_ifS {c : TT} {t u : TS} {D : Ends} {σ : L2.St} {H : Hp} (h : c σ H fun b H1 => if b = true then t D σ H1 else u D σ H1) : tIfS c t u D σ H := h
theorem i_if {t : TT} {ta tb : TE} {σ : L2.St} {H : Hp} {Q : VK} (h : t σ H fun c H1 => if c = true then ta σ H1 Q else tb σ H1 Q) : tIf t ta tb σ H Q := h
theorem i_and {t u : TT} {σ : L2.St} {H : Hp} {Q : Bool → Hp → Prop} (h : t σ H fun c H1 => if c = true then u σ H1 Q else Q false H1) : tAnd t u σ H Q := h
theorem i_or {t u : TT} {σ : L2.St} {H : Hp} {Q : Bool → Hp → Prop} (h : t σ H fun c H1 => if c = true then Q true H1 else u σ H1 Q) : tOr t u σ H Q := h
theorem i_not {t : TT} {σ : L2.St} {H : Hp} {Q : Bool → Hp → Prop} (h : t σ H fun c H1 => Q (!c) H1) : tNot t σ H Q := h
theorem i_andV {ta tb : TE} {σ : L2.St} {H : Hp} {Q : VK} (h : ta σ H fun x H1 => ∃ c, x = .bl c ∧ if c = true then tb σ H1 Q else Q (.bl false) H1) : tAndV ta tb σ H Q := h
theorem i_orV {ta tb : TE} {σ : L2.St} {H : Hp} {Q : VK} (h : ta σ H fun x H1 => ∃ c, x = .bl c ∧ if c = true then Q (.bl true) H1 else tb σ H1 Q) : tOrV ta tb σ H Q := h
theorem i_notV {ta : TE} {σ : L2.St} {H : Hp} {Q : VK} (h : ta σ H fun x H1 => ∃ c, x = .bl c ∧ Q (.bl (!c)) H1) : tNotV ta σ H Q := h
theorem i_chain {r r' : R2} {ta tb tc : TE} {σ : L2.St} {H : Hp} {Q : VK} (h : ta σ H fun x H1 => tb σ H1 fun y H2 => r x y H2 fun z H3 => ∃ k, z = .bl k ∧ if k = true then tc σ H3 fun w H4 => r' y w H4 Q else Q (.bl false) H3) : tChain r r' ta tb tc σ H Q := h
theorem i_iteNT {A B : Prop} (h : B) : if (!true) = true then A else B := h
theorem i_iteNF {A B : Prop} (h : A) : if (!false) = true then A else B := h
theorem i_ite {b : Bool} {A B : Prop} (h1 : b = true → A) (h2 : b = false → B) : if b = true then A else B := by
  cases b with
  | true => exact iteT (h1 rfl)
  | false => exact iteF (h2 rfl)
theorem i_dec {p : Prop} {_ : Decidable p} {A B : Prop} (h1 : p → A) (h2 : ¬ p → B) : if decide p = true then A else B := by
  by_cases h : p
  · rw [decide_eq_true h]; exact iteT (h1 h)
  · rw [decide_eq_false h]; exact iteF (h2 h)
theorem i_ndec {p : Prop} {_ : Decidable p} {A B : Prop} (h1 : ¬ p → A) (h2 : p → B) : if (!decide p) = true then A else B := by
  by_cases h : p
  · rw [decide_eq_true h]; exact iteF (h2 h)
  · rw [decide_eq_false h]; exact iteT (h1 h)
/-! small powers of ten -/
theorem i_pow {i j : Int} {r : Int} {H : Hp} {Q : VK} (c : CPow i j) (e : i ^ j.toNat = r) (q : Q (.int r) H) : rI CPow (fun i j => V.int (i ^ j.toNat)) (.int i) (.int j) H Q := ⟨i, j, rfl, rfl, c, by show Q (.int (i ^ j.toNat)) H; rw [e]; exact q⟩
theorem i_p12 {H : Hp} {Q : VK} (q : Q (.int 1000000000000) H) : rI CPow (fun i j => V.int (i ^ j.toNat)) (.int 10) (.int 12) H Q := i_pow ⟨by decide, by decide, by decide⟩ (by decide) q
theorem i_p18 {H : Hp} {Q : VK} (q : Q (.int 1000000000000000000) H) : rI CPow (fun i j => V.int (i ^ j.toNat)) (.int 10) (.int 18) H Q := i_pow ⟨by decide, by decide, by decide⟩ (by decide) q
theorem i_p11 {H : Hp} {Q : VK} (q : Q (.int 100000000000) H) : rI CPow (fun i j => V.int (i ^ j.toNat)) (.int 10) (.int 11) H Q := i_pow ⟨by decide, by decide, by decide⟩ (by decide) q
theorem i_p9 {H : Hp} {Q : VK} (q : Q (.int 1000000000) H) : rI CPow (fun i j => V.int (i ^ j.toNat)) (.int 10) (.int 9) H Q := i_pow ⟨by decide, by decide, by decide⟩ (by decide) q
theorem i_p6 {H : Hp} {Q : VK} (q : Q (.int 1000000) H) : rI CPow (fun i j => V.int (i ^ j.toNat)) (.int 10) (.int 6) H Q := i_pow ⟨by decide, by decide, by decide⟩ (by decide) q
/-! calls of built-ins -/
theorem i_slice {r : V → Option Int → Option Int → Hp → VK → Prop} {te : TE} {tl th : TO} {σ : L2.St} {H : Hp} {Q : VK} (h : te σ H fun x H1 => tl σ H1 fun l H2 => th σ H2 fun u H3 => r x l u H3 Q) : tSl r te tl th σ H Q := h
theorem i_someI {i : Int} {R : Int → Prop} (h : R i) : ∃ j, V.int i = .int j ∧ R j := ⟨i, rfl, h⟩
theorem i_blI {b : Bool} {R : Bool → Prop} (h : R b) : ∃ k, V.bl b = .bl k ∧ R k := ⟨b, rfl, h⟩
theorem i_noPart {σ : L2.St} {H : Hp} {Q : Option Int → Hp → Prop} (h : Q none H) : tNoPart σ H Q := h
theorem i_part {t : TE} {σ : L2.St} {H : Hp} {Q : Option Int → Hp → Prop} (h : t σ H fun x H1 => ∃ i, x = .int i ∧ Q (some i) H1) : tPart t σ H Q := h
theorem i_slL {K : PySem.W.Frag} {H : Hp} {a : Addr} {xs : List V} {lo hi : Option Int} {Q : VK} (h : SqL K H a xs) (q : NewO (.lst (cutV xs lo hi)) H Q) : rSlL K (.ref a) lo hi H Q := ⟨a, xs, rfl, h, q⟩
theorem i_cat {P H : Hp} {cs r r2 : List Ch} {a b : Addr} {xs ys : List V} {Q : VK} (m : Mem P cs H) (h1 : Sel cs (pt a (.lst xs)) r) (h2 : Sel cs (pt b (.lst ys)) r2) (hz : xs.length + ys.length ≤ 100000)
    (q : NewO (.lst (xs ++ ys)) H Q) : rCat (.ref a) (.ref b) H Q := ⟨a, b, xs, ys, rfl, rfl, m.rd h1, m.rd h2, sz_of hz, q⟩
inductive SetV : List V → Nat → V → List V → Prop
  | z {v x : V} {r : List V} : SetV (x :: r) 0 v (v :: r)
  | s {v x : V} {r r' : List V} {n : Nat} : SetV r n v r' → SetV (x :: r) (n + 1) v (x :: r')
theorem SetV.eq : ∀ {xs ys : List V} {i : Nat} {v : V}, SetV xs i v ys → xs.set i v = ys
  | _, _, _, _, .z => rfl
  | _, _, _, _, .s q => by rw [List.set_cons_succ, SetV.eq q]
theorem SetV.lt : ∀ {xs ys : List V} {i : Nat} {v : V}, SetV xs i v ys → i < xs.length
  | _, _, _, _, .z => Nat.succ_pos _
  | _, _, _, _, .s q => Nat.succ_lt_succ (SetV.lt q)
theorem ixN_of {n k : Nat} (h : k < n) : ixN n (@OfNat.ofNat Int k instOfNat) = some k := by
  have e : (@OfNat.ofNat Int k instOfNat) = (k : Int) := rfl
  rw [e]
  unfold ixN
  rw [if_pos (by omega), if_pos (by omega)]
  rfl
theorem i_setL {P H : Hp} {cs r r0 : List Ch} {a : Addr} {xs ys : List V} {j : Nat} {v : V} {Q : Hp → Prop} (m : Mem P cs H) (h0 : Sel cs (pt a (.lst xs)) r0) (e : SetV xs j v ys) (h : Upd cs a (.lst xs) (.lst ys) r) (q : ∀ H', Mem P r H' → Q H') : rSetL (.ref a) (.int (@OfNat.ofNat Int j instOfNat)) v H Q :=
  ⟨a, xs, _, j, rfl, rfl, m.rd h0, ixN_of e.lt, q _ (by rw [e.eq]; exact m.put h)⟩
theorem i_setLv {P H : Hp} {cs r r0 : List Ch} {a : Addr} {xs : List V} {i : Int} {v : V} {Q : Hp → Prop} (m : Mem P cs H) (h0 : Sel cs (pt a (.lst xs)) r0) (i0 : 0 ≤ i) (i1 : i < xs.length) (h : Upd cs a (.lst xs) (.lst (xs.set i.toNat v)) r) (q : ∀ H', Mem P r H' → Q H') : rSetL (.ref a) (.int i) v H Q := by
  refine ⟨a, xs, i, i.toNat, rfl, rfl, m.rd h0, ?_, q _ (m.put h)⟩
  unfold ixN
  rw [if_pos i0, if_pos i1]
theorem i_gSub {to ti : TE} {t : TSet} {v : V} {σ : L2.St} {H : Hp} {Q : L2.St → Hp → Prop} (h : to σ H fun o H1 => ti σ H1 fun i H2 => t o i v H2 fun H3 => Q σ H3) : gSub to ti t v σ H Q := h
theorem i_gTup {K : PySem.W.Frag} {n : Nat} {t : TGs} {a : Addr} {xs : List V} {σ : L2.St} {H : Hp} {Q : L2.St → Hp → Prop} (h : SqT K H a xs) (hl : xs.length = n) (q : t xs σ H Q) : gTup K n t (.ref a) σ H Q := ⟨a, xs, rfl, h, hl, q⟩
theorem i_gCons {t : TG} {u : TGs} {v : V} {r : List V} {σ : L2.St} {H : Hp} {Q : L2.St → Hp → Prop} (q : t v σ H fun σ' H' => u r σ' H' Q) : gCons t u (v :: r) σ H Q := ⟨v, r, rfl, q⟩
theorem i_gNil {σ : L2.St} {H : Hp} {Q : L2.St → Hp → Prop} (q : Q σ H) : gNil [] σ H Q := ⟨rfl, q⟩
theorem Mem.enum {K : PySem.W.Frag} {P H : Hp} {cs : List Ch} {T : Addr} {xs : List V} (m : Mem P cs H) (n : H T = none) : ∃ P', Mem P' cs (upd H T (.tup xs)) ∧ Ex P P' ∧ SqT K P' T xs := ⟨_, (m.newP n).1, (m.newP n).2, SqT.of upd_same⟩
theorem i_isi {K : PySem.W.Frag} {x c : V} {t u : Value} {b : Bool} {H : Hp} {Q : VK} (k : ClsV c u) (ty : TyX K H x t) (e : PySem.W.kitOne K t u = some b) (q : Q (.bl b) H) : rIsi K [x, c] H Q := ⟨x, c, t, u, b, rfl, k, ty, e, q⟩
theorem kb_bool_bool : L2.kitB "bool" "bool" = some true := by decide +kernel
theorem kb_bool_int : L2.kitB "bool" "int" = some true := by decide +kernel
theorem kb_bool_str : L2.kitB "bool" "str" = some false := by decide +kernel
theorem kb_bool_list : L2.kitB "bool" "list" = some false := by decide +kernel
theorem kb_bool_tuple : L2.kitB "bool" "tuple" = some false := by decide +kernel
theorem kb_bool_dict : L2.kitB "bool" "dict" = some false := by decide +kernel
theorem kb_int_bool : L2.kitB "int" "bool" = some false := by decide +kernel
theorem kb_int_int : L2.kitB "int" "int" = some true := by decide +kernel
theorem kb_int_str : L2.kitB "int" "str" = some false := by decide +kernel
theorem kb_int_list : L2.kitB "int" "list" = some false := by decide +kernel
theorem kb_int_tuple : L2.kitB "int" "tuple" = some false := by decide +kernel
theorem kb_int_dict : L2.kitB "int" "dict" = some false := by decide +kernel
theorem kb_str_bool : L2.kitB "str" "bool" = some false := by decide +kernel
theorem kb_str_int : L2.kitB "str" "int" = some false := by decide +kernel
theorem kb_str_str : L2.kitB "str" "str" = some true := by decide +kernel
theorem kb_str_list : L2.kitB "str" "list" = some false := by decide +kernel
theorem kb_str_tuple : L2.kitB "str" "tuple" = some false := by decide +kernel
theorem kb_str_dict : L2.kitB "str" "dict" = some false := by decide +kernel
theorem kb_NoneType_bool : L2.kitB "NoneType" "bool" = some false := by decide +kernel
theorem kb_NoneType_int : L2.kitB "NoneType" "int" = some false := by decide +kernel
theorem kb_NoneType_str : L2.kitB "NoneType" "str" = some false := by decide +kernel
theorem kb_NoneType_list : L2.kitB "NoneType" "list" = some false := by decide +kernel
theorem kb_NoneType_tuple : L2.kitB "NoneType" "tuple" = some false := by decide +kernel
theorem kb_NoneType_dict : L2.kitB "NoneType" "dict" = some false := by decide +kernel
theorem kb_list_bool : L2.kitB "list" "bool" = some false := by decide +kernel
theorem kb_list_int : L2.kitB "list" "int" = some false := by decide +kernel
theorem kb_list_str : L2.kitB "list" "str" = some false := by decide +kernel
theorem kb_list_list : L2.kitB "list" "list" = some true := by decide +kernel
theorem kb_list_tuple : L2.kitB "list" "tuple" = some false := by decide +kernel
theorem kb_list_dict : L2.kitB "list" "dict" = some false := by decide +kernel
theorem kb_tuple_bool : L2.kitB "tuple" "bool" = some false := by decide +kernel
theorem kb_tuple_int : L2.kitB "tuple" "int" = some false := by decide +kernel
theorem kb_tuple_str : L2.kitB "tuple" "str" = some false := by decide +kernel
theorem kb_tuple_list : L2.kitB "tuple" "list" = some false := by decide +kernel
theorem kb_tuple_tuple : L2.kitB "tuple" "tuple" = some true := by decide +kernel
theorem kb_tuple_dict : L2.kitB "tuple" "dict" = some false := by decide +kernel
theorem kb_dict_bool : L2.kitB "dict" "bool" = some false := by decide +kernel
theorem kb_dict_int : L2.kitB "dict" "int" = some false := by decide +kernel
theorem kb_dict_str : L2.kitB "dict" "str" = some false := by decide +kernel
theorem kb_dict_list : L2.kitB "dict" "list" = some false := by decide +kernel
theorem kb_dict_tuple : L2.kitB "dict" "tuple" = some false := by decide +kernel
theorem kb_dict_dict : L2.kitB "dict" "dict" = some true := by decide +kernel
end FS

set_option Elab.async false
set_option maxRecDepth 100000
set_option linter.all false
/-! FsRule: the layer's rules with the written part named, their readings named. -/
namespace FS
open PySem PySem.Spec PyProof.Rows L2 Evl
section
variable {X : Cx} {K : PySem.W.Frag}
theorem ixL (h : X.K = K) : IxR X (rIxL K) := by subst h; exact ix_list
theorem ixT (h : X.K = K) : IxR X (rIxT K) := by subst h; exact ix_tup
theorem slL (h : X.K = K) : SlR X (rSlL K) := by subst h; exact sl_list
theorem slT (h : X.K = K) : SlR X (rSlT K) := by subst h; exact sl_tup
def rLen (K : PySem.W.Frag) : List V → Hp → VK → Prop := fun xs H Q => ∃ p ys, xs = [.ref p] ∧ (SqL K H p ys ∨ SqT K H p ys) ∧ Q (.int ys.length) H
theorem lenQ (h : X.K = K) : CallR X (.builtin "len") (rLen K) := by subst h; exact call_len_seq
def rLenStr : List V → Hp → VK → Prop := fun xs H Q => ∃ y : Str, xs = [.str y] ∧ y.length ≤ sizeLine ∧ Q (.int y.length) H
theorem lenS : CallR X (.builtin "len") rLenStr := fun pins s σ H xs us Q I r ⟨y, e, hl, q⟩ => call_len pins s σ H xs us Q I r ⟨.str y, y.length, e, ⟨hl, rfl⟩, q⟩
theorem sumK (h : X.K = K) (hc : X.calm = true) : CallR X (.builtin "sum") (rSum K) := by subst h; exact cr_sum hc
theorem allK (h : X.K = K) (hc : X.calm = true) : CallR X (.builtin "all") (rAll K) := by subst h; exact cr_all hc
theorem anyK (h : X.K = K) (hc : X.calm = true) : CallR X (.builtin "any") (rAny K) := by subst h; exact cr_any hc
theorem maxK (h : X.K = K) (hc : X.calm = true) : CallR X (.builtin "max") (rMax K) := by subst h; exact cr_max hc
theorem minK (h : X.K = K) (hc : X.calm = true) : CallR X (.builtin "min") (rMin K) := by subst h; exact cr_min hc
theorem eqD (h : X.K = K) (hu : X.A.units + 64 < cLine) : OpR X (compareOp .Eq) (rEqD K) := by subst h; exact op_eqD hu
theorem neD (h : X.K = K) (hu : X.A.units + 64 < cLine) : OpR X (compareOp .NotEq) (rNeD K) := by subst h; exact op_neD hu
theorem inQ (h : X.K = K) : OpR X (compareOp .In) (rIn K false) := by subst h; exact op_in_seq
theorem ninQ (h : X.K = K) : OpR X (compareOp .NotIn) (rIn K true) := by subst h; exact op_notIn_seq
theorem catT (h : X.K = K) : OpR X (binaryOp .Add) (rCatT K) := by subst h; exact op_catT
def rListOf (K : PySem.W.Frag) : List V → Hp → VK → Prop := fun xs H Q => ∃ p ys, xs = [.ref p] ∧ (SqL K H p ys ∨ SqT K H p ys) ∧ NewO (.lst ys) H Q
theorem listOf (h : X.K = K) : CallR X (.type "list") (rListOf K) := by subst h; exact call_list_of
/-- tuple(l) of a list -/
def rTupOf (K : PySem.W.Frag) : List V → Hp → VK → Prop := fun xs H Q => ∃ p ys, xs = [.ref p] ∧ SqL K H p ys ∧ NewO (.tup ys) H Q
theorem tupOf (h : X.K = K) : CallR X (.type "tuple") (rTupOf K) := by
  subst h
  exact fun pins s σ H xs us Q I r ⟨p, ys, e, hq, q⟩ => call_tuple_of pins s σ H xs us Q I r ⟨p, ys, e, .inl ⟨hq, q⟩⟩
theorem isiK (h : X.K = K) : CallR X (.builtin "isinstance") (rIsi K) := by subst h; exact call_isi
theorem isiTK (h : X.K = K) : CallR X (.builtin "isinstance") (rIsiT K) := by subst h; exact call_isiT
def rAbs : List V → Hp → VK → Prop := fun xs H Q => ∃ i, xs = [.int i] ∧ Q (.int (if i < 0 then -i else i)) H
theorem absI : CallR X (.builtin "abs") rAbs := call_abs
def rMx2 : List V → Hp → VK → Prop := fun xs H Q => ∃ i j, xs = [.int i, .int j] ∧ Q (.int (if j > i then j else i)) H
theorem mx2 (hc : X.calm = true) : CallR X (.builtin "max") rMx2 := call_max2 hc
def rMn2 : List V → Hp → VK → Prop := fun xs H Q => ∃ i j, xs = [.int i, .int j] ∧ Q (.int (if j < i then j else i)) H
theorem mn2 (hc : X.calm = true) : CallR X (.builtin "min") rMn2 := call_min2 hc
def rIsBl : R2 := fun x y H Q => ∃ a b, x = .bl a ∧ y = .bl b ∧ Q (.bl (decide (a = b))) H
def rNotBl : R2 := fun x y H Q => ∃ a b, x = .bl a ∧ y = .bl b ∧ Q (.bl (!decide (a = b))) H
theorem isBl : OpR X (compareOp .Is) rIsBl := op_is_bl
theorem notBl : OpR X (compareOp .IsNot) rNotBl := op_isnot_bl

variable {tg l e o value : Expr} {es : List Expr} {tl te ta tv to : TE} {t : TA} {p pos tpos pos' apos cpos : Pos} {f name : Str}
theorem piL (h : X.K = K) (hl : PE X l tl) : PI X tg l (iList K tl) := by subst h; exact pi_list hl
theorem piT (h : X.K = K) (hl : PE X l tl) : PI X tg l (iTup K tl) := by subst h; exact pi_tup hl
theorem piE {elts : List Expr} {kk : Nat} (h : X.K = K) (hg : Gl X "enumerate") (hm : X.mg "enumerate" = none) (ha : PA X [e] t) (hs : starEach [e] X.env = [(false, eval e X.env)] := by rfl) :
    PI X (.Tuple elts kk tpos) (.Call (.Name "enumerate" p) [e] [] pos) (iEnum K t) := by subst h; exact pi_enum hg hm ha hs
theorem piZ {e2 : Expr} {elts : List Expr} {kk : Nat} (h : X.K = K) (hg : Gl X "zip") (hm : X.mg "zip" = none) (ha : PA X [e, e2] t)
    (hs : starEach [e, e2] X.env = (false, eval e X.env) :: starEach [e2] X.env := by rfl) (hpl : (backTo pos (starEach [e2] X.env)).any (·.1) = false := by rfl) :
    PI X (.Tuple elts kk tpos) (.Call (.Name "zip" p) [e, e2] [] pos) (iZip K t) := by subst h; exact pi_zip hg hm ha hs hpl
theorem peF (h : X.K = K) (he : PE X e ta) (hb : attributeBase e f X.env (eval e X.env) = eval e X.env) : PE X (.Attribute e f pos) (tFld K ta f) := by subst h; exact pe_fld he hb
theorem psF (h : X.K = K) (ha : PE X o ta) (hv : PE X value tv) (hs : swapsWith value (some (.Attribute o f pos')) pos.line X.env = pure false) : PS X (.Assign [.Attribute o f pos'] value pos) (sFld K ta tv f) := by subst h; exact ps_fld ha hv hs
theorem psFA {op : Operator} {rd : V → V → Hp → VK → Prop} (h : X.K = K) (ha : PE X o ta) (hv : PE X value tv) (hop : InOp X op rd) : PS X (.AugAssign (.Attribute o f tpos) op value pos) (sFldAug K ta tv rd f) := by subst h; exact ps_fldaug ha hv hop
theorem peM0 {T id : String} {r : V → List V → Hp → VK → Prop} (h : X.K = K) (pa : PlainAttrs T) (slot : Slot T name id) (hty : typeOf (.builtin id) = pure (.type "method_descriptor")) (hm : MtR X id r) (ho : PE X o to)
    (hbase : attributeBase o name X.env (eval o X.env) = eval o X.env := by rfl) (hline : (apos.endLine == cpos.line) = true := by rfl) : PE X (.Call (.Attribute o name apos) [] [] cpos) (tBM0 K T r to) := by
  subst h; exact pe_bm0 pa slot hty hm ho hbase hline
theorem peM {T id : String} {r : V → List V → Hp → VK → Prop} (h : X.K = K) (pa : PlainAttrs T) (slot : Slot T name id) (hty : typeOf (.builtin id) = pure (.type "method_descriptor")) (hm : MtR X id r) (ho : PE X o to) (ha : PA X (e :: es) t)
    (hbase : attributeBase o name X.env (eval o X.env) = eval o X.env := by rfl)
    (hfew : ((backTo cpos (starEach (e :: es) X.env)).all (fun x => !x.1) && (backToKw cpos (keywordEach [] X.env)).all (fun x => x.1.isSome)
      && decide ((e :: es).length + ([] : List Keyword).length + (if ([] : List Keyword).isEmpty then 0 else 1) < 30)) = true := by rfl)
    (hline : (apos.endLine == cpos.line) = true := by rfl) (hs : starEach (e :: es) X.env = (false, eval e X.env) :: starEach es X.env := by rfl) (hplain : (backTo cpos (starEach es X.env)).any (·.1) = false := by rfl) :
    PE X (.Call (.Attribute o name apos) (e :: es) [] cpos) (tBM K T r to t) := by subst h; exact pe_bm pa slot hty hm ho ha hbase hfew hline hs hplain
theorem pgT {es : List Expr} {k : Nat} {t : TGs} {n : Nat} (hK : X.K = K) (hc : X.calm = true) (h : PGs X es t)
    (hn : (assignEach es X.env).length = n := by rfl) (hst : (assignEach es X.env).findIdx? (·.1) = none := by rfl) : PG X (.Tuple es k pos) (gTup K n t) := by subst hK; exact pg_tup hc h hn hst
end
theorem tyx_l {K : PySem.W.Frag} {H : Hp} {a : Addr} {xs : List V} (h : SqL K H a xs) : TyX K H (.ref a) (.type "list") := by
  rcases h with (h | ⟨o, h⟩) | ⟨o, its, n, e, c, _⟩
  · exact .base (.lst h)
  · exact .base (.frz h)
  · exact .kList e c
theorem tyx_t {K : PySem.W.Frag} {H : Hp} {a : Addr} {xs : List V} (h : SqT K H a xs) : TyX K H (.ref a) (.type "tuple") := by
  rcases h with (h | ⟨o, h⟩) | ⟨o, its, n, e, c, _⟩
  · exact .base (.tup h)
  · exact .fTuple h
  · exact .kTuple e c
/-! their readings -/
theorem i_rAbs {i : Int} {H : Hp} {Q : VK} (q : Q (.int (if i < 0 then -i else i)) H) : rAbs [.int i] H Q := ⟨i, rfl, q⟩
theorem i_rMx2 {i j : Int} {H : Hp} {Q : VK} (q : Q (.int (if j > i then j else i)) H) : rMx2 [.int i, .int j] H Q := ⟨i, j, rfl, q⟩
theorem i_rMn2 {i j : Int} {H : Hp} {Q : VK} (q : Q (.int (if j < i then j else i)) H) : rMn2 [.int i, .int j] H Q := ⟨i, j, rfl, q⟩
theorem i_lenL {K : PySem.W.Frag} {p : Addr} {xs : List V} {H : Hp} {Q : VK} (h : SqL K H p xs) (q : Q (.int xs.length) H) : rLen K [.ref p] H Q := ⟨p, xs, rfl, .inl h, q⟩
theorem i_lenT {K : PySem.W.Frag} {p : Addr} {xs : List V} {H : Hp} {Q : VK} (h : SqT K H p xs) (q : Q (.int xs.length) H) : rLen K [.ref p] H Q := ⟨p, xs, rfl, .inr h, q⟩
theorem i_lenS {y : Str} {H : Hp} {Q : VK} (h : y.length ≤ sizeLine) (q : Q (.int y.length) H) : rLenStr [.str y] H Q := ⟨y, rfl, h, q⟩
theorem i_listL {K : PySem.W.Frag} {p : Addr} {xs : List V} {H : Hp} {Q : VK} (h : SqL K H p xs) (q : NewO (.lst xs) H Q) : rListOf K [.ref p] H Q := ⟨p, xs, rfl, .inl h, q⟩
theorem i_listT {K : PySem.W.Frag} {p : Addr} {xs : List V} {H : Hp} {Q : VK} (h : SqT K H p xs) (q : NewO (.lst xs) H Q) : rListOf K [.ref p] H Q := ⟨p, xs, rfl, .inr h, q⟩
theorem i_tupL {K : PySem.W.Frag} {p : Addr} {xs : List V} {H : Hp} {Q : VK} (h : SqL K H p xs) (q : NewO (.tup xs) H Q) : rTupOf K [.ref p] H Q := ⟨p, xs, rfl, h, q⟩
theorem i_sum {K : PySem.W.Frag} {p : Addr} {ns : List Int} {H : Hp} {Q : VK} (h : SqL K H p (ns.map V.int)) (q : Q (.int ns.sum) H) : rSum K [.ref p] H Q := ⟨p, ns, rfl, h, q⟩
theorem i_all {K : PySem.W.Frag} {p : Addr} {bs : List Bool} {H : Hp} {Q : VK} (h : SqL K H p (bs.map V.bl)) (q : Q (.bl (bs.all id)) H) : rAll K [.ref p] H Q := ⟨p, bs, rfl, h, q⟩
theorem i_any {K : PySem.W.Frag} {p : Addr} {bs : List Bool} {H : Hp} {Q : VK} (h : SqL K H p (bs.map V.bl)) (q : Q (.bl (bs.any id)) H) : rAny K [.ref p] H Q := ⟨p, bs, rfl, h, q⟩
theorem i_isBl {a b : Bool} {H : Hp} {Q : VK} (q : Q (.bl (decide (a = b))) H) : rIsBl (.bl a) (.bl b) H Q := ⟨a, b, rfl, rfl, q⟩
theorem i_notBl {a b : Bool} {H : Hp} {Q : VK} (q : Q (.bl (!decide (a = b))) H) : rNotBl (.bl a) (.bl b) H Q := ⟨a, b, rfl, rfl, q⟩
theorem i_notN {v : V} {H : Hp} {Q : VK} (q : Q (.bl (!decide (v = .non))) H) : rNotN v .non H Q := ⟨rfl, q⟩
theorem i_bm {K : PySem.W.Frag} {T : String} {r : V → List V → Hp → VK → Prop} {to : TE} {t : TA} {σ : L2.St} {H : Hp} {Q : VK} (h : to σ H fun x H1 => tyV K T x H1 ∧ t σ H1 fun xs H2 => r x xs H2 Q) : tBM K T r to t σ H Q := h
theorem i_bm0 {K : PySem.W.Frag} {T : String} {r : V → List V → Hp → VK → Prop} {to : TE} {σ : L2.St} {H : Hp} {Q : VK} (h : to σ H fun x H1 => tyV K T x H1 ∧ r x [] H1 Q) : tBM0 K T r to σ H Q := h
theorem i_tyL {K : PySem.W.Frag} {p : Addr} {xs : List V} {H : Hp} {R : Prop} (h : SqL K H p xs) (q : R) : tyV K "list" (.ref p) H ∧ R := ⟨.inl ⟨rfl, _, h⟩, q⟩
theorem i_app {P H : Hp} {cs r : List Ch} {l : Addr} {xs : List V} {y : V} {Q : VK} (m : Mem P cs H) (h : Upd cs l (.lst xs) (.lst (xs ++ [y])) r) (hl : xs.length < 100000) (q : ∀ H', Mem P r H' → Q .non H') : rAppend (.ref l) [y] H Q :=
  ⟨l, xs, y, rfl, rfl, h.rd m, sz_lt hl, q _ (m.put h)⟩
theorem i_fld {K : PySem.W.Frag} {ta : TE} {f : Str} {σ : L2.St} {H : Hp} {Q : VK} (h : ta σ H fun x H1 => ∃ a C dx fs v, x = .ref a ∧ H1 a = some (.ins C dx fs) ∧ Cls K C ∧ NoAttr K C f ∧ fs.lookup f = some v ∧ Q v H1) : tFld K ta f σ H Q := h
theorem i_eqDt {K : PySem.W.Frag} {x y : V} {d e : PyData} {H : Hp} {Q : VK} (h1 : Dp K H x d) (h2 : Dp K H y e) (s1 : SeqAt.shaped d = true) (s2 : SeqAt.shaped e = true) (q : Q (.bl (PyData.eqv d e)) H) : rEqD K x y H Q := ⟨d, e, h1, h2, s1, s2, q⟩
theorem i_neDt {K : PySem.W.Frag} {x y : V} {d e : PyData} {H : Hp} {Q : VK} (h1 : Dp K H x d) (h2 : Dp K H y e) (s1 : SeqAt.shaped d = true) (s2 : SeqAt.shaped e = true) (q : Q (.bl (!PyData.eqv d e)) H) : rNeD K x y H Q := ⟨d, e, h1, h2, s1, s2, q⟩
end FS

set_option Elab.async false
set_option maxRecDepth 100000
set_option linter.all false
/-! FsData: data as values: their depth, when == tells True. -/
namespace FS
open PySem L2 Evl
theorem layAll {ds : List PyData} (h : ∀ d ∈ ds, d.canLay0 = true) : PyData.canLayAll0 ds = true := by
  induction ds with
  | nil => simp only [PyData.canLayAll0]
  | cons d ds ih =>
    simp only [PyData.canLayAll0, Bool.and_eq_true]
    exact ⟨h d List.mem_cons_self, ih fun x hx => h x (List.mem_cons_of_mem _ hx)⟩
theorem depAll {n : Nat} {ds : List PyData} (h : ∀ d ∈ ds, d.depth ≤ n) : PyData.depthAll ds ≤ n := by
  induction ds with
  | nil => simp only [PyData.depthAll]; exact Nat.zero_le _
  | cons d ds ih =>
    simp only [PyData.depthAll]
    exact Nat.max_le.mpr ⟨h d List.mem_cons_self, ih fun x hx => h x (List.mem_cons_of_mem _ hx)⟩
/-- data that may be asked for ==, at most n deep -/
def Sh (n : Nat) (d : PyData) : Prop := d.canLay0 = true ∧ d.depth ≤ n
theorem Sh.mono {n m : Nat} {d : PyData} (h : Sh n d) (k : n ≤ m) : Sh m d := ⟨h.1, Nat.le_trans h.2 k⟩
theorem Sh.int (i : Int) : Sh 0 (.int i) := ⟨by simp only [PyData.canLay0], by simp only [PyData.depth]; exact Nat.le_refl _⟩
theorem Sh.bl (b : Bool) : Sh 0 (.bool b) := ⟨by simp only [PyData.canLay0], by simp only [PyData.depth]; exact Nat.le_refl _⟩
theorem Sh.non : Sh 0 .none := ⟨by simp only [PyData.canLay0], by simp only [PyData.depth]; exact Nat.le_refl _⟩
theorem Sh.str {x : Str} (h : PyData.strOk x = true) : Sh 0 (.str x) := ⟨by simp only [PyData.canLay0]; exact h, by simp only [PyData.depth]; exact Nat.le_refl _⟩
theorem Sh.lst {n : Nat} {ds : List PyData} (h : ∀ d ∈ ds, Sh n d) : Sh (n + 1) (.list ds) := ⟨by simp only [PyData.canLay0]; exact layAll fun d hd => (h d hd).1, by simp only [PyData.depth]; exact Nat.succ_le_succ (depAll fun d hd => (h d hd).2)⟩
theorem Sh.tup {n : Nat} {ds : List PyData} (h : ∀ d ∈ ds, Sh n d) : Sh (n + 1) (.tuple ds) := ⟨by simp only [PyData.canLay0]; exact layAll fun d hd => (h d hd).1, by simp only [PyData.depth]; exact Nat.succ_le_succ (depAll fun d hd => (h d hd).2)⟩
theorem Sh.ok {n : Nat} {d : PyData} (h : Sh n d) (k : n ≤ 64) : SeqAt.shaped d = true := by
  unfold SeqAt.shaped
  rw [h.1, decide_eq_true (Nat.le_trans h.2 k)]
  rfl
theorem eqv_self {n : Nat} {d : PyData} (h : Sh n d) : PyData.eqv d d = true := SeqAt.eqv_refl d h.1
end FS

set_option Elab.async false
set_option maxRecDepth 100000
set_option linter.all false
/-! FsLam: max(xs, key=lambda x: ..) by a pure lambda of one parameter. -/
namespace FS
open PySem PySem.Spec PyProof.Rows L2 Evl LamX
/-! ### pure evaluation over the heap alone -/
/-- e is evaluated from any heap that holds h0: all is kept, its value stands to the heap behind as R tells -/
def Evc (p : Program) (w : World) (A : Around) (env : Env) (h0 : Heap) (e : Expr) (R : Heap → Value → Prop) : Prop :=
  ∀ (s : Shared) (Q : Value → Shared → Prop) (E : Value → Shared → Prop), (∀ b o, h0.get? b = some o → s.heap.get? b = some o) →
    (∀ u h' tk, (∀ b o, s.heap.get? b = some o → h'.get? b = some o) → R h' u → Q u { s with heap := h', toks := tk }) → wpAny (model p w) A (eval e env) Q E s
section
variable {p : Program} {w : World} {A : Around} {env : Env} {h0 : Heap}
theorem evc_int {i : Int} {k : Nat} {pos : Pos} : Evc p w A env h0 (.Constant (.int i) k pos) (fun _ u => ∃ t, u = .int i t) :=
  fun s Q E _ q => wpAny_Constant_int (q _ s.heap _ (fun _ _ e => e) ⟨_, rfl⟩)
theorem evc_var {x : Str} {v : Value} {m : Str → Option Value} {pos : Pos} (hk : env.scope.kind = .function) (hx : env.kindOf x = some .local) (hn : h0.Ns env.locals m) (hv : m x = some v) (hd : (x == ("__debug__" : Str)) = false) :
    Evc p w A env h0 (.Name x pos) (fun _ u => u = v) :=
  fun s Q E k q => wpAny_Name (wpAny_loadName_local hk hx (hn.keeps k) hv (q v s.heap s.toks (fun _ _ e => e) rfl)) hd
theorem evc_sub {e i : Expr} {pos : Pos} {t : Addr} {its : Array Value} {j : Nat} {y : Value} (ht : IsTup h0 t its) (he : Evc p w A env h0 e (fun _ u => u = .ref t)) (hi : Evc p w A env h0 i (fun _ u => ∃ tk, u = .int (j : Int) tk)) (hs : PlainIx i)
    (hz : its.size < 2 ^ 62) (hj : j < its.size) (hy : its[j]? = some y) : Evc p w A env h0 (.Subscript e i pos) (fun _ u => u = y) := by
  intro s Q E k q
  refine Subscript_ (he s _ _ k fun u h1 tk1 k1 r1 => ?_)
  refine hi _ _ _ (fun b o z => k1 b o (k b o z)) fun u2 h2 tk2 k2 r2 => ?_
  obtain ⟨tt, rfl⟩ := r2
  subst r1
  have ht' : IsTup h2 t its := ht.keeps fun b o z => k2 b o (k1 b o (k b o z))
  refine subscriptTail_builtinR (x := y) ht'.typeIs slot_tuple_getitem.lookup ?_ (hs _ _)
  refine getItem_tuple (j := j) (Q := fun r s' => r = y ∧ Q r s') ht' (by omega) (by omega) ?_ hy ⟨rfl, q _ _ _ (fun b o z => k2 b o (k1 b o z)) rfl⟩
  unfold seqIndex?
  have h3 : ¬ ((j : Int) < 0) := by omega
  simp only [h3, if_false]
  have h4 : (decide (0 ≤ (j : Int)) && decide ((j : Int) < (its.size : Int))) = true := by
    rw [Bool.and_eq_true, decide_eq_true_eq, decide_eq_true_eq]; omega
  rw [if_pos h4]
  rfl
theorem evc_len {x : Str} {e : Expr} {px pos : Pos} {t : Addr} {its : Array Value} {mg mb : Str → Option Value} (ht : IsTup h0 t its) (hz : its.size < 2 ^ 62) (hk : env.scope.kind = .function) (hgl : env.kindOf x = some .globalImplicit) (hgg : h0.Ns env.globals mg) (hm : mg x = none)
    (hbb : h0.Ns env.builtins mb) (hv : mb x = some (.builtin "len")) (he : Evc p w A env h0 e (fun _ u => u = .ref t)) (hd : (x == ("__debug__" : Str)) = false)
    (hst : starEach [e] env = (false, eval e env) :: starEach [] env := by rfl) (hpl : (backTo pos (starEach [] env)).any (·.1) = false := by rfl) :
    Evc p w A env h0 (.Call (.Name x px) [e] [] pos) (fun _ u => ∃ tk, u = .int its.size tk) := by
  intro s Q E k q
  refine wpAny_Call_Name_kw (Calls.Name_function_global hk hgl (Calls.loadGlobal_builtin (hgg.keeps k) hm (hbb.keeps k) hv ?_) hd)
  refine PyProof.Rows.callWith_builtin1 (wpAny_mono ?_ (fun us s1 z => z) fun _ _ z => z) hst hpl
  rw [hst]
  refine Calls.spliced_cons (he s _ _ k fun u h1 tk1 k1 r1 => ?_)
  refine Calls.spliced_nil ?_
  subst r1
  exact len_tuple (ht.keeps fun b o z => k1 b o (k b o z)) (by omega) (q _ _ _ k1 ⟨_, rfl⟩)
/-- a tuple of two whole numbers, its place new -/
def TupII (h0 h : Heap) (u : Value) (i j : Int) : Prop := ∃ (t : Addr) (ti tj : Tok), u = .ref t ∧ h0.get? t = none ∧ h.get? t = some { cls := .type "tuple", data := .seq #[.int i ti, .int j tj] }
theorem evc_tup2 {e1 e2 : Expr} {x1} {i j : Int} {pos : Pos} (h1 : Evc p w A env h0 e1 (fun _ u => ∃ tk, u = .int i tk)) (h2 : Evc p w A env h0 e2 (fun _ u => ∃ tk, u = .int j tk))
    (hs : starEach [e1, e2] env = [(false, eval e1 env), (false, eval e2 env)] := by rfl) : Evc p w A env h0 (.Tuple [e1, e2] x1 pos) (fun h u => TupII h0 h u i j) := by
  intro s Q E k q
  refine wpAny_Tuple_spliced ?_
  rw [hs]
  refine Calls.spliced_cons (h1 s _ _ k fun u g1 tk1 k1 r1 => ?_)
  refine Calls.spliced_cons (h2 _ _ _ (fun b o z => k1 b o (k b o z)) fun u2 g2 tk2 k2 r2 => ?_)
  refine Calls.spliced_nil ⟨by show 2 ≤ sizeLine; rw [sizeLine_eq]; decide, ?_⟩
  obtain ⟨t1, rfl⟩ := r1
  obtain ⟨t2, rfl⟩ := r2
  refine q _ _ tk2 (fun b o z => Heap.get?_push_of_some _ (k2 b o (k1 b o z))) ⟨g2.objs.size, t1, t2, rfl, ?_, Heap.get?_push_size _ rfl⟩
  cases z : h0.get? g2.objs.size with
  | none => rfl
  | some o => exact absurd (Heap.lt_size (k2 _ _ (k1 _ _ (k _ _ z)))) (Nat.lt_irrefl _)
end
/-! ### a lambda of one parameter, called -/
abbrev lenv (q : Str) (scope : Scope) (L f c' : Addr) : Env := newEnv scope L mainGlobals [] (q ++ ".<locals>.") (some f) (.ref c') none builtinsNs
structure LamOk (scope : Scope) (x : Str) : Prop where
  kind : scope.kind = .function
  co : scope.isCoroutine = false
  gen : scope.isGenerator = false
  nocell : ∀ y ∈ scope.names, y.2 ≠ .cell
  nofree : ∀ y ∈ scope.names, y.2 ≠ .free
  loc : scope.names.lookup x = some .local
theorem lam_call {p : Program} {w : World} {A : Around} {s : Shared} {f c' : Addr} {q x : Str} {params : Arguments} {body : Expr} {scope : Scope} {pm ctv v : Value} {R : Heap → Heap → Value → Prop} {Q : Value → Shared → Prop} {E : Value → Shared → Prop} (L : LamOk scope x) (hroom : A.depth < recursionLimit)
    (ho : s.heap.get? f = some (PySem.W.kla_obj "<lambda>" q params body scope [] pm c' ctv)) (hcd : s.heap.CodeRec (.ref c') q) (hlim : s.heap.NoLimit) (hbind : bindArgs (PySem.W.kla_fn "<lambda>" q params body scope [] pm (.ref c') ctv) ⟨[v], []⟩ = pure [(x, v)])
    (hbody : ∀ h₁ : Heap, (∀ b o, s.heap.get? b = some o → h₁.get? b = some o) → h₁.Ns s.heap.objs.size (fun y => [(x, v)].reverse.lookup y) → Evc p w (A.deeper (lenv q scope s.heap.objs.size f c')) (lenv q scope s.heap.objs.size f c') h₁ body (R h₁))
    (hq : ∀ u h₁ h' tk, (∀ b o, s.heap.get? b = some o → h₁.get? b = some o) → (∀ b o, h₁.get? b = some o → h'.get? b = some o) → R h₁ h' u → Q u { s with heap := h', toks := tk }) : wpAny (model p w) A (call (.ref f) [v]) Q E s := by
  refine wpAny_call (codeAny_mono (R := fun r s' => ∃ u, r = .ok (.ret u) ∧ Q u s') ?_ fun r s' hr => ?_)
  · refine PySem.W.kla_callFunE hroom ho rfl L.co L.gen rfl hcd ?_
    rw [hbind]
    refine wpAny_pure (wpAny_newFunctionEnv L.nocell (fun y hy => ?_) (fun h₁ hns hsb => ⟨hlim.fresh _ hsb, ?_⟩) L.kind)
    · rw [List.mem_singleton] at hy
      subst hy
      exact L.loc
    · have kp : ∀ b o, s.heap.get? b = some o → h₁.get? b = some o := fun b o e => hsb.extBut b o (Nat.ne_of_lt (Heap.lt_size e)) (Heap.get?_push_of_some _ e)
      refine PySem.W.kla_codeExpr (hbody h₁ kp hns _ _ _ (fun _ _ z => z) fun u h' tk k r => ⟨u, rfl, ?_⟩)
      exact hq u h₁ h' tk kp k r
  · obtain ⟨u, rfl, z⟩ := hr
    exact z
/-! ### max by such a key -/
/-- one pair of whole numbers is the less -/
def ltII (a b : Int × Int) : Bool := decide (a.1 < b.1 ∨ (a.1 = b.1 ∧ a.2 < b.2))
theorem max_run {p : Program} {w : World} {A : Around} {s : Shared} {a f : Addr} {vs : Array Value} {key : Nat → Int × Int} {Q : Value → Shared → Prop} {E : Value → Shared → Prop} (hh : A.handled = none) (hu : A.units + 64 < cLine) (hl : s.heap.IsList a vs) (hn : 0 < vs.size)
    (turn : ∀ (i : Nat) (v : Value), vs[i]? = some v → ∀ (h : Heap) (tk : Nat), (∀ b o, s.heap.get? b = some o → h.get? b = some o) → ∀ (Q : Value → Shared → Prop) (E : Value → Shared → Prop),
      (∀ u h₁ h' tk', (∀ b o, h.get? b = some o → h₁.get? b = some o) → (∀ b o, h₁.get? b = some o → h'.get? b = some o) → TupII h₁ h' u (key i).1 (key i).2 → Q u { s with heap := h', toks := tk' }) → wpAny (model p w) A.in1 (call (.ref f) [v]) Q E { s with heap := h, toks := tk })
    (hq : ∀ v h' tk, (∀ b o, s.heap.get? b = some o → h'.get? b = some o) → vs[argBest (fun i j => ltII (key j) (key i)) (vs.size - 1)]? = some v → Q v { s with heap := h', toks := tk }) :
    wpAny (model p w) A (call (.builtin "max") [.ref a] [(Str.ofString "key", .ref f)]) Q E s := by
  refine PySem.call_max_walkK (PySem.W.iter_listW (A := A.in1) hh hl fun s2 e2 W st0 hfp hne kp => ?_)
  subst e2
  refine ⟨_, _, _, _, _, _, _, (fun s' => ∃ h' tk, s' = { s with heap := h', toks := tk } ∧ ∀ b o, s.heap.get? b = some o → h'.get? b = some o),
    (fun i u s' => ∃ (t : Addr) (ti tj : Tok), u = .ref t ∧ t ≠ (s.heap.push { cls := .type "list_iterator", data := .fields #[.ref a, .int 0 0] }).objs.size ∧ t ≠ s.heap.objs.size ∧ s'.heap.get? t = some { cls := .type "tuple", data := .seq #[.int (key i).1 ti, .int (key i).2 tj] }),
    (fun i j => ltII (key j) (key i)), rfl, W, st0, hfp, hn, ?_, ⟨_, _, rfl, kp⟩, ?_⟩
  · refine ⟨?_, ?_, ?_, ?_⟩
    · rintro s1 s' ⟨h1, tk, rfl, k⟩ ⟨m1, m2, m3, m4, m5⟩
      obtain ⟨h', g', d', t', o'⟩ := s'
      cases m2; cases m3; cases m4
      refine ⟨h', t', rfl, fun b o e => m1 b o (fun z => ?_) (k b o e)⟩
      have hb := Heap.lt_size e
      rcases List.mem_cons.mp z with z | z
      · have z2 : b = s.heap.objs.size + 1 := z.trans (Heap.size_push ..)
        exact absurd hb (by rw [z2]; exact Nat.not_lt.mpr (Nat.le_succ _))
      · have z2 : b = s.heap.objs.size := List.mem_singleton.mp z
        exact absurd hb (by rw [z2]; exact Nat.lt_irrefl _)
    · rintro i u s1 s' ⟨t, ti, tj, rfl, n1, n2, e⟩ ⟨m1, _⟩
      refine ⟨t, ti, tj, rfl, n1, n2, m1 _ _ (fun z => ?_) e⟩
      rcases List.mem_cons.mp z with z | z
      · exact n1 z
      · exact n2 (List.mem_singleton.mp z)
    · rintro i v s1 o Q' E' hi hv ⟨h1, tk, rfl, k⟩ st hS q
      refine turn i v hv h1 tk k Q' E' fun u h₁ h' tk' k1 k2 r => ?_
      obtain ⟨t, ti, tj, rfl, fr, e⟩ := r
      have n1 : t ≠ (s.heap.push { cls := .type "list_iterator", data := .fields #[.ref a, .int 0 0] }).objs.size := fun z => by
        rw [z, k1 _ _ hS] at fr; cases fr
      have n2 : t ≠ s.heap.objs.size := fun z => by
        obtain ⟨⟨oi, ho, _⟩, _⟩ := st
        rw [z, k1 _ _ ho] at fr; cases fr
      have kk : ∀ b o, h1.get? b = some o → h'.get? b = some o := fun b o z => k2 b o (k1 b o z)
      refine q _ _ ⟨h', tk', rfl, fun b o z => kk b o (k b o z)⟩ ⟨?_, ?_⟩ (kk _ _ hS) ⟨t, ti, tj, rfl, n1, n2, e⟩ ?_
      · obtain ⟨⟨oi, ho, hr⟩, _⟩ := st
        exact ⟨oi, kk _ _ ho, hr⟩
      · obtain ⟨_, ⟨oi, ho, hr⟩⟩ := st
        exact ⟨oi, kk _ _ ho, hr⟩
      · rintro j u' ⟨t2, a2, b2, rfl, c1, c2, e3⟩
        exact ⟨t2, a2, b2, rfl, c1, c2, kk _ _ e3⟩
    · rintro i j ki kj s1 Q' E' hJ ⟨t, ti, tj, rfl, _, _, e⟩ ⟨t2, ti2, tj2, rfl, _, _, e2⟩ q
      have r1 : Reads s1.heap (.ref t) (.tuple [.int (key i).1, .int (key i).2]) [] := .tuple e rfl rfl (.cons (.int _ _) (.cons (.int _ _) .nil))
      have r2 : Reads s1.heap (.ref t2) (.tuple [.int (key j).1, .int (key j).2]) [] := .tuple e2 rfl rfl (.cons (.int _ _) (.cons (.int _ _) .nil))
      refine PySem.W.rcGt_alike _ _ A.in1 s1 _ _ _ _ r1 r2 (by simp [PySem.W.alike, PySem.W.alikeAll]) (by intro z; cases z) ?_ p w E' Q' ?_
      · have hd : (PyData.tuple [.int (key i).1, .int (key i).2]).depth = 1 := by simp [PyData.depth, PyData.depthAll]
        have := Nat.min_le_left (PyData.tuple [.int (key i).1, .int (key i).2]).depth (PyData.tuple [.int (key j).1, .int (key j).2]).depth
        rw [hd] at this
        have h1 : A.in1.units ≤ A.units + 1 := Nat.le_refl _
        omega
      · rw [PySem.W.dataLt_ii]
        exact q
  · rintro v s' hv ⟨h', tk, rfl, k⟩
    exact hq v h' tk k hv
/-! ### the lambda made -/
/-- the table at Pt has grown by a code object of the name q, or not at all -/
inductive Grow (Pt : Addr) (q : Str) (H : Hp) : Hp → Prop
  | same : TabS H Pt q → Grow Pt q H H
  | more {ps : Array Value} {c' : Addr} {vs : Array Value} : H Pt = some (.tbl ps) → H c' = none → (TriplesOk (ps ++ vs).toList ∧ ∀ (pos : Pos) (cv : Value), codeAmong pos (ps ++ vs).toList = some cv → codeAmong pos ps.toList = some cv ∨ cv = .ref c') → Grow Pt q H (upd (upd H Pt (.tbl (ps ++ vs))) c' (CodeO c' q))
section
variable {X : Cx} {pins : List (Addr × Obj)} {σ : L2.St} {H : Hp} {s : Shared}
theorem lam_new {c Pt : Addr} {q : Str} {params : Arguments} {body : Expr} {scope : Scope} {pos : Pos} {E : Value → Shared → Prop} {Q : Value → Shared → Prop} (I : Inv X pins σ H s) (TB : TabB X.base X.mg c Pt) (hcode : X.env.code = .ref c) (hq : X.env.qual ++ "<lambda>" = q)
    (hT : TabS H Pt q) (hdef : defaultsOf params X.env = ([], [])) (hnf : ∀ y ∈ scope.names, y.2 ≠ .free) (hcl : cloFrom X.env.cells scope.names [] = [])
    (h : ∀ (f c' : Addr) (pm ctv : Value) (H1 : Hp) (s' : Shared), Inv X pins σ H1 s' → Grow Pt q H H1 → s'.heap.get? f = some (PySem.W.kla_obj "<lambda>" q params body scope [] pm c' ctv) → s'.heap.CodeRec (.ref c') q → Q (.ref f) s') :
    wpAny (model X.prog X.w) X.A (eval (.Lambda params body scope pos) X.env) Q E s := by
  subst hq
  obtain ⟨ps, tP, tOk, tAll⟩ := id hT
  refine PySem.W.kla_eval hdef ?_
  have atP : s.heap.get? Pt = some { cls := .none, data := .fields ps } := I.hok Pt _ tP
  have cl := closure_ok (env := X.env) (scope := scope) fun y hy e => absurd e (hnf y hy)
  rw [hcl] at cl
  cases known : codeAmong pos ps.toList with
  | some cv =>
    obtain ⟨c', rfl, hco⟩ := tAll pos cv known
    obtain ⟨⟨oc, vs, t, k1, k2, k3⟩, _, _⟩ := I.hok c' _ hco
    refine PySem.W.kla_makeFunctionHit (mg := X.mg) (c := c) (P := Pt) (ps := ps) cl I.ok.glob (I.mod.glob.keeps I.bk) hcode (TB.code.keeps I.bk) atP tOk known (TB.bm.keeps I.bk) fun ctv h' tk hx hsz => ?_
    exact h _ c' _ ctv H _ (I.kept fun b o e => Heap.get?_push_of_some _ (hx b o e)) (.same hT) (Heap.get?_push_size _ rfl) ⟨c', oc, vs, t, rfl, Heap.get?_push_of_some _ (hx _ _ k1), k2, k3⟩
  | none =>
    refine PySem.W.kla_makeFunction (mg := X.mg) (c := c) (P := Pt) (ps := ps) cl I.ok.glob (I.mod.glob.keeps I.bk) hcode (TB.code.keeps I.bk) atP tOk known TB.gP (TB.bm.keeps I.bk) fun c' ctv h' tk hx hge hlt hrec htb => ?_
    obtain ⟨c2, oc, vs, t, e2, r1, r2, r3⟩ := hrec
    cases e2
    have fresh : H c' = none := I.hok.fresh hge
    have grown := inv_table (t' := tk) (q := X.env.qual ++ "<lambda>") (more := #[rawInt pos.line, rawInt pos.col, .ref c']) (h' := h'.push (PySem.W.kla_obj "<lambda>" (X.env.qual ++ "<lambda>") params body scope [] ((X.mg "__name__").getD .none) c' ctv)) I tP
      (fun b o hb e => Heap.get?_push_of_some _ (hx b o hb e)) (Heap.get?_push_of_some _ htb) hge ⟨oc, vs, t, Heap.get?_push_of_some _ r1, r2, r3⟩
    refine h _ c' _ ctv _ _ grown (.more tP fresh ?_) (Heap.get?_push_size _ rfl) ⟨c', oc, vs, t, rfl, Heap.get?_push_of_some _ r1, r2, r3⟩
    have lst : (ps ++ #[rawInt pos.line, rawInt pos.col, .ref c']).toList = ps.toList ++ [rawInt pos.line, rawInt pos.col, .ref c'] := by simp
    refine ⟨by rw [lst]; exact PySem.TriplesOk_snoc _ _ _ _ tOk, fun p' cv hcv => ?_⟩
    rw [lst] at hcv
    exact among_app _ tOk hcv
end
/-- max(e, key=lambda x: (x[0], len(x[1]))): what is asked, what is told -/
def KeyPL (K : PySem.W.Frag) (H : Hp) (x : V) (k : Int × Int) : Prop := ∃ (t r : Addr) (rows : List V), x = .ref t ∧ SqT K H t [.int k.1, .ref r] ∧ SqT K H r rows ∧ k.2 = rows.length
def tMaxPL (K : PySem.W.Frag) (Pt : Addr) (q : Str) (te : TE) : TE := fun σ H Q => te σ H fun v H1 => TabS H1 Pt q ∧ ∀ H2, Grow Pt q H1 H2 → ∃ (a : Addr) (xs : List V) (key : Nat → Int × Int), v = .ref a ∧ SqL K H2 a xs ∧ 0 < xs.length ∧
  (∀ i x, xs[i]? = some x → KeyPL K H2 x (key i)) ∧ ∀ x, xs[argBest (fun i j => ltII (key j) (key i)) (xs.length - 1)]? = some x → Q x H2
abbrev plBody (x : Str) (k0 k1 : Nat) (x1 : Nat) (p2 p3 p4 p5 p6 p7 p8 p9 p10 : Pos) : Expr :=
  .Tuple [.Subscript (.Name x p2) (.Constant (.int 0) k0 p3) p4, .Call (.Name "len" p5) [.Subscript (.Name x p6) (.Constant (.int 1) k1 p7) p8] [] p9] x1 p10
theorem pe_maxPL {X : Cx} {c Pt : Addr} {q x : Str} {n : Nat} {e : Expr} {te : TE} {params : Arguments} {scope : Scope} {k0 k1 : Nat} {x1} {p1 p2 p3 p4 p5 p6 p7 p8 p9 p10 lpos kpos pos : Pos} (hr : Room n X.A) (he : PE X e te)
    (TB : TabB X.base X.mg c Pt) (hcode : X.env.code = .ref c) (hq : X.env.qual ++ "<lambda>" = q) (hg : Gl X "max") (hm : X.mg "max" = none) (hml : X.mg "len" = none) (hdef : defaultsOf params X.env = ([], [])) (L : LamOk scope x) (hcl : cloFrom X.env.cells scope.names [] = [])
    (hlen : ∀ L f c', (lenv q scope L f c').kindOf "len" = some .globalImplicit) (hx : ∀ L f c', (lenv q scope L f c').kindOf x = some .local) (hd : (x == ("__debug__" : Str)) = false)
    (hbind : ∀ pm cv ctv v, bindArgs (PySem.W.kla_fn "<lambda>" q params (plBody x k0 k1 x1 p2 p3 p4 p5 p6 p7 p8 p9 p10) scope [] pm cv ctv) ⟨[v], []⟩ = pure [(x, v)])
    (hst : backTo pos (starEach [e] X.env) = (false, eval e X.env) :: backTo pos (starEach [] X.env) := by rfl) (hst0 : starEach [e] X.env = (false, eval e X.env) :: starEach [] X.env := by rfl) (hpl : (backTo pos (starEach [e] X.env)).any (·.1) = false := by rfl) :
    PE X (.Call (.Name "max" p1) [e] [⟨some "key", .Lambda params (plBody x k0 k1 x1 p2 p3 p4 p5 p6 p7 p8 p9 p10) scope lpos, kpos⟩] pos) (tMaxPL X.K Pt q te) := by
  refine ⟨fun pins s σ H Q I h => ?_⟩
  refine wpAny_Call_Name_kw (ld_blt I hg hm (show bootBuiltins "max" = some (.builtin "max") from rfl) ?_ (by decide) rfl)
  refine PyProof.Rows.callWith_kw (thn (((pa_cons he pa_nil hst0 : PA X [e] _)).run pos pins s σ H (fun vs H1 => match vs with
    | [v] => TabS H1 Pt q ∧ ∀ H2, Grow Pt q H1 H2 → ∃ (a : Addr) (xs : List V) (key : Nat → Int × Int), v = .ref a ∧ SqL X.K H2 a xs ∧ 0 < xs.length ∧
      (∀ i x, xs[i]? = some x → KeyPL X.K H2 x (key i)) ∧ ∀ x, xs[argBest (fun i j => ltII (key j) (key i)) (xs.length - 1)]? = some x → Q x H2
    | _ => False) I h) fun us s1 ⟨vs, H1, I1, r1, q1⟩ => ?_) hst hpl rfl rfl
  obtain ⟨v, rfl, hT, q2⟩ : ∃ v, vs = [v] ∧ TabS H1 Pt q ∧ ∀ H2, Grow Pt q H1 H2 → ∃ (a : Addr) (xs : List V) (key : Nat → Int × Int), v = .ref a ∧ SqL X.K H2 a xs ∧ 0 < xs.length ∧
      (∀ i x, xs[i]? = some x → KeyPL X.K H2 x (key i)) ∧ ∀ x, xs[argBest (fun i j => ltII (key j) (key i)) (xs.length - 1)]? = some x → Q x H2 := by
    match vs, q1 with
    | [v], z => exact ⟨v, rfl, z⟩
  clear q1
  obtain ⟨u, rfl, ru⟩ := vals1 r1
  show wpAny _ _ (evalAll ((do let v ← eval (.Lambda params (plBody x k0 k1 x1 p2 p3 p4 p5 p6 p7 p8 p9 p10) scope lpos) X.env; standAt pos; pure v) :: [])) _ _ s1
  refine wpAny_evalAll_cons (wpAny_bind (lam_new I1 TB hcode hq hT hdef L.nofree hcl fun f c' pm ctv H2 s2 I2 gr hf hcd => wpAny_bind (wpAny_standAt (wpAny_pure (wpAny_evalAll_nil ?_)))))
  obtain ⟨a, xs, key, rfl, hS, hn, hkey, q3⟩ := q2 H2 gr
  obtain rfl : u = Value.ref a := ru
  obtain ⟨its, rv, pl, hz⟩ := I2.list hS
  have hlv := rv.length
  obtain ⟨mb, b1, b2⟩ := I2.mod.blt
  show wpAny _ _ (call (.builtin "max") [.ref a] [(Str.ofString "key", .ref f)]) _ _ s2
  refine max_run (key := key) hr.hd hr.units pl.isList (by rw [List.size_toArray, ← hlv]; exact hn) (fun i v hv h tk kp Q' E' hq' => ?_) (fun v h' tk kp hv => ?_)
  · rw [List.getElem?_toArray] at hv
    obtain ⟨y, hy, ry⟩ : ∃ y, xs[i]? = some y ∧ RelV y v := by
      have hi : i < xs.length := by rw [hlv]; exact (List.getElem?_eq_some_iff.mp hv).1
      obtain ⟨v', e1, e2⟩ := rv.get (List.getElem?_eq_getElem hi)
      rw [hv] at e1
      cases e1
      exact ⟨_, List.getElem?_eq_getElem hi, e2⟩
    obtain ⟨t, r, rows, rfl, h1, h2, e2⟩ := hkey i y hy
    obtain rfl : v = Value.ref t := ry
    obtain ⟨ts, rt, pt, zt⟩ := I2.tuple h1
    obtain ⟨rs, rr, pr, zr⟩ := I2.tuple h2
    obtain ⟨v1, v2, rfl, ⟨t1, rfl⟩, rv2⟩ := vals2 rt
    obtain rfl : v2 = Value.ref r := rv2
    have hlr := rr.length
    have hz62 : rs.toArray.size < 2 ^ 62 := by
      rw [List.size_toArray, ← hlr]
      rw [sizeLine_eq] at zr
      omega
    refine lam_call (x := x) (R := fun h₁ h' u => TupII h₁ h' u (key i).1 (key i).2) L hr.depth (kp _ _ hf) ?_ ?_ (hbind _ _ _ _) (fun h₁ kq hns => ?_) fun u h₁ h' tk' kq kr r => hq' u h₁ h' tk' kq kr r
    · obtain ⟨c2, oc, ws, tt, a1, a2, a3, a4⟩ := hcd
      exact ⟨c2, oc, ws, tt, a1, kp _ _ a2, a3, a4⟩
    · exact I2.nolimit.keeps kp
    · have kk : ∀ b o, s2.heap.get? b = some o → h₁.get? b = some o := fun b o z => kq b o (kp b o z)
      have pt' : IsTup h₁ t _ := pt.keeps kk
      have pr' : IsTup h₁ r _ := pr.keeps kk
      have var : ∀ AA pz, Evc X.prog X.w AA (lenv q scope h.objs.size f c') h₁ (.Name x pz) (fun _ u => u = .ref t) := fun AA pz => evc_var (m := fun y => [(x, Value.ref t)].reverse.lookup y) L.kind (hx _ _ _) hns (by simp) hd
      refine evc_tup2 ?_ ?_
      · intro s Q E k q
        refine evc_sub (pos := p4) (y := .int (key i).1 t1) (j := 0) pt' (var _ p2) (evc_int (i := 0) (k := k0) (pos := p3)) (fun _ _ => rfl) (by simp) (by simp) (by simp) s Q E k fun u h' tk kk r => q u h' tk kk ⟨t1, r⟩
      · have e3 : (key i).2 = (rs.toArray.size : Int) := by rw [List.size_toArray, ← hlr]; exact e2
        rw [e3]
        exact evc_len (x := "len") (px := p5) (pos := p9) pr' hz62 L.kind (hlen _ _ _) ((I2.mod.glob.keeps I2.bk).keeps kk) hml ((b1.keeps I2.bk).keeps kk) ((b2 _ (by decide)).trans rfl)
          (evc_sub (pos := p8) (y := .ref r) (j := 1) pt' (var _ p6) (evc_int (i := 1) (k := k1) (pos := p7)) (fun _ _ => rfl) (by simp) (by simp) (by simp)) rfl
  · rw [List.getElem?_toArray, List.size_toArray, ← hlv] at hv
    obtain ⟨y, hy⟩ : ∃ y, xs[argBest (fun i j => ltII (key j) (key i)) (xs.length - 1)]? = some y := ⟨_, List.getElem?_eq_getElem (Nat.lt_of_lt_of_eq (List.getElem?_eq_some_iff.mp hv).1 hlv.symm)⟩
    obtain ⟨v', e1, e2⟩ := rv.get hy
    rw [hv] at e1
    cases e1
    exact ⟨y, H2, I2.kept kp, e2, q3 y hy⟩
end FS

set_option Elab.async false
set_option maxRecDepth 100000
set_option linter.all false
/-! FsObj: objects, dicts, tables of code objects, while: by pieces. -/
namespace FS
open PySem PySem.Spec PyProof.Rows L2 Evl LamX
/-! ### list(d.values()) -/
def rValsL (x : V) (H : Hp) (Q : VK) : Prop := ∃ (d : Addr) (kvs : List (Key × V)), x = .ref d ∧ H d = some (.dK kvs) ∧ NewO (.lst (kvs.map (·.2))) H Q
def tListVals (te : TE) : TE := fun σ H Q => te σ H fun x H1 => rValsL x H1 Q
theorem kv_vals {κ : Type} {kvs : List (κ × V)} {vs : List (κ × Value)} (r : KV kvs vs) : Vals (kvs.map (·.2)) (vs.map (·.2)) := by
  unfold KV at r
  induction r with
  | nil => exact .nil
  | cons h t ih => exact .cons h.2 ih
theorem pe_listVals {X : Cx} {e : Expr} {te : TE} {p apos cpos pos : Pos} (hc : X.calm = true) (he : PE X e te) (hg : Gl X "list") (hm : X.mg "list" = none) (hbase : attributeBase e "values" X.env (eval e X.env) = eval e X.env := by rfl) (hline : (apos.endLine == cpos.line) = true := by rfl)
    (hs : starEach [.Call (.Attribute e "values" apos) [] [] cpos] X.env = (false, eval (.Call (.Attribute e "values" apos) [] [] cpos) X.env) :: starEach [] X.env := by rfl) :
    PE X (.Call (.Name "list" p) [.Call (.Attribute e "values" apos) [] [] cpos] [] pos) (tListVals te) := by
  refine ⟨fun pins s σ H Q I hq => ?_⟩
  refine wpAny_Call_Name_kw (ld_blt I hg hm (show bootBuiltins "list" = some (.type "list") from by decide +kernel) ?_)
  refine PyProof.Rows.callWith_type1 ?_ hs rfl
  rw [hs]
  show wpAny _ _ (spliced ((false, eval (.Call (.Attribute e "values" apos) [] [] cpos) X.env) :: backTo pos (starEach [] X.env))) _ _ s
  refine Calls.spliced_cons ?_
  refine wpAny_Call_method (T := "dict") (id := "dict.values") hbase rfl hline F.plainAttrs_dict F.slot_dict_values F.type_dict_values (thn (he.run pins s σ H _ I hq) fun u s1 ⟨x, H1, I1, rx, d, kvs, ex, hd, q⟩ => ?_)
  subst ex
  obtain rfl : u = Value.ref d := rx
  obtain ⟨hz, hs0, vs, kv, hdo⟩ := I1.hok d _ hd
  obtain ⟨ep, hat⟩ := hdo.dictAt
  have lk : kvs.length = vs.length := Paired.length kv
  refine ⟨hdo.typeIs, hdo.mapOf.noDict, ?_⟩
  show wpAny _ _ (callWith cpos (.builtin "dict.values") [.ref d] [] []) _ X.xe s1
  refine method_meetsIn F.slot_dict_values F.entry_dict_values rfl (PySem.evalArgs_none ⟨rfl, hdo.typeIs, F.args_dict_values_1 _, _, meets_dict_values (mixKind X.prog X.w) d hs0, ⟨vs, hdo⟩, ?_⟩)
  refine Calls.spliced_nil ?_
  refine PySem.W.kdl_call (PySem.W.kdl_values (knd := mixKind X.prog X.w) (kvs := vs) (ep := ep) (r := s1.heap.objs.size) (d := d)) (I1.ok.hd hc) ⟨⟨_, Heap.get?_push_size _ rfl, rfl, rfl⟩, hat.push _⟩ (by omega) fun h' tk acc c hk hS hacc => ?_
  have sz : (s1.heap.push { cls := .type "dict_values", data := .fields #[.ref d] }).objs.size = s1.heap.objs.size + 1 := Heap.size_push ..
  have e2 : acc.toList = vs.map (·.2) := PySem.W.kdl_vals_eq acc.toList (by rw [Array.length_toList]; exact hacc.1) fun j v e => hacc.2 j v (by rw [← Array.getElem?_toList]; exact e)
  have kept : ∀ b o, s1.heap.get? b = some o → h'.get? b = some o := fun b o z => hk b o (Heap.get?_push_of_some _ z)
  refine ⟨.ref _, upd H1 (s1.heap.push { cls := .type "dict_values", data := .fields #[.ref d] }).objs.size (.lst (kvs.map (·.2))), I1.laid (t' := tk) kept (by rw [sz]; exact Nat.le_succ _) ⟨by rw [List.length_map]; exact hz, acc.toList, c, by rw [e2]; exact kv_vals kv, by rw [Array.toArray_toList]; exact hS⟩, rfl, q _ (I1.hok.fresh (by rw [sz]; exact Nat.le_succ _))⟩
/-! ### a code object's table as a piece -/
def tabP (Pt : Addr) (q : Str) : Ch := ⟨fun P h => ∃ ps, h Pt = some (.tbl ps) ∧ TriplesOk ps.toList ∧ ∀ (pos : Pos) (cv : Value), codeAmong pos ps.toList = some cv → ∃ c, cv = .ref c ∧ P c = some (CodeO c q),
  fun e ⟨ps, a, b, c⟩ => ⟨ps, a, b, fun pos cv h => let ⟨c0, e1, e2⟩ := c pos cv h; ⟨c0, e1, e _ _ e2⟩⟩⟩
theorem Mem.tabS {P H : Hp} {cs : List Ch} {Pt : Addr} {q : Str} (m : Mem P (tabP Pt q :: cs) H) : TabS H Pt q := by
  obtain ⟨e, h, ⟨h1, h2, ⟨ps, a, b, c⟩, _, _, e1, _⟩, _, l⟩ := m
  exact ⟨ps, l _ _ (e1 _ _ a), b, fun pos cv z => let ⟨c0, r1, r2⟩ := c pos cv z; ⟨c0, r1, e _ _ r2⟩⟩
theorem Mem.tabI {P H : Hp} {cs : List Ch} {Pt : Addr} {q : Str} {ps : Array Value} (m : Mem P (pt Pt (.tbl ps) :: cs) H) (b : TriplesOk ps.toList) (c : ∀ (pos : Pos) (cv : Value), codeAmong pos ps.toList = some cv → ∃ c, cv = .ref c ∧ P c = some (CodeO c q)) : Mem P (tabP Pt q :: cs) H := by
  obtain ⟨e, h, ⟨h1, h2, a, r⟩, d⟩ := m
  exact ⟨e, h, ⟨h1, h2, ⟨ps, a, b, c⟩, r⟩, d⟩
theorem Mem.tabE {P H : Hp} {cs : List Ch} {Pt : Addr} {q : Str} (m : Mem P (tabP Pt q :: cs) H) : ∃ ps, Mem P (pt Pt (.tbl ps) :: cs) H ∧ TriplesOk ps.toList ∧ ∀ (pos : Pos) (cv : Value), codeAmong pos ps.toList = some cv → ∃ c, cv = .ref c ∧ P c = some (CodeO c q) := by
  obtain ⟨e, h, ⟨h1, h2, ⟨ps, a, b, c⟩, r⟩, d⟩ := m
  exact ⟨ps, ⟨e, h, ⟨h1, h2, a, r⟩, d⟩, b, c⟩
theorem Mem.grow {P H H2 : Hp} {cs : List Ch} {Pt : Addr} {q : Str} (m : Mem P (tabP Pt q :: cs) H) (g : Grow Pt q H H2) : ∃ P', Ex P P' ∧ Mem P' (tabP Pt q :: cs) H2 := by
  cases g with
  | same _ => exact ⟨P, Ex.refl _, m⟩
  | more a n t =>
    rename_i ps c' vs
    obtain ⟨ps', m', b, c⟩ := m.tabE
    have e := m'.rd0
    rw [a] at e
    cases e
    have nc : upd H Pt (.tbl (ps ++ vs)) c' = none := by rw [upd_ne (fun z => by rw [z, a] at n; cases n)]; exact n
    have f := Mem.newP (m'.put0 (o' := .tbl (ps ++ vs))) nc (o := CodeO c' q)
    refine ⟨_, f.2, f.1.tabI t.1 fun pos cv z => ?_⟩
    rcases t.2 pos cv z with y | y
    · obtain ⟨c0, r1, r2⟩ := c pos cv y
      exact ⟨c0, r1, f.2 _ _ r2⟩
    · exact ⟨c', y, upd_same⟩
/-! ### objects -/
def FldAt (K : PySem.W.Frag) (f : Str) (x : V) (H : Hp) (Q : VK) : Prop := ∃ a C dx fs v, x = .ref a ∧ H a = some (.ins C dx fs) ∧ Cls K C ∧ NoAttr K C f ∧ fs.lookup f = some v ∧ Q v H
theorem i_fldT {K : PySem.W.Frag} {ta : TE} {f : Str} {σ : L2.St} {H : Hp} {Q : VK} (h : ta σ H fun x H1 => FldAt K f x H1 Q) : tFld K ta f σ H Q := h
theorem i_fldAt {K : PySem.W.Frag} {P H : Hp} {cs r : List Ch} {a C dx : Addr} {fs : List (Str × V)} {f : Str} {v : V} {Q : VK} (m : Mem P cs H) (q : Sel cs (pt a (.ins C dx fs)) r) (c : Cls K C) (n : NoAttr K C f) (l : fs.lookup f = some v) (k : Q v H) : FldAt K f (.ref a) H Q := ⟨a, C, dx, fs, v, rfl, m.rd q, c, n, l, k⟩
def FldPut (K : PySem.W.Frag) (f : Str) (x y : V) (H : Hp) (N : Hp → Prop) : Prop := ∃ a C dx fs, x = .ref a ∧ H a = some (.ins C dx fs) ∧ Cls K C ∧ NoAttr K C f ∧ fs.length < 1000 ∧ N (upd H a (.ins C dx (putF f y fs)))
theorem i_sFld {K : PySem.W.Frag} {ta tv : TE} {f : Str} {D : Ends} {σ : L2.St} {H : Hp} (h : tv σ H fun y H1 => ta σ H1 fun x H2 => FldPut K f x y H2 (D.nx σ)) : sFld K ta tv f D σ H := h
theorem i_fldPut {K : PySem.W.Frag} {P H : Hp} {cs r : List Ch} {a C dx : Addr} {fs fs' : List (Str × V)} {f : Str} {y : V} {N : Hp → Prop} (m : Mem P cs H) (c : Cls K C) (n : NoAttr K C f) (hp : putF f y fs = fs') (u : Upd cs a (.ins C dx fs) (.ins C dx fs') r) (hl : fs.length < 1000) (q : ∀ H', Mem P r H' → N H') : FldPut K f (.ref a) y H N := by
  subst hp
  exact ⟨a, C, dx, fs, rfl, u.rd m, c, n, hl, q _ (m.put u)⟩
def FldBack (a C : Addr) (f : Str) (z : V) (H : Hp) (N : Hp → Prop) : Prop := ∃ dx fs, H a = some (.ins C dx fs) ∧ fs.length < 1000 ∧ N (upd H a (.ins C dx (putF f z fs)))
def FldAug (K : PySem.W.Frag) (f : Str) (x : V) (H : Hp) (R : Addr → Addr → V → Prop) : Prop := ∃ a C dx fs v, x = .ref a ∧ H a = some (.ins C dx fs) ∧ Cls K C ∧ NoAttr K C f ∧ fs.lookup f = some v ∧ R a C v
theorem i_sFldAug {K : PySem.W.Frag} {ta tv : TE} {rd : V → V → Hp → VK → Prop} {f : Str} {D : Ends} {σ : L2.St} {H : Hp} (h : ta σ H fun x H1 => FldAug K f x H1 fun a C v => tv σ H1 fun y H2 => rd v y H2 fun z H3 => FldBack a C f z H3 (D.nx σ)) : sFldAug K ta tv rd f D σ H := h
theorem i_fldAug {K : PySem.W.Frag} {P H : Hp} {cs r : List Ch} {a C dx : Addr} {fs : List (Str × V)} {f : Str} {v : V} {R : Addr → Addr → V → Prop} (m : Mem P cs H) (q : Sel cs (pt a (.ins C dx fs)) r) (c : Cls K C) (n : NoAttr K C f) (l : fs.lookup f = some v) (k : R a C v) : FldAug K f (.ref a) H R := ⟨a, C, dx, fs, v, rfl, m.rd q, c, n, l, k⟩
theorem i_fldBack {P H : Hp} {cs r : List Ch} {a C dx : Addr} {fs fs' : List (Str × V)} {f : Str} {y : V} {N : Hp → Prop} (m : Mem P cs H) (hp : putF f y fs = fs') (u : Upd cs a (.ins C dx fs) (.ins C dx fs') r) (hl : fs.length < 1000) (q : ∀ H', Mem P r H' → N H') : FldBack a C f y H N := by
  subst hp
  exact ⟨dx, fs, u.rd m, hl, q _ (m.put u)⟩
theorem i_rAdd {i j : Int} {H : Hp} {Q : VK} (q : Q (.int (i + j)) H) : rAdd (.int i) (.int j) H Q := ⟨i, j, rfl, rfl, q⟩
def MethAt (C : Addr) (m : Str) (x : V) (H : Hp) (R : Prop) : Prop := ∃ a dx fs, x = .ref a ∧ H a = some (.ins C dx fs) ∧ fs.lookup m = none ∧ R
theorem i_meth {C : Addr} {m : Str} {sp : Sp} {dvs : List V} {E : XK} {ta : TE} {t : TA} {σ : L2.St} {H : Hp} {Q : VK} (h : ta σ H fun x H1 => MethAt C m x H1 (t σ H1 fun vs H2 => sp (x :: (vs ++ dvs)) H2 Q E)) : tMeth C m sp dvs E ta t σ H Q := h
theorem i_methAt {P H : Hp} {cs r : List Ch} {a C dx : Addr} {fs : List (Str × V)} {n : Str} {R : Prop} (m : Mem P cs H) (q : Sel cs (pt a (.ins C dx fs)) r) (l : fs.lookup n = none) (k : R) : MethAt C n (.ref a) H R := ⟨a, dx, fs, rfl, m.rd q, l, k⟩
def NewIns (C : Addr) (H : Hp) (R : Addr → Hp → Prop) : Prop := ∀ x dx, H x = none → H dx = none → dx ≠ x → R x (upd (upd H dx (.own x)) x (.ins C dx []))
theorem i_make {C : Addr} {sp : Sp} {dvs : List V} {E : XK} {t : TA} {σ : L2.St} {H : Hp} {Q : VK} (h : t σ H fun vs H1 => NewIns C H1 fun x H' => sp (.ref x :: (vs ++ dvs)) H' (fun v H2 => v = .non ∧ Q (.ref x) H2) E) : tMake C sp dvs E t σ H Q := h
theorem i_newIns {P H : Hp} {cs : List Ch} {C : Addr} {R : Addr → Hp → Prop} (m : Mem P cs H) (q : ∀ x dx P' H', Ex P P' → Mem P' (pt x (.ins C dx []) :: cs) H' → R x H') : NewIns C H R := by
  intro x dx hx hd hne
  have m1 := m.newP hd (o := .own x)
  exact q x dx _ _ m1.2 (m1.1.new (by rw [upd_ne (Ne.symm hne)]; exact hx))
/-! ### dicts -/
theorem i_dnewK {σ : L2.St} {H : Hp} {Q : VK} (h : NewO (.dK []) H Q) : tDNewK σ H Q := h
theorem i_dnewT {σ : L2.St} {H : Hp} {Q : VK} (h : NewO (.dT []) H Q) : tDNewT σ H Q := h
def DispEnd (p : Addr) (ps : List (V × V)) (H : Hp) (Q : VK) : Prop := H p = some (.dK []) ∧ ∃ kvs : List (Key × V), ps = kvs.map (fun kv => (kV kv.1, kv.2)) ∧ kvs.length ≤ 15 ∧ Q (.ref p) (upd H p (.dK (mergeK [] kvs)))
theorem i_disp {P H : Hp} {cs : List Ch} {trs : List (TE × TE)} {σ : L2.St} {Q : VK} (m : Mem P cs H) (q : ∀ p H', Mem P (pt p (.dK []) :: cs) H' → tPairs trs σ H' fun ps H2 => DispEnd p ps H2 Q) : tDisp trs σ H Q := fun p n => q p _ (m.new n)
theorem i_pairN {σ : L2.St} {H : Hp} {Q : List (V × V) → Hp → Prop} (h : Q [] H) : tPairs [] σ H Q := h
theorem i_pairC {tk tv : TE} {r : List (TE × TE)} {σ : L2.St} {H : Hp} {Q : List (V × V) → Hp → Prop} (h : tk σ H fun x H1 => tv σ H1 fun y H2 => tPairs r σ H2 fun ps H3 => Q ((x, y) :: ps) H3) : tPairs ((tk, tv) :: r) σ H Q := h
theorem i_dispEnd {P H : Hp} {cs r : List Ch} {p : Addr} {ps : List (V × V)} {kvs : List (Key × V)} {Q : VK} (m : Mem P cs H) (e : ps = kvs.map (fun kv => (kV kv.1, kv.2))) (u : Upd cs p (.dK []) (.dK (mergeK [] kvs)) r) (hl : kvs.length ≤ 15) (q : ∀ H', Mem P r H' → Q (.ref p) H') : DispEnd p ps H Q :=
  ⟨u.rd m, kvs, e, hl, q _ (m.put u)⟩
theorem i_dispI {P H : Hp} {cs r : List Ch} {p : Addr} {k : Int} {v : V} {Q : VK} (m : Mem P cs H) (u : Upd cs p (.dK []) (.dK [(Sum.inl k, v)]) r) (q : ∀ H', Mem P r H' → Q (.ref p) H') : DispEnd p [(.int k, v)] H Q :=
  i_dispEnd (kvs := [(Sum.inl k, v)]) m rfl u (by show 1 ≤ 15; decide) q
def DGetAt (x y : V) (H : Hp) (Q : VK) : Prop := ∃ a v, x = .ref a ∧ DGet H a y (some v) ∧ Q v H
theorem i_dget {td ty : TE} {σ : L2.St} {H : Hp} {Q : VK} (h : td σ H fun x H1 => ty σ H1 fun y H2 => DGetAt x y H2 Q) : tDGet td ty σ H Q := h
theorem i_dgetAt {P H : Hp} {cs r : List Ch} {a : Addr} {kvs : List (Key × V)} {k : Key} {v : V} {Q : VK} (m : Mem P cs H) (q : Sel cs (pt a (.dK kvs)) r) (hv : valV kvs k = some v) (c : Q v H) : DGetAt (.ref a) (kV k) H Q := ⟨a, v, rfl, by rw [← hv]; exact DGet.k (m.rd q), c⟩
def DInAt (x y : V) (H : Hp) (R : Option V → Prop) : Prop := ∃ a o, x = .ref a ∧ DGet H a y o ∧ R o
theorem i_din {td ty : TE} {σ : L2.St} {H : Hp} {Q : VK} (h : ty σ H fun y H1 => td σ H1 fun x H2 => DInAt x y H2 fun o => Q (.bl o.isSome) H2) : tDIn ty td σ H Q := h
theorem i_dnotin {td ty : TE} {σ : L2.St} {H : Hp} {Q : VK} (h : ty σ H fun y H1 => td σ H1 fun x H2 => DInAt x y H2 fun o => Q (.bl (!o.isSome)) H2) : tDNotIn ty td σ H Q := h
theorem i_dinAt {P H : Hp} {cs r : List Ch} {a : Addr} {kvs : List (Key × V)} {k : Key} {R : Option V → Prop} (m : Mem P cs H) (q : Sel cs (pt a (.dK kvs)) r) (c : R (valV kvs k)) : DInAt (.ref a) (kV k) H R := ⟨a, _, rfl, DGet.k (m.rd q), c⟩
def DPutAt (x y v : V) (H : Hp) (N : Hp → Prop) : Prop := ∃ a H4, x = .ref a ∧ DPut H a y v H4 ∧ N H4
theorem i_dput {td ty tv : TE} {D : Ends} {σ : L2.St} {H : Hp} (h : tv σ H fun v H1 => td σ H1 fun x H2 => ty σ H2 fun y H3 => DPutAt x y v H3 (D.nx σ)) : sDPut td ty tv D σ H := h
theorem i_dputAt {P H : Hp} {cs r : List Ch} {a : Addr} {kvs : List (Key × V)} {k : Key} {v : V} {N : Hp → Prop} (m : Mem P cs H) (u : Upd cs a (.dK kvs) (.dK (putK kvs k v)) r) (hl : kvs.length < 100000) (q : ∀ H', Mem P r H' → N H') : DPutAt (.ref a) (kV k) v H N :=
  ⟨a, _, rfl, DPut.k (u.rd m) (sz_lt hl), q _ (m.put u)⟩
def IsDAt (x : V) (H : Hp) (R : Addr → Prop) : Prop := ∃ a, x = .ref a ∧ IsD H a ∧ R a
def DGetO (a : Addr) (y : V) (H : Hp) (R : Option V → Prop) : Prop := ∃ o, DGet H a y o ∧ R o
theorem i_dgetO {P H : Hp} {cs r : List Ch} {a : Addr} {kvs : List (Key × V)} {k : Key} {R : Option V → Prop} (m : Mem P cs H) (q : Sel cs (pt a (.dK kvs)) r) (c : R (valV kvs k)) : DGetO a (kV k) H R := ⟨_, DGet.k (m.rd q), c⟩
theorem i_dget2 {td ty tx : TE} {σ : L2.St} {H : Hp} {Q : VK} (h : td σ H fun x H1 => IsDAt x H1 fun a => ty σ H1 fun y H2 => tx σ H2 fun z H3 => DGetO a y H3 fun o => Q (o.getD z) H3) : tDGet2 td ty tx σ H Q := h
theorem i_isDAt {P H : Hp} {cs r : List Ch} {a : Addr} {kvs : List (Key × V)} {R : Addr → Prop} (m : Mem P cs H) (q : Sel cs (pt a (.dK kvs)) r) (c : R a) : IsDAt (.ref a) H R := ⟨a, rfl, .inl ⟨kvs, .inl (m.rd q)⟩, c⟩
theorem i_listVals {te : TE} {σ : L2.St} {H : Hp} {Q : VK} (h : te σ H fun x H1 => rValsL x H1 Q) : tListVals te σ H Q := h
theorem i_listValsAt {P H : Hp} {cs r : List Ch} {a : Addr} {kvs : List (Key × V)} {Q : VK} (m : Mem P cs H) (q : Sel cs (pt a (.dK kvs)) r) (c : NewO (.lst (kvs.map (·.2))) H Q) : rValsL (.ref a) H Q := ⟨a, kvs, rfl, m.rd q, c⟩
theorem i_lenD {P H : Hp} {cs r : List Ch} {a : Addr} {kvs : List (Key × V)} {Q : VK} (m : Mem P cs H) (q : Sel cs (pt a (.dK kvs)) r) (c : Q (.int kvs.length) H) : ∃ b kvs, [V.ref a] = [V.ref b] ∧ H b = some (.dK kvs) ∧ Q (.int kvs.length) H := ⟨a, kvs, rfl, m.rd q, c⟩
/-! ### a def that makes a lambda: its code object is told -/
theorem fnC {P : Program} {w : World} {K : PySem.W.Frag} {mg : Str → Option Value} {base : Heap} {x qual : Str} {st : Stmt} {f : Addr} {fd : FuncData} {N ps : List Str} {k : Nat} {sp : Sp} {c : Value} (F : Fun K x qual st f fd) (hc : fd.code = c) (S : FnScope N ps (defScope st))
    (len : ∀ vs H Q E, sp vs H Q E → vs.length = ps.length)
    (hbody : ∀ (cdv : Value) (A : Around) (outer : List Env) (s : Shared) (H : Hp) (vs : List V) (Q : VK) (E : XK), cdv = c → Room k (A.deeper (envOfC qual (defScope st) s.heap.objs.size f cdv)) → sp vs H Q E →
      ∃ t, PSs (cxOf CX0 P w K mg base N qual (defScope st) f cdv A outer s H E).nox (defBody st) t ∧ t { nx := fun _ H' => Q .non H', rt := Q } (start N vs) H) : FnOk P w K mg base CX0 (k + 1) f fd ps sp := by
  obtain ⟨oc, od, kV, doc, pm, an, cdv, ct, osl, efd, lk, hcd⟩ := F.ex
  subst efd
  refine fn_of lk hcd S len fun A outer s H vs Q E hr hsp => ?_
  obtain ⟨t, h, q⟩ := hbody cdv A outer s H vs Q E hc hr hsp
  exact ⟨t, h.nox, q⟩
/-- the facts that makers of lambdas ask of the base -/
def Tbs (base : Heap) (mg : Str → Option Value) (cs : List (Addr × Addr)) : Prop := ∀ p ∈ cs, TabB base mg p.1 p.2
/-- a heap without one place -/
def rmv (H : Hp) (a : Addr) : Hp := fun b => if b = a then none else H b
theorem rmv_ex {H : Hp} {a : Addr} : Ex (rmv H a) H := fun b o e => by
  unfold rmv at e
  split at e
  · cases e
  · exact e
theorem rmv_sq {K : PySem.W.Frag} {H : Hp} {a b : Addr} {ps : Array Value} {xs : List V} (e : H a = some (.tbl ps)) (h : SqL K H b xs) : SqL K (rmv H a) b xs := by
  have ne : ∀ {o : HO}, H b = some o → (∀ z, o ≠ .tbl z) → rmv H a b = some o := fun {o} q n => by
    unfold rmv
    rw [if_neg (fun z => by rw [z, e] at q; exact n ps (Option.some.inj q).symm)]
    exact q
  rcases h with (h | ⟨o, h⟩) | h
  · exact .inl (.inl (ne h fun z y => by cases y))
  · exact .inl (.inr ⟨o, ne h fun z y => by cases y⟩)
  · exact .inr h
theorem Mem.split {H : Hp} {a : Addr} {q : Str} (e : H a = some (.tbl #[])) : Mem (rmv H a) [tabP a q] H := by
  refine Mem.tabI (ps := #[]) ⟨rmv_ex, sgl a (.tbl #[]), ⟨sgl a (.tbl #[]), emp, if_pos rfl, trivial, fun _ => .inr rfl, Ex.refl _, emp_ex⟩, fun b => ?_, fun b o z => ?_⟩ trivial fun pos cv z => by
    have z' : codeAmong pos [] = some cv := z
    simp [codeAmong] at z'
  · by_cases h : b = a
    · exact .inl (if_pos h)
    · exact .inr (if_neg h)
  · unfold sgl at z
    split at z
    · rename_i h; subst h; rw [e]; exact z
    · cases z
theorem i_pop {P H : Hp} {cs r : List Ch} {l : Addr} {xs ys : List V} {y : V} {Q : VK} (m : Mem P cs H) (e : xs = ys ++ [y]) (u : Upd cs l (.lst xs) (.lst ys) r) (q : ∀ H', Mem P r H' → Q y H') : rPop (.ref l) [] H Q := by
  subst e
  refine ⟨l, _, y, rfl, rfl, u.rd m, by simp, ?_⟩
  rw [List.dropLast_concat]
  exact q _ (m.put u)
theorem Mem.gone {P H : Hp} {cs r : List Ch} {c : Ch} (m : Mem P cs H) (q : Sel cs c r) : Mem P r H := (m.sel q).drop
def rLenD : List V → Hp → VK → Prop := fun xs H Q => ∃ a kvs, xs = [V.ref a] ∧ H a = some (.dK kvs) ∧ Q (.int kvs.length) H
theorem lenD {X : Cx} : CallR X (.builtin "len") rLenD := call_lenD
theorem i_lenDr {P H : Hp} {cs r : List Ch} {a : Addr} {kvs : List (Key × V)} {Q : VK} (m : Mem P cs H) (q : Sel cs (pt a (.dK kvs)) r) (c : Q (.int kvs.length) H) : rLenD [V.ref a] H Q := ⟨a, kvs, rfl, m.rd q, c⟩
theorem i_slT {K : PySem.W.Frag} {H : Hp} {a : Addr} {xs ys : List V} {lo hi : Option Int} {Q : VK} (h : SqT K H a xs) (hp : ¬ (HT.sIx xs.length 0 lo = 0 ∧ HT.sIx xs.length xs.length hi = xs.length)) (e : cutV xs lo hi = ys) (q : NewO (.tup ys) H Q) : rSlT K (.ref a) lo hi H Q := by
  subst e
  exact ⟨a, xs, rfl, h, hp, q⟩
theorem i_catT {K : PySem.W.Frag} {H : Hp} {a b : Addr} {xs ys : List V} {Q : VK} (h1 : SqT K H a xs) (h2 : SqT K H b ys) (n1 : xs ≠ []) (n2 : ys ≠ []) (hl : xs.length + ys.length ≤ 100000) (q : NewO (.tup (xs ++ ys)) H Q) : rCatT K (.ref a) (.ref b) H Q :=
  ⟨a, b, xs, ys, rfl, rfl, h1, h2, n1, sz_of hl, fun z => absurd z n2, fun _ => q⟩
def rIntB : List V → Hp → VK → Prop := fun xs H Q => ∃ k : Bool, xs = [.bl k] ∧ Q (.int (if k then 1 else 0)) H
theorem intB {X : Cx} : CallR X (.type "int") rIntB := fun pins s σ H xs us Q I r ⟨k, e, q⟩ => call_int1 pins s σ H xs us Q I r (.inr ⟨k, e, q⟩)
theorem i_intB {k : Bool} {H : Hp} {Q : VK} (q : Q (.int (if k then 1 else 0)) H) : rIntB [.bl k] H Q := ⟨k, rfl, q⟩
theorem l_lcR2 {P : Hp} {cs : List Ch} {lo hi : Int} {g : TG} {tt : TT} {te : TE} {vs : List Nat} {σ : L2.St} {H : Hp} {Qd : Addr → Hp → Prop} (h1 : -(2 ^ 62) ≤ lo ∧ lo < 2 ^ 62 ∧ -(2 ^ 62) ≤ hi ∧ hi < 2 ^ 62) (m : Mem P cs H) (R : Nat → List V → Hp → Prop) (h0 : R 0 [] P)
    (hs : ∀ (i : Nat) P' H' acc D, lo + (i : Int) < hi → Ex P P' → Mem P' (pt D (.lst acc) :: cs) H' → R i acc P' → ∀ (Kt : VK) (Kf : Hp → Prop),
      (∀ y P4 H4, Ex P' P4 → Mem P4 (pt D (.lst acc) :: cs) H4 → acc.length < 100000 → R (i + 1) (acc ++ [y]) P4 → Kt y H4) → (∀ P4 H4, Ex P' P4 → Mem P4 (pt D (.lst acc) :: cs) H4 → R (i + 1) acc P4 → Kf H4) →
      g (.int (lo + (i : Int))) (wipe σ vs) H' fun σ2 H2 => wipe σ2 vs = wipe σ vs ∧ tt σ2 H2 fun b H3 => if b = true then te σ2 H3 Kt else Kf H3)
    (hd : ∀ D P' H' acc, Ex P P' → Mem P' (pt D (.lst acc) :: cs) H' → R (hi - lo).toNat acc P' → Qd D H') :
    ∃ k l : Int, [V.int lo, V.int hi] = [.int k, .int l] ∧ (-(2 ^ 62) ≤ k ∧ k < 2 ^ 62 ∧ -(2 ^ 62) ≤ l ∧ l < 2 ^ 62) ∧ ∀ D, H D = none → ∃ W : Nat → Nat → Hp → Prop, (∃ m, W 0 m (upd H D (.lst []))) ∧ ∀ i m H, W i m H →
      ((Itr k (l - k).toNat).stop i H ∧ Qd D H) ∨ ((Itr k (l - k).toNat).go i H ∧ ∃ Nx : Hp → Prop, (∀ H', Nx H' → ∃ m', m' < m ∧ W (i + 1) m' H') ∧ ∀ x H', (Itr k (l - k).toNat).yld i H x H' → g x (wipe σ vs) H' fun σ2 H2 => wipe σ2 vs = wipe σ vs ∧ tt σ2 H2 fun b H3 =>
        if b = true then te σ2 H3 fun y H4 => ∃ acc, H4 D = some (.lst acc) ∧ acc.length < sizeLine ∧ Nx (upd H4 D (.lst (acc ++ [y]))) else Nx H3) := by
  refine ⟨lo, hi, rfl, h1, fun D hD => ?_⟩
  refine lc_range (lo := lo) (n := (hi - lo).toNat) (Qd := Qd D) (fun i H' => ∃ P' acc, Ex P P' ∧ Mem P' (pt D (.lst acc) :: cs) H' ∧ R i acc P') ⟨P, [], Ex.refl _, m.new hD, h0⟩ (fun i H' hi ⟨P', acc, e, m', r⟩ => ?_) (fun H' ⟨P', acc, e, m', r⟩ => hd D P' H' acc e m' r)
  exact hs i P' H' acc D (by omega) e m' r _ _ (fun y P4 H4 e4 m4 l4 r4 => ⟨acc, m4.rd0, sz_lt l4, P4, _, e.trans e4, m4.put0, r4⟩) (fun P4 H4 e4 m4 r4 => ⟨P4, acc, e.trans e4, m4, r4⟩)
def Par2 (i j : Nat) (vs : List V) (σ : L2.St) (H : Hp) (N : L2.St → Hp → Prop) : Prop := ∃ v w, vs = [v, w] ∧ N ((σ.set i (some v)).set j (some w)) H
theorem i_par {i j : Nat} {ta : TA} {D : Ends} {σ : L2.St} {H : Hp} (h : ta σ H fun vs H1 => Par2 i j vs σ H1 D.nx) : tPar i j ta D σ H := h
theorem i_par2 {i j : Nat} {v w : V} {σ σ1 σ2 : L2.St} {H : Hp} {N : L2.St → Hp → Prop} (h1 : SetS σ i v σ1) (h2 : SetS σ1 j w σ2) (q : N σ2 H) : Par2 i j [v, w] σ H N := ⟨v, w, rfl, by rw [h1.eq, h2.eq]; exact q⟩
/-! isinstance(x, (int, str, tuple)) -/
theorem i_newTy {P H : Hp} {cs : List Ch} {xs : List V} {Q : VK} (hl : xs.length ≤ 100000) (m : Mem P cs H) (q : ∀ p P' H', Mem P' cs H' → Ex P P' → P' p = some (.tup xs) → Q (.ref p) H') : NewT xs H Q := i_NT hl (i_newP m q)
theorem i_isiT {K : PySem.W.Frag} {P H : Hp} {cs : List Ch} {x : V} {tp : Addr} {ts : List V} {us : List Value} {t : Value} {Q : VK} (m : Mem P cs H) (hp : P tp = some (.tup ts)) (k : Paired ClsV ts us) (ty : TyX K H x t) (e : PySem.W.kitAny K t us = some true) (q : Q (.bl true) H) : rIsiT K [x, .ref tp] H Q :=
  ⟨x, tp, ts, t, us, true, rfl, m.ex _ _ hp, k, ty, e, q⟩
/-- what stands in a message: a number, a text, a tuple -/
def PartOk (d : PyData) : Prop := (∃ i, d = .int i) ∨ (∃ z, d = .str z) ∨ ∃ ds, d = .tuple ds
theorem part_ty {K : PySem.W.Frag} {H : Hp} {v : V} {d : PyData} (h : Dp K H v d) (p : PartOk d) : ∃ t : String, (t = "int" ∨ t = "str" ∨ t = "tuple") ∧ TyX K H v (.type t) := by
  rcases p with ⟨i, rfl⟩ | ⟨z, rfl⟩ | ⟨ds, rfl⟩
  · cases h; exact ⟨"int", .inl rfl, .base (.int _)⟩
  · cases h; exact ⟨"str", .inr (.inl rfl), .base (.str _)⟩
  · cases h with
    | tup hq _ => exact ⟨"tuple", .inr (.inr rfl), tyx_t hq⟩
theorem kany3 {K : PySem.W.Frag} {t : String} (h : t = "int" ∨ t = "str" ∨ t = "tuple") : PySem.W.kitAny K (.type t) [.type "int", .type "str", .type "tuple"] = some true := by
  have a : ∀ x y b, L2.kitB x y = some b → PySem.W.kitOne K (.type x) (.type y) = some b := fun x y b z => L2.kit_ty z
  rcases h with rfl | rfl | rfl
  · simp only [PySem.W.kitAny, a _ _ _ kb_int_int]
  · simp only [PySem.W.kitAny, a _ _ _ kb_str_int, a _ _ _ kb_str_str]
  · simp only [PySem.W.kitAny, a _ _ _ kb_tuple_int, a _ _ _ kb_tuple_str, a _ _ _ kb_tuple_tuple]
theorem part_nobool {K : PySem.W.Frag} {H : Hp} {v : V} {t : String} (h : t = "int" ∨ t = "str" ∨ t = "tuple") (ty : TyX K H v (.type t)) {Q : VK} (q : Q (.bl false) H) : rIsi K [v, .ty "bool"] H Q := by
  rcases h with rfl | rfl | rfl
  · exact i_isi (.ty _) ty (kit_ty kb_int_bool) q
  · exact i_isi (.ty _) ty (kit_ty kb_str_bool) q
  · exact i_isi (.ty _) ty (kit_ty kb_tuple_bool) q
theorem fnNone {P : Program} {w : World} {K : PySem.W.Frag} {mg : Str → Option Value} {base : Heap} {CX : CXT} {k : Nat} {f : Addr} {fd : FuncData} {ps : List Str} : FnOk P w K mg base CX k f fd ps (fun _ _ _ _ => False) :=
  ⟨fun _ _ _ _ h => h.elim, fun _ _ _ _ _ _ _ _ _ _ _ _ _ h => h.elim⟩
/-- max by the pair of a number and a length -/
theorem keyPL_up {K : PySem.W.Frag} {P P' : Hp} {x : V} {k : Int × Int} (h : KeyPL K P x k) (e : Ex P P') : KeyPL K P' x k := by
  obtain ⟨t, r, rows, a, b, c, d⟩ := h
  exact ⟨t, r, rows, a, ex_t e b, ex_t e c, d⟩
theorem i_maxPL {K : PySem.W.Frag} {Pt : Addr} {q : Str} {te : TE} {σ : L2.St} {H : Hp} {Q : VK} (h : te σ H fun v H1 => TabS H1 Pt q ∧ ∀ H2, Grow Pt q H1 H2 → ∃ (a : Addr) (xs : List V) (key : Nat → Int × Int), v = .ref a ∧ SqL K H2 a xs ∧ 0 < xs.length ∧
  (∀ i x, xs[i]? = some x → KeyPL K H2 x (key i)) ∧ ∀ x, xs[argBest (fun i j => ltII (key j) (key i)) (xs.length - 1)]? = some x → Q x H2) : tMaxPL K Pt q te σ H Q := h
theorem i_maxAt {K : PySem.W.Frag} {P H : Hp} {cs : List Ch} {Pt a : Addr} {q : Str} {xs : List V} {key : Nat → Int × Int} {Q : VK} (m : Mem P (tabP Pt q :: cs) H) (hl : SqL K P a xs) (hn : 0 < xs.length) (hk : ∀ i x, xs[i]? = some x → KeyPL K P x (key i))
    (k : ∀ P' H' x, Ex P P' → Mem P' (tabP Pt q :: cs) H' → xs[argBest (fun i j => ltII (key j) (key i)) (xs.length - 1)]? = some x → Q x H') : TabS H Pt q ∧ ∀ H2, Grow Pt q H H2 → ∃ (b : Addr) (xs : List V) (key : Nat → Int × Int), V.ref a = .ref b ∧ SqL K H2 b xs ∧ 0 < xs.length ∧
      (∀ i x, xs[i]? = some x → KeyPL K H2 x (key i)) ∧ ∀ x, xs[argBest (fun i j => ltII (key j) (key i)) (xs.length - 1)]? = some x → Q x H2 := by
  refine ⟨m.tabS, fun H2 g => ?_⟩
  obtain ⟨P', e, m'⟩ := m.grow g
  exact ⟨a, xs, key, rfl, ex_l (e.trans m'.ex) hl, hn, fun i x z => keyPL_up (hk i x z) (e.trans m'.ex), fun x z => k P' H2 x e m' z⟩
/-! ### in short -/
section
variable {X : Cx} {K : PySem.W.Frag}
theorem maxPL {c Pt : Addr} {q x : Str} {n : Nat} {e : Expr} {te : TE} {params : Arguments} {scope : Scope} {k0 k1 : Nat} {x1 : Nat} {p1 p2 p3 p4 p5 p6 p7 p8 p9 p10 lpos kpos pos : Pos} (h : X.K = K) (hr : Room n X.A) (he : PE X e te)
    (TB : TabB X.base X.mg c Pt) (hcode : X.env.code = .ref c) (hq : X.env.qual ++ "<lambda>" = q) (hg : Gl X "max") (hm : X.mg "max" = none) (hml : X.mg "len" = none) (hdef : defaultsOf params X.env = ([], [])) (L : LamOk scope x) (hcl : cloFrom X.env.cells scope.names [] = [])
    (hlen : ∀ L f c', (lenv q scope L f c').kindOf "len" = some .globalImplicit) (hx : ∀ L f c', (lenv q scope L f c').kindOf x = some .local) (hd : (x == ("__debug__" : Str)) = false)
    (hbind : ∀ pm cv ctv v, bindArgs (PySem.W.kla_fn "<lambda>" q params (plBody x k0 k1 x1 p2 p3 p4 p5 p6 p7 p8 p9 p10) scope [] pm cv ctv) ⟨[v], []⟩ = pure [(x, v)])
    (hst : backTo pos (starEach [e] X.env) = (false, eval e X.env) :: backTo pos (starEach [] X.env) := by rfl) (hst0 : starEach [e] X.env = (false, eval e X.env) :: starEach [] X.env := by rfl) (hpl : (backTo pos (starEach [e] X.env)).any (·.1) = false := by rfl) :
    PE X (.Call (.Name "max" p1) [e] [⟨some "key", .Lambda params (plBody x k0 k1 x1 p2 p3 p4 p5 p6 p7 p8 p9 p10) scope lpos, kpos⟩] pos) (tMaxPL K Pt q te) := by
  subst h; exact pe_maxPL hr he TB hcode hq hg hm hml hdef L hcl hlen hx hd hbind hst hst0 hpl
def tSortR (K : PySem.W.Frag) (te : TE) : TE := fun σ H Q => te σ H fun x H1 => rSortedKw K true [.bl true] [x] [.bl true] H1 Q
theorem i_sortR {te : TE} {σ : L2.St} {H : Hp} {Q : VK} (h : te σ H fun x H1 => rSortedKw K true [.bl true] [x] [.bl true] H1 Q) : tSortR K te σ H Q := h
theorem i_sortRAt {H : Hp} {a : Addr} {ns : List Int} {Q : VK} (h : SqL K H a (ns.map V.int)) (q : ∀ ns' : List Int, ns'.Perm ns → ns'.Pairwise (· ≥ ·) → NewO (.lst (ns'.map V.int)) H Q) : rSortedKw K true [.bl true] [.ref a] [.bl true] H Q :=
  ⟨a, ns, rfl, rfl, h, fun ns' p hp ho => q ns' hp ho p⟩
theorem sortedRev {e : Expr} {te : TE} {j : Nat} {p1 p2 kpos pos : Pos} (h : X.K = K) (hg : Gl X "sorted") (hm : X.mg "sorted" = none) (he : PE X e te)
    (hst : starEach [e] X.env = (false, eval e X.env) :: starEach [] X.env := by rfl) (hb : backTo pos (starEach [e] X.env) = (false, eval e X.env) :: backTo pos (starEach [] X.env) := by rfl) (hpl : (backTo pos (starEach [e] X.env)).any (·.1) = false := by rfl) :
    PE X (.Call (.Name "sorted" p1) [e] [⟨some "reverse", .Constant (.bool true) j p2, kpos⟩] pos) (tSortR K te) := by
  subst h
  refine ⟨fun pins s σ H Q I q => ?_⟩
  refine (pe_callBK (cr_sortedRev (b := true)) hg hm (by decide +kernel) (pa_cons he pa_nil hst) (pk_cons pe_bl pk_nil) (he := hb) (hpl := hpl)).run pins s σ H Q I ?_
  exact q
end
end FS

set_option Elab.async false
set_option maxRecDepth 100000
set_option linter.all false
/-! FsMore: list + list of any kept or open lists, sorted ints. -/
namespace FS
open PySem PySem.Spec PyProof.Rows L2 Evl LamX
/-- some pieces brought to the front, the others behind them -/
inductive Pr : List Ch → List Ch → Prop
  | all {cs : List Ch} : Pr cs cs
  | cons {c : Ch} {cs r qs : List Ch} : Sel cs c r → Pr r qs → Pr cs (c :: qs)
theorem Sep.pr {P : Hp} : ∀ {cs qs : List Ch} {h : Hp}, Pr cs qs → Sep P cs h → Sep P qs h
  | _, _, _, .all, s => s
  | _, _, _, .cons q t, s => by
    obtain ⟨h1, h2, a, b, r⟩ := Sep.sel q s
    exact ⟨h1, h2, a, Sep.pr t b, r⟩
theorem Mem.pr {P H : Hp} {cs qs : List Ch} (m : Mem P cs H) (q : Pr cs qs) : Mem P qs H := by
  obtain ⟨e, h, s, d, l⟩ := m
  exact ⟨e, h, Sep.pr q s, d, l⟩
section
variable {X : Cx} {K : PySem.W.Frag}
def rCatL (K : PySem.W.Frag) : R2 := fun x y H Q => ∃ l b xs zs, x = .ref l ∧ y = .ref b ∧ SqL K H l xs ∧ SqL K H b zs ∧ xs.length + zs.length ≤ sizeLine ∧ NewO (.lst (xs ++ zs)) H Q
theorem catL (h : X.K = K) : OpR X (binaryOp .Add) (rCatL K) := by
  subst h
  intro pins s σ H x y v u Q I rx ry h
  obtain ⟨l, b, xs, zs, rfl, rfl, hH, hB, hz, q⟩ := h
  cases rx
  cases ry
  obtain ⟨its, r, ⟨⟨cls, dd, data, sl⟩, n, ho, hc, _, hd⟩, _⟩ := I.list hH
  obtain ⟨its2, r2, ⟨⟨cls2, dd2, data2, sl2⟩, n2, ho2, hc2, _, hd2⟩, _⟩ := I.list hB
  simp only at hc hd hc2 hd2
  subst hc hd hc2 hd2
  have hl := r.length
  have hl2 := r2.length
  have e : its.toArray ++ its2.toArray = (its ++ its2).toArray := by simp
  refine concat_meets ⟨_, ho, rfl⟩ ⟨_, ho2, rfl⟩ noFill_list_add seq_list_add PySem.F.slot_list_add PySem.F.entry_list_add (PySem.F.args_list_add_2 _ _) (list_addW l b its.toArray its2.toArray n n2 dd dd2 sl sl2 (by rw [List.size_toArray, List.size_toArray]; omega)) ⟨ho, ho2, ?_⟩
  rw [e]
  exact ⟨.ref _, _, I.lnew (t' := s.toks) (r.append r2) (by rw [List.length_append]; omega), rfl, q _ I.fresh⟩
def rSortI (K : PySem.W.Frag) : List V → Hp → VK → Prop := fun vs H Q => ∃ (a : Addr) (ns : List Int), vs = [V.ref a] ∧ SqL K H a (ns.map V.int) ∧ ∀ ns' : List Int, ns'.Perm ns → ns'.Pairwise (· ≤ ·) → NewO (.lst (ns'.map V.int)) H Q
theorem sortI (h : X.K = K) : CallR X (.builtin "sorted") (rSortI K) := by
  subst h
  intro pins s σ H vs us Q I r h
  obtain ⟨a, ns, e, hs, q⟩ := h
  exact cr_sortedI pins s σ H vs us Q I r ⟨a, ns, e, hs, fun ns' p h1 h2 hn => q ns' h1 h2 p hn⟩
end
theorem i_catL {K : PySem.W.Frag} {a b : Addr} {xs ys : List V} {H : Hp} {Q : VK} (h1 : SqL K H a xs) (h2 : SqL K H b ys) (hz : xs.length + ys.length ≤ 100000) (q : NewO (.lst (xs ++ ys)) H Q) : rCatL K (.ref a) (.ref b) H Q := ⟨a, b, xs, ys, rfl, rfl, h1, h2, sz_of hz, q⟩
theorem i_sortI {K : PySem.W.Frag} {a : Addr} {ns : List Int} {H : Hp} {Q : VK} (h : SqL K H a (ns.map V.int)) (q : ∀ ns' : List Int, ns'.Perm ns → ns'.Pairwise (· ≤ ·) → NewO (.lst (ns'.map V.int)) H Q) : rSortI K [.ref a] H Q := ⟨a, ns, rfl, h, q⟩
theorem i_cut {t u : TS} {D : Ends} {σ : L2.St} {H : Hp} (Mid : L2.St → Hp → Prop) (h : t { D with nx := Mid } σ H) (k : ∀ σ' H', Mid σ' H' → u D σ' H') : tCut t u D σ H := ⟨Mid, h, k⟩
/-- an if whose branches are walked once each, however often its test comes to them -/
theorem i_ifJ {c : TT} {t u : TS} {D : Ends} {σ : L2.St} {H : Hp} (RA RB : Hp → Prop) (hA : ∀ H', RA H' → t D σ H') (hB : ∀ H', RB H' → u D σ H') (h : ∀ TA TB : Hp → Prop, (∀ H', RA H' → TA H') → (∀ H', RB H' → TB H') → c σ H fun b H1 => if b = true then TA H1 else TB H1) : tIfS c t u D σ H := h _ _ hA hB
end FS

set_option Elab.async false
set_option maxRecDepth 100000
set_option linter.all false
/-! FsOrd: data compared by <, sorted; list.pop(i); pieces that come in families; comprehensions that make pieces. -/
namespace FS
open PySem PySem.Spec PyProof.Rows L2 Evl LamX PySem.W
section
variable {X : Cx} {K : PySem.W.Frag}
/-- two data that may be asked for their order -/
def Cmp (d e : PyData) : Prop := alike d e = true ∧ d ≠ .none ∧ d.depth ≤ 60
def rOrdD (K : PySem.W.Frag) (f : PyData → PyData → Bool) : R2 := fun x y H Q => ∃ d e, Dp K H x d ∧ Dp K H y e ∧ Cmp d e ∧ Q (.bl (f d e)) H
theorem gtD (h : X.K = K) (hu : X.A.units + 64 < cLine) : OpR X (compareOp .Gt) (rOrdD K fun d e => dataLt e d) := by
  subst h
  intro pins s σ H x y v u Q I rx ry h
  obtain ⟨d, e, hd, he, ⟨h1, h2, h3⟩, q⟩ := h
  obtain ⟨as, r1⟩ := Dp.reads I d x v hd rx
  obtain ⟨bs, r2⟩ := Dp.reads I e y u he ry
  exact gt_data r1 r2 h1 h2 (by omega) ⟨.bl _, H, I, rfl, q⟩
theorem ltD (h : X.K = K) (hu : X.A.units + 64 < cLine) : OpR X (compareOp .Lt) (rOrdD K fun d e => dataLt d e) := by
  subst h
  intro pins s σ H x y v u Q I rx ry h
  obtain ⟨d, e, hd, he, ⟨h1, h2, h3⟩, q⟩ := h
  obtain ⟨as, r1⟩ := Dp.reads I d x v hd rx
  obtain ⟨bs, r2⟩ := Dp.reads I e y u he ry
  exact lt_data r1 r2 h1 h2 (by omega) ⟨.bl _, H, I, rfl, q⟩
/-! ### sorted(l), any data that are alike -/
/-- a value of the machine that stands for a value, which stands for a datum -/
def Sd (K : PySem.W.Frag) (H : Hp) (v : Value) (d : PyData) : Prop := ∃ x, RelV x v ∧ Dp K H x d
theorem sd_of {H : Hp} : ∀ {xs : List V} {vs : List Value} {ds : List PyData}, Vals xs vs → DpAll K H xs ds → EachIs (Sd K H) vs ds
  | _, _, _, .nil, .nil => .nil
  | _, _, _, .cons a r, .cons b t => .cons ⟨_, a, b⟩ (sd_of r t)
theorem sd_back {H : Hp} : ∀ {vs : List Value} {ds : List PyData}, EachIs (Sd K H) vs ds → ∃ xs, Vals xs vs ∧ DpAll K H xs ds
  | _, _, .nil => ⟨[], .nil, .nil⟩
  | _, _, .cons ⟨x, a, b⟩ t => let ⟨xs, r, s⟩ := sd_back t; ⟨x :: xs, .cons a r, .cons b s⟩
def sortedD (ds : List PyData) : List PyData := ds.mergeSort (dataLe false id)
def rSortD (K : PySem.W.Frag) : List V → Hp → VK → Prop := fun vs H Q => ∃ (a : Addr) (xs : List V) (ds : List PyData), vs = [V.ref a] ∧ SqL K H a xs ∧ DpAll K H xs ds ∧ AllAlike ds ∧ Sortable ds ∧ (∀ d ∈ ds, d.depth ≤ 60) ∧
  ∀ ys : List V, DpAll K H ys (sortedD ds) → NewO (.lst ys) H Q
theorem sortD_ (h : X.K = K) (hu : X.A.units + 64 < cLine) : CallR X (.builtin "sorted") (rSortD K) := by
  subst h
  intro pins s σ H vs us Q I r h
  obtain ⟨a, xs, ds, rfl, hs, hd, hal, hk, hdep, q⟩ := h
  obtain ⟨its, rv, hl, hz⟩ := I.list hs
  rw [Vals.ref1 r]
  have e := sd_of rv hd
  have er : EachIs (fun v d => ∃ as, Reads s.heap v (id d) as) its ds := e.mono fun v d ⟨x, a, b⟩ => Dp.reads I d x v b a
  have hlen : its.length = ds.length := e.length
  refine sorted_data hl.isList e er (by rw [List.map_id]; exact hal) (by rw [List.map_id]; exact hk) (by rw [← hlen, ← rv.length]; exact hz) (fun d hd => by have := hdep d hd; show X.A.units + 2 + d.depth < cLine; omega) fun out h1 h2 => ?_
  obtain ⟨ys, k1, k2⟩ := sd_back h2
  obtain ⟨ep, he'⟩ := PyProof.Rows.sortedAll_at s.heap its out.toArray
  have hy : ys.length ≤ sizeLine := by rw [k1.length, h1, ← hlen, ← rv.length]; exact hz
  exact ⟨.ref _, upd H (s.heap.objs.size + 1) (.lst ys), I.laid (t' := s.toks) (fun _ _ => PyProof.Rows.sortedAll_old) (Nat.le_succ _) ⟨hy, out, ep, k1, he'⟩, rfl, q ys k2 _ (I.hok.fresh (Nat.le_succ _))⟩
end
theorem i_ordD {K : PySem.W.Frag} {f : PyData → PyData → Bool} {x y : V} {d e : PyData} {H : Hp} {Q : VK} (h1 : Dp K H x d) (h2 : Dp K H y e) (c : Cmp d e) (q : Q (.bl (f d e)) H) : rOrdD K f x y H Q := ⟨d, e, h1, h2, c, q⟩
theorem i_sortD {K : PySem.W.Frag} {a : Addr} {xs : List V} {ds : List PyData} {H : Hp} {Q : VK} (h : SqL K H a xs) (hd : DpAll K H xs ds) (hal : AllAlike ds) (hk : Sortable ds) (hdep : ∀ d ∈ ds, d.depth ≤ 60) (q : ∀ ys : List V, DpAll K H ys (sortedD ds) → NewO (.lst ys) H Q) : rSortD K [.ref a] H Q := ⟨a, xs, ds, rfl, h, hd, hal, hk, hdep, q⟩
theorem lt_II (a b c d : Int) : dataLt (.tuple [.int a, .int b]) (.tuple [.int c, .int d]) = decide (a < c ∨ (a = c ∧ b < d)) := by
  have h := DatumOrd.lt_eq (α := Int × Int) (a, b) (c, d)
  refine h.trans ?_
  show (if a = c then decide (b < d) else decide (a < c)) = _
  by_cases e : a = c
  · rw [if_pos e]; simp [e]
  · rw [if_neg e]; simp [e]
theorem cmp_II (a b c d : Int) : Cmp (.tuple [.int a, .int b]) (.tuple [.int c, .int d]) := ⟨DatumOrd.alike (α := Int × Int) (a, b) (c, d), (fun z => by cases z), by simp [PyData.depth, PyData.depthAll]⟩
/-! ### list.pop(i) -/
theorem i_popAt {P H : Hp} {cs r r0 : List Ch} {a : Addr} {xs : List V} {i : Int} {y : V} {Q : VK} (m : Mem P cs H) (h0 : Sel cs (pt a (.lst xs)) r0) (i0 : 0 ≤ i) (i1 : i < xs.length) (i2 : xs.length ≤ 100000) (hy : xs[i.toNat]? = some y) (u : Upd cs a (.lst xs) (.lst (xs.eraseIdx i.toNat)) r) (q : ∀ H', Mem P r H' → Q y H') : rPopAt (.ref a) [.int i] H Q := by
  refine ⟨a, xs, i, i.toNat, y, rfl, rfl, m.rd h0, by omega, by omega, ?_, hy, q _ (m.put u)⟩
  unfold seqIndex?
  have e : (i.toNat : Int) = i := by omega
  simp
  omega
def ListRg (x : V) (H : Hp) (Q : VK) : Prop := ∃ n, x = .int n ∧ RgOk 0 n ∧ NewO (.lst (rgV 0 n)) H Q
theorem i_listRg {te : TE} {σ : L2.St} {H : Hp} {Q : VK} (h : te σ H fun x H1 => ListRg x H1 Q) : tLstRg (tRg1 te) σ H Q := h
theorem i_listRgAt {n : Int} {H : Hp} {Q : VK} (h0 : 0 ≤ n) (h1 : n ≤ 100000) (q : NewO (.lst (rgV 0 n)) H Q) : ListRg (.int n) H Q := ⟨n, rfl, RgOk.of_le (by omega) (by omega) (by omega) (by omega), q⟩
theorem rgV_ints (n : Int) : rgV 0 n = ((List.range n.toNat).map fun i : Nat => (i : Int)).map V.int := by
  unfold rgV
  rw [List.map_map]
  have e : (n - 0).toNat = n.toNat := by omega
  rw [e]
  refine List.map_congr_left fun i _ => ?_
  simp
/-! ### families -/
theorem sel_mid {A B : List Ch} {c : Ch} : Sel (A ++ c :: B) c (A ++ B) := by
  induction A with
  | nil => exact .z
  | cons d A ih => exact .s ih
theorem fam_sel {α : Type} (f : α → Ch) {cs : List Ch} : ∀ {l : List α} {k : Nat} {x : α}, l[k]? = some x → ∃ r, Sel (l.map f ++ cs) (f x) r ∧ ∀ y, Sel ((l.set k y).map f ++ cs) (f y) r
  | [], k, x, h => by simp at h
  | z :: l, 0, x, h => by
    obtain rfl : z = x := by simpa using h
    exact ⟨l.map f ++ cs, .z, fun y => .z⟩
  | z :: l, k + 1, x, h => by
    obtain ⟨r, h1, h2⟩ := fam_sel f (cs := cs) (l := l) (k := k) (x := x) (by simpa using h)
    exact ⟨f z :: r, .s h1, fun y => .s (h2 y)⟩
/-- a comprehension whose turns make or change pieces -/
theorem l_lcRM {P : Hp} {cs : List Ch} {j : Int} {g : TG} {tt : TT} {te : TE} {vs : List Nat} {σ : L2.St} {H : Hp} {Qd : Addr → Hp → Prop} (h1 : -(2 ^ 62) ≤ j) (h2 : j < 2 ^ 62) (m : Mem P cs H) (R : Nat → List V → List Ch → Hp → Prop) (h0 : R 0 [] cs P)
    (hs : ∀ (i : Nat) P' H' acc D cs', (i : Int) < j → Ex P P' → Mem P' (pt D (.lst acc) :: cs') H' → R i acc cs' P' → ∀ (Kt : VK) (Kf : Hp → Prop),
      (∀ y P4 H4 cs4, Ex P' P4 → Mem P4 (pt D (.lst acc) :: cs4) H4 → acc.length < 100000 → R (i + 1) (acc ++ [y]) cs4 P4 → Kt y H4) → (∀ P4 H4 cs4, Ex P' P4 → Mem P4 (pt D (.lst acc) :: cs4) H4 → R (i + 1) acc cs4 P4 → Kf H4) →
      g (.int (i : Int)) (wipe σ vs) H' fun σ2 H2 => wipe σ2 vs = wipe σ vs ∧ tt σ2 H2 fun b H3 => if b = true then te σ2 H3 Kt else Kf H3)
    (hd : ∀ D P' H' acc cs', Ex P P' → Mem P' (pt D (.lst acc) :: cs') H' → R j.toNat acc cs' P' → Qd D H') :
    ∃ k : Int, [V.int j] = [.int k] ∧ -(2 ^ 62) ≤ k ∧ k < 2 ^ 62 ∧ ∀ D, H D = none → ∃ W : Nat → Nat → Hp → Prop, (∃ m, W 0 m (upd H D (.lst []))) ∧ ∀ i m H, W i m H →
      ((Itr 0 k.toNat).stop i H ∧ Qd D H) ∨ ((Itr 0 k.toNat).go i H ∧ ∃ Nx : Hp → Prop, (∀ H', Nx H' → ∃ m', m' < m ∧ W (i + 1) m' H') ∧ ∀ x H', (Itr 0 k.toNat).yld i H x H' → g x (wipe σ vs) H' fun σ2 H2 => wipe σ2 vs = wipe σ vs ∧ tt σ2 H2 fun b H3 =>
        if b = true then te σ2 H3 fun y H4 => ∃ acc, H4 D = some (.lst acc) ∧ acc.length < sizeLine ∧ Nx (upd H4 D (.lst (acc ++ [y]))) else Nx H3) := by
  refine ⟨j, rfl, h1, h2, fun D hD => ?_⟩
  refine lc_range (lo := 0) (n := j.toNat) (Qd := Qd D) (fun i H' => ∃ P' acc cs', Ex P P' ∧ Mem P' (pt D (.lst acc) :: cs') H' ∧ R i acc cs' P') ⟨P, [], cs, Ex.refl _, m.new hD, h0⟩ (fun i H' hi ⟨P', acc, cs', e, m', r⟩ => ?_) (fun H' ⟨P', acc, cs', e, m', r⟩ => hd D P' H' acc cs' e m' r)
  rw [Int.zero_add]
  exact hs i P' H' acc D cs' (by omega) e m' r _ _ (fun y P4 H4 cs4 e4 m4 l4 r4 => ⟨acc, m4.rd0, sz_lt l4, P4, _, cs4, e.trans e4, m4.put0, r4⟩) (fun P4 H4 cs4 e4 m4 r4 => ⟨P4, acc, cs4, e.trans e4, m4, r4⟩)
theorem l_lcM {K : PySem.W.Frag} {P : Hp} {cs : List Ch} {a : Addr} {xs : List V} {g : TG} {tt : TT} {te : TE} {vs : List Nat} {σ : L2.St} {H : Hp} {Qd : Addr → Hp → Prop} (m : Mem P cs H) (hq : SqL K P a xs) (R : Nat → List V → List Ch → Hp → Prop) (h0 : R 0 [] cs P)
    (hs : ∀ i x P' H' acc D cs', xs[i]? = some x → Ex P P' → Mem P' (pt D (.lst acc) :: cs') H' → R i acc cs' P' → ∀ (Kt : VK) (Kf : Hp → Prop),
      (∀ y P4 H4 cs4, Ex P' P4 → Mem P4 (pt D (.lst acc) :: cs4) H4 → acc.length < 100000 → R (i + 1) (acc ++ [y]) cs4 P4 → Kt y H4) → (∀ P4 H4 cs4, Ex P' P4 → Mem P4 (pt D (.lst acc) :: cs4) H4 → R (i + 1) acc cs4 P4 → Kf H4) →
      g x (wipe σ vs) H' fun σ2 H2 => wipe σ2 vs = wipe σ vs ∧ tt σ2 H2 fun b H3 => if b = true then te σ2 H3 Kt else Kf H3)
    (hd : ∀ D P' H' acc cs', Ex P P' → Mem P' (pt D (.lst acc) :: cs') H' → R xs.length acc cs' P' → Qd D H') :
    ∃ b, V.ref a = .ref b ∧ (∃ xs, SqL K H b xs) ∧ ∀ D, H D = none → ∃ W : Nat → Nat → Hp → Prop, (∃ m, W 0 m (upd H D (.lst []))) ∧ ∀ i m H, W i m H →
      ((Itl K b).stop i H ∧ Qd D H) ∨ ((Itl K b).go i H ∧ ∃ Nx : Hp → Prop, (∀ H', Nx H' → ∃ m', m' < m ∧ W (i + 1) m' H') ∧ ∀ x H', (Itl K b).yld i H x H' → g x (wipe σ vs) H' fun σ2 H2 => wipe σ2 vs = wipe σ vs ∧ tt σ2 H2 fun b H3 =>
        if b = true then te σ2 H3 fun y H4 => ∃ acc, H4 D = some (.lst acc) ∧ acc.length < sizeLine ∧ Nx (upd H4 D (.lst (acc ++ [y]))) else Nx H3) := by
  refine ⟨a, rfl, ⟨xs, ex_l m.ex hq⟩, fun D hD => ?_⟩
  refine lc_list (K := K) (a := a) (xs := xs) (Qd := Qd D) (fun i H' => ∃ P' acc cs', Ex P P' ∧ Mem P' (pt D (.lst acc) :: cs') H' ∧ R i acc cs' P') ⟨P, [], cs, Ex.refl _, m.new hD, h0⟩ (fun i H' _ ⟨P', acc, cs', e, m', _⟩ => ex_l (e.trans m'.ex) hq) (fun i x H' hx ⟨P', acc, cs', e, m', r⟩ => ?_) (fun H' ⟨P', acc, cs', e, m', r⟩ => hd D P' H' acc cs' e m' r)
  exact hs i x P' H' acc D cs' hx e m' r _ _ (fun y P4 H4 cs4 e4 m4 l4 r4 => ⟨acc, m4.rd0, sz_lt l4, P4, _, cs4, e.trans e4, m4.put0, r4⟩) (fun P4 H4 cs4 e4 m4 r4 => ⟨P4, acc, cs4, e.trans e4, m4, r4⟩)
end FS

set_option Elab.async false
set_option maxRecDepth 100000
set_option linter.all false
/-! FsView: x in d.values(). -/
namespace FS
open PySem PySem.Spec PyProof.Rows L2 Evl LamX PySem.W MeetsSeq
theorem plain_ci : plainId "proto.contains_iter" = true := by decide +kernel
theorem entry_ci : entryFor table "proto.contains_iter" = some Builtin.«proto.contains_iter» := entryFor_of_fast (by kernel_rfl)
theorem no_contains_values : typeLookup (.type "dict_values") "__contains__" = pure none := by rw [typeLookup_type, builtinLookup_eq_fast]; kernel_rfl
section
variable {prog : Program} {w : World} {A : Around} {R : Result → Shared → Prop} {I : Addr} {fp wr : List Addr} {n : Nat} {P : Nat → Value → Prop} {St : Nat → Heap → Prop}
theorem in_loop (W : Walks prog w A.in1 I fp wr n P St) {x : Value} (e : Nat → Bool) (he : ∀ i v, P i v → EqGives v x (e i)) :
    ∀ (k j : Nat) (s : Shared), n - j = k → j ≤ n → St j s.heap → (∀ b h' tk, (b = true ↔ ∃ i, j ≤ i ∧ i < n ∧ e i = true) → (∀ a o, a ∉ wr → s.heap.get? a = some o → h'.get? a = some o) → R (.ok (.ret (.bool b))) { s with heap := h', toks := tk }) →
      codeAny (model prog w) A (.builtin "proto.contains_iter" ⟨[.ref I, x], []⟩) R s := by
  intro k
  induction k with
  | zero =>
    intro j s hk hj hst hR
    have hjn : j = n := by omega
    refine codeAny_builtin entry_ci ?_
    rw [Around.under_plainId plain_ci _]
    show wpAny _ A.in1 (pyNext (.ref I) >>= _) _ _ s
    refine wpAny_bind (W.done s _ _ (hjn ▸ hst) fun h' tk hk' => ?_)
    refine wpAny_bind (wpAny_rule ?_)
    exact wpAny_pure (hR false h' tk ⟨fun z => (Bool.false_ne_true z).elim, fun ⟨i, h1, h2, _⟩ => by omega⟩ hk')
  | succ k ih =>
    intro j s hk hj hst hR
    have hlt : j < n := by omega
    refine codeAny_builtin entry_ci ?_
    rw [Around.under_plainId plain_ci _]
    show wpAny _ A.in1 (pyNext (.ref I) >>= _) _ _ s
    refine wpAny_bind (W.item j s _ _ hlt hst fun v h' tk hP hst' hk' => ?_)
    refine wpAny_bind (he j v hP _ _ _ _ _ _ ?_)
    cases hb : e j with
    | true =>
      simp only [if_true]
      refine wpAny_bind (wpAny_rule ?_)
      exact wpAny_pure (hR true h' tk ⟨fun _ => ⟨j, Nat.le_refl _, hlt, hb⟩, fun _ => rfl⟩ hk')
    | false =>
      simp only [Bool.false_eq_true, if_false]
      refine wpAny_pure ⟨plainId_quiet plain_ci _, ih (j + 1) _ (by omega) hlt hst' fun b h'' tk'' hb2 hk'' => ?_⟩
      refine hR b h'' tk'' (hb2.trans ⟨fun ⟨i, h1, h2, h3⟩ => ⟨i, by omega, h2, h3⟩, fun ⟨i, h1, h2, h3⟩ => ?_⟩) fun a o ha eo => hk'' a o ha (hk' a o ha eo)
      refine ⟨i, ?_, h2, h3⟩
      rcases Nat.eq_or_lt_of_le h1 with rfl | h
      · rw [hb] at h3; cases h3
      · exact h
theorem in_view {s : Shared} {E : Value → Shared → Prop} {x : Value} {d : Addr} {OK : Heap → Prop} {r : Addr} {e : Nat → Bool} {Q : Value → Shared → Prop} (K : KdlSrc prog w "dict_values" r d n P OK) (hh : A.handled = none) (hok : OK s.heap) (he : ∀ i v, P i v → EqGives v x (e i))
    (h : ∀ b h' tk, (b = true ↔ ∃ i, i < n ∧ e i = true) → (∀ a o, s.heap.get? a = some o → h'.get? a = some o) → Q (.bool b) { s with heap := h', toks := tk }) :
    wpAny (model prog w) A (compareOp .In x (.ref r)) Q E s := by
  show wpAny _ _ (do return .bool (← contains (.ref r) x)) Q E s
  have hT := K.type s hok
  refine wpAny_bind ?_
  unfold contains
  refine wpAny_holding ?_
  rw [stdlibNamesSay?_of_typeIs hT]
  refine wpAny_bind (wpAny_specialOf hT no_contains_values ?_)
  show wpAny _ A (if (none == some Value.none) = true then _ else _) _ E s
  rw [if_neg (by simp)]
  refine wpAny_bind (wpAny_callSpecialUnlessNone?_none hT no_contains_values ?_)
  refine wpAny_bind (wpAny_rule ?_)
  obtain ⟨oI, St, h1, W, h0⟩ := K.iter A.in1 s hh hok
  refine wpAny_bind (wpAny_tryCatch (wpAny_of_in1 (h1 _ _ ?_)))
  refine wpAny_bind (wpAny_runValue (in_loop W e he _ 0 _ rfl (Nat.zero_le _) h0 fun b h' tk hb hk => ?_))
  refine wpAny_pure (wpAny_pure (h b h' tk (hb.trans ⟨fun ⟨i, _, h2, h3⟩ => ⟨i, h2, h3⟩, fun ⟨i, h2, h3⟩ => ⟨i, Nat.zero_le _, h2, h3⟩⟩) fun a o e => ?_))
  refine hk a o (fun z => ?_) (Heap.get?_push_of_some _ e)
  have h2 := Heap.lt_size e
  rw [List.mem_singleton] at z
  rw [z] at h2
  exact Nat.lt_irrefl _ h2
end
section
variable {X : Cx} {K : PySem.W.Frag}
/-- d.values(): a view -/
def valsO (p d : Addr) : HO := .ext fun h => h.IsValuesView p d
theorem valsO_ok {P : Program} {w : World} {H : Hp} {h : Heap} {p d : Addr} (e : h.get? p = some { cls := .type "dict_values", data := .fields #[.ref d] }) : ObjOk P w H h p (valsO p d) :=
  ⟨⟨_, e, rfl, rfl⟩, ⟨_, e⟩, fun h1 h2 x k => let ⟨o, ho, r⟩ := x; ⟨o, k o ho, r⟩⟩
def rValuesK : V → List V → Hp → VK → Prop := fun x xs H Q => ∃ (a : Addr) (kvs : List (Key × V)), x = .ref a ∧ xs = [] ∧ H a = some (.dK kvs) ∧ NewO (valsO 0 0) H Q
/-- k in d.values(), whole numbers -/
def InVals (x y : V) (H : Hp) (Q : VK) : Prop := ∃ (k : Int) (d : Addr) (kvs : List (Key × V)) (ns : List Int), x = .int k ∧ y = .ref d ∧ H d = some (.dK kvs) ∧ kvs.map (·.2) = ns.map V.int ∧ Q (.bl (decide (k ∈ ns))) H
def tInVals (ta td : TE) : TE := fun σ H Q => ta σ H fun x H1 => td σ H1 fun y H2 => InVals x y H2 Q
theorem kv_valsI {κ : Type} {kvs : List (κ × V)} {vs : List (κ × Value)} {ns : List Int} (r : KV kvs vs) (h : kvs.map (·.2) = ns.map V.int) : ∀ (i : Nat) (v : Value), (∃ k, vs[i]? = some (k, v)) → ∃ n t, ns[i]? = some n ∧ v = .int n t := by
  unfold KV at r
  induction r generalizing ns with
  | nil => intro i v ⟨k, e⟩; simp at e
  | @cons p q ps qs a t ih =>
    cases ns with
    | nil => simp at h
    | cons n ns =>
      rw [List.map_cons, List.map_cons] at h
      injection h with h1 h2
      intro i v ⟨k, e⟩
      cases i with
      | zero =>
        have e1 : q = (k, v) := by simpa using e
        have a2 := a.2
        rw [h1, e1] at a2
        obtain ⟨tk, ev⟩ := a2
        exact ⟨n, tk, rfl, ev⟩
      | succ i => exact ih h2 i v ⟨k, by simpa using e⟩
theorem pc_inVals {a e : Expr} {ta td : TE} {apos cpos : Pos} (hc : X.calm = true) (ha : PE X a ta) (he : PE X e td)
    (hbase : attributeBase e "values" X.env (eval e X.env) = eval e X.env := by rfl) (hline : (apos.endLine == cpos.line) = true := by rfl) :
    PC X .In a (.Call (.Attribute e "values" apos) [] [] cpos) (tInVals ta td) := by
  refine ⟨fun pins s0 σ H0 Q I0 hq => ?_⟩
  refine thn (ha.run pins s0 σ H0 _ I0 hq) fun v s ⟨y, H, I, ry, hq⟩ => ?_
  refine wpAny_Call_method (T := "dict") (id := "dict.values") hbase rfl hline F.plainAttrs_dict F.slot_dict_values F.type_dict_values (thn (he.run pins s σ H _ I hq) fun u s1 ⟨x, H1, I1, rx, k, d, kvs, ns, ey, ex, hd, hns, q⟩ => ?_)
  subst ex
  subst ey
  obtain rfl : u = Value.ref d := rx
  obtain ⟨tk, rfl⟩ := ry
  obtain ⟨hz, hs0, vs, kv, hdo⟩ := I1.hok d _ hd
  obtain ⟨ep, hat⟩ := hdo.dictAt
  have lk : kvs.length = vs.length := Paired.length kv
  have lns : kvs.length = ns.length := by have := congrArg List.length hns; simpa using this
  refine ⟨hdo.typeIs, hdo.mapOf.noDict, ?_⟩
  show wpAny _ _ (callWith cpos (.builtin "dict.values") [.ref d] [] []) _ X.xe s1
  refine method_meetsIn F.slot_dict_values F.entry_dict_values rfl (PySem.evalArgs_none ⟨rfl, hdo.typeIs, F.args_dict_values_1 _, _, meets_dict_values (mixKind X.prog X.w) d hs0, ⟨vs, hdo⟩, ?_⟩)
  refine in_view (e := fun i => decide (ns[i]? = some k)) (PySem.W.kdl_values (knd := mixKind X.prog X.w) (kvs := vs) (ep := ep) (r := s1.heap.objs.size) (d := d)) (I1.ok.hd hc) ⟨⟨_, Heap.get?_push_size _ rfl, rfl, rfl⟩, hat.push _⟩ (fun i v hv => ?_) fun b h' t' hb hk => ?_
  · obtain ⟨n, t, hn, rfl⟩ := kv_valsI kv hns i v hv
    rw [hn]
    have e1 : decide (some n = some k) = (n == k) := by
      by_cases z : n = k
      · simp [z]
      · simp [z]
    rw [e1]
    exact EqGives.int n k t tk
  · have eb : b = decide (k ∈ ns) := by
      have hm : (∃ i, i < vs.length ∧ decide (ns[i]? = some k) = true) ↔ k ∈ ns := by
        constructor
        · rintro ⟨i, _, h⟩; exact List.mem_of_getElem? (of_decide_eq_true h)
        · intro h
          obtain ⟨i, hi, e⟩ := List.mem_iff_getElem.mp h
          exact ⟨i, by omega, decide_eq_true (by rw [List.getElem?_eq_getElem hi, e])⟩
      cases b with
      | true => exact (decide_eq_true (hm.mp (hb.mp rfl))).symm
      | false =>
        refine (decide_eq_false fun z => ?_).symm
        exact Bool.false_ne_true (hb.mpr (hm.mpr z))
    subst eb
    exact ⟨.bl _, H1, I1.kept fun b o e => hk b o (Heap.get?_push_of_some _ e), rfl, q⟩
end
theorem i_inVals {ta td : TE} {σ : L2.St} {H : Hp} {Q : VK} (h : ta σ H fun x H1 => td σ H1 fun y H2 => InVals x y H2 Q) : tInVals ta td σ H Q := h
theorem i_inValsAt {P H : Hp} {cs r : List Ch} {k : Int} {d : Addr} {kvs : List (Key × V)} {ns : List Int} {Q : VK} (m : Mem P cs H) (s : Sel cs (pt d (.dK kvs)) r) (h : kvs.map (·.2) = ns.map V.int) (q : Q (.bl (decide (k ∈ ns))) H) : InVals (.int k) (.ref d) H Q := ⟨k, d, kvs, ns, rfl, rfl, m.rd s, h, q⟩
end FS

set_option Elab.async false
set_option maxRecDepth 100000
set_option linter.all false
/-! FsMaxV: max(d.values(), key=lambda x: (x[0], len(x[1]))). -/
namespace FS
open PySem PySem.Spec PyProof.Rows L2 Evl LamX
theorem kv_get {κ : Type} {kvs : List (κ × V)} {vs : List (κ × Value)} (r : KV kvs vs) {i : Nat} {v : Value} (h : ∃ k, vs[i]? = some (k, v)) : ∃ y, (kvs.map (·.2))[i]? = some y ∧ RelV y v := by
  unfold KV at r
  obtain ⟨k, h⟩ := h
  induction r generalizing i with
  | nil => simp at h
  | @cons p q ps qs a t ih =>
    cases i with
    | zero =>
      have e1 : q = (k, v) := by simpa using h
      refine ⟨p.2, rfl, ?_⟩
      have a2 := a.2
      rw [e1] at a2
      exact a2
    | succ i => exact ih (i := i) (by simpa using h)
def rValsK : V → List V → Hp → VK → Prop := fun x xs H Q => ∃ (a : Addr) (kvs : List (Key × V)), x = .ref a ∧ xs = [] ∧ H a = some (.dK kvs) ∧ ∀ p, H p = none → Q (.ref p) (upd H p (valsO p a))
theorem mt_vals {X : Cx} : MtR X "dict.values" rValsK := by
  intro pins s σ H x xs v us Q I rx rxs h
  obtain ⟨a, kvs, rfl, rfl, ha, q⟩ := h
  cases rx
  cases rxs
  obtain ⟨hz, hs0, vs, kv, hdo⟩ := I.hok a _ ha
  refine call_meetsIn F.slot_dict_values hdo.typeIs F.entry_dict_values (F.args_dict_values_1 _) (meets_dict_values (mixKind X.prog X.w) a hs0) ⟨⟨vs, hdo⟩, ?_⟩
  have hf : H s.heap.objs.size = none := I.hok.fresh (Nat.le_refl _)
  exact ⟨.ref s.heap.objs.size, upd H s.heap.objs.size (valsO s.heap.objs.size a), I.laid (t' := s.toks) (fun b u e => Heap.get?_push_of_some _ e) (Nat.le_refl _) (valsO_ok (Heap.get?_push_size _ rfl)), rfl, q _ hf⟩
theorem max_runV {κ : Type} [DecidableEq κ] {p : Program} {w : World} {knd : KeyKind p w κ} {d : Addr} {kvs : List (κ × Value)} {ep : Nat} {A : Around} {s : Shared} {a f : Addr} {key : Nat → Int × Int} {Q : Value → Shared → Prop} {E : Value → Shared → Prop} (hh : A.handled = none) (hu : A.units + 64 < cLine) (hv : s.heap.IsValuesView a d) (hm : s.heap.DictAt knd d kvs ep) (hn : 0 < kvs.length)
    (turn : ∀ (i : Nat) (v : Value), (∃ k, kvs[i]? = some (k, v)) → ∀ (h : Heap) (tk : Nat), (∀ b o, s.heap.get? b = some o → h.get? b = some o) → ∀ (Q : Value → Shared → Prop) (E : Value → Shared → Prop),
      (∀ u h₁ h' tk', (∀ b o, h.get? b = some o → h₁.get? b = some o) → (∀ b o, h₁.get? b = some o → h'.get? b = some o) → TupII h₁ h' u (key i).1 (key i).2 → Q u { s with heap := h', toks := tk' }) → wpAny (model p w) A.in1 (call (.ref f) [v]) Q E { s with heap := h, toks := tk })
    (hq : ∀ v h' tk, (∀ b o, s.heap.get? b = some o → h'.get? b = some o) → (∃ k, kvs[argBest (fun i j => ltII (key j) (key i)) (kvs.length - 1)]? = some (k, v)) → Q v { s with heap := h', toks := tk }) :
    wpAny (model p w) A (call (.builtin "max") [.ref a] [(Str.ofString "key", .ref f)]) Q E s := by
  refine PySem.call_max_walkK (wpAny_pyIter_values hv hm ?_)
  have W := (Walks.dictValues (prog := p) (w := w) (knd := knd) (A := A.in1) hh s.heap.objs.size d (Nat.ne_of_lt hm.lt_size) kvs ep).toS
  have kp : ∀ b o, s.heap.get? b = some o → (s.heap.push { cls := .type "dict_valueiterator", data := .fields #[.ref d, .int 0 0, .int kvs.length 0, .int ep 0] }).get? b = some o := fun b o e => Heap.get?_push_of_some _ e
  have hfp : ∀ b ∈ [s.heap.objs.size, d], b < (s.heap.push { cls := .type "dict_valueiterator", data := .fields #[.ref d, .int 0 0, .int kvs.length 0, .int ep 0] }).objs.size := fun b hb => by
    rw [Heap.size_push]
    rcases List.mem_cons.mp hb with rfl | hb
    · exact Nat.lt_succ_self _
    · rw [List.mem_singleton] at hb
      rw [hb]
      exact Nat.lt_succ_of_lt hm.lt_size
  refine ⟨_, _, _, _, _, _, _, (fun s' => ∃ h' tk, s' = { s with heap := h', toks := tk } ∧ ∀ b o, s.heap.get? b = some o → h'.get? b = some o),
    (fun i u s' => ∃ (t : Addr) (ti tj : Tok), u = .ref t ∧ t ≠ (s.heap.push { cls := .type "dict_valueiterator", data := .fields #[.ref d, .int 0 0, .int kvs.length 0, .int ep 0] }).objs.size ∧ t ≠ s.heap.objs.size ∧ s'.heap.get? t = some { cls := .type "tuple", data := .seq #[.int (key i).1 ti, .int (key i).2 tj] }),
    (fun i j => ltII (key j) (key i)), rfl, W, ⟨⟨_, Heap.get?_push_size _ rfl, rfl, rfl⟩, hm.push _⟩, hfp, hn, ?_, ⟨_, _, rfl, kp⟩, ?_⟩
  · refine ⟨?_, ?_, ?_, ?_⟩
    · rintro s1 s' ⟨h1, tk, rfl, k⟩ ⟨m1, m2, m3, m4, m5⟩
      obtain ⟨h', g', d', t', o'⟩ := s'
      cases m2; cases m3; cases m4
      refine ⟨h', t', rfl, fun b o e => m1 b o (fun z => ?_) (k b o e)⟩
      have hb := Heap.lt_size e
      rcases List.mem_cons.mp z with z | z
      · have z2 : b = s.heap.objs.size + 1 := z.trans (Heap.size_push ..)
        exact absurd hb (by rw [z2]; exact Nat.not_lt.mpr (Nat.le_succ _))
      · have z2 : b = s.heap.objs.size := List.mem_singleton.mp z
        exact absurd hb (by rw [z2]; exact Nat.lt_irrefl _)
    · rintro i u s1 s' ⟨t, ti, tj, rfl, n1, n2, e⟩ ⟨m1, _⟩
      refine ⟨t, ti, tj, rfl, n1, n2, m1 _ _ (fun z => ?_) e⟩
      rcases List.mem_cons.mp z with z | z
      · exact n1 z
      · exact n2 (List.mem_singleton.mp z)
    · rintro i v s1 o Q' E' hi hvi ⟨h1, tk, rfl, k⟩ st hS q
      refine turn i v hvi h1 tk k Q' E' fun u h₁ h' tk' k1 k2 r => ?_
      obtain ⟨t, ti, tj, rfl, fr, e⟩ := r
      have n1 : t ≠ (s.heap.push { cls := .type "dict_valueiterator", data := .fields #[.ref d, .int 0 0, .int kvs.length 0, .int ep 0] }).objs.size := fun z => by
        rw [z, k1 _ _ hS] at fr; cases fr
      have n2 : t ≠ s.heap.objs.size := fun z => by
        obtain ⟨⟨oi, ho, _⟩, _⟩ := st
        rw [z, k1 _ _ ho] at fr; cases fr
      have kk : ∀ b o, h1.get? b = some o → h'.get? b = some o := fun b o z => k2 b o (k1 b o z)
      refine q _ _ ⟨h', tk', rfl, fun b o z => kk b o (k b o z)⟩ ⟨?_, ?_⟩ (kk _ _ hS) ⟨t, ti, tj, rfl, n1, n2, e⟩ ?_
      · obtain ⟨⟨oi, ho, hr⟩, _⟩ := st
        exact ⟨oi, kk _ _ ho, hr⟩
      · exact st.2.at' fun o e => kk _ _ e
      · rintro j u' ⟨t2, a2, b2, rfl, c1, c2, e3⟩
        exact ⟨t2, a2, b2, rfl, c1, c2, kk _ _ e3⟩
    · rintro i j ki kj s1 Q' E' hJ ⟨t, ti, tj, rfl, _, _, e⟩ ⟨t2, ti2, tj2, rfl, _, _, e2⟩ q
      have r1 : Reads s1.heap (.ref t) (.tuple [.int (key i).1, .int (key i).2]) [] := .tuple e rfl rfl (.cons (.int _ _) (.cons (.int _ _) .nil))
      have r2 : Reads s1.heap (.ref t2) (.tuple [.int (key j).1, .int (key j).2]) [] := .tuple e2 rfl rfl (.cons (.int _ _) (.cons (.int _ _) .nil))
      refine PySem.W.rcGt_alike _ _ A.in1 s1 _ _ _ _ r1 r2 (by simp [PySem.W.alike, PySem.W.alikeAll]) (by intro z; cases z) ?_ p w E' Q' ?_
      · have hd : (PyData.tuple [.int (key i).1, .int (key i).2]).depth = 1 := by simp [PyData.depth, PyData.depthAll]
        have := Nat.min_le_left (PyData.tuple [.int (key i).1, .int (key i).2]).depth (PyData.tuple [.int (key j).1, .int (key j).2]).depth
        rw [hd] at this
        have h1 : A.in1.units ≤ A.units + 1 := Nat.le_refl _
        omega
      · rw [PySem.W.dataLt_ii]
        exact q
  · rintro v s' hv ⟨h', tk, rfl, k⟩
    exact hq v h' tk k hv
def MaxVAt (K : PySem.W.Frag) (v : V) (H2 : Hp) (Q : VK) : Prop := ∃ (a d : Addr) (kvs : List (Key × V)) (key : Nat → Int × Int), v = .ref a ∧ H2 a = some (valsO a d) ∧ H2 d = some (.dK kvs) ∧ 0 < kvs.length ∧
  (∀ i x, (kvs.map (·.2))[i]? = some x → KeyPL K H2 x (key i)) ∧ ∀ x, (kvs.map (·.2))[argBest (fun i j => ltII (key j) (key i)) (kvs.length - 1)]? = some x → Q x H2
def tMaxPLV (K : PySem.W.Frag) (Pt : Addr) (q : Str) (te : TE) : TE := fun σ H Q => te σ H fun v H1 => TabS H1 Pt q ∧ ∀ H2, Grow Pt q H1 H2 → MaxVAt K v H2 Q
theorem pe_maxPLV {X : Cx} {c Pt : Addr} {q x : Str} {n : Nat} {e : Expr} {te : TE} {params : Arguments} {scope : Scope} {k0 k1 : Nat} {x1} {p1 p2 p3 p4 p5 p6 p7 p8 p9 p10 lpos kpos pos : Pos} (hr : Room n X.A) (he : PE X e te)
    (TB : TabB X.base X.mg c Pt) (hcode : X.env.code = .ref c) (hq : X.env.qual ++ "<lambda>" = q) (hg : Gl X "max") (hm : X.mg "max" = none) (hml : X.mg "len" = none) (hdef : defaultsOf params X.env = ([], [])) (L : LamOk scope x) (hcl : cloFrom X.env.cells scope.names [] = [])
    (hlen : ∀ L f c', (lenv q scope L f c').kindOf "len" = some .globalImplicit) (hx : ∀ L f c', (lenv q scope L f c').kindOf x = some .local) (hd : (x == ("__debug__" : Str)) = false)
    (hbind : ∀ pm cv ctv v, bindArgs (PySem.W.kla_fn "<lambda>" q params (plBody x k0 k1 x1 p2 p3 p4 p5 p6 p7 p8 p9 p10) scope [] pm cv ctv) ⟨[v], []⟩ = pure [(x, v)])
    (hst : backTo pos (starEach [e] X.env) = (false, eval e X.env) :: backTo pos (starEach [] X.env) := by rfl) (hst0 : starEach [e] X.env = (false, eval e X.env) :: starEach [] X.env := by rfl) (hpl : (backTo pos (starEach [e] X.env)).any (·.1) = false := by rfl) :
    PE X (.Call (.Name "max" p1) [e] [⟨some "key", .Lambda params (plBody x k0 k1 x1 p2 p3 p4 p5 p6 p7 p8 p9 p10) scope lpos, kpos⟩] pos) (tMaxPLV X.K Pt q te) := by
  refine ⟨fun pins s σ H Q I h => ?_⟩
  refine wpAny_Call_Name_kw (ld_blt I hg hm (show bootBuiltins "max" = some (.builtin "max") from rfl) ?_ (by decide) rfl)
  refine PyProof.Rows.callWith_kw (thn (((pa_cons he pa_nil hst0 : PA X [e] _)).run pos pins s σ H (fun vs H1 => match vs with
    | [v] => TabS H1 Pt q ∧ ∀ H2, Grow Pt q H1 H2 → MaxVAt X.K v H2 Q
    | _ => False) I h) fun us s1 ⟨vs, H1, I1, r1, q1⟩ => ?_) hst hpl rfl rfl
  obtain ⟨v, rfl, hT, q2⟩ : ∃ v, vs = [v] ∧ TabS H1 Pt q ∧ ∀ H2, Grow Pt q H1 H2 → MaxVAt X.K v H2 Q := by
    match vs, q1 with
    | [v], z => exact ⟨v, rfl, z⟩
  clear q1
  obtain ⟨u, rfl, ru⟩ := vals1 r1
  show wpAny _ _ (evalAll ((do let v ← eval (.Lambda params (plBody x k0 k1 x1 p2 p3 p4 p5 p6 p7 p8 p9 p10) scope lpos) X.env; standAt pos; pure v) :: [])) _ _ s1
  refine wpAny_evalAll_cons (wpAny_bind (lam_new I1 TB hcode hq hT hdef L.nofree hcl fun f c' pm ctv H2 s2 I2 gr hf hcd => wpAny_bind (wpAny_standAt (wpAny_pure (wpAny_evalAll_nil ?_)))))
  obtain ⟨a, d, kvs, key, rfl, hp, hdk, hn, hkey, q3⟩ := q2 H2 gr
  obtain rfl : u = Value.ref a := ru
  have view : s2.heap.IsValuesView a d := (show ObjOk X.prog X.w H2 s2.heap a (valsO a d) from I2.hok a _ hp).1
  obtain ⟨hz, hs0, vs, kv, hdo⟩ := I2.hok d _ hdk
  obtain ⟨ep, hat⟩ := hdo.dictAt
  have hlv : kvs.length = vs.length := Paired.length kv
  obtain ⟨mb, b1, b2⟩ := I2.mod.blt
  show wpAny _ _ (call (.builtin "max") [.ref a] [(Str.ofString "key", .ref f)]) _ _ s2
  refine max_runV (key := key) hr.hd hr.units view hat (by rw [← hlv]; exact hn) (fun i v hv h tk kp Q' E' hq' => ?_) (fun v h' tk kp hv => ?_)
  · obtain ⟨y, hy, ry⟩ := kv_get kv hv
    obtain ⟨t, r, rows, rfl, h1, h2, e2⟩ := hkey i y hy
    obtain rfl : v = Value.ref t := ry
    obtain ⟨ts, rt, pt, zt⟩ := I2.tuple h1
    obtain ⟨rs, rr, pr, zr⟩ := I2.tuple h2
    obtain ⟨v1, v2, rfl, ⟨t1, rfl⟩, rv2⟩ := vals2 rt
    obtain rfl : v2 = Value.ref r := rv2
    have hlr := rr.length
    have hz62 : rs.toArray.size < 2 ^ 62 := by
      rw [List.size_toArray, ← hlr]
      rw [sizeLine_eq] at zr
      omega
    refine lam_call (x := x) (R := fun h₁ h' u => TupII h₁ h' u (key i).1 (key i).2) L hr.depth (kp _ _ hf) ?_ ?_ (hbind _ _ _ _) (fun h₁ kq hns => ?_) fun u h₁ h' tk' kq kr r => hq' u h₁ h' tk' kq kr r
    · obtain ⟨c2, oc, ws, tt, a1, a2, a3, a4⟩ := hcd
      exact ⟨c2, oc, ws, tt, a1, kp _ _ a2, a3, a4⟩
    · exact I2.nolimit.keeps kp
    · have kk : ∀ b o, s2.heap.get? b = some o → h₁.get? b = some o := fun b o z => kq b o (kp b o z)
      have pt' : IsTup h₁ t _ := pt.keeps kk
      have pr' : IsTup h₁ r _ := pr.keeps kk
      have var : ∀ AA pz, Evc X.prog X.w AA (lenv q scope h.objs.size f c') h₁ (.Name x pz) (fun _ u => u = .ref t) := fun AA pz => evc_var (m := fun y => [(x, Value.ref t)].reverse.lookup y) L.kind (hx _ _ _) hns (by simp) hd
      refine evc_tup2 ?_ ?_
      · intro s Q E k q
        refine evc_sub (pos := p4) (y := .int (key i).1 t1) (j := 0) pt' (var _ p2) (evc_int (i := 0) (k := k0) (pos := p3)) (fun _ _ => rfl) (by simp) (by simp) (by simp) s Q E k fun u h' tk kk r => q u h' tk kk ⟨t1, r⟩
      · have e3 : (key i).2 = (rs.toArray.size : Int) := by rw [List.size_toArray, ← hlr]; exact e2
        rw [e3]
        exact evc_len (x := "len") (px := p5) (pos := p9) pr' hz62 L.kind (hlen _ _ _) ((I2.mod.glob.keeps I2.bk).keeps kk) hml ((b1.keeps I2.bk).keeps kk) ((b2 _ (by decide)).trans rfl)
          (evc_sub (pos := p8) (y := .ref r) (j := 1) pt' (var _ p6) (evc_int (i := 1) (k := k1) (pos := p7)) (fun _ _ => rfl) (by simp) (by simp) (by simp)) rfl
  · rw [← hlv] at hv
    obtain ⟨y, hy, ry⟩ := kv_get kv hv
    exact ⟨y, H2, I2.kept kp, ry, q3 y hy⟩
section
variable {X : Cx} {K : PySem.W.Frag}
theorem maxPLV {c Pt : Addr} {q x : Str} {n : Nat} {e : Expr} {te : TE} {params : Arguments} {scope : Scope} {k0 k1 : Nat} {x1 : Nat} {p1 p2 p3 p4 p5 p6 p7 p8 p9 p10 lpos kpos pos : Pos} (h : X.K = K) (hr : Room n X.A) (he : PE X e te)
    (TB : TabB X.base X.mg c Pt) (hcode : X.env.code = .ref c) (hq : X.env.qual ++ "<lambda>" = q) (hg : Gl X "max") (hm : X.mg "max" = none) (hml : X.mg "len" = none) (hdef : defaultsOf params X.env = ([], [])) (L : LamOk scope x) (hcl : cloFrom X.env.cells scope.names [] = [])
    (hlen : ∀ L f c', (lenv q scope L f c').kindOf "len" = some .globalImplicit) (hx : ∀ L f c', (lenv q scope L f c').kindOf x = some .local) (hd : (x == ("__debug__" : Str)) = false)
    (hbind : ∀ pm cv ctv v, bindArgs (PySem.W.kla_fn "<lambda>" q params (plBody x k0 k1 x1 p2 p3 p4 p5 p6 p7 p8 p9 p10) scope [] pm cv ctv) ⟨[v], []⟩ = pure [(x, v)])
    (hst : backTo pos (starEach [e] X.env) = (false, eval e X.env) :: backTo pos (starEach [] X.env) := by rfl) (hst0 : starEach [e] X.env = (false, eval e X.env) :: starEach [] X.env := by rfl) (hpl : (backTo pos (starEach [e] X.env)).any (·.1) = false := by rfl) :
    PE X (.Call (.Name "max" p1) [e] [⟨some "key", .Lambda params (plBody x k0 k1 x1 p2 p3 p4 p5 p6 p7 p8 p9 p10) scope lpos, kpos⟩] pos) (tMaxPLV K Pt q te) := by
  subst h; exact pe_maxPLV hr he TB hcode hq hg hm hml hdef L hcl hlen hx hd hbind hst hst0 hpl
end
def MaxVT (K : PySem.W.Frag) (Pt : Addr) (q : Str) (v : V) (H1 : Hp) (Q : VK) : Prop := TabS H1 Pt q ∧ ∀ H2, Grow Pt q H1 H2 → MaxVAt K v H2 Q
theorem i_maxPLV {K : PySem.W.Frag} {Pt : Addr} {q : Str} {te : TE} {σ : L2.St} {H : Hp} {Q : VK} (h : te σ H fun v H1 => MaxVT K Pt q v H1 Q) : tMaxPLV K Pt q te σ H Q := h
theorem i_maxVT {K : PySem.W.Frag} {P H : Hp} {cs r1 r2 : List Ch} {Pt p d : Addr} {q : Str} {kvs : List (Key × V)} {key : Nat → Int × Int} {Q : VK} (m : Mem P (tabP Pt q :: cs) H) (s1 : Sel cs (pt p (valsO p d)) r1) (s2 : Sel cs (pt d (.dK kvs)) r2) (hn : 0 < kvs.length)
    (hk : ∀ i x, (kvs.map (·.2))[i]? = some x → KeyPL K P x (key i)) (k : ∀ P' H' x, Ex P P' → Mem P' (tabP Pt q :: cs) H' → (kvs.map (·.2))[argBest (fun i j => ltII (key j) (key i)) (kvs.length - 1)]? = some x → Q x H') : MaxVT K Pt q (.ref p) H Q := by
  refine ⟨m.tabS, fun H2 g => ?_⟩
  obtain ⟨P', e, m'⟩ := m.grow g
  exact ⟨p, d, kvs, key, rfl, m'.rd (.s s1), m'.rd (.s s2), hn, fun i x z => keyPL_up (hk i x z) (e.trans m'.ex), fun x z => k P' H2 x e m' z⟩
theorem i_valsK {P H : Hp} {cs r : List Ch} {a : Addr} {kvs : List (Key × V)} {Q : VK} (m : Mem P cs H) (s : Sel cs (pt a (.dK kvs)) r) (k : ∀ p H', Mem P (pt p (valsO p a) :: cs) H' → Q (.ref p) H') : rValsK (.ref a) [] H Q :=
  ⟨a, kvs, rfl, rfl, m.rd s, fun p n => k p _ (m.new n)⟩
theorem i_tyD {K : PySem.W.Frag} {P H : Hp} {cs r : List Ch} {a : Addr} {kvs : List (Key × V)} {R : Prop} (m : Mem P cs H) (s : Sel cs (pt a (.dK kvs)) r) (q : R) : tyV K "dict" (.ref a) H ∧ R := ⟨.inr (.inr (.inl ⟨rfl, .inl ⟨kvs, m.rd s⟩⟩)), q⟩
theorem rmv_at {H : Hp} {a b : Addr} {o : HO} (ne : a ≠ b) (e : H b = some o) : rmv H a b = some o := by
  unfold rmv
  rw [if_neg (fun z => ne z.symm)]
  exact e
theorem Mem.split2 {H : Hp} {a b : Addr} {q r : Str} (ea : H a = some (.tbl #[])) (eb : H b = some (.tbl #[])) (ne : a ≠ b) : Mem (rmv (rmv H a) b) [tabP a q, tabP b r] H := by
  have none' : ∀ {P : Hp} (q : Str), ∀ (pos : Pos) (cv : Value), codeAmong pos (#[] : Array Value).toList = some cv → ∃ c, cv = .ref c ∧ P c = some (CodeO c q) := fun q pos cv z => by
    have z' : codeAmong pos [] = some cv := z
    simp [codeAmong] at z'
  have sg : ∀ {x : Addr}, H x = some (.tbl #[]) → Ex (sgl x (.tbl #[])) H := fun {x} e y o z => by
    unfold sgl at z
    split at z
    · rename_i h; subst h; cases z; exact e
    · cases z
  have m0 : Mem (rmv (rmv H a) b) [pt a (.tbl #[]), pt b (.tbl #[])] H := by
    refine ⟨rmv_ex.trans rmv_ex, Jn (sgl a (.tbl #[])) (sgl b (.tbl #[])), ⟨sgl a (.tbl #[]), sgl b (.tbl #[]), if_pos rfl, ⟨sgl b (.tbl #[]), emp, if_pos rfl, trivial, fun _ => .inr rfl, Ex.refl _, emp_ex⟩, fun x => ?_, Jn.l, Jn.r fun x => ?_⟩, fun x => ?_, Jn.le (sg ea) (sg eb)⟩
    · by_cases h : x = a
      · exact .inr (if_neg (fun z => ne (h.symm.trans z)))
      · exact .inl (if_neg h)
    · by_cases h : x = a
      · exact .inr (if_neg (fun z => ne (h.symm.trans z)))
      · exact .inl (if_neg h)
    · by_cases h : x = b
      · exact .inl (if_pos h)
      · by_cases h2 : x = a
        · left
          unfold rmv
          rw [if_neg h, if_pos h2]
        · right
          unfold Jn sgl
          rw [if_neg h2]
          exact if_neg h
  exact ((((m0.tabI (q := q) trivial (none' q)).sel (.s .z)).tabI (q := r) trivial (none' r))).sel (.s .z)
end FS

set_option Elab.async false
set_option maxRecDepth 100000
set_option linter.all false
/-! FsDict: dicts: list(d), sorted(d), pop, get; lists of pairs. -/
namespace FS
open PySem PySem.Spec PyProof.Rows L2 Evl LamX
theorem relK_of {k : Key} {v : Value} (h : keyIs k v = true) : RelV (kV k) v := by
  rcases keyIs_shape h with ⟨i, t, rfl, rfl⟩ | ⟨x, t, rfl, rfl⟩
  · exact ⟨t, rfl⟩
  · exact ⟨t, rfl⟩
theorem vals_pt : ∀ {xs : List V} {us : List Value}, xs.length = us.length → (∀ (i : Nat) x u, xs[i]? = some x → us[i]? = some u → RelV x u) → Vals xs us
  | [], [], _, _ => .nil
  | [], _ :: _, h, _ => by simp at h
  | _ :: _, [], h, _ => by simp at h
  | x :: xs, u :: us, h, f => .cons (f 0 x u rfl rfl) (vals_pt (by simpa using h) fun i y v hy hv => f (i + 1) y v (by simpa using hy) (by simpa using hv))
theorem kv_key {κ : Type} {kvs : List (κ × V)} {vs : List (κ × Value)} (r : KV kvs vs) {i : Nat} {p : κ × V} {q : κ × Value} (h1 : kvs[i]? = some p) (h2 : vs[i]? = some q) : p.1 = q.1 := by
  unfold KV at r
  induction r generalizing i with
  | nil => simp at h1
  | cons a t ih =>
    cases i with
    | zero =>
      have e1 := Option.some.inj (show some _ = some p from h1)
      have e2 := Option.some.inj (show some _ = some q from h2)
      rw [← e1, ← e2]; exact a.1
    | succ i => exact ih (by simpa using h1) (by simpa using h2)
section
variable {X : Cx} {K : PySem.W.Frag}
def rListKeys : List V → Hp → VK → Prop := fun xs H Q => ∃ (d : Addr) (kvs : List (Key × V)), xs = [V.ref d] ∧ H d = some (.dK kvs) ∧ NewO (.lst (kvs.map fun kv => kV kv.1)) H Q
theorem listKeys (hc : X.calm = true) : CallR X (.type "list") rListKeys := by
  intro pins s σ H vs us Q I r h
  obtain ⟨d, kvs, rfl, hd, q⟩ := h
  rw [Vals.ref1 r]
  obtain ⟨hz, hs0, vs, kv, hdo⟩ := I.hok d _ hd
  obtain ⟨ep, hat⟩ := hdo.dictAt
  have lk : kvs.length = vs.length := Paired.length kv
  refine PySem.W.kdl_call (PySem.W.kdl_dict (knd := mixKind X.prog X.w) (kvs := vs) (ep := ep) hs0) (I.ok.hd hc) hat (by omega) fun h' tk acc c hk hS hacc => ?_
  have hv : Vals (kvs.map fun kv => kV kv.1) acc.toList := by
    refine vals_pt (by
      have h1 := hacc.1
      have h2 : acc.toList.length = acc.size := Array.length_toList
      rw [List.length_map]
      omega) fun i x u hx hu => ?_
    rw [List.getElem?_map] at hx
    obtain ⟨p, hp, rfl⟩ := Option.map_eq_some_iff.mp hx
    obtain ⟨k, y, hq, hk2⟩ := hacc.2 i u (by rw [← Array.getElem?_toList]; exact hu)
    rw [kv_key kv hp hq]
    exact relK_of hk2
  exact ⟨.ref _, upd H s.heap.objs.size (.lst (kvs.map fun kv => kV kv.1)), I.laid (t' := tk) hk (Nat.le_refl _) ⟨by rw [List.length_map]; exact hz, acc.toList, c, hv, by rw [Array.toArray_toList]; exact hS⟩, rfl, q _ (I.hok.fresh (Nat.le_refl _))⟩
end
theorem i_listKeys {P H : Hp} {cs r : List Ch} {d : Addr} {kvs : List (Key × V)} {Q : VK} (m : Mem P cs H) (s : Sel cs (pt d (.dK kvs)) r) (q : NewO (.lst (kvs.map fun kv => kV kv.1)) H Q) : rListKeys [.ref d] H Q := ⟨d, kvs, rfl, m.rd s, q⟩
/-- many objects laid at once -/
theorem inv_many {X : Cx} {pins : List (Addr × Obj)} {σ : L2.St} {H H' : Hp} {s : Shared} {h' : Heap} {t' : Nat} (I : Inv X pins σ H s) (k : ∀ b o, s.heap.get? b = some o → h'.get? b = some o) (ex : Ex H H') (low : ∀ b o, H' b = some o → H b = some o ∨ s.heap.objs.size ≤ b)
    (ok : ∀ b o, H' b = some o → s.heap.objs.size ≤ b → ObjOk X.prog X.w H' h' b o) : Inv X pins σ H' { s with heap := h', toks := t' } := by
  refine I.un ⟨fun b o q _ _ _ => k b o q, fun b o q _ _ _ => ⟨o.slots, k b o q⟩, fun b o q n _ => ?_, fun b o q _ => ⟨o, k b o q⟩, fun b xs q => ex b _ q, fun b o u q => ex b _ q, fun b ps q => ⟨#[], by rw [ex b _ q]; simp⟩⟩ fun b o e => ?_
  · cases e : H' b with
    | none => rfl
    | some u =>
      rcases low b u e with z | z
      · rw [n] at z; cases z
      · exact absurd (Heap.lt_size q) (Nat.not_lt.mpr z)
  · rcases low b o e with z | z
    · exact (I.hok b o z).stay (fun c v _ q => k c v q) (fun c q => ex c _ q) fun c xs q => ex c _ q
    · exact ok b o e z
/-! ### get, pop -/
theorem i_dget1 {td ty : TE} {σ : L2.St} {H : Hp} {Q : VK} (h : td σ H fun x H1 => IsDAt x H1 fun a => ty σ H1 fun y H2 => DGetO a y H2 fun o => Q (o.getD .non) H2) : tDGet1 td ty σ H Q := h
def DPopAt (a : Addr) (y : V) (H : Hp) (Q : VK) : Prop := ∃ kvs k v, H a = some (.dK kvs) ∧ y = kV k ∧ valV kvs k = some v ∧ Q v (upd H a (.dK (dropK kvs k)))
theorem i_dpop1 {td ty : TE} {σ : L2.St} {H : Hp} {Q : VK} (h : td σ H fun x H1 => IsDAt x H1 fun a => ty σ H1 fun y H2 => DPopAt a y H2 Q) : tDPop1 td ty σ H Q := h
theorem i_dpopAt {P H : Hp} {cs r : List Ch} {a : Addr} {kvs : List (Key × V)} {k : Key} {v : V} {Q : VK} (m : Mem P cs H) (u : Upd cs a (.dK kvs) (.dK (dropK kvs k)) r) (hv : valV kvs k = some v) (q : ∀ H', Mem P r H' → Q v H') : DPopAt a (kV k) H Q := ⟨kvs, k, v, u.rd m, rfl, hv, q _ (m.put u)⟩
/-! ### lists of pairs by keys -/
section
variable {κ α β : Type} [DecidableEq κ]
def aget (l : List (κ × α)) (k : κ) : Option α := (l.find? fun p => decide (p.1 = k)).map (·.2)
def aset (l : List (κ × α)) (k : κ) (v : α) : List (κ × α) := if l.any (fun p => decide (p.1 = k)) = true then l.map (fun p => if p.1 = k then (p.1, v) else p) else l ++ [(k, v)]
def adel (l : List (κ × α)) (k : κ) : List (κ × α) := l.filter fun p => decide (p.1 ≠ k)
end
section
variable {κ α : Type} [DecidableEq κ] {g : κ → Key} {f : κ × α → V}
theorem valV_map (hg : ∀ a b, g a = g b → a = b) (l : List (κ × α)) (k : κ) : valV (l.map fun p => (g p.1, f p)) (g k) = (l.find? fun p => decide (p.1 = k)).map f := by
  unfold valV
  induction l with
  | nil => rfl
  | cons p l ih =>
    rw [List.map_cons, List.find?_cons, List.find?_cons]
    by_cases e : p.1 = k
    · rw [decide_eq_true e, decide_eq_true (congrArg g e)]; rfl
    · rw [decide_eq_false e, decide_eq_false (fun z => e (hg _ _ z))]
      exact ih
theorem dropK_map (hg : ∀ a b, g a = g b → a = b) (l : List (κ × α)) (k : κ) : dropK (l.map fun p => (g p.1, f p)) (g k) = (l.filter fun p => decide (p.1 ≠ k)).map fun p => (g p.1, f p) := by
  unfold dropK
  rw [List.filter_map]
  congr 1
  refine List.filter_congr fun p _ => ?_
  by_cases e : p.1 = k
  · simp [e]
  · have : g p.1 ≠ g k := fun z => e (hg _ _ z)
    simp [e, this]
end
end FS

set_option Elab.async false
set_option maxRecDepth 100000
set_option linter.all false
/-! FsItems: sorted(d.items()), texts and whole numbers. -/
namespace FS
open PySem PySem.Spec PyProof.Rows L2 Evl LamX PySem.W L2.DX
abbrev Ent := Str × Int
def entD (p : Ent) : PyData := .tuple [.str p.1, .int p.2]
def entK (l : List Ent) : List (Key × V) := l.map fun p => (Sum.inr p.1, V.int p.2)
def sortE (l : List Ent) : List Ent := l.mergeSort (dataLe false entD)
theorem each_pt {α β : Type} {R : α → β → Prop} : ∀ {xs : List α} {ys : List β}, xs.length = ys.length → (∀ (i : Nat) x y, xs[i]? = some x → ys[i]? = some y → R x y) → EachIs R xs ys
  | [], [], _, _ => .nil
  | [], _ :: _, h, _ => by simp at h
  | _ :: _, [], h, _ => by simp at h
  | x :: xs, y :: ys, h, f => .cons (f 0 x y rfl rfl) (each_pt (by simpa using h) fun i a b ha hb => f (i + 1) a b (by simpa using ha) (by simpa using hb))
theorem pairs_at {K : Type} [DecidableEq K] {prog : Program} {w : World} {knd : KeyKind prog w K} : ∀ {es : List DictEntry} {kvs : List (K × Value)}, Pairs knd es kvs → ∀ {j : Nat} {e : DictEntry}, es[j]? = some e → ∃ k, kvs[j]? = some (k, e.val) ∧ knd.is k e.key = true
  | _, _, .nil, _, _, he => by simp at he
  | _, _, .cons (kv := kv) hk hv t, 0, e, he => by
    have e1 := Option.some.inj (show some _ = some e from he)
    subst e1
    exact ⟨kv.1, by rw [hv]; rfl, hk⟩
  | _, _, .cons hk hv t, j + 1, e, he => pairs_at t (j := j) (by simpa using he)
theorem vals_refs : ∀ ts : List Addr, Vals (ts.map V.ref) (ts.map Value.ref)
  | [] => .nil
  | t :: ts => .cons rfl (vals_refs ts)
/-- the tuple at a stands for an entry -/
def EntAt (h : Heap) (v : Value) (p : Ent) : Prop := ∃ (a : Addr) (t1 t2 : Tok), v = .ref a ∧ h.get? a = some { cls := .type "tuple", data := .seq #[.str p.1 t1, .int p.2 t2] }
theorem ent_fun {h : Heap} {v : Value} {p q : Ent} (a : EntAt h v p) (b : EntAt h v q) : p = q := by
  obtain ⟨x, t1, t2, rfl, e⟩ := a
  obtain ⟨y, u1, u2, e2, e3⟩ := b
  cases e2
  rw [e] at e3
  have e4 := Option.some.inj e3
  have e5 : #[Value.str p.1 t1, Value.int p.2 t2] = #[Value.str q.1 u1, Value.int q.2 u2] := by
    have := congrArg Obj.data e4
    injection this
  have e6 : [Value.str p.1 t1, Value.int p.2 t2] = [Value.str q.1 u1, Value.int q.2 u2] := congrArg Array.toList e5
  injection e6 with a1 a2
  injection a2 with a3 _
  injection a1 with b1 _
  injection a3 with b2 _
  exact Prod.ext b1 b2
section
variable {X : Cx}
def rItemsK : V → List V → Hp → VK → Prop := fun x xs H Q => ∃ (a : Addr) (kvs : List (Key × V)), x = .ref a ∧ xs = [] ∧ H a = some (.dK kvs) ∧ ∀ p, H p = none → Q (.ref p) (upd H p (itemsO p a))
theorem mt_itemsK : MtR X "dict.items" rItemsK := by
  intro pins s σ H x xs v us Q I rx rxs h
  obtain ⟨a, kvs, rfl, rfl, ha, q⟩ := h
  cases rx
  cases rxs
  obtain ⟨hz, hs0, vs, kv, o, es, ep, ho, hx, hdat, hk, hp, hn⟩ := I.hok a _ ha
  refine DT.callItems (es := es) (ep := ep) hs0 ⟨o, ho, hx, hdat⟩ ?_
  have hf : H s.heap.objs.size = none := I.hok.fresh (Nat.le_refl _)
  exact ⟨.ref s.heap.objs.size, upd H s.heap.objs.size (itemsO s.heap.objs.size a), I.laid (t' := s.toks) (fun b u e => Heap.get?_push_of_some _ e) (Nat.le_refl _) (itemsO_ok (Heap.get?_push_size _ rfl)), rfl, q _ hf⟩
def rSortE : List V → Hp → VK → Prop := fun vs H Q => ∃ (p d : Addr) (l : List Ent), vs = [.ref p] ∧ H p = some (itemsO p d) ∧ H d = some (.dK (entK l)) ∧
  ∀ (H' : Hp) (D : Addr) (ts : List Addr), Ex H H' → H D = none → (∀ t ∈ ts, H t = none) → D ∉ ts → H' D = some (.lst (ts.map V.ref)) → Paired (fun (t : Addr) (q : Ent) => H' t = some (.tup [.str q.1, .int q.2])) ts (sortE l) → Q (.ref D) H'
theorem sortItems (hc : X.calm = true) (hu : X.A.units + 64 < cLine) : CallR X (.builtin "sorted") rSortE := by
  intro pins s σ H xs us Q I r h
  obtain ⟨p, d, l, rfl, hp, hd, q⟩ := h
  rw [Vals.ref1 r]
  have view : s.heap.IsItemsView p d := (show ObjOk X.prog X.w H s.heap p (itemsO p d) from I.hok p _ hp).1
  obtain ⟨hz, hs0, vs, kv, o, es, ep, ho, hx, hdat, hk, hpr, hn⟩ := I.hok d _ hd
  have lkv : (entK l).length = vs.length := Paired.length kv
  have lps : es.toList.length = vs.length := hpr.length
  have hes : es.size ≤ sizeLine := by
    have h1 : es.toList.length = es.size := Array.length_toList
    omega
  have lle : l.length = es.size := by
    have h1 : es.toList.length = es.size := Array.length_toList
    have h2 : (entK l).length = l.length := List.length_map _
    omega
  refine DT.sortedI (I.ok.hd hc) view ⟨o, ho, hx, hdat⟩ hes fun h' tk as hkp hlt hl hG => ?_
  have hat : ∀ (j : Nat) (a : Addr) (p : Ent), as[j]? = some a → l[j]? = some p → EntAt h' (.ref a) p := by
    intro j a p ha hp
    obtain ⟨e, he, hga⟩ := hG.pairs j a ha
    obtain ⟨k, hv, hki⟩ := pairs_at hpr (j := j) (e := e) (by rw [Array.getElem?_toList]; exact he)
    have hkv : (entK l)[j]? = some (Sum.inr p.1, V.int p.2) := by unfold entK; rw [List.getElem?_map, hp]; rfl
    have e1 := kv_key kv hkv hv
    obtain ⟨y, hy1, hy2⟩ := kv_get kv ⟨k, hv⟩
    rw [List.getElem?_map, hkv] at hy1
    have e2 := Option.some.inj hy1
    rw [← e2] at hy2
    obtain ⟨t2, e3⟩ := hy2
    have e4 : k = Sum.inr p.1 := e1.symm
    subst e4
    obtain ⟨t1, e5⟩ : ∃ t, e.key = .str p.1 t := relK_of (k := Sum.inr p.1) (show keyIs (Sum.inr p.1) e.key = true from hki)
    exact ⟨a, t1, t2, rfl, by rw [hga, e5, e3]⟩
  have each : EachIs (fun v p => EntAt h' v p ∧ ∃ a, v = Value.ref a ∧ a ∈ as) (as.map Value.ref) l := each_pt (by rw [List.length_map, hl, lle]) fun i v p hv hp => by
    rw [List.getElem?_map] at hv
    obtain ⟨a, ha, rfl⟩ := Option.map_eq_some_iff.mp hv
    exact ⟨hat i a p ha hp, a, rfl, List.mem_of_getElem? ha⟩
  have up1 : ∀ v p, EntAt h' v p → EntAt (h'.push { cls := Value.type "list", data := Data.seq (as.map Value.ref).toArray }) v p := fun v p ⟨a, t1, t2, e, g⟩ => ⟨a, t1, t2, e, Heap.get?_push_of_some _ g⟩
  have dep : ∀ p : Ent, (entD p).depth = 1 := fun p => by simp [entD, PyData.depth, PyData.depthAll]
  refine list_sort_data (R := fun v p => EntAt h' v p ∧ ∃ a, v = Value.ref a ∧ a ∈ as) (enc := entD) (s := { s with heap := h'.push { cls := Value.type "list", data := Data.seq (as.map Value.ref).toArray }, toks := tk }) (Heap.get?_push_size _ rfl) each (each.mono fun v p z => ?_) ?_ ?_ (by rw [lle]; exact hes) (fun p _ => by rw [dep]; have h1 : X.A.in1.units ≤ X.A.units + 1 := Nat.le_refl _; omega) fun out ho1 ho2 => ?_
  · obtain ⟨a, t1, t2, rfl, g⟩ := up1 v p z.1
    exact ⟨[], .tuple g rfl rfl (.cons (.str _ _) (.cons (.int _ _) .nil)), by simp⟩
  · intro d hd d' hd'
    obtain ⟨p, _, rfl⟩ := List.mem_map.mp hd
    obtain ⟨p', _, rfl⟩ := List.mem_map.mp hd'
    exact DatumOrd.alike (α := Str × Int) p p'
  · left
    intro d hd
    obtain ⟨p, _, rfl⟩ := List.mem_map.mp hd
    exact ⟨_, _, rfl⟩
  · have key : ∀ {vs : List Value} {ps : List Ent}, EachIs (fun v p => EntAt h' v p ∧ ∃ a, v = Value.ref a ∧ a ∈ as) vs ps → ∃ ts : List Addr, vs = ts.map Value.ref ∧ ts.length = ps.length ∧ (∀ a ∈ ts, a ∈ as) ∧ ∀ q ∈ ts.zip ps, EntAt h' (.ref q.1) q.2 := by
      intro vs ps h
      induction h with
      | nil => exact ⟨[], rfl, rfl, (fun _ z => by cases z), fun _ z => by cases z⟩
      | cons a t ih =>
        obtain ⟨ts, e1, e2, e3, e4⟩ := ih
        obtain ⟨a1, b, rfl, hb⟩ := a
        refine ⟨b :: ts, by rw [e1]; rfl, by rw [List.length_cons, List.length_cons, e2], fun c hc => ?_, fun c hc => ?_⟩
        · rcases List.mem_cons.mp hc with z | z
          · rw [z]; exact hb
          · exact e3 c z
        · rw [List.zip_cons_cons] at hc
          rcases List.mem_cons.mp hc with z | z
          · rw [z]; exact a1
          · exact e4 c z
    obtain ⟨ts, rfl, hts, hmem, hzip⟩ := key ho2
    have e0 : sortE l = l.mergeSort (dataLe false entD) := rfl
    have hsl : (sortE l).length ≤ sizeLine := by
      unfold sortE
      rw [List.length_mergeSort, lle]
      exact hes
    rw [← e0] at hts hzip
    generalize sortE l = sl at hts hzip q hsl
    have hDn : h'.objs.size ∉ ts := fun z => Nat.lt_irrefl _ (hG.there (hmem _ z))
    have sz : (h'.push { cls := Value.type "list", data := Data.seq (as.map Value.ref).toArray }).objs.size = h'.objs.size + 1 := Heap.size_push ..
    have old : ∀ b o, h'.get? b = some o → (sortedHeap (h'.push { cls := Value.type "list", data := Data.seq (as.map Value.ref).toArray }) h'.objs.size (as.map Value.ref) (ts.map Value.ref).toArray).get? b = some o := fun b o e => by
      have hb := Heap.lt_size e
      rw [sortedHeap_old (Nat.ne_of_lt hb) (by rw [sz]; exact Nat.lt_succ_of_lt hb)]
      exact Heap.get?_push_of_some _ e
    obtain ⟨ec, hDat⟩ := sortedHeap_at (h := h'.push { cls := Value.type "list", data := Data.seq (as.map Value.ref).toArray }) (a := h'.objs.size) (vs := as.map Value.ref) (n := 0) (out := (ts.map Value.ref).toArray) (Heap.get?_push_size _ rfl)
    have new : ∀ t ∈ ts, s.heap.objs.size ≤ t := fun t ht => Nat.le_of_lt (hG.above t (hmem t ht))
    have tn : ∀ t ∈ ts, H t = none := fun t ht => I.hok.fresh (new t ht)
    have Dn : H h'.objs.size = none := I.hok.fresh (Nat.le_of_lt hlt)
    have fat : ∀ q ∈ ts.zip sl, ((ts.zip sl).find? fun r => decide (r.1 = q.1)).map (fun r => HO.tup [V.str r.2.1, V.int r.2.2]) = some (.tup [.str q.2.1, .int q.2.2]) := by
      intro q hq
      cases hf : (ts.zip sl).find? fun r => decide (r.1 = q.1) with
      | none => exact absurd (List.find?_eq_none.mp hf q hq) (by simp)
      | some r =>
        have h1 := List.mem_of_find?_eq_some hf
        have h2 : r.1 = q.1 := by simpa using List.find?_some hf
        have h3 := ent_fun (h2 ▸ hzip r h1) (hzip q hq)
        show some (HO.tup [V.str r.2.1, V.int r.2.2]) = _
        rw [h3]
    have fno : ∀ b, b ∉ ts → ((ts.zip sl).find? fun r => decide (r.1 = b)).map (fun r => HO.tup [V.str r.2.1, V.int r.2.2]) = none := by
      intro b hb
      cases hf : (ts.zip sl).find? fun r => decide (r.1 = b) with
      | none => rfl
      | some r =>
        have h1 := List.mem_of_find?_eq_some hf
        have h2 : r.1 = b := by simpa using List.find?_some hf
        exact absurd (h2 ▸ (List.of_mem_zip h1).1) hb
    obtain ⟨H', hH'⟩ : ∃ H' : Hp, H' = fun b => if b = h'.objs.size then some (.lst (ts.map V.ref)) else match ((ts.zip sl).find? fun r => decide (r.1 = b)).map (fun r => HO.tup [V.str r.2.1, V.int r.2.2]) with | some o => some o | none => H b := ⟨_, rfl⟩
    have HD : H' h'.objs.size = some (.lst (ts.map V.ref)) := by rw [hH']; exact if_pos rfl
    have Hz : ∀ q ∈ ts.zip sl, H' q.1 = some (.tup [.str q.2.1, .int q.2.2]) := fun q hq => by
      have ne : q.1 ≠ h'.objs.size := fun z => hDn (by rw [← z]; exact (List.of_mem_zip hq).1)
      rw [hH']
      dsimp only
      rw [if_neg ne, fat q hq]
    have Ho : ∀ b, b ≠ h'.objs.size → b ∉ ts → H' b = H b := fun b h1 h2 => by
      rw [hH']
      dsimp only
      rw [if_neg h1, fno b h2]
    have ex : Ex H H' := fun b o e => by
      rw [Ho b (fun z => by rw [z, Dn] at e; cases e) (fun z => by rw [tn b z] at e; cases e)]
      exact e
    have zat : ∀ t ∈ ts, ∃ p, (t, p) ∈ ts.zip sl := fun t ht => by
      obtain ⟨i, hi, e⟩ := List.mem_iff_getElem.mp ht
      have hi2 : i < sl.length := by omega
      refine ⟨sl[i], ?_⟩
      rw [← e]
      have : (ts.zip sl)[i]? = some (ts[i], sl[i]) := by rw [List.getElem?_zip_eq_some]; exact ⟨List.getElem?_eq_getElem hi, List.getElem?_eq_getElem hi2⟩
      exact List.mem_of_getElem? this
    have pr : ∀ {ts : List Addr} {sl : List Ent}, ts.length = sl.length → (∀ q ∈ ts.zip sl, H' q.1 = some (.tup [.str q.2.1, .int q.2.2])) → Paired (fun (t : Addr) (q : Ent) => H' t = some (.tup [.str q.1, .int q.2])) ts sl := by
      intro ts
      induction ts with
      | nil => intro sl h _; cases sl with
        | nil => exact .nil
        | cons _ _ => simp at h
      | cons t ts ih => intro sl h f; cases sl with
        | nil => simp at h
        | cons p sl => exact .cons (f (t, p) (by rw [List.zip_cons_cons]; exact List.mem_cons_self)) (ih (by simpa using h) fun q hq => f q (by rw [List.zip_cons_cons]; exact List.mem_cons_of_mem _ hq))
    suffices J : Inv X pins σ H' { s with heap := sortedHeap (h'.push { cls := Value.type "list", data := Data.seq (as.map Value.ref).toArray }) h'.objs.size (as.map Value.ref) (ts.map Value.ref).toArray, toks := tk } from
      ⟨.ref _, H', J, rfl, q H' h'.objs.size ts ex Dn tn hDn HD (pr hts Hz)⟩
    refine inv_many I (fun b o e => old b o (hkp b o e)) ex (fun b o e => ?_) (fun b o e hb => ?_)
    · by_cases h1 : b = h'.objs.size
      · right; rw [h1]; exact Nat.le_of_lt hlt
      · by_cases h2 : b ∈ ts
        · exact .inr (new b h2)
        · rw [Ho b h1 h2] at e; exact .inl e
    · by_cases h1 : b = h'.objs.size
      · subst h1
        rw [HD] at e
        cases e
        refine ⟨?_, ts.map Value.ref, ec, vals_refs ts, hDat⟩
        rw [List.length_map, hts]
        exact hsl
      · by_cases h2 : b ∈ ts
        · obtain ⟨p, hp⟩ := zat b h2
          rw [Hz _ hp] at e
          cases e
          obtain ⟨a, t1, t2, e1, g⟩ := hzip _ hp
          cases e1
          exact ⟨by show 2 ≤ sizeLine; decide, [.str p.1 t1, .int p.2 t2], .cons ⟨t1, rfl⟩ (.cons ⟨t2, rfl⟩ .nil), _, old _ _ g, rfl, _, rfl⟩
        · rw [Ho b h1 h2] at e
          rw [I.hok.fresh hb] at e
          cases e
end
/-- the items sorted: a list of its own, its pairs kept -/
theorem i_sortE {K : PySem.W.Frag} {P H : Hp} {cs r1 r2 : List Ch} {p d : Addr} {l : List Ent} {Q : VK} (m : Mem P cs H) (s1 : Sel cs (pt p (itemsO p d)) r1) (s2 : Sel cs (pt d (.dK (entK l))) r2)
    (q : ∀ D ts P' H', Ex P P' → Paired (fun (t : Addr) (e : Ent) => SqT K P' t [.str e.1, .int e.2]) ts (sortE l) → Mem P' (pt D (.lst (ts.map V.ref)) :: cs) H' → Q (.ref D) H') : rSortE [.ref p] H Q := by
  refine ⟨p, d, l, rfl, m.rd s1, m.rd s2, fun H' D ts ex hD hts hn hl hp => ?_⟩
  obtain ⟨e, h, s, dj, le⟩ := m
  have hPD : P D = none := fresh_back e hD
  have hhD : h D = none := fresh_back le hD
  have hPt : ∀ t ∈ ts, P t = none := fun t ht => fresh_back e (hts t ht)
  have hht : ∀ t ∈ ts, h t = none := fun t ht => fresh_back le (hts t ht)
  obtain ⟨P', hP'⟩ : ∃ P' : Hp, P' = fun b => if b ∈ ts then H' b else P b := ⟨_, rfl⟩
  have Pin : ∀ b, b ∈ ts → P' b = H' b := fun b hb => by rw [hP']; exact if_pos hb
  have Pout : ∀ b, b ∉ ts → P' b = P b := fun b hb => by rw [hP']; exact if_neg hb
  have eP : Ex P P' := fun b o z => by
    rw [Pout b (fun y => by rw [hPt b y] at z; cases z)]
    exact z
  refine q D ts P' H' eP ?_ ⟨fun b o z => ?_, upd h D (.lst (ts.map V.ref)), ⟨sgl D (.lst (ts.map V.ref)), h, if_pos rfl, Sep.up eP s, fun b => ?_, fun b o z => ?_, fun b o z => ?_⟩, fun b => ?_, fun b o z => ?_⟩
  · have key : ∀ {ts' : List Addr} {ps : List Ent}, (∀ t ∈ ts', t ∈ ts) → Paired (fun (t : Addr) (q : Ent) => H' t = some (.tup [.str q.1, .int q.2])) ts' ps → Paired (fun (t : Addr) (e : Ent) => SqT K P' t [.str e.1, .int e.2]) ts' ps := by
      intro ts' ps hm h
      induction h with
      | nil => exact .nil
      | @cons t p ts'' ps'' a r ih => exact .cons (SqT.of (by rw [Pin t (hm t List.mem_cons_self)]; exact a)) (ih fun t ht => hm t (List.mem_cons_of_mem _ ht))
    exact key (fun _ z => z) hp
  · by_cases hb : b ∈ ts
    · rw [Pin b hb] at z; exact z
    · rw [Pout b hb] at z; exact ex b o (e b o z)
  · by_cases hb : b = D
    · subst hb; exact .inr hhD
    · exact .inl (if_neg hb)
  · unfold sgl at z
    split at z
    · rename_i y; subst y; cases z; exact upd_same
    · cases z
  · rw [upd_ne (fun y => by rw [y, hhD] at z; cases z)]
    exact z
  · by_cases hb : b = D
    · subst hb; exact .inl (by rw [Pout _ hn]; exact hPD)
    · rw [upd_ne hb]
      by_cases ht : b ∈ ts
      · exact .inr (hht b ht)
      · rw [Pout b ht]; exact dj b
  · rcases upd_of z with ⟨rfl, rfl⟩ | ⟨z1, z2⟩
    · exact hl
    · exact ex b o (le b o z2)
end FS

set_option Elab.async false
set_option maxRecDepth 100000
set_option linter.all false
/-! FsKeys: sorted(d): the keys of a dict, texts or whole numbers. -/
namespace FS
open PySem PySem.Spec PyProof.Rows PySem.Calls PyProof.V L2 Evl LamX PySem.W L2.DX
theorem collect_src {prog : Program} {w : World} {A : Around} {E : Value → Shared → Prop} {s : Shared} {T : String} {r d : Addr} {n : Nat} {P : Nat → Value → Prop} {OK : Heap → Prop} {Q : List Value → Shared → Prop} (S : KdlSrc prog w T r d n P OK) (hh : A.handled = none) (hok : OK s.heap) (hn : n ≤ sizeLine)
    (q : ∀ (g : Heap) (tk : Nat) (acc : Array Value), (∀ b o, s.heap.get? b = some o → g.get? b = some o) → s.heap.objs.size < g.objs.size → ItemsOf P acc n → Q acc.toList { s with heap := g, toks := tk }) : wpAny (model prog w) A (collect (.ref r)) Q E s := by
  have lo := S.there _ hok
  unfold collect
  refine wpAny_bind (wpAny_runValue (codeAny_builtin entry_proto_collect' ?_)); rw [Around.under_plainId PySem.F.plain_proto_collect _]
  change wpAny _ A.in1 (newList [] >>= fun y => again (.builtin "list.__iadd__" ⟨[y, .ref r], []⟩)) _ _ s
  refine wpAny_bind (wpAny_newObj_type (wpAny_pure ⟨plainId_quiet PySem.F.plain_list_iadd _, codeAny_builtin entry_list_iadd' ?_⟩)); rw [Around.under_plainId PySem.F.plain_list_iadd _]
  change wpAny _ A.in1 (Builtin.List.listExtendWith (.ref s.heap.objs.size) (.ref r) (.ref s.heap.objs.size)) _ _ _
  have ne : (s.heap.push { cls := .type "list", data := .seq ([] : List Value).toArray }).get? s.heap.objs.size = some { cls := .type "list", data := .seq #[] } := Heap.get?_push_size _ rfl
  have ext := kdl_extend (A := A) (s := { s with heap := s.heap.push { cls := .type "list", data := .seq ([] : List Value).toArray } }) (R := fun (u : Result) (z : Shared) => ∃ (g : Heap) (tk : Nat) (acc : Array Value) (c : Nat), u = .ok (.ret (.ref s.heap.objs.size)) ∧ z = { s with heap := g, toks := tk } ∧ (∀ b o, s.heap.get? b = some o → g.get? b = some o) ∧ g.get? s.heap.objs.size = some { cls := .type "list", dict := none, data := .seq acc c, slots := #[] } ∧ ItemsOf P acc n) S hh (S.keep _ _ hok fun b _ o e => Heap.get?_push_of_some _ e) s.heap.objs.size (Nat.ne_of_gt lo.1) (Nat.ne_of_gt lo.2) (.ref s.heap.objs.size) 0 ne (fun g tk acc c k l i => ⟨g, tk, acc, c, rfl, rfl, fun b o e => k b o (Nat.ne_of_lt (Heap.lt_size e)) (Heap.get?_push_of_some _ e), l, i⟩) hn
  refine wpAny_mono ext (fun fin z x => ?_) fun e z x => by obtain ⟨_, _, _, _, e2, _⟩ := x; cases e2
  cases fin with
  | done f =>
    obtain ⟨g, tk, acc, c, e, rfl, k, l, i⟩ := x; cases e
    exact wpAny_bind (wpAny_load l (wpAny_pure (q g tk acc k (Heap.lt_size l) i)))
  | again c2 =>
    refine ⟨x.1, codeAny_mono x.2 fun u z2 y => ?_⟩
    obtain ⟨g, tk, acc, c, rfl, rfl, k, l, i⟩ := y; exact wpAny_bind (wpAny_load l (wpAny_pure (q g tk acc k (Heap.lt_size l) i)))
theorem sorted_src {prog : Program} {w : World} {A : Around} {E : Value → Shared → Prop} {s : Shared} {T : String} {r d : Addr} {n : Nat} {P : Nat → Value → Prop} {OK : Heap → Prop} {Q : Value → Shared → Prop} (S : KdlSrc prog w T r d n P OK) (hh : A.handled = none) (hok : OK s.heap) (hn : n ≤ sizeLine)
    (h : ∀ (h' : Heap) (tk : Nat) (acc : Array Value), (∀ b o, s.heap.get? b = some o → h'.get? b = some o) → s.heap.objs.size < h'.objs.size → ItemsOf P acc n →
      wpAny (model prog w) A.in1 (call (.builtin "list.sort") [.ref h'.objs.size]) (fun _ s' => Q (.ref h'.objs.size) s') E { s with heap := h'.push { cls := .type "list", data := .seq acc.toList.toArray }, toks := tk }) :
    wpAny (model prog w) A (call (.builtin "sorted") [.ref r]) Q E s := by
  refine call_function_entry kind_sorted plain_sorted entry_sorted (args_sorted1 _) (by
    unfold Builtin.«sorted»
    refine wpAny_bind (m := checkCount "sorted" 1 1 _) (wpAny_pure (wpAny_bind (collect_src (A := A.in1) S hh hok hn fun g tk acc hk hlt hacc => wpAny_bind (wpAny_newList (wpAny_bind (wpAny_holding (wpAny_mono (h g tk acc hk hlt hacc) (fun _ s' x => wpAny_pure ⟨_, rfl, x⟩) fun _ _ e => e))) ?_))))
    have h1 := hacc.1
    have h2 : acc.toList.length = acc.size := Array.length_toList
    omega)
section
variable {X : Cx}
/-- keys as data -/
def keyD (k : Key) : PyData := match k with | .inl i => .int i | .inr x => .str x
def sortKs (ks : List Key) : List Key := ks.mergeSort (dataLe false keyD)
def rSortKeys : List V → Hp → VK → Prop := fun vs H Q => ∃ (d : Addr) (kvs : List (Key × V)), vs = [.ref d] ∧ H d = some (.dK kvs) ∧ AllAlike ((kvs.map (·.1)).map keyD) ∧ NewO (.lst ((sortKs (kvs.map (·.1))).map kV)) H Q
theorem sortKeys (hc : X.calm = true) (hu : X.A.units + 64 < cLine) : CallR X (.builtin "sorted") rSortKeys := by
  intro pins s σ H xs us Q I r h
  obtain ⟨d, kvs, rfl, hd, hal, q⟩ := h
  rw [Vals.ref1 r]
  obtain ⟨hz, hs0, vs, kv, hdo⟩ := I.hok d _ hd
  obtain ⟨ep, hat⟩ := hdo.dictAt
  have lk : kvs.length = vs.length := Paired.length kv
  refine sorted_src (kdl_dict (knd := mixKind X.prog X.w) (kvs := vs) (ep := ep) hs0) (I.ok.hd hc) hat (by omega) fun h' tk acc hk hlt0 hacc => ?_
  have hal2 : acc.toList.length = kvs.length := by
    have h1 := hacc.1
    have h2 : acc.toList.length = acc.size := Array.length_toList
    omega
  have each : EachIs (fun v k => keyIs k v = true) acc.toList (kvs.map (·.1)) := each_pt (by rw [List.length_map, hal2]) fun i v k hv hp => by
    rw [List.getElem?_map] at hp
    obtain ⟨p, hp2, rfl⟩ := Option.map_eq_some_iff.mp hp
    obtain ⟨k, y, hq, hk2⟩ := hacc.2 i v (by rw [← Array.getElem?_toList]; exact hv)
    rw [kv_key kv hp2 hq]
    exact hk2
  have dep : ∀ k : Key, (keyD k).depth = 0 := fun k => by cases k <;> simp [keyD, PyData.depth]
  refine list_sort_data (R := fun v k => keyIs k v = true) (enc := keyD) (s := { s with heap := h'.push { cls := Value.type "list", data := Data.seq acc.toList.toArray }, toks := tk }) (Heap.get?_push_size _ rfl) each (each.mono fun v k z => ?_) hal ?_ (by rw [List.length_map]; exact hz) (fun p _ => by rw [dep]; have h1 : X.A.in1.units ≤ X.A.units + 1 := Nat.le_refl _; omega) fun out ho1 ho2 => ?_
  · rcases keyIs_shape z with ⟨i, t, rfl, rfl⟩ | ⟨x, t, rfl, rfl⟩
    · exact ⟨[], .int _ _, by simp⟩
    · exact ⟨[], .str _ _, by simp⟩
  · right
    intro d hd
    obtain ⟨k, _, rfl⟩ := List.mem_map.mp hd
    cases k
    · exact ⟨(fun z => by cases z), fun _ z => by cases z⟩
    · exact ⟨(fun z => by cases z), fun _ z => by cases z⟩
  · have sz : (h'.push { cls := Value.type "list", data := Data.seq acc.toList.toArray }).objs.size = h'.objs.size + 1 := Heap.size_push ..
    have hlt : s.heap.objs.size ≤ h'.objs.size := Nat.le_of_lt hlt0
    have old : ∀ b o, s.heap.get? b = some o → (sortedHeap (h'.push { cls := Value.type "list", data := Data.seq acc.toList.toArray }) h'.objs.size acc.toList out.toArray).get? b = some o := fun b o e => by
      have e1 := hk b o e
      have hb := Heap.lt_size e1
      rw [sortedHeap_old (Nat.ne_of_lt hb) (by rw [sz]; exact Nat.lt_succ_of_lt hb)]
      exact Heap.get?_push_of_some _ e1
    obtain ⟨ec, hDat⟩ := sortedHeap_at (h := h'.push { cls := Value.type "list", data := Data.seq acc.toList.toArray }) (a := h'.objs.size) (vs := acc.toList) (n := 0) (out := out.toArray) (Heap.get?_push_size _ rfl)
    have hv : Vals ((sortKs (kvs.map (·.1))).map kV) out := by
      have key : ∀ {vs : List Value} {ks : List Key}, EachIs (fun v k => keyIs k v = true) vs ks → Vals (ks.map kV) vs := by
        intro vs ks h
        induction h with
        | nil => exact .nil
        | cons a t ih => exact .cons (relK_of a) ih
      exact key ho2
    have hl : ((sortKs (kvs.map (·.1))).map kV).length ≤ sizeLine := by
      unfold sortKs
      rw [List.length_map, List.length_mergeSort, List.length_map]
      exact hz
    suffices J : Inv X pins σ (upd H h'.objs.size (.lst ((sortKs (kvs.map (·.1))).map kV))) { s with heap := sortedHeap (h'.push { cls := Value.type "list", data := Data.seq acc.toList.toArray }) h'.objs.size acc.toList out.toArray, toks := tk } from
      ⟨.ref _, _, J, rfl, q _ (I.hok.fresh hlt)⟩
    exact I.laid old hlt ⟨hl, out, ec, hv, hDat⟩
end
theorem i_sortKeys {P H : Hp} {cs r : List Ch} {d : Addr} {kvs : List (Key × V)} {Q : VK} (m : Mem P cs H) (s : Sel cs (pt d (.dK kvs)) r) (al : AllAlike ((kvs.map (·.1)).map keyD)) (q : NewO (.lst ((sortKs (kvs.map (·.1))).map kV)) H Q) : rSortKeys [.ref d] H Q := ⟨d, kvs, rfl, m.rd s, al, q⟩
end FS

set_option Elab.async false
set_option maxRecDepth 100000
set_option linter.all false
/-! FsWalkD: comprehensions over a dict that is locked. -/
namespace FS
open PySem PySem.Spec PyProof.Rows L2 Evl LamX PySem.W
def LockBack (d : Addr) (od : Obj) (u : HO) (Q : VK) : VK := fun v H => H d = some (.frz od u) ∧ Q v (upd H d u)
theorem i_lockE {P H : Hp} {cs r : List Ch} {d : Addr} {kvs : List (Key × V)} {t : TE} {σ : L2.St} {Q : VK} (m : Mem P cs H) (s : Sel cs (pt d (.dK kvs)) r)
    (h : ∀ od H', Mem P (pt d (.frz od (.dK kvs)) :: r) H' → t σ H' (LockBack d od (.dK kvs) Q)) : tLockE t σ H Q :=
  ⟨d, _, m.rd s, trivial, fun od => h od _ ((m.sel s).put0 (o' := .frz od (.dK kvs)))⟩
theorem i_lockBack {P H : Hp} {cs r : List Ch} {d : Addr} {od : Obj} {u : HO} {v : V} {Q : VK} (m : Mem P cs H) (s : Upd cs d (.frz od u) u r) (q : ∀ H', Mem P r H' → Q v H') : LockBack d od u Q v H := ⟨s.rd m, q _ (m.put s)⟩
def tLcD (J : It) (g : TG) (tt : TT) (te : TE) (vs : List Nat) (σ : L2.St) (H : Hp) (Q : VK) : Prop := ∀ D, H D = none → ∃ W : Nat → Nat → Hp → Prop, (∃ m, W 0 m (upd H D (.lst []))) ∧ ∀ i m H, W i m H →
      (J.stop i H ∧ Q (.ref D) H) ∨ (J.go i H ∧ ∃ Nx : Hp → Prop, (∀ H', Nx H' → ∃ m', m' < m ∧ W (i + 1) m' H') ∧ ∀ x H', J.yld i H x H' → g x (wipe σ vs) H' fun σ2 H2 => wipe σ2 vs = wipe σ vs ∧ tt σ2 H2 fun b H3 =>
        if b = true then te σ2 H3 fun y H4 => ∃ acc, H4 D = some (.lst acc) ∧ acc.length < sizeLine ∧ Nx (upd H4 D (.lst (acc ++ [y]))) else Nx H3)
theorem l_lcD {J : It} {n : Nat} {P : Hp} {cs : List Ch} {d : Addr} {o : Obj} {kvs : List (Key × V)} {Y : Nat → Hp → V → Hp → Prop} {g : TG} {tt : TT} {te : TE} {vs : List Nat} {σ : L2.St} {H : Hp} {Q : VK}
    (w : Walk J n (fun H => H d = some (.frz o (.dK kvs))) Y) (m : Mem P (pt d (.frz o (.dK kvs)) :: cs) H) (R : Nat → List V → Hp → Prop) (h0 : R 0 [] P)
    (hs : ∀ i x P' H' H1 acc D, i < n → Y i H1 x H' → Ex P P' → Mem P' (pt D (.lst acc) :: pt d (.frz o (.dK kvs)) :: cs) H1 → R i acc P' → ∀ (Kt : VK) (Kf : Hp → Prop),
      (∀ y P4 H4, Ex P' P4 → Mem P4 (pt D (.lst acc) :: pt d (.frz o (.dK kvs)) :: cs) H4 → acc.length < 100000 → R (i + 1) (acc ++ [y]) P4 → Kt y H4) →
      (∀ P4 H4, Ex P' P4 → Mem P4 (pt D (.lst acc) :: pt d (.frz o (.dK kvs)) :: cs) H4 → R (i + 1) acc P4 → Kf H4) →
      g x (wipe σ vs) H' fun σ2 H2 => wipe σ2 vs = wipe σ vs ∧ tt σ2 H2 fun b H3 => if b = true then te σ2 H3 Kt else Kf H3)
    (hd : ∀ D P' H' acc, Ex P P' → Mem P' (pt D (.lst acc) :: pt d (.frz o (.dK kvs)) :: cs) H' → R n acc P' → Q (.ref D) H') : tLcD J g tt te vs σ H Q := fun D hD =>
  lc_it (Qd := Q (.ref D)) w (fun i H' => ∃ P' acc, Ex P P' ∧ Mem P' (pt D (.lst acc) :: pt d (.frz o (.dK kvs)) :: cs) H' ∧ R i acc P') ⟨P, [], Ex.refl _, m.new hD, h0⟩ (fun i H' _ ⟨P', acc, e, m', _⟩ => m'.rd (.s .z))
    (fun i x H1 H' hi ⟨P', acc, e, m', r⟩ y => hs i x P' H' H1 acc D hi y e m' r _ _ (fun y P4 H4 e4 m4 l4 r4 => ⟨acc, m4.rd0, sz_lt l4, P4, _, e.trans e4, m4.put0, r4⟩) (fun P4 H4 e4 m4 r4 => ⟨P4, acc, e.trans e4, m4, r4⟩))
    (fun H' ⟨P', acc, e, m', r⟩ => hd D P' H' acc e m' r)
section
variable {P : Hp} {cs : List Ch} {d : Addr} {o : Obj} {kvs : List (Key × V)} {td : TE} {g : TG} {tt : TT} {te : TE} {vs : List Nat} {σ : L2.St} {H : Hp} {Q : VK}
/-- values -/
theorem l_lcV (m : Mem P (pt d (.frz o (.dK kvs)) :: cs) H) (R : Nat → List V → Hp → Prop) (h0 : R 0 [] P)
    (hs : ∀ i k x P' H' acc D, kvs[i]? = some (k, x) → Ex P P' → Mem P' (pt D (.lst acc) :: pt d (.frz o (.dK kvs)) :: cs) H' → R i acc P' → ∀ (Kt : VK) (Kf : Hp → Prop),
      (∀ y P4 H4, Ex P' P4 → Mem P4 (pt D (.lst acc) :: pt d (.frz o (.dK kvs)) :: cs) H4 → acc.length < 100000 → R (i + 1) (acc ++ [y]) P4 → Kt y H4) →
      (∀ P4 H4, Ex P' P4 → Mem P4 (pt D (.lst acc) :: pt d (.frz o (.dK kvs)) :: cs) H4 → R (i + 1) acc P4 → Kf H4) →
      g x (wipe σ vs) H' fun σ2 H2 => wipe σ2 vs = wipe σ vs ∧ tt σ2 H2 fun b H3 => if b = true then te σ2 H3 Kt else Kf H3)
    (hd : ∀ D P' H' acc, Ex P P' → Mem P' (pt D (.lst acc) :: pt d (.frz o (.dK kvs)) :: cs) H' → R kvs.length acc P' → Q (.ref D) H') :
    ∃ d' o' kvs', V.ref d = .ref d' ∧ H d' = some (.frz o' (.dK kvs')) ∧ tLcD (Itd d' o' kvs') g tt te vs σ H Q :=
  ⟨d, o, kvs, rfl, m.rd0, l_lcD walk_values m R h0 (fun i x P' H' H1 acc D hi y e m' r => by
    obtain ⟨rfl, k, hk⟩ := y
    exact hs i k x P' _ acc D hk e m' r) hd⟩
/-- keys -/
theorem l_lcK (m : Mem P (pt d (.frz o (.dK kvs)) :: cs) H) (R : Nat → List V → Hp → Prop) (h0 : R 0 [] P)
    (hs : ∀ i k x P' H' acc D, kvs[i]? = some (k, x) → Ex P P' → Mem P' (pt D (.lst acc) :: pt d (.frz o (.dK kvs)) :: cs) H' → R i acc P' → ∀ (Kt : VK) (Kf : Hp → Prop),
      (∀ y P4 H4, Ex P' P4 → Mem P4 (pt D (.lst acc) :: pt d (.frz o (.dK kvs)) :: cs) H4 → acc.length < 100000 → R (i + 1) (acc ++ [y]) P4 → Kt y H4) →
      (∀ P4 H4, Ex P' P4 → Mem P4 (pt D (.lst acc) :: pt d (.frz o (.dK kvs)) :: cs) H4 → R (i + 1) acc P4 → Kf H4) →
      g (kV k) (wipe σ vs) H' fun σ2 H2 => wipe σ2 vs = wipe σ vs ∧ tt σ2 H2 fun b H3 => if b = true then te σ2 H3 Kt else Kf H3)
    (hd : ∀ D P' H' acc, Ex P P' → Mem P' (pt D (.lst acc) :: pt d (.frz o (.dK kvs)) :: cs) H' → R kvs.length acc P' → Q (.ref D) H') :
    ∃ d' o', V.ref d = .ref d' ∧ ((∃ kvs', H d' = some (.frz o' (.dK kvs')) ∧ tLcD (Itk d' o' kvs') g tt te vs σ H Q) ∨ ∃ kvs', H d' = some (.frz o' (.dT kvs')) ∧ tLcD (Itkt d' o' kvs') g tt te vs σ H Q) :=
  ⟨d, o, rfl, .inl ⟨kvs, m.rd0, l_lcD walk_keys m R h0 (fun i x P' H' H1 acc D hi y e m' r => by
    obtain ⟨rfl, k, v, hk, rfl⟩ := y
    exact hs i k v P' _ acc D hk e m' r) hd⟩⟩
/-- items: a new tuple each turn -/
theorem l_lcI (m : Mem P (pt d (.frz o (.dK kvs)) :: cs) H) (R : Nat → List V → Hp → Prop) (h0 : R 0 [] P) (hR : ∀ i acc P1 P2, Ex P1 P2 → R i acc P1 → R i acc P2)
    (hs : ∀ i k x P' H' acc D T, kvs[i]? = some (k, x) → Ex P P' → Mem P' (pt D (.lst acc) :: pt d (.frz o (.dK kvs)) :: cs) H' → P' T = some (.tup [kV k, x]) → R i acc P' → ∀ (Kt : VK) (Kf : Hp → Prop),
      (∀ y P4 H4, Ex P' P4 → Mem P4 (pt D (.lst acc) :: pt d (.frz o (.dK kvs)) :: cs) H4 → acc.length < 100000 → R (i + 1) (acc ++ [y]) P4 → Kt y H4) →
      (∀ P4 H4, Ex P' P4 → Mem P4 (pt D (.lst acc) :: pt d (.frz o (.dK kvs)) :: cs) H4 → R (i + 1) acc P4 → Kf H4) →
      g (.ref T) (wipe σ vs) H' fun σ2 H2 => wipe σ2 vs = wipe σ vs ∧ tt σ2 H2 fun b H3 => if b = true then te σ2 H3 Kt else Kf H3)
    (hd : ∀ D P' H' acc, Ex P P' → Mem P' (pt D (.lst acc) :: pt d (.frz o (.dK kvs)) :: cs) H' → R kvs.length acc P' → Q (.ref D) H') :
    ∃ d' o' kvs', V.ref d = .ref d' ∧ H d' = some (.frz o' (.dK kvs')) ∧ tLcD (Iti d' o' kvs') g tt te vs σ H Q :=
  ⟨d, o, kvs, rfl, m.rd0, l_lcD walk_items m R h0 (fun i x P' H' H1 acc D hi y e m' r Kt Kf hKt hKf => by
    obtain ⟨T, k1, v1, rfl, h2, rfl, h4, h5⟩ := y
    obtain ⟨p, hp, rfl⟩ := Option.map_eq_some_iff.mp h4
    have h6 : kvs[i]?.map Prod.snd = some v1 := h5
    rw [hp] at h6
    obtain rfl : p.2 = v1 := by simpa using h6
    have f := m'.newP (o := .tup [kV p.1, p.2]) h2
    exact hs i p.1 p.2 _ _ acc D T hp (e.trans f.2) f.1 upd_same (hR _ _ _ _ f.2 r) Kt Kf (fun y P4 H4 e4 => hKt y P4 H4 (f.2.trans e4)) (fun P4 H4 e4 => hKf P4 H4 (f.2.trans e4))) hd⟩
end
theorem i_iValsE {td : TE} {σ : L2.St} {H : Hp} {R : It → Hp → Prop} (h : td σ H fun x H1 => ∃ d o kvs, x = .ref d ∧ H1 d = some (.frz o (.dK kvs)) ∧ R (Itd d o kvs) H1) : iVals td σ H R := h
theorem i_iItemsE {td : TE} {σ : L2.St} {H : Hp} {R : It → Hp → Prop} (h : td σ H fun x H1 => ∃ d o kvs, x = .ref d ∧ H1 d = some (.frz o (.dK kvs)) ∧ R (Iti d o kvs) H1) : iItems td σ H R := h
theorem i_iKeysE {td : TE} {σ : L2.St} {H : Hp} {R : It → Hp → Prop} (h : td σ H fun x H1 => ∃ d o, x = .ref d ∧ ((∃ kvs, H1 d = some (.frz o (.dK kvs)) ∧ R (Itk d o kvs) H1) ∨ ∃ kvs, H1 d = some (.frz o (.dT kvs)) ∧ R (Itkt d o kvs) H1)) : iKeys td σ H R := h
/-! ### reading a locked dict -/
theorem DGet.f {H : Hp} {a : Addr} {o : Obj} {kvs : List (Key × V)} {k : Key} (e : H a = some (.frz o (.dK kvs))) : DGet H a (kV k) (valV kvs k) := .inl ⟨kvs, k, .inr ⟨o, e⟩, rfl, rfl⟩
theorem i_dgetF {P H : Hp} {cs r : List Ch} {a : Addr} {o : Obj} {kvs : List (Key × V)} {k : Key} {v : V} {Q : VK} (m : Mem P cs H) (q : Sel cs (pt a (.frz o (.dK kvs))) r) (hv : valV kvs k = some v) (c : Q v H) : DGetAt (.ref a) (kV k) H Q := ⟨a, v, rfl, by rw [← hv]; exact DGet.f (m.rd q), c⟩
end FS

set_option Elab.async false
set_option maxRecDepth 100000
set_option linter.all false
/-! FsShelf: a shelf's plain state, its deeds, and what stays true of it. -/
namespace FS
open PySem L2
section
variable {κ α : Type} [DecidableEq κ]
theorem putK_map {g : κ → Key} {f : α → V} (hg : ∀ a b, g a = g b → a = b) (l : List (κ × α)) (k : κ) (v : α) : putK (l.map fun p => (g p.1, f p.2)) (g k) (f v) = (aset l k v).map fun p => (g p.1, f p.2) := by
  have e1 : ((l.map fun p => (g p.1, f p.2)).any fun kv => decide (kv.1 = g k)) = l.any fun p => decide (p.1 = k) := by
    rw [List.any_map]
    congr 1
    funext p
    by_cases e : p.1 = k
    · simp [e]
    · have : g p.1 ≠ g k := fun z => e (hg _ _ z)
      simp [e, this]
  unfold putK aset
  rw [e1]
  split
  · rw [List.map_map, List.map_map]
    refine List.map_congr_left fun p _ => ?_
    by_cases e : p.1 = k
    · simp [e]
    · have : g p.1 ≠ g k := fun z => e (hg _ _ z)
      simp [e, this]
  · rw [List.map_append]; rfl
def keys (l : List (κ × α)) : List κ := l.map (·.1)
theorem keys_app (a b : List (κ × α)) : keys (a ++ b) = keys a ++ keys b := List.map_append
theorem mem_keys {l : List (κ × α)} {k : κ} : k ∈ keys l ↔ ∃ v, (k, v) ∈ l := by
  unfold keys
  rw [List.mem_map]
  exact ⟨fun ⟨p, h, e⟩ => ⟨p.2, by rw [← e]; exact h⟩, fun ⟨v, h⟩ => ⟨_, h, rfl⟩⟩
theorem aget_nil (k : κ) : aget ([] : List (κ × α)) k = none := rfl
theorem aget_cons (p : κ × α) (l : List (κ × α)) (k : κ) : aget (p :: l) k = if p.1 = k then some p.2 else aget l k := by
  unfold aget
  rw [List.find?_cons]
  by_cases e : p.1 = k
  · rw [decide_eq_true e, if_pos e]; rfl
  · rw [decide_eq_false e, if_neg e]
theorem aget_none {l : List (κ × α)} {k : κ} : aget l k = none ↔ k ∉ keys l := by
  induction l with
  | nil => simp [aget_nil, keys]
  | cons p l ih =>
    rw [aget_cons]
    by_cases e : p.1 = k
    · rw [if_pos e]; simp [keys, e]
    · rw [if_neg e, ih]
      have : k ≠ p.1 := fun z => e z.symm
      simp [keys, this]
theorem aget_split {l : List (κ × α)} {k : κ} {v : α} (h : aget l k = some v) : ∃ A B, l = A ++ (k, v) :: B ∧ k ∉ keys A := by
  induction l with
  | nil => cases h
  | cons p l ih =>
    rw [aget_cons] at h
    by_cases e : p.1 = k
    · rw [if_pos e] at h
      cases h
      exact ⟨[], l, by rw [← e]; rfl, by simp [keys]⟩
    · rw [if_neg e] at h
      obtain ⟨A, B, rfl, hA⟩ := ih h
      exact ⟨p :: A, B, rfl, by
        have : k ≠ p.1 := fun z => e z.symm
        simp only [keys, List.map_cons, List.mem_cons, not_or]
        exact ⟨this, hA⟩⟩
theorem aget_mem {l : List (κ × α)} {k : κ} {v : α} (h : aget l k = some v) : (k, v) ∈ l := by
  obtain ⟨A, B, rfl, _⟩ := aget_split h
  simp
theorem aget_key {l : List (κ × α)} {k : κ} {v : α} (h : aget l k = some v) : k ∈ keys l := mem_keys.mpr ⟨v, aget_mem h⟩
theorem aget_some {l : List (κ × α)} {k : κ} (h : k ∈ keys l) : ∃ v, aget l k = some v := by
  cases e : aget l k with
  | none => exact absurd h (aget_none.mp e)
  | some v => exact ⟨v, rfl⟩
theorem aget_isSome {l : List (κ × α)} {k : κ} : (aget l k).isSome = decide (k ∈ keys l) := by
  cases e : aget l k with
  | none => have := aget_none.mp e; simp [this]
  | some v => have := aget_key e; simp [this]
theorem nd_split {A B : List (κ × α)} {k : κ} {v : α} (h : (keys (A ++ (k, v) :: B)).Nodup) : k ∉ keys A ∧ k ∉ keys B ∧ (keys (A ++ B)).Nodup := by
  unfold keys at h
  rw [List.map_append, List.map_cons] at h
  have h2 := (List.perm_middle (a := k) (l₁ := A.map (·.1)) (l₂ := B.map (·.1))).nodup_iff.mp h
  rw [List.nodup_cons, List.mem_append, not_or] at h2
  exact ⟨h2.1.1, h2.1.2, by rw [keys, List.map_append]; exact h2.2⟩
theorem aget_mid {A B : List (κ × α)} {k : κ} {v : α} (h : k ∉ keys A) : aget (A ++ (k, v) :: B) k = some v := by
  induction A with
  | nil => simp [aget_cons]
  | cons p A ih =>
    have h1 : ¬ p.1 = k := fun e => h (by simp [keys, e])
    rw [List.cons_append, aget_cons, if_neg h1]
    exact ih fun z => h (by simp only [keys, List.map_cons, List.mem_cons]; exact .inr z)
theorem aget_of {l : List (κ × α)} {k : κ} {v : α} (nd : (keys l).Nodup) (h : (k, v) ∈ l) : aget l k = some v := by
  obtain ⟨A, B, rfl⟩ := List.append_of_mem h
  exact aget_mid (nd_split nd).1
theorem adel_keep {A : List (κ × α)} {k : κ} (h : k ∉ keys A) : adel A k = A := by
  unfold adel
  refine List.filter_eq_self.mpr fun p hp => ?_
  have : p.1 ≠ k := fun e => h (by rw [← e]; exact List.mem_map_of_mem hp)
  simp [this]
theorem adel_mid {A B : List (κ × α)} {k : κ} {v : α} (h1 : k ∉ keys A) (h2 : k ∉ keys B) : adel (A ++ (k, v) :: B) k = A ++ B := by
  have e : adel (A ++ (k, v) :: B) k = adel A k ++ adel B k := by
    unfold adel
    rw [List.filter_append, List.filter_cons]
    simp
  rw [e, adel_keep h1, adel_keep h2]
theorem aset_new {l : List (κ × α)} {k : κ} {v : α} (h : k ∉ keys l) : aset l k v = l ++ [(k, v)] := by
  unfold aset
  rw [if_neg]
  intro z
  obtain ⟨p, hp, e⟩ := List.any_eq_true.mp z
  exact h (by rw [← of_decide_eq_true e]; exact List.mem_map_of_mem hp)
theorem amap_keep {A : List (κ × α)} {k : κ} {v : α} (h : k ∉ keys A) : (A.map fun p => if p.1 = k then (p.1, v) else p) = A := by
  have : (A.map fun p => if p.1 = k then (p.1, v) else p) = A.map id := List.map_congr_left fun p hp => by
    have : p.1 ≠ k := fun e => h (by rw [← e]; exact List.mem_map_of_mem hp)
    simp [this]
  rw [this, List.map_id]
theorem aset_mid {A B : List (κ × α)} {k : κ} {v v0 : α} (h1 : k ∉ keys A) (h2 : k ∉ keys B) : aset (A ++ (k, v0) :: B) k v = A ++ (k, v) :: B := by
  unfold aset
  rw [if_pos (by simp), List.map_append, List.map_cons, amap_keep h1, amap_keep h2]
  simp
theorem keys_aset_mid {A B : List (κ × α)} {k : κ} {v v0 : α} : keys (A ++ (k, v) :: B) = keys (A ++ (k, v0) :: B) := by simp [keys]
end
/-! ### the state -/
structure Sf where
  fo : List (Int × List Ent)
  fi : List (Int × (Int × Str))
  last : Int
def entsOf (fo : List (Int × List Ent)) : List (Int × Str × Int) := fo.flatMap fun q => q.2.map fun p => (q.1, p.1, p.2)
theorem ents_mem {fo : List (Int × List Ent)} {f : Int} {n : Str} {t : Int} : (f, n, t) ∈ entsOf fo ↔ ∃ l, (f, l) ∈ fo ∧ (n, t) ∈ l := by
  unfold entsOf
  rw [List.mem_flatMap]
  constructor
  · rintro ⟨q, hq, h⟩
    obtain ⟨p, hp, e⟩ := List.mem_map.mp h
    cases e
    exact ⟨q.2, hq, hp⟩
  · rintro ⟨l, hl, h⟩
    exact ⟨_, hl, List.mem_map.mpr ⟨_, h, rfl⟩⟩
theorem ents_app (a b : List (Int × List Ent)) : entsOf (a ++ b) = entsOf a ++ entsOf b := List.flatMap_append
theorem ents_cons (q : Int × List Ent) (b : List (Int × List Ent)) : entsOf (q :: b) = q.2.map (fun p => (q.1, p.1, p.2)) ++ entsOf b := List.flatMap_cons
inductive Reach (es : List (Int × Str × Int)) : Int → Int → Prop
  | refl (a) : Reach es a a
  | step {a b c : Int} {n : Str} : (a, n, b) ∈ es → Reach es b c → Reach es a c
theorem Reach.trans {es : List (Int × Str × Int)} {a b c : Int} (h : Reach es a b) (k : Reach es b c) : Reach es a c := by
  induction h with
  | refl => exact k
  | step e _ ih => exact .step e (ih k)
theorem Reach.last {es : List (Int × Str × Int)} {a c : Int} (h : Reach es a c) : a = c ∨ ∃ b n, Reach es a b ∧ (b, n, c) ∈ es := by
  induction h with
  | refl => exact .inl rfl
  | @step a b c n e r ih =>
    rcases ih with rfl | ⟨x, m, h1, h2⟩
    · exact .inr ⟨a, n, .refl _, e⟩
    · exact .inr ⟨x, m, .step e h1, h2⟩
theorem Reach.mono {es es' : List (Int × Str × Int)} (s : ∀ e ∈ es, e ∈ es') {a c : Int} (h : Reach es a c) : Reach es' a c := by
  induction h with
  | refl => exact .refl _
  | step e _ ih => exact .step (s _ e) ih
def Sf.es (s : Sf) : List (Int × Str × Int) := entsOf s.fo
def Sf.isFo (s : Sf) (k : Int) : Prop := k ∈ keys s.fo
def Sf.isFi (s : Sf) (k : Int) : Prop := k ∈ keys s.fi
instance (s : Sf) (k : Int) : Decidable (s.isFo k) := inferInstanceAs (Decidable (k ∈ keys s.fo))
instance (s : Sf) (k : Int) : Decidable (s.isFi k) := inferInstanceAs (Decidable (k ∈ keys s.fi))
def tgs (es : List (Int × Str × Int)) : List Int := es.map (·.2.2)
structure Sf.ok (s : Sf) (m : Nat) : Prop where
  ndo : (keys s.fo).Nodup
  ndi : (keys s.fi).Nodup
  dis : ∀ k, s.isFo k → ¬ s.isFi k
  lim : ∀ k, s.isFo k ∨ s.isFi k → 0 ≤ k ∧ k ≤ s.last
  nde : ∀ q ∈ s.fo, (keys q.2).Nodup
  root : s.isFo 0
  clash : s.isFo 1
  tgt : ∀ e ∈ s.es, s.isFo e.2.2 ∨ s.isFi e.2.2
  non0 : ∀ e ∈ s.es, e.2.2 ≠ 0
  one : ((tgs s.es).filter fun t => decide (s.isFo t)).Nodup
  has : ∀ k, s.isFo k ∨ s.isFi k → k ≠ 0 → k ∈ tgs s.es
  rank : ∃ dp : Int → Nat, ∀ e ∈ s.es, s.isFo e.2.2 → dp e.1 < dp e.2.2
  szo : s.fo.length ≤ m
  szi : s.fi.length ≤ m
  sze : s.es.length ≤ m
def Sf.new : Sf := ⟨[(0, [("clash", 1)]), (1, [])], [], 1⟩
theorem Sf.new_ok : Sf.new.ok 2 := by
  refine ⟨by decide, by decide, ?_, ?_, ?_, by decide, by decide, ?_, ?_, by decide, ?_, ⟨fun k => k.toNat, ?_⟩, by decide, by decide, by decide⟩
  · intro k _ h; simp [Sf.isFi, Sf.new, keys] at h
  · intro k h
    have : k = 0 ∨ k = 1 := by simpa [Sf.isFi, Sf.isFo, Sf.new, keys] using h
    rcases this with rfl | rfl <;> decide
  · intro q h
    have : q = ((0 : Int), [(("clash" : Str), (1 : Int))]) ∨ q = (1, []) := by simpa [Sf.new] using h
    rcases this with rfl | rfl <;> simp [keys]
  · intro e h
    have : e = ((0 : Int), ("clash" : Str), (1 : Int)) := by simpa [Sf.es, entsOf, Sf.new] using h
    subst this; left; decide
  · intro e h
    have : e = ((0 : Int), ("clash" : Str), (1 : Int)) := by simpa [Sf.es, entsOf, Sf.new] using h
    subst this; decide
  · intro k h k0
    have : k = 0 ∨ k = 1 := by simpa [Sf.isFi, Sf.isFo, Sf.new, keys] using h
    rcases this with rfl | rfl
    · exact absurd rfl k0
    · decide
  · intro e h _
    have : e = ((0 : Int), ("clash" : Str), (1 : Int)) := by simpa [Sf.es, entsOf, Sf.new] using h
    subst this; decide
/-! ### what the steps change -/
section
variable {fo : List (Int × List Ent)} {f t : Int} {l : List Ent} {n : Str}
theorem keys_aset {κ α : Type} [DecidableEq κ] {l : List (κ × α)} {k : κ} {v v0 : α} (h : aget l k = some v0) (nd : (keys l).Nodup) : keys (aset l k v) = keys l := by
  obtain ⟨A, B, rfl, _⟩ := aget_split h
  obtain ⟨h1, h2, _⟩ := nd_split nd
  rw [aset_mid h1 h2]
  exact keys_aset_mid
theorem len_aset {κ α : Type} [DecidableEq κ] {l : List (κ × α)} {k : κ} {v v0 : α} (h : aget l k = some v0) (nd : (keys l).Nodup) : (aset l k v).length = l.length := by
  obtain ⟨A, B, rfl, _⟩ := aget_split h
  obtain ⟨h1, h2, _⟩ := nd_split nd
  rw [aset_mid h1 h2]
  simp
theorem mem_aset {κ α : Type} [DecidableEq κ] {l : List (κ × α)} {k : κ} {v v0 : α} (h : aget l k = some v0) (nd : (keys l).Nodup) {q : κ × α} (hq : q ∈ aset l k v) : q ∈ l ∨ q = (k, v) := by
  obtain ⟨A, B, rfl, _⟩ := aget_split h
  obtain ⟨h1, h2, _⟩ := nd_split nd
  rw [aset_mid h1 h2] at hq
  rw [List.mem_append, List.mem_cons] at hq ⊢
  rcases hq with z | z | z
  · exact .inl (.inl z)
  · exact .inr z
  · exact .inl (.inr (.inr z))
theorem aget_aset {κ α : Type} [DecidableEq κ] {l : List (κ × α)} {k k2 : κ} {v v0 : α} (h : aget l k = some v0) (nd : (keys l).Nodup) : aget (aset l k v) k2 = if k = k2 then some v else aget l k2 := by
  obtain ⟨A, B, rfl, _⟩ := aget_split h
  obtain ⟨h1, h2, _⟩ := nd_split nd
  rw [aset_mid h1 h2]
  have key : ∀ A : List (κ × α), k ∉ keys A → aget (A ++ (k, v) :: B) k2 = if k = k2 then some v else aget (A ++ (k, v0) :: B) k2 := by
    intro A h1
    induction A with
    | nil =>
      rw [List.nil_append, List.nil_append, aget_cons, aget_cons]
      by_cases e : k = k2
      · simp [e]
      · simp [e]
    | cons p A ih =>
      have z : ¬ p.1 = k := fun e => h1 (by simp [keys, e])
      rw [List.cons_append, List.cons_append, aget_cons, aget_cons, ih fun z => h1 (by simp only [keys, List.map_cons, List.mem_cons]; exact .inr z)]
      by_cases e : k = k2
      · rw [if_neg (fun y => z (y.trans e.symm)), if_pos e, if_pos e]
      · rw [if_neg e, if_neg e]
  exact key A h1
theorem es_put (nd : (keys fo).Nodup) (h : aget fo f = some l) (hn : n ∉ keys l) : (entsOf (aset fo f (aset l n t))).Perm ((f, n, t) :: entsOf fo) := by
  obtain ⟨A, B, rfl, _⟩ := aget_split h
  obtain ⟨h1, h2, _⟩ := nd_split nd
  rw [aset_mid h1 h2, aset_new hn, ents_app, ents_app, ents_cons, ents_cons, List.map_append, List.append_assoc]
  refine List.Perm.trans (List.Perm.append_left _ (List.Perm.append_left _ (List.Perm.refl ([(f, n, t)] ++ entsOf B)))) ?_
  rw [← List.append_assoc, List.singleton_append]
  refine List.perm_middle.trans (List.Perm.cons _ ?_)
  rw [List.append_assoc]
theorem es_take (nd : (keys fo).Nodup) (h : aget fo f = some l) (ndl : (keys l).Nodup) (hn : aget l n = some t) : (entsOf fo).Perm ((f, n, t) :: entsOf (aset fo f (adel l n))) := by
  obtain ⟨A, B, rfl, _⟩ := aget_split h
  obtain ⟨h1, h2, _⟩ := nd_split nd
  obtain ⟨C, D, rfl, _⟩ := aget_split hn
  obtain ⟨h3, h4, _⟩ := nd_split ndl
  rw [aset_mid h1 h2, adel_mid h3 h4, ents_app, ents_app, ents_cons, ents_cons, List.map_append, List.map_append, List.map_cons]
  have e : entsOf A ++ (C.map (fun p => (f, p.1, p.2)) ++ (f, n, t) :: D.map (fun p => (f, p.1, p.2)) ++ entsOf B) = (entsOf A ++ C.map (fun p => (f, p.1, p.2))) ++ (f, n, t) :: (D.map (fun p => (f, p.1, p.2)) ++ entsOf B) := by simp
  rw [e]
  refine List.perm_middle.trans (List.Perm.cons _ ?_)
  simp
theorem es_drop (nd : (keys fo).Nodup) (h : aget fo t = some []) : entsOf (adel fo t) = entsOf fo := by
  obtain ⟨A, B, rfl, _⟩ := aget_split h
  obtain ⟨h1, h2, _⟩ := nd_split nd
  rw [adel_mid h1 h2, ents_app, ents_app, ents_cons]
  rfl
theorem mem_adel {κ α : Type} [DecidableEq κ] {l : List (κ × α)} {k : κ} {p : κ × α} : p ∈ adel l k ↔ p ∈ l ∧ p.1 ≠ k := by
  unfold adel
  rw [List.mem_filter]
  simp
theorem key_adel {κ α : Type} [DecidableEq κ] {l : List (κ × α)} {k x : κ} : x ∈ keys (adel l k) ↔ x ∈ keys l ∧ x ≠ k := by
  rw [mem_keys, mem_keys]
  constructor
  · rintro ⟨v, h⟩
    have := mem_adel.mp h
    exact ⟨⟨v, this.1⟩, this.2⟩
  · rintro ⟨⟨v, h⟩, e⟩
    exact ⟨v, mem_adel.mpr ⟨h, e⟩⟩
theorem nd_adel {κ α : Type} [DecidableEq κ] {l : List (κ × α)} {k : κ} (h : (keys l).Nodup) : (keys (adel l k)).Nodup := by
  unfold keys adel
  exact h.sublist ((List.filter_sublist).map _)
theorem len_adel {κ α : Type} [DecidableEq κ] {l : List (κ × α)} {k : κ} : (adel l k).length ≤ l.length := List.length_filter_le _ _
end
end FS

set_option Elab.async false
set_option maxRecDepth 100000
set_option linter.all false
/-! FsShelf2: what stays true of a shelf behind a deed. -/
namespace FS
open PySem L2
theorem tgs_mem {es : List (Int × Str × Int)} {k : Int} : k ∈ tgs es ↔ ∃ e ∈ es, e.2.2 = k := List.mem_map
theorem Sf.ok.up {s : Sf} {m m' : Nat} (h : s.ok m) (k : m ≤ m') : s.ok m' := { h with szo := Nat.le_trans h.szo k, szi := Nat.le_trans h.szi k, sze := Nat.le_trans h.sze k }
theorem Sf.ok.srcE {s : Sf} {m : Nat} (_ : s.ok m) {e : Int × Str × Int} (he : e ∈ s.es) : s.isFo e.1 := by
  obtain ⟨l, hl, _⟩ := ents_mem.mp (show (e.1, e.2.1, e.2.2) ∈ entsOf s.fo from he)
  exact mem_keys.mpr ⟨l, hl⟩
theorem Sf.ok.tgtN {s : Sf} {m : Nat} (h : s.ok m) {k : Int} (hk : k ∈ tgs s.es) : s.isFo k ∨ s.isFi k := by
  obtain ⟨e, he, rfl⟩ := tgs_mem.mp hk
  exact h.tgt e he
theorem uniq_of {α β : Type} (f : α → β) (p : β → Bool) : ∀ {l : List α}, ((l.map f).filter p).Nodup → ∀ {a b : α}, a ∈ l → b ∈ l → f a = f b → p (f a) = true → a = b
  | [], _, a, _, h, _, _, _ => by cases h
  | x :: l, hn, a, b, ha, hb, e, hp => by
    rw [List.map_cons, List.filter_cons] at hn
    rcases List.mem_cons.mp ha with rfl | ha2
    · rcases List.mem_cons.mp hb with rfl | hb2
      · rfl
      · rw [if_pos hp, List.nodup_cons] at hn
        exact absurd (List.mem_filter.mpr ⟨e ▸ List.mem_map_of_mem hb2, hp⟩) hn.1
    · have hn2 : ((l.map f).filter p).Nodup := by
        split at hn
        · exact (List.nodup_cons.mp hn).2
        · exact hn
      rcases List.mem_cons.mp hb with rfl | hb2
      · rw [if_pos (e ▸ hp), List.nodup_cons] at hn
        exact absurd (List.mem_filter.mpr ⟨e ▸ List.mem_map_of_mem ha2, e ▸ hp⟩) hn.1
      · exact uniq_of f p hn2 ha2 hb2 e hp
theorem Sf.ok.uniq {s : Sf} {m : Nat} (h : s.ok m) {a b : Int × Str × Int} (ha : a ∈ s.es) (hb : b ∈ s.es) (e : a.2.2 = b.2.2) (hf : s.isFo b.2.2) : a = b := uniq_of (l := s.es) (fun e : Int × Str × Int => e.2.2) (fun t => decide (s.isFo t)) h.one ha hb e (by simpa [e] using hf)
/-- a name given: to a new folder (b), a new file (c), or a file that is there -/
theorem ok_ent {s s' : Sf} {m : Nat} {f t : Int} {n : Str} {b c : Bool} (h : s.ok m) (hp : s'.es.Perm ((f, n, t) :: s.es)) (hf : s.isFo f) (ko : ∀ k, s'.isFo k ↔ s.isFo k ∨ (k = t ∧ b = true)) (ki : ∀ k, s'.isFi k ↔ s.isFi k ∨ (k = t ∧ c = true))
    (hb : (b = true ∧ c = false ∧ t = s.last + 1 ∧ s'.last = t) ∨ (b = false ∧ c = true ∧ t = s.last + 1 ∧ s'.last = t) ∨ (b = false ∧ c = false ∧ s.isFi t ∧ s'.last = s.last)) (ndo : (keys s'.fo).Nodup) (ndi : (keys s'.fi).Nodup) (nde : ∀ q ∈ s'.fo, (keys q.2).Nodup)
    (szo : s'.fo.length ≤ m + 1) (szi : s'.fi.length ≤ m + 1) : s'.ok (m + 1) := by
  have hm : ∀ e, e ∈ s'.es ↔ e = (f, n, t) ∨ e ∈ s.es := fun e => by rw [hp.mem_iff, List.mem_cons]
  have hl := h.lim
  have l0 := (hl 0 (.inl h.root)).2
  have fresh : t = s.last + 1 → ¬ s.isFo t ∧ ¬ s.isFi t ∧ t ∉ tgs s.es := fun e => by
    refine ⟨fun z => ?_, fun z => ?_, fun z => ?_⟩
    · have := (hl t (.inl z)).2; omega
    · have := (hl t (.inr z)).2; omega
    · have := (hl t (h.tgtN z)).2; omega
  have tF : b = false → ¬ s.isFo t := fun e => by
    rcases hb with ⟨z, _⟩ | ⟨_, _, z, _⟩ | ⟨_, _, z, _⟩
    · rw [z] at e; cases e
    · exact (fresh z).1
    · exact fun y => h.dis _ y z
  have bF : b = true → t ∉ tgs s.es ∧ ¬ s.isFo t ∧ ¬ s.isFi t := fun e => by
    rcases hb with ⟨_, _, z, _⟩ | ⟨z, _⟩ | ⟨z, _⟩
    · exact ⟨(fresh z).2.2, (fresh z).1, (fresh z).2.1⟩
    · rw [z] at e; cases e
    · rw [z] at e; cases e
  have t0 : t ≠ 0 := by
    rcases hb with ⟨_, _, z, _⟩ | ⟨_, _, z, _⟩ | ⟨_, _, z, _⟩
    · omega
    · omega
    · exact fun e => h.dis 0 h.root (e ▸ z)
  refine ⟨ndo, ndi, fun k h1 h2 => ?_, fun k hk => ?_, nde, (ko 0).mpr (.inl h.root), (ko 1).mpr (.inl h.clash), fun e he => ?_, fun e he => ?_, ?_, fun k hk k0 => ?_, ?_, szo, szi, by rw [hp.length_eq]; exact Nat.succ_le_succ h.sze⟩
  · rcases (ko k).mp h1 with z1 | ⟨rfl, z1⟩ <;> rcases (ki k).mp h2 with z2 | ⟨z3, z2⟩
    · exact h.dis k z1 z2
    · subst z3
      rcases hb with ⟨_, y, _⟩ | ⟨_, _, y, _⟩ | ⟨_, y, _⟩
      · rw [y] at z2; cases z2
      · exact (fresh y).1 z1
      · rw [y] at z2; cases z2
    · exact (bF z1).2.2 z2
    · rcases hb with ⟨_, y, _⟩ | ⟨y, _⟩ | ⟨y, _⟩
      · rw [y] at z2; cases z2
      · rw [y] at z1; cases z1
      · rw [y] at z1; cases z1
  · have old : s.isFo k ∨ s.isFi k → 0 ≤ k ∧ k ≤ s'.last := fun z => by
      have := hl k z
      rcases hb with ⟨_, _, y, y2⟩ | ⟨_, _, y, y2⟩ | ⟨_, _, y, y2⟩ <;> omega
    have new : k = t → (b = true ∨ c = true) → 0 ≤ k ∧ k ≤ s'.last := fun z z2 => by
      rcases hb with ⟨_, _, y, y2⟩ | ⟨_, _, y, y2⟩ | ⟨y1, y3, _, _⟩
      · omega
      · omega
      · rw [y1, y3] at z2; simp at z2
    rcases hk with z | z
    · rcases (ko k).mp z with z | ⟨z, z2⟩
      · exact old (.inl z)
      · exact new z (.inl z2)
    · rcases (ki k).mp z with z | ⟨z, z2⟩
      · exact old (.inr z)
      · exact new z (.inr z2)
  · rcases (hm e).mp he with rfl | z
    · rcases hb with ⟨y, _⟩ | ⟨_, y, _⟩ | ⟨_, _, y, _⟩
      · exact .inl ((ko t).mpr (.inr ⟨rfl, y⟩))
      · exact .inr ((ki t).mpr (.inr ⟨rfl, y⟩))
      · exact .inr ((ki t).mpr (.inl y))
    · rcases h.tgt e z with y | y
      · exact .inl ((ko _).mpr (.inl y))
      · exact .inr ((ki _).mpr (.inl y))
  · rcases (hm e).mp he with rfl | z
    · exact t0
    · exact h.non0 e z
  · have hq : (tgs s'.es).Perm (t :: tgs s.es) := hp.map _
    have hq2 := hq.filter fun t => decide (s'.isFo t)
    rw [hq2.nodup_iff]
    have same : t ∉ tgs s.es ∨ b = false → (tgs s.es).filter (fun t => decide (s'.isFo t)) = (tgs s.es).filter fun t => decide (s.isFo t) := fun z => by
      refine List.filter_congr fun k hk => ?_
      have : s'.isFo k ↔ s.isFo k := by
        rw [ko]
        refine ⟨fun y => ?_, .inl⟩
        rcases y with y | ⟨rfl, y⟩
        · exact y
        · rcases z with z | z
          · exact absurd hk z
          · rw [z] at y; cases y
      simp [this]
    cases hbb : b with
    | true =>
      have y := bF hbb
      have e : s'.isFo t := (ko t).mpr (.inr ⟨rfl, hbb⟩)
      rw [List.filter_cons, if_pos (by simpa using e), same (.inl y.1), List.nodup_cons]
      exact ⟨fun z => y.1 ((List.mem_filter.mp z).1), h.one⟩
    | false =>
      have e : ¬ s'.isFo t := fun z => by
        rcases (ko t).mp z with z | ⟨_, z⟩
        · exact tF hbb z
        · rw [hbb] at z; cases z
      rw [List.filter_cons, if_neg (by simpa using e), same (.inr hbb)]
      exact h.one
  · have mem : k ∈ tgs s.es → k ∈ tgs s'.es := fun z => by
      obtain ⟨e, he, z⟩ := tgs_mem.mp z
      exact tgs_mem.mpr ⟨e, (hm e).mpr (.inr he), z⟩
    have new : k = t → k ∈ tgs s'.es := fun z => tgs_mem.mpr ⟨(f, n, t), (hm _).mpr (.inl rfl), z.symm⟩
    rcases hk with z | z
    · rcases (ko k).mp z with z | ⟨z, z2⟩
      · exact mem (h.has k (.inl z) k0)
      · exact new z
    · rcases (ki k).mp z with z | ⟨z, z2⟩
      · exact mem (h.has k (.inr z) k0)
      · exact new z
  · obtain ⟨dp, hd⟩ := h.rank
    refine ⟨fun k => if k = t ∧ b = true then dp f + 1 else dp k, fun e he hfo => ?_⟩
    rcases (hm e).mp he with rfl | z
    · have hb1 : b = true := by
        rcases (ko t).mp hfo with y | ⟨_, y⟩
        · cases hbb : b with
          | true => rfl
          | false => exact absurd y (tF hbb)
        · exact y
      have hft : f ≠ t := fun y => (bF hb1).2.1 (y ▸ hf)
      show (if f = t ∧ b = true then dp f + 1 else dp f) < if t = t ∧ b = true then dp f + 1 else dp t
      rw [if_neg (fun y => hft y.1), if_pos ⟨rfl, hb1⟩]
      exact Nat.lt_succ_self _
    · have n1 : ¬ (e.1 = t ∧ b = true) := fun y => (bF y.2).2.1 (y.1 ▸ h.srcE z)
      have n2 : ¬ (e.2.2 = t ∧ b = true) := fun y => (bF y.2).1 (y.1 ▸ tgs_mem.mpr ⟨e, z, rfl⟩)
      show (if e.1 = t ∧ b = true then dp f + 1 else dp e.1) < if e.2.2 = t ∧ b = true then dp f + 1 else dp e.2.2
      rw [if_neg n1, if_neg n2]
      refine hd e z ?_
      rcases (ko _).mp hfo with y | y
      · exact y
      · exact absurd y n2
/-- a name taken: a folder that is empty goes (b), a file with no more names goes (c) -/
theorem ok_cut {s s' : Sf} {m : Nat} {f t : Int} {n : Str} {b c : Bool} (h : s.ok m) (hp : s.es.Perm ((f, n, t) :: s'.es)) (t1 : t ≠ 1) (ko : ∀ k, s'.isFo k ↔ s.isFo k ∧ ¬ (k = t ∧ b = true)) (ki : ∀ k, s'.isFi k ↔ s.isFi k ∧ ¬ (k = t ∧ c = true))
    (hb : b = decide (s.isFo t)) (hc : c = (!decide (s.isFo t) && !decide (t ∈ tgs s'.es))) (ndo : (keys s'.fo).Nodup) (ndi : (keys s'.fi).Nodup) (nde : ∀ q ∈ s'.fo, (keys q.2).Nodup) (szo : s'.fo.length ≤ m) (szi : s'.fi.length ≤ m) (hl : s'.last = s.last) : s'.ok m := by
  have hm : ∀ e, e ∈ s.es ↔ e = (f, n, t) ∨ e ∈ s'.es := fun e => by rw [hp.mem_iff, List.mem_cons]
  have hin : (f, n, t) ∈ s.es := (hm _).mpr (.inl rfl)
  have t0 : t ≠ 0 := h.non0 _ hin
  have hq : (tgs s.es).Perm (t :: tgs s'.es) := hp.map _
  have hone := (hq.filter fun t => decide (s.isFo t)).nodup_iff.mp h.one
  have gone : s.isFo t → t ∉ tgs s'.es := fun z y => by
    rw [List.filter_cons, if_pos (by simpa using z), List.nodup_cons] at hone
    exact hone.1 (List.mem_filter.mpr ⟨y, by simpa using z⟩)
  refine ⟨ndo, ndi, fun k h1 h2 => h.dis k ((ko k).mp h1).1 ((ki k).mp h2).1, fun k hk => ?_, nde, (ko 0).mpr ⟨h.root, fun y => t0 y.1.symm⟩, (ko 1).mpr ⟨h.clash, fun y => t1 y.1.symm⟩, fun e he => ?_, fun e he => h.non0 e ((hm e).mpr (.inr he)), ?_, fun k hk k0 => ?_, ?_, szo, szi, ?_⟩
  · rw [hl]
    rcases hk with z | z
    · exact h.lim k (.inl ((ko k).mp z).1)
    · exact h.lim k (.inr ((ki k).mp z).1)
  · have hmem : e.2.2 ∈ tgs s'.es := tgs_mem.mpr ⟨e, he, rfl⟩
    rcases h.tgt e ((hm e).mpr (.inr he)) with y | y
    · refine .inl ((ko _).mpr ⟨y, fun z => ?_⟩)
      rw [z.1] at hmem y
      exact gone y hmem
    · refine .inr ((ki _).mpr ⟨y, fun z => ?_⟩)
      rw [z.1] at hmem
      have := z.2
      rw [hc] at this
      simp [hmem] at this
  · have e : (tgs s'.es).filter (fun t => decide (s'.isFo t)) = (tgs s'.es).filter fun t => decide (s.isFo t) := by
      refine List.filter_congr fun k hk => ?_
      have : s'.isFo k ↔ s.isFo k := by
        rw [ko]
        refine ⟨fun y => y.1, fun y => ⟨y, fun z => ?_⟩⟩
        rw [z.1] at y hk
        exact gone y hk
      simp [this]
    rw [e]
    rw [List.filter_cons] at hone
    split at hone
    · exact (List.nodup_cons.mp hone).2
    · exact hone
  · have old : s.isFo k ∨ s.isFi k := by
      rcases hk with z | z
      · exact .inl ((ko k).mp z).1
      · exact .inr ((ki k).mp z).1
    have := h.has k old k0
    rw [hq.mem_iff, List.mem_cons] at this
    rcases this with rfl | z
    · rcases hk with z | z
      · have := (ko k).mp z
        exact absurd ⟨rfl, by rw [hb]; simpa using this.1⟩ this.2
      · have := (ki k).mp z
        have nf : ¬ s.isFo k := fun y => h.dis k y this.1
        by_cases y : k ∈ tgs s'.es
        · exact y
        · exact absurd ⟨rfl, by rw [hc]; simp [nf, y]⟩ this.2
    · exact z
  · obtain ⟨dp, hd⟩ := h.rank
    exact ⟨dp, fun e he hfo => hd e ((hm e).mpr (.inr he)) ((ko _).mp hfo).1⟩
  · have := hp.length_eq
    have := h.sze
    simp at *
    omega
open Classical in
/-- a node is led to from elsewhere -/
theorem ok_move {s s' : Sf} {m : Nat} {f g t : Int} {n n2 : Str} {es1 : List (Int × Str × Int)} (h : s.ok m) (hp : s.es.Perm ((f, n, t) :: es1)) (hp2 : s'.es.Perm ((g, n2, t) :: es1)) (hg : s.isFo g) (nr : s.isFo t → ¬ Reach s.es t g)
    (ko : keys s'.fo = keys s.fo) (ki : s'.fi = s.fi) (hl : s'.last = s.last) (nde : ∀ q ∈ s'.fo, (keys q.2).Nodup) : s'.ok m := by
  have hm : ∀ e, e ∈ s.es ↔ e = (f, n, t) ∨ e ∈ es1 := fun e => by rw [hp.mem_iff, List.mem_cons]
  have hm2 : ∀ e, e ∈ s'.es ↔ e = (g, n2, t) ∨ e ∈ es1 := fun e => by rw [hp2.mem_iff, List.mem_cons]
  have hin : (f, n, t) ∈ s.es := (hm _).mpr (.inl rfl)
  have iF : ∀ k, s'.isFo k ↔ s.isFo k := fun k => by unfold Sf.isFo; rw [ko]
  have iI : ∀ k, s'.isFi k ↔ s.isFi k := fun k => by unfold Sf.isFi; rw [ki]
  have hq : (tgs s.es).Perm (tgs s'.es) := by
    have a1 : (tgs s.es).Perm (t :: tgs es1) := hp.map _
    have a2 : (tgs s'.es).Perm (t :: tgs es1) := hp2.map _
    exact a1.trans a2.symm
  have hq1 : (tgs s.es).Perm (t :: tgs es1) := hp.map _
  have hone := (hq1.filter fun t => decide (s.isFo t)).nodup_iff.mp h.one
  refine ⟨by rw [ko]; exact h.ndo, by rw [ki]; exact h.ndi, fun k h1 h2 => h.dis k ((iF k).mp h1) ((iI k).mp h2), fun k hk => ?_, nde, (iF 0).mpr h.root, (iF 1).mpr h.clash, fun e he => ?_, fun e he => ?_, ?_, fun k hk k0 => ?_, ?_, ?_, by rw [ki]; exact h.szi, ?_⟩
  · rw [hl]; rw [iF, iI] at hk; exact h.lim k hk
  · rw [iF, iI]
    rcases (hm2 e).mp he with rfl | z
    · exact h.tgt (f, n, t) hin
    · exact h.tgt e ((hm e).mpr (.inr z))
  · rcases (hm2 e).mp he with rfl | z
    · exact h.non0 (f, n, t) hin
    · exact h.non0 e ((hm e).mpr (.inr z))
  · have e : (tgs s'.es).filter (fun t => decide (s'.isFo t)) = (tgs s'.es).filter fun t => decide (s.isFo t) := List.filter_congr fun k _ => by simp [iF]
    rw [e]
    exact (hq.filter _).nodup_iff.mp h.one
  · rw [iF, iI] at hk
    exact hq.mem_iff.mp (h.has k hk k0)
  · obtain ⟨dp, hd⟩ := h.rank
    by_cases ht : s.isFo t
    · have nr := nr ht
      have tn : t ∉ tgs es1 := fun z => by
        rw [List.filter_cons, if_pos (by simpa using ht), List.nodup_cons] at hone
        exact hone.1 (List.mem_filter.mpr ⟨z, by simpa using ht⟩)
      refine ⟨fun k => if Reach s.es t k then dp k + dp g + 1 else dp k, fun e he hfo => ?_⟩
      rw [iF] at hfo
      rcases (hm2 e).mp he with rfl | z
      · show (if Reach s.es t g then dp g + dp g + 1 else dp g) < if Reach s.es t t then dp t + dp g + 1 else dp t
        rw [if_neg nr, if_pos (.refl _)]
        omega
      · have hs := (hm e).mpr (.inr z)
        have lt := hd e hs hfo
        show (if Reach s.es t e.1 then dp e.1 + dp g + 1 else dp e.1) < if Reach s.es t e.2.2 then dp e.2.2 + dp g + 1 else dp e.2.2
        by_cases r : Reach s.es t e.1
        · rw [if_pos r, if_pos (r.trans (.step (n := e.2.1) hs (.refl _)))]
          omega
        · have r2 : ¬ Reach s.es t e.2.2 := fun y => by
            rcases y.last with y | ⟨x, k, y1, y2⟩
            · exact tn (tgs_mem.mpr ⟨e, z, y.symm⟩)
            · -- the one entry that leads there
              have hx : (x, k, e.2.2) = e := h.uniq y2 hs rfl hfo
              exact r (by rw [← hx]; exact y1)
          rw [if_neg r, if_neg r2]
          exact lt
    · refine ⟨dp, fun e he hfo => ?_⟩
      rw [iF] at hfo
      rcases (hm2 e).mp he with rfl | z
      · exact absurd hfo ht
      · exact hd e ((hm e).mpr (.inr z)) hfo
  · have : s'.fo.length = s.fo.length := by
      have := congrArg List.length ko
      simpa [keys] using this
    rw [this]; exact h.szo
  · have h1 := hp.length_eq
    have h2 := hp2.length_eq
    have := h.sze
    simp at *
    omega
end FS

set_option Elab.async false
set_option maxRecDepth 100000
set_option linter.all false
/-! FsShelf3: deeds, the first word that is due, what a deed does. -/
namespace FS
open PySem L2
def allB (f : Nat → Bool) (z : Str) : Bool := (z.cps.toList.map f).all id
def SG : Str := "abcdefghijklmnopqrstuvwxyz0123456789"
def SGP : Str := "abcdefghijklmnopqrstuvwxyz0123456789."
def nameB (z : Str) : Bool := (decide ((1 : Int) ≤ z.length) && decide ((z.length : Int) ≤ 8)) && allB (fun c => decide (c ∈ SG.cps.toList)) z
def contB (z : Str) : Bool := decide ((z.length : Int) ≤ 200) && allB (fun c => decide (c ∈ SGP.cps.toList)) z
inductive Deed
  | make (f : Int) (n c : Str)
  | fold (f : Int) (n : Str)
  | link (f : Int) (n : Str) (t : Int)
  | drop (f : Int) (n : Str)
  | move (f : Int) (n : Str) (g : Int) (n2 : Str)
  | put (f v : Int) (c : Str)
def Deed.vs : Deed → List V
  | .make f n c => [.str "make", .int f, .str n, .str c]
  | .fold f n => [.str "fold", .int f, .str n]
  | .link f n t => [.str "link", .int f, .str n, .int t]
  | .drop f n => [.str "drop", .int f, .str n]
  | .move f n g n2 => [.str "move", .int f, .str n, .int g, .str n2]
  | .put f v c => [.str "put", .int f, .int v, .str c]
/-- texts of bounded length -/
def Deed.sz : Deed → Prop
  | .make _ n c => n.length ≤ 1000 ∧ c.length ≤ 1000
  | .fold _ n => n.length ≤ 1000
  | .link _ n _ => n.length ≤ 1000
  | .drop _ n => n.length ≤ 1000
  | .move _ n _ n2 => n.length ≤ 1000 ∧ n2.length ≤ 1000
  | .put _ _ c => c.length ≤ 1000
def Sf.entry (s : Sf) (f : Int) (n : Str) : Option Int := (aget s.fo f).bind fun l => aget l n
def Sf.nodesF (s : Sf) (a b : List Int) : Str := if ((a ++ b).all fun k => decide (s.isFo k) || decide (s.isFi k)) = true then (if (a.all (fun k => decide (s.isFo k)) && b.all fun k => decide (s.isFi k)) = true then "" else "kind") else "gone"
def Sf.newF (s : Sf) (f : Int) (n : Str) (fs : List Int) : Str := if nameB n = true then (if s.nodesF [f] fs = "" then (if (s.entry f n).isSome = true then "there" else "") else s.nodesF [f] fs) else "name"
def Sf.dropF (s : Sf) (f : Int) (n : Str) : Str := if nameB n = true then (if s.nodesF [f] [] = "" then (match s.entry f n with
  | none => "lacks"
  | some t => if t = 1 then "kept" else if 0 < ((aget s.fo t).getD []).length then "full" else "") else s.nodesF [f] []) else "name"
noncomputable instance (es : List (Int × Str × Int)) (a b : Int) : Decidable (Reach es a b) := Classical.propDecidable _
noncomputable def Sf.moveF (s : Sf) (f : Int) (n : Str) (g : Int) (n2 : Str) : Str := if (nameB n && nameB n2) = true then (if s.nodesF [f, g] [] = "" then (match s.entry f n with
  | none => "lacks"
  | some t => if (s.entry g n2).isSome = true then "there" else if t = 1 then "kept" else if Reach s.es t g then "beneath" else "") else s.nodesF [f, g] []) else "name"
def Sf.putF (s : Sf) (f v : Int) (c : Str) : Str := if contB c = true then (if s.nodesF [] [f] = "" then (if ((aget s.fi f).getD (0, "")).1 = v then "" else "stale") else s.nodesF [] [f]) else "name"
noncomputable def Sf.fault (s : Sf) : Deed → Str
  | .make f n c => if contB c = true then s.newF f n [] else "name"
  | .fold f n => s.newF f n []
  | .link f n t => s.newF f n [t]
  | .drop f n => s.dropF f n
  | .move f n g n2 => s.moveF f n g n2
  | .put f v c => s.putF f v c
def putE (fo : List (Int × List Ent)) (f : Int) (n : Str) (t : Int) : List (Int × List Ent) := match aget fo f with
  | none => fo
  | some l => aset fo f (aset l n t)
def takeE (fo : List (Int × List Ent)) (f : Int) (n : Str) : List (Int × List Ent) := match aget fo f with
  | none => fo
  | some l => aset fo f (adel l n)
def okD : List PyData := [.str "ok"]
def Sf.act (s : Sf) : Deed → Sf × List PyData
  | .make f n c => (⟨putE s.fo f n (s.last + 1), s.fi ++ [(s.last + 1, (0, c))], s.last + 1⟩, [.str "made", .int (s.last + 1)])
  | .fold f n => (⟨putE (s.fo ++ [(s.last + 1, [])]) f n (s.last + 1), s.fi, s.last + 1⟩, [.str "made", .int (s.last + 1)])
  | .link f n t => (⟨putE s.fo f n t, s.fi, s.last⟩, okD)
  | .drop f n => match s.entry f n with
    | none => (s, okD)
    | some t => (if s.isFo t then ⟨adel (takeE s.fo f n) t, s.fi, s.last⟩ else if t ∈ tgs (entsOf (takeE s.fo f n)) then ⟨takeE s.fo f n, s.fi, s.last⟩ else ⟨takeE s.fo f n, adel s.fi t, s.last⟩, okD)
  | .move f n g n2 => match s.entry f n with
    | none => (s, okD)
    | some t => (⟨putE (takeE s.fo f n) g n2 t, s.fi, s.last⟩, okD)
  | .put f v c => (⟨s.fo, aset s.fi f (v + 1, c), s.last⟩, [.str "put", .int (v + 1)])
noncomputable def Sf.doD (s : Sf) (d : Deed) : Sf × List PyData := if s.fault d = "" then s.act d else (s, [.str "refused", .str (s.fault d)])
theorem ne_there : ("there" : Str) ≠ "" := by decide
theorem ne_name : ("name" : Str) ≠ "" := by decide
theorem ne_gone : ("gone" : Str) ≠ "" := by decide
theorem ne_kind : ("kind" : Str) ≠ "" := by decide
theorem ne_lacks : ("lacks" : Str) ≠ "" := by decide
theorem ne_kept : ("kept" : Str) ≠ "" := by decide
theorem ne_full : ("full" : Str) ≠ "" := by decide
theorem ne_beneath : ("beneath" : Str) ≠ "" := by decide
theorem ne_stale : ("stale" : Str) ≠ "" := by decide
theorem nodesF_nil {s : Sf} {a b : List Int} (h : s.nodesF a b = "") : (∀ k ∈ a, s.isFo k) ∧ ∀ k ∈ b, s.isFi k := by
  unfold Sf.nodesF at h
  split at h
  · split at h
    · rename_i _ z
      rw [Bool.and_eq_true, List.all_eq_true, List.all_eq_true] at z
      exact ⟨fun k hk => of_decide_eq_true (z.1 k hk), fun k hk => of_decide_eq_true (z.2 k hk)⟩
    · exact absurd h ne_kind
  · exact absurd h ne_gone
theorem newF_nil {s : Sf} {f : Int} {n : Str} {fs : List Int} (h : s.newF f n fs = "") : nameB n = true ∧ s.isFo f ∧ (∀ k ∈ fs, s.isFi k) ∧ s.entry f n = none := by
  unfold Sf.newF at h
  split at h
  · rename_i h1
    split at h
    · rename_i h2
      have z := nodesF_nil h2
      split at h
      · exact absurd h ne_there
      · rename_i h3
        exact ⟨h1, z.1 f (by simp), z.2, by simpa using h3⟩
    · rename_i h2; exact absurd h h2
  · exact absurd h ne_name
theorem dropF_nil {s : Sf} {f : Int} {n : Str} (h : s.dropF f n = "") : s.isFo f ∧ ∃ t, s.entry f n = some t ∧ t ≠ 1 ∧ (s.isFo t → aget s.fo t = some []) := by
  unfold Sf.dropF at h
  split at h
  · split at h
    · rename_i h2
      have z := nodesF_nil h2
      split at h
      · exact absurd h ne_lacks
      · rename_i t ht
        split at h
        · exact absurd h ne_kept
        · rename_i h3
          split at h
          · exact absurd h ne_full
          · rename_i h4
            refine ⟨z.1 f (by simp), t, ht, h3, fun y => ?_⟩
            obtain ⟨l, hl⟩ := aget_some y
            rw [hl] at h4 ⊢
            have : l.length = 0 := by simpa using h4
            rw [List.length_eq_zero_iff.mp this]
    · rename_i h2; exact absurd h h2
  · exact absurd h ne_name
theorem moveF_nil {s : Sf} {f g : Int} {n n2 : Str} (h : s.moveF f n g n2 = "") : s.isFo f ∧ s.isFo g ∧ ∃ t, s.entry f n = some t ∧ t ≠ 1 ∧ s.entry g n2 = none ∧ ¬ Reach s.es t g := by
  unfold Sf.moveF at h
  split at h
  · split at h
    · rename_i h2
      have z := nodesF_nil h2
      split at h
      · exact absurd h ne_lacks
      · rename_i t ht
        split at h
        · exact absurd h ne_there
        · rename_i h5
          split at h
          · exact absurd h ne_kept
          · rename_i h3
            split at h
            · exact absurd h ne_beneath
            · rename_i h4
              exact ⟨z.1 f (by simp), z.1 g (by simp), t, ht, h3, by simpa using h5, h4⟩
    · rename_i h2; exact absurd h h2
  · exact absurd h ne_name
theorem putF_nil {s : Sf} {f v : Int} {c : Str} (h : s.putF f v c = "") : contB c = true ∧ ∃ p, aget s.fi f = some p ∧ p.1 = v := by
  unfold Sf.putF at h
  split at h
  · rename_i h1
    split at h
    · rename_i h2
      have z := (nodesF_nil h2).2 f (by simp)
      obtain ⟨p, hp⟩ := aget_some z
      split at h
      · rename_i h3
        rw [hp] at h3
        exact ⟨h1, p, hp, h3⟩
      · exact absurd h ne_stale
    · rename_i h2; exact absurd h h2
  · exact absurd h ne_name
theorem entry_none {s : Sf} {f : Int} {n : Str} {l : List Ent} (hl : aget s.fo f = some l) : s.entry f n = none ↔ n ∉ keys l := by
  unfold Sf.entry
  rw [hl]
  exact aget_none
theorem entry_some {s : Sf} {f t : Int} {n : Str} (h : s.entry f n = some t) : ∃ l, aget s.fo f = some l ∧ aget l n = some t := by
  unfold Sf.entry at h
  cases e : aget s.fo f with
  | none => rw [e] at h; cases h
  | some l => rw [e] at h; exact ⟨l, rfl, h⟩
theorem Sf.ok.ndl {s : Sf} {m : Nat} (h : s.ok m) {f : Int} {l : List Ent} (hl : aget s.fo f = some l) : (keys l).Nodup := h.nde _ (aget_mem hl)
theorem nd_aset {l : List Ent} {n : Str} {t : Int} (nd : (keys l).Nodup) (hn : n ∉ keys l) : (keys (aset l n t)).Nodup := by
  rw [aset_new hn, keys_app]
  exact List.nodup_append.mpr ⟨nd, by simp [keys], fun a ha b hb => by
    have : b = n := by simpa [keys] using hb
    rw [this]; exact fun e => hn (e ▸ ha)⟩
theorem nd_snoc {α : Type} {l : List (Int × α)} {k : Int} {v : α} (nd : (keys l).Nodup) (hn : k ∉ keys l) : (keys (l ++ [(k, v)])).Nodup := by
  rw [keys_app]
  exact List.nodup_append.mpr ⟨nd, by simp [keys], fun a ha b hb => by
    have : b = k := by simpa [keys] using hb
    rw [this]; exact fun e => hn (e ▸ ha)⟩
theorem aget_app {α : Type} {l r : List (Int × α)} {k : Int} {v : α} (h : aget l k = some v) : aget (l ++ r) k = some v := by
  obtain ⟨A, B, rfl, hA⟩ := aget_split h
  rw [List.append_assoc]
  exact aget_mid hA
theorem act_ok {s : Sf} {m : Nat} {d : Deed} (h : s.ok m) (hf : s.fault d = "") : (s.act d).1.ok (m + 1) := by
  have fr : ∀ k, k = s.last + 1 → ¬ s.isFo k ∧ ¬ s.isFi k := fun k e => ⟨fun z => by have := (h.lim k (.inl z)).2; omega, fun z => by have := (h.lim k (.inr z)).2; omega⟩
  cases d with
  | make f n c =>
    simp only [Sf.fault] at hf
    split at hf
    · obtain ⟨_, h2, _, h4⟩ := newF_nil hf
      obtain ⟨l, hl⟩ := aget_some h2
      have hn := (entry_none hl).mp h4
      have e1 : putE s.fo f n (s.last + 1) = aset s.fo f (aset l n (s.last + 1)) := by unfold putE; rw [hl]
      show (Sf.mk _ _ _).ok (m + 1)
      rw [e1]
      have kk := keys_aset (v := aset l n (s.last + 1)) hl h.ndo
      refine ok_ent (b := false) (c := true) h (es_put h.ndo hl hn) h2 (fun k => ?_) (fun k => ?_) (.inr (.inl ⟨rfl, rfl, rfl, rfl⟩)) (by show (keys _).Nodup; rw [kk]; exact h.ndo) (nd_snoc h.ndi (fr _ rfl).2) (fun q hq => ?_) ?_ ?_
      · show k ∈ keys _ ↔ _
        rw [kk]; simp [Sf.isFo]
      · show k ∈ keys _ ↔ _
        rw [keys_app]; simp [Sf.isFi, keys]
      · rcases mem_aset hl h.ndo hq with z | rfl
        · exact h.nde q z
        · exact nd_aset (h.ndl hl) hn
      · show (aset _ _ _).length ≤ _
        rw [len_aset hl h.ndo]; exact Nat.le_succ_of_le h.szo
      · show (s.fi ++ [(s.last + 1, ((0 : Int), c))]).length ≤ _
        rw [List.length_append]; exact Nat.succ_le_succ h.szi
    · exact absurd hf ne_name
  | fold f n =>
    obtain ⟨_, h2, _, h4⟩ := newF_nil hf
    obtain ⟨l, hl⟩ := aget_some h2
    have hn := (entry_none hl).mp h4
    have nd2 : (keys (s.fo ++ [(s.last + 1, ([] : List Ent))])).Nodup := nd_snoc h.ndo (fr _ rfl).1
    have hl2 : aget (s.fo ++ [(s.last + 1, ([] : List Ent))]) f = some l := aget_app hl
    have e1 : putE (s.fo ++ [(s.last + 1, [])]) f n (s.last + 1) = aset (s.fo ++ [(s.last + 1, [])]) f (aset l n (s.last + 1)) := by unfold putE; rw [hl2]
    show (Sf.mk _ _ _).ok (m + 1)
    rw [e1]
    have kk := keys_aset (v := aset l n (s.last + 1)) hl2 nd2
    have ee : entsOf (s.fo ++ [(s.last + 1, ([] : List Ent))]) = entsOf s.fo := by rw [ents_app]; simp [entsOf]
    refine ok_ent (b := true) (c := false) h (by
      have := es_put (t := s.last + 1) nd2 hl2 hn
      rw [ee] at this
      exact this) h2 (fun k => ?_) (fun k => ?_) (.inl ⟨rfl, rfl, rfl, rfl⟩) (by show (keys _).Nodup; rw [kk]; exact nd2) h.ndi (fun q hq => ?_) ?_ (Nat.le_succ_of_le h.szi)
    · show k ∈ keys _ ↔ _
      rw [kk, keys_app]; simp [Sf.isFo, keys]
    · show k ∈ keys _ ↔ _
      simp [Sf.isFi]
    · rcases mem_aset hl2 nd2 hq with z | rfl
      · rcases List.mem_append.mp z with z | z
        · exact h.nde q z
        · obtain rfl : q = _ := by simpa using z
          exact List.nodup_nil
      · exact nd_aset (h.ndl hl) hn
    · show (aset _ _ _).length ≤ _
      rw [len_aset hl2 nd2, List.length_append]; exact Nat.succ_le_succ h.szo
  | link f n t =>
    obtain ⟨_, h2, h3, h4⟩ := newF_nil hf
    obtain ⟨l, hl⟩ := aget_some h2
    have hn := (entry_none hl).mp h4
    have e1 : putE s.fo f n t = aset s.fo f (aset l n t) := by unfold putE; rw [hl]
    show (Sf.mk _ _ _).ok (m + 1)
    rw [e1]
    have kk := keys_aset (v := aset l n t) hl h.ndo
    refine ok_ent (b := false) (c := false) h (es_put h.ndo hl hn) h2 (fun k => ?_) (fun k => ?_) (.inr (.inr ⟨rfl, rfl, h3 t (by simp), rfl⟩)) (by show (keys _).Nodup; rw [kk]; exact h.ndo) h.ndi (fun q hq => ?_) ?_ (Nat.le_succ_of_le h.szi)
    · show k ∈ keys _ ↔ _
      rw [kk]; simp [Sf.isFo]
    · show k ∈ keys _ ↔ _
      simp [Sf.isFi]
    · rcases mem_aset hl h.ndo hq with z | rfl
      · exact h.nde q z
      · exact nd_aset (h.ndl hl) hn
    · show (aset _ _ _).length ≤ _
      rw [len_aset hl h.ndo]; exact Nat.le_succ_of_le h.szo
  | drop f n =>
    obtain ⟨h2, t, ht, t1, h5⟩ := dropF_nil hf
    obtain ⟨l, hl, hn⟩ := entry_some ht
    have e1 : takeE s.fo f n = aset s.fo f (adel l n) := by unfold takeE; rw [hl]
    have kk := keys_aset (v := adel l n) hl h.ndo
    have pp := es_take h.ndo hl (h.ndl hl) hn
    have ndt : ∀ q ∈ aset s.fo f (adel l n), (keys q.2).Nodup := fun q hq => by
      rcases mem_aset hl h.ndo hq with z | rfl
      · exact h.nde q z
      · exact nd_adel (h.ndl hl)
    have ndk : (keys (aset s.fo f (adel l n))).Nodup := by rw [kk]; exact h.ndo
    have lk := len_aset (v := adel l n) hl h.ndo
    show Sf.ok (Prod.fst (match s.entry f n with | none => (s, okD) | some t => _)) (m + 1)
    rw [ht]
    refine Sf.ok.up ?_ (Nat.le_succ m)
    show Sf.ok (if s.isFo t then _ else _) m
    rw [e1]
    by_cases tf : s.isFo t
    · rw [if_pos tf]
      have te := h5 tf
      obtain ⟨dp, hd⟩ := h.rank
      have hin : (f, n, t) ∈ s.es := pp.mem_iff.mpr (.head _)
      have ft : f ≠ t := fun e => by
        have := hd _ hin tf
        rw [e] at this
        exact Nat.lt_irrefl _ this
      have te2 : aget (aset s.fo f (adel l n)) t = some [] := by rw [aget_aset hl h.ndo, if_neg ft]; exact te
      refine ok_cut (b := true) (c := false) (n := n) (f := f) h (by
        show (entsOf s.fo).Perm (_ :: entsOf (adel _ t))
        rw [es_drop ndk te2]
        exact pp) t1 (fun k => ?_) (fun k => by simp [Sf.isFi]) (by simp [tf]) (by simp [tf]) (nd_adel ndk) h.ndi (fun q hq => ndt q (mem_adel.mp hq).1) (Nat.le_trans len_adel (by rw [lk]; exact h.szo)) h.szi rfl
      show k ∈ keys (adel _ t) ↔ _
      rw [key_adel, kk]
      simp [Sf.isFo]
    · rw [if_neg tf]
      by_cases tm : t ∈ tgs (entsOf (aset s.fo f (adel l n)))
      · rw [if_pos tm]
        refine ok_cut (b := false) (c := false) (n := n) (f := f) h pp t1 (fun k => ?_) (fun k => by simp [Sf.isFi]) (by simp [tf]) ?_ ndk h.ndi ndt (by show (aset _ _ _).length ≤ m; rw [lk]; exact h.szo) h.szi rfl
        · show k ∈ keys _ ↔ _
          rw [kk]; simp [Sf.isFo]
        · show false = _
          simp [tf, Sf.es, tm]
      · rw [if_neg tm]
        refine ok_cut (b := false) (c := true) (n := n) (f := f) h pp t1 (fun k => ?_) (fun k => ?_) (by simp [tf]) ?_ ndk (nd_adel h.ndi) ndt (by show (aset _ _ _).length ≤ m; rw [lk]; exact h.szo) (Nat.le_trans len_adel h.szi) rfl
        · show k ∈ keys _ ↔ _
          rw [kk]; simp [Sf.isFo]
        · show k ∈ keys (adel _ t) ↔ _
          rw [key_adel]; simp [Sf.isFi]
        · show true = _
          simp [tf, Sf.es, tm]
  | move f n g n2 =>
    obtain ⟨h2, h3, t, ht, t1, h5, h6⟩ := moveF_nil hf
    obtain ⟨l, hl, hn⟩ := entry_some ht
    obtain ⟨lg, hlg⟩ := aget_some h3
    have hn2 := (entry_none hlg).mp h5
    have e1 : takeE s.fo f n = aset s.fo f (adel l n) := by unfold takeE; rw [hl]
    have kk := keys_aset (v := adel l n) hl h.ndo
    have pp := es_take h.ndo hl (h.ndl hl) hn
    have ndk : (keys (aset s.fo f (adel l n))).Nodup := by rw [kk]; exact h.ndo
    have ndt : ∀ q ∈ aset s.fo f (adel l n), (keys q.2).Nodup := fun q hq => by
      rcases mem_aset hl h.ndo hq with z | rfl
      · exact h.nde q z
      · exact nd_adel (h.ndl hl)
    obtain ⟨lg2, hlg2, hn3⟩ : ∃ lg2, aget (aset s.fo f (adel l n)) g = some lg2 ∧ n2 ∉ keys lg2 := by
      rw [aget_aset hl h.ndo]
      by_cases e : f = g
      · rw [if_pos e]
        refine ⟨_, rfl, fun z => hn2 ?_⟩
        have : lg = l := by rw [e, hlg] at hl; exact Option.some.inj hl
        rw [this]
        exact (key_adel.mp z).1
      · rw [if_neg e]
        exact ⟨lg, hlg, hn2⟩
    have e2 : putE (aset s.fo f (adel l n)) g n2 t = aset (aset s.fo f (adel l n)) g (aset lg2 n2 t) := by unfold putE; rw [hlg2]
    have kk2 := keys_aset (v := aset lg2 n2 t) hlg2 ndk
    have pp2 := es_put (t := t) ndk hlg2 hn3
    show Sf.ok (Prod.fst (match s.entry f n with | none => (s, okD) | some t => _)) (m + 1)
    rw [ht]
    refine Sf.ok.up ?_ (Nat.le_succ m)
    show (Sf.mk _ _ _).ok m
    rw [e1, e2]
    refine ok_move h pp pp2 h3 (fun _ => h6) (by show keys _ = _; rw [kk2, kk]) rfl rfl (fun q hq => ?_)
    rcases mem_aset hlg2 ndk hq with z | rfl
    · exact ndt q z
    · exact nd_aset (ndt _ (aget_mem hlg2)) hn3
  | put f v c =>
    obtain ⟨_, p, hp, _⟩ := putF_nil hf
    have kk := keys_aset (v := (v + 1, c)) hp h.ndi
    have iI : ∀ k, (s.act (.put f v c)).1.isFi k ↔ s.isFi k := fun k => by
      show k ∈ keys (aset s.fi f (v + 1, c)) ↔ _
      rw [kk]; exact Iff.rfl
    refine Sf.ok.up ?_ (Nat.le_succ m)
    exact { h with ndi := by show (keys (aset s.fi f (v + 1, c))).Nodup; rw [kk]; exact h.ndi
                   dis := fun k a b => h.dis k a ((iI k).mp b)
                   lim := fun k a => h.lim k (a.imp id (iI k).mp)
                   tgt := fun e he => (h.tgt e he).imp id (iI _).mpr
                   has := fun k a b => h.has k (a.imp id (iI k).mp) b
                   szi := by show (aset _ _ _).length ≤ m; rw [len_aset hp h.ndi]; exact h.szi }
end FS

set_option Elab.async false
set_option maxRecDepth 100000
set_option linter.all false
/-! FsStep: t[lo:hi:step] of a tuple; sums of tuples that may be empty. -/
namespace FS
open PySem PySem.Calls PySem.Spec PyProof.Rows PyProof.V L2 Evl HT
def stepV (xs : List V) (lo hi : Option Int) (c : Int) : List V :=
  (List.range (Builtin.Slice.slicePlaces (Builtin.Slice.sliceAdjust lo hi c (xs.length : Int)).1 (Builtin.Slice.sliceAdjust lo hi c (xs.length : Int)).2 c)).filterMap fun (k : Nat) => xs[((Builtin.Slice.sliceAdjust lo hi c (xs.length : Int)).1 + (k : Int) * c).toNat]?
def stepU (xs : Array Value) (lo hi : Option Int) (c : Int) : List Value :=
  (List.range (Builtin.Slice.slicePlaces (Builtin.Slice.sliceAdjust lo hi c (xs.size : Int)).1 (Builtin.Slice.sliceAdjust lo hi c (xs.size : Int)).2 c)).filterMap fun (k : Nat) => xs[((Builtin.Slice.sliceAdjust lo hi c (xs.size : Int)).1 + (k : Int) * c).toNat]?
theorem applied_step {prog : Program} {w : World} {A : Around} {E : Value → Shared → Prop} {s : Shared} {sl : Addr} {vl vu : Value} {lo hi : Option Int} {n : Nat} {c : Int} {t : Tok} {Q : Int × Int × Nat → Shared → Prop} (hs : s.heap.IsSliceOf sl vl vu (.int c t)) (pl : IsPart vl lo) (pu : IsPart vu hi) (hc : c ≠ 0)
    (h : Q ((Builtin.Slice.sliceAdjust lo hi c (n : Int)).1, c, Builtin.Slice.slicePlaces (Builtin.Slice.sliceAdjust lo hi c (n : Int)).1 (Builtin.Slice.sliceAdjust lo hi c (n : Int)).2 c) s) : wpAny (model prog w) A (Builtin.Slice.sliceApplied (.ref sl) (pure (n : Int))) Q E s := by
  obtain ⟨os, ho, h1, h2⟩ := id hs
  unfold Builtin.Slice.sliceApplied Builtin.Slice.sliceFields
  refine wpAny_bind (wpAny_bind (wpAny_field ho h2 (x := vl) rfl (wpAny_bind (wpAny_field ho h2 (x := vu) rfl (wpAny_bind (wpAny_field ho h2 (x := .int c t) rfl (wpAny_pure ?_)))))))
  refine wpAny_bind (slicePart_int ?_)
  have h0 : ((some c).getD 1 == 0) = false := by simpa using hc
  change wpAny _ _ (if ((some c).getD 1 == 0) = true then _ else _) _ _ s
  rw [h0]
  exact wpAny_bind (slicePart_ pl (wpAny_bind (slicePart_ pu (wpAny_bind (wpAny_pure (wpAny_pure h))))))
theorem getItem_step {prog : Program} {w : World} {A : Around} {E : Value → Shared → Prop} {s : Shared} {t sl : Addr} {us : Array Value} {vl vu : Value} {lo hi : Option Int} {c : Int} {k : Tok} {Q : Value → Shared → Prop} (ht : IsTup s.heap t us) (hs : s.heap.IsSliceOf sl vl vu (.int c k)) (pl : IsPart vl lo) (pu : IsPart vu hi) (hc : 1 < c)
    (hz : (stepU us lo hi c).length ≤ sizeLine) (h : Q (.ref s.heap.objs.size) { s with heap := s.heap.push { cls := .type "tuple", data := .seq (stepU us lo hi c).toArray } }) : wpAny (model prog w) A (getItem (.ref t) (.ref sl)) Q E s := by
  obtain ⟨os, ho, h1, h2⟩ := id hs
  have ty : s.TypeIs (.ref sl) "slice" := ⟨os, ho, h1⟩
  unfold getItem
  try with_reducible refine wpAny_holding ?_
  first | refine wpAny_bind (wpAny_pure ?_) | skip
  refine wpAny_bind (wpAny_sequenceKey ht.typeIs (by decide) (wpAny_bind (wpAny_callSpecial?_slot (name := Str.ofString "__getitem__") ht.typeIs slot_tuple_getitem (wpAny_call_entry slot_tuple_getitem ht.typeIs entry_tuple_getitem ?_ (args_tuple_getitem _ _)))))
  change wpAny _ _ (Builtin.Tuple.tupleItemsOf (.ref t) >>= _) _ _ s
  refine wpAny_bind (tupleItemsOf_ ht (wpAny_bind (wpAny_typeOf ty ?_))); rw [if_pos (by decide)]
  refine wpAny_bind (applied_step hs pl pu (by omega) ?_)
  have no : ¬ (((Builtin.Slice.sliceAdjust lo hi c (us.size : Int)).1 == 0 && c == 1 && Builtin.Slice.slicePlaces (Builtin.Slice.sliceAdjust lo hi c (us.size : Int)).1 (Builtin.Slice.sliceAdjust lo hi c (us.size : Int)).2 c == us.size) = true) := by
    intro q
    rw [Bool.and_eq_true, Bool.and_eq_true] at q
    have : c = 1 := eq_of_beq q.1.2
    omega
  change wpAny _ _ (if (((Builtin.Slice.sliceAdjust lo hi c (us.size : Int)).1 == 0 && c == 1 && Builtin.Slice.slicePlaces (Builtin.Slice.sliceAdjust lo hi c (us.size : Int)).1 (Builtin.Slice.sliceAdjust lo hi c (us.size : Int)).2 c == us.size) = true) then _ else _) _ _ s
  rw [if_neg no]
  have hz2 : sizeOk (.seq (stepU us lo hi c).toArray) := by
    change (stepU us lo hi c).toArray.size ≤ sizeLine
    rw [List.size_toArray]; exact hz
  first
    | exact wpAny_bind (m := Builtin.Tuple.tupleExact _) (wpAny_newObj_type (wpAny_pure ⟨_, rfl, wpAny_pure h⟩) hz2)
    | exact wpAny_bind (m := Builtin.Tuple.tupleExact _) (wpAny_newObj_type (wpAny_bind (wpAny_pure (wpAny_pure ⟨_, rfl, wpAny_pure h⟩))) hz2)
    | exact wpAny_bind (wpAny_bind (m := Builtin.Tuple.tupleExact _) (wpAny_newObj_type (wpAny_pure (wpAny_pure ⟨_, rfl, wpAny_pure h⟩)) hz2))
    | exact wpAny_bind (wpAny_bind (m := Builtin.Tuple.tupleExact _) (wpAny_newObj_type (wpAny_pure ⟨_, rfl, wpAny_pure h⟩) hz2))
theorem vals_pick {xs : List V} {us : List Value} (r : Vals xs us) (f : Nat → Nat) : ∀ ks : List Nat, Vals (ks.filterMap fun k => xs[f k]?) (ks.filterMap fun k => us.toArray[f k]?)
  | [] => .nil
  | k :: ks => by
    rw [List.filterMap_cons, List.filterMap_cons]
    have hl := r.length
    by_cases h : f k < xs.length
    · have h2 : f k < us.length := by omega
      have e1 : xs[f k]? = some xs[f k] := List.getElem?_eq_getElem h
      have e2 : us.toArray[f k]? = some us[f k] := by rw [List.getElem?_toArray]; exact List.getElem?_eq_getElem h2
      rw [e1, e2]
      obtain ⟨u, hu, ru⟩ := r.get e1
      rw [List.getElem?_eq_getElem h2] at hu
      cases hu
      exact .cons ru (vals_pick r f ks)
    · have e1 : xs[f k]? = none := by simp; omega
      have e2 : us.toArray[f k]? = none := by rw [List.getElem?_toArray]; simp; omega
      rw [e1, e2]
      exact vals_pick r f ks
section
variable {X : Cx} {K : PySem.W.Frag}
def tSl3 (r : V → Option Int → Option Int → Option Int → Hp → VK → Prop) (te : TE) (tl th ts : TO) : TE := fun σ H Q => te σ H fun x H1 => tl σ H1 fun l H2 => th σ H2 fun u H3 => ts σ H3 fun c H4 => r x l u c H4 Q
def rSl3 (K : PySem.W.Frag) (x : V) (lo hi st : Option Int) (H : Hp) (Q : VK) : Prop := ∃ a xs c, x = .ref a ∧ SqT K H a xs ∧ st = some c ∧ 1 < c ∧ (stepV xs lo hi c).length ≤ sizeLine ∧ NewO (.tup (stepV xs lo hi c)) H Q
theorem pe_slice3 {e st : Expr} {lo hi : Option Expr} {p2 pos : Pos} {te : TE} {tl th ts : TO} (he : PE X e te) (hl : PO X lo tl) (hu : PO X hi th) (hst : PO X (some st) ts) (hK : X.K = K) (ht : ∀ o r, letTemporaryGo e o r = pure () := by intro _ _; rfl) : PE X (.Subscript e (.Slice lo hi (some st) p2) pos) (tSl3 (rSl3 K) te tl th ts) := by
  subst hK
  refine ⟨fun pins s σ H Q I h => ?_⟩
  refine wpAny_Subscript_Slice_step PyProof.Rows.slot_tuple_getitem.lookup (thn (he.run pins s σ H _ I h) fun v s1 ⟨x, H1, I1, r1, q1⟩ => ?_) ht
  refine wpAny_Slice (thn (hl.run pins s1 σ H1 _ I1 q1) fun vl s2 ⟨l, H2, I2, pl, q2⟩ => thn (hu.run pins s2 σ H2 _ I2 q2) fun vu s3 ⟨u, H3, I3, pu, q3⟩ => ?_)
  refine wpAny_mono (hst.run pins s3 σ H3 _ I3 q3) (fun vc s4 ⟨c, H4, I4, pc, q4⟩ => ?_) fun _ _ z => z
  obtain ⟨a, xs, c, rfl, hx, rfl, hc, hz, q⟩ := q4
  cases pc
  cases r1
  have I5 : Inv X pins σ H4 { s4 with heap := s4.heap.push { cls := .type "slice", data := .fields #[vl, vu, .int c ‹Tok›] } } := I4.kept (t' := s4.toks) fun b ob q => Heap.get?_push_of_some _ q
  obtain ⟨its, r, p1, p2⟩ := I5.tuple hx
  have hl2 : xs.length = its.toArray.size := by rw [List.size_toArray]; exact r.length
  have vv : Vals (stepV xs l u c) (stepU its.toArray l u c) := by
    unfold stepV stepU
    rw [hl2]
    exact vals_pick r _ _
  refine ⟨p1.typeIs, getItem_step p1 (Heap.IsSliceOf.new ..) pl pu hc (by rw [← vv.length]; exact hz) ?_⟩
  refine ⟨.ref _, _, I5.laid (t' := s4.toks) (o := .tup (stepV xs l u c)) (fun b ob q => Heap.get?_push_of_some _ q) (Nat.le_refl _) ⟨hz, _, vv, IsTup.new _ _⟩, rfl, q _ (I5.hok.fresh (Nat.le_refl _))⟩
/-- sums of tuples, either empty -/
theorem catA (h : X.K = K) : OpR X (binaryOp .Add) (rCatA K) := by subst h; exact op_catA
theorem slA (h : X.K = K) : SlR X (rSlA K) := by subst h; exact sl_tupA
end
theorem i_slice3 {r : V → Option Int → Option Int → Option Int → Hp → VK → Prop} {te : TE} {tl th ts : TO} {σ : L2.St} {H : Hp} {Q : VK} (h : te σ H fun x H1 => tl σ H1 fun l H2 => th σ H2 fun u H3 => ts σ H3 fun c H4 => r x l u c H4 Q) : tSl3 r te tl th ts σ H Q := h
theorem i_sl3 {K : PySem.W.Frag} {H : Hp} {a : Addr} {xs ys : List V} {lo hi : Option Int} {c : Int} {Q : VK} (h : SqT K H a xs) (hc : 1 < c) (e : stepV xs lo hi c = ys) (hz : ys.length ≤ 100000) (q : NewO (.tup ys) H Q) : rSl3 K (.ref a) lo hi (some c) H Q := ⟨a, xs, c, rfl, h, rfl, hc, by rw [e]; exact sz_of hz, by rw [e]; exact q⟩
theorem i_catA {K : PySem.W.Frag} {H : Hp} {a b : Addr} {xs ys : List V} {Q : VK} (h1 : SqT K H a xs) (h2 : SqT K H b ys) (hl : xs.length + ys.length ≤ 100000) (q0 : xs = [] → Q (.ref b) H) (q1 : xs ≠ [] → ys = [] → Q (.ref a) H) (q2 : xs ≠ [] → ys ≠ [] → NewO (.tup (xs ++ ys)) H Q) : rCatA K (.ref a) (.ref b) H Q :=
  ⟨a, b, xs, ys, rfl, rfl, h1, h2, sz_of hl, q0, q1, q2⟩
/-- the sum stands somewhere, kept -/
theorem i_catAk {K : PySem.W.Frag} {P H : Hp} {cs : List Ch} {a b : Addr} {xs ys : List V} {Q : VK} (m : Mem P cs H) (h1 : SqT K P a xs) (h2 : SqT K P b ys) (hl : xs.length + ys.length ≤ 100000) (q : ∀ p P' H', Mem P' cs H' → Ex P P' → SqT K P' p (xs ++ ys) → Q (.ref p) H') : rCatA K (.ref a) (.ref b) H Q := by
  refine i_catA (ex_t m.ex h1) (ex_t m.ex h2) hl (fun e => ?_) (fun _ e => ?_) (fun _ _ => i_newT m q)
  · subst e; exact q _ P H m (Ex.refl _) h2
  · subst e; exact q _ P H m (Ex.refl _) (by rw [List.append_nil]; exact h1)
theorem i_slA {K : PySem.W.Frag} {P H : Hp} {cs : List Ch} {a : Addr} {xs : List V} {lo hi : Option Int} {Q : VK} (m : Mem P cs H) (h : SqT K P a xs) (q : ∀ p P' H', Mem P' cs H' → Ex P P' → SqT K P' p (cutV xs lo hi) → Q (.ref p) H') : rSlA K (.ref a) lo hi H Q := by
  refine ⟨a, xs, rfl, ex_t m.ex h, fun e => ?_, fun _ => i_newT m q⟩
  refine q _ P H m (Ex.refl _) ?_
  have : cutV xs lo hi = xs := by
    unfold cutV
    rw [e.1, e.2]
    simp
  rw [this]; exact h
example : stepV [.int 0, .int 1, .int 2, .int 3, .int 4] (some 2) (some 5) 2 = [.int 2, .int 4] := by rfl
example : stepV [.int 0, .int 1, .int 2, .int 3, .int 4] (some 1) (some 4) 2 = [.int 1, .int 3] := by rfl
example : stepV [.int 0, .int 1, .int 2] (some 2) (some 5) 2 = [.int 2] := by rfl
end FS

set_option Elab.async false
set_option maxRecDepth 100000
set_option linter.all false
/-! FsBits: small rules: extend, reverse, clear, dict displays of two and three keys. -/
namespace FS
open PySem PySem.Spec PyProof.Rows L2 Evl
section
variable {P H : Hp} {cs r r0 : List Ch} {Q : VK}
theorem i_ext {l b : Addr} {xs zs : List V} (m : Mem P cs H) (hb : Sel cs (pt b (.lst zs)) r0) (u : Upd cs l (.lst xs) (.lst (xs ++ zs)) r) (hz : xs.length + zs.length ≤ 100000) (q : ∀ H', Mem P r H' → Q .non H') : rExtend (.ref l) [.ref b] H Q :=
  ⟨l, b, xs, zs, rfl, rfl, u.rd m, m.rd hb, sz_of hz, q _ (m.put u)⟩
theorem i_rev {l : Addr} {xs : List V} (m : Mem P cs H) (u : Upd cs l (.lst xs) (.lst xs.reverse) r) (q : ∀ H', Mem P r H' → Q .non H') : rReverse (.ref l) [] H Q := ⟨l, xs, rfl, rfl, u.rd m, q _ (m.put u)⟩
theorem i_clr {l : Addr} {xs : List V} (m : Mem P cs H) (u : Upd cs l (.lst xs) (.lst []) r) (q : ∀ H', Mem P r H' → Q .non H') : rClear (.ref l) [] H Q := ⟨l, xs, rfl, rfl, u.rd m, q _ (m.put u)⟩
theorem putK_new {kvs : List (Key × V)} {k : Key} {v : V} (h : ∀ p ∈ kvs, p.1 ≠ k) : putK kvs k v = kvs ++ [(k, v)] := by
  unfold putK
  rw [if_neg]
  intro z
  obtain ⟨p, hp, e⟩ := List.any_eq_true.mp z
  exact h p hp (of_decide_eq_true e)
theorem merge1 {k : Key} {v : V} : mergeK [] [(k, v)] = [(k, v)] := (putK_new (kvs := []) (k := k) (v := v) fun _ z => nomatch z : putK [] k v = [] ++ [(k, v)])
theorem merge2 {a b : Key} {x y : V} (n : a ≠ b) : mergeK [] [(a, x), (b, y)] = [(a, x), (b, y)] := by
  have e : mergeK [] [(a, x), (b, y)] = putK (putK [] a x) b y := rfl
  rw [e, show putK [] a x = [(a, x)] from merge1]
  exact putK_new fun p hp => by
    obtain rfl : p = (a, x) := by simpa using hp
    exact n
theorem merge3 {a b c : Key} {x y z : V} (n1 : a ≠ b) (n2 : a ≠ c) (n3 : b ≠ c) : mergeK [] [(a, x), (b, y), (c, z)] = [(a, x), (b, y), (c, z)] := by
  have e : mergeK [] [(a, x), (b, y), (c, z)] = putK (mergeK [] [(a, x), (b, y)]) c z := rfl
  rw [e, merge2 n1]
  exact putK_new fun p hp => by
    have : p = (a, x) ∨ p = (b, y) := by simpa using hp
    rcases this with rfl | rfl
    · exact n2
    · exact n3
theorem inl_ne {i j : Int} (h : i ≠ j) : (Sum.inl i : Key) ≠ Sum.inl j := fun e => h (Sum.inl.inj e)
theorem inr_ne {i j : Str} (h : i ≠ j) : (Sum.inr i : Key) ≠ Sum.inr j := fun e => h (Sum.inr.inj e)
theorem i_dispI2 {p : Addr} {k j : Int} {v w : V} (m : Mem P cs H) (n : k ≠ j) (u : Upd cs p (.dK []) (.dK [(Sum.inl k, v), (Sum.inl j, w)]) r) (q : ∀ H', Mem P r H' → Q (.ref p) H') : DispEnd p [(.int k, v), (.int j, w)] H Q :=
  i_dispEnd (kvs := [(Sum.inl k, v), (Sum.inl j, w)]) m rfl (by rw [merge2 (inl_ne n)]; exact u) (by simp) q
theorem i_dispS1 {p : Addr} {k : Str} {v : V} (m : Mem P cs H) (u : Upd cs p (.dK []) (.dK [(Sum.inr k, v)]) r) (q : ∀ H', Mem P r H' → Q (.ref p) H') : DispEnd p [(.str k, v)] H Q :=
  i_dispEnd (kvs := [(Sum.inr k, v)]) m rfl (by rw [merge1]; exact u) (by simp) q
theorem i_dispS2 {p : Addr} {k j : Str} {v w : V} (m : Mem P cs H) (n : k ≠ j) (u : Upd cs p (.dK []) (.dK [(Sum.inr k, v), (Sum.inr j, w)]) r) (q : ∀ H', Mem P r H' → Q (.ref p) H') : DispEnd p [(.str k, v), (.str j, w)] H Q :=
  i_dispEnd (kvs := [(Sum.inr k, v), (Sum.inr j, w)]) m rfl (by rw [merge2 (inr_ne n)]; exact u) (by simp) q
theorem i_dispS3 {p : Addr} {k j l : Str} {v w y : V} (m : Mem P cs H) (n1 : k ≠ j) (n2 : k ≠ l) (n3 : j ≠ l) (u : Upd cs p (.dK []) (.dK [(Sum.inr k, v), (Sum.inr j, w), (Sum.inr l, y)]) r) (q : ∀ H', Mem P r H' → Q (.ref p) H') : DispEnd p [(.str k, v), (.str j, w), (.str l, y)] H Q :=
  i_dispEnd (kvs := [(Sum.inr k, v), (Sum.inr j, w), (Sum.inr l, y)]) m rfl (by rw [merge3 (inr_ne n1) (inr_ne n2) (inr_ne n3)]; exact u) (by simp) q
/-- reading: by a key that is an int, a text -/
theorem i_dgetI {a : Addr} {kvs : List (Key × V)} {k : Int} {v : V} (m : Mem P cs H) (q : Sel cs (pt a (.dK kvs)) r) (hv : valV kvs (Sum.inl k) = some v) (c : Q v H) : DGetAt (.ref a) (.int k) H Q := i_dgetAt (k := Sum.inl k) m q hv c
theorem i_dgetS {a : Addr} {kvs : List (Key × V)} {k : Str} {v : V} (m : Mem P cs H) (q : Sel cs (pt a (.dK kvs)) r) (hv : valV kvs (Sum.inr k) = some v) (c : Q v H) : DGetAt (.ref a) (.str k) H Q := i_dgetAt (k := Sum.inr k) m q hv c
theorem i_dinI {a : Addr} {kvs : List (Key × V)} {k : Int} {R : Option V → Prop} (m : Mem P cs H) (q : Sel cs (pt a (.dK kvs)) r) (c : R (valV kvs (Sum.inl k))) : DInAt (.ref a) (.int k) H R := i_dinAt (k := Sum.inl k) m q c
theorem i_dinS {a : Addr} {kvs : List (Key × V)} {k : Str} {R : Option V → Prop} (m : Mem P cs H) (q : Sel cs (pt a (.dK kvs)) r) (c : R (valV kvs (Sum.inr k))) : DInAt (.ref a) (.str k) H R := i_dinAt (k := Sum.inr k) m q c
end
/-! ### the pieces of a shelf -/
structure SfX where
  dx : Addr
  a1 : Addr
  a2 : Addr
  es : List (Int × Addr × List Ent)
  fv : List (Key × V)
def FiR (K : PySem.W.Frag) (P : Hp) (v : Key × V) (d : Int × (Int × Str)) : Prop := v.1 = Sum.inl d.1 ∧ ∃ t, v.2 = .ref t ∧ SqT K P t [.int d.2.1, .str d.2.2]
theorem FiR.up {K : PySem.W.Frag} {P P' : Hp} {v : Key × V} {d : Int × (Int × Str)} (e : Ex P P') (h : FiR K P v d) : FiR K P' v d := ⟨h.1, h.2.choose, h.2.choose_spec.1, ex_t e h.2.choose_spec.2⟩
def foOf (es : List (Int × Addr × List Ent)) : List (Int × List Ent) := es.map fun p => (p.1, p.2.2)
def foK (es : List (Int × Addr × List Ent)) : List (Key × V) := es.map fun p => (Sum.inl p.1, V.ref p.2.1)
def enP (p : Int × Addr × List Ent) : Ch := pt p.2.1 (.dK (entK p.2.2))
def famP (es : List (Int × Addr × List Ent)) : Ch := sep (es.map enP)
theorem pmonoF {α β : Type} {F G : α → β → Prop} (h : ∀ x y, F x y → G x y) : ∀ {xs : List α} {ys : List β}, Paired F xs ys → Paired G xs ys
  | _, _, .nil => .nil
  | _, _, .cons a t => .cons (h _ _ a) (pmonoF h t)
def sfF (K : PySem.W.Frag) (s : Sf) (x : SfX) (P : Hp) : Prop := s.fo = foOf x.es ∧ Paired (FiR K P) x.fv s.fi
theorem sfF.up {K : PySem.W.Frag} {s : Sf} {x : SfX} (P P' : Hp) (e : Ex P P') (h : sfF K s x P) : sfF K s x P' := ⟨h.1, pmonoF (fun _ _ z => z.up e) h.2⟩
theorem Mem.famE {P H : Hp} {cs : List Ch} {A B : List (Int × Addr × List Ent)} {p : Int × Addr × List Ent} (m : Mem P (famP (A ++ p :: B) :: cs) H) : Mem P (pt p.2.1 (.dK (entK p.2.2)) :: famP (A ++ B) :: cs) H := by
  have m1 := m.open
  rw [List.map_append, List.map_cons, List.append_assoc, List.cons_append] at m1
  have m2 := m1.sel (c := enP p) sel_mid
  rw [← List.append_assoc, ← List.map_append] at m2
  have m3 : Mem P ((A ++ B).map enP ++ (enP p :: cs)) H := by
    refine Mem.unsel sel_mid ?_
    exact m2
  exact (Mem.close m3).sel (.s .z)
theorem Mem.famI {P H : Hp} {cs : List Ch} {A B : List (Int × Addr × List Ent)} {p : Int × Addr × List Ent} (m : Mem P (pt p.2.1 (.dK (entK p.2.2)) :: famP (A ++ B) :: cs) H) : Mem P (famP (A ++ p :: B) :: cs) H := by
  have m1 := (m.sel (.s .z)).open
  rw [List.map_append, List.append_assoc] at m1
  have m2 : Mem P (enP p :: (A.map enP ++ (B.map enP ++ cs))) H := by
    have m3 := m1.sel (c := enP p) (r := A.map enP ++ (B.map enP ++ cs)) (by
      have : Sel ((A.map enP ++ B.map enP) ++ enP p :: cs) (enP p) ((A.map enP ++ B.map enP) ++ cs) := sel_mid
      rw [List.append_assoc, List.append_assoc] at this
      exact this)
    exact m3
  have m4 : Mem P (A.map enP ++ enP p :: (B.map enP ++ cs)) H := Mem.unsel sel_mid m2
  have m5 : Mem P ((A ++ p :: B).map enP ++ cs) H := by
    rw [List.map_append, List.map_cons, List.append_assoc, List.cons_append]
    exact m4
  exact Mem.close m5
end FS

set_option Elab.async false
set_option maxRecDepth 100000
set_option linter.all false
/-! FsBelow: the walk down from a node with a stack: each folder once. -/
namespace FS
open PySem L2
/-- the entries of a node -/
def Sf.ent (s : Sf) (x : Int) : List Ent := (aget s.fo x).getD []
structure Dfs (s : Sf) (n g : Int) (dp : Int → Nat) (S : List Int) (U : List (Int × List Ent)) : Prop where
  sub : ∀ q ∈ U, q ∈ s.fo
  nd : (keys U).Nodup
  un : ∀ x ∈ S, s.isFo x → x ∈ keys U
  one : (S.filter fun x => decide (s.isFo x)).Nodup
  off : ∀ c, s.isFo c → (c ∈ S ∨ c ∉ keys U) → c = n ∨ ∀ q ∈ U, c ∉ q.2.map (·.2)
  dep : ∀ x ∈ S, s.isFo x → dp n ≤ dp x
  rea : Reach s.es n g ↔ ∃ x ∈ S, Reach s.es x g
theorem Dfs.init {s : Sf} {n g : Int} {dp : Int → Nat} {m : Nat} (h : s.ok m) : Dfs s n g dp [n] s.fo := by
  refine ⟨fun _ z => z, h.ndo, fun x hx hf => hf, ?_, fun c hc z => ?_, fun x hx _ => ?_, ?_⟩
  · rw [List.filter_cons]; split
    · exact List.nodup_cons.mpr ⟨(fun z => by cases z), List.nodup_nil⟩
    · exact List.nodup_nil
  · rcases z with z | z
    · exact .inl (by simpa using z)
    · exact absurd hc z
  · obtain rfl : x = n := by simpa using hx
    exact Nat.le_refl _
  · simp
def dfsM (S : List Int) (U : List (Int × List Ent)) : Nat := S.length + (entsOf U).length
theorem src_fo {s : Sf} {x b : Int} {k : Str} (e : (x, k, b) ∈ s.es) : s.isFo x := by
  obtain ⟨l, hl, _⟩ := ents_mem.mp e
  exact mem_keys.mpr ⟨l, hl⟩
theorem reach_step {s : Sf} {m : Nat} (h : s.ok m) {x g : Int} (ne : x ≠ g) : Reach s.es x g ↔ ∃ c ∈ (s.ent x).map (·.2), Reach s.es c g := by
  constructor
  · intro r
    cases r with
    | refl => exact absurd rfl ne
    | @step a b c k e r =>
      obtain ⟨l, hl, hk⟩ := ents_mem.mp e
      refine ⟨b, ?_, r⟩
      unfold Sf.ent
      rw [aget_of h.ndo hl]
      exact List.mem_map.mpr ⟨_, hk, rfl⟩
  · rintro ⟨c, hc, r⟩
    obtain ⟨p, hp, rfl⟩ := List.mem_map.mp hc
    unfold Sf.ent at hp
    cases hl : aget s.fo x with
    | none => rw [hl] at hp; cases hp
    | some l =>
      rw [hl] at hp
      exact .step (n := p.1) (ents_mem.mpr ⟨l, aget_mem hl, hp⟩) r
theorem Dfs.step {s : Sf} {n g : Int} {dp : Int → Nat} {m : Nat} (h : s.ok m) (hd : ∀ e ∈ s.es, s.isFo e.2.2 → dp e.1 < dp e.2.2) {S : List Int} {U : List (Int × List Ent)} {x : Int} (d : Dfs s n g dp (S ++ [x]) U) (ne : x ≠ g) :
    ∃ U', Dfs s n g dp (S ++ (s.ent x).map (·.2)) U' ∧ dfsM (S ++ (s.ent x).map (·.2)) U' + 1 = dfsM (S ++ [x]) U := by
  have rea : Reach s.es n g ↔ ∃ y ∈ S ++ (s.ent x).map (·.2), Reach s.es y g := by
    rw [d.rea]
    constructor
    · rintro ⟨y, hy, r⟩
      rcases List.mem_append.mp hy with z | z
      · exact ⟨y, List.mem_append.mpr (.inl z), r⟩
      · obtain rfl : y = x := by simpa using z
        obtain ⟨c, hc, r⟩ := (reach_step h ne).mp r
        exact ⟨c, List.mem_append.mpr (.inr hc), r⟩
    · rintro ⟨y, hy, r⟩
      rcases List.mem_append.mp hy with z | z
      · exact ⟨y, List.mem_append.mpr (.inl z), r⟩
      · exact ⟨x, by simp, (reach_step h ne).mpr ⟨y, z, r⟩⟩
  have hone := d.one
  rw [List.filter_append] at hone
  cases hl : aget s.fo x with
  | none =>
    have e : s.ent x = [] := by unfold Sf.ent; rw [hl]; rfl
    rw [e] at rea ⊢
    simp only [List.map_nil, List.append_nil] at rea ⊢
    refine ⟨U, ⟨d.sub, d.nd, fun y hy => d.un y (List.mem_append.mpr (.inl hy)), (List.nodup_append.mp hone).1, fun c hc z => d.off c hc (z.imp (fun y => List.mem_append.mpr (.inl y)) id), fun y hy => d.dep y (List.mem_append.mpr (.inl hy)), rea⟩, ?_⟩
    unfold dfsM
    simp
    omega
  | some l =>
    have e : s.ent x = l := by unfold Sf.ent; rw [hl]; rfl
    rw [e] at rea ⊢
    have hfx : s.isFo x := aget_key hl
    have hxS : x ∈ S ++ [x] := by simp
    have hxU := d.un x hxS hfx
    obtain ⟨l', hl'⟩ := mem_keys.mp hxU
    have el : l' = l := by
      have := aget_of h.ndo (d.sub _ hl')
      rw [hl] at this
      exact (Option.some.inj this).symm
    subst el
    obtain ⟨A, B, rfl⟩ := List.append_of_mem hl'
    obtain ⟨nA, nB, nAB⟩ := nd_split d.nd
    have hlfo := d.sub _ hl'
    -- what stands in l
    have hin : ∀ c, c ∈ l'.map (·.2) → ∃ k, (x, k, c) ∈ s.es := fun c hc => by
      obtain ⟨p, hp, rfl⟩ := List.mem_map.mp hc
      exact ⟨p.1, ents_mem.mpr ⟨l', hlfo, hp⟩⟩
    have hdp : ∀ c, c ∈ l'.map (·.2) → s.isFo c → dp x < dp c := fun c hc hf => by
      obtain ⟨k, hk⟩ := hin c hc
      exact hd _ hk hf
    have hnn : ∀ c, c ∈ l'.map (·.2) → s.isFo c → c ≠ n := fun c hc hf e => by
      have h1 := hdp c hc hf
      have h2 := d.dep x hxS hfx
      rw [e] at h1
      omega
    have kk : ∀ y, y ∈ keys (A ++ (x, l') :: B) ↔ y = x ∨ y ∈ keys (A ++ B) := fun y => by
      rw [keys_app, keys_app, List.mem_append, List.mem_append]
      simp only [keys, List.map_cons, List.mem_cons]
      constructor
      · rintro (z | z | z)
        · exact .inr (.inl z)
        · exact .inl z
        · exact .inr (.inr z)
      · rintro (z | z | z)
        · exact .inr (.inl z)
        · exact .inl z
        · exact .inr (.inr z)
    have mm : ∀ q, q ∈ A ++ B → q ∈ A ++ (x, l') :: B := fun q hq => by
      rcases List.mem_append.mp hq with z | z
      · exact List.mem_append.mpr (.inl z)
      · exact List.mem_append.mpr (.inr (.tail _ z))
    have notx : ∀ y ∈ S, s.isFo y → y ≠ x := fun y hy hf e => by
      have h3 := (List.nodup_append.mp hone).2.2
      refine h3 y (List.mem_filter.mpr ⟨hy, by simpa using hf⟩) x (List.mem_filter.mpr ⟨by simp, by simpa using hfx⟩) e
    have offS : ∀ y ∈ S, s.isFo y → y ∉ l'.map (·.2) := fun y hy hf z => by
      rcases d.off y hf (.inl (List.mem_append.mpr (.inl hy))) with w | w
      · exact hnn y z hf w
      · exact w _ hl' z
    refine ⟨A ++ B, ⟨fun q hq => d.sub q (mm q hq), nAB, fun y hy hf => ?_, ?_, fun c hc z => ?_, fun y hy hf => ?_, rea⟩, ?_⟩
    · rcases List.mem_append.mp hy with z | z
      · rcases (kk y).mp (d.un y (List.mem_append.mpr (.inl z)) hf) with w | w
        · exact absurd w (notx y z hf)
        · exact w
      · have hU : y ∈ keys (A ++ (x, l') :: B) := by
          by_cases w : y ∈ keys (A ++ (x, l') :: B)
          · exact w
          · rcases d.off y hf (.inr w) with v | v
            · exact absurd v (hnn y z hf)
            · exact absurd z (v _ hl')
        rcases (kk y).mp hU with w | w
        · have := hdp y z hf
          rw [w] at this
          exact absurd this (Nat.lt_irrefl _)
        · exact w
    · rw [List.filter_append]
      refine List.nodup_append.mpr ⟨(List.nodup_append.mp hone).1, ?_, fun a ha b hb e => ?_⟩
      · have hs : List.Sublist (l'.map (·.2)) (tgs s.es) := by
          obtain ⟨C, D, hCD⟩ := List.append_of_mem hlfo
          unfold Sf.es
          rw [hCD, ents_app, ents_cons]
          unfold tgs
          rw [List.map_append, List.map_append, List.map_map]
          exact ((List.Sublist.refl _).trans (List.sublist_append_left _ _)).trans (List.sublist_append_right _ _)
        exact h.one.sublist (hs.filter _)
      · subst e
        have h1 := List.mem_filter.mp ha
        have h2 := List.mem_filter.mp hb
        exact offS a h1.1 (by simpa using h1.2) h2.1
    · by_cases zx : c = x
      · subst zx
        rcases d.off c hc (.inl hxS) with w | w
        · exact .inl w
        · exact .inr fun q hq => w q (mm q hq)
      · rcases z with z | z
        · rcases List.mem_append.mp z with w | w
          · rcases d.off c hc (.inl (List.mem_append.mpr (.inl w))) with v | v
            · exact .inl v
            · exact .inr fun q hq => v q (mm q hq)
          · refine .inr fun q hq v => ?_
            obtain ⟨k, hk⟩ := hin c w
            obtain ⟨p, hp, rfl⟩ := List.mem_map.mp v
            have hk2 : (q.1, p.1, p.2) ∈ s.es := ents_mem.mpr ⟨q.2, d.sub q (mm q hq), hp⟩
            have := h.uniq hk hk2 rfl hc
            have e1 : x = q.1 := congrArg Prod.fst this
            have : x ∈ keys (A ++ B) := by rw [e1]; exact List.mem_map_of_mem hq
            rw [keys_app, List.mem_append] at this
            rcases this with y | y
            · exact nA y
            · exact nB y
        · rcases d.off c hc (.inr fun w => by
            rcases (kk c).mp w with v | v
            · exact zx v
            · exact z v) with v | v
          · exact .inl v
          · exact .inr fun q hq => v q (mm q hq)
    · rcases List.mem_append.mp hy with z | z
      · exact d.dep y (List.mem_append.mpr (.inl z)) hf
      · have := hdp y z hf
        have := d.dep x hxS hfx
        omega
    · unfold dfsM
      rw [ents_app, ents_app, ents_cons]
      simp
      omega
theorem i_inT {K : PySem.W.Frag} {H : Hp} {x : V} {p : Addr} {xs : List V} {b : Bool} {Q : VK} (h : SqT K H p xs) (fx : flatV x = true) (fs : xs.all flatV = true) (e : inV x xs = b) (q : Q (.bl b) H) : rIn K false x (.ref p) H Q := ⟨p, xs, rfl, .inr h, fx, fs, by rw [if_neg (by decide), e]; exact q⟩
theorem Dfs.nil {s : Sf} {n g : Int} {dp : Int → Nat} {U : List (Int × List Ent)} (d : Dfs s n g dp [] U) : ¬ Reach s.es n g := fun r => by
  obtain ⟨x, hx, _⟩ := d.rea.mp r
  cases hx
end FS

set_option Elab.async false
set_option maxRecDepth 100000
set_option linter.all false
/-! FsRows: the rows of a shelf: data, and the list that is told, with its inner lists. -/
namespace FS
open PySem PySem.Spec PyProof.Rows L2 Evl
def nodesS (s : Sf) : List Int := (keys s.fo ++ keys s.fi).mergeSort (fun a b => decide (a ≤ b))
theorem nodesS_perm (s : Sf) : (nodesS s).Perm (keys s.fo ++ keys s.fi) := List.mergeSort_perm _ _
theorem nodesS_sorted (s : Sf) : (nodesS s).Pairwise (· ≤ ·) := by
  have := List.pairwise_mergeSort (le := fun a b : Int => decide (a ≤ b)) (fun a b c h1 h2 => by simp at *; omega) (fun a b => by simp; omega) (keys s.fo ++ keys s.fi)
  exact this.imp fun h => by simpa using h
theorem nodes_eq {s : Sf} {ns : List Int} (p : ns.Perm (keys s.fo ++ keys s.fi)) (h : ns.Pairwise (· ≤ ·)) : ns = nodesS s :=
  List.Perm.eq_of_pairwise (fun a b _ _ h1 h2 => Int.le_antisymm h1 h2) h (nodesS_sorted s) (p.trans (nodesS_perm s).symm)
theorem nodesS_mem {s : Sf} {k : Int} : k ∈ nodesS s ↔ s.isFo k ∨ s.isFi k := by
  rw [(nodesS_perm s).mem_iff, List.mem_append]; exact Iff.rfl
def rowD (s : Sf) (k : Int) : PyData := match aget s.fo k with
  | some l => .tuple [.str "folder", .int k, .list ((sortE l).map entD)]
  | none => match aget s.fi k with
    | some d => .tuple [.str "file", .int k, .int d.1, .str d.2]
    | none => .none
def rowsD (s : Sf) : List PyData := (nodesS s).map (rowD s)
structure RwX where
  f : Bool
  t : Addr
  L : Addr
  ts : List V
inductive RwF (K : PySem.W.Frag) (P : Hp) (s : Sf) : Int → RwX → Prop
  | fo {k : Int} {l : List Ent} {t L : Addr} {ts : List V} : aget s.fo k = some l → SqT K P t [.str "folder", .int k, .ref L] → DpAll K P ts ((sortE l).map entD) → RwF K P s k ⟨true, t, L, ts⟩
  | fi {k : Int} {d : Int × Str} {t L : Addr} {ts : List V} : aget s.fo k = none → aget s.fi k = some d → SqT K P t [.str "file", .int k, .int d.1, .str d.2] → RwF K P s k ⟨false, t, L, ts⟩
theorem RwF.up {K : PySem.W.Frag} {P P' : Hp} {s : Sf} {k : Int} {x : RwX} (e : Ex P P') (h : RwF K P s k x) : RwF K P' s k x := by
  cases h with
  | fo a b c => exact .fo a (ex_t e b) (DpAll.up e c)
  | fi a b c => exact .fi a b (ex_t e c)
def rwPc (x : RwX) : Ch := if x.f = true then pt x.L (.lst x.ts) else pur True
def RwFs (K : PySem.W.Frag) (s : Sf) (ns : List Int) (xs : List RwX) (P : Hp) : Prop := Paired (RwF K P s) ns xs
theorem RwFs.up {K : PySem.W.Frag} {s : Sf} {ns : List Int} {xs : List RwX} (P P' : Hp) (e : Ex P P') (h : RwFs K s ns xs P) : RwFs K s ns xs P' := pmonoF (fun _ _ z => z.up e) h
def rowsP (K : PySem.W.Frag) (D : Addr) (s : Sf) (ns : List Int) : Ch := exc fun xs : List RwX => sep [fct (RwFs K s ns xs) RwFs.up, pt D (.lst (xs.map fun x => .ref x.t)), sep (xs.map rwPc)]
theorem rwOpen {K : PySem.W.Frag} {P H : Hp} {cs : List Ch} {D : Addr} {s : Sf} {ns : List Int} (m : Mem P (rowsP K D s ns :: cs) H) : ∃ xs : List RwX, RwFs K s ns xs P ∧ Mem P (pt D (.lst (xs.map fun x => .ref x.t)) :: sep (xs.map rwPc) :: cs) H := by
  obtain ⟨x, m⟩ := m.exE
  obtain ⟨h, m⟩ := Mem.fctE m.open
  exact ⟨x, h, m⟩
theorem rwClose {K : PySem.W.Frag} {P H : Hp} {cs : List Ch} {D : Addr} {s : Sf} {ns : List Int} {xs : List RwX} (h : RwFs K s ns xs P) (m : Mem P (pt D (.lst (xs.map fun x => .ref x.t)) :: sep (xs.map rwPc) :: cs) H) : Mem P (rowsP K D s ns :: cs) H :=
  Mem.exI xs (Mem.close (cs := cs) (ds := [fct (RwFs K s ns xs) RwFs.up, pt D (.lst (xs.map fun x : RwX => V.ref x.t)), sep (xs.map rwPc)]) (Mem.fctI h m))
theorem fam_rd {α : Type} {f : α → Ch} {P H : Hp} {cs : List Ch} {xs : List α} (m : Mem P (sep (xs.map f) :: cs) H) {x : α} (hx : x ∈ xs) : ∃ r, Mem P (f x :: r) H := by
  obtain ⟨A, B, rfl⟩ := List.append_of_mem hx
  have m1 := m.open
  rw [List.map_append, List.map_cons, List.append_assoc, List.cons_append] at m1
  exact ⟨_, m1.sel sel_mid⟩
theorem dpOf {α β : Type} {K : PySem.W.Frag} {H : Hp} {F : β → α → Prop} {g : α → V} {r : β → PyData} (h : ∀ b a, F b a → Dp K H (g a) (r b)) : ∀ {bs : List β} {as : List α}, Paired F bs as → DpAll K H (as.map g) (bs.map r)
  | _, _, .nil => .nil
  | _, _, .cons a t => .cons (h _ _ a) (dpOf h t)
theorem pin {α β : Type} {F : α → β → Prop} : ∀ {xs : List α} {ys : List β}, Paired F xs ys → Paired (fun x y => F x y ∧ y ∈ ys) xs ys
  | _, _, .nil => .nil
  | _, _, .cons a t => .cons ⟨a, .head _⟩ (pmonoF (fun _ _ z => ⟨z.1, .tail _ z.2⟩) (pin t))
/-- what is told, as data -/
theorem rows_dp {K : PySem.W.Frag} {P H : Hp} {cs : List Ch} {D : Addr} {s : Sf} (m : Mem P (rowsP K D s (nodesS s) :: cs) H) : Dp K H (.ref D) (.list (rowsD s)) := by
  obtain ⟨xs, h, m⟩ := rwOpen m
  refine .lst (SqL.of m.rd0) (dpOf (g := fun x : RwX => V.ref x.t) (r := rowD s) (F := fun k x => RwF K P s k x ∧ x ∈ xs) (fun k x z => ?_) (pin h))
  obtain ⟨z, hx⟩ := z
  cases z with
  | fo a b c =>
    obtain ⟨r, m2⟩ := fam_rd (m.sel (.s .z)) hx
    unfold rowD
    rw [a]
    refine .tup (ex_t m.ex b) (.cons (.str _) (.cons (.int _) (.cons ?_ .nil)))
    have m3 : Mem P (pt _ (.lst _) :: r) H := m2
    exact .lst (SqL.of m3.rd0) (DpAll.up m.ex c)
  | fi a b c =>
    unfold rowD
    rw [a, b]
    exact .tup (ex_t m.ex c) (.cons (.str _) (.cons (.int _) (.cons (.int _) (.cons (.str _) .nil))))
end FS

set_option Elab.async false
set_option maxRecDepth 100000
set_option linter.all false
/-! FsUp: the chain of folders above a folder. -/
namespace FS
open PySem L2
theorem nodup_le {α : Type} [DecidableEq α] : ∀ {xs ys : List α}, xs.Nodup → (∀ x ∈ xs, x ∈ ys) → xs.length ≤ ys.length
  | [], _, _, _ => Nat.zero_le _
  | x :: xs, ys, nd, h => by
    have hx := h x (.head _)
    have := nodup_le (xs := xs) (ys := ys.erase x) (List.nodup_cons.mp nd).2 fun y hy => by
      have : y ≠ x := fun e => (List.nodup_cons.mp nd).1 (e ▸ hy)
      exact (List.mem_erase_of_ne this).mpr (h y (.tail _ hy))
    rw [List.length_erase_of_mem hx] at this
    have : 0 < ys.length := List.length_pos_of_mem hx
    rw [List.length_cons]
    omega
structure UpI (s : Sf) (g : Int) (dp : Int → Nat) (L : List Int) (h : Int) : Prop where
  fo : ∀ y ∈ L ++ [h], s.isFo y
  nd : (L ++ [h]).Nodup
  lt : ∀ y ∈ L, dp h < dp y
  re : ∀ n, Reach s.es n g ↔ n ∈ L ∨ Reach s.es n h
theorem UpI.init {s : Sf} {g : Int} {dp : Int → Nat} (hg : s.isFo g) : UpI s g dp [] g := ⟨fun y hy => by
  obtain rfl : y = g := by simpa using hy
  exact hg, by simp, (fun _ z => by cases z), fun n => by simp⟩
theorem UpI.len {s : Sf} {g h : Int} {dp : Int → Nat} {L : List Int} {m : Nat} (hok : s.ok m) (u : UpI s g dp L h) : (L ++ [h]).length ≤ m := by
  have h1 := nodup_le u.nd (ys := keys s.fo) u.fo
  have h2 := hok.szo
  have h3 : (keys s.fo).length = s.fo.length := List.length_map _
  omega
theorem UpI.step {s : Sf} {g h w : Int} {dp : Int → Nat} {L : List Int} {m : Nat} (hok : s.ok m) (hd : ∀ e ∈ s.es, s.isFo e.2.2 → dp e.1 < dp e.2.2) (u : UpI s g dp L h) {k : Str} (hw : (w, k, h) ∈ s.es) : UpI s g dp (L ++ [h]) w ∧ dp w < dp h := by
  have hfh : s.isFo h := u.fo h (by simp)
  have hlt : dp w < dp h := hd (w, k, h) hw hfh
  refine ⟨⟨fun y hy => ?_, ?_, fun y hy => ?_, fun n => ?_⟩, hlt⟩
  · rcases List.mem_append.mp hy with z | z
    · exact u.fo y z
    · obtain rfl : y = w := by simpa using z
      exact src_fo hw
  · refine List.nodup_append.mpr ⟨u.nd, by simp, fun a ha b hb e => ?_⟩
    obtain rfl : b = w := by simpa using hb
    subst e
    rcases List.mem_append.mp ha with z | z
    · have := u.lt a z; omega
    · obtain rfl : a = h := by simpa using z
      omega
  · rcases List.mem_append.mp hy with z | z
    · have := u.lt y z; omega
    · obtain rfl : y = h := by simpa using z
      exact hlt
  · rw [u.re n, List.mem_append]
    constructor
    · rintro (z | z)
      · exact .inl (.inl z)
      · rcases z.last with rfl | ⟨b, k2, r, e⟩
        · exact .inl (.inr (by simp))
        · have := hok.uniq e hw rfl hfh
          have e1 : b = w := congrArg Prod.fst this
          subst e1
          exact .inr r
    · rintro ((z | z) | z)
      · exact .inl z
      · obtain rfl : n = h := by simpa using z
        exact .inr (.refl _)
      · exact .inr (z.trans (.step hw (.refl _)))
theorem UpI.done {s : Sf} {g : Int} {dp : Int → Nat} {L : List Int} {m : Nat} (hok : s.ok m) (u : UpI s g dp L 0) (n : Int) : Reach s.es n g ↔ n ∈ L ++ [0] := by
  rw [u.re n, List.mem_append]
  constructor
  · rintro (z | z)
    · exact .inl z
    · rcases z.last with rfl | ⟨b, k2, r, e⟩
      · exact .inr (by simp)
      · exact absurd rfl (hok.non0 _ e)
  · rintro (z | z)
    · exact .inl z
    · obtain rfl : n = 0 := by simpa using z
      exact .inr (.refl _)
/-- the folders in which an entry leads to h -/
def upW (s : Sf) (h : Int) : List Int := (s.fo.filter fun q => decide (h ∈ q.2.map (·.2))).map (·.1)
theorem upW_some {s : Sf} {h : Int} {m : Nat} (hok : s.ok m) (hf : s.isFo h) (h0 : h ≠ 0) : ∃ w r k, upW s h = w :: r ∧ (w, k, h) ∈ s.es := by
  obtain ⟨e, he, e2⟩ := tgs_mem.mp (hok.has h (.inl hf) h0)
  obtain ⟨l, hl, hk⟩ := ents_mem.mp (show (e.1, e.2.1, e.2.2) ∈ entsOf s.fo from he)
  have hin : e.1 ∈ upW s h := List.mem_map.mpr ⟨(e.1, l), List.mem_filter.mpr ⟨hl, decide_eq_true (List.mem_map.mpr ⟨_, hk, e2⟩)⟩, rfl⟩
  cases hu : upW s h with
  | nil => rw [hu] at hin; cases hin
  | cons w r =>
    have hw : w ∈ upW s h := by rw [hu]; exact .head _
    obtain ⟨q, hq, rfl⟩ := List.mem_map.mp hw
    have hq2 := List.mem_filter.mp hq
    obtain ⟨p, hp, e3⟩ := List.mem_map.mp (of_decide_eq_true hq2.2)
    exact ⟨q.1, r, p.1, rfl, ents_mem.mpr ⟨q.2, hq2.1, by rw [← e3]; exact hp⟩⟩
end FS

set_option Elab.async false
set_option maxRecDepth 100000
set_option linter.all false
/-! FsZip: comprehensions over zip of two lists or tuples; isinstance by two types. -/
namespace FS
open PySem PySem.Spec PyProof.Rows L2 Evl LamX PySem.W
def tLcQ (J : It) (g : TG) (tt : TT) (te : TE) (vs : List Nat) (σ : L2.St) (H : Hp) (Qd : Addr → Hp → Prop) : Prop := ∀ D, H D = none → ∃ W : Nat → Nat → Hp → Prop, (∃ m, W 0 m (upd H D (.lst []))) ∧ ∀ i m H, W i m H →
      (J.stop i H ∧ Qd D H) ∨ (J.go i H ∧ ∃ Nx : Hp → Prop, (∀ H', Nx H' → ∃ m', m' < m ∧ W (i + 1) m' H') ∧ ∀ x H', J.yld i H x H' → g x (wipe σ vs) H' fun σ2 H2 => wipe σ2 vs = wipe σ vs ∧ tt σ2 H2 fun b H3 =>
        if b = true then te σ2 H3 fun y H4 => ∃ acc, H4 D = some (.lst acc) ∧ acc.length < sizeLine ∧ Nx (upd H4 D (.lst (acc ++ [y]))) else Nx H3)
theorem l_lcG {J : It} {n : Nat} {P : Hp} {cs : List Ch} {G : Hp → Prop} {Y : Nat → Hp → V → Hp → Prop} {g : TG} {tt : TT} {te : TE} {vs : List Nat} {σ : L2.St} {H : Hp} {Qd : Addr → Hp → Prop}
    (w : Walk J n G Y) (m : Mem P cs H) (hG : ∀ P' H' c, Ex P P' → Mem P' (c :: cs) H' → G H') (R : Nat → List V → Hp → Prop) (h0 : R 0 [] P)
    (hs : ∀ i x P' H' H1 acc D, i < n → Y i H1 x H' → Ex P P' → Mem P' (pt D (.lst acc) :: cs) H1 → R i acc P' → ∀ (Kt : VK) (Kf : Hp → Prop),
      (∀ y P4 H4, Ex P' P4 → Mem P4 (pt D (.lst acc) :: cs) H4 → acc.length < 100000 → R (i + 1) (acc ++ [y]) P4 → Kt y H4) →
      (∀ P4 H4, Ex P' P4 → Mem P4 (pt D (.lst acc) :: cs) H4 → R (i + 1) acc P4 → Kf H4) →
      g x (wipe σ vs) H' fun σ2 H2 => wipe σ2 vs = wipe σ vs ∧ tt σ2 H2 fun b H3 => if b = true then te σ2 H3 Kt else Kf H3)
    (hd : ∀ D P' H' acc, Ex P P' → Mem P' (pt D (.lst acc) :: cs) H' → R n acc P' → Qd D H') : tLcQ J g tt te vs σ H Qd := fun D hD =>
  lc_it (Qd := Qd D) w (fun i H' => ∃ P' acc, Ex P P' ∧ Mem P' (pt D (.lst acc) :: cs) H' ∧ R i acc P') ⟨P, [], Ex.refl _, m.new hD, h0⟩ (fun i H' _ ⟨P', acc, e, m', _⟩ => hG P' H' _ e m')
    (fun i x H1 H' hi ⟨P', acc, e, m', r⟩ y => hs i x P' H' H1 acc D hi y e m' r _ _ (fun y P4 H4 e4 m4 l4 r4 => ⟨acc, m4.rd0, sz_lt l4, P4, _, e.trans e4, m4.put0, r4⟩) (fun P4 H4 e4 m4 r4 => ⟨P4, acc, e.trans e4, m4, r4⟩))
    (fun H' ⟨P', acc, e, m', r⟩ => hd D P' H' acc e m' r)
theorem walk_zipT {K : PySem.W.Frag} {a b : Addr} {xs ys : List V} {n : Nat} (hn : n = min xs.length ys.length) : Walk (RZ.ItzT K a b) n (fun H => SqT K H a xs ∧ SqT K H b ys) (YPair (fun i => xs[i]?) (fun i => ys[i]?)) := by
  subst hn
  refine ⟨fun i _ hi q => ?_, fun _ q => ⟨xs, ys, q.1, q.2, by omega⟩, fun i H v H' _ q y => ?_⟩
  · have h1 : i < xs.length := by omega
    have h2 : i < ys.length := by omega
    exact ⟨xs, ys, xs[i], ys[i], q.1, q.2, by simp [h1], by simp [h2]⟩
  · obtain ⟨T, x, z, h1, h2, h3, h4, h5⟩ := y
    exact ⟨T, x, z, h1, h2, h3, h4 xs q.1, h5 ys q.2⟩
theorem i_iZip {K : PySem.W.Frag} {ta : TA} {σ : L2.St} {H : Hp} {R : It → Hp → Prop} (h : ta σ H fun vs H1 => ∃ a b xs ys, vs = [.ref a, .ref b] ∧ ((SqL K H1 a xs ∧ SqL K H1 b ys ∧ R (Itz K a b) H1) ∨ (SqT K H1 a xs ∧ SqT K H1 b ys ∧ R (RZ.ItzT K a b) H1))) : RZ.iZipA K ta σ H R := h
theorem piZA {X : Cx} {K : PySem.W.Frag} {e e2 : Expr} {t : TA} {p pos tpos : Pos} {elts : List Expr} {kk : Nat} (h : X.K = K) (hg : Gl X "zip") (hm : X.mg "zip" = none) (ha : PA X [e, e2] t)
    (hs : starEach [e, e2] X.env = (false, eval e X.env) :: starEach [e2] X.env := by rfl) (hpl : (backTo pos (starEach [e2] X.env)).any (·.1) = false := by rfl) :
    PI X (.Tuple elts kk tpos) (.Call (.Name "zip" p) [e, e2] [] pos) (RZ.iZipA K t) := by subst h; exact RZ.pi_zipA hg hm ha hs hpl
section
variable {K : PySem.W.Frag} {P : Hp} {cs : List Ch} {a b : Addr} {xs ys : List V} {g : TG} {tt : TT} {te : TE} {vs : List Nat} {σ : L2.St} {H : Hp} {Qd : Addr → Hp → Prop}
theorem l_lcZ (m : Mem P cs H) (hq : (SqL K P a xs ∧ SqL K P b ys) ∨ (SqT K P a xs ∧ SqT K P b ys)) (R : Nat → List V → Hp → Prop) (h0 : R 0 [] P) (hR : ∀ i acc P1 P2, Ex P1 P2 → R i acc P1 → R i acc P2)
    (hs : ∀ i x y P' H' acc D T, xs[i]? = some x → ys[i]? = some y → Ex P P' → Mem P' (pt D (.lst acc) :: cs) H' → SqT K P' T [x, y] → R i acc P' → ∀ (Kt : VK) (Kf : Hp → Prop),
      (∀ y P4 H4, Ex P' P4 → Mem P4 (pt D (.lst acc) :: cs) H4 → acc.length < 100000 → R (i + 1) (acc ++ [y]) P4 → Kt y H4) →
      (∀ P4 H4, Ex P' P4 → Mem P4 (pt D (.lst acc) :: cs) H4 → R (i + 1) acc P4 → Kf H4) →
      g (.ref T) (wipe σ vs) H' fun σ2 H2 => wipe σ2 vs = wipe σ vs ∧ tt σ2 H2 fun b H3 => if b = true then te σ2 H3 Kt else Kf H3)
    (hd : ∀ D P' H' acc, Ex P P' → Mem P' (pt D (.lst acc) :: cs) H' → R (min xs.length ys.length) acc P' → Qd D H') :
    ∃ a' b' xs' ys', [V.ref a, V.ref b] = [.ref a', .ref b'] ∧ ((SqL K H a' xs' ∧ SqL K H b' ys' ∧ tLcQ (Itz K a' b') g tt te vs σ H Qd) ∨ (SqT K H a' xs' ∧ SqT K H b' ys' ∧ tLcQ (RZ.ItzT K a' b') g tt te vs σ H Qd)) := by
  have turn : ∀ i x P' H' H1 acc D, YPair (fun i => xs[i]?) (fun i => ys[i]?) i H1 x H' → Ex P P' → Mem P' (pt D (.lst acc) :: cs) H1 → R i acc P' → ∀ (Kt : VK) (Kf : Hp → Prop),
      (∀ y P4 H4, Ex P' P4 → Mem P4 (pt D (.lst acc) :: cs) H4 → acc.length < 100000 → R (i + 1) (acc ++ [y]) P4 → Kt y H4) →
      (∀ P4 H4, Ex P' P4 → Mem P4 (pt D (.lst acc) :: cs) H4 → R (i + 1) acc P4 → Kf H4) →
      g x (wipe σ vs) H' fun σ2 H2 => wipe σ2 vs = wipe σ vs ∧ tt σ2 H2 fun b H3 => if b = true then te σ2 H3 Kt else Kf H3 := by
    rintro i x P' H' H1 acc D ⟨T, x1, y1, rfl, h2, rfl, h4, h5⟩ e m' r Kt Kf hKt hKf
    have f := m'.newP (o := .tup [x1, y1]) h2
    exact hs i x1 y1 _ _ acc D T h4 h5 (e.trans f.2) f.1 (SqT.of upd_same) (hR _ _ _ _ f.2 r) Kt Kf (fun y P4 H4 e4 => hKt y P4 H4 (f.2.trans e4)) (fun P4 H4 e4 => hKf P4 H4 (f.2.trans e4))
  rcases hq with ⟨hx, hy⟩ | ⟨hx, hy⟩
  · exact ⟨a, b, xs, ys, rfl, .inl ⟨ex_l m.ex hx, ex_l m.ex hy, l_lcG (walk_zip rfl) m (fun P' H' c e m' => ⟨ex_l (e.trans m'.ex) hx, ex_l (e.trans m'.ex) hy⟩) R h0 (fun i x P' H' H1 acc D _ y e m' r => turn i x P' H' H1 acc D y e m' r) hd⟩⟩
  · exact ⟨a, b, xs, ys, rfl, .inr ⟨ex_t m.ex hx, ex_t m.ex hy, l_lcG (walk_zipT rfl) m (fun P' H' c e m' => ⟨ex_t (e.trans m'.ex) hx, ex_t (e.trans m'.ex) hy⟩) R h0 (fun i x P' H' H1 acc D _ y e m' r => turn i x P' H' H1 acc D y e m' r) hd⟩⟩
end
theorem i_isiT2 {K : PySem.W.Frag} {P H : Hp} {cs : List Ch} {x : V} {tp : Addr} {a b t : String} {r1 r2 r : Bool} {Q : VK} (m : Mem P cs H) (hp : P tp = some (.tup [.ty a, .ty b])) (ty : TyX K H x (.type t)) (e1 : kitB t a = some r1) (e2 : kitB t b = some r2) (hr : (r1 || r2) = r) (q : Q (.bl r) H) : rIsiT K [x, .ref tp] H Q := by
  refine ⟨x, tp, _, _, [.type a, .type b], r, rfl, m.ex _ _ hp, .cons (.ty _) (.cons (.ty _) .nil), ty, ?_, q⟩
  subst hr
  have k1 : kitOne K (.type t) (.type a) = some r1 := kit_ty e1
  have k2 : kitOne K (.type t) (.type b) = some r2 := kit_ty e2
  cases r1 <;> cases r2 <;> simp [kitAny, k1, k2]
theorem Mem.le {P H H' : Hp} {cs : List Ch} (m : Mem P cs H) (e : Ex H H') : Mem P cs H' := by
  obtain ⟨e1, h, s, d, l⟩ := m
  exact ⟨e1.trans e, h, s, d, l.trans e⟩
/-- data that a law's `same` goes through, of less than n levels -/
inductive SmD : Nat → PyData → Prop
  | non {n : Nat} : SmD (n + 1) .none
  | int {n : Nat} (i : Int) : SmD (n + 1) (.int i)
  | str {n : Nat} (z : Str) : SmD (n + 1) (.str z)
  | lst {n : Nat} {ds : List PyData} : ds.length ≤ 90000 → (∀ d ∈ ds, SmD n d) → SmD (n + 1) (.list ds)
  | tup {n : Nat} {ds : List PyData} : ds.length ≤ 90000 → (∀ d ∈ ds, SmD n d) → SmD (n + 1) (.tuple ds)
theorem SmD.mono {n m : Nat} {d : PyData} (h : SmD n d) (k : n ≤ m) : SmD m d := by
  induction h generalizing m with
  | non => obtain ⟨j, rfl⟩ : ∃ j, m = j + 1 := ⟨m - 1, by omega⟩; exact .non
  | int i => obtain ⟨j, rfl⟩ : ∃ j, m = j + 1 := ⟨m - 1, by omega⟩; exact .int i
  | str i => obtain ⟨j, rfl⟩ : ∃ j, m = j + 1 := ⟨m - 1, by omega⟩; exact .str i
  | lst l _ ih => obtain ⟨j, rfl⟩ : ∃ j, m = j + 1 := ⟨m - 1, by omega⟩; exact .lst l fun d hd => ih d hd (by omega)
  | tup l _ ih => obtain ⟨j, rfl⟩ : ∃ j, m = j + 1 := ⟨m - 1, by omega⟩; exact .tup l fun d hd => ih d hd (by omega)
theorem dpAt {K : PySem.W.Frag} {H : Hp} {x : V} : ∀ {i : Nat} {xs : List V} {ds : List PyData}, DpAll K H xs ds → xs[i]? = some x → ∃ d, ds[i]? = some d ∧ Dp K H x d
  | i, _, _, .nil, h => by simp at h
  | 0, _, _, .cons (d := d) a t, h => ⟨d, rfl, by simp at h; subst h; exact a⟩
  | i + 1, _, _, .cons a t, h => dpAt (i := i) t (by simpa using h)
theorem dpLen {K : PySem.W.Frag} {P : Hp} : ∀ {vs : List V} {ds : List PyData}, DpAll K P vs ds → vs.length = ds.length
  | _, _, .nil => rfl
  | _, _, .cons _ t => congrArg (· + 1) (dpLen t)
theorem dpSnoc {K : PySem.W.Frag} {P : Hp} : ∀ {vs : List V} {ds : List PyData} {v : V} {d : PyData}, DpAll K P vs ds → Dp K P v d → DpAll K P (vs ++ [v]) (ds ++ [d])
  | _, _, _, _, .nil, h => .cons h .nil
  | _, _, _, _, .cons a t, h => .cons a (dpSnoc t h)
/-- what a law's `same` promises, by levels: equal data are told equal, and nothing changes -/
def spSameN (K : PySem.W.Frag) (n : Nat) : Sp := fun vs H Q _ => ∃ (x y : V) (d : PyData), vs = [x, y] ∧ SmD n d ∧ Dp K H x d ∧ Dp K H y d ∧ ∀ H', Ex H H' → Q (.bl true) H'
theorem spSameN0 {K : PySem.W.Frag} {vs : List V} {H : Hp} {Q : VK} {E : XK} (h : spSameN K 0 vs H Q E) : False := by
  obtain ⟨x, y, d, _, h, _⟩ := h
  cases h
end FS

set_option Elab.async false
set_option maxRecDepth 100000
set_option linter.all false
/-! FsAid: comprehensions that map, `in` a list of numbers, names of entries, the word that is due later. -/
namespace FS
open PySem PySem.Spec PyProof.Rows L2 Evl LamX PySem.W
section
variable {K : PySem.W.Frag} {P : Hp} {cs : List Ch} {a : Addr} {xs : List V} {g : TG} {tt : TT} {te : TE} {vs : List Nat} {σ : L2.St} {H : Hp} {Qd : Addr → Hp → Prop}
/-- each item is mapped to f of it, over a tuple -/
def l_lcMT (f : V → V) (m : Mem P cs H) (hq : SqT K P a xs) (hz : xs.length ≤ 90000)
    (hs : ∀ (i : Nat) (x : V) P' H' acc D, xs[i]? = some x → Ex P P' → Mem P' (pt D (.lst acc) :: cs) H' → ∀ (Kt : VK) (Kf : Hp → Prop),
      (∀ P4 H4, Ex P' P4 → Mem P4 (pt D (.lst acc) :: cs) H4 → Kt (f x) H4) →
      g x (wipe σ vs) H' fun σ2 H2 => wipe σ2 vs = wipe σ vs ∧ tt σ2 H2 fun b H3 => if b = true then te σ2 H3 Kt else Kf H3)
    (hd : ∀ D P' H', Ex P P' → Mem P' (pt D (.lst (xs.map f)) :: cs) H' → Qd D H') :=
  l_lcT (tt := tt) (te := te) (vs := vs) (σ := σ) (g := g) m hq (fun i acc (_ : Hp) => acc = (xs.take (i : Nat)).map f) rfl (fun i x P' H' acc D hx e m' r Kt Kf hKt hKf => hs i x P' H' acc D hx e m' Kt Kf fun P4 H4 e4 m4 => hKt _ P4 H4 e4 m4 (by
    rw [r, List.length_map, List.length_take]; omega) (by
    rw [r, List.take_add_one, hx, List.map_append]; rfl)) (fun D P' H' acc e m' r => hd D P' H' e (by rw [r, List.take_length] at m'; exact m'))
/-- the same over a list -/
def l_lcML (f : V → V) (m : Mem P cs H) (hl : ∀ P' H' c, Ex P P' → Mem P' (c :: cs) H' → SqL K H' a xs) (hz : xs.length ≤ 90000)
    (hs : ∀ (i : Nat) (x : V) P' H' acc D, xs[i]? = some x → Ex P P' → Mem P' (pt D (.lst acc) :: cs) H' → ∀ (Kt : VK) (Kf : Hp → Prop),
      (∀ P4 H4, Ex P' P4 → Mem P4 (pt D (.lst acc) :: cs) H4 → Kt (f x) H4) →
      g x (wipe σ vs) H' fun σ2 H2 => wipe σ2 vs = wipe σ vs ∧ tt σ2 H2 fun b H3 => if b = true then te σ2 H3 Kt else Kf H3)
    (hd : ∀ D P' H', Ex P P' → Mem P' (pt D (.lst (xs.map f)) :: cs) H' → Qd D H') :=
  l_lc (tt := tt) (te := te) (vs := vs) (σ := σ) (g := g) m hl (fun i acc (_ : Hp) => acc = (xs.take (i : Nat)).map f) rfl (fun i x P' H' acc D hx e m' r Kt Kf hKt hKf => hs i x P' H' acc D hx e m' Kt Kf fun P4 H4 e4 m4 => hKt _ P4 H4 e4 m4 (by
    rw [r, List.length_map, List.length_take]; omega) (by
    rw [r, List.take_add_one, hx, List.map_append]; rfl)) (fun D P' H' acc e m' r => hd D P' H' e (by rw [r, List.take_length] at m'; exact m'))
end
theorem inV_int (n : Int) (L : List Int) : inV (.int n) (L.map V.int) = decide (n ∈ L) := by
  unfold inV
  induction L with
  | nil => rfl
  | cons x r ih =>
    rw [List.map_cons, List.any_cons, ih]
    by_cases h : x = n
    · subst h; simp [eqV]
    · have h2 : ¬ n = x := fun z => h z.symm
      simp [eqV, h, h2]
theorem flat_ints (L : List Int) : (L.map V.int).all flatV = true := by
  rw [List.all_eq_true]
  intro x hx
  obtain ⟨i, _, rfl⟩ := List.mem_map.mp hx
  rfl
theorem i_inLI {K : PySem.W.Frag} {H : Hp} {n : Int} {p : Addr} {L : List Int} {Q : VK} (h : SqL K H p (L.map V.int)) (q : Q (.bl (decide (n ∈ L))) H) : rIn K false (.int n) (.ref p) H Q :=
  ⟨p, _, rfl, .inl h, rfl, flat_ints L, by rw [if_neg (by decide), inV_int]; exact q⟩
theorem i_inTI {K : PySem.W.Frag} {H : Hp} {n : Int} {p : Addr} {L : List Int} {Q : VK} (h : SqT K H p (L.map V.int)) (q : Q (.bl (decide (n ∈ L))) H) : rIn K false (.int n) (.ref p) H Q :=
  ⟨p, _, rfl, .inr h, rfl, flat_ints L, by rw [if_neg (by decide), inV_int]; exact q⟩
/-! ### entries have names -/
def Sf.nm (s : Sf) : Prop := ∀ e ∈ s.es, nameB e.2.1 = true
theorem Sf.new_nm : Sf.new.nm := by
  intro e h
  have : e = ((0 : Int), ("clash" : Str), (1 : Int)) := by simpa [Sf.es, entsOf, Sf.new] using h
  subst this; decide +kernel
theorem mem_asetG {κ α : Type} [DecidableEq κ] {l : List (κ × α)} {k : κ} {v : α} {q : κ × α} (h : q ∈ aset l k v) : q ∈ l ∨ q = (k, v) := by
  unfold aset at h
  split at h
  · obtain ⟨p, hp, e⟩ := List.mem_map.mp h
    split at e
    · rename_i h1; subst h1; exact .inr e.symm
    · subst e; exact .inl hp
  · rcases List.mem_append.mp h with z | z
    · exact .inl z
    · exact .inr (by simpa using z)
theorem ents_putE {fo : List (Int × List Ent)} {f t : Int} {n : Str} {e : Int × Str × Int} (h : e ∈ entsOf (putE fo f n t)) : e ∈ entsOf fo ∨ e = (f, n, t) := by
  unfold putE at h
  split at h
  · exact .inl h
  · rename_i l hl
    obtain ⟨e1, e2, e3⟩ := e
    obtain ⟨l2, hl2, hp⟩ := ents_mem.mp h
    rcases mem_asetG hl2 with z | z
    · exact .inl (ents_mem.mpr ⟨l2, z, hp⟩)
    · cases z
      rcases mem_asetG hp with z | z
      · exact .inl (ents_mem.mpr ⟨l, aget_mem hl, z⟩)
      · cases z; exact .inr rfl
theorem ents_takeE {fo : List (Int × List Ent)} {f : Int} {n : Str} {e : Int × Str × Int} (h : e ∈ entsOf (takeE fo f n)) : e ∈ entsOf fo := by
  unfold takeE at h
  split at h
  · exact h
  · rename_i l hl
    obtain ⟨e1, e2, e3⟩ := e
    obtain ⟨l2, hl2, hp⟩ := ents_mem.mp h
    rcases mem_asetG hl2 with z | z
    · exact ents_mem.mpr ⟨l2, z, hp⟩
    · cases z
      exact ents_mem.mpr ⟨l, aget_mem hl, (mem_adel.mp hp).1⟩
theorem ents_adel {fo : List (Int × List Ent)} {t : Int} {e : Int × Str × Int} (h : e ∈ entsOf (adel fo t)) : e ∈ entsOf fo := by
  obtain ⟨e1, e2, e3⟩ := e
  obtain ⟨l, hl, hp⟩ := ents_mem.mp h
  exact ents_mem.mpr ⟨l, (mem_adel.mp hl).1, hp⟩
theorem dropF_name {s : Sf} {f : Int} {n : Str} (h : s.dropF f n = "") : nameB n = true := by
  unfold Sf.dropF at h
  split at h
  · assumption
  · exact absurd h ne_name
theorem moveF_name {s : Sf} {f g : Int} {n n2 : Str} (h : s.moveF f n g n2 = "") : nameB n = true ∧ nameB n2 = true := by
  unfold Sf.moveF at h
  split at h
  · rename_i z; simpa using z
  · exact absurd h ne_name
theorem act_nm {s : Sf} {d : Deed} (h : s.nm) (hf : s.fault d = "") : (s.act d).1.nm := by
  cases d with
  | make f n c =>
    have hf : (if contB c = true then s.newF f n [] else "name") = "" := hf
    split at hf
    · intro e he
      rcases ents_putE he with z | rfl
      · exact h e z
      · exact (newF_nil hf).1
    · exact absurd hf ne_name
  | fold f n =>
    intro e he
    rcases ents_putE he with z | rfl
    · rw [ents_app] at z
      rcases List.mem_append.mp z with z | z
      · exact h e z
      · simp [entsOf] at z
    · exact (newF_nil (fs := []) hf).1
  | link f n t =>
    intro e he
    rcases ents_putE he with z | rfl
    · exact h e z
    · exact (newF_nil (fs := [t]) hf).1
  | drop f n =>
    obtain ⟨_, t, ht, _⟩ := dropF_nil hf
    have ea : s.act (.drop f n) = (if s.isFo t then ⟨adel (takeE s.fo f n) t, s.fi, s.last⟩ else if t ∈ tgs (entsOf (takeE s.fo f n)) then ⟨takeE s.fo f n, s.fi, s.last⟩ else ⟨takeE s.fo f n, adel s.fi t, s.last⟩, okD) := by
      show (match s.entry f n with | none => (s, okD) | some t => _) = _
      rw [ht]
    rw [ea]
    dsimp only
    split
    · exact fun e he => h e (ents_takeE (ents_adel he))
    · split
      · exact fun e he => h e (ents_takeE he)
      · exact fun e he => h e (ents_takeE he)
  | move f n g n2 =>
    obtain ⟨_, _, t, ht, _⟩ := moveF_nil hf
    have ea : s.act (.move f n g n2) = (⟨putE (takeE s.fo f n) g n2 t, s.fi, s.last⟩, okD) := by
      show (match s.entry f n with | none => (s, okD) | some t => _) = _
      rw [ht]
    rw [ea]
    intro e he
    rcases ents_putE he with z | rfl
    · exact h e (ents_takeE z)
    · exact (moveF_name hf).2
  | put f v c => exact h
theorem doD_nm {s : Sf} {d : Deed} (h : s.nm) : (s.doD d).1.nm := by
  unfold Sf.doD
  split
  · rename_i hf; exact act_nm h hf
  · exact h
theorem doD_ok {s : Sf} {d : Deed} {m : Nat} (h : s.ok m) : (s.doD d).1.ok (m + 1) := by
  unfold Sf.doD
  split
  · rename_i hf; exact act_ok h hf
  · exact h.up (Nat.le_succ m)
theorem nm_len {z : Str} (h : nameB z = true) : z.length ≤ 8 := by
  unfold nameB at h
  simp at h
  omega
/-! ### the words in two steps -/
noncomputable def Sf.later (s : Sf) : Deed → Str
  | .make f n _ => if (s.entry f n).isSome = true then "there" else ""
  | .fold f n => if (s.entry f n).isSome = true then "there" else ""
  | .link f n _ => if (s.entry f n).isSome = true then "there" else ""
  | .drop f n => match s.entry f n with
    | none => "lacks"
    | some t => if t = 1 then "kept" else if 0 < ((aget s.fo t).getD []).length then "full" else ""
  | .move f n g n2 => match s.entry f n with
    | none => "lacks"
    | some t => if (s.entry g n2).isSome = true then "there" else if t = 1 then "kept" else if Reach s.es t g then "beneath" else ""
  | .put f v _ => if ((aget s.fi f).getD (0, "")).1 = v then "" else "stale"
def Deed.texts : Deed → List Str
  | .make _ n _ => [n]
  | .fold _ n => [n]
  | .link _ n _ => [n]
  | .drop _ n => [n]
  | .move _ n _ n2 => [n, n2]
  | .put _ _ _ => []
def Deed.conts : Deed → List Str
  | .make _ _ c => [c]
  | .put _ _ c => [c]
  | _ => []
def Deed.fos : Deed → List Int
  | .make f _ _ => [f]
  | .fold f _ => [f]
  | .link f _ _ => [f]
  | .drop f _ => [f]
  | .move f _ g _ => [f, g]
  | .put _ _ _ => []
def Deed.fis : Deed → List Int
  | .link _ _ t => [t]
  | .put f _ _ => [f]
  | _ => []
theorem fault_steps (s : Sf) (d : Deed) : s.fault d = if d.texts.all nameB = true then (if d.conts.all contB = true then (if s.nodesF d.fos d.fis = "" then s.later d else s.nodesF d.fos d.fis) else "name") else "name" := by
  cases d with
  | make f n c =>
    show (if contB c = true then s.newF f n [] else "name") = _
    simp only [Deed.texts, Deed.conts, Deed.fos, Deed.fis, List.all_cons, List.all_nil, Bool.and_true, Sf.newF, Sf.later]
    split <;> split <;> rfl
  | fold f n =>
    show s.newF f n [] = _
    simp only [Deed.texts, Deed.conts, Deed.fos, Deed.fis, List.all_cons, List.all_nil, Bool.and_true, Sf.newF, Sf.later]
    rfl
  | link f n t =>
    show s.newF f n [t] = _
    simp only [Deed.texts, Deed.conts, Deed.fos, Deed.fis, List.all_cons, List.all_nil, Bool.and_true, Sf.newF, Sf.later]
    rfl
  | drop f n =>
    show s.dropF f n = _
    simp only [Deed.texts, Deed.conts, Deed.fos, Deed.fis, List.all_cons, List.all_nil, Bool.and_true, Sf.dropF, Sf.later]
    rfl
  | move f n g n2 =>
    show s.moveF f n g n2 = _
    simp only [Deed.texts, Deed.conts, Deed.fos, Deed.fis, List.all_cons, List.all_nil, Bool.and_true, Sf.moveF, Sf.later]
    rfl
  | put f v c =>
    show s.putF f v c = _
    simp only [Deed.texts, Deed.conts, Deed.fos, Deed.fis, List.all_cons, List.all_nil, Bool.and_true, Sf.putF, Sf.later]
    rfl
end FS

set_option Elab.async false
set_option maxRecDepth 100000
set_option linter.all false
/-! FsOwn: the pieces of a shelf read and written; the law's own shelf. -/
namespace FS
open PySem PySem.Spec PyProof.Rows L2 Evl
theorem foK_get {K : PySem.W.Frag} {P : Hp} {s : Sf} {x : SfX} (h : sfF K s x P) (k : Int) : (valV (foK x.es) (Sum.inl k) = none ∧ aget s.fo k = none) ∨ ∃ A B d l, x.es = A ++ (k, d, l) :: B ∧ k ∉ keys A ∧ valV (foK x.es) (Sum.inl k) = some (.ref d) ∧ aget s.fo k = some l := by
  rw [h.1]
  generalize x.es = es
  induction es with
  | nil => exact .inl ⟨rfl, rfl⟩
  | cons p es ih =>
    have e1 : foOf (p :: es) = (p.1, p.2.2) :: foOf es := rfl
    have e2 : foK (p :: es) = (Sum.inl p.1, V.ref p.2.1) :: foK es := rfl
    rw [e1, e2, aget_cons]
    by_cases e : p.1 = k
    · subst e
      refine .inr ⟨[], es, p.2.1, p.2.2, rfl, by simp [keys], valV_pos rfl, by simp⟩
    · rw [valV_neg (inl_ne e), if_neg e]
      rcases ih with z | ⟨A, B, d, l, z1, z2, z3, z4⟩
      · exact .inl z
      · refine .inr ⟨p :: A, B, d, l, by rw [z1]; rfl, ?_, z3, z4⟩
        simp only [keys, List.map_cons, List.mem_cons, not_or]
        exact ⟨fun y => e y.symm, z2⟩
theorem foK_isSome {K : PySem.W.Frag} {P : Hp} {s : Sf} {x : SfX} (h : sfF K s x P) (k : Int) : (valV (foK x.es) (Sum.inl k)).isSome = decide (s.isFo k) := by
  have e : decide (s.isFo k) = (aget s.fo k).isSome := by rw [aget_isSome]; rfl
  rw [e]
  rcases foK_get h k with ⟨z1, z2⟩ | ⟨_, _, _, _, _, _, z1, z2⟩ <;> rw [z1, z2] <;> rfl
theorem fv_get {K : PySem.W.Frag} {P : Hp} : ∀ {fv : List (Key × V)} {fi : List (Int × (Int × Str))}, Paired (FiR K P) fv fi → ∀ k : Int, (valV fv (Sum.inl k) = none ∧ aget fi k = none) ∨ ∃ t d, valV fv (Sum.inl k) = some (.ref t) ∧ aget fi k = some d ∧ SqT K P t [.int d.1, .str d.2]
  | _, _, .nil, k => .inl ⟨rfl, rfl⟩
  | _, _, .cons (a := p) (b := d) q r, k => by
    rw [aget_cons]
    obtain ⟨a1, t, a2, a3⟩ := q
    by_cases e : d.1 = k
    · rw [if_pos e]
      exact .inr ⟨t, d.2, by rw [valV_pos (by rw [a1, e]), a2], rfl, a3⟩
    · rw [if_neg e, valV_neg (by rw [a1]; exact inl_ne e)]
      exact fv_get r k
theorem fv_isSome {K : PySem.W.Frag} {P : Hp} {s : Sf} {x : SfX} (h : sfF K s x P) (k : Int) : (valV x.fv (Sum.inl k)).isSome = decide (s.isFi k) := by
  have e : decide (s.isFi k) = (aget s.fi k).isSome := by rw [aget_isSome]; rfl
  rw [e]
  rcases fv_get h.2 k with ⟨z1, z2⟩ | ⟨_, _, z1, z2, _⟩ <;> rw [z1, z2] <;> rfl
def optV (o : Option Int) : V := match o with | none => .non | some t => .int t
theorem entK_get (l : List Ent) (n : Str) : valV (entK l) (Sum.inr n) = (aget l n).map V.int := by
  have := valV_map (g := fun x : Str => (Sum.inr x : Key)) (f := fun p : Ent => V.int p.2) (fun a b e => Sum.inr.inj e) l n
  unfold entK
  rw [this, aget, Option.map_map]
  rfl
theorem entK_put (l : List Ent) (n : Str) (t : Int) : putK (entK l) (Sum.inr n) (.int t) = entK (aset l n t) := putK_map (g := fun x : Str => (Sum.inr x : Key)) (f := fun i : Int => V.int i) (fun a b e => Sum.inr.inj e) l n t
theorem entK_drop (l : List Ent) (n : Str) : dropK (entK l) (Sum.inr n) = entK (adel l n) := dropK_map (g := fun x : Str => (Sum.inr x : Key)) (f := fun p : Ent => V.int p.2) (fun a b e => Sum.inr.inj e) l n
theorem foOf_mid {A B : List (Int × Addr × List Ent)} {f : Int} {d : Addr} {l : List Ent} : foOf (A ++ (f, d, l) :: B) = foOf A ++ (f, l) :: foOf B := by simp [foOf]
theorem foK_mid {A B : List (Int × Addr × List Ent)} {f : Int} {d : Addr} {l l' : List Ent} : foK (A ++ (f, d, l) :: B) = foK (A ++ (f, d, l') :: B) := by simp [foK]
theorem keys_foOf (A : List (Int × Addr × List Ent)) : keys (foOf A) = keys A := by simp [foOf, keys]
theorem sfF_set {K : PySem.W.Frag} {P : Hp} {s : Sf} {x : SfX} (h : sfF K s x P) (nd : (keys s.fo).Nodup) {A B : List (Int × Addr × List Ent)} {f : Int} {d : Addr} {l : List Ent} (e : x.es = A ++ (f, d, l) :: B) (l' : List Ent) : sfF K { s with fo := aset s.fo f l' } { x with es := A ++ (f, d, l') :: B } P := by
  refine ⟨?_, h.2⟩
  have h1 := h.1
  rw [e, foOf_mid] at h1
  show aset s.fo f l' = foOf (A ++ (f, d, l') :: B)
  rw [h1] at nd ⊢
  obtain ⟨n1, n2, _⟩ := nd_split nd
  rw [aset_mid n1 n2, foOf_mid]
theorem mem_tgs {fo : List (Int × List Ent)} {t : Int} : t ∈ tgs (entsOf fo) ↔ ∃ q ∈ fo, t ∈ q.2.map (·.2) := by
  rw [tgs_mem]
  constructor
  · rintro ⟨e, he, rfl⟩
    obtain ⟨l, hl, h⟩ := ents_mem.mp (show (e.1, e.2.1, e.2.2) ∈ entsOf fo from he)
    exact ⟨_, hl, List.mem_map.mpr ⟨_, h, rfl⟩⟩
  · rintro ⟨q, hq, h⟩
    obtain ⟨p, hp, rfl⟩ := List.mem_map.mp h
    exact ⟨(q.1, p.1, p.2), ents_mem.mpr ⟨q.2, hq, hp⟩, rfl⟩
theorem any_tgs {fo : List (Int × List Ent)} {t : Int} : (fo.map fun q => decide (t ∈ q.2.map (·.2))).any id = decide (t ∈ tgs (entsOf fo)) := by
  rw [Bool.eq_iff_iff, List.any_eq_true, decide_eq_true_eq, mem_tgs]
  constructor
  · rintro ⟨b, hb, e⟩
    obtain ⟨q, hq, rfl⟩ := List.mem_map.mp hb
    exact ⟨q, hq, of_decide_eq_true e⟩
  · rintro ⟨q, hq, h⟩
    exact ⟨_, List.mem_map.mpr ⟨q, hq, rfl⟩, decide_eq_true h⟩
theorem split_at {α : Type} {l : List α} {i : Nat} {x : α} (h : l[i]? = some x) : ∃ A B, l = A ++ x :: B := List.append_of_mem (List.mem_of_getElem? h)
theorem foK_at {es : List (Int × Addr × List Ent)} {i : Nat} {k : Key} {v : V} (h : (foK es)[i]? = some (k, v)) : ∃ p, es[i]? = some p ∧ k = Sum.inl p.1 ∧ v = .ref p.2.1 := by
  unfold foK at h
  rw [List.getElem?_map] at h
  obtain ⟨p, hp, e⟩ := Option.map_eq_some_iff.mp h
  cases e
  exact ⟨p, hp, rfl, rfl⟩
theorem entK_vals (l : List Ent) : (entK l).map (·.2) = (l.map (·.2)).map V.int := by simp [entK]
theorem all_map_id {α : Type} (f : α → Bool) (l : List α) : (l.map f).all id = l.all f := by induction l with
  | nil => rfl
  | cons x l ih => rw [List.map_cons, List.all_cons, List.all_cons, ih]; rfl
theorem l_lcAll {K : PySem.W.Frag} {P H : Hp} {cs : List Ch} {l : Addr} {as : List Int} {te : TE} {vs : List Nat} {σ : L2.St} {j : Nat} {Qd : Addr → Hp → Prop} (f : Int → Bool) (m : Mem P cs H) (hl : SqL K P l (as.map V.int)) (hz : as.length ≤ 1000)
    (hw : ∀ c, wipe ((wipe σ vs).set j (some (.int c))) vs = wipe σ vs)
    (he : ∀ c P' H' D acc (Q : VK), c ∈ as → Ex P P' → Mem P' (pt D (.lst acc) :: cs) H' → (∀ H2, Mem P' (pt D (.lst acc) :: cs) H2 → Q (.bl (f c)) H2) → te ((wipe σ vs).set j (some (.int c))) H' Q)
    (q : ∀ D P' H', Ex P P' → Mem P' (pt D (.lst ((as.map f).map V.bl)) :: cs) H' → Qd D H') :
    ∃ b, V.ref l = .ref b ∧ (∃ xs, SqL K H b xs) ∧ ∀ D, H D = none → ∃ W : Nat → Nat → Hp → Prop, (∃ m, W 0 m (upd H D (.lst []))) ∧ ∀ i m H, W i m H →
      ((Itl K b).stop i H ∧ Qd D H) ∨ ((Itl K b).go i H ∧ ∃ Nx : Hp → Prop, (∀ H', Nx H' → ∃ m', m' < m ∧ W (i + 1) m' H') ∧ ∀ x H', (Itl K b).yld i H x H' → gName j x (wipe σ vs) H' fun σ2 H2 => wipe σ2 vs = wipe σ vs ∧ tYes σ2 H2 fun b H3 =>
        if b = true then te σ2 H3 fun y H4 => ∃ acc, H4 D = some (.lst acc) ∧ acc.length < sizeLine ∧ Nx (upd H4 D (.lst (acc ++ [y]))) else Nx H3) := by
  refine l_lc (K := K) (xs := as.map V.int) m (fun P' H' c e mm => ex_l (e.trans mm.ex) hl) (fun i acc P' => acc = ((as.take i).map f).map V.bl) rfl ?_ ?_
  · rintro i z P' H' acc D hz2 e' m' rfl Kt Kf hKt hKf
    rw [List.getElem?_map] at hz2
    obtain ⟨c, hc, rfl⟩ := Option.map_eq_some_iff.mp hz2
    refine ⟨hw c, i_yes (iteT ?_)⟩
    refine he c P' H' D _ _ (List.mem_of_getElem? hc) e' m' fun H2 m2 => hKt _ P' H2 (Ex.refl _) m2 (by simp; omega) ?_
    rw [List.take_add_one, hc, List.map_append, List.map_append]
    rfl
  · rintro D P' H' acc e' m' rfl
    rw [List.length_map, List.take_length] at m'
    exact q D P' H' e' m'
theorem nodes_one {s : Sf} {f : Int} {bs : List Int} (h : s.nodesF [f] bs = "") : s.isFo f := (nodesF_nil h).1 f (by simp)
theorem optV_non (o : Option Int) : decide (optV o = V.non) = !o.isSome := by cases o <;> simp [optV]
theorem snoc_of {S : List Int} (h : 0 < S.length) : ∃ S' x, S = S' ++ [x] := ⟨S.dropLast, S.getLast (fun e => by rw [e] at h; cases h), (List.dropLast_concat_getLast _).symm⟩
theorem ent_vals {s : Sf} {t : Int} {l : List Ent} (h : aget s.fo t = some l) : (entK l).map (·.2) = ((s.ent t).map (·.2)).map V.int := by
  unfold Sf.ent
  rw [h]
  exact entK_vals l
theorem sfF_last {K : PySem.W.Frag} {s : Sf} {x : SfX} {P : Hp} (i : Int) (h : sfF K s x P) : sfF K { s with last := i } x P := h
theorem pair_snoc {α β : Type} {F : α → β → Prop} : ∀ {xs : List α} {ys : List β} {x : α} {y : β}, Paired F xs ys → F x y → Paired F (xs ++ [x]) (ys ++ [y])
  | _, _, _, _, .nil, h => .cons h .nil
  | _, _, _, _, .cons a t, h => .cons a (pair_snoc t h)
theorem fv_none {K : PySem.W.Frag} {P : Hp} {fv : List (Key × V)} {fi : List (Int × (Int × Str))} (h : Paired (FiR K P) fv fi) {k : Int} (hk : k ∉ keys fi) : ∀ p ∈ fv, p.1 ≠ Sum.inl k := by
  induction h with
  | nil => exact fun _ z => by cases z
  | cons a t ih =>
    rename_i p d _ _
    have h1 : d.1 ≠ k := fun e => hk (by simp [keys, e])
    intro q hq
    rcases List.mem_cons.mp hq with rfl | z
    · rw [a.1]; exact inl_ne h1
    · exact ih (fun w => hk (by simp only [keys, List.map_cons, List.mem_cons]; exact .inr w)) q z
theorem fo_none {K : PySem.W.Frag} {P : Hp} {s : Sf} {x : SfX} (h : sfF K s x P) {k : Int} (hk : k ∉ keys s.fo) : ∀ p ∈ foK x.es, p.1 ≠ Sum.inl k := by
  rw [h.1, keys_foOf] at hk
  intro p hp
  obtain ⟨q, hq, rfl⟩ := List.mem_map.mp hp
  exact inl_ne fun e => hk (by rw [← e]; exact List.mem_map_of_mem hq)
theorem Mem.famSnoc {P H : Hp} {cs : List Ch} {es : List (Int × Addr × List Ent)} {p : Int × Addr × List Ent} (m : Mem P (pt p.2.1 (.dK (entK p.2.2)) :: famP es :: cs) H) : Mem P (famP (es ++ [p]) :: cs) H := by
  have : Mem P (pt p.2.1 (.dK (entK p.2.2)) :: famP (es ++ []) :: cs) H := by rw [List.append_nil]; exact m
  exact Mem.famI this
def newsD : Deed → Prop
  | .make _ _ _ => True
  | .fold _ _ => True
  | _ => False
theorem ok_big {s : Sf} {m : Nat} (h : s.ok m) (hm : m ≤ 1000) : ∀ q ∈ s.fo, q.2.length ≤ 10000 := by
  intro q hq
  obtain ⟨C, D, e⟩ := List.append_of_mem hq
  have := h.sze
  unfold Sf.es at this
  rw [e, ents_app, ents_cons] at this
  simp at this
  omega
theorem fv_drop {K : PySem.W.Frag} {P : Hp} {k : Int} : ∀ {fv : List (Key × V)} {fi : List (Int × (Int × Str))}, Paired (FiR K P) fv fi → Paired (FiR K P) (dropK fv (Sum.inl k)) (adel fi k)
  | _, _, .nil => .nil
  | _, _, .cons (a := p) (b := d) q r => by
    unfold dropK adel
    rw [List.filter_cons, List.filter_cons]
    have ih := fv_drop (k := k) r
    by_cases e : d.1 = k
    · have e2 : p.1 = Sum.inl k := by rw [q.1, e]
      rw [if_neg (by simp [e2]), if_neg (by simp [e])]
      exact ih
    · have e2 : p.1 ≠ Sum.inl k := by rw [q.1]; exact inl_ne e
      rw [if_pos (by simpa using e2), if_pos (by simpa using e)]
      exact .cons q ih
theorem foK_drop (es : List (Int × Addr × List Ent)) (k : Int) : dropK (foK es) (Sum.inl k) = foK (adel es k) := dropK_map (g := fun x : Int => (Sum.inl x : Key)) (f := fun p : Int × Addr × List Ent => V.ref p.2.1) (fun a b e => Sum.inl.inj e) es k
theorem foOf_drop (es : List (Int × Addr × List Ent)) (k : Int) : foOf (adel es k) = adel (foOf es) k := by
  unfold foOf adel
  rw [List.filter_map]
  rfl
theorem fv_any {K : PySem.W.Frag} {P : Hp} {k : Int} : ∀ {fv : List (Key × V)} {fi : List (Int × (Int × Str))}, Paired (FiR K P) fv fi → (fv.any fun kv => decide (kv.1 = Sum.inl k)) = fi.any fun p => decide (p.1 = k)
  | _, _, .nil => rfl
  | _, _, .cons (a := p) (b := d) q r => by
    rw [List.any_cons, List.any_cons, fv_any r, q.1]
    congr 1
    by_cases e : d.1 = k
    · simp [e]
    · have := inl_ne e
      simp [e]
theorem fv_map {K : PySem.W.Frag} {P : Hp} {k : Int} {d : Int × Str} {t : Addr} (ht : SqT K P t [.int d.1, .str d.2]) : ∀ {fv : List (Key × V)} {fi : List (Int × (Int × Str))}, Paired (FiR K P) fv fi → Paired (FiR K P) (fv.map fun kv => if kv.1 = Sum.inl k then (kv.1, .ref t) else kv) (fi.map fun p => if p.1 = k then (p.1, d) else p)
  | _, _, .nil => .nil
  | _, _, .cons (a := p) (b := e) q r => by
    rw [List.map_cons, List.map_cons]
    refine .cons ?_ (fv_map ht r)
    by_cases h : e.1 = k
    · have h2 : p.1 = Sum.inl k := by rw [q.1, h]
      rw [if_pos h2, if_pos h]
      exact ⟨q.1, t, rfl, ht⟩
    · have h2 : p.1 ≠ Sum.inl k := by rw [q.1]; exact inl_ne h
      rw [if_neg h2, if_neg h]
      exact q
theorem fv_put {K : PySem.W.Frag} {P : Hp} {k : Int} {d : Int × Str} {t : Addr} (ht : SqT K P t [.int d.1, .str d.2]) {fv : List (Key × V)} {fi : List (Int × (Int × Str))} (h : Paired (FiR K P) fv fi) : Paired (FiR K P) (putK fv (Sum.inl k) (.ref t)) (aset fi k d) := by
  unfold putK aset
  rw [fv_any h]
  split
  · exact fv_map ht h
  · exact pair_snoc h ⟨rfl, t, rfl, ht⟩
theorem keys_foK {s : Sf} {x : SfX} {K : PySem.W.Frag} {P : Hp} (h : sfF K s x P) : ((foK x.es).map fun kv => kV kv.1) = (keys s.fo).map V.int := by
  rw [h.1, keys_foOf]
  simp [foK, keys, kV]
theorem keys_fv {K : PySem.W.Frag} {P : Hp} : ∀ {fv : List (Key × V)} {fi : List (Int × (Int × Str))}, Paired (FiR K P) fv fi → (fv.map fun kv => kV kv.1) = (keys fi).map V.int
  | _, _, .nil => rfl
  | _, _, .cons q r => by
    have ih := keys_fv r
    unfold keys at ih ⊢
    rw [List.map_cons, List.map_cons, List.map_cons, ih, q.1]
    rfl
theorem rwSnoc {P H : Hp} {cs : List Ch} {xs : List RwX} {y : RwX} (m : Mem P (rwPc y :: sep (xs.map rwPc) :: cs) H) : Mem P (sep ((xs ++ [y]).map rwPc) :: cs) H := by
  have m1 := (m.sel (.s .z)).open
  refine Mem.close (ds := (xs ++ [y]).map rwPc) ?_
  rw [List.map_append, List.append_assoc]
  exact m1
theorem ents_dp {K : PySem.W.Frag} {P : Hp} : ∀ {ts : List Addr} {l : List Ent}, Paired (fun (t : Addr) (e : Ent) => SqT K P t [.str e.1, .int e.2]) ts l → DpAll K P (ts.map V.ref) (l.map entD)
  | _, _, .nil => .nil
  | _, _, .cons a t => .cons (.tup a (.cons (.str _) (.cons (.int _) .nil))) (ents_dp t)
def owK (s : Sf) (x : SfX) : List (Key × V) := [(Sum.inr "folders", .ref x.a1), (Sum.inr "files", .ref x.a2), (Sum.inr "last", .int s.last)]
theorem ow_fo (s : Sf) (x : SfX) : valV (owK s x) (Sum.inr "folders") = some (.ref x.a1) := valV_pos rfl
theorem ow_fi (s : Sf) (x : SfX) : valV (owK s x) (Sum.inr "files") = some (.ref x.a2) := by
  unfold owK
  rw [valV_neg (inr_ne (by decide))]
  exact valV_pos rfl
theorem ow_la (s : Sf) (x : SfX) : valV (owK s x) (Sum.inr "last") = some (.int s.last) := by
  unfold owK
  rw [valV_neg (inr_ne (by decide)), valV_neg (inr_ne (by decide))]
  exact valV_pos rfl
def owP (K : PySem.W.Frag) (a : Addr) (s : Sf) : Ch := exc fun x : SfX => sep [fct (sfF K s x) sfF.up, pt a (.dK (owK s x)), pt x.a1 (.dK (foK x.es)), pt x.a2 (.dK x.fv), famP x.es]
theorem owOpen {K : PySem.W.Frag} {P H : Hp} {cs : List Ch} {a : Addr} {s : Sf} (m : Mem P (owP K a s :: cs) H) : ∃ x : SfX, sfF K s x P ∧ Mem P (pt a (.dK (owK s x)) :: pt x.a1 (.dK (foK x.es)) :: pt x.a2 (.dK x.fv) :: famP x.es :: cs) H := by
  obtain ⟨x, m⟩ := m.exE
  obtain ⟨h, m⟩ := Mem.fctE m.open
  exact ⟨x, h, m⟩
theorem owClose {K : PySem.W.Frag} {P H : Hp} {cs : List Ch} {a : Addr} {s : Sf} (x : SfX) (h : sfF K s x P) (m : Mem P (pt a (.dK (owK s x)) :: pt x.a1 (.dK (foK x.es)) :: pt x.a2 (.dK x.fv) :: famP x.es :: cs) H) : Mem P (owP K a s :: cs) H :=
  Mem.exI x (Mem.close (ds := [fct (sfF K s x) sfF.up, pt a (.dK (owK s x)), pt x.a1 (.dK (foK x.es)), pt x.a2 (.dK x.fv), famP x.es]) (Mem.fctI h m))
theorem owPut {K : PySem.W.Frag} {P H : Hp} {cs r1 r2 r3 F : List Ch} {a : Addr} {s : Sf} (x : SfX) (h : sfF K s x P) (m : Mem P cs H) (q1 : Sel cs (famP x.es) r1) (q2 : Sel r1 (pt x.a2 (.dK x.fv)) r2) (q3 : Sel r2 (pt x.a1 (.dK (foK x.es))) r3) (q4 : Sel r3 (pt a (.dK (owK s x))) F) : Mem P (owP K a s :: F) H :=
  owClose x h ((((m.sel q1).sel (.s q2)).sel (.s (.s q3))).sel (.s (.s (.s q4))))
theorem foK_key {es : List (Int × Addr × List Ent)} {i : Nat} {k : Key} {v : V} (h : (foK es)[i]? = some (k, v)) (nd : (keys es).Nodup) : ∃ p A B, es = A ++ p :: B ∧ es[i]? = some p ∧ k = Sum.inl p.1 ∧ v = .ref p.2.1 ∧ valV (foK es) (Sum.inl p.1) = some (.ref p.2.1) := by
  obtain ⟨p, hp, rfl, rfl⟩ := foK_at h
  obtain ⟨A, B, hAB⟩ := split_at hp
  refine ⟨p, A, B, hAB, hp, rfl, rfl, ?_⟩
  have e := valV_map (g := fun x : Int => (Sum.inl x : Key)) (f := fun p : Int × Addr × List Ent => V.ref p.2.1) (fun a b e => Sum.inl.inj e) es p.1
  have e2 : aget es p.1 = some p.2 := aget_of nd (List.mem_of_getElem? hp)
  unfold foK
  rw [e]
  unfold aget at e2
  obtain ⟨q, hq, e3⟩ := Option.map_eq_some_iff.mp e2
  rw [hq]
  show some (V.ref q.2.1) = _
  rw [e3]
theorem upW_es {s : Sf} {x : SfX} {K : PySem.W.Frag} {P : Hp} (h : sfF K s x P) (t : Int) : (x.es.filter fun p => decide (t ∈ p.2.2.map (·.2))).map (fun p => V.int p.1) = (upW s t).map V.int := by
  unfold upW
  rw [h.1, foOf, List.filter_map, List.map_map, List.map_map]
  rfl
theorem cut01 (xs : List V) : cutV xs none (some 1) = xs.take 1 := by
  unfold cutV
  rw [HT.sIx_none, show HT.sIx xs.length xs.length (some 1) = min 1 xs.length from HT.sIx_nat _ _ 1]
  cases xs with
  | nil => rfl
  | cons x r =>
    rw [show min 1 (x :: r).length = 1 by rw [List.length_cons]; omega]
    rfl
theorem at_last (L : List Int) (h : Int) : atI ((L ++ [h]).map V.int) (-1) = some (.int h) := by
  unfold atI ixN
  rw [if_neg (by omega), if_pos (by simp; omega)]
  have e : (-1 + ((L.length : Int) + 1)).toNat = L.length := by omega
  simp [e]
/-! ### reading while a shelf is open -/
theorem fo_case {K : PySem.W.Frag} {P : Hp} {s : Sf} {x : SfX} (h : sfF K s x P) (k : Int) : (¬ s.isFo k ∧ valV (foK x.es) (Sum.inl k) = none ∧ aget s.fo k = none) ∨ ∃ d l, s.isFo k ∧ (k, d, l) ∈ x.es ∧ valV (foK x.es) (Sum.inl k) = some (.ref d) ∧ aget s.fo k = some l := by
  rcases foK_get h k with ⟨z1, z2⟩ | ⟨A, B, d, l, z1, _, z3, z4⟩
  · exact .inl ⟨aget_none.mp z2, z1, z2⟩
  · exact .inr ⟨d, l, aget_key z4, by rw [z1]; simp, z3, z4⟩
theorem fi_case {K : PySem.W.Frag} {P : Hp} {s : Sf} {x : SfX} (h : sfF K s x P) (k : Int) : (¬ s.isFi k ∧ valV x.fv (Sum.inl k) = none ∧ aget s.fi k = none) ∨ ∃ t d, s.isFi k ∧ valV x.fv (Sum.inl k) = some (.ref t) ∧ aget s.fi k = some d ∧ SqT K P t [.int d.1, .str d.2] := by
  rcases fv_get h.2 k with ⟨z1, z2⟩ | ⟨t, d, z1, z2, z3⟩
  · exact .inl ⟨aget_none.mp z2, z1, z2⟩
  · exact .inr ⟨t, d, aget_key z2, z1, z2, z3⟩
theorem Mem.rdE {P H : Hp} {cs r : List Ch} {es : List (Int × Addr × List Ent)} {k : Int} {d : Addr} {l : List Ent} (m : Mem P cs H) (q : Sel cs (famP es) r) (h : (k, d, l) ∈ es) : H d = some (.dK (entK l)) := by
  obtain ⟨A, B, rfl⟩ := List.append_of_mem h
  exact (Mem.famE (m.sel q)).rd0
section
variable {P H : Hp} {cs r : List Ch} {es : List (Int × Addr × List Ent)} {k t : Int} {d : Addr} {l : List Ent} {n : Str}
theorem i_dinE {R : Option V → Prop} (m : Mem P cs H) (q : Sel cs (famP es) r) (h : (k, d, l) ∈ es) (c : R ((aget l n).map V.int)) : DInAt (.ref d) (.str n) H R := by
  refine ⟨d, _, rfl, DGet.k (k := Sum.inr n) (m.rdE q h), ?_⟩
  rw [entK_get]; exact c
theorem i_dgetE {Q : VK} (m : Mem P cs H) (q : Sel cs (famP es) r) (h : (k, d, l) ∈ es) (hn : aget l n = some t) (c : Q (.int t) H) : DGetAt (.ref d) (.str n) H Q := by
  refine ⟨d, .int t, rfl, ?_, c⟩
  have := DGet.k (k := Sum.inr n) (m.rdE q h)
  rw [entK_get, hn] at this
  exact this
theorem i_lenE {Q : VK} (m : Mem P cs H) (q : Sel cs (famP es) r) (h : (k, d, l) ∈ es) (c : Q (.int l.length) H) : rLenD [.ref d] H Q := by
  refine ⟨d, _, rfl, m.rdE q h, ?_⟩
  rw [show (entK l).length = l.length from by simp [entK]]; exact c
theorem map_isSome (o : Option Int) : (o.map V.int).isSome = o.isSome := by cases o <;> rfl
theorem i_isDE {R : Addr → Prop} (m : Mem P cs H) (q : Sel cs (famP es) r) (h : (k, d, l) ∈ es) (c : R d) : IsDAt (.ref d) H R := ⟨d, rfl, .inl ⟨_, .inl (m.rdE q h)⟩, c⟩
theorem i_dgetOE {R : Option V → Prop} (m : Mem P cs H) (q : Sel cs (famP es) r) (h : (k, d, l) ∈ es) (c : R ((aget l n).map V.int)) : DGetO d (.str n) H R := by
  refine ⟨_, DGet.k (k := Sum.inr n) (m.rdE q h), ?_⟩
  rw [entK_get]; exact c
theorem i_dgetOI {a : Addr} {kvs : List (Key × V)} {R : Option V → Prop} (m : Mem P cs H) (q : Sel cs (pt a (.dK kvs)) r) (c : R (valV kvs (Sum.inl k))) : DGetO a (.int k) H R := i_dgetO (k := Sum.inl k) m q c
theorem i_dgetOS {a : Addr} {kvs : List (Key × V)} {R : Option V → Prop} (m : Mem P cs H) (q : Sel cs (pt a (.dK kvs)) r) (c : R (valV kvs (Sum.inr n))) : DGetO a (.str n) H R := i_dgetO (k := Sum.inr n) m q c
end
end FS

set_option Elab.async false
set_option maxRecDepth 100000
set_option linter.all false
/-! FsStr: defs that turn data into texts: what they promise holds where no repr is under way. -/
namespace FS
open PySem PySem.Spec PyProof.Rows L2 Evl
/-- nothing is being shown -/
abbrev Calm (A : Around) : Prop := A.guards = some []
structure FnOkG (P : Program) (w : World) (K : PySem.W.Frag) (mg : Str → Option Value) (base : Heap) (CX : CXT) (k : Nat) (f : Addr) (fd : FuncData) (ps : List Str) (sp : Sp) : Prop where
  len : ∀ vs H Q E, sp vs H Q E → vs.length = ps.length
  run : ∀ (A : Around) (outer : List Env) (s : Shared) (H : Hp) (args : Args) (us : List Value) (vs : List V) (Q : VK) (E : XK), Room k A → Calm A →
    Env0 P w K mg base A outer s H → BindsTo s fd args (ps.zip us) → Vals vs us → sp vs H Q E → codeAny (model P w) A (.call (.ref f) args) (CR CX outer P w H s Q E) s
section
variable {P : Program} {w : World} {K : PySem.W.Frag} {mg : Str → Option Value} {base : Heap} {CX : CXT} {k : Nat} {f : Addr} {fd : FuncData} {ps : List Str} {sp : Sp}
theorem FnOkG.of (F : FnOk P w K mg base CX k f fd ps sp) : FnOkG P w K mg base CX k f fd ps sp :=
  ⟨F.len, fun A outer s H args us vs Q E hr _ => F.run A outer s H args us vs Q E hr⟩
/-- a promise that is kept where nothing is being shown is one of the plain kind, but with that as a premise of the room: for one way of running -/
theorem FnOkG.at (F : FnOkG P w K mg base CX k f fd ps sp) {X : Cx} (e1 : X.prog = P) (e2 : X.w = w) (e3 : X.K = K) (e4 : X.mg = mg) (e5 : X.base = base) (hc : Calm X.A) (hr : Room k X.A) {ds : List Value} {dvs : List V} {E : XK} (hb : Binds X.K fd ps ds) (hd : Vals dvs ds) (hx : Passes CX X E)
    {pins : List (Addr × Obj)} {σ : L2.St} {H : Hp} {s : Shared} {Q : VK} {us : List Value} {vs : List V} (I : Inv X pins σ H s) (r : Vals vs us) (h : sp (vs ++ dvs) H Q E) : wpAny (model X.prog X.w) X.A (call (.ref f) us) (EP X pins σ Q) X.xe s := by
  subst e1 e2 e3 e4 e5
  have all := r.append hd
  have hn : (us ++ ds).length = ps.length := all.length ▸ F.len _ _ _ _ h
  have go := F.run X.A X.stack s H ⟨us, []⟩ _ _ Q E hr hc I.env0 (hb s us I.kIn hn) all h
  refine wpAny_call (codeAny_mono go ?_)
  rintro (e | fl) s' hq
  · exact hx pins σ H s e s' I hq
  · match fl, hq with
    | .ret u, hq => exact I.after hq
    | .next, hq => exact hq.elim
    | .brk, hq => exact hq.elim
    | .cont, hq => exact hq.elim
end
section
variable {X : Cx} {CX : CXT} {k : Nat} {f : Addr} {fd : FuncData} {ps : List Str} {sp : Sp} {dvs : List V} {ds : List Value} {E : XK} {x : Str} {p pos : Pos} {e : Expr} {es : List Expr} {t : TA}
theorem peG (F : FnOkG X.prog X.w X.K X.mg X.base CX k f fd ps sp) (hc : Calm X.A) (hr : Room k X.A) (hg : Gl X x) (hm : X.mg x = some (.ref f)) (hk : PySem.W.keepIn X.K (.ref f) = true) (hb : Binds X.K fd ps ds) (hd : Vals dvs ds) (hx : Passes CX X E) (ha : PA X (e :: es) t)
    (hdb : (x == ("__debug__" : Str)) = false := by decide) (he : starEach (e :: es) X.env = (false, eval e X.env) :: starEach es X.env := by rfl) (hpl : (backTo pos (starEach es X.env)).any (·.1) = false := by rfl) :
    PE X (.Call (.Name x p) (e :: es) [] pos) (tCall sp dvs E t) := by
  constructor
  intro pins s σ H Q I h
  have run := thn (ha.run pos pins s σ H _ I h) (Q' := fun us s1 => X.K.In s1.heap ∧ wpAny (model X.prog X.w) X.A (call (.ref f) us) (EP X pins σ Q) X.xe s1)
    fun us s1 ⟨vs, H1, I1, r, q⟩ => ⟨I1.kIn, F.at rfl rfl rfl rfl rfl hc hr hb hd hx I1 r q⟩
  exact wpAny_Call_Name_kw (ld_glob I hg hm (PySem.W.callWith_K (h₀ := X.base) I.ok.mod.kin hk run he hpl) hdb)
end
/-- a def by its body, where nothing is being shown -/
theorem fnG {P : Program} {w : World} {K : PySem.W.Frag} {mg : Str → Option Value} {base : Heap} {x qual : Str} {st : Stmt} {f : Addr} {fd : FuncData} {N ps : List Str} {k : Nat} {sp : Sp} (F : Fun K x qual st f fd) (S : FnScope N ps (defScope st)) (len : ∀ vs H Q E, sp vs H Q E → vs.length = ps.length)
    (hbody : ∀ (cdv : Value) (A : Around) (outer : List Env) (s : Shared) (H : Hp) (vs : List V) (Q : VK) (E : XK), Room k (A.deeper (envOfC qual (defScope st) s.heap.objs.size f cdv)) → Calm (A.deeper (envOfC qual (defScope st) s.heap.objs.size f cdv)) → sp vs H Q E →
      ∃ t, PSs (cxOf CX0 P w K mg base N qual (defScope st) f cdv A outer s H E).nox (defBody st) t ∧ t { nx := fun _ H' => Q .non H', rt := Q } (start N vs) H) : FnOkG P w K mg base CX0 (k + 1) f fd ps sp := by
  refine ⟨len, fun A outer s H args us vs Q E hr hc e0 hb r hsp => ?_⟩
  obtain ⟨oc, od, kV, doc, pm, an, cdv, ct, osl, efd, lk, hcd⟩ := F.ex
  subst efd
  have hlen := len _ _ _ _ hsp
  have kept : ∀ b o, base.get? b = some o → s.heap.get? b = some o := fun b o e => (e0.bs b o e).1
  have inK := e0.mod.kin.keeps kept
  have bound : ∀ y ∈ ps.zip us, (defScope st).names.lookup y.1 = some .local ∨
      ((defScope st).names.lookup y.1 = some .cell ∧ ((cellsFrom (s.heap.objs.size + 1) (defScope st).names []).lookup y.1).isSome = true) := by
    rintro ⟨n, v⟩ hy
    cases S.par n (List.of_mem_zip hy).1 with
    | inl q => exact Or.inl q
    | inr q => exact Or.inr ⟨q, PySem.W.cellsFrom_some _ _ _ (Or.inl q)⟩
  refine codeAny_call_function hr.depth (inK _ _ lk) rfl S.co S.gen rfl
    (PySem.W.codeRec_of inK hcd) (hb _ _ _ _ ?_)
  refine wpAny_newFunctionEnv_cells S.kind bound (fun env ee s1 x => ?_)
  subst ee
  refine ⟨(e0.mod.nolimit.keeps kept).keeps x.toInCall.keep, codeAny_func ?_⟩
  obtain ⟨t, ht, hq⟩ := hbody cdv A outer s H vs Q E (hr.deeper _) hc hsp
  have I := inv_start (CX := CX0) (E := E) S hr.hd e0 hlen r x
  have ends : ∀ {σ' : L2.St} {H' : Hp} {v : V} {u : Value} {s' : Shared}, Inv (cxOf CX0 P w K mg base N qual (defScope st) f cdv A outer s H E) [] σ' H' s' → RelV v u → Q v H' → CE outer P w H s Q u s' := by
    intro σ' H' v u s' J rv q
    exact ⟨v, H', J.os, J.bare, J.base, J.hok, rv, q⟩
  refine wpAny_mono (ht.nox.run [] s1 _ H _ I hq) ?_ (fun e s' h => h)
  rintro (_ | _ | _ | u) s' hs
  · obtain ⟨σ', H', J, q⟩ := hs
    exact ends (v := V.non) J rfl q
  · obtain ⟨_, _, _, q⟩ := hs
    exact q.elim
  · obtain ⟨_, _, _, q⟩ := hs
    exact q.elim
  · obtain ⟨v, σ', H', J, rv, q⟩ := hs
    exact ends J rv q
/-- the law's call, from an abstract heap where nothing but the script is told -/
theorem lawG {P : Program} {w : World} {K : PySem.W.Frag} {mg mb : Str → Option Value} {k : Nat} {fa a : Addr} {fd : FuncData} {x : Str} {sp : Sp} {s1 : Shared} {H : Hp}
    (hK : K.In s1.heap) (hmg : s1.heap.Ns mainGlobals mg) (hmb : s1.heap.Ns builtinsNs mb) (hbb : ∀ y : Str, y ≠ "__name__" → mb y = bootBuiltins y) (hlim : s1.heap.NoLimit) (hgens : s1.gens = #[])
    (F : ∀ base : Heap, K.In base → base.Ns mainGlobals mg → FnOkG P w K mg base CX0 k fa fd [x] sp) (hb : ∀ (s : Shared) (u : Value), BindsTo s fd ⟨[u], []⟩ [(x, u)]) (hr : Room k callerA)
    (hok : HOk P w H s1.heap) (one : ∀ b u, H b = some u → (∃ o xs, u = .frz o (.lst xs)) ∧ K.lookup b = none ∧ ∃ o, s1.heap.get? b = some o ∧ ∀ es ep, o.data ≠ .dict es ep)
    (hsp : sp [.ref a] H (fun v _ => v = .bl true) fun _ _ _ => False) :
    codeAny (model P w) callerA (.call (.ref fa) ⟨[.ref a], []⟩) (fun r s' => r = .ok (.ret (.bool true)) ∧ OldK s1.heap s'.heap ∧ s'.os = s1.os ∧ AllBare s'.gens) s1 := by
  let B := hidT s1.heap H
  have seen : ∀ {b : Addr} {o : Obj}, s1.heap.get? b = some o → H b = none → B.get? b = some o := fun e n => hidT_get e n
  have noD : ∀ {b : Addr} {o : Obj} {es : Array DictEntry} {ep : Nat}, s1.heap.get? b = some o → o.data = .dict es ep → H b = none := by
    intro b o es ep e d
    cases q : H b with
    | none => rfl
    | some u =>
      obtain ⟨_, _, o', e', nd⟩ := one b u q
      rw [e] at e'
      cases e'
      exact absurd d (nd es ep)
  have names : ∀ {b : Addr} {m : Str → Option Value}, s1.heap.Ns b m → B.Ns b m := by
    rintro b m ⟨o, es, ep, e, d, r⟩
    exact ⟨o, es, ep, seen e (noD e d), d, r⟩
  have inB : K.In B := by
    intro b o e
    refine seen (hK b o e) ?_
    cases q : H b with
    | none => rfl
    | some u =>
      have z := (one b u q).2.1
      rw [e] at z
      cases z
  have lim : B.NoLimit := by
    obtain ⟨mc, h1, h2⟩ := hlim
    exact ⟨mc, names h1, h2⟩
  have at0 : Env0 P w K mg B callerA [] s1 H :=
    { frames := rfl, mod := ⟨inB, names hmg, ⟨mb, names hmb, hbb⟩, lim⟩, bs := fun _ _ e => of_hidT e, bsz := Nat.le_of_eq (hidT_size _ _), funs := trivial,
      frf := (fun b z => absurd (show b ∈ ([] : List Addr) from z) (by simp)), hok := hok, bare := .of_eq hgens }
  have go := (F B inB (names hmg)).run callerA [] s1 H ⟨[.ref a], []⟩ [.ref a] [.ref a] _ _ hr rfl at0 (hb s1 (.ref a)) (.cons rfl .nil) hsp
  refine codeAny_mono go ?_
  rintro (e | fl) s' h
  · exact h.elim
  · match fl, h with
    | .next, h => exact h.elim
    | .brk, h => exact h.elim
    | .cont, h => exact h.elim
    | .ret u, h =>
      obtain ⟨v, H', os, bare, un, hok', rv, qv⟩ := h
      subst qv
      cases (show u = Value.bool true from rv)
      refine ⟨rfl, OldK.of_keep ?_, os, bare⟩
      intro b o e
      cases q : H b with
      | none => exact un.keep b o e q (fun z => absurd (show b ∈ ([] : List Addr) from z) (by simp)) (fun z => by cases z)
      | some u =>
        obtain ⟨⟨ob, xs, rfl⟩, _⟩ := one b u q
        have before := (hok b _ q).1
        have behind := (hok' b _ (un.frzs b ob _ q)).1
        rw [e] at before
        cases before
        exact behind
theorem walkG {l : PySem.W.OpenLaw} {n k : Nat} {q : Program} {loose : List Str} {XP : (Str → Option Value) → Heap → Prop} {YP : World → Heap → Prop} {d : DefRec} {K : Params → PySem.W.Frag} {sp : World → Sp} {x : Str}
    (hn : l.most = some n) (hn2 : n ≤ sizeLine) (hdf : d.params.defaults = []) (hr : Room k callerA) (hY : ∀ (w : World) (h : Heap), YP w h → (K w.params).In h)
    (F : ∀ (w : World) (mg : Str → Option Value) (fa : Addr) (h : Heap), (K w.params).In h → h.Ns mainGlobals mg → mg d.name = some (.ref fa) →
      ∃ fd : FuncData, (∀ (s : Shared) (u : Value), BindsTo s fd ⟨[u], []⟩ [(x, u)]) ∧ ∀ base : Heap, (K w.params).In base → base.Ns mainGlobals mg → FnOkG l.prog w (K w.params) mg base CX0 k fa fd [x] (sp w))
    (hsp : ∀ (w : World) (H : Hp) (a : Addr) (ns : List Int), ns.length ≤ n → SqL (K w.params) H a (ns.map V.int) → sp w [.ref a] H (fun v _ => v = .bl true) fun _ _ _ => False) :
    PySem.W.WalkO q loose XP YP l.row.toRowW d [] (fun f vs => PySem.call f vs) := by
  refine Att.attach_call hn hdf ?_
  intro w s0 s1 mg mb fa o pm cd doc a vs ns G Y ho hd hcd hmg hobj hints hlen hgens
  have KX := hY w _ Y
  obtain ⟨fd, hb, hF⟩ := F w mg fa _ KX G.T.g hmg
  have rv := vals_ints hints
  have hl : ns.length ≤ sizeLine := Nat.le_trans hlen hn2
  cases hk : (K w.params).lookup a with
  | some oa =>
    -- the script stands in the written part
    have e := KX a oa hk
    rw [hobj] at e
    cases e
    refine lawG (H := fun _ => none) KX G.T.g G.T.b G.T.builtins G.T.nolimit hgens hF hb hr (fun _ _ z => by cases z) (fun _ _ z => by cases z) (hsp w _ a ns hlen (.inr ⟨_, vs.toArray, _, hk, rfl, rfl, rfl, ?_, by simpa using rv⟩))
    rw [List.size_toArray, hints.length]
    exact hl
  | none =>
    refine lawG (H := sgl a (.frz { cls := .type "list", data := .seq vs.toArray } (.lst (ns.map V.int)))) KX G.T.g G.T.b G.T.builtins G.T.nolimit hgens hF hb hr ?_ ?_ (hsp w _ a ns hlen (.inl (.inr ⟨_, if_pos rfl⟩)))
    · intro b u z
      have zb : b = a := by
        by_cases e : b = a
        · exact e
        · rw [sgl, if_neg e] at z; cases z
      subst zb
      rw [sgl, if_pos rfl] at z
      cases z
      exact ⟨hobj, by rw [List.length_map]; exact hl, vs, _, rv, hobj⟩
    · intro b u z
      have zb : b = a := by
        by_cases e : b = a
        · exact e
        · rw [sgl, if_neg e] at z; cases z
      subst zb
      rw [sgl, if_pos rfl] at z
      cases z
      exact ⟨⟨_, _, rfl⟩, hk, _, hobj, fun es ep => by intro z; cases z⟩
/-! str(..) of a list or a tuple of data -/
def rStrD (K : PySem.W.Frag) : List V → Hp → VK → Prop := fun xs H Q => ∃ (a : Addr) (d : PyData), xs = [.ref a] ∧ Dp K H (.ref a) d ∧ d.showable = true ∧ d.hasDict = false ∧ d.depth ≤ 60 ∧ d.shown.length ≤ sizeLine ∧ Q (.str d.shown) H
theorem strD {X : Cx} {K : PySem.W.Frag} (h : X.K = K) (hc : Calm X.A) (hu : X.A.units + 64 < cLine) : CallR X (.type "str") (rStrD K) := by
  subst h
  intro pins s σ H xs us Q I r h
  obtain ⟨a, d, rfl, hd, hs, hn, hdep, hz, q⟩ := h
  obtain ⟨u, rfl, ru⟩ := vals1 r
  cases (show u = Value.ref a from ru)
  obtain ⟨as, hr⟩ := Dp.reads I d _ _ hd (show RelV (.ref a) (.ref a) from rfl)
  exact str_of_reads hr hs (fun z => by rw [hn] at z; cases z) hc (by omega) (fun _ _ e => e) (fun h' u tk k => ⟨.str d.shown, H, I.kept k, ⟨_, rfl⟩, q⟩) hz
/-- data that may be shown: how deep, how long its text -/
structure Shw (n L : Nat) (d : PyData) : Prop where
  sh : d.showable = true
  hd : d.hasDict = false
  dp : d.depth ≤ n
  ln : d.shown.length ≤ L
theorem int_text_len (i : Int) {k : Nat} (hk : 0 < k) (h : i.natAbs < 2 ^ k) : (PyData.shown (.int i)).length ≤ k + 1 := by
  have e : (PyData.shown (.int i)).length = (toString i).length := by
    simp only [PyData.shown]
    exact PySem.ofString_length _
  rw [e]
  cases i with
  | ofNat n =>
    have := nat_repr_length_le (n := n) hk (by simpa using h)
    show (Nat.repr n).length ≤ _
    omega
  | negSucc n =>
    have := nat_repr_length_le (n := n + 1) hk (by simpa using h)
    show ("-" ++ Nat.repr (n + 1)).length ≤ _
    rw [String.length_append]
    have : ("-" : String).length = 1 := rfl
    omega
theorem Shw.int {i : Int} {k : Nat} (hk : 0 < k) (hk2 : k ≤ 1900) (h : i.natAbs < 2 ^ k) : Shw 0 (k + 1) (.int i) :=
  ⟨by simp only [PyData.showable]; exact decide_eq_true (Nat.lt_of_lt_of_le (PySem.Flt.log2_lt_of hk h) (by omega)), by simp only [PyData.hasDict], by simp only [PyData.depth]; exact Nat.le_refl _, int_text_len i hk h⟩
theorem Shw.mono {n L n' L' : Nat} {d : PyData} (h : Shw n L d) (a : n ≤ n') (b : L ≤ L') : Shw n' L' d := ⟨h.sh, h.hd, Nat.le_trans h.dp a, Nat.le_trans h.ln b⟩
theorem shw_all {n L : Nat} : ∀ {ds : List PyData}, (∀ d ∈ ds, Shw n L d) → PyData.showableAll ds = true ∧ PyData.hasDictAll ds = false ∧ PyData.depthAll ds ≤ n ∧ ((PyData.shownAll ds).map (·.length)).sum ≤ L * ds.length ∧ (PyData.shownAll ds).length = ds.length
  | [], _ => ⟨by simp only [PyData.showableAll], by simp only [PyData.hasDictAll], by simp only [PyData.depthAll]; exact Nat.zero_le _, by simp [PyData.shownAll], by simp [PyData.shownAll]⟩
  | d :: ds, h => by
    have h1 := h d List.mem_cons_self
    obtain ⟨a, b, c, e, f⟩ := shw_all (ds := ds) fun x hx => h x (List.mem_cons_of_mem _ hx)
    refine ⟨by simp only [PyData.showableAll, h1.sh, a, Bool.and_self], by simp only [PyData.hasDictAll, h1.hd, b, Bool.or_self], by simp only [PyData.depthAll]; exact Nat.max_le.mpr ⟨h1.dp, c⟩, ?_, by simp only [PyData.shownAll, List.length_cons, f]⟩
    simp only [PyData.shownAll, List.map_cons, List.sum_cons, List.length_cons, Nat.mul_succ]
    have := h1.ln
    omega
theorem Shw.lst {n L N : Nat} {ds : List PyData} (h : ∀ d ∈ ds, Shw n L d) (hn : ds.length ≤ N) : Shw (n + 1) ((L + 2) * N + 3) (.list ds) := by
  obtain ⟨a, b, c, e, f⟩ := shw_all h
  refine ⟨by simp only [PyData.showable]; exact a, by simp only [PyData.hasDict]; exact b, by simp only [PyData.depth]; omega, ?_⟩
  simp only [PyData.shown]
  have q := listText_len_le (PyData.shownAll ds)
  rw [f] at q
  have r1 : L * ds.length ≤ L * N := Nat.mul_le_mul_left _ hn
  have r2 : (L + 2) * N = L * N + 2 * N := Nat.add_mul _ _ _
  omega
theorem Shw.tup {n L N : Nat} {ds : List PyData} (h : ∀ d ∈ ds, Shw n L d) (hn : ds.length ≤ N) : Shw (n + 1) ((L + 2) * N + 3) (.tuple ds) := by
  obtain ⟨a, b, c, e, f⟩ := shw_all h
  refine ⟨by simp only [PyData.showable]; exact a, by simp only [PyData.hasDict]; exact b, by simp only [PyData.depth]; omega, ?_⟩
  simp only [PyData.shown]
  have q := tupleText_len_le (PyData.shownAll ds)
  rw [f] at q
  have r1 : L * ds.length ≤ L * N := Nat.mul_le_mul_left _ hn
  have r2 : (L + 2) * N = L * N + 2 * N := Nat.add_mul _ _ _
  omega
theorem i_strD {K : PySem.W.Frag} {a : Addr} {d : PyData} {n L : Nat} {H : Hp} {Q : VK} (h : Dp K H (.ref a) d) (s : Shw n L d) (hn : n ≤ 60) (hL : L ≤ 16000000) (q : Q (.str d.shown) H) : rStrD K [.ref a] H Q :=
  ⟨a, d, rfl, h, s.sh, s.hd, Nat.le_trans s.dp hn, Nat.le_trans s.ln (Nat.le_trans hL (by decide)), q⟩
end FS

set_option Elab.async false
set_option maxRecDepth 100000
set_option linter.all false
/-! FsText: texts. -/
namespace FS
open PySem PySem.Spec PyProof.Rows L2 Evl
section
variable {X : Cx} {K : PySem.W.Frag} {o e : Expr} {to te : TE} {apos pos : Pos}
def rInSg : R2 := fun x y H Q => ∃ (c : Nat) (z : Str), x = .str ⟨#[c]⟩ ∧ y = .str z ∧ Q (.bl (decide (c ∈ z.cps.toList))) H
def rNinSg : R2 := fun x y H Q => ∃ (c : Nat) (z : Str), x = .str ⟨#[c]⟩ ∧ y = .str z ∧ Q (.bl (!decide (c ∈ z.cps.toList))) H
theorem inSg : OpR X (compareOp .In) rInSg := op_in_sign
theorem ninSg : OpR X (compareOp .NotIn) rNinSg := op_notIn_sign
def rAddS : R2 := fun x y H Q => ∃ i j, x = .str i ∧ y = .str j ∧ i.length + j.length ≤ sizeLine ∧ Q (.str (i ++ j)) H
theorem addS : OpR X (binaryOp .Add) rAddS := op_add_str
def rItS : R2 := fun x y H Q => ∃ z i c, x = .str z ∧ y = .int i ∧ 0 ≤ i ∧ i < 2 ^ 63 ∧ i < z.length ∧ z.cps[i.toNat]? = some c ∧ Q (.str ⟨#[c]⟩) H
theorem itS (ha : PE X o to) (hb : PE X e te) (hs : PlainIxT e) : PE X (.Subscript o e pos) (tOp rItS to te) := pe_item_str ha hb hs
def rSplit : V → List V → Hp → VK → Prop := fun x xs H Q => ∃ a b, x = .str a ∧ xs = [.str b] ∧ (b.length == 0) = false ∧ a.length + 2 ≤ sizeLine ∧ NewO (.lst ((Txt.split a b).map V.str)) H Q
theorem splitT (ho : PE X o to) (he : PE X e te) (hs : starEach [e] X.env = [(false, eval e X.env)] := by rfl) (hbase : attributeBase o "split" X.env (eval o X.env) = eval o X.env := by rfl) (hline : (apos.endLine == pos.line) = true := by rfl) :
    PE X (.Call (.Attribute o "split" apos) [e] [] pos) (tM1 rSplit to te) := pe_split ho he hs hbase hline
def rJoin (K : PySem.W.Frag) : V → List V → Hp → VK → Prop := fun x xs H Q => ∃ a p, ∃ ys : List Str, x = .str a ∧ xs = [.ref p] ∧ (SqL K H p (ys.map V.str) ∨ SqT K H p (ys.map V.str)) ∧
  (ys.map (·.length)).sum + ys.length * a.length ≤ 16777216 ∧ Q (.str (Txt.join a ys)) H
theorem joinT (h : X.K = K) (ho : PE X o to) (he : PE X e te) (hs : starEach [e] X.env = [(false, eval e X.env)] := by rfl) (hbase : attributeBase o "join" X.env (eval o X.env) = eval o X.env := by rfl) (hline : (apos.endLine == pos.line) = true := by rfl) :
    PE X (.Call (.Attribute o "join" apos) [e] [] pos) (tM1 (rJoin K) to te) := by subst h; exact pe_join ho he hs hbase hline
def rStarts : V → List V → Hp → VK → Prop := fun x xs H Q => ∃ a b, x = .str a ∧ xs = [.str b] ∧ Q (.bl (Txt.startswith a b)) H
theorem startsT (ho : PE X o to) (he : PE X e te) (hs : starEach [e] X.env = [(false, eval e X.env)] := by rfl) (hbase : attributeBase o "startswith" X.env (eval o X.env) = eval o X.env := by rfl) (hline : (apos.endLine == pos.line) = true := by rfl) :
    PE X (.Call (.Attribute o "startswith" apos) [e] [] pos) (tM1 rStarts to te) := pe_m1 F.slot_str_startswith F.type_str_startswith mt_startswith ho he hs hbase hline
/-- a text times a written number -/
def rMulS : R2 := fun x y H Q => ∃ (z : Str) (n : Int), x = .str z ∧ y = .int n ∧ 0 ≤ n ∧ n ≤ 1000 ∧ z.length ≤ 1000 ∧ Q (.str (Txt.mul z n)) H
theorem mulS : OpR X (binaryOp .Mult) rMulS := by
  intro pins s σ H x y v u Q I rx ry h
  obtain ⟨z, n, rfl, rfl, h0, h1, h2, q⟩ := h
  obtain ⟨t, rfl⟩ := rx
  obtain ⟨t', rfl⟩ := ry
  refine SB.mul ⟨?_, fun hn _ => ?_, fun _ _ => ?_⟩ fun t k => ⟨.str _, H, I.tok _, ⟨_, rfl⟩, q⟩
  · rw [Bool.or_eq_false_iff]
    exact ⟨decide_eq_false (by omega), decide_eq_false (by omega)⟩
  · have e : (1000 : Int) ≤ (2 ^ 63 - 1) / n := (Int.le_ediv_iff_mul_le (by omega)).mpr (by omega)
    omega
  · have e : z.length * n.toNat ≤ 1000 * 1000 := Nat.mul_le_mul h2 (by omega)
    unfold Builtin.Str.tooLong
    have e2 : sizeLine = 16777216 := sizeLine_eq
    exact decide_eq_false (by omega)
variable {x : Str}
theorem glS {s : Str} (hg : Gl X x) (h : ∃ t, X.mg x = some (.str s t)) (hd : (x == ("__debug__" : Str)) = false := by decide) : PE X (.Name x pos) (tC (.str s)) := by
  obtain ⟨t, h⟩ := h
  exact pe_glob hg h ⟨t, rfl⟩ hd
theorem glI {i : Int} (hg : Gl X x) (h : ∃ t, X.mg x = some (.int i t)) (hd : (x == ("__debug__" : Str)) = false := by decide) : PE X (.Name x pos) (tC (.int i)) := by
  obtain ⟨t, h⟩ := h
  exact pe_glob hg h ⟨t, rfl⟩ hd
end
theorem i_mulS {z : Str} {n : Int} {H : Hp} {Q : VK} (h0 : 0 ≤ n) (h1 : n ≤ 1000) (h2 : z.length ≤ 1000) (q : Q (.str (Txt.mul z n)) H) : rMulS (.str z) (.int n) H Q := ⟨z, n, rfl, rfl, h0, h1, h2, q⟩
theorem i_m1 {r : V → List V → Hp → VK → Prop} {to te : TE} {σ : L2.St} {H : Hp} {Q : VK} (h : to σ H fun x H1 => (∃ a, x = .str a) ∧ te σ H1 fun y H2 => r x [y] H2 Q) : tM1 r to te σ H Q := h
theorem i_strI {a : Str} {R : Prop} (h : R) : (∃ b, V.str a = .str b) ∧ R := ⟨⟨a, rfl⟩, h⟩
theorem i_inSg {c : Nat} {z : Str} {H : Hp} {Q : VK} (q : Q (.bl (decide (c ∈ z.cps.toList))) H) : rInSg (.str ⟨#[c]⟩) (.str z) H Q := ⟨c, z, rfl, rfl, q⟩
theorem i_addS {i j : Str} {H : Hp} {Q : VK} (h : i.length + j.length ≤ 100000) (q : Q (.str (i ++ j)) H) : rAddS (.str i) (.str j) H Q := ⟨i, j, rfl, rfl, sz_of h, q⟩
theorem i_itS {z : Str} {i : Int} {H : Hp} {Q : VK} (h0 : 0 ≤ i) (h1 : i < z.length) (h2 : z.length ≤ 100000) (q : ∀ c, z.cps[i.toNat]? = some c → Q (.str ⟨#[c]⟩) H) : rItS (.str z) (.int i) H Q := by
  have hs : i.toNat < z.cps.size := by
    have e : z.length = z.cps.size := rfl
    omega
  exact ⟨z, i, z.cps[i.toNat], rfl, rfl, h0, by omega, h1, by simp [hs], q _ (by simp [hs])⟩
theorem i_split {a b : Str} {H : Hp} {Q : VK} (hb : (b.length == 0) = false) (h : a.length ≤ 100000) (q : NewO (.lst ((Txt.split a b).map V.str)) H Q) : rSplit (.str a) [.str b] H Q := ⟨a, b, rfl, rfl, hb, Nat.le_trans (Nat.add_le_add_right h 2) (by decide), q⟩
theorem i_join {K : PySem.W.Frag} {a : Str} {p : Addr} {ys : List Str} {H : Hp} {Q : VK} (h : SqL K H p (ys.map V.str)) (hz : (ys.map (·.length)).sum + ys.length * a.length ≤ 16777216) (q : Q (.str (Txt.join a ys)) H) : rJoin K (.str a) [.ref p] H Q := ⟨a, p, ys, rfl, rfl, .inl h, hz, q⟩
theorem i_starts {a b : Str} {H : Hp} {Q : VK} (q : Q (.bl (Txt.startswith a b)) H) : rStarts (.str a) [.str b] H Q := ⟨a, b, rfl, rfl, q⟩
theorem i_slS {z : Str} {lo hi : Option Int} {H : Hp} {Q : VK} (h : z.length ≤ 100000) (q : Q (.str (cutS z lo hi)) H) : rSlS (.str z) lo hi H Q := ⟨z, rfl, sz_of h, q⟩
theorem i_iStr {te : TE} {σ : L2.St} {H : Hp} {R : It → Hp → Prop} (h : te σ H fun v H1 => ∃ x, v = .str x ∧ R (Its x) H1) : iStr te σ H R := h
/-- a comprehension over a text -/
theorem l_lcS {P : Hp} {cs : List Ch} {z : Str} {g : TG} {tt : TT} {te : TE} {vs : List Nat} {σ : L2.St} {H : Hp} {Qd : Addr → Hp → Prop} (m : Mem P cs H) (R : Nat → List V → Hp → Prop) (h0 : R 0 [] P)
    (hs : ∀ i c P' H' acc D, z.cps[i]? = some c → Ex P P' → Mem P' (pt D (.lst acc) :: cs) H' → R i acc P' → ∀ (Kt : VK) (Kf : Hp → Prop),
      (∀ y P4 H4, Ex P' P4 → Mem P4 (pt D (.lst acc) :: cs) H4 → acc.length < 100000 → R (i + 1) (acc ++ [y]) P4 → Kt y H4) → (∀ P4 H4, Ex P' P4 → Mem P4 (pt D (.lst acc) :: cs) H4 → R (i + 1) acc P4 → Kf H4) →
      g (.str ⟨#[c]⟩) (wipe σ vs) H' fun σ2 H2 => wipe σ2 vs = wipe σ vs ∧ tt σ2 H2 fun b H3 => if b = true then te σ2 H3 Kt else Kf H3)
    (hd : ∀ D P' H' acc, Ex P P' → Mem P' (pt D (.lst acc) :: cs) H' → R z.cps.size acc P' → Qd D H') :
    ∃ y, V.str z = .str y ∧ ∀ D, H D = none → ∃ W : Nat → Nat → Hp → Prop, (∃ m, W 0 m (upd H D (.lst []))) ∧ ∀ i m H, W i m H →
      ((Its y).stop i H ∧ Qd D H) ∨ ((Its y).go i H ∧ ∃ Nx : Hp → Prop, (∀ H', Nx H' → ∃ m', m' < m ∧ W (i + 1) m' H') ∧ ∀ x H', (Its y).yld i H x H' → g x (wipe σ vs) H' fun σ2 H2 => wipe σ2 vs = wipe σ vs ∧ tt σ2 H2 fun b H3 =>
        if b = true then te σ2 H3 fun y H4 => ∃ acc, H4 D = some (.lst acc) ∧ acc.length < sizeLine ∧ Nx (upd H4 D (.lst (acc ++ [y]))) else Nx H3) := by
  refine ⟨z, rfl, fun D hD => ⟨fun i m H' => m = z.cps.size - i ∧ i ≤ z.cps.size ∧ ∃ P' acc, Ex P P' ∧ Mem P' (pt D (.lst acc) :: cs) H' ∧ R i acc P', ⟨z.cps.size, by simp, Nat.zero_le _, P, [], Ex.refl _, m.new hD, h0⟩, ?_⟩⟩
  rintro i mm H' ⟨rfl, hi, P', acc, e, m', r⟩
  by_cases hlt : i < z.cps.size
  · refine .inr ⟨hlt, fun H' => ∃ P' acc, Ex P P' ∧ Mem P' (pt D (.lst acc) :: cs) H' ∧ R (i + 1) acc P', fun H2 q => ⟨z.cps.size - (i + 1), by omega, rfl, hlt, q⟩, ?_⟩
    rintro x H2 ⟨rfl, c, hc, rfl⟩
    exact hs i c P' _ acc D hc e m' r _ _ (fun y P4 H4 e4 m4 l4 r4 => ⟨acc, m4.rd0, sz_lt l4, P4, _, e.trans e4, m4.put0, r4⟩) (fun P4 H4 e4 m4 r4 => ⟨P4, acc, e.trans e4, m4, r4⟩)
  · have ei : i = z.cps.size := by omega
    subst ei
    exact .inl ⟨Nat.le_refl _, hd D P' H' acc e m' r⟩
end FS

set_option Elab.async false
set_option maxRecDepth 100000
set_option linter.all false
/-! FsTok: texts of bounded length; one drawn from a list. -/
namespace FS
open PySem PySem.Spec PyProof.Rows L2 Evl PySem.W
/-- a text of at most so many signs, all of them signs -/
structure TOk (n : Nat) (z : Str) : Prop where
  len : z.length ≤ n
  ok : PyData.strOk z = true
theorem TOk.up {n m : Nat} {z : Str} (h : TOk n z) (k : n ≤ m) : TOk m z := ⟨Nat.le_trans h.len k, h.ok⟩
theorem strOk_iff (z : Str) : PyData.strOk z = true ↔ ∀ c ∈ z.cps.toList, c < 0x110000 := by
  unfold PyData.strOk
  rw [Array.all_eq_true']
  constructor
  · intro h c hc
    exact of_decide_eq_true (h c (by simpa using hc))
  · intro h c hc
    exact decide_eq_true (h c (by simpa using hc))
theorem TOk.app {n m : Nat} {x y : Str} (h : TOk n x) (k : TOk m y) : TOk (n + m) (x ++ y) := by
  refine ⟨by rw [strLen_append]; have := h.len; have := k.len; omega, (strOk_iff _).mpr fun c hc => ?_⟩
  have e : (x ++ y).cps.toList = x.cps.toList ++ y.cps.toList := by
    show (x.cps ++ y.cps).toList = _
    exact Array.toList_append
  rw [e] at hc
  rcases List.mem_append.mp hc with hc | hc
  · exact (strOk_iff _).mp h.ok c hc
  · exact (strOk_iff _).mp k.ok c hc
theorem TOk.cut {n : Nat} {x : Str} {lo hi : Option Int} (h : TOk n x) : TOk n (cutS x lo hi) := by
  refine ⟨Nat.le_trans (cutS_length _ _ _) h.len, (strOk_iff _).mpr fun c hc => (strOk_iff _).mp h.ok c ?_⟩
  have hc' : c ∈ (x.cps.toList.drop (HT.sIx x.length 0 lo)).take (HT.sIx x.length x.length hi - HT.sIx x.length 0 lo) := by simpa [cutS] using hc
  exact List.mem_of_mem_drop (List.mem_of_mem_take hc')
theorem TOk.join {n : Nat} {sep : Str} (hs : TOk 1 sep) : ∀ {ts : List Str}, (∀ t ∈ ts, TOk n t) → TOk (ts.length * (n + 1)) (Str.join sep ts)
  | [], _ => ⟨Nat.zero_le _, by show PyData.strOk Str.empty = true; decide +kernel⟩
  | [x], h => (h x (List.mem_singleton.mpr rfl)).up (by simp)
  | x :: y :: r, h => by
    have ih := TOk.join hs (ts := y :: r) fun t ht => h t (List.mem_cons_of_mem _ ht)
    refine (((h x List.mem_cons_self).app hs).app ih).up ?_
    rw [List.length_cons (a := x), Nat.succ_mul]
    omega
theorem TOk.sign {z : Str} {c : Nat} {i : Nat} (hz : PyData.strOk z = true) (h : z.cps[i]? = some c) : TOk 1 ⟨#[c]⟩ := by
  refine ⟨Nat.le_refl _, (strOk_iff _).mpr fun d hd => ?_⟩
  have : d = c := by simpa using hd
  subst this
  exact (strOk_iff _).mp hz d (by
    have e : z.cps.toList[i]? = some d := by simpa using h
    exact List.mem_of_getElem? e)
theorem sum_le {n : Nat} : ∀ {ts : List Str}, (∀ t ∈ ts, TOk n t) → (ts.map (·.length)).sum ≤ ts.length * n
  | [], _ => Nat.zero_le _
  | x :: r, h => by
    have ih := sum_le (ts := r) fun t ht => h t (List.mem_cons_of_mem _ ht)
    have := (h x List.mem_cons_self).len
    rw [List.map_cons, List.sum_cons, List.length_cons, Nat.succ_mul]
    omega
theorem TOk.mul {m k : Nat} {z : Str} {n : Int} (hz : TOk m z) (h1 : n ≤ k) (hk : 1 ≤ k) : TOk (m * k) (Txt.mul z n) := by
  have gen : ∀ (j : Nat), TOk (m * j) ⟨(List.replicate j z.cps).foldl (· ++ ·) #[]⟩ := by
    intro j
    induction j with
    | zero => exact ⟨Nat.zero_le _, by show PyData.strOk Str.empty = true; decide +kernel⟩
    | succ j ih =>
      rw [List.replicate_succ']
      rw [List.foldl_append]
      exact (ih.app hz).up (by rw [Nat.mul_succ]; exact Nat.le_refl _)
  unfold Txt.mul
  split
  · exact ⟨Nat.zero_le _, by decide +kernel⟩
  · split
    · exact hz.up (Nat.le_mul_of_pos_right _ hk)
    · exact (gen n.toNat).up (Nat.mul_le_mul_left _ (by omega))
def tokB (n : Nat) (zs : List Str) : Bool := zs.all fun z => decide (z.length ≤ n) && PyData.strOk z
theorem tok_all {n : Nat} {zs : List Str} (h : tokB n zs = true) : ∀ z ∈ zs, TOk n z := fun z hz => by
  have := List.all_eq_true.mp h z hz
  rw [Bool.and_eq_true] at this
  exact ⟨of_decide_eq_true this.1, this.2⟩
theorem pick_at {α : Type} (f : α → V) {zs : List α} {r : Int} (r0 : 0 ≤ r) (r1 : r < (zs.length : Int)) : ∃ z, z ∈ zs ∧ atI (zs.map f) r = some (f z) := by
  have h : r.toNat < zs.length := by omega
  refine ⟨zs[r.toNat], List.getElem_mem h, ?_⟩
  unfold atI ixN
  rw [if_pos r0, if_pos (by simpa using r1)]
  simp [h]
theorem i_itSg {z : Str} {i : Int} {n : Nat} {H : Hp} {Q : VK} (h0 : 0 ≤ i) (hn : z.length = n) (h1 : i < n) (h2 : n ≤ 100000) (hk : PyData.strOk z = true) (q : ∀ x, TOk 1 x → Q (.str x) H) : rItS (.str z) (.int i) H Q :=
  i_itS h0 (by rw [hn]; exact h1) (by rw [hn]; exact h2) fun c hc => q _ (TOk.sign hk hc)
theorem glued (a : Str) (ys : List Str) : Txt.join a ys = Str.join a ys := PySem.StrLaws.glued_eq_join _ _
def kInt : Key → Int
  | .inl i => i
  | .inr _ => 0
def kStr : Key → Str
  | .inr i => i
  | .inl _ => ""
theorem sortKs_int (ks : List Int) : ∃ L : List Int, L.Perm ks ∧ (sortKs (ks.map (Sum.inl : Int → Key))).map kV = L.map V.int := by
  have hp : (sortKs (ks.map (Sum.inl : Int → Key))).Perm (ks.map Sum.inl) := List.mergeSort_perm _ _
  refine ⟨(sortKs (ks.map (Sum.inl : Int → Key))).map kInt, ?_, ?_⟩
  · have := hp.map kInt
    rw [List.map_map (l := ks), show kInt ∘ (Sum.inl : Int → Key) = id from rfl, List.map_id] at this
    exact this
  · rw [List.map_map]
    refine List.map_congr_left fun k hk => ?_
    obtain ⟨i, _, rfl⟩ := List.mem_map.mp (hp.mem_iff.mp hk)
    rfl
theorem sortKs_str (ks : List Str) : ∃ L : List Str, L.Perm ks ∧ (sortKs (ks.map (Sum.inr : Str → Key))).map kV = L.map V.str := by
  have hp : (sortKs (ks.map (Sum.inr : Str → Key))).Perm (ks.map Sum.inr) := List.mergeSort_perm _ _
  refine ⟨(sortKs (ks.map (Sum.inr : Str → Key))).map kStr, ?_, ?_⟩
  · have := hp.map kStr
    rw [List.map_map (l := ks), show kStr ∘ (Sum.inr : Str → Key) = id from rfl, List.map_id] at this
    exact this
  · rw [List.map_map]
    refine List.map_congr_left fun k hk => ?_
    obtain ⟨i, _, rfl⟩ := List.mem_map.mp (hp.mem_iff.mp hk)
    rfl
theorem alike_int (ks : List Int) : AllAlike ((ks.map (Sum.inl : Int → Key)).map keyD) := by
  intro d hd d' hd'
  simp only [List.mem_map] at hd hd'
  obtain ⟨_, ⟨i, _, rfl⟩, rfl⟩ := hd
  obtain ⟨_, ⟨j, _, rfl⟩, rfl⟩ := hd'
  rfl
theorem alike_str (ks : List Str) : AllAlike ((ks.map (Sum.inr : Str → Key)).map keyD) := by
  intro d hd d' hd'
  simp only [List.mem_map] at hd hd'
  obtain ⟨_, ⟨i, _, rfl⟩, rfl⟩ := hd
  obtain ⟨_, ⟨j, _, rfl⟩, rfl⟩ := hd'
  rfl
theorem foK_keysI {s : Sf} {x : SfX} {K : PySem.W.Frag} {P : Hp} (h : sfF K s x P) : (foK x.es).map (·.1) = (keys s.fo).map Sum.inl := by
  rw [h.1, keys_foOf]; simp [foK, keys]
theorem fv_keysI {K : PySem.W.Frag} {P : Hp} : ∀ {fv : List (Key × V)} {fi : List (Int × (Int × Str))}, Paired (FiR K P) fv fi → fv.map (·.1) = (keys fi).map Sum.inl
  | _, _, .nil => rfl
  | _, _, .cons q r => by
    rw [List.map_cons, q.1, fv_keysI r]; rfl
theorem entK_keysS (l : List Ent) : (entK l).map (·.1) = (keys l).map Sum.inr := by simp [entK, keys]
theorem dpInts {K : PySem.W.Frag} {P : Hp} : ∀ L : List Int, DpAll K P (L.map V.int) (L.map PyData.int)
  | [] => .nil
  | i :: r => .cons (.int i) (dpInts r)
theorem shInts (L : List Int) : Sh 1 (.list (L.map PyData.int)) := .lst fun d hd => by
  obtain ⟨b, _, rfl⟩ := List.mem_map.mp hd
  exact Sh.int b
theorem ints_nil (L : List Int) : PyData.eqv (.list (L.map PyData.int)) (.list []) = L.isEmpty := by
  cases L with
  | nil => exact eqv_self (shInts [])
  | cons i r => simp [PyData.eqv, PyData.eqvAll]
end FS

set_option Elab.async false
set_option maxRecDepth 100000
set_option linter.all false
/-! FsTold: what a law asks same of; a state of so many deeds at most; the told rows, the first two open. -/
namespace FS
open PySem PySem.Spec PyProof.Rows L2 Evl
theorem l_range2 {lo hi : Int} {g : TG} {tb : TS} {D : Ends} {σ : L2.St} {H : Hp} (h1 : -(2 ^ 62) ≤ lo ∧ lo < 2 ^ 62 ∧ -(2 ^ 62) ≤ hi ∧ hi < 2 ^ 62) (Pv : Nat → L2.St → Hp → Prop) (h0 : Pv 0 σ H)
    (hs : ∀ (i : Nat) σ H, (i : Int) < hi - lo → Pv i σ H → g (.int (lo + (i : Int))) σ H fun σ2 H2 => tb { D with nx := Pv (i + 1), ct := Pv (i + 1), bk := D.nx } σ2 H2) (hd : ∀ σ H, Pv (hi - lo).toNat σ H → D.nx σ H) :
    ∃ i j : Int, [V.int lo, V.int hi] = [.int i, .int j] ∧ (-(2 ^ 62) ≤ i ∧ i < 2 ^ 62 ∧ -(2 ^ 62) ≤ j ∧ j < 2 ^ 62) ∧ ∃ W : Nat → Nat → L2.St → Hp → Prop, (∃ m, W 0 m σ H) ∧ ∀ n m σ H, W n m σ H →
      ((Itr i (j - i).toNat).stop n H ∧ D.nx σ H) ∨ ((Itr i (j - i).toNat).go n H ∧ ∃ N : L2.St → Hp → Prop, (∀ σ' H', N σ' H' → ∃ m', m' < m ∧ W (n + 1) m' σ' H') ∧ ∀ x H', (Itr i (j - i).toNat).yld n H x H' → g x σ H' fun σ2 H2 => tb { D with nx := N, ct := N, bk := D.nx } σ2 H2) :=
  ⟨lo, hi, rfl, h1, for_range (lo := lo) (n := (hi - lo).toNat) Pv h0 (fun i σ H h p => hs i σ H (by omega) p) hd⟩
/-! ### a state of so many deeds -/
def Sf.mid (s : Sf) (m : Nat) : Prop := s.ok m ∧ s.nm ∧ s.last ≤ m
theorem Sf.mid_new : Sf.new.mid 2 := ⟨Sf.new_ok, Sf.new_nm, by decide⟩
theorem Sf.mid_up {s : Sf} {m n : Nat} (h : s.mid m) (k : m ≤ n) : s.mid n := ⟨h.1.up k, h.2.1, by have := h.2.2; omega⟩
theorem last_doD (s : Sf) (d : Deed) : (s.doD d).1.last ≤ s.last + 1 := by
  unfold Sf.doD
  split
  · cases d with
    | make f n c => exact Int.le_refl _
    | fold f n => exact Int.le_refl _
    | link f n t => show s.last ≤ _; omega
    | drop f n =>
      show (Prod.fst (match s.entry f n with | none => (s, okD) | some t => _)).last ≤ _
      split
      · show s.last ≤ _; omega
      · dsimp only
        split
        · show s.last ≤ _; omega
        · split <;> (show s.last ≤ _; omega)
    | move f n g n2 =>
      show (Prod.fst (match s.entry f n with | none => (s, okD) | some t => _)).last ≤ _
      split <;> (show s.last ≤ _; omega)
    | put f v c => show s.last ≤ _; omega
  · show s.last ≤ _; omega
theorem Sf.mid_do {s : Sf} {m : Nat} (h : s.mid m) (d : Deed) : (s.doD d).1.mid (m + 1) := ⟨doD_ok h.1, doD_nm h.2.1, by
  have h1 := last_doD s d
  have h2 := h.2.2
  rw [show ((m + 1 : Nat) : Int) = (m : Int) + 1 from rfl]
  omega⟩
/-! ### what same is asked of -/
theorem smd_ent (p : Ent) (n : Nat) : SmD (n + 2) (entD p) := by
  refine .tup (by simp) fun d hd => ?_
  simp only [List.mem_cons, List.not_mem_nil, or_false] at hd
  rcases hd with rfl | rfl
  · exact .str _
  · exact .int _
theorem smd_row {s : Sf} (h : ∀ q ∈ s.fo, q.2.length ≤ 10000) (k : Int) (n : Nat) : SmD (n + 4) (rowD s k) := by
  unfold rowD
  split
  · rename_i l hl
    refine .tup (by simp) fun d hd => ?_
    simp only [List.mem_cons, List.not_mem_nil, or_false] at hd
    rcases hd with rfl | rfl | rfl
    · exact .str _
    · exact .int _
    · have hl2 := h _ (aget_mem hl)
      refine .lst ?_ fun d hd => ?_
      · rw [List.length_map, show (sortE l).length = l.length from (List.mergeSort_perm _ _).length_eq]
        exact Nat.le_trans hl2 (by decide)
      · obtain ⟨p, _, rfl⟩ := List.mem_map.mp hd
        exact smd_ent p n
  · split
    · refine .tup (by simp) fun d hd => ?_
      simp only [List.mem_cons, List.not_mem_nil, or_false] at hd
      rcases hd with rfl | rfl | rfl | rfl
      · exact .str _
      · exact .int _
      · exact .int _
      · exact .str _
    · exact .non
theorem nodes_len {s : Sf} {m : Nat} (h : s.ok m) : (nodesS s).length ≤ 2 * m := by
  rw [(nodesS_perm s).length_eq, List.length_append]
  have h1 := h.szo
  have h2 := h.szi
  simp [keys]
  omega
theorem smd_rows {s : Sf} {m : Nat} (h : s.ok m) (hm : m ≤ 1000) (n : Nat) : SmD (n + 5) (.list (rowsD s)) := by
  refine .lst ?_ fun d hd => ?_
  · unfold rowsD
    rw [List.length_map]
    have := nodes_len h
    omega
  · obtain ⟨k, _, rfl⟩ := List.mem_map.mp hd
    exact smd_row (ok_big h hm) k n
theorem smd_ans (s : Sf) (d : Deed) (n : Nat) : SmD (n + 2) (.tuple (s.doD d).2) := by
  have key : (∃ z, (s.doD d).2 = [.str z]) ∨ (∃ z i, (s.doD d).2 = [.str z, .int i]) ∨ ∃ z y, (s.doD d).2 = [.str z, .str y] := by
    unfold Sf.doD
    split
    · cases d with
      | make f n c => exact .inr (.inl ⟨_, _, rfl⟩)
      | fold f n => exact .inr (.inl ⟨_, _, rfl⟩)
      | link f n t => exact .inl ⟨_, rfl⟩
      | drop f n =>
        refine .inl ⟨"ok", ?_⟩
        show (Prod.snd (match s.entry f n with | none => (s, okD) | some t => _)) = _
        split <;> rfl
      | move f n g n2 =>
        refine .inl ⟨"ok", ?_⟩
        show (Prod.snd (match s.entry f n with | none => (s, okD) | some t => _)) = _
        split <;> rfl
      | put f v c => exact .inr (.inl ⟨_, _, rfl⟩)
    · exact .inr (.inr ⟨_, _, rfl⟩)
  rcases key with ⟨z, e⟩ | ⟨z, i, e⟩ | ⟨z, y, e⟩ <;> rw [e] <;> refine .tup (by simp) fun d hd => ?_
  · simp only [List.mem_cons, List.not_mem_nil, or_false] at hd
    subst hd
    exact .str _
  · simp only [List.mem_cons, List.not_mem_nil, or_false] at hd
    rcases hd with rfl | rfl
    · exact .str _
    · exact .int _
  · simp only [List.mem_cons, List.not_mem_nil, or_false] at hd
    rcases hd with rfl | rfl <;> exact .str _
/-! ### the told rows, the first two open -/
theorem sorted01 {L : List Int} (h : L.Pairwise (· ≤ ·)) (nd : L.Nodup) (h0 : (0 : Int) ∈ L) (h1 : (1 : Int) ∈ L) (hp : ∀ x ∈ L, 0 ≤ x) : ∃ r, L = 0 :: 1 :: r := by
  cases L with
  | nil => cases h0
  | cons a L =>
    obtain ⟨ha, hL⟩ := List.pairwise_cons.mp h
    obtain ⟨na, nL⟩ := List.nodup_cons.mp nd
    have a0 : a = 0 := by
      have := hp a (.head _)
      rcases List.mem_cons.mp h0 with e | e
      · exact e.symm
      · have := ha 0 e; omega
    subst a0
    have h1' : (1 : Int) ∈ L := by
      rcases List.mem_cons.mp h1 with e | e
      · cases e
      · exact e
    cases L with
    | nil => cases h1'
    | cons b L =>
      obtain ⟨hb, _⟩ := List.pairwise_cons.mp hL
      have b1 : b = 1 := by
        have h2 := ha b (.head _)
        have h3 : b ≠ 0 := fun e => na (by rw [e]; exact .head _)
        rcases List.mem_cons.mp h1' with e | e
        · exact e.symm
        · have := hb 1 e; omega
      subst b1
      exact ⟨L, rfl⟩
theorem nodes01 {s : Sf} {m : Nat} (h : s.ok m) : ∃ r, nodesS s = 0 :: 1 :: r := by
  have pe := nodesS_perm s
  refine sorted01 (nodesS_sorted s) (pe.nodup_iff.mpr (List.nodup_append.mpr ⟨h.ndo, h.ndi, fun a ha b hb e => ?_⟩)) (pe.mem_iff.mpr (List.mem_append.mpr (.inl h.root))) (pe.mem_iff.mpr (List.mem_append.mpr (.inl h.clash))) fun x hx => ?_
  · subst e
    exact h.dis a ha hb
  · exact (h.lim x (List.mem_append.mp (pe.mem_iff.mp hx))).1
theorem rw_fo {K : PySem.W.Frag} {P : Hp} {s : Sf} {k : Int} {x : RwX} (h : RwF K P s k x) (hk : s.isFo k) : ∃ (t L : Addr) (ts : List V) (l : List Ent), x = ⟨true, t, L, ts⟩ ∧ aget s.fo k = some l ∧ SqT K P t [.str "folder", .int k, .ref L] ∧ ts.length = l.length := by
  cases h with
  | fo a b c =>
    refine ⟨_, _, _, _, rfl, a, b, ?_⟩
    rw [dpLen c, List.length_map]
    exact (List.mergeSort_perm _ _).length_eq
  | fi a b c => exact absurd hk (aget_none.mp a)
theorem pairAt {α β : Type} {F : α → β → Prop} : ∀ {xs : List α} {ys : List β} {i : Nat} {x : α}, Paired F xs ys → xs[i]? = some x → ∃ y, ys[i]? = some y ∧ F x y
  | _, _, i, _, .nil, h => by simp at h
  | _, _, 0, _, .cons (b := y) a t, h => ⟨y, rfl, by simp at h; subst h; exact a⟩
  | _, _, i + 1, _, .cons a t, h => pairAt (i := i) t (by simpa using h)
theorem fam_gone {P H : Hp} {a b c : Ch} {cs : List Ch} : ∀ {A : List Ch}, Mem P (a :: b :: c :: (A ++ cs)) H → Mem P (a :: b :: c :: cs) H
  | [], m => m
  | x :: A, m => fam_gone (A := A) (m.sel (.s (.s (.s .z)))).drop
theorem rwOpen2 {K : PySem.W.Frag} {P H : Hp} {cs : List Ch} {D : Addr} {s : Sf} {m : Nat} (hok : s.ok m) (hm : m ≤ 1000) (h : Mem P (rowsP K D s (nodesS s) :: cs) H) : ∃ (t0 t1 L0 L1 : Addr) (xs xs0 xs1 : List V),
    SqT K P t0 [.str "folder", .int 0, .ref L0] ∧ SqT K P t1 [.str "folder", .int 1, .ref L1] ∧ xs0.length ≤ 10000 ∧ xs.length ≤ 2000 ∧
    Mem P (pt D (.lst (.ref t0 :: .ref t1 :: xs)) :: pt L0 (.lst xs0) :: pt L1 (.lst xs1) :: cs) H := by
  obtain ⟨xs, hx, m1⟩ := rwOpen h
  obtain ⟨r, er⟩ := nodes01 hok
  have ln := nodes_len hok
  unfold RwFs at hx
  have hxl := Paired.length hx
  rw [er] at hx hxl
  rw [er] at ln
  cases hx with
  | cons q0 hx =>
  cases hx with
  | cons q1 hx =>
  rename_i x0 x1 ys
  obtain ⟨t0, L0, ts0, l0, rfl, a0, b0, c0⟩ := rw_fo q0 hok.root
  obtain ⟨t1, L1, ts1, l1, rfl, a1, b1, c1⟩ := rw_fo q1 hok.clash
  refine ⟨t0, t1, L0, L1, ys.map fun x => .ref x.t, ts0, ts1, b0, b1, ?_, ?_, ?_⟩
  · rw [c0]
    exact ok_big hok hm _ (aget_mem a0)
  · have hl := Paired.length hx
    rw [List.length_map]
    simp at ln
    omega
  · have m2 : Mem P (pt L0 (.lst ts0) :: pt L1 (.lst ts1) :: (ys.map rwPc ++ (pt D (.lst (.ref t0 :: .ref t1 :: ys.map fun x => .ref x.t)) :: cs))) H := (m1.sel (.s .z)).open
    have m3 := m2.sel (.s (.s sel_mid))
    exact fam_gone m3
end FS

set_option Elab.async false
set_option maxRecDepth 100000
set_option linter.all false
/-! FsPath: paths as texts and as names, what they lead to. -/
namespace FS
open PySem PySem.Spec PyProof.Rows L2 Evl
theorem slash_eq : ("/" : Str) = ⟨#[47]⟩ := by decide +kernel
/-- the words behind the first stroke -/
def wordsOf (z : Str) : List Str := (Txt.split z "/").drop 1
def pathB (z : Str) : Bool := decide (z = "/") || (Txt.startswith z "/" && (wordsOf z).all nameB)
theorem starts_cut (z : Str) : decide (cutS z none (some 1) = "/") = Txt.startswith z "/" := by
  rw [slash_eq]
  obtain ⟨⟨l⟩⟩ := z
  unfold cutS Txt.startswith Builtin.Str.subAt
  rw [show HT.sIx (Str.length ⟨⟨l⟩⟩) (Str.length ⟨⟨l⟩⟩) (some 1) = min 1 l.length from HT.sIx_nat _ _ 1, HT.sIx_none]
  cases l with
  | nil => decide +kernel
  | cons c r =>
    have e2 : min 1 (c :: r).length - 0 = 1 := by rw [List.length_cons]; omega
    rw [e2]
    show decide ((⟨#[c]⟩ : Str) = ⟨#[47]⟩) = _
    have e3 : (Array.extract ⟨c :: r⟩ 0 (0 + Str.length ⟨#[47]⟩) : Array Nat) = #[c] := by
      show (Array.extract ⟨c :: r⟩ 0 (0 + 1) : Array Nat) = #[c]
      simp
    show _ = (decide (0 + 1 ≤ (c :: r).length) && (Array.extract ⟨c :: r⟩ 0 (0 + Str.length ⟨#[47]⟩) == #[47]))
    rw [e3, decide_eq_true (by rw [List.length_cons]; omega : 0 + 1 ≤ (c :: r).length), Bool.true_and, Bool.eq_iff_iff]
    simp
theorem starts_first (z : Str) : Txt.startswith z "/" = true ↔ ∃ r, z.cps.toList = 47 :: r := by
  rw [slash_eq]
  obtain ⟨⟨l⟩⟩ := z
  unfold Txt.startswith Builtin.Str.subAt
  cases l with
  | nil => simp [Str.length]
  | cons c r =>
    have e3 : (Array.extract ⟨c :: r⟩ 0 (0 + Str.length ⟨#[47]⟩) : Array Nat) = #[c] := by
      show (Array.extract ⟨c :: r⟩ 0 (0 + 1) : Array Nat) = #[c]
      simp
    show (decide (0 + 1 ≤ (c :: r).length) && (Array.extract ⟨c :: r⟩ 0 (0 + Str.length ⟨#[47]⟩) == #[47])) = true ↔ _
    rw [e3, decide_eq_true (by rw [List.length_cons]; omega : 0 + 1 ≤ (c :: r).length), Bool.true_and]
    simp
/-! ### joined with strokes -/
theorem cps_app (x y : Str) : (x ++ y).cps.toList = x.cps.toList ++ y.cps.toList := by
  show (x.cps ++ y.cps).toList = _
  exact Array.toList_append
theorem str_ext {x y : Str} (h : x.cps.toList = y.cps.toList) : x = y := Str.ext' (Array.toList_inj.mp h)
theorem free_cut {c : Nat} : ∀ {x y A B : List Nat}, c ∉ x → c ∉ y → x ++ c :: A = y ++ c :: B → x = y ∧ A = B
  | [], [], A, B, _, _, h => ⟨rfl, (List.cons.inj h).2⟩
  | [], b :: y, A, B, _, hy, h => absurd (.head _) (show ¬ c ∈ c :: y by rw [show c :: y = b :: y by rw [(List.cons.inj h).1]]; exact hy)
  | a :: x, [], A, B, hx, _, h => absurd (.head _) (show ¬ c ∈ c :: x by rw [show c :: x = a :: x by rw [← (List.cons.inj h).1]]; exact hx)
  | a :: x, b :: y, A, B, hx, hy, h => by
    obtain ⟨h1, h2⟩ := List.cons.inj h
    obtain ⟨e1, e2⟩ := free_cut (fun z => hx (.tail _ z)) (fun z => hy (.tail _ z)) h2
    exact ⟨by rw [h1, e1], e2⟩
theorem join_cps (x y : Str) (r : List Str) : (Str.join "/" (x :: y :: r)).cps.toList = x.cps.toList ++ 47 :: (Str.join "/" (y :: r)).cps.toList := by
  show (x ++ "/" ++ Str.join "/" (y :: r)).cps.toList = _
  rw [cps_app, cps_app, slash_eq, List.append_assoc]
  rfl
theorem join_inj : ∀ {xs ys : List Str}, xs ≠ [] → ys ≠ [] → (∀ p ∈ xs, 47 ∉ p.cps.toList) → (∀ p ∈ ys, 47 ∉ p.cps.toList) → Str.join "/" xs = Str.join "/" ys → xs = ys
  | [], _, h, _, _, _, _ => absurd rfl h
  | _, [], _, h, _, _, _ => absurd rfl h
  | [x], [y], _, _, _, _, h => by
    have h : x = y := h
    rw [h]
  | [x], y :: y2 :: r, _, _, hx, _, h => by
    have h2 : x.cps.toList = _ := (congrArg (fun z : Str => z.cps.toList) (show x = Str.join "/" (y :: y2 :: r) from h)).trans (join_cps y y2 r)
    exact absurd (by rw [h2]; simp) (hx x (.head _))
  | x :: x2 :: r, [y], _, _, _, hy, h => by
    have h2 : y.cps.toList = _ := (congrArg (fun z : Str => z.cps.toList) (show y = Str.join "/" (x :: x2 :: r) from h.symm)).trans (join_cps x x2 r)
    exact absurd (by rw [h2]; simp) (hy y (.head _))
  | x :: x2 :: r, y :: y2 :: r2, _, _, hx, hy, h => by
    have h2 := congrArg (fun z : Str => z.cps.toList) h
    rw [join_cps, join_cps] at h2
    obtain ⟨e1, e2⟩ := free_cut (hx x (.head _)) (hy y (.head _)) h2
    have ih := join_inj (xs := x2 :: r) (ys := y2 :: r2) (by simp) (by simp) (fun p hp => hx p (.tail _ hp)) (fun p hp => hy p (.tail _ hp)) (str_ext e2)
    rw [str_ext e1, ih]
theorem split_ne (z : Str) : Txt.split z "/" ≠ [] := fun e => by
  have := PyProof.Rows.split_pos z "/"
  rw [e] at this
  exact absurd this (by decide)
theorem split_slash (z : Str) : ∀ p ∈ Txt.split z "/", 47 ∉ p.cps.toList := by
  rw [slash_eq]
  exact StrLaws.split_free z 47
/-- the text of a path that goes on from t -/
def pathT (t : Str) : List Str → Str
  | [] => t
  | n :: r => pathT ((t ++ "/") ++ n) r
theorem pathT_app (t : Str) (a b : List Str) : pathT t (a ++ b) = pathT (pathT t a) b := by
  induction a generalizing t with
  | nil => rfl
  | cons x r ih => exact ih _
theorem join_glue (t n : Str) (r : List Str) : Str.join "/" (((t ++ "/") ++ n) :: r) = Str.join "/" (t :: n :: r) := by
  cases r with
  | nil => rfl
  | cons y r =>
    refine str_ext ?_
    rw [join_cps, join_cps, join_cps, cps_app, cps_app, slash_eq]
    simp
theorem pathT_join (t : Str) (ns : List Str) : pathT t ns = Str.join "/" (t :: ns) := by
  induction ns generalizing t with
  | nil => rfl
  | cons n r ih =>
    show pathT ((t ++ "/") ++ n) r = _
    rw [ih, join_glue]
theorem sg_free : ∀ z : Str, nameB z = true → 47 ∉ z.cps.toList := fun z h hc => by
  unfold nameB at h
  rw [Bool.and_eq_true] at h
  have h2 := h.2
  unfold allB at h2
  rw [all_map_id, List.all_eq_true] at h2
  have h3 := of_decide_eq_true (h2 47 hc)
  exact absurd h3 (by decide +kernel)
theorem name_ne {z : Str} (h : nameB z = true) : z ≠ "" := fun e => by
  subst e
  exact absurd h (by decide +kernel)
theorem split_path {ns : List Str} (h : ∀ n ∈ ns, nameB n = true) : Txt.split (pathT "" ns) "/" = ("" : Str) :: ns := by
  refine join_inj (split_ne _) (by simp) (split_slash _) (fun p hp => ?_) ?_
  · rcases List.mem_cons.mp hp with rfl | hp
    · decide +kernel
    · exact sg_free p (h p hp)
  · rw [StrLaws.join_split, pathT_join]
theorem words_path {ns : List Str} (h : ∀ n ∈ ns, nameB n = true) : wordsOf (pathT "" ns) = ns := by
  unfold wordsOf
  rw [split_path h]
  rfl
def showP (t : Str) : Str := if t = "" then "/" else t
theorem pathT_ne {n : Str} {r : List Str} (h : ∀ x ∈ n :: r, nameB x = true) : pathT "" (n :: r) ≠ "" ∧ pathT "" (n :: r) ≠ "/" := by
  have hs := split_path h
  constructor <;> intro e <;> rw [e] at hs
  · have : (Txt.split "" "/").length = 1 := by decide +kernel
    rw [hs] at this
    simp at this
  · have e2 : Txt.split "/" "/" = [("" : Str), ""] := by decide +kernel
    rw [e2] at hs
    have : n = "" := by
      have := (List.cons.inj hs).2
      exact (List.cons.inj this).1.symm
    exact name_ne (h n (.head _)) this
theorem starts_path (n : Str) (r : List Str) : Txt.startswith (pathT "" (n :: r)) "/" = true := by
  rw [starts_first, pathT_join, join_cps]
  exact ⟨_, rfl⟩
theorem path_words {z : Str} (h : Txt.startswith z "/" = true) : z = pathT "" (wordsOf z) := by
  obtain ⟨r, hr⟩ := (starts_first z).mp h
  cases hs : Txt.split z "/" with
  | nil => exact absurd hs (split_ne z)
  | cons p ws =>
    have hj := StrLaws.join_split z "/"
    rw [hs] at hj
    have hp : p = "" := by
      have hf := split_slash z p (by rw [hs]; exact .head _)
      have hz : z.cps.toList = p.cps.toList ∨ ∃ A, z.cps.toList = p.cps.toList ++ 47 :: A := by
        cases ws with
        | nil => exact .inl (by rw [← hj]; rfl)
        | cons w ws => exact .inr ⟨_, by rw [← hj]; exact join_cps p w ws⟩
      refine str_ext ?_
      cases hp : p.cps.toList with
      | nil => rfl
      | cons a q =>
        exfalso
        rw [hp] at hf hz
        rcases hz with e | ⟨A, e⟩
        · rw [hr] at e
          exact hf (by rw [← (List.cons.inj e).1]; exact .head _)
        · rw [hr] at e
          exact hf (by rw [← (List.cons.inj e).1]; exact .head _)
    have hw : wordsOf z = ws := by unfold wordsOf; rw [hs]; rfl
    rw [hw, pathT_join, ← hp]
    exact hj.symm
/-! ### what a path leads to -/
def Sf.lead (s : Sf) : Int → List Str → Option Int
  | a, [] => some a
  | a, n :: r => (s.entry a n).bind fun b => s.lead b r
def Sf.nodeAt (s : Sf) (z : Str) : Option Int := if z = "/" then some 0 else if (Txt.startswith z "/" && (wordsOf z).all nameB) = true then s.lead 0 (wordsOf z) else none
theorem lead_nm {s : Sf} (h : s.nm) : ∀ {ns : List Str} {a k : Int}, s.lead a ns = some k → ∀ n ∈ ns, nameB n = true
  | [], _, _, _, _, hn => by cases hn
  | n :: r, a, k, e, x, hx => by
    unfold Sf.lead at e
    obtain ⟨b, hb, e⟩ := Option.bind_eq_some_iff.mp e
    obtain ⟨l, hl, hb2⟩ := entry_some hb
    rcases List.mem_cons.mp hx with rfl | hx
    · exact h (a, x, b) (ents_mem.mpr ⟨l, aget_mem hl, aget_mem hb2⟩)
    · exact lead_nm h e x hx
theorem node_iff {s : Sf} (h : s.nm) {z : Str} {k : Int} : s.nodeAt z = some k ↔ ∃ ns, z = showP (pathT "" ns) ∧ s.lead 0 ns = some k := by
  unfold Sf.nodeAt
  constructor
  · intro e
    split at e
    · rename_i hz
      refine ⟨[], by rw [hz]; decide +kernel, e⟩
    · rename_i hz
      split at e
      · rename_i hw
        rw [Bool.and_eq_true] at hw
        refine ⟨wordsOf z, ?_, e⟩
        rw [← path_words hw.1]
        unfold showP
        rw [if_neg]
        intro e2
        subst e2
        exact absurd hw.1 (by decide +kernel)
      · cases e
  · rintro ⟨ns, rfl, e⟩
    have hn := lead_nm h e
    cases ns with
    | nil => rw [if_pos (by decide +kernel)]; exact e
    | cons n r =>
      obtain ⟨h1, h2⟩ := pathT_ne hn
      have e3 : showP (pathT "" (n :: r)) = pathT "" (n :: r) := if_neg h1
      rw [e3, if_neg h2, if_pos (by
        rw [starts_path, words_path hn, Bool.true_and, List.all_eq_true]
        exact hn), words_path hn]
      exact e
end FS

set_option Elab.async false
set_option maxRecDepth 100000
set_option linter.all false
/-! FsTree: all paths of a shelf, folders walked from the root with a stack. -/
namespace FS
open PySem L2
/-- deep enough: nothing stands f steps below -/
def Deep (s : Sf) : Nat → Int → Prop
  | 0, a => s.ent a = []
  | f + 1, a => ∀ p ∈ s.ent a, Deep s f p.2
theorem Deep.succ {s : Sf} : ∀ {f : Nat} {a : Int}, Deep s f a → Deep s (f + 1) a
  | 0, a, h => fun p hp => by rw [show s.ent a = [] from h] at hp; cases hp
  | f + 1, a, h => fun p hp => Deep.succ (h p hp)
theorem Deep.up {s : Sf} {f g : Nat} {a : Int} (h : Deep s f a) (k : f ≤ g) : Deep s g a := by
  induction k with
  | refl => exact h
  | step _ ih => exact ih.succ
theorem Deep.ch {s : Sf} {f : Nat} {a : Int} (h : Deep s f a) : ∀ p ∈ s.ent a, Deep s f p.2 := fun p hp => by
  cases f with
  | zero => rw [show s.ent a = [] from h] at hp; cases hp
  | succ f => exact (h p hp).succ
/-- what stands at and below a node, by the text that leads there -/
def bel (s : Sf) : Nat → Int → Str → List (Str × Int)
  | 0, a, t => [(t, a)]
  | f + 1, a, t => (t, a) :: (s.ent a).flatMap fun p => bel s f p.2 ((t ++ "/") ++ p.1)
theorem fm_congr {α β : Type} {f g : α → List β} : ∀ {l : List α}, (∀ x ∈ l, f x = g x) → l.flatMap f = l.flatMap g
  | [], _ => rfl
  | x :: l, h => by rw [List.flatMap_cons, List.flatMap_cons, h x (.head _), fm_congr fun y hy => h y (.tail _ hy)]
theorem bel_succ {s : Sf} : ∀ {f : Nat} {a : Int} {t : Str}, Deep s f a → bel s (f + 1) a t = bel s f a t
  | 0, a, t, h => by
    show (t, a) :: (s.ent a).flatMap _ = _
    rw [show s.ent a = [] from h]; rfl
  | f + 1, a, t, h => by
    show (t, a) :: (s.ent a).flatMap (fun p => bel s (f + 1) p.2 ((t ++ "/") ++ p.1)) = (t, a) :: (s.ent a).flatMap fun p => bel s f p.2 ((t ++ "/") ++ p.1)
    rw [fm_congr fun p hp => bel_succ (h p hp)]
theorem bel_eq {s : Sf} {f : Nat} {a : Int} {t : Str} (h : Deep s f a) : bel s f a t = (t, a) :: (s.ent a).flatMap fun p => bel s f p.2 ((t ++ "/") ++ p.1) := by
  rw [← bel_succ h]; rfl
theorem ent_mem {s : Sf} {a : Int} {p : Ent} (h : p ∈ s.ent a) : ∃ l, aget s.fo a = some l ∧ p ∈ l ∧ (a, p.1, p.2) ∈ s.es := by
  unfold Sf.ent at h
  cases hl : aget s.fo a with
  | none => rw [hl] at h; cases h
  | some l => rw [hl] at h; exact ⟨l, rfl, h, ents_mem.mpr ⟨_, aget_mem hl, h⟩⟩
theorem deep_of {s : Sf} {dp : Int → Nat} {B : Nat} (hd : ∀ e ∈ s.es, s.isFo e.2.2 → dp e.1 < dp e.2.2) (hB : ∀ e ∈ s.es, dp e.1 ≤ B) : ∀ (n : Nat) (a : Int), (s.isFo a → B < dp a + n) → Deep s n a
  | 0, a, h => by
    show s.ent a = []
    cases he : s.ent a with
    | nil => rfl
    | cons p l =>
      exfalso
      obtain ⟨l', hl, _, hes⟩ := ent_mem (s := s) (a := a) (p := p) (by rw [he]; exact .head _)
      have h1 := h (aget_key hl)
      have h2 : dp a ≤ B := hB _ hes
      omega
  | n + 1, a, h => fun p hp => by
    obtain ⟨l, hl, _, hes⟩ := ent_mem hp
    have h1 := h (aget_key hl)
    refine deep_of hd hB n p.2 fun hf => ?_
    have h3 : dp a < dp p.2 := hd _ hes hf
    omega
theorem sum_ge {α : Type} {f : α → Nat} : ∀ {l : List α} {x : α}, x ∈ l → f x ≤ (l.map f).sum
  | y :: l, x, h => by
    rw [List.map_cons, List.sum_cons]
    rcases List.mem_cons.mp h with rfl | h
    · omega
    · have := sum_ge (f := f) h; omega
theorem deep_ex {s : Sf} {m : Nat} (h : s.ok m) : ∃ F, ∀ a, Deep s F a := by
  obtain ⟨dp, hd⟩ := h.rank
  refine ⟨(s.es.map fun e => dp e.1).sum + 1, fun a => deep_of hd (fun e he => sum_ge (f := fun e => dp e.1) he) _ a fun _ => by omega⟩
/-! ### how many they are, how long their texts -/
theorem bel_pos (s : Sf) (f : Nat) (a : Int) (t : Str) : 0 < (bel s f a t).length := by cases f <;> simp [bel]
theorem fm_len {α β : Type} {f : α → List β} {l : List α} {x : α} (h : x ∈ l) : (f x).length ≤ (l.flatMap f).length := by
  rw [List.length_flatMap]
  exact sum_ge (f := fun x => (f x).length) h
theorem nm_tokT {z : Str} (h : nameB z = true) : TOk 8 z := by
  refine ⟨nm_len h, (strOk_iff z).mpr fun c hc => ?_⟩
  unfold nameB at h
  rw [Bool.and_eq_true] at h
  have h2 := h.2
  unfold allB at h2
  rw [all_map_id, List.all_eq_true] at h2
  have h3 := of_decide_eq_true (h2 c hc)
  have h4 : ∀ c ∈ SG.cps.toList, c < 0x110000 := by decide +kernel
  exact h4 c h3
theorem slash_tok : TOk 1 ("/" : Str) := ⟨by decide +kernel, by decide +kernel⟩
theorem bel_txt {s : Sf} (hn : s.nm) : ∀ {f : Nat} {a : Int} {t : Str} {n : Nat} {q : Str × Int}, TOk n t → q ∈ bel s f a t → TOk (n + 9 * ((bel s f a t).length - 1)) q.1
  | 0, a, t, n, q, ht, h => by
    obtain rfl : q = (t, a) := by simpa [bel] using h
    exact ht.up (Nat.le_add_right _ _)
  | f + 1, a, t, n, q, ht, h => by
    rcases List.mem_cons.mp h with rfl | h
    · exact ht.up (Nat.le_add_right _ _)
    · obtain ⟨p, hp, hq⟩ := List.mem_flatMap.mp h
      have h8 : TOk 8 p.1 := nm_tokT (hn _ (ent_mem hp).choose_spec.2.2)
      have ih := bel_txt hn ((ht.app slash_tok).app h8) hq
      have hl : (bel s f p.2 ((t ++ "/") ++ p.1)).length ≤ ((s.ent a).flatMap fun p => bel s f p.2 ((t ++ "/") ++ p.1)).length := fm_len (f := fun p : Ent => bel s f p.2 ((t ++ "/") ++ p.1)) hp
      have hb := bel_pos s f p.2 ((t ++ "/") ++ p.1)
      refine ih.up ?_
      show _ ≤ n + 9 * (((t, a) :: (s.ent a).flatMap fun p => bel s f p.2 ((t ++ "/") ++ p.1)).length - 1)
      rw [List.length_cons]
      omega
theorem bel_cnt {s : Sf} {m : Nat} (h : s.ok m) {dp : Int → Nat} (hd : ∀ e ∈ s.es, s.isFo e.2.2 → dp e.1 < dp e.2.2) {F : Nat} (hF : ∀ a, Deep s F a) {n : Int} : ∀ (k : Nat) (T : List (Int × Str)) (U : List (Int × List Ent)), dfsM (T.map (·.1)) U ≤ k → Dfs s n (-1) dp (T.map (·.1)) U → (∀ x ∈ T, x.1 ≠ -1) → (T.flatMap fun x => bel s F x.1 x.2).length ≤ dfsM (T.map (·.1)) U
  | 0, T, U, hk, d, hT => by
    cases T with
    | nil => simp
    | cons x T => simp [dfsM] at hk
  | k + 1, T, U, hk, d, hT => by
    rcases List.eq_nil_or_concat T with rfl | ⟨T', x, rfl⟩
    · simp
    · rw [List.concat_eq_append] at *
      have em : (T' ++ [x]).map (·.1) = T'.map (·.1) ++ [x.1] := by simp
      rw [em] at d hk ⊢
      have nx : x.1 ≠ -1 := hT x (by simp)
      obtain ⟨U', d', e⟩ := d.step h hd nx
      let C : List (Int × Str) := (s.ent x.1).map fun p => (p.2, (x.2 ++ "/") ++ p.1)
      have eC : T'.map (·.1) ++ (s.ent x.1).map (·.2) = (T' ++ C).map (·.1) := by
        rw [List.map_append, List.map_map]; rfl
      rw [eC] at d' e
      have ih := bel_cnt h hd hF k (T' ++ C) U' (by omega) d' fun y hy => by
        rcases List.mem_append.mp hy with z | z
        · exact hT y (List.mem_append.mpr (.inl z))
        · obtain ⟨p, hp, rfl⟩ := List.mem_map.mp z
          have := (h.lim _ (h.tgtN (List.mem_map.mpr ⟨_, (ent_mem hp).choose_spec.2.2, rfl⟩))).1
          intro e
          have e : p.2 = -1 := e
          have this : 0 ≤ p.2 := this
          omega
      rw [List.flatMap_append, List.length_append] at ih ⊢
      have e2 : ([x].flatMap fun x => bel s F x.1 x.2).length = 1 + (C.flatMap fun x => bel s F x.1 x.2).length := by
        rw [List.flatMap_cons, List.flatMap_nil, List.append_nil, bel_eq (hF x.1), List.length_cons, List.flatMap_map]
        exact Nat.add_comm _ _
      rw [e2]
      omega
/-- all paths, the root's text empty -/
def Sf.allB (s : Sf) (F : Nat) : List (Str × Int) := bel s F 0 ""
theorem allB_len {s : Sf} {m : Nat} (h : s.ok m) {F : Nat} (hF : ∀ a, Deep s F a) : (s.allB F).length ≤ m + 1 := by
  obtain ⟨dp, hd⟩ := h.rank
  have := bel_cnt h hd hF (n := 0) (dfsM [0] s.fo) [(0, "")] s.fo (Nat.le_refl _) (Dfs.init h) (by simp)
  rw [List.flatMap_cons, List.flatMap_nil, List.append_nil] at this
  have this2 := this
  have e : dfsM ([((0 : Int), ("" : Str))].map (·.1)) s.fo = 1 + s.es.length := by simp [dfsM, Sf.es]
  have := h.sze
  unfold Sf.allB
  rw [e] at this2
  have this3 : (bel s F 0 "").length ≤ 1 + s.es.length := this2
  omega
/-! ### what is in it -/
theorem bel_iff {s : Sf} {m : Nat} (h : s.ok m) : ∀ {F : Nat} {a k : Int} {t z : Str}, Deep s F a → ((z, k) ∈ bel s F a t ↔ ∃ ns, z = pathT t ns ∧ s.lead a ns = some k) := by
  have key : ∀ {a : Int} {n : Str} {b : Int}, s.entry a n = some b ↔ (n, b) ∈ s.ent a := fun {a n b} => by
    unfold Sf.entry Sf.ent
    cases hl : aget s.fo a with
    | none => simp
    | some l => exact ⟨fun e => aget_mem e, fun e => aget_of (h.ndl hl) e⟩
  intro F
  induction F with
  | zero =>
    intro a k t z hD
    constructor
    · intro e
      have e : (z, k) = (t, a) := by simpa [bel] using e
      obtain ⟨rfl, rfl⟩ := Prod.mk.inj e
      exact ⟨[], rfl, rfl⟩
    · rintro ⟨ns, rfl, e⟩
      cases ns with
      | nil =>
        have : a = k := Option.some.inj e
        subst this
        exact .head _
      | cons n r =>
        exfalso
        obtain ⟨b, hb, _⟩ := Option.bind_eq_some_iff.mp (show (s.entry a n).bind _ = some k from e)
        have := key.mp hb
        rw [show s.ent a = [] from hD] at this
        cases this
  | succ F ih =>
    intro a k t z hD
    constructor
    · intro e
      rcases List.mem_cons.mp e with e | e
      · obtain ⟨rfl, rfl⟩ := Prod.mk.inj e
        exact ⟨[], rfl, rfl⟩
      · obtain ⟨p, hp, hq⟩ := List.mem_flatMap.mp e
        obtain ⟨ns, rfl, e2⟩ := (ih (hD p hp)).mp hq
        exact ⟨p.1 :: ns, rfl, by show (s.entry a p.1).bind _ = _; rw [key.mpr hp]; exact e2⟩
    · rintro ⟨ns, rfl, e⟩
      cases ns with
      | nil =>
        have : a = k := Option.some.inj e
        subst this
        exact .head _
      | cons n r =>
        obtain ⟨b, hb, e2⟩ := Option.bind_eq_some_iff.mp (show (s.entry a n).bind _ = some k from e)
        have hp := key.mp hb
        exact .tail _ (List.mem_flatMap.mpr ⟨(n, b), hp, (ih (hD _ hp)).mpr ⟨r, rfl, e2⟩⟩)
def showE (q : Str × Int) : Str × Int := (showP q.1, q.2)
theorem all_node {s : Sf} {m : Nat} (h : s.ok m) (hn : s.nm) {F : Nat} (hF : ∀ a, Deep s F a) {z : Str} {k : Int} : (z, k) ∈ (s.allB F).map showE ↔ s.nodeAt z = some k := by
  rw [node_iff hn]
  constructor
  · intro e
    obtain ⟨q, hq, e⟩ := List.mem_map.mp e
    obtain ⟨rfl, rfl⟩ := Prod.mk.inj e
    obtain ⟨ns, e1, e2⟩ := (bel_iff h (hF 0)).mp (show (q.1, q.2) ∈ bel s F 0 "" from hq)
    exact ⟨ns, by rw [e1], e2⟩
  · rintro ⟨ns, rfl, e⟩
    exact List.mem_map.mpr ⟨(pathT "" ns, k), (bel_iff h (hF 0)).mpr ⟨ns, rfl, e⟩, rfl⟩
/-! ### texts sorted -/
theorem le_cps (a b : Str) : a.cps.toList ≤ b.cps.toList ∨ b.cps.toList ≤ a.cps.toList := List.le_total _ _
def sortS (L : List Str) : List Str := L.mergeSort fun a b => decide (a.cps.toList ≤ b.cps.toList)
theorem sortS_data (L : List Str) : sortedD (L.map PyData.str) = (sortS L).map PyData.str := by
  unfold sortedD sortS
  refine (List.map_mergeSort fun a _ b _ => ?_).symm
  exact (congrFun (congrFun (PySem.W.dataLe_str (fun z : Str => z)) a) b).symm
theorem sortS_sorted (L : List Str) : (sortS L).Pairwise fun a b => a.cps.toList ≤ b.cps.toList := by
  have := List.pairwise_mergeSort (le := fun a b : Str => decide (a.cps.toList ≤ b.cps.toList)) (fun a b c h1 h2 => decide_eq_true (List.le_trans (of_decide_eq_true h1) (of_decide_eq_true h2))) (fun a b => by
    rcases le_cps a b with h | h
    · rw [decide_eq_true h]; rfl
    · rw [decide_eq_true h, Bool.or_true]) L
  exact this.imp fun h => by simpa using h
theorem sortS_perm (L : List Str) : (sortS L).Perm L := List.mergeSort_perm _ _
theorem sortS_eq {L M : List Str} (p : L.Perm M) : sortS L = sortS M :=
  List.Perm.eq_of_pairwise (fun a b _ _ h1 h2 => str_ext (List.le_antisymm h1 h2)) (sortS_sorted L) (sortS_sorted M) ((sortS_perm L).trans (p.trans (sortS_perm M).symm))
theorem alikeS (L : List Str) : PySem.W.AllAlike (L.map PyData.str) := by
  intro d hd d' hd'
  obtain ⟨i, _, rfl⟩ := List.mem_map.mp hd
  obtain ⟨j, _, rfl⟩ := List.mem_map.mp hd'
  rfl
theorem sortableS (L : List Str) : PySem.W.Sortable (L.map PyData.str) := .inr fun d hd => by
  obtain ⟨i, _, rfl⟩ := List.mem_map.mp hd
  exact ⟨by simp, by simp⟩
theorem dpStrsT {K : PySem.W.Frag} {P : Hp} : ∀ L : List Str, DpAll K P (L.map V.str) (L.map PyData.str)
  | [] => .nil
  | i :: r => .cons (.str i) (dpStrsT r)
theorem dp_strs {K : PySem.W.Frag} {H : Hp} : ∀ {ys : List V} {L : List Str}, DpAll K H ys (L.map PyData.str) → ys = L.map V.str
  | _, [], .nil => rfl
  | _, z :: L, .cons (.str _) t => by rw [List.map_cons, dp_strs t]
theorem i_sortS {K : PySem.W.Frag} {a : Addr} {L : List Str} {H : Hp} {Q : VK} (h : SqL K H a (L.map V.str)) (q : NewO (.lst ((sortS L).map V.str)) H Q) : rSortD K [.ref a] H Q :=
  i_sortD h (dpStrsT L) (alikeS L) (sortableS L) (fun d hd => by
    obtain ⟨i, _, rfl⟩ := List.mem_map.mp hd
    exact Nat.zero_le _) fun ys hy => by
    rw [sortS_data] at hy
    rw [dp_strs hy]
    exact q
/-! ### the paths that lead to a node -/
open Classical in
noncomputable def Sf.hgt (s : Sf) : Nat := if h : ∃ F, ∀ a, Deep s F a then h.choose else 0
theorem hgt_ok {s : Sf} {m : Nat} (h : s.ok m) : ∀ a, Deep s s.hgt a := by
  unfold Sf.hgt
  rw [dif_pos (deep_ex h)]
  exact (deep_ex h).choose_spec
noncomputable def Sf.all (s : Sf) : List (Str × Int) := s.allB s.hgt
theorem all_len {s : Sf} {m : Nat} (h : s.ok m) : s.all.length ≤ m + 1 := allB_len h (hgt_ok h)
theorem all_txt {s : Sf} {m : Nat} (h : s.ok m) (hn : s.nm) {q : Str × Int} (hq : q ∈ s.all) : TOk (9 * m) q.1 := by
  have h1 := bel_txt hn (n := 0) (t := "") ⟨by decide +kernel, by decide +kernel⟩ hq
  have h2 := all_len h
  refine h1.up ?_
  have h2 : (bel s s.hgt 0 "").length ≤ m + 1 := h2
  omega
noncomputable def Sf.pathsTo (s : Sf) (n : Int) : List Str := (s.all.filter fun q => decide (q.2 = n)).map fun q => showP q.1
end FS

set_option Elab.async false
set_option maxRecDepth 100000
set_option linter.all false
set_option warn.classDefReducibility false
/-! FsTc: the rules of a reading that ask nothing else, found by the goal's head (many at once). -/
namespace FS
open PySem L2 Evl
class St (g : Prop) (n : outParam Prop) where
  go : n → g
class Sts (g : Prop) (n : outParam Prop) where
  go : n → g
class Go (g : Prop) (n : outParam Prop) where
  go : n → g
/-- by a rule -/
abbrev StOf {g n : Prop} (_ : n → g) := St g n
instance (priority := low) sts_end {g : Prop} : Sts g g := ⟨fun h => h⟩
instance sts_step {g m n : Prop} [a : St g m] [b : Sts m n] : Sts g n := ⟨fun h => a.go (b.go h)⟩
instance go_step {g m n : Prop} [a : St g m] [b : Sts m n] : Go g n := ⟨fun h => a.go (b.go h)⟩
theorem Go.run {g n : Prop} [a : Go g n] (h : n) : g := a.go h
class At (σ : List (Option V)) (i : Nat) (v : outParam V) : Prop where
  at_ : σ[i]? = some (some v)
instance at_z {v : V} {r : List (Option V)} : At (some v :: r) 0 v := ⟨rfl⟩
instance at_s {v : V} {x : Option V} {r : List (Option V)} {n : Nat} [h : At r n v] : At (x :: r) (n + 1) v := ⟨by simpa using h.at_⟩
class Pt (σ : List (Option V)) (i : Nat) (v : V) (σ' : outParam (List (Option V))) : Prop where
  pt_ : SetS σ i v σ'
instance pt_z {v : V} {x : Option V} {r : List (Option V)} : Pt (x :: r) 0 v (some v :: r) := ⟨.z⟩
instance pt_s {v : V} {x : Option V} {r r' : List (Option V)} {n : Nat} [h : Pt r n v r'] : Pt (x :: r) (n + 1) v (x :: r') := ⟨.s h.pt_⟩
instance st_var {i : Nat} {σ : L2.St} {H : Hp} {v : V} {Q : VK} [h : At σ i v] : St (tVar i σ H Q) (Q v H) := ⟨fun q => i_var h.at_ q⟩
instance st_name {i : Nat} {v : V} {σ σ' : L2.St} {H : Hp} {Q : L2.St → Hp → Prop} [h : Pt σ i v σ'] : St (gName i v σ H Q) (Q σ' H) := ⟨fun q => i_name h.pt_ q⟩
instance st_iteT {A B : Prop} : St (if true = true then A else B) A := ⟨fun h => L2.iteT h⟩
instance st_iteF {A B : Prop} : St (if false = true then A else B) B := ⟨fun h => L2.iteF h⟩
instance st_dinN {i : Int} {A B : Prop} : St (if decide (V.int i = V.non) = true then A else B) B := ⟨fun h => i_dec (fun z => nomatch z) (fun _ => h)⟩
instance st_ninN {i : Int} {A B : Prop} : St (if (!decide (V.int i = V.non)) = true then A else B) A := ⟨fun h => i_ndec (fun _ => h) (fun z => nomatch z)⟩
instance st_dstN {i : Str} {A B : Prop} : St (if decide (V.str i = V.non) = true then A else B) B := ⟨fun h => i_dec (fun z => nomatch z) (fun _ => h)⟩
instance st_nstN {i : Str} {A B : Prop} : St (if (!decide (V.str i = V.non)) = true then A else B) A := ⟨fun h => i_ndec (fun _ => h) (fun z => nomatch z)⟩
instance st_drfN {i : Addr} {A B : Prop} : St (if decide (V.ref i = V.non) = true then A else B) B := ⟨fun h => i_dec (fun z => nomatch z) (fun _ => h)⟩
instance st_nrfN {i : Addr} {A B : Prop} : St (if (!decide (V.ref i = V.non)) = true then A else B) A := ⟨fun h => i_ndec (fun _ => h) (fun z => nomatch z)⟩
instance st_dblN {i : Bool} {A B : Prop} : St (if decide (V.bl i = V.non) = true then A else B) B := ⟨fun h => i_dec (fun z => nomatch z) (fun _ => h)⟩
instance st_nblN {i : Bool} {A B : Prop} : St (if (!decide (V.bl i = V.non)) = true then A else B) A := ⟨fun h => i_ndec (fun _ => h) (fun z => nomatch z)⟩
instance st_dnnN {A B : Prop} : St (if decide (V.non = V.non) = true then A else B) A := ⟨fun h => i_dec (fun _ => h) (fun z => absurd rfl z)⟩
instance st_nnnN {A B : Prop} : St (if (!decide (V.non = V.non)) = true then A else B) B := ⟨fun h => i_ndec (fun z => absurd rfl z) (fun _ => h)⟩
instance st_ntt {A B : Prop} : St (if (!decide (true = true)) = true then A else B) B := ⟨fun h => i_ndec (fun z => absurd rfl z) (fun _ => h)⟩
instance st_nff {A B : Prop} : St (if (!decide (false = false)) = true then A else B) B := ⟨fun h => i_ndec (fun z => absurd rfl z) (fun _ => h)⟩
instance st_ntf {A B : Prop} : St (if (!decide (true = false)) = true then A else B) A := ⟨fun h => i_ndec (fun _ => h) (fun z => absurd z (by decide))⟩
instance st_nft {A B : Prop} : St (if (!decide (false = true)) = true then A else B) A := ⟨fun h => i_ndec (fun _ => h) (fun z => absurd z (by decide))⟩

instance st_seq {t u : TS} {D : Ends} {σ : L2.St} {H : Hp} : StOf (@i_seq t u D σ H) := ⟨@i_seq t u D σ H⟩
instance st_set {i : Nat} {te : TE} {D : Ends} {σ : L2.St} {H : Hp} : StOf (@i_set i te D σ H) := ⟨@i_set i te D σ H⟩
instance st_asg {te : TE} {g : TG} {D : Ends} {σ : L2.St} {H : Hp} : StOf (@i_asg te g D σ H) := ⟨@i_asg te g D σ H⟩
instance st_c {v : V} {σ : L2.St} {H : Hp} {Q : VK} : StOf (@i_c v σ H Q) := ⟨@i_c v σ H Q⟩
instance st_op {r : R2} {ta tb : TE} {σ : L2.St} {H : Hp} {Q : VK} : StOf (@i_op r ta tb σ H Q) := ⟨@i_op r ta tb σ H Q⟩
instance st_un {r : V → Hp → VK → Prop} {ta : TE} {σ : L2.St} {H : Hp} {Q : VK} : StOf (@i_un r ta σ H Q) := ⟨@i_un r ta σ H Q⟩
instance st_aCons {ta : TE} {tr : TA} {σ : L2.St} {H : Hp} {Q : List V → Hp → Prop} : StOf (@i_aCons ta tr σ H Q) := ⟨@i_aCons ta tr σ H Q⟩
instance st_aNil {σ : L2.St} {H : Hp} {Q : List V → Hp → Prop} : StOf (@i_aNil σ H Q) := ⟨@i_aNil σ H Q⟩
instance st_cb {r : List V → Hp → VK → Prop} {t : TA} {σ : L2.St} {H : Hp} {Q : VK} : StOf (@i_cb r t σ H Q) := ⟨@i_cb r t σ H Q⟩
instance st_call {sp : Sp} {dvs : List V} {E : XK} {t : TA} {σ : L2.St} {H : Hp} {Q : VK} : StOf (@i_call sp dvs E t σ H Q) := ⟨@i_call sp dvs E t σ H Q⟩
instance st_tup {ta : TA} {σ : L2.St} {H : Hp} {Q : VK} : StOf (@i_tup ta σ H Q) := ⟨@i_tup ta σ H Q⟩
instance st_lst {ta : TA} {σ : L2.St} {H : Hp} {Q : VK} : StOf (@i_lst ta σ H Q) := ⟨@i_lst ta σ H Q⟩
instance st_next {D : Ends} {σ : L2.St} {H : Hp} : StOf (@i_next D σ H) := ⟨@i_next D σ H⟩
instance st_ret {te : TE} {D : Ends} {σ : L2.St} {H : Hp} : StOf (@i_ret te D σ H) := ⟨@i_ret te D σ H⟩
instance st_drop {te : TE} {D : Ends} {σ : L2.St} {H : Hp} : StOf (@i_drop te D σ H) := ⟨@i_drop te D σ H⟩
instance st_ifS {c : TT} {t u : TS} {D : Ends} {σ : L2.St} {H : Hp} : StOf (@i_ifS c t u D σ H) := ⟨@i_ifS c t u D σ H⟩
instance st_if {t : TT} {ta tb : TE} {σ : L2.St} {H : Hp} {Q : VK} : StOf (@i_if t ta tb σ H Q) := ⟨@i_if t ta tb σ H Q⟩
instance st_test {t : TE} {σ : L2.St} {H : Hp} {Q : Bool → Hp → Prop} : StOf (@i_test t σ H Q) := ⟨@i_test t σ H Q⟩
instance st_tB {t : TE} {σ : L2.St} {H : Hp} {Q : Bool → Hp → Prop} : StOf (@i_tB t σ H Q) := ⟨@i_tB t σ H Q⟩
instance st_and {t u : TT} {σ : L2.St} {H : Hp} {Q : Bool → Hp → Prop} : StOf (@i_and t u σ H Q) := ⟨@i_and t u σ H Q⟩
instance st_or {t u : TT} {σ : L2.St} {H : Hp} {Q : Bool → Hp → Prop} : StOf (@i_or t u σ H Q) := ⟨@i_or t u σ H Q⟩
instance st_not {t : TT} {σ : L2.St} {H : Hp} {Q : Bool → Hp → Prop} : StOf (@i_not t σ H Q) := ⟨@i_not t σ H Q⟩
instance st_andV {ta tb : TE} {σ : L2.St} {H : Hp} {Q : VK} : StOf (@i_andV ta tb σ H Q) := ⟨@i_andV ta tb σ H Q⟩
instance st_orV {ta tb : TE} {σ : L2.St} {H : Hp} {Q : VK} : StOf (@i_orV ta tb σ H Q) := ⟨@i_orV ta tb σ H Q⟩
instance st_notV {ta : TE} {σ : L2.St} {H : Hp} {Q : VK} : StOf (@i_notV ta σ H Q) := ⟨@i_notV ta σ H Q⟩
instance st_chain {r r' : R2} {ta tb tc : TE} {σ : L2.St} {H : Hp} {Q : VK} : StOf (@i_chain r r' ta tb tc σ H Q) := ⟨@i_chain r r' ta tb tc σ H Q⟩
instance st_slice {r : V → Option Int → Option Int → Hp → VK → Prop} {te : TE} {tl th : TO} {σ : L2.St} {H : Hp} {Q : VK} : StOf (@i_slice r te tl th σ H Q) := ⟨@i_slice r te tl th σ H Q⟩
instance st_noPart {σ : L2.St} {H : Hp} {Q : Option Int → Hp → Prop} : StOf (@i_noPart σ H Q) := ⟨@i_noPart σ H Q⟩
instance st_part {t : TE} {σ : L2.St} {H : Hp} {Q : Option Int → Hp → Prop} : StOf (@i_part t σ H Q) := ⟨@i_part t σ H Q⟩
instance st_for {wi : TI} {g : TG} {tb : TS} {D : Ends} {σ : L2.St} {H : Hp} : StOf (@i_for wi g tb D σ H) := ⟨@i_for wi g tb D σ H⟩
instance st_lc {wi : TI} {g : TG} {tt : TT} {te : TE} {vs : List Nat} {σ : L2.St} {H : Hp} {Q : VK} : StOf (@i_lc wi g tt te vs σ H Q) := ⟨@i_lc wi g tt te vs σ H Q⟩
instance st_yes {σ : L2.St} {H : Hp} {Q : Bool → Hp → Prop} : StOf (@i_yes σ H Q) := ⟨@i_yes σ H Q⟩
instance st_iList {K : PySem.W.Frag} {tl : TE} {σ : L2.St} {H : Hp} {R : It → Hp → Prop} : StOf (@i_iList K tl σ H R) := ⟨@i_iList K tl σ H R⟩
instance st_iTup {K : PySem.W.Frag} {tl : TE} {σ : L2.St} {H : Hp} {R : It → Hp → Prop} : StOf (@i_iTup K tl σ H R) := ⟨@i_iTup K tl σ H R⟩
instance st_iEnum {K : PySem.W.Frag} {ta : TA} {σ : L2.St} {H : Hp} {R : It → Hp → Prop} : StOf (@i_iEnum K ta σ H R) := ⟨@i_iEnum K ta σ H R⟩
instance st_iRng1 {ta : TA} {σ : L2.St} {H : Hp} {R : It → Hp → Prop} : StOf (@i_iRng1 ta σ H R) := ⟨@i_iRng1 ta σ H R⟩
instance st_iRng2 {ta : TA} {σ : L2.St} {H : Hp} {R : It → Hp → Prop} : StOf (@i_iRng2 ta σ H R) := ⟨@i_iRng2 ta σ H R⟩
instance st_gSub {to ti : TE} {t : TSet} {v : V} {σ : L2.St} {H : Hp} {Q : L2.St → Hp → Prop} : StOf (@i_gSub to ti t v σ H Q) := ⟨@i_gSub to ti t v σ H Q⟩
instance st_gCons {t : TG} {u : TGs} {v : V} {r : List V} {σ : L2.St} {H : Hp} {Q : L2.St → Hp → Prop} : StOf (@i_gCons t u v r σ H Q) := ⟨@i_gCons t u v r σ H Q⟩
instance st_gNil {σ : L2.St} {H : Hp} {Q : L2.St → Hp → Prop} : StOf (@i_gNil σ H Q) := ⟨@i_gNil σ H Q⟩
instance st_rI0 {g : Int → Int → V} {i j : Int} {H : Hp} {Q : VK} : StOf (@i_rI0 g i j H Q) := ⟨@i_rI0 g i j H Q⟩
instance st_rU {g : Int → V} {i : Int} {H : Hp} {Q : VK} : StOf (@i_rU g i H Q) := ⟨@i_rU g i H Q⟩
instance st_eqI {i j : Int} {H : Hp} {Q : VK} : StOf (@i_eqI i j H Q) := ⟨@i_eqI i j H Q⟩
instance st_neI {i j : Int} {H : Hp} {Q : VK} : StOf (@i_neI i j H Q) := ⟨@i_neI i j H Q⟩
instance st_eqB {i j : Bool} {H : Hp} {Q : VK} : StOf (@i_eqB i j H Q) := ⟨@i_eqB i j H Q⟩
instance st_neB {i j : Bool} {H : Hp} {Q : VK} : StOf (@i_neB i j H Q) := ⟨@i_neB i j H Q⟩
instance st_eqS {i j : Str} {H : Hp} {Q : VK} : StOf (@i_eqS i j H Q) := ⟨@i_eqS i j H Q⟩
instance st_neS {i j : Str} {H : Hp} {Q : VK} : StOf (@i_neS i j H Q) := ⟨@i_neS i j H Q⟩
instance st_isN {v : V} {H : Hp} {Q : VK} : StOf (@i_isN v H Q) := ⟨@i_isN v H Q⟩
instance st_blI {b : Bool} {R : Bool → Prop} : StOf (@i_blI b R) := ⟨@i_blI b R⟩
instance st_iteNT {A B : Prop} : StOf (@i_iteNT A B) := ⟨@i_iteNT A B⟩
instance st_iteNF {A B : Prop} : StOf (@i_iteNF A B) := ⟨@i_iteNF A B⟩
instance st_p12 {H : Hp} {Q : VK} : StOf (@i_p12 H Q) := ⟨@i_p12 H Q⟩
instance st_rAbs {i : Int} {H : Hp} {Q : VK} : StOf (@i_rAbs i H Q) := ⟨@i_rAbs i H Q⟩
instance st_intB {k : Bool} {H : Hp} {Q : VK} : StOf (@i_intB k H Q) := ⟨@i_intB k H Q⟩
instance st_rMx2 {i j : Int} {H : Hp} {Q : VK} : StOf (@i_rMx2 i j H Q) := ⟨@i_rMx2 i j H Q⟩
instance st_rMn2 {i j : Int} {H : Hp} {Q : VK} : StOf (@i_rMn2 i j H Q) := ⟨@i_rMn2 i j H Q⟩
instance st_isBl {a b : Bool} {H : Hp} {Q : VK} : StOf (@i_isBl a b H Q) := ⟨@i_isBl a b H Q⟩
instance st_notBl {a b : Bool} {H : Hp} {Q : VK} : StOf (@i_notBl a b H Q) := ⟨@i_notBl a b H Q⟩
instance st_notN {v : V} {H : Hp} {Q : VK} : StOf (@i_notN v H Q) := ⟨@i_notN v H Q⟩
instance st_bm {K : PySem.W.Frag} {T : String} {r : V → List V → Hp → VK → Prop} {to : TE} {t : TA} {σ : L2.St} {H : Hp} {Q : VK} : StOf (@i_bm K T r to t σ H Q) := ⟨@i_bm K T r to t σ H Q⟩
instance st_bm0 {K : PySem.W.Frag} {T : String} {r : V → List V → Hp → VK → Prop} {to : TE} {σ : L2.St} {H : Hp} {Q : VK} : StOf (@i_bm0 K T r to σ H Q) := ⟨@i_bm0 K T r to σ H Q⟩
instance st_fldT {K : PySem.W.Frag} {ta : TE} {f : Str} {σ : L2.St} {H : Hp} {Q : VK} : StOf (@i_fldT K ta f σ H Q) := ⟨@i_fldT K ta f σ H Q⟩
instance st_sFld {K : PySem.W.Frag} {ta tv : TE} {f : Str} {D : Ends} {σ : L2.St} {H : Hp} : StOf (@i_sFld K ta tv f D σ H) := ⟨@i_sFld K ta tv f D σ H⟩
instance st_par {i j : Nat} {ta : TA} {D : Ends} {σ : L2.St} {H : Hp} : StOf (@i_par i j ta D σ H) := ⟨@i_par i j ta D σ H⟩
instance st_sFldAug {K : PySem.W.Frag} {ta tv : TE} {rd : V → V → Hp → VK → Prop} {f : Str} {D : Ends} {σ : L2.St} {H : Hp} : StOf (@i_sFldAug K ta tv rd f D σ H) := ⟨@i_sFldAug K ta tv rd f D σ H⟩
instance st_rAdd {i j : Int} {H : Hp} {Q : VK} : StOf (@i_rAdd i j H Q) := ⟨@i_rAdd i j H Q⟩
instance st_meth {C : Addr} {m : Str} {sp : Sp} {dvs : List V} {E : XK} {ta : TE} {t : TA} {σ : L2.St} {H : Hp} {Q : VK} : StOf (@i_meth C m sp dvs E ta t σ H Q) := ⟨@i_meth C m sp dvs E ta t σ H Q⟩
instance st_make {C : Addr} {sp : Sp} {dvs : List V} {E : XK} {t : TA} {σ : L2.St} {H : Hp} {Q : VK} : StOf (@i_make C sp dvs E t σ H Q) := ⟨@i_make C sp dvs E t σ H Q⟩
instance st_dnewK {σ : L2.St} {H : Hp} {Q : VK} : StOf (@i_dnewK σ H Q) := ⟨@i_dnewK σ H Q⟩
instance st_pairC {tk tv : TE} {r : List (TE × TE)} {σ : L2.St} {H : Hp} {Q : List (V × V) → Hp → Prop} : StOf (@i_pairC tk tv r σ H Q) := ⟨@i_pairC tk tv r σ H Q⟩
instance st_pairN {σ : L2.St} {H : Hp} {Q : List (V × V) → Hp → Prop} : StOf (@i_pairN σ H Q) := ⟨@i_pairN σ H Q⟩
instance st_dget {td ty : TE} {σ : L2.St} {H : Hp} {Q : VK} : StOf (@i_dget td ty σ H Q) := ⟨@i_dget td ty σ H Q⟩
instance st_din {td ty : TE} {σ : L2.St} {H : Hp} {Q : VK} : StOf (@i_din td ty σ H Q) := ⟨@i_din td ty σ H Q⟩
instance st_dnotin {td ty : TE} {σ : L2.St} {H : Hp} {Q : VK} : StOf (@i_dnotin td ty σ H Q) := ⟨@i_dnotin td ty σ H Q⟩
instance st_dput {td ty tv : TE} {D : Ends} {σ : L2.St} {H : Hp} : StOf (@i_dput td ty tv D σ H) := ⟨@i_dput td ty tv D σ H⟩
instance st_dget2 {td ty tx : TE} {σ : L2.St} {H : Hp} {Q : VK} : StOf (@i_dget2 td ty tx σ H Q) := ⟨@i_dget2 td ty tx σ H Q⟩
instance st_listVals {te : TE} {σ : L2.St} {H : Hp} {Q : VK} : StOf (@i_listVals te σ H Q) := ⟨@i_listVals te σ H Q⟩
instance st_maxPL {K : PySem.W.Frag} {Pt : Addr} {q : Str} {te : TE} {σ : L2.St} {H : Hp} {Q : VK} : StOf (@i_maxPL K Pt q te σ H Q) := ⟨@i_maxPL K Pt q te σ H Q⟩
instance st_maxPLV {K : PySem.W.Frag} {Pt : Addr} {q : Str} {te : TE} {σ : L2.St} {H : Hp} {Q : VK} : StOf (@i_maxPLV K Pt q te σ H Q) := ⟨@i_maxPLV K Pt q te σ H Q⟩
instance st_dget1 {td ty : TE} {σ : L2.St} {H : Hp} {Q : VK} : StOf (@i_dget1 td ty σ H Q) := ⟨@i_dget1 td ty σ H Q⟩
instance st_dpop1 {td ty : TE} {σ : L2.St} {H : Hp} {Q : VK} : StOf (@i_dpop1 td ty σ H Q) := ⟨@i_dpop1 td ty σ H Q⟩
instance st_inVals {ta td : TE} {σ : L2.St} {H : Hp} {Q : VK} : StOf (@i_inVals ta td σ H Q) := ⟨@i_inVals ta td σ H Q⟩
instance st_iValsE {td : TE} {σ : L2.St} {H : Hp} {R : It → Hp → Prop} : StOf (@i_iValsE td σ H R) := ⟨@i_iValsE td σ H R⟩
instance st_iItemsE {td : TE} {σ : L2.St} {H : Hp} {R : It → Hp → Prop} : StOf (@i_iItemsE td σ H R) := ⟨@i_iItemsE td σ H R⟩
instance st_iKeysE {td : TE} {σ : L2.St} {H : Hp} {R : It → Hp → Prop} : StOf (@i_iKeysE td σ H R) := ⟨@i_iKeysE td σ H R⟩
instance st_slice3 {r : V → Option Int → Option Int → Option Int → Hp → VK → Prop} {te : TE} {tl th ts : TO} {σ : L2.St} {H : Hp} {Q : VK} : StOf (@i_slice3 r te tl th ts σ H Q) := ⟨@i_slice3 r te tl th ts σ H Q⟩
instance st_iZip {K : PySem.W.Frag} {ta : TA} {σ : L2.St} {H : Hp} {R : It → Hp → Prop} : StOf (@i_iZip K ta σ H R) := ⟨@i_iZip K ta σ H R⟩
instance st_someI {i : Int} {R : Int → Prop} : StOf (@i_someI i R) := ⟨@i_someI i R⟩
instance st_m1 {r : V → List V → Hp → VK → Prop} {to te : TE} {σ : L2.St} {H : Hp} {Q : VK} : StOf (@i_m1 r to te σ H Q) := ⟨@i_m1 r to te σ H Q⟩
instance st_strI {a : Str} {R : Prop} : StOf (@i_strI a R) := ⟨@i_strI a R⟩
instance st_listRg {te : TE} {σ : L2.St} {H : Hp} {Q : VK} : StOf (@i_listRg te σ H Q) := ⟨@i_listRg te σ H Q⟩
instance st_inSg {c : Nat} {z : Str} {H : Hp} {Q : VK} : StOf (@i_inSg c z H Q) := ⟨@i_inSg c z H Q⟩
instance st_starts {a b : Str} {H : Hp} {Q : VK} : StOf (@i_starts a b H Q) := ⟨@i_starts a b H Q⟩
instance st_iStr {te : TE} {σ : L2.St} {H : Hp} {R : It → Hp → Prop} : StOf (@i_iStr te σ H R) := ⟨@i_iStr te σ H R⟩
/-! ### which rule may be asked -/
class TgA (g : Prop) : Prop where
  on_ : True
theorem TgA.on {g : Prop} [TgA g] (h : g) : g := h
set_option autoImplicit true in
instance : TgA (FS.NewT a b c) := ⟨trivial⟩
set_option autoImplicit true in
instance : TgA (FS.NewL a b c) := ⟨trivial⟩
set_option autoImplicit true in
instance : TgA (FS.NewO a b c) := ⟨trivial⟩
set_option autoImplicit true in
instance : TgA (L2.tDisp a b c d) := ⟨trivial⟩
set_option autoImplicit true in
instance : TgA (FS.DispEnd a b c d) := ⟨trivial⟩
class TgB (g : Prop) : Prop where
  on_ : True
theorem TgB.on {g : Prop} [TgB g] (h : g) : g := h
set_option autoImplicit true in
instance : TgB (L2.rIxL a b c d e) := ⟨trivial⟩
set_option autoImplicit true in
instance : TgB (L2.rIxT a b c d e) := ⟨trivial⟩
set_option autoImplicit true in
instance : TgB (L2.gTup a b c d e f g) := ⟨trivial⟩
set_option autoImplicit true in
instance : TgB (L2.rSlL a b c d e f) := ⟨trivial⟩
set_option autoImplicit true in
instance : TgB (L2.rSlA a b c d e f) := ⟨trivial⟩
set_option autoImplicit true in
instance : TgB (FS.rSl3 a b c d e f g) := ⟨trivial⟩
set_option autoImplicit true in
instance : TgB (FS.rLen a b c d) := ⟨trivial⟩
set_option autoImplicit true in
instance : TgB (FS.rListOf a b c d) := ⟨trivial⟩
set_option autoImplicit true in
instance : TgB (FS.rTupOf a b c d) := ⟨trivial⟩
set_option autoImplicit true in
instance : TgB (L2.tyV a b c d ∧ e) := ⟨trivial⟩
set_option autoImplicit true in
instance : TgB (L2.rIn a b c d e f) := ⟨trivial⟩
class TgC (g : Prop) : Prop where
  on_ : True
theorem TgC.on {g : Prop} [TgC g] (h : g) : g := h
set_option autoImplicit true in
instance : TgC (FS.FldAt a b c d e) := ⟨trivial⟩
set_option autoImplicit true in
instance : TgC (FS.FldPut a b c d e f) := ⟨trivial⟩
set_option autoImplicit true in
instance : TgC (FS.FldAug a b c d e) := ⟨trivial⟩
set_option autoImplicit true in
instance : TgC (FS.FldBack a b c d e f) := ⟨trivial⟩
set_option autoImplicit true in
instance : TgC (FS.MethAt a b c d e) := ⟨trivial⟩
class TgD (g : Prop) : Prop where
  on_ : True
theorem TgD.on {g : Prop} [TgD g] (h : g) : g := h
set_option autoImplicit true in
instance : TgD (L2.rAppend a b c d) := ⟨trivial⟩
set_option autoImplicit true in
instance : TgD (L2.rExtend a b c d) := ⟨trivial⟩
set_option autoImplicit true in
instance : TgD (L2.rReverse a b c d) := ⟨trivial⟩
set_option autoImplicit true in
instance : TgD (L2.rClear a b c d) := ⟨trivial⟩
set_option autoImplicit true in
instance : TgD (L2.rSetL a b c d e) := ⟨trivial⟩
set_option autoImplicit true in
instance : TgD (FS.Par2 a b c d e f) := ⟨trivial⟩
set_option autoImplicit true in
instance : TgD (FS.rLenD a b c) := ⟨trivial⟩
set_option autoImplicit true in
instance : TgD (FS.rValsL a b c) := ⟨trivial⟩
class TgE (g : Prop) : Prop where
  on_ : True
theorem TgE.on {g : Prop} [TgE g] (h : g) : g := h
set_option autoImplicit true in
instance : TgE (L2.rI a b c d e f) := ⟨trivial⟩
set_option autoImplicit true in
instance : TgE (FS.rAddS a b c d) := ⟨trivial⟩
set_option autoImplicit true in
instance : TgE (FS.rLenStr a b c) := ⟨trivial⟩
set_option autoImplicit true in
instance : TgE (L2.rSlS a b c d e) := ⟨trivial⟩
set_option autoImplicit true in
instance : TgE (L2.tChain a b c d e f g h) := ⟨trivial⟩
set_option autoImplicit true in
instance : TgE (if decide (PySem.Str.ofString a = PySem.Str.ofString b) = true then c else d) := ⟨trivial⟩
set_option autoImplicit true in
instance : TgE (L2.rIsi a b c d) := ⟨trivial⟩
set_option autoImplicit true in
instance : TgE (L2.rIsiT a b c d) := ⟨trivial⟩
class TgF (g : Prop) : Prop where
  on_ : True
theorem TgF.on {g : Prop} [TgF g] (h : g) : g := h
set_option autoImplicit true in
instance : TgF (L2.rCat a b c d) := ⟨trivial⟩
set_option autoImplicit true in
instance : TgF (FS.rCatL a b c d e) := ⟨trivial⟩
set_option autoImplicit true in
instance : TgF (L2.rCatT a b c d e) := ⟨trivial⟩
set_option autoImplicit true in
instance : TgF (L2.rCatA a b c d e) := ⟨trivial⟩
end FS

set_option Elab.async false
set_option maxRecDepth 100000
set_option linter.all false
/-! FsCopy: dict(pairs), dict(dict); comprehensions over a locked dict whose turns make pieces. -/
namespace FS
open PySem PySem.Spec PyProof.Rows L2 Evl
def rDictP (K : PySem.W.Frag) : List V → Hp → VK → Prop := fun xs H Q => ∃ (a : Addr) (ps : List Addr) (kvs : List (Key × V)), xs = [.ref a] ∧ SqL K H a (ps.map V.ref) ∧ Paired (fun p kv => SqT K H p [kV kv.1, kv.2]) ps kvs ∧ NewO (.dK (mergeK [] kvs)) H Q
theorem dictP {X : Cx} {K : PySem.W.Frag} (h : X.K = K) (hc : X.calm = true) : CallR X (.type "dict") (rDictP K) := by
  subst h
  exact call_dictP hc
theorem i_dictP {K : PySem.W.Frag} {H : Hp} {a : Addr} {ps : List Addr} {kvs : List (Key × V)} {Q : VK} (h : SqL K H a (ps.map V.ref)) (hp : Paired (fun p (kv : Key × V) => SqT K H p [kV kv.1, kv.2]) ps kvs) (q : NewO (.dK (mergeK [] kvs)) H Q) : rDictP K [.ref a] H Q := ⟨a, ps, kvs, rfl, h, hp, q⟩
theorem merge_keep {kvs : List (Key × V)} {k : Key} {o : Option V} (h : ∀ p ∈ kvs, p.1 = k → some p.2 = o) : ∀ {acc : List (Key × V)}, valV acc k = o → valV (mergeK acc kvs) k = o := by
  induction kvs with
  | nil => intro acc e; exact e
  | cons p r ih =>
    intro acc e
    show valV (mergeK (putK acc p.1 p.2) r) k = o
    refine ih (fun q hq => h q (.tail _ hq)) ?_
    rw [L2.valV_put]
    by_cases hk : k = p.1
    · rw [if_pos hk]
      exact h p (.head _) hk.symm
    · rw [if_neg hk]
      exact e
theorem merge_some {kvs : List (Key × V)} {k : Key} {v : V} (h : ∀ p ∈ kvs, p.1 = k → p.2 = v) (hm : ∃ p ∈ kvs, p.1 = k) : ∀ {acc : List (Key × V)}, valV (mergeK acc kvs) k = some v := by
  induction kvs with
  | nil => obtain ⟨p, hp, _⟩ := hm; cases hp
  | cons p r ih =>
    intro acc
    show valV (mergeK (putK acc p.1 p.2) r) k = some v
    by_cases hk : p.1 = k
    · refine merge_keep (fun q hq e => congrArg some (h q (.tail _ hq) e)) ?_
      rw [L2.valV_put, if_pos hk.symm, h p (.head _) hk]
    · refine ih (fun q hq => h q (.tail _ hq)) ?_
      obtain ⟨q, hq, e⟩ := hm
      rcases List.mem_cons.mp hq with rfl | hq
      · exact absurd e hk
      · exact ⟨q, hq, e⟩
theorem merge_none {kvs : List (Key × V)} {k : Key} (h : ∀ p ∈ kvs, p.1 ≠ k) : valV (mergeK [] kvs) k = none := merge_keep (fun p hp e => absurd e (h p hp)) L2.valV_nil
/-- a copy -/
def rDictD (K : PySem.W.Frag) : List V → Hp → VK → Prop := fun xs H Q => ∃ (a : Addr) (kvs : List (Key × V)), xs = [.ref a] ∧ H a = some (.dK kvs) ∧ NewO (.dK kvs) H Q
theorem dictD {X : Cx} {K : PySem.W.Frag} (_ : X.K = K) : CallR X (.type "dict") (rDictD K) := by
  intro pins s σ H vs us Q I r h
  obtain ⟨a, kvs, rfl, ha, q⟩ := h
  exact call_dictD pins s σ H _ us Q I r ⟨a, kvs, rfl, .inl ha, q⟩
theorem i_dictD {K : PySem.W.Frag} {P H : Hp} {cs r : List Ch} {a : Addr} {kvs : List (Key × V)} {Q : VK} (m : Mem P cs H) (s : Sel cs (pt a (.dK kvs)) r) (q : NewO (.dK kvs) H Q) : rDictD K [.ref a] H Q := ⟨a, kvs, rfl, m.rd s, q⟩
theorem merge_new {more : List (Key × V)} : ∀ {kvs : List (Key × V)}, ((kvs ++ more).map (·.1)).Nodup → mergeK kvs more = kvs ++ more := by
  induction more with
  | nil => intro kvs _; exact (List.append_nil kvs).symm
  | cons p r ih =>
    intro kvs nd
    show mergeK (putK kvs p.1 p.2) r = _
    have hp : ∀ q ∈ kvs, q.1 ≠ p.1 := fun q hq e => by
      rw [List.map_append, List.nodup_append] at nd
      exact nd.2.2 q.1 (List.mem_map_of_mem hq) p.1 (by simp) e
    rw [FS.putK_new hp, ih (by simpa using nd)]
    simp
theorem merge_self {kvs : List (Key × V)} (nd : (kvs.map (·.1)).Nodup) : mergeK [] kvs = kvs := merge_new (kvs := []) nd
theorem l_lcDM {J : It} {n : Nat} {P : Hp} {cs : List Ch} {d : Addr} {o : Obj} {kvs : List (Key × V)} {Y : Nat → Hp → V → Hp → Prop} {g : TG} {tt : TT} {te : TE} {vs : List Nat} {σ : L2.St} {H : Hp} {Q : VK}
    (w : Walk J n (fun H => H d = some (.frz o (.dK kvs))) Y) (m : Mem P (pt d (.frz o (.dK kvs)) :: cs) H) (R : Nat → List V → List Ch → Hp → Prop) (h0 : R 0 [] cs P)
    (hs : ∀ i x P' H' H1 acc D cs', i < n → Y i H1 x H' → Ex P P' → Mem P' (pt D (.lst acc) :: pt d (.frz o (.dK kvs)) :: cs') H1 → R i acc cs' P' → ∀ (Kt : VK) (Kf : Hp → Prop),
      (∀ y P4 H4 cs4, Ex P' P4 → Mem P4 (pt D (.lst acc) :: pt d (.frz o (.dK kvs)) :: cs4) H4 → acc.length < 100000 → R (i + 1) (acc ++ [y]) cs4 P4 → Kt y H4) →
      (∀ P4 H4 cs4, Ex P' P4 → Mem P4 (pt D (.lst acc) :: pt d (.frz o (.dK kvs)) :: cs4) H4 → R (i + 1) acc cs4 P4 → Kf H4) →
      g x (wipe σ vs) H' fun σ2 H2 => wipe σ2 vs = wipe σ vs ∧ tt σ2 H2 fun b H3 => if b = true then te σ2 H3 Kt else Kf H3)
    (hd : ∀ D P' H' acc cs', Ex P P' → Mem P' (pt D (.lst acc) :: pt d (.frz o (.dK kvs)) :: cs') H' → R n acc cs' P' → Q (.ref D) H') : tLcD J g tt te vs σ H Q := fun D hD =>
  lc_it (Qd := Q (.ref D)) w (fun i H' => ∃ P' acc cs', Ex P P' ∧ Mem P' (pt D (.lst acc) :: pt d (.frz o (.dK kvs)) :: cs') H' ∧ R i acc cs' P') ⟨P, [], cs, Ex.refl _, m.new hD, h0⟩ (fun i H' _ ⟨P', acc, cs', e, m', _⟩ => m'.rd (.s .z))
    (fun i x H1 H' hi ⟨P', acc, cs', e, m', r⟩ y => hs i x P' H' H1 acc D cs' hi y e m' r _ _ (fun y P4 H4 cs4 e4 m4 l4 r4 => ⟨acc, m4.rd0, sz_lt l4, P4, _, cs4, e.trans e4, m4.put0, r4⟩) (fun P4 H4 cs4 e4 m4 r4 => ⟨P4, acc, cs4, e.trans e4, m4, r4⟩))
    (fun H' ⟨P', acc, cs', e, m', r⟩ => hd D P' H' acc cs' e m' r)
section
variable {P : Hp} {cs : List Ch} {d : Addr} {o : Obj} {kvs : List (Key × V)} {td : TE} {g : TG} {tt : TT} {te : TE} {vs : List Nat} {σ : L2.St} {H : Hp} {Q : VK}
theorem l_lcIM (m : Mem P (pt d (.frz o (.dK kvs)) :: cs) H) (R : Nat → List V → List Ch → Hp → Prop) (h0 : R 0 [] cs P) (hR : ∀ i acc cs' P1 P2, Ex P1 P2 → R i acc cs' P1 → R i acc cs' P2)
    (hs : ∀ i k x P' H' acc D T cs', kvs[i]? = some (k, x) → Ex P P' → Mem P' (pt D (.lst acc) :: pt d (.frz o (.dK kvs)) :: cs') H' → P' T = some (.tup [kV k, x]) → R i acc cs' P' → ∀ (Kt : VK) (Kf : Hp → Prop),
      (∀ y P4 H4 cs4, Ex P' P4 → Mem P4 (pt D (.lst acc) :: pt d (.frz o (.dK kvs)) :: cs4) H4 → acc.length < 100000 → R (i + 1) (acc ++ [y]) cs4 P4 → Kt y H4) →
      (∀ P4 H4 cs4, Ex P' P4 → Mem P4 (pt D (.lst acc) :: pt d (.frz o (.dK kvs)) :: cs4) H4 → R (i + 1) acc cs4 P4 → Kf H4) →
      g (.ref T) (wipe σ vs) H' fun σ2 H2 => wipe σ2 vs = wipe σ vs ∧ tt σ2 H2 fun b H3 => if b = true then te σ2 H3 Kt else Kf H3)
    (hd : ∀ D P' H' acc cs', Ex P P' → Mem P' (pt D (.lst acc) :: pt d (.frz o (.dK kvs)) :: cs') H' → R kvs.length acc cs' P' → Q (.ref D) H') :
    ∃ d' o' kvs', V.ref d = .ref d' ∧ H d' = some (.frz o' (.dK kvs')) ∧ tLcD (Iti d' o' kvs') g tt te vs σ H Q :=
  ⟨d, o, kvs, rfl, m.rd0, l_lcDM walk_items m R h0 (fun i x P' H' H1 acc D cs' hi y e m' r Kt Kf hKt hKf => by
    obtain ⟨T, k1, v1, rfl, h2, rfl, h4, h5⟩ := y
    obtain ⟨p, hp, rfl⟩ := Option.map_eq_some_iff.mp h4
    have h6 : kvs[i]?.map Prod.snd = some v1 := h5
    rw [hp] at h6
    obtain rfl : p.2 = v1 := by simpa using h6
    have f := m'.newP (o := .tup [kV p.1, p.2]) h2
    exact hs i p.1 p.2 _ _ acc D T cs' hp (e.trans f.2) f.1 upd_same (hR _ _ _ _ _ f.2 r) Kt Kf (fun y P4 H4 cs4 e4 => hKt y P4 H4 cs4 (f.2.trans e4)) (fun P4 H4 cs4 e4 => hKf P4 H4 cs4 (f.2.trans e4))) hd⟩
end
end FS

set_option Elab.async false
set_option maxRecDepth 100000
set_option linter.all false
/-! FsFor: a for over a dict that is locked; dicts whose values stand for others. -/
namespace FS
open PySem PySem.Spec PyProof.Rows L2 Evl LamX
def LockNx (d : Addr) (od : Obj) (u : HO) (N : L2.St → Hp → Prop) : L2.St → Hp → Prop := fun σ H => H d = some (.frz od u) ∧ N σ (upd H d u)
def LockEnds (d : Addr) (od : Obj) (u : HO) (D : Ends) : Ends := ⟨LockNx d od u D.nx, LockBack d od u D.rt, LockNx d od u D.bk, LockNx d od u D.ct⟩
theorem i_lockS {P H : Hp} {cs r : List Ch} {d : Addr} {kvs : List (Key × V)} {t : TS} {D : Ends} {σ : L2.St} (m : Mem P cs H) (s : Sel cs (pt d (.dK kvs)) r)
    (h : ∀ od H', Mem P (pt d (.frz od (.dK kvs)) :: r) H' → t (LockEnds d od (.dK kvs) D) σ H') : tLock t D σ H :=
  ⟨d, _, m.rd s, trivial, fun od => h od _ ((m.sel s).put0 (o' := .frz od (.dK kvs)))⟩
theorem i_lockNx {P H : Hp} {cs r : List Ch} {d : Addr} {od : Obj} {u : HO} {N : L2.St → Hp → Prop} {σ : L2.St} (m : Mem P cs H) (s : Upd cs d (.frz od u) u r) (q : ∀ H', Mem P r H' → N σ H') : LockNx d od u N σ H := ⟨s.rd m, q _ (m.put s)⟩
theorem l_forK {d : Addr} {o : Obj} {kvs : List (Key × V)} {g : TG} {tb : TS} {D : Ends} {σ : L2.St} {H : Hp} (hq : H d = some (.frz o (.dK kvs))) (Pv : Nat → L2.St → Hp → Prop) (h0 : Pv 0 σ H) (hl : ∀ i σ H, i ≤ kvs.length → Pv i σ H → H d = some (.frz o (.dK kvs)))
    (hs : ∀ i k x σ H, kvs[i]? = some (k, x) → Pv i σ H → g (kV k) σ H fun σ2 H2 => tb { D with nx := Pv (i + 1), ct := Pv (i + 1), bk := D.nx } σ2 H2) (hd : ∀ σ H, Pv kvs.length σ H → D.nx σ H) :
    ∃ d' o', V.ref d = .ref d' ∧ ((∃ kvs', H d' = some (.frz o' (.dK kvs')) ∧ ∃ W : Nat → Nat → L2.St → Hp → Prop, (∃ m, W 0 m σ H) ∧ ∀ i m σ H, W i m σ H →
      ((Itk d' o' kvs').stop i H ∧ D.nx σ H) ∨ ((Itk d' o' kvs').go i H ∧ ∃ N : L2.St → Hp → Prop, (∀ σ' H', N σ' H' → ∃ m', m' < m ∧ W (i + 1) m' σ' H') ∧ ∀ x H', (Itk d' o' kvs').yld i H x H' → g x σ H' fun σ2 H2 => tb { D with nx := N, ct := N, bk := D.nx } σ2 H2)) ∨
      ∃ kvs', H d' = some (.frz o' (.dT kvs')) ∧ ∃ W : Nat → Nat → L2.St → Hp → Prop, (∃ m, W 0 m σ H) ∧ ∀ i m σ H, W i m σ H →
      ((Itkt d' o' kvs').stop i H ∧ D.nx σ H) ∨ ((Itkt d' o' kvs').go i H ∧ ∃ N : L2.St → Hp → Prop, (∀ σ' H', N σ' H' → ∃ m', m' < m ∧ W (i + 1) m' σ' H') ∧ ∀ x H', (Itkt d' o' kvs').yld i H x H' → g x σ H' fun σ2 H2 => tb { D with nx := N, ct := N, bk := D.nx } σ2 H2)) :=
  ⟨d, o, rfl, .inl ⟨kvs, hq, for_it walk_keys Pv h0 hl (fun i x σ H H' hi p y => by
    obtain ⟨rfl, k, v, hk, rfl⟩ := y
    exact hs i k v σ _ hk p) hd⟩⟩
/-! ### dicts whose values stand for others -/
section
variable {κ α : Type} [DecidableEq κ] {g : κ → Key} {F : V → α → Prop}
def KR (g : κ → Key) (F : V → α → Prop) (kv : Key × V) (p : κ × α) : Prop := kv.1 = g p.1 ∧ F kv.2 p.2
theorem kr_get (hg : ∀ a b, g a = g b → a = b) : ∀ {kvs : List (Key × V)} {l : List (κ × α)}, Paired (KR g F) kvs l → ∀ k, (valV kvs (g k) = none ∧ aget l k = none) ∨ ∃ v a, valV kvs (g k) = some v ∧ aget l k = some a ∧ F v a
  | _, _, .nil, k => .inl ⟨rfl, rfl⟩
  | _, _, .cons (a := p) (b := d) q r, k => by
    rw [aget_cons]
    obtain ⟨a1, a2⟩ := q
    by_cases e : d.1 = k
    · rw [if_pos e]
      exact .inr ⟨p.2, d.2, valV_pos (by rw [a1, e]), rfl, a2⟩
    · rw [if_neg e, valV_neg (by rw [a1]; exact fun z => e (hg _ _ z))]
      exact kr_get hg r k
theorem kr_any (hg : ∀ a b, g a = g b → a = b) {k : κ} : ∀ {kvs : List (Key × V)} {l : List (κ × α)}, Paired (KR g F) kvs l → (kvs.any fun kv => decide (kv.1 = g k)) = l.any fun p => decide (p.1 = k)
  | _, _, .nil => rfl
  | _, _, .cons (a := p) (b := d) q r => by
    rw [List.any_cons, List.any_cons, kr_any hg r, q.1]
    congr 1
    by_cases e : d.1 = k
    · simp [e]
    · have : g d.1 ≠ g k := fun z => e (hg _ _ z)
      simp [e, this]
theorem kr_map (hg : ∀ a b, g a = g b → a = b) {k : κ} {v : V} {d : α} (ht : F v d) : ∀ {kvs : List (Key × V)} {l : List (κ × α)}, Paired (KR g F) kvs l → Paired (KR g F) (kvs.map fun kv => if kv.1 = g k then (kv.1, v) else kv) (l.map fun p => if p.1 = k then (p.1, d) else p)
  | _, _, .nil => .nil
  | _, _, .cons (a := p) (b := e) q r => by
    rw [List.map_cons, List.map_cons]
    refine .cons ?_ (kr_map hg ht r)
    by_cases h : e.1 = k
    · have h2 : p.1 = g k := by rw [q.1, h]
      rw [if_pos h2, if_pos h]
      exact ⟨q.1, ht⟩
    · have h2 : p.1 ≠ g k := by rw [q.1]; exact fun z => h (hg _ _ z)
      rw [if_neg h2, if_neg h]
      exact q
theorem kr_put (hg : ∀ a b, g a = g b → a = b) {k : κ} {v : V} {d : α} (ht : F v d) {kvs : List (Key × V)} {l : List (κ × α)} (h : Paired (KR g F) kvs l) : Paired (KR g F) (putK kvs (g k) v) (aset l k d) := by
  unfold putK aset
  rw [kr_any hg h]
  split
  · exact kr_map hg ht h
  · exact pair_snoc h ⟨rfl, ht⟩
theorem aget_asetG (l : List (κ × α)) (k j : κ) (v : α) : aget (aset l k v) j = if k = j then some v else aget l j := by
  unfold aset
  split
  · rename_i h
    induction l with
    | nil => simp at h
    | cons p r ih =>
      rw [List.map_cons, aget_cons, aget_cons]
      by_cases hp : p.1 = k
      · rw [if_pos hp]
        by_cases hj : k = j
        · rw [if_pos hj, if_pos (hp.trans hj)]
        · rw [if_neg hj, if_neg (fun z => hj (hp.symm.trans z)), if_neg (fun z => hj (hp.symm.trans z))]
          by_cases h2 : (r.any fun p => decide (p.1 = k)) = true
          · rw [ih h2, if_neg hj]
          · have e : (r.map fun p => if p.1 = k then (p.1, v) else p) = r := amap_keep fun z => h2 (by
              obtain ⟨a, ha⟩ := mem_keys.mp z
              exact List.any_eq_true.mpr ⟨_, ha, by simp⟩)
            rw [e]
      · rw [if_neg hp]
        have h2 : (r.any fun p => decide (p.1 = k)) = true := by
          rw [List.any_cons, decide_eq_false hp, Bool.false_or] at h
          exact h
        by_cases hj : p.1 = j
        · rw [if_pos hj, if_pos hj, if_neg (fun z => hp (hj.trans z.symm))]
        · rw [if_neg hj, if_neg hj, ih h2]
  · rename_i h
    induction l with
    | nil => rw [List.nil_append, aget_cons]
    | cons p r ih =>
      rw [List.any_cons, Bool.or_eq_true, not_or] at h
      rw [List.cons_append, aget_cons, aget_cons]
      by_cases hj : p.1 = j
      · rw [if_pos hj, if_pos hj, if_neg (fun z => h.1 (by simp [hj, z]))]
      · rw [if_neg hj, if_neg hj, ih h.2]
end
end FS

set_option Elab.async false
set_option maxRecDepth 100000
set_option linter.all false
/-! FsTup: dicts keyed by tuples. -/
namespace FS
open PySem PySem.Spec PyProof.Rows L2 Evl LamX
section
variable {X : Cx} {es : List Expr} {ta : TA} {kk : Nat} {pos : Pos}
/-- a tuple that is a key -/
def tTupK (ta : TA) : TE := tTup ta
theorem pe_tupK (h : PA X es ta) : PE X (.Tuple es kk pos) (tTupK ta) := pe_tup h
end
def NewK (xs : List V) (H : Hp) (Q : VK) : Prop := NewT xs H Q
theorem i_tupK {ta : TA} {σ : L2.St} {H : Hp} {Q : VK} (h : ta σ H fun xs H1 => NewK xs H1 Q) : tTupK ta σ H Q := h
instance st_tupK {ta : TA} {σ : L2.St} {H : Hp} {Q : VK} : StOf (@i_tupK ta σ H Q) := ⟨@i_tupK ta σ H Q⟩
section
variable {P H : Hp} {cs r : List Ch} {a b : Addr} {kvs : List (List Key × V)} {k : List Key} {v : V} {Q : VK}
theorem i_newK {xs : List V} (m : Mem P cs H) (hl : xs.length ≤ 100000) (q : ∀ p P' H', Mem P' cs H' → Ex P P' → P' p = some (.tup xs) → Q (.ref p) H') : NewK xs H Q := i_NT hl (i_newP m q)
theorem i_dgetT (m : Mem P cs H) (q : Sel cs (pt a (.dT kvs)) r) (hb : P b = some (.tup (k.map kV))) (hv : valV kvs k = some v) (c : Q v H) : DGetAt (.ref a) (.ref b) H Q :=
  ⟨a, v, rfl, by rw [← hv]; exact DGet.t (m.rd q) (m.ex _ _ hb), c⟩
theorem i_dgetOT {R : Option V → Prop} (m : Mem P cs H) (q : Sel cs (pt a (.dT kvs)) r) (hb : P b = some (.tup (k.map kV))) (c : R (valV kvs k)) : DGetO a (.ref b) H R :=
  ⟨_, DGet.t (m.rd q) (m.ex _ _ hb), c⟩
theorem i_dputT {v : V} {N : Hp → Prop} (m : Mem P cs H) (u : Upd cs a (.dT kvs) (.dT (putK kvs k v)) r) (hb : P b = some (.tup (k.map kV))) (hl : kvs.length < 100000) (q : ∀ H', Mem P r H' → N H') : DPutAt (.ref a) (.ref b) v H N :=
  ⟨a, _, rfl, DPut.t (u.rd m) (m.ex _ _ hb) (sz_lt hl), q _ (m.put u)⟩
end
/-! ### a part of a tuple as a key -/
def rSlK (K : PySem.W.Frag) : V → Option Int → Option Int → Hp → VK → Prop := rSlA K
theorem slK {X : Cx} {K : PySem.W.Frag} (h : X.K = K) : SlR X (rSlK K) := slA h
theorem i_slK {K : PySem.W.Frag} {P H : Hp} {cs : List Ch} {a : Addr} {xs ys : List V} {lo hi : Option Int} {Q : VK} (m : Mem P cs H) (h : SqT K P a xs) (e : cutV xs lo hi = ys) (n : ¬ (HT.sIx xs.length 0 lo = 0 ∧ HT.sIx xs.length xs.length hi = xs.length))
    (q : ∀ p P' H', Mem P' cs H' → Ex P P' → P' p = some (.tup ys) → Q (.ref p) H') : rSlK K (.ref a) lo hi H Q := by
  subst e
  exact ⟨a, xs, rfl, ex_t m.ex h, fun z => absurd z n, fun _ => i_newP m q⟩
end FS

set_option Elab.async false
set_option maxRecDepth 100000
set_option linter.all false
/-! FsStory: stories as plain data, and their first fault (k55). -/
namespace FS
open PySem PySem.Spec PyProof.Rows L2 Evl
inductive SDeed
  | make (c : Str)
  | shut (f v : Int) (c : Str)
inductive SReq
  | see (f : Int)
  | opn
  | shut (f v : Int) (c : Str)
  | join (ds : List SDeed)
  | look
  | begin
inductive SPart
  | clash
  | put (v : Int)
  | made
  | there
inductive SAns
  | ended
  | refused (w : Str)
  | shut (v st : Int)
  | joined (ps : List SPart)
  | ok
  | begun
  | folder
  | file (f v : Int) (c : Str) (st : Int)
inductive SRow
  | ask (h n : Int) (q : SReq)
  | told (h n : Int) (a : SAns)
  | saw (h f v : Int) (c : Str)
def SDeed.d : SDeed → PyData
  | .make c => .tuple [.str "make", .int 0, .str "n", .str c]
  | .shut f v c => .tuple [.str "shut", .int f, .int v, .str c]
def SReq.d : SReq → PyData
  | .see f => .tuple [.str "see", .int f]
  | .opn => .tuple [.str "open", .str "/a"]
  | .shut f v c => .tuple [.str "shut", .int f, .int v, .str c]
  | .join ds => .tuple [.str "join", .tuple (ds.map SDeed.d)]
  | .look => .tuple [.str "look"]
  | .begin => .tuple [.str "begin"]
def SPart.d : SPart → PyData
  | .clash => .tuple [.str "clash", .int 9, .str "stale"]
  | .put v => .tuple [.str "put", .int v]
  | .made => .tuple [.str "made", .int 8]
  | .there => .tuple [.str "refused", .str "there"]
def SAns.d : SAns → PyData
  | .ended => .tuple [.str "ended"]
  | .refused w => .tuple [.str "refused", .str w]
  | .shut v st => .tuple [.str "shut", .int v, .int st]
  | .joined ps => .tuple [.str "joined", .list (ps.map SPart.d)]
  | .ok => .tuple [.str "ok"]
  | .begun => .tuple [.str "begun"]
  | .folder => .tuple [.str "folder", .int 0, .list [.str "a", .str "clash"]]
  | .file f v c st => .tuple [.str "file", .int f, .int v, .str c, .int st]
def SRow.d : SRow → PyData
  | .ask h n q => .tuple [.str "ask", .int h, .int n, q.d]
  | .told h n a => .tuple [.str "told", .int h, .int n, a.d]
  | .saw h f v c => .tuple [.str "saw", .int h, .int f, .int v, .str c]
/-- what a row tells: a file's version, and its content where that is told -/
abbrev Tell := Int × Int × Option Str
/-- the asks by hand and number: their place, and what they ask; the latest first -/
abbrev Asks := List ((Int × Int) × (Int × SReq))
def joinedT : List SDeed → List SPart → List Tell
  | .shut f _ _ :: ds, .put v :: ps => (f, v, none) :: joinedT ds ps
  | _ :: ds, _ :: ps => joinedT ds ps
  | _, _ => []
def tells (A : Asks) : SRow → List Tell
  | .saw _ f v c => [(f, v, some c)]
  | .ask _ _ _ => []
  | .told h n a => match a with
    | .file f v c _ => [(f, v, some c)]
    | .shut v _ => match aget A (h, n) with
      | some (_, .shut f _ _) => [(f, v, none)]
      | _ => []
    | .joined ps => match aget A (h, n) with
      | some (_, .join ds) => joinedT ds ps
      | _ => []
    | _ => []
/-- a told answer fits what was asked -/
def fits (A : Asks) : SRow → Prop
  | .told h n a => ∃ k q, aget A (h, n) = some (k, q) ∧ match a with
    | .shut _ _ => ∃ f v c, q = .shut f v c
    | .joined ps => ∃ ds, q = .join ds ∧ ds.length = ps.length
    | _ => True
  | _ => True
def asksOf : Nat → List SRow → Asks → Asks
  | _, [], A => A
  | i, .ask h n q :: r, A => asksOf (i + 1) r (aset A (h, n) ((i : Int), q))
  | i, _ :: r, A => asksOf (i + 1) r A
def handOf : SRow → Int
  | .ask h _ _ => h
  | .told h _ _ => h
  | .saw h _ _ _ => h
def beginOf (A : Asks) (k : Int) : SRow → Int
  | .told h n _ => ((aget A (h, n)).map (·.1)).getD 0
  | _ => k
def unlike (one other : Tell) (binds : Bool) : Bool :=
  decide (one.1 = other.1) && ((binds && decide (one.2.1 < other.2.1)) || (other.2.2.isSome && decide (one.2.1 = other.2.1) && decide (one.2.2 ≠ other.2.2)))
end FS

set_option Elab.async false
set_option maxRecDepth 100000
set_option linter.all false
/-! FsClash: clash names; what stripped texts tell; deeds done alone put together with a shelf. -/
namespace FS
open PySem PySem.Spec PyProof.Rows L2 Evl PySem.Builtin PySem.Builtin.Str
section
variable {X : Cx} {K : PySem.W.Frag} {o e : Expr} {to te : TE} {apos pos : Pos}
def rStripS : V → List V → Hp → VK → Prop := fun x xs H Q => ∃ a b, x = .str a ∧ xs = [.str b] ∧ a.length ≤ sizeLine ∧ Q (.str (Txt.stripChars a b)) H
theorem stripT (ho : PE X o to) (he : PE X e te) (hs : starEach [e] X.env = [(false, eval e X.env)] := by rfl) (hbase : attributeBase o "strip" X.env (eval o X.env) = eval o X.env := by rfl) (hline : (apos.endLine == pos.line) = true := by rfl) :
    PE X (.Call (.Attribute o "strip" apos) [e] [] pos) (tM1 rStripS to te) := pe_m1 F.slot_str_strip F.type_str_strip mt_stripChars ho he hs hbase hline
end
theorem i_strip {a b : Str} {H : Hp} {Q : VK} (h : a.length ≤ 100000) (q : Q (.str (Txt.stripChars a b)) H) : rStripS (.str a) [.str b] H Q := ⟨a, b, rfl, rfl, sz_of h, q⟩
/-- a loop over a text -/
theorem l_str {z : Str} {g : TG} {tb : TS} {D : Ends} {σ : L2.St} {H : Hp} (Pv : Nat → L2.St → Hp → Prop) (h0 : Pv 0 σ H)
    (hs : ∀ i c σ H, z.cps[i]? = some c → Pv i σ H → g (.str ⟨#[c]⟩) σ H fun σ2 H2 => tb { D with nx := Pv (i + 1), ct := Pv (i + 1), bk := D.nx } σ2 H2) (hd : ∀ σ H, Pv z.cps.size σ H → D.nx σ H) :
    ∃ y, V.str z = .str y ∧ ∃ W : Nat → Nat → L2.St → Hp → Prop, (∃ m, W 0 m σ H) ∧ ∀ i m σ H, W i m σ H →
      ((Its y).stop i H ∧ D.nx σ H) ∨ ((Its y).go i H ∧ ∃ N : L2.St → Hp → Prop, (∀ σ' H', N σ' H' → ∃ m', m' < m ∧ W (i + 1) m' σ' H') ∧ ∀ x H', (Its y).yld i H x H' → g x σ H' fun σ2 H2 => tb { D with nx := N, ct := N, bk := D.nx } σ2 H2) := by
  refine ⟨z, rfl, fun i m σ H => m = z.cps.size - i ∧ i ≤ z.cps.size ∧ Pv i σ H, ⟨z.cps.size, by simp, Nat.zero_le _, h0⟩, ?_⟩
  rintro i m σ H ⟨rfl, hi, p⟩
  by_cases hlt : i < z.cps.size
  · refine .inr ⟨hlt, Pv (i + 1), fun σ' H' p' => ⟨z.cps.size - (i + 1), by omega, rfl, hlt, p'⟩, fun x H' y => ?_⟩
    obtain ⟨rfl, c, hc, rfl⟩ := y
    exact hs i c σ _ hc p
  · have e : i = z.cps.size := by omega
    subst e
    exact .inl ⟨Nat.le_refl _, hd σ H p⟩
/-- a comprehension over an enumerated list -/
theorem l_lcN {K : PySem.W.Frag} {P : Hp} {cs : List Ch} {a : Addr} {xs : List V} {g : TG} {tt : TT} {te : TE} {vs : List Nat} {σ : L2.St} {H : Hp} {Qd : Addr → Hp → Prop} (m : Mem P cs H) (hl : ∀ P' H', Ex P P' → Mem P' [] H' → SqL K H' a xs) (R : Nat → List V → Hp → Prop) (h0 : R 0 [] P)
    (hR : ∀ i acc P1 P2, Ex P1 P2 → R i acc P1 → R i acc P2)
    (hs : ∀ (i : Nat) x P' H' acc D T, xs[i]? = some x → Ex P P' → Mem P' (pt D (.lst acc) :: cs) H' → SqT K P' T [.int (i : Int), x] → R i acc P' → ∀ (Kt : VK) (Kf : Hp → Prop),
      (∀ y P4 H4, Ex P' P4 → Mem P4 (pt D (.lst acc) :: cs) H4 → acc.length < 100000 → R (i + 1) (acc ++ [y]) P4 → Kt y H4) → (∀ P4 H4, Ex P' P4 → Mem P4 (pt D (.lst acc) :: cs) H4 → R (i + 1) acc P4 → Kf H4) →
      g (.ref T) (wipe σ vs) H' fun σ2 H2 => wipe σ2 vs = wipe σ vs ∧ tt σ2 H2 fun b H3 => if b = true then te σ2 H3 Kt else Kf H3)
    (hd : ∀ D P' H' acc, Ex P P' → Mem P' (pt D (.lst acc) :: cs) H' → R xs.length acc P' → Qd D H') :
    ∃ b ys, [V.ref a] = [.ref b] ∧ SqL K H b ys ∧ ∀ D, H D = none → ∃ W : Nat → Nat → Hp → Prop, (∃ m, W 0 m (upd H D (.lst []))) ∧ ∀ i m H, W i m H →
      ((Ite K b).stop i H ∧ Qd D H) ∨ ((Ite K b).go i H ∧ ∃ Nx : Hp → Prop, (∀ H', Nx H' → ∃ m', m' < m ∧ W (i + 1) m' H') ∧ ∀ x H', (Ite K b).yld i H x H' → g x (wipe σ vs) H' fun σ2 H2 => wipe σ2 vs = wipe σ vs ∧ tt σ2 H2 fun b H3 =>
        if b = true then te σ2 H3 fun y H4 => ∃ acc, H4 D = some (.lst acc) ∧ acc.length < sizeLine ∧ Nx (upd H4 D (.lst (acc ++ [y]))) else Nx H3) := by
  have nil : ∀ {P' H' cs}, Mem P' cs H' → Mem P' [] H' := fun m => m.per .nil
  refine ⟨a, xs, rfl, hl P H (Ex.refl _) (nil m), fun D hD => ⟨fun i m H' => m = xs.length - i ∧ i ≤ xs.length ∧ ∃ P' acc, Ex P P' ∧ Mem P' (pt D (.lst acc) :: cs) H' ∧ R i acc P', ⟨xs.length, by simp, Nat.zero_le _, P, [], Ex.refl _, m.new hD, h0⟩, ?_⟩⟩
  rintro i mm H' ⟨rfl, hi, P', acc, e, m', r⟩
  have q := hl P' H' e (nil m')
  by_cases hlt : i < xs.length
  · refine .inr ⟨⟨xs, xs[i], q, by simp [hlt]⟩, fun H' => ∃ P' acc, Ex P P' ∧ Mem P' (pt D (.lst acc) :: cs) H' ∧ R (i + 1) acc P', fun H2 q => ⟨xs.length - (i + 1), by omega, rfl, hlt, q⟩, ?_⟩
    rintro x H2 y
    obtain ⟨T, x', rfl, hT, rfl, e2⟩ := y
    obtain ⟨P2, m2, e3, hT2⟩ := m'.enum (K := K) hT
    exact hs i x' P2 _ acc D T (e2 xs q) (e.trans e3) m2 hT2 (hR _ _ _ _ e3 r) _ _ (fun y P4 H4 e4 m4 l4 r4 => ⟨acc, m4.rd0, sz_lt l4, P4, _, e.trans (e3.trans e4), m4.put0, r4⟩) (fun P4 H4 e4 m4 r4 => ⟨P4, acc, e.trans (e3.trans e4), m4, r4⟩)
  · have ei : i = xs.length := by omega
    subst ei
    exact .inl ⟨⟨xs, q, Nat.le_refl _⟩, hd D P' H' acc e m' r⟩
/-- list(text) -/
def signsV (z : Str) : List V := z.cps.toList.map fun c => V.str ⟨#[c]⟩
def rListS : List V → Hp → VK → Prop := fun xs H Q => ∃ z : Str, xs = [.str z] ∧ z.length ≤ 100000 ∧ NewO (.lst (signsV z)) H Q
theorem listS {X : Cx} (hc : X.calm = true) : CallR X (.type "list") rListS := by
  intro pins s σ H xs us Q I r h
  obtain ⟨z, rfl, hz, q⟩ := h
  obtain ⟨u, rfl, rx⟩ := vals1 r
  obtain ⟨t, rfl⟩ := rx
  have hz2 : z.cps.size ≤ sizeLine := sz_of hz
  refine PySem.call_list_str (hn := hz2) (I.ok.hd hc) z t fun h' tk acc c hk hS hacc => ?_
  have hv : Vals (signsV z) acc.toList := by
    have hl : acc.toList.length = z.cps.size := by rw [Array.length_toList]; exact hacc.1
    have key : ∀ (cs : List Nat) (vs : List Value), vs.length = cs.length → (∀ (i : Nat) v c, vs[i]? = some v → cs[i]? = some c → ∃ t, v = Value.str ⟨#[c]⟩ t) → Vals (cs.map fun c => V.str ⟨#[c]⟩) vs := by
      intro cs
      induction cs with
      | nil => intro vs h _; rw [List.length_eq_zero_iff.mp h]; exact .nil
      | cons c cs ih =>
        intro vs h hh
        cases vs with
        | nil => cases h
        | cons v vs => exact .cons (hh 0 v c rfl rfl) (ih vs (by simpa using h) fun i v' c' a b => hh (i + 1) v' c' (by simpa using a) (by simpa using b))
    refine key _ _ (by rw [hl, Array.length_toList]) fun i v c hv hc => ?_
    obtain ⟨c', t', hc', rfl⟩ := hacc.2 i v (by rw [← Array.getElem?_toList]; exact hv)
    rw [Array.getElem?_toList, hc'] at hc
    cases hc
    exact ⟨t', rfl⟩
  exact ⟨.ref s.heap.objs.size, upd H s.heap.objs.size (.lst (signsV z)), I.laid (t' := tk) hk (Nat.le_refl _) ⟨by unfold signsV; rw [List.length_map, Array.length_toList]; exact hz2, acc.toList, c, hv, by rw [Array.toArray_toList]; exact hS⟩, rfl, q _ (I.hok.fresh (Nat.le_refl _))⟩
theorem i_listS {z : Str} {H : Hp} {Q : VK} (h : z.length ≤ 100000) (q : NewO (.lst (signsV z)) H Q) : rListS [.str z] H Q := ⟨z, rfl, h, q⟩
/-- str(i) -/
def intT (i : Int) : Str := toString i
def rStrI : List V → Hp → VK → Prop := fun xs H Q => ∃ i : Int, xs = [.int i] ∧ i.natAbs.log2 < 1920 ∧ Q (.str (intT i)) H
theorem strI {X : Cx} : CallR X (.type "str") rStrI := call_str_int
theorem i_strT {i : Int} {H : Hp} {Q : VK} (h0 : 0 ≤ i) (h1 : i < 2 ^ 60) (q : Q (.str (intT i)) H) : rStrI [.int i] H Q := ⟨i, rfl, by
  have h2 : i.natAbs < (2 : Nat) ^ 1920 := Nat.lt_of_lt_of_le (show i.natAbs < 2 ^ 60 by omega) (Nat.pow_le_pow_right (by decide) (by decide))
  by_cases z : i.natAbs = 0
  · rw [z]; decide
  · exact (Nat.log2_lt z).mpr h2, q⟩
theorem intT_len {i : Int} (h0 : 0 ≤ i) (h1 : i < 2 ^ 60) : (intT i).length ≤ 61 := int_text_len i (k := 60) (by decide) (by omega)
theorem strip_nil (z y : Str) : decide (Txt.stripChars z y = "") = allB (fun c => decide (c ∈ y.cps.toList)) z := by
  have hE : ("" : Str) = ⟨#[]⟩ := by decide +kernel
  have hg : (y.cps.contains : Nat → Bool) = fun c => decide (c ∈ y.cps.toList) := by
    funext c
    simp
  unfold Txt.stripChars
  rw [stripBy_eq, hg]
  generalize (fun c => decide (c ∈ y.cps.toList)) = g
  obtain ⟨l1, l2, l3⟩ := lo_facts g z
  obtain ⟨h1, h2, h3, h4⟩ := hi_facts g z _ l1
  generalize stripLo g true z = lo at *
  generalize stripHi g true z lo = hi at *
  unfold allB
  rw [all_map_id, Bool.eq_iff_iff, decide_eq_true_eq, List.all_eq_true]
  have sz : (strSub z lo hi).length = hi - lo := by
    unfold strSub Str.length
    rw [Array.size_extract]
    unfold Str.length at h2
    omega
  have hnil : strSub z lo hi = "" ↔ hi - lo = 0 := by
    rw [← sz, hE]
    constructor
    · intro h; rw [h]; rfl
    · intro h
      have : (strSub z lo hi).cps = #[] := Array.eq_empty_of_size_eq_zero h
      cases hq : strSub z lo hi with
      | mk a =>
        rw [hq] at this
        have this : a = #[] := this
        rw [this]
  rw [hnil]
  constructor
  · intro h c hc
    obtain ⟨i, hi', rfl⟩ := List.getElem_of_mem hc
    have hl : i < z.length := by simpa [Str.length] using hi'
    have e : z.cps.getD i 0 = z.cps.toList[i] := by
      rw [← getD_list, List.getD_eq_getElem?_getD, List.getElem?_eq_getElem hi']; rfl
    have hg : g (z.cps.getD i 0) = true := by
      by_cases hlo : i < lo
      · exact l2 i hlo
      · exact h3 i (by omega) hl
    rw [e] at hg
    exact hg
  · intro h
    rcases l3 with e | e
    · omega
    · by_cases hz : lo < z.length
      · have hz' : lo < z.cps.size := hz
        have e2 : z.cps.getD lo 0 = z.cps.toList[lo]'(by simpa using hz') := by rw [← getD_list, List.getD_eq_getElem?_getD, List.getElem?_eq_getElem (by simpa using hz')]; rfl
        rw [e2, h _ (List.getElem_mem _)] at e
        cases e
      · omega
/-! ### the ends, the names -/
def LETS : Str := "abcdefghijklmnopqrstuvwxyz"
def letL : List Str := LETS.cps.toList.map fun c => (⟨#[c]⟩ : Str)
def pairL (x : Str) : List Str := letL.map fun y => x ++ y
def endsL : List Str := (("" : Str) :: letL) ++ letL.flatMap pairL
theorem ends_len : endsL.length = 703 := by decide +kernel
def codeT (z : Str) : Nat := z.cps.toList.foldl (fun a c => a * 256 + c) 0
def incB : List Nat → Bool
  | a :: b :: r => decide (a < b) && incB (b :: r)
  | _ => true
theorem inc_pw : ∀ {l : List Nat}, incB l = true → l.Pairwise (· < ·)
  | [], _ => .nil
  | [a], _ => List.pairwise_singleton _ _
  | a :: b :: r, h => by
    unfold incB at h
    rw [Bool.and_eq_true] at h
    have h2 := inc_pw h.2
    refine List.pairwise_cons.mpr ⟨fun x hx => ?_, h2⟩
    have ab := of_decide_eq_true h.1
    rcases List.mem_cons.mp hx with rfl | hx
    · exact ab
    · exact Nat.lt_trans ab ((List.pairwise_cons.mp h2).1 x hx)
theorem ends_inc : incB (endsL.map codeT) = true := by decide +kernel
theorem ends_nd : endsL.Nodup := by
  have h := inc_pw ends_inc
  rw [List.pairwise_map] at h
  exact h.imp fun hab e => by rw [e] at hab; exact Nat.lt_irrefl _ hab
def clashW (n : Int) : Str := "c" ++ intT n
def clashL (ks : List Str) (n : Int) : List Str := endsL.filterMap fun e => if clashW n ++ e ∈ ks then none else some (clashW n ++ e)
theorem str_app_inj {a x y : Str} (h : a ++ x = a ++ y) : x = y := by
  cases a with
  | mk a => cases x with
    | mk x => cases y with
      | mk y =>
        have h' : a ++ x = a ++ y := congrArg Str.cps h
        have : x = y := by
          have := congrArg Array.toList h'
          simp at this
          exact this
        rw [this]
theorem clash_ne {ks : List Str} {n : Int} (h : ks.length < 703) : clashL ks n ≠ [] := by
  intro e
  unfold clashL at e
  rw [List.filterMap_eq_nil_iff] at e
  have hin : ∀ w ∈ endsL.map (fun x => clashW n ++ x), w ∈ ks := by
    intro w hw
    obtain ⟨x, hx, rfl⟩ := List.mem_map.mp hw
    have := e x hx
    by_cases hk : clashW n ++ x ∈ ks
    · exact hk
    · rw [if_neg hk] at this; cases this
  have nd : (endsL.map fun x => clashW n ++ x).Nodup := by
    unfold List.Nodup
    rw [List.pairwise_map]
    exact ends_nd.imp fun hab hq => hab (str_app_inj hq)
  have hl := nodup_le nd hin
  rw [List.length_map, ends_len] at hl
  omega
def clashN (ks : List Str) (n : Int) : Str := (clashL ks n).head?.getD ""
theorem clash_at {ks : List Str} {n : Int} (h : ks.length < 703) : atI ((clashL ks n).map V.str) 0 = some (.str (clashN ks n)) := by
  unfold clashN
  cases e : clashL ks n with
  | nil => exact absurd e (clash_ne h)
  | cons a r =>
    show atI (V.str a :: r.map V.str) 0 = some (V.str a)
    unfold atI ixN
    simp
/-! ### deeds done alone -/
inductive JD
  | shut (b : Bool) (f v : Int) (c : Str)
  | make (f : Int) (n c : Str)
  | fold (f : Int) (n : Str)
def JD.vs : JD → List V
  | .shut true f v c => [.str "shut", .int f, .int v, .str c]
  | .shut false f v c => [.str "put", .int f, .int v, .str c]
  | .make f n c => [.str "make", .int f, .str n, .str c]
  | .fold f n => [.str "fold", .int f, .str n]
def JD.word : JD → Str
  | .shut true _ _ _ => "shut"
  | .shut false _ _ _ => "put"
  | .make _ _ _ => "make"
  | .fold _ _ => "fold"
def JD.ds : JD → List PyData
  | .shut true f v c => [.str "shut", .int f, .int v, .str c]
  | .shut false f v c => [.str "put", .int f, .int v, .str c]
  | .make f n c => [.str "make", .int f, .str n, .str c]
  | .fold f n => [.str "fold", .int f, .str n]
def JD.deed : JD → Deed
  | .shut _ f v c => .put f v c
  | .make f n c => .make f n c
  | .fold f n => .fold f n
def JD.okc : JD → Prop
  | .shut _ _ _ c => contB c = true
  | .make _ n c => contB c = true ∧ TOk 900 n
  | .fold _ n => TOk 900 n
def JD.jn : JD → Prop
  | .shut b _ _ _ => b = true
  | .make _ _ _ => True
  | .fold _ _ => False
theorem JD.jn_of {d : JD} (h : d.word ∈ ([("shut" : Str), "shut", "shut", "make"] : List Str)) : d.jn := by
  cases d with
  | shut b f v c =>
    cases b with
    | true => rfl
    | false => exact absurd h (by show ¬ (("put" : Str) ∈ _); decide +kernel)
  | make f n c => trivial
  | fold f n => exact absurd h (by show ¬ (("fold" : Str) ∈ _); decide +kernel)
def JD.cont : JD → Str
  | .shut _ _ _ c => c
  | .make _ _ c => c
  | .fold _ _ => ""
def sndD (l : List PyData) : PyData := (l[1]?).getD .none
def ksOf (s : Sf) : List Str := keys (s.ent 1)
noncomputable def clashD (s : Sf) (c : Str) : Deed := .make 1 (clashN (ksOf s) (s.last + 1)) c
noncomputable def Sf.clashP (s : Sf) (c w : Str) : Sf × PyData := ((s.doD (clashD s c)).1, .tuple [.str "clash", sndD (s.doD (clashD s c)).2, .str w])
structure Jn3 where
  s : Sf
  lost : List Int
  out : List PyData
noncomputable def Jn3.put (j : Jn3) (f v : Int) (c : Str) : Jn3 := if f ∈ j.lost then ⟨(j.s.clashP c "stale").1, j.lost, j.out ++ [(j.s.clashP c "stale").2]⟩
      else if j.s.fault (.put f v c) = "" then ⟨(j.s.doD (.put f v c)).1, j.lost, j.out ++ [.tuple (j.s.doD (.put f v c)).2]⟩
      else ⟨(j.s.clashP c (j.s.fault (.put f v c))).1, j.lost ++ [f], j.out ++ [(j.s.clashP c (j.s.fault (.put f v c))).2]⟩
noncomputable def Jn3.mk_ (j : Jn3) (f : Int) (n c : Str) : Jn3 := if j.s.fault (.make f n c) = "" then ⟨(j.s.doD (.make f n c)).1, j.lost, j.out ++ [.tuple (j.s.doD (.make f n c)).2]⟩
      else ⟨(j.s.clashP c (j.s.fault (.make f n c))).1, j.lost, j.out ++ [(j.s.clashP c (j.s.fault (.make f n c))).2]⟩
noncomputable def Jn3.step (j : Jn3) : JD → Jn3
  | .shut _ f v c => j.put f v c
  | .make f n c => j.mk_ f n c
  | .fold _ _ => j
noncomputable def Jn3.run (j : Jn3) (ds : List JD) : Jn3 := ds.foldl Jn3.step j
theorem Jn3.run_snoc (j : Jn3) (ds : List JD) (d : JD) : j.run (ds ++ [d]) = (j.run ds).step d := by
  unfold Jn3.run; rw [List.foldl_append]; rfl
theorem doD_two_make (s : Sf) (f : Int) (n c : Str) : ∃ z y, (s.doD (.make f n c)).2 = [.str z, y] ∧ ((∃ i, y = .int i) ∨ ∃ w, y = .str w) := by
  unfold Sf.doD
  split
  · exact ⟨_, _, rfl, .inl ⟨_, rfl⟩⟩
  · exact ⟨_, _, rfl, .inr ⟨_, rfl⟩⟩
theorem smd_clash (s : Sf) (c w : Str) (n : Nat) : SmD (n + 2) (s.clashP c w).2 := by
  refine .tup (by simp) fun d hd => ?_
  simp only [List.mem_cons, List.not_mem_nil, or_false] at hd
  rcases hd with rfl | rfl | rfl
  · exact .str _
  · obtain ⟨z, y, e, h⟩ := doD_two_make s 1 (clashN (ksOf s) (s.last + 1)) c
    unfold clashD
    rw [e]
    show SmD (n + 1) y
    rcases h with ⟨i, rfl⟩ | ⟨w, rfl⟩
    · exact .int _
    · exact .str _
  · exact .str _
/-- what stays true of a state while deeds are put together -/
structure Jn3.fine (j : Jn3) (m k : Nat) : Prop where
  mid : j.s.mid m
  ln : j.out.length = k
  sm : ∀ d ∈ j.out, SmD 5 d
  ll : j.lost.length ≤ k
theorem fine_snoc {s : Sf} {lost l2 : List Int} {out : List PyData} {m k : Nat} {d : PyData} {s2 : Sf} (h : Jn3.fine ⟨s, lost, out⟩ m k) (h2 : s2.mid (m + 1)) (hd : SmD 5 d) (hl2 : l2.length ≤ lost.length + 1 := by simp) : Jn3.fine ⟨s2, l2, out ++ [d]⟩ (m + 1) (k + 1) :=
  ⟨h2, by show (out ++ [d]).length = _; rw [List.length_append]; exact congrArg (· + 1) h.ln, fun x hx => by
    rcases List.mem_append.mp hx with z | z
    · exact h.sm x z
    · rw [List.mem_singleton.mp z]; exact hd, Nat.le_trans hl2 (Nat.succ_le_succ h.ll)⟩
theorem Jn3.fine_step {j : Jn3} {m k : Nat} (h : j.fine m k) {d : JD} (hd : d.jn) : (j.step d).fine (m + 1) (k + 1) := by
  cases d with
  | shut b f v c =>
    show Jn3.fine (j.put f v c) _ _
    unfold Jn3.put
    split
    · exact fine_snoc h (Sf.mid_do h.mid _) (smd_clash _ _ _ 3) (by simp)
    · split
      · exact fine_snoc h (Sf.mid_do h.mid _) (smd_ans _ _ 3) (by simp)
      · exact fine_snoc h (Sf.mid_do h.mid _) (smd_clash _ _ _ 3) (by simp)
  | make f n c =>
    show Jn3.fine (j.mk_ f n c) _ _
    unfold Jn3.mk_
    split
    · exact fine_snoc h (Sf.mid_do h.mid _) (smd_ans _ _ 3) (by simp)
    · exact fine_snoc h (Sf.mid_do h.mid _) (smd_clash _ _ _ 3) (by simp)
  | fold f n => exact hd.elim
theorem doD_bad {s : Sf} {d : Deed} (h : s.fault d ≠ "") : s.doD d = (s, [.str "refused", .str (s.fault d)]) := by
  unfold Sf.doD; rw [if_neg h]
theorem doD_put {s : Sf} {f v : Int} {c : Str} (h : s.fault (.put f v c) = "") : (s.doD (.put f v c)).2 = [.str "put", .int (v + 1)] := by
  unfold Sf.doD; rw [if_pos h]; rfl
theorem doD_make {s : Sf} {f : Int} {n c : Str} (h : s.fault (.make f n c) = "") : (s.doD (.make f n c)).2 = [.str "made", .int (s.last + 1)] := by
  unfold Sf.doD; rw [if_pos h]; rfl
theorem ks_len {s : Sf} {m : Nat} (h : s.ok m) (hm : m ≤ 600) : (ksOf s).length < 703 := by
  unfold ksOf
  obtain ⟨l, hl⟩ := aget_some h.clash
  have e : s.ent 1 = l := by unfold Sf.ent; rw [hl]; rfl
  rw [e]
  unfold keys
  rw [List.length_map]
  obtain ⟨C, D, eq⟩ := List.append_of_mem (aget_mem hl)
  have := h.sze
  unfold Sf.es at this
  rw [eq, ents_app, ents_cons] at this
  simp at this
  omega
theorem ends_small : ∀ e ∈ endsL, e.length ≤ 2 := by decide +kernel
theorem letL_at {i c : Nat} (h : LETS.cps[i]? = some c) : letL[i]? = some (⟨#[c]⟩ : Str) := by
  unfold letL
  rw [List.getElem?_map, Array.getElem?_toList, h]; rfl
theorem lets_size : LETS.cps.size = 26 := by decide +kernel
theorem letL_len : letL.length = 26 := by decide +kernel
theorem sign_len (c : Nat) : (⟨#[c]⟩ : Str).length = 1 := rfl
theorem take_letL {i c : Nat} (h : LETS.cps[i]? = some c) : letL.take (i + 1) = letL.take i ++ [(⟨#[c]⟩ : Str)] := by
  rw [List.take_add_one, letL_at h]; rfl
theorem take_all26 {α : Type} {l : List α} (h : l.length = 26) : l.take LETS.cps.size = l := by
  rw [lets_size, ← h, List.take_length]
theorem clash_take {ks : List Str} {n : Int} {i : Nat} {e : Str} (h : endsL[i]? = some e) : (endsL.take (i + 1)).filterMap (fun e => if clashW n ++ e ∈ ks then none else some (clashW n ++ e)) =
    (endsL.take i).filterMap (fun e => if clashW n ++ e ∈ ks then none else some (clashW n ++ e)) ++ (if clashW n ++ e ∈ ks then [] else [clashW n ++ e]) := by
  rw [List.take_add_one, h, List.filterMap_append]
  congr 1
  by_cases z : clashW n ++ e ∈ ks
  · simp [z]
  · simp [z]
theorem entK_in (l : List Ent) (w : Str) : (valV (entK l) (Sum.inr w)).isSome = decide (w ∈ keys l) := by
  rw [entK_get, map_isSome, aget_isSome]
theorem clash_len {ks : List Str} {n : Int} (h : (clashW n).length ≤ 62) : (clashN ks n).length ≤ 64 := by
  unfold clashN
  cases e : clashL ks n with
  | nil => exact Nat.zero_le _
  | cons y r =>
    have hy : y ∈ clashL ks n := by rw [e]; exact .head _
    unfold clashL at hy
    obtain ⟨z, hz, h2⟩ := List.mem_filterMap.mp hy
    split at h2
    · cases h2
    · cases h2
      have h3 := ends_small z hz
      have e2 : (clashW n ++ z).length = (clashW n).length + z.length := Str.length_append _ _
      show (clashW n ++ z).length ≤ 64
      omega
theorem clashW_len {n : Int} (h0 : 0 ≤ n) (h1 : n < 2 ^ 60) : (clashW n).length ≤ 62 := by
  have lT := intT_len h0 h1
  have lc : (Str.ofString "c").length = 1 := by decide +kernel
  have e : (clashW n).length = (Str.ofString "c").length + (intT n).length := Str.length_append _ _
  omega
theorem cont_len {z : Str} (h : contB z = true) : z.length ≤ 200 := by
  unfold contB at h
  rw [Bool.and_eq_true] at h
  have := of_decide_eq_true h.1
  omega
def JdR (K : PySem.W.Frag) (P : Hp) (r : Addr) (d : JD) : Prop := SqT K P r d.vs ∧ d.okc
theorem JdR.up {K : PySem.W.Frag} {P P' : Hp} (e : Ex P P') {r : Addr} {d : JD} (h : JdR K P r d) : JdR K P' r d := ⟨sqT_up h.1 e, h.2⟩
theorem pairs_len (n : Nat) : ((letL.take n).flatMap pairL).length ≤ 26 * 26 := by
  rw [List.length_flatMap]
  have : ∀ k : Nat, ((letL.take k).map fun x => (pairL x).length).sum = 26 * min k 26 := fun k => by
    have e : (fun x => (pairL x).length) = fun _ => 26 := by
      funext x; unfold pairL; rw [List.length_map, letL_len]
    rw [e, List.map_const', List.sum_replicate_nat, List.length_take, letL_len, Nat.mul_comm]
  rw [this]; omega
theorem dp2 {K : PySem.W.Frag} {P : Hp} {r : Addr} {z : Str} {y : PyData} (h : Dp K P (.ref r) (.tuple [.str z, y])) : ∃ v, Dp K P v y ∧ SqT K P r [.str z, v] := by
  cases h with
  | tup h a =>
  cases a with
  | cons b a =>
  cases a with
  | cons b2 a =>
  cases a
  cases b
  exact ⟨_, b2, h⟩
theorem strOk_of (z : String) : PyData.strOk (Str.ofString z) = true := by
  rw [strOk_iff, Str.ofString_eq_toList]
  intro c hc
  have hc2 : c ∈ z.toList.map Char.toNat := by simpa using hc
  obtain ⟨ch, _, rfl⟩ := List.mem_map.mp hc2
  have hv : UInt32.isValidChar ch.val := ch.valid
  have e : ch.toNat = ch.val.toNat := rfl
  rw [e]
  rcases hv with h | h
  · exact Nat.lt_trans h (by decide)
  · exact h.2
theorem cont_tok {z : Str} (h : contB z = true) : TOk 200 z := by
  refine ⟨cont_len h, (strOk_iff z).mpr fun c hc => ?_⟩
  unfold contB at h
  rw [Bool.and_eq_true] at h
  have h2 := h.2
  unfold allB at h2
  rw [all_map_id, List.all_eq_true] at h2
  have h3 := of_decide_eq_true (h2 c hc)
  have h4 : ∀ c ∈ SGP.cps.toList, c < 0x110000 := by decide +kernel
  exact h4 c h3
def JD.d (x : JD) : PyData := .tuple x.ds
theorem JD.dp {K : PySem.W.Frag} {P : Hp} {r : Addr} {x : JD} (h : SqT K P r x.vs) : Dp K P (.ref r) x.d := by
  cases x with
  | shut b f v c => cases b <;> exact .tup h (.cons (.str _) (.cons (.int _) (.cons (.int _) (.cons (.str _) .nil))))
  | make f n c => exact .tup h (.cons (.str _) (.cons (.int _) (.cons (.str _) (.cons (.str _) .nil))))
  | fold f n => exact .tup h (.cons (.str _) (.cons (.int _) (.cons (.str _) .nil)))
theorem JD.sh {x : JD} (h : x.okc) : Sh 1 x.d := by
  refine .tup fun y hy => ?_
  cases x with
  | shut b f v c =>
    have hc := (cont_tok h).ok
    cases b <;> (
      simp only [JD.ds, List.mem_cons, List.not_mem_nil, or_false] at hy
      rcases hy with rfl | rfl | rfl | rfl
      · exact Sh.str (strOk_of _)
      · exact Sh.int _
      · exact Sh.int _
      · exact Sh.str hc)
  | make f n c =>
    have hc := (cont_tok h.1).ok
    have hn := h.2.ok
    simp only [JD.ds, List.mem_cons, List.not_mem_nil, or_false] at hy
    rcases hy with rfl | rfl | rfl | rfl
    · exact Sh.str (strOk_of _)
    · exact Sh.int _
    · exact Sh.str hn
    · exact Sh.str hc
  | fold f n =>
    have hn := TOk.ok h
    simp only [JD.ds, List.mem_cons, List.not_mem_nil, or_false] at hy
    rcases hy with rfl | rfl | rfl
    · exact Sh.str (strOk_of _)
    · exact Sh.int _
    · exact Sh.str hn
theorem JD.deed_vs {x : JD} (h : x.word ∈ ([("make" : Str), "make", "fold", "put"] : List Str)) : x.vs = x.deed.vs := by
  cases x with
  | shut b f v c =>
    cases b with
    | true => exact absurd h (by show ¬ (("shut" : Str) ∈ _); decide +kernel)
    | false => rfl
  | make f n c => rfl
  | fold f n => rfl
theorem JD.deed_sz {x : JD} (h : x.okc) : x.deed.sz := by
  cases x with
  | shut b f v c => exact Nat.le_trans (cont_len h) (by decide)
  | make f n c => exact ⟨Nat.le_trans h.2.len (by decide), Nat.le_trans (cont_len h.1) (by decide)⟩
  | fold f n => exact Nat.le_trans (TOk.len h) (by decide)
theorem jd_all {K : PySem.W.Frag} {P : Hp} : ∀ {rs : List Addr} {ds : List JD}, Paired (JdR K P) rs ds → DpAll K P (rs.map V.ref) (ds.map JD.d) ∧ ∀ d ∈ ds.map JD.d, Sh 1 d
  | _, _, .nil => ⟨.nil, fun _ z => nomatch z⟩
  | _, _, .cons a b => by
    obtain ⟨h1, h2⟩ := jd_all b
    refine ⟨.cons (JD.dp a.1) h1, fun d hd => ?_⟩
    rcases List.mem_cons.mp hd with rfl | z
    · exact JD.sh a.2
    · exact h2 d z
theorem i_rep {P H : Hp} {cs r : List Ch} {l : Addr} {xs : List V} {k : Int} {Q : VK} (m : Mem P cs H) (q : Sel cs (pt l (.lst xs)) r) (h0 : 0 ≤ k) (h1 : k ≤ 10) (hl : xs.length ≤ 1000) (c : NewO (.lst (List.replicate k.toNat xs).flatten) H Q) : rRep (.ref l) (.int k) H Q :=
  ⟨l, k, xs, rfl, rfl, m.rd q, by omega, by omega, by
    refine sz_of ?_
    have h2 : k.toNat ≤ 10 := by omega
    exact Nat.le_trans (Nat.mul_le_mul hl h2) (by decide), c⟩
end FS

set_option Elab.async false
set_option maxRecDepth 100000
set_option linter.all false
/-! FsMove: where paths go when a node is moved, or a name dropped. -/
namespace FS
open PySem L2
section
variable {κ α : Type} [DecidableEq κ]
theorem aget_put (l : List (κ × α)) (k x : κ) (v : α) : aget (aset l k v) x = if k = x then some v else aget l x := by
  unfold aset
  split
  · rename_i h
    induction l with
    | nil => simp at h
    | cons p l ih =>
      rw [List.map_cons, aget_cons, aget_cons]
      by_cases e : p.1 = k
      · rw [if_pos e]
        by_cases z : k = x
        · rw [if_pos (show p.1 = x from e.trans z), if_pos z]
        · have z2 : ¬ p.1 = x := fun y => z (e.symm.trans y)
          rw [if_neg z2, if_neg z2, if_neg z]
          by_cases h2 : (l.any fun p => decide (p.1 = k)) = true
          · rw [ih h2, if_neg z]
          · have : (l.map fun p => if p.1 = k then (p.1, v) else p) = l := by
              have e9 : (l.map fun p => if p.1 = k then (p.1, v) else p) = l.map id := List.map_congr_left fun q hq => by
                have : ¬ q.1 = k := fun y => h2 (List.any_eq_true.mpr ⟨q, hq, decide_eq_true y⟩)
                simp [this]
              rw [e9, List.map_id]
            rw [this]
      · rw [if_neg e]
        have h2 : (l.any fun p => decide (p.1 = k)) = true := by simpa [e] using h
        by_cases z : k = x
        · have z2 : ¬ p.1 = x := fun y => e (y.trans z.symm)
          rw [if_neg z2, ih h2]
          rw [if_neg z2]
        · by_cases z2 : p.1 = x
          · rw [if_pos z2, if_pos z2, if_neg z]
          · rw [if_neg z2, if_neg z2, ih h2]
  · rename_i h
    have hk : k ∉ keys l := fun hk => h (by
      obtain ⟨v, hv⟩ := mem_keys.mp hk
      exact List.any_eq_true.mpr ⟨_, hv, decide_eq_true rfl⟩)
    clear h
    induction l with
    | nil => rw [List.nil_append, aget_cons]
    | cons p l ih =>
      have h1 : ¬ p.1 = k := fun e => hk (by simp [keys, e])
      have h2 : k ∉ keys l := fun z => hk (by simp only [keys, List.map_cons, List.mem_cons]; exact .inr z)
      rw [List.cons_append, aget_cons, aget_cons, ih h2]
      by_cases z : p.1 = x
      · have z2 : ¬ k = x := fun y => h1 (z.trans y.symm)
        rw [if_pos z, if_pos z, if_neg z2]
      · rw [if_neg z, if_neg z]
theorem aget_del (l : List (κ × α)) (k x : κ) : aget (adel l k) x = if k = x then none else aget l x := by
  induction l with
  | nil => unfold adel; simp [aget_nil]
  | cons p l ih =>
    unfold adel at ih ⊢
    rw [List.filter_cons, aget_cons]
    by_cases e : p.1 = k
    · rw [if_neg (by simp [e]), ih]
      by_cases z : k = x
      · rw [if_pos z, if_pos z]
      · have z2 : ¬ p.1 = x := fun y => z (e.symm.trans y)
        rw [if_neg z, if_neg z, if_neg z2]
    · rw [if_pos (by simp [e]), aget_cons, ih]
      by_cases z : p.1 = x
      · have z2 : ¬ k = x := fun y => e (z.trans y.symm)
        rw [if_pos z, if_pos z, if_neg z2]
      · rw [if_neg z, if_neg z]
end
/-! ### ways by names -/
def leadE (E : Int → Str → Option Int) : Int → List Str → Option Int
  | a, [] => some a
  | a, x :: r => (E a x).bind fun b => leadE E b r
theorem lead_E (s : Sf) : ∀ (ns : List Str) (a : Int), s.lead a ns = leadE s.entry a ns
  | [], _ => rfl
  | x :: r, a => by
    show (s.entry a x).bind (fun b => s.lead b r) = (s.entry a x).bind fun b => leadE s.entry b r
    congr 1
    funext b
    exact lead_E s r b
theorem leadE_app (E : Int → Str → Option Int) : ∀ (as bs : List Str) (a : Int), leadE E a (as ++ bs) = (leadE E a as).bind fun b => leadE E b bs
  | [], bs, a => rfl
  | x :: as, bs, a => by
    show (E a x).bind (fun b => leadE E b (as ++ bs)) = ((E a x).bind fun b => leadE E b as).bind fun b => leadE E b bs
    cases E a x with
    | none => rfl
    | some b => exact leadE_app E as bs b
/-- an edge taken away at (f, n) and laid at (g, n2) -/
structure MvH (E E' : Int → Str → Option Int) (f : Int) (n : Str) (g : Int) (n2 : Str) (t : Int) : Prop where
  old : E f n = some t
  gone : E' f n = none
  new : E' g n2 = some t
  was : E g n2 = none
  rest : ∀ a x, ¬ (a = f ∧ x = n) → ¬ (a = g ∧ x = n2) → E a x = E' a x
theorem MvH.swap {E E' : Int → Str → Option Int} {f g t : Int} {n n2 : Str} (h : MvH E E' f n g n2 t) : MvH E' E g n2 f n t :=
  ⟨h.new, h.was, h.old, h.gone, fun a x h1 h2 => (h.rest a x h2 h1).symm⟩
section
variable {E E' : Int → Str → Option Int} {f g t : Int} {n n2 : Str}
theorem MvH.far (h : MvH E E' f n g n2 t) : ∀ {ns : List Str} {a k : Int}, (∀ ms, leadE E a ms ≠ some f) → leadE E a ns = some k → leadE E' a ns = some k
  | [], a, k, _, e => e
  | x :: r, a, k, hf, e => by
    obtain ⟨b, hb, e2⟩ := Option.bind_eq_some_iff.mp (show (E a x).bind _ = some k from e)
    have h1 : ¬ (a = f ∧ x = n) := fun z => hf [] (by rw [z.1]; rfl)
    have h2 : ¬ (a = g ∧ x = n2) := fun z => by rw [z.1, z.2, h.was] at hb; cases hb
    have h3 := h.rest a x h1 h2
    show (E' a x).bind _ = some k
    rw [← h3, hb]
    exact h.far (fun ms z => hf (x :: ms) (by show (E a x).bind _ = _; rw [hb]; exact z)) e2
theorem MvH.uses (h : MvH E E' f n g n2 t) : ∀ {ns : List Str} {a k : Int}, leadE E a ns = some k → (∃ as bs, ns = as ++ n :: bs ∧ leadE E a as = some f ∧ leadE E t bs = some k) ∨ leadE E' a ns = some k
  | [], a, k, e => .inr e
  | x :: r, a, k, e => by
    obtain ⟨b, hb, e2⟩ := Option.bind_eq_some_iff.mp (show (E a x).bind _ = some k from e)
    by_cases h1 : a = f ∧ x = n
    · obtain ⟨rfl, rfl⟩ := h1
      rw [h.old] at hb
      cases hb
      exact .inl ⟨[], r, rfl, rfl, e2⟩
    · have h2 : ¬ (a = g ∧ x = n2) := fun z => by rw [z.1, z.2, h.was] at hb; cases hb
      have h3 := h.rest a x h1 h2
      rcases h.uses e2 with ⟨as, bs, rfl, p1, p2⟩ | p
      · exact .inl ⟨x :: as, bs, rfl, by show (E a x).bind _ = _; rw [hb]; exact p1, p2⟩
      · right
        show (E' a x).bind _ = some k
        rw [← h3, hb]; exact p
/-- all that is asked of a move -/
structure MvA (E E' : Int → Str → Option Int) (f : Int) (n : Str) (g : Int) (n2 : Str) (t : Int) (pf pg : List Str) : Prop where
  h : MvH E E' f n g n2 t
  lf : leadE E 0 pf = some f
  uf : ∀ as, leadE E 0 as = some f → as = pf
  lg : leadE E 0 pg = some g
  ug : ∀ as, leadE E 0 as = some g → as = pg
  tf : ∀ as, leadE E t as ≠ some f
  tg : ∀ as, leadE E t as ≠ some g
variable {pf pg : List Str}
theorem app_ne {α : Type} {as bs : List α} {x : α} : as ++ x :: bs ≠ as := fun e => by
  have := congrArg List.length e
  simp at this
theorem MvA.lg' (m : MvA E E' f n g n2 t pf pg) : leadE E' 0 pg = some g := by
  rcases m.h.uses m.lg with ⟨as, bs, _, _, z⟩ | z
  · exact absurd z (m.tg bs)
  · exact z
theorem MvA.lf' (m : MvA E E' f n g n2 t pf pg) : leadE E' 0 pf = some f := by
  rcases m.h.uses m.lf with ⟨as, bs, _, _, z⟩ | z
  · exact absurd z (m.tf bs)
  · exact z
theorem MvA.tg' (m : MvA E E' f n g n2 t pf pg) : ∀ as, leadE E' t as ≠ some g := by
  have key : ∀ N, ∀ as : List Str, as.length ≤ N → leadE E' t as ≠ some g := by
    intro N
    induction N with
    | zero =>
      intro as hl e
      obtain rfl := List.length_eq_zero_iff.mp (Nat.le_zero.mp hl)
      exact m.tg [] e
    | succ N ih =>
      intro as hl e
      rcases m.h.swap.uses e with ⟨xs, ys, rfl, z, _⟩ | z
      · exact ih xs (by simp at hl; omega) z
      · exact m.tg as z
  exact fun as => key as.length as (Nat.le_refl _)
theorem MvA.tf' (m : MvA E E' f n g n2 t pf pg) : ∀ as, leadE E' t as ≠ some f := fun as e => by
  rcases m.h.swap.uses e with ⟨xs, ys, rfl, z, z2⟩ | z
  · rcases m.h.swap.uses z2 with ⟨xs2, ys2, rfl, z3, _⟩ | z3
    · exact m.tg' xs2 z3
    · exact m.tf ys z3
  · exact m.tf as z
theorem MvA.ug' (m : MvA E E' f n g n2 t pf pg) : ∀ as, leadE E' 0 as = some g → as = pg := fun as e => by
  rcases m.h.swap.uses e with ⟨xs, ys, rfl, z, z2⟩ | z
  · exact absurd z2 (m.tg' ys)
  · exact m.ug as z
theorem MvA.uf' (m : MvA E E' f n g n2 t pf pg) : ∀ as, leadE E' 0 as = some f → as = pf := fun as e => by
  rcases m.h.swap.uses e with ⟨xs, ys, rfl, z, z2⟩ | z
  · exact absurd z2 (m.tf' ys)
  · exact m.uf as z
theorem MvA.swap (m : MvA E E' f n g n2 t pf pg) : MvA E' E g n2 f n t pg pf := ⟨m.h.swap, m.lg', m.ug', m.lf', m.uf', m.tg', m.tf'⟩
/-- where a way goes on -/
def mvL (pf : List Str) (n : Str) (pg : List Str) (n2 : Str) (ms : List Str) : List Str := if (pf ++ [n]) <+: ms then pg ++ n2 :: ms.drop (pf.length + 1) else ms
theorem mv_hit (bs : List Str) : mvL pf n pg n2 (pf ++ n :: bs) = pg ++ n2 :: bs := by
  unfold mvL
  rw [if_pos ⟨bs, by simp⟩]
  congr 2
  rw [show pf ++ n :: bs = (pf ++ [n]) ++ bs by simp, List.drop_left' (by simp)]
theorem mv_miss {ms : List Str} (h : ∀ bs, ms ≠ pf ++ n :: bs) : mvL pf n pg n2 ms = ms := by
  unfold mvL
  rw [if_neg]
  rintro ⟨bs, e⟩
  exact h bs (by rw [← e]; simp)
theorem MvA.fwd (m : MvA E E' f n g n2 t pf pg) {ms : List Str} {k : Int} (e : leadE E 0 ms = some k) : leadE E' 0 (mvL pf n pg n2 ms) = some k ∧ mvL pg n2 pf n (mvL pf n pg n2 ms) = ms := by
  rcases m.h.uses e with ⟨as, bs, rfl, z1, z2⟩ | z
  · obtain rfl := m.uf as z1
    rw [mv_hit, mv_hit]
    refine ⟨?_, rfl⟩
    rw [leadE_app, m.lg']
    show (E' g n2).bind _ = _
    rw [m.h.new]
    exact m.h.far m.tf z2
  · have h1 : ∀ bs, ms ≠ pf ++ n :: bs := fun bs y => by
      rw [y, leadE_app, m.lf'] at z
      have z : (E' f n).bind _ = some k := z
      rw [m.h.gone] at z
      cases z
    have h2 : ∀ bs, ms ≠ pg ++ n2 :: bs := fun bs y => by
      rw [y, leadE_app, m.lg] at e
      have e : (E g n2).bind _ = some k := e
      rw [m.h.was] at e
      cases e
    rw [mv_miss h1, mv_miss h2]
    exact ⟨z, rfl⟩
theorem MvA.bwd (m : MvA E E' f n g n2 t pf pg) {ms : List Str} {k : Int} (e : leadE E' 0 ms = some k) : leadE E 0 (mvL pg n2 pf n ms) = some k ∧ mvL pf n pg n2 (mvL pg n2 pf n ms) = ms := m.swap.fwd e
end
/-! ### a shelf's ways -/
theorem entry_es {s : Sf} {m : Nat} (h : s.ok m) {a b : Int} {x : Str} : s.entry a x = some b ↔ (a, x, b) ∈ s.es := by
  constructor
  · intro e
    obtain ⟨l, hl, hx⟩ := entry_some e
    exact ents_mem.mpr ⟨l, aget_mem hl, aget_mem hx⟩
  · intro e
    obtain ⟨l, hl, hx⟩ := ents_mem.mp (show (a, x, b) ∈ entsOf s.fo from e)
    unfold Sf.entry
    rw [aget_of h.ndo hl]
    exact aget_of (h.nde _ hl) hx
theorem lead_last {s : Sf} {ns : List Str} {x : Str} {a k : Int} (e : s.lead a (ns ++ [x]) = some k) : ∃ b, s.lead a ns = some b ∧ s.entry b x = some k := by
  rw [lead_E, leadE_app] at e
  obtain ⟨b, hb, e2⟩ := Option.bind_eq_some_iff.mp e
  refine ⟨b, by rw [lead_E]; exact hb, ?_⟩
  obtain ⟨c, hc, e3⟩ := Option.bind_eq_some_iff.mp (show (s.entry b x).bind _ = some k from e2)
  have e3 : some c = some k := e3
  cases e3
  exact hc
theorem lead_uniq {s : Sf} {m : Nat} (h : s.ok m) : ∀ (as bs : List Str) {k : Int}, s.isFo k → s.lead 0 as = some k → s.lead 0 bs = some k → as = bs := by
  have key : ∀ N, ∀ (as bs : List Str) {k : Int}, as.length ≤ N → s.isFo k → s.lead 0 as = some k → s.lead 0 bs = some k → as = bs := by
    intro N
    induction N with
    | zero =>
      intro as bs k hl hk e1 e2
      obtain rfl := List.length_eq_zero_iff.mp (Nat.le_zero.mp hl)
      have e1 : some (0 : Int) = some k := e1
      cases e1
      rcases List.eq_nil_or_concat bs with rfl | ⟨bs', y, rfl⟩
      · rfl
      · rw [List.concat_eq_append] at e2
        obtain ⟨b, _, hb⟩ := lead_last e2
        exact absurd rfl (h.non0 _ ((entry_es h).mp hb))
    | succ N ih =>
      intro as bs k hl hk e1 e2
      rcases List.eq_nil_or_concat as with rfl | ⟨as', x, rfl⟩
      · have e1 : some (0 : Int) = some k := e1
        cases e1
        rcases List.eq_nil_or_concat bs with rfl | ⟨bs', y, rfl⟩
        · rfl
        · rw [List.concat_eq_append] at e2
          obtain ⟨b, _, hb⟩ := lead_last e2
          exact absurd rfl (h.non0 _ ((entry_es h).mp hb))
      · rw [List.concat_eq_append] at *
        obtain ⟨b, hb1, hb⟩ := lead_last e1
        have hbe := (entry_es h).mp hb
        rcases List.eq_nil_or_concat bs with rfl | ⟨bs', y, rfl⟩
        · have e2 : some (0 : Int) = some k := e2
          cases e2
          exact absurd rfl (h.non0 _ hbe)
        · rw [List.concat_eq_append] at *
          obtain ⟨b2, hb2, hbb⟩ := lead_last e2
          have hbe2 := (entry_es h).mp hbb
          have eq := h.uniq hbe hbe2 rfl hk
          cases eq
          rw [ih as' bs' (by simp at hl; omega) (h.srcE hbe) hb1 hb2]
  exact fun as bs => key as.length as bs (Nat.le_refl _)
theorem lead_ex {s : Sf} {m : Nat} (h : s.ok m) : ∀ {k : Int}, s.isFo k ∨ s.isFi k → ∃ ns, s.lead 0 ns = some k := by
  obtain ⟨dp, hd⟩ := h.rank
  have key : ∀ N, ∀ {k : Int}, dp k ≤ N → s.isFo k → ∃ ns, s.lead 0 ns = some k := by
    intro N
    induction N with
    | zero =>
      intro k hk hf
      by_cases h0 : k = 0
      · exact ⟨[], by rw [h0]; rfl⟩
      · obtain ⟨e, he, rfl⟩ := List.mem_map.mp (h.has k (.inl hf) h0)
        have := hd e he hf
        omega
    | succ N ih =>
      intro k hk hf
      by_cases h0 : k = 0
      · exact ⟨[], by rw [h0]; rfl⟩
      · obtain ⟨e, he, rfl⟩ := List.mem_map.mp (h.has k (.inl hf) h0)
        have hlt := hd e he hf
        obtain ⟨ns, hns⟩ := ih (by omega) (h.srcE he)
        refine ⟨ns ++ [e.2.1], ?_⟩
        rw [lead_E] at hns ⊢
        rw [leadE_app, hns]
        show (s.entry e.1 e.2.1).bind _ = _
        rw [(entry_es h).mpr he]
        rfl
  intro k hk
  rcases hk with hk | hk
  · exact key (dp k) (Nat.le_refl _) hk
  · have h0 : k ≠ 0 := fun e => h.dis 0 h.root (e ▸ hk)
    obtain ⟨e, he, rfl⟩ := List.mem_map.mp (h.has k (.inr hk) h0)
    obtain ⟨ns, hns⟩ := key _ (Nat.le_refl _) (h.srcE he)
    refine ⟨ns ++ [e.2.1], ?_⟩
    rw [lead_E] at hns ⊢
    rw [leadE_app, hns]
    show (s.entry e.1 e.2.1).bind _ = _
    rw [(entry_es h).mpr he]
    rfl
theorem lead_reach {s : Sf} {m : Nat} (h : s.ok m) : ∀ {ns : List Str} {a k : Int}, s.lead a ns = some k → Reach s.es a k
  | [], a, k, e => by
    have e : some a = some k := e
    cases e
    exact .refl _
  | x :: r, a, k, e => by
    obtain ⟨b, hb, e2⟩ := Option.bind_eq_some_iff.mp (show (s.entry a x).bind _ = some k from e)
    exact .step ((entry_es h).mp hb) (lead_reach h e2)
theorem lead_is {s : Sf} {m : Nat} (h : s.ok m) {ns : List Str} {k : Int} (e : s.lead 0 ns = some k) : s.isFo k ∨ s.isFi k := by
  rcases List.eq_nil_or_concat ns with rfl | ⟨ns', x, rfl⟩
  · have e : some (0 : Int) = some k := e
    cases e
    exact .inl h.root
  · rw [List.concat_eq_append] at e
    obtain ⟨b, _, hb⟩ := lead_last e
    exact h.tgt _ ((entry_es h).mp hb)
/-! ### entries behind a move, a drop -/
theorem entry_take {s : Sf} {f : Int} {n : Str} {l : List Ent} (hl : aget s.fo f = some l) (a : Int) (x : Str) : (aget (takeE s.fo f n) a).bind (fun l => aget l x) = if f = a ∧ n = x then none else s.entry a x := by
  unfold takeE
  rw [hl]
  dsimp only
  rw [aget_put]
  by_cases e : f = a
  · subst e
    rw [if_pos rfl]
    show aget (adel l n) x = _
    rw [aget_del]
    by_cases e2 : n = x
    · rw [if_pos e2, if_pos ⟨rfl, e2⟩]
    · rw [if_neg e2, if_neg (fun z => e2 z.2)]
      unfold Sf.entry; rw [hl]; rfl
  · rw [if_neg e, if_neg (fun z => e z.1)]; rfl
theorem entry_put {fo : List (Int × List Ent)} {g t : Int} {n2 : Str} {lg : List Ent} (hl : aget fo g = some lg) (a : Int) (x : Str) : (aget (putE fo g n2 t) a).bind (fun l => aget l x) = if g = a ∧ n2 = x then some t else (aget fo a).bind (fun l => aget l x) := by
  unfold putE
  rw [hl]
  dsimp only
  rw [aget_put]
  by_cases e : g = a
  · subst e
    rw [if_pos rfl]
    show aget (aset lg n2 t) x = _
    rw [aget_put]
    by_cases e2 : n2 = x
    · rw [if_pos e2, if_pos ⟨rfl, e2⟩]
    · rw [if_neg e2, if_neg (fun z => e2 z.2), hl]; rfl
  · rw [if_neg e, if_neg (fun z => e z.1)]
theorem move_entry {s : Sf} {m : Nat} (h : s.ok m) {f g : Int} {n n2 : Str} (hf : s.fault (.move f n g n2) = "") : ∃ t, s.entry f n = some t ∧ s.entry g n2 = none ∧ ¬ Reach s.es t g ∧ s.isFo f ∧ s.isFo g ∧ (s.act (.move f n g n2)).1 = ⟨putE (takeE s.fo f n) g n2 t, s.fi, s.last⟩ ∧
    (s.act (.move f n g n2)).2 = okD ∧ ∀ a x, (s.act (.move f n g n2)).1.entry a x = if g = a ∧ n2 = x then some t else if f = a ∧ n = x then none else s.entry a x := by
  obtain ⟨hff, hfg, t, hen, _, h5, hr⟩ := moveF_nil hf
  obtain ⟨l, hl, _⟩ := entry_some hen
  have ea : s.act (.move f n g n2) = (⟨putE (takeE s.fo f n) g n2 t, s.fi, s.last⟩, okD) := by
    show (match s.entry f n with | none => (s, okD) | some t => _) = _
    rw [hen]
  refine ⟨t, hen, h5, hr, hff, hfg, by rw [ea], by rw [ea], fun a x => ?_⟩
  rw [ea]
  obtain ⟨lg, hlg⟩ := aget_some hfg
  have hlg2 : ∃ lg2, aget (takeE s.fo f n) g = some lg2 := by
    unfold takeE
    rw [hl]
    dsimp only
    rw [aget_put]
    by_cases e : f = g
    · rw [if_pos e]; exact ⟨_, rfl⟩
    · rw [if_neg e]; exact ⟨_, hlg⟩
  obtain ⟨lg2, hlg2⟩ := hlg2
  show (aget (putE (takeE s.fo f n) g n2 t) a).bind (fun l => aget l x) = _
  rw [entry_put hlg2, entry_take hl]
theorem reach_fo {s : Sf} {m : Nat} (h : s.ok m) {a c : Int} (r : Reach s.es a c) (hc : s.isFo c) : s.isFo a := by
  cases r with
  | refl => exact hc
  | step e _ => exact h.srcE e
theorem reach_dp {s : Sf} {m : Nat} (h : s.ok m) {dp : Int → Nat} (hd : ∀ e ∈ s.es, s.isFo e.2.2 → dp e.1 < dp e.2.2) {a c : Int} (r : Reach s.es a c) (hc : s.isFo c) : dp a ≤ dp c := by
  induction r with
  | refl => exact Nat.le_refl _
  | step e r ih =>
    have h1 : _ < _ := hd _ e (reach_fo h r hc)
    exact Nat.le_trans (Nat.le_of_lt h1) (ih hc)
theorem move_mv {s : Sf} {m : Nat} (h : s.ok m) {f g : Int} {n n2 : Str} (hf : s.fault (.move f n g n2) = "") : ∃ t pf pg, s.entry f n = some t ∧ s.lead 0 pf = some f ∧ s.lead 0 pg = some g ∧ MvA s.entry (s.act (.move f n g n2)).1.entry f n g n2 t pf pg := by
  obtain ⟨t, h1, h2, h3, h4, h5, _, _, h6⟩ := move_entry h hf
  obtain ⟨pf, hpf⟩ := lead_ex h (.inl h4)
  obtain ⟨pg, hpg⟩ := lead_ex h (.inl h5)
  have ne : ¬ (g = f ∧ n2 = n) := fun z => by rw [z.1, z.2, h1] at h2; cases h2
  have tr : ∀ {a k : Int} {as : List Str}, leadE s.entry a as = some k → Reach s.es a k := fun e => lead_reach h (by rw [lead_E]; exact e)
  refine ⟨t, pf, pg, h1, hpf, hpg, ⟨h1, by rw [h6, if_neg ne, if_pos ⟨rfl, rfl⟩], by rw [h6, if_pos ⟨rfl, rfl⟩], h2, fun a x z1 z2 => ?_⟩, by rw [← lead_E]; exact hpf, fun as e => ?_, by rw [← lead_E]; exact hpg, fun as e => ?_, fun as e => ?_, fun as e => h3 (tr e)⟩
  · rw [h6, if_neg (fun y => z2 ⟨y.1.symm, y.2.symm⟩), if_neg (fun y => z1 ⟨y.1.symm, y.2.symm⟩)]
  · exact lead_uniq h as pf h4 (by rw [lead_E]; exact e) hpf
  · exact lead_uniq h as pg h5 (by rw [lead_E]; exact e) hpg
  · obtain ⟨dp, hd⟩ := h.rank
    have r := tr e
    have h7 : dp f < dp t := hd _ ((entry_es h).mp h1) (reach_fo h r h4)
    have h8 := reach_dp h hd r h4
    omega
/-! ### the texts of ways -/
def pcs (ns : List Str) : List Nat := ns.flatMap fun n => 47 :: n.cps.toList
theorem pathT_pcs : ∀ (ns : List Str) (t : Str), (pathT t ns).cps.toList = t.cps.toList ++ pcs ns
  | [], t => by show t.cps.toList = _; unfold pcs; simp
  | n :: r, t => by
    show (pathT ((t ++ "/") ++ n) r).cps.toList = _
    rw [pathT_pcs r, cps_app, cps_app, slash_eq]
    unfold pcs
    simp
theorem pcs_app (a b : List Str) : pcs (a ++ b) = pcs a ++ pcs b := List.flatMap_append
theorem pcs_pre : ∀ {L ms : List Str} {R : List Nat}, (∀ n ∈ L, 47 ∉ n.cps.toList) → (∀ n ∈ ms, 47 ∉ n.cps.toList) → pcs ms = pcs L ++ R → (R = [] ∨ ∃ R', R = 47 :: R') → L <+: ms
  | [], ms, _, _, _, _, _ => List.nil_prefix
  | x :: L, [], R, _, _, e, _ => by
    unfold pcs at e
    simp at e
  | x :: L, y :: ms, R, hL, hm, e, hR => by
    have e1 : pcs (y :: ms) = 47 :: (y.cps.toList ++ pcs ms) := rfl
    have e2 : pcs (x :: L) = 47 :: (x.cps.toList ++ pcs L) := rfl
    rw [e1, e2, List.cons_append] at e
    have e3 := (List.cons.inj e).2
    rw [List.append_assoc] at e3
    have hx := hL x (.head _)
    have hy := hm y (.head _)
    have tail : ∀ (A : List Str) (R : List Nat), (R = [] ∨ ∃ R', R = 47 :: R') → pcs A ++ R = [] ∨ ∃ R', pcs A ++ R = 47 :: R' := fun A R hR => by
      cases A with
      | nil => exact hR
      | cons z A => exact .inr ⟨_, rfl⟩
    rcases tail ms [] (.inl rfl) with h1 | ⟨A1, h1⟩
    · rw [List.append_nil] at h1
      rw [h1, List.append_nil] at e3
      rcases tail L R hR with h2 | ⟨A2, h2⟩
      · rw [h2, List.append_nil] at e3
        have : y = x := str_ext e3
        subst this
        have hp : L <+: ms := pcs_pre (fun n hn => hL n (.tail _ hn)) (fun n hn => hm n (.tail _ hn)) (R := R) (by rw [h1, h2]) hR
        obtain ⟨bs, hb⟩ := hp
        exact ⟨bs, by rw [← hb]; rfl⟩
      · exfalso
        rw [h2] at e3
        exact hy (by rw [e3]; simp)
    · rw [List.append_nil] at h1
      rw [h1] at e3
      rcases tail L R hR with h2 | ⟨A2, h2⟩
      · exfalso
        rw [h2, List.append_nil] at e3
        exact hx (by rw [← e3]; simp)
      · rw [h2] at e3
        obtain ⟨h3, h4⟩ := free_cut hy hx e3
        have : y = x := str_ext h3
        subst this
        have hp : L <+: ms := pcs_pre (fun n hn => hL n (.tail _ hn)) (fun n hn => hm n (.tail _ hn)) (R := R) (by rw [h1, h2, h4]) hR
        obtain ⟨bs, hb⟩ := hp
        exact ⟨bs, by rw [← hb]; rfl⟩
/-- a text that goes on as its folder's does -/
def mvT (o nw z : Str) : Str := if z = o ∨ cutS z none (some ((o.length : Int) + 1)) = o ++ "/" then nw ++ cutS z (some (o.length : Int)) none else z
theorem cut_to (z : Str) (k : Nat) : (cutS z none (some (k : Int))).cps.toList = z.cps.toList.take k := by
  unfold cutS
  rw [HT.sIx_none, show HT.sIx z.length z.length (some (k : Int)) = min k z.length from HT.sIx_nat _ _ k]
  have hl : z.length = z.cps.toList.length := (Array.length_toList).symm
  rw [hl]
  simp
theorem cut_of (z : Str) (k : Nat) : (cutS z (some (k : Int)) none).cps.toList = z.cps.toList.drop k := by
  unfold cutS
  rw [HT.sIx_none, show HT.sIx z.length 0 (some (k : Int)) = min k z.length from HT.sIx_nat _ _ k]
  have hl : z.length = z.cps.toList.length := (Array.length_toList).symm
  rw [hl]
  by_cases h : k ≤ z.cps.toList.length
  · rw [Nat.min_eq_left h]
    simp
    rw [List.take_of_length_le]
    simp
  · rw [Nat.min_eq_right (by omega)]
    simp
    rw [Array.length_toList] at h
    omega
theorem mvT_path {pf pg ms : List Str} {n n2 : Str} (hf : ∀ x ∈ pf ++ [n], nameB x = true) (hm : ∀ x ∈ ms, nameB x = true) :
    mvT (pathT "" (pf ++ [n])) (pathT "" (pg ++ [n2])) (showP (pathT "" ms)) = showP (pathT "" (mvL pf n pg n2 ms)) := by
  have e0 : ("" : Str).cps.toList = [] := by decide +kernel
  have eo : (pathT "" (pf ++ [n])).cps.toList = pcs (pf ++ [n]) := by rw [pathT_pcs, e0]; rfl
  have lo : (pathT "" (pf ++ [n])).length = (pcs (pf ++ [n])).length := by rw [← eo, Array.length_toList]; rfl
  have ez : (pathT "" ms).cps.toList = pcs ms := by rw [pathT_pcs, e0]; rfl
  have fr : ∀ {L : List Str}, (∀ x ∈ L, nameB x = true) → ∀ x ∈ L, 47 ∉ x.cps.toList := fun h x hx => sg_free x (h x hx)
  have l2 : 2 ≤ (pcs (pf ++ [n])).length := by
    have hn := name_ne (hf n (by simp))
    have : n.cps.toList ≠ [] := fun z => hn (str_ext (by rw [z, e0]))
    have h1 : 0 < n.cps.toList.length := List.length_pos_iff.mpr this
    rw [pcs_app, List.length_append]
    have : (pcs [n]).length = n.cps.toList.length + 1 := by unfold pcs; simp
    omega
  cases ms with
  | nil =>
    have hz : showP (pathT "" []) = "/" := by decide +kernel
    have h1 : mvL pf n pg n2 [] = [] := by
      refine mv_miss fun bs z => ?_
      have := congrArg List.length z
      simp at this
    rw [h1, hz]
    unfold mvT
    have hs : ("/" : Str).cps.toList = [47] := by decide +kernel
    rw [if_neg]
    rintro (z | z)
    · have := congrArg (fun y : Str => y.cps.toList.length) z
      simp only [hs, eo] at this
      simp at this; omega
    · have h3 := congrArg (fun y : Str => y.cps.toList) z
      simp only [cps_app, eo, hs] at h3
      rw [show ((pathT "" (pf ++ [n])).length : Int) + 1 = (((pathT "" (pf ++ [n])).length + 1 : Nat) : Int) from rfl, cut_to, hs] at h3
      have h4 := congrArg List.length h3
      rw [List.length_take, List.length_append] at h4
      simp only [List.length_cons, List.length_nil] at h4
      omega
  | cons x r =>
    have hne := pathT_ne hm
    have hz : showP (pathT "" (x :: r)) = pathT "" (x :: r) := if_neg hne.1
    rw [hz]
    by_cases hp : (pf ++ [n]) <+: x :: r
    · obtain ⟨bs, hb⟩ := hp
      have hb2 : x :: r = pf ++ n :: bs := by rw [← hb]; simp
      rw [hb2, mv_hit]
      have hr : showP (pathT "" (pg ++ n2 :: bs)) = pathT "" (pg ++ n2 :: bs) := by
        refine if_neg fun z => ?_
        have := congrArg (fun y : Str => y.cps.toList.length) z
        simp only [pathT_pcs, e0, pcs_app] at this
        have e5 : pcs (n2 :: bs) = 47 :: (n2.cps.toList ++ pcs bs) := rfl
        rw [e5] at this
        simp at this
      rw [hr]
      have ezz : (pathT "" (pf ++ n :: bs)).cps.toList = pcs (pf ++ [n]) ++ pcs bs := by
        rw [pathT_pcs, e0, ← pcs_app]; simp
      unfold mvT
      rw [if_pos]
      · refine str_ext ?_
        rw [cps_app, cut_of, ezz, lo, List.drop_left' rfl, pathT_pcs, pathT_pcs, e0, List.nil_append, List.nil_append, ← pcs_app]
        simp
      · cases bs with
        | nil => exact .inl rfl
        | cons y bs =>
          right
          refine str_ext ?_
          rw [show ((pathT "" (pf ++ [n])).length : Int) + 1 = (((pathT "" (pf ++ [n])).length + 1 : Nat) : Int) from rfl, cut_to, ezz, lo, cps_app, eo, slash_eq]
          have e5 : pcs (y :: bs) = 47 :: (y.cps.toList ++ pcs bs) := rfl
          rw [e5, List.take_length_add_append]
          rfl
    · rw [mv_miss fun bs z => hp ⟨bs, by rw [z]; simp⟩, hz]
      unfold mvT
      rw [if_neg]
      rintro (z | z)
      · have h9 := congrArg (fun y : Str => y.cps.toList) z
        simp only [ez, eo] at h9
        exact hp (pcs_pre (R := []) (fr hf) (fr hm) (by rw [h9, List.append_nil]) (.inl rfl))
      · have h9 := congrArg (fun y : Str => y.cps.toList) z
        simp only [cps_app, eo, slash_eq] at h9
        rw [show ((pathT "" (pf ++ [n])).length : Int) + 1 = (((pathT "" (pf ++ [n])).length + 1 : Nat) : Int) from rfl, cut_to, ez, lo] at h9
        have h10 := (List.take_append_drop ((pcs (pf ++ [n])).length + 1) (pcs (x :: r))).symm
        rw [h9] at h10
        exact hp (pcs_pre (R := 47 :: (pcs (x :: r)).drop ((pcs (pf ++ [n])).length + 1)) (fr hf) (fr hm) (by rw [h10]; simp) (.inr ⟨_, rfl⟩))
end FS

set_option Elab.async false
set_option maxRecDepth 100000
set_option linter.all false
/-! FsZipM: zip of a tuple and a list. -/
namespace FS
open PySem PySem.Spec PyProof.Rows L2 Evl
/-- the tuple at a and the list at b, the items in new pairs; it ends where the shorter one ends -/
def ItzM (K : PySem.W.Frag) (a b : Addr) : It :=
  { go := fun i H => ∃ (xs ys : List V) (x y : V), SqT K H a xs ∧ SqL K H b ys ∧ xs[i]? = some x ∧ ys[i]? = some y
    yld := fun i H v H' => ∃ (T : Addr) (x y : V), v = .ref T ∧ H T = none ∧ H' = upd H T (.tup [x, y]) ∧ (∀ xs, SqT K H a xs → xs[i]? = some x) ∧ (∀ ys, SqL K H b ys → ys[i]? = some y)
    stop := fun i H => ∃ xs ys : List V, SqT K H a xs ∧ SqL K H b ys ∧ i = min xs.length ys.length }
theorem turn_zipM {P : Program} {w : World} {K : PySem.W.Frag} {es : List Expr} {k0 : Nat} {tp : Pos} {a b z TI TO i1 i2 : Addr} (S : ZipSep2 z TI TO i1 i2 [i1, a] [i2, b]) :
    Turn P w K (.Tuple es k0 tp) (ItzM K a b) [z, TI, TO, i1, i2] z (fun i h => IsZip h z TI TO .none ∧ IsTupOf2 h TI (.ref i1) (.ref i2) ∧ (∃ x y, IsTupOf2 h TO x y) ∧ h.IsTupleIter i1 a i ∧ h.IsListIter i2 b i) where
  mem := List.mem_cons_self
  obj := by
    rintro i h ⟨h1, h2, ⟨x, y, h3⟩, ⟨o4, q4, _, d4⟩, ⟨o5, q5, _, d5⟩⟩ c hc
    simp only [List.mem_cons, List.not_mem_nil, or_false] at hc
    rcases hc with rfl | rfl | rfl | rfl | rfl
    · exact ⟨_, h1, fun v q => nomatch q⟩
    · exact ⟨_, h2, fun v q => nomatch q⟩
    · exact ⟨_, h3, fun v q => nomatch q⟩
    · exact ⟨o4, q4, fun v q => by rw [d4] at q; cases q⟩
    · exact ⟨o5, q5, fun v q => by rw [d5] at q; cases q⟩
  keep := by
    rintro i h h' ⟨h1, h2, ⟨x, y, h3⟩, h4, h5⟩ kp
    refine ⟨kp z (by simp) _ h1, kp TI (by simp) _ h2, ⟨x, y, kp TO (by simp) _ h3⟩, ?_, ?_⟩
    · exact h4.at fun o q => kp i1 (by simp) o q
    · exact h5.at fun o q => kp i2 (by simp) o q
  item := by
    intro X e1 e2 e3 hc i pins s σ H E I hf st hg
    subst e1 e2 e3
    obtain ⟨h1, h2, h3, h4, h5⟩ := st
    obtain ⟨xs, ys, x, y, qx, qy, gx, gy⟩ := hg
    obtain ⟨us, rv, px, _⟩ := I.tuple qx
    obtain ⟨vs, rw_, py, _⟩ := I.list qy
    obtain ⟨u, hu, ru⟩ := rv.get gx
    obtain ⟨v, hv, rv2⟩ := rw_.get gy
    have hA : X.A.in1.handled = none := I.ok.hd hc
    have n1 : a ≠ i1 := fun e => by
      obtain ⟨o, ho, hcl, _⟩ := h4
      obtain ⟨o', ho', hcl', _⟩ := px
      rw [← e, ho'] at ho
      cases ho
      rw [hcl'] at hcl
      exact absurd (Value.type.inj hcl) (by decide)
    have n2 : b ≠ i2 := fun e => by
      obtain ⟨o, ho, hcl, _⟩ := h5
      obtain ⟨o', ho', hcl', _⟩ := py.isList
      rw [← e, ho'] at ho
      cases ho
      rw [hcl'] at hcl
      exact absurd (Value.type.inj hcl) (by decide)
    have l1 : i < us.toArray.size := by simpa using (List.getElem?_eq_some_iff.mp hu).1
    have l2 : i < vs.toArray.size := by simpa using (List.getElem?_eq_some_iff.mp hv).1
    refine (GoesN.zip2 S (Draws.tuple hA i1 a n1 us.toArray) (Draws.list hA i2 b n2 vs.toArray)).goes i s _ E (by omega) ⟨h1, h2, h3, ⟨h4, px⟩, ⟨h5, py.isList⟩⟩ fun v0 h' tk hy st' hk htk => ?_
    obtain ⟨T, u', v', rfl, hT, gu, gv, hTt⟩ := hy
    have eu : u' = u := by
      have : us[i]? = some u' := by simpa using gu
      rw [hu] at this
      exact (Option.some.inj this).symm
    have ev : v' = v := by
      have : vs[i]? = some v' := by simpa using gv
      rw [hv] at this
      exact (Option.some.inj this).symm
    subst eu ev
    obtain ⟨t1, t2, t3, ⟨t4, _⟩, ⟨t5, _⟩⟩ := st'
    have nw : ObjOk X.prog X.w (upd H T (.tup [x, y])) h' T (.tup [x, y]) := ⟨(by decide : 2 ≤ sizeLine), [u', v'], .cons ru (.cons rv2 .nil), hTt⟩
    have I1 : Inv X pins σ (upd H T (.tup [x, y])) { s with heap := h', toks := tk } := I.turnedNew (ch := [z, TI, TO, i1, i2]) (fun c o hb q => hk c o (fun q' => hb (by
      simp only [List.mem_cons, List.not_mem_nil, or_false] at q' ⊢
      rcases q' with q' | q' | q' | q'
      · exact .inl q'
      · exact .inr (.inr (.inl q'))
      · exact .inr (.inr (.inr (.inl q')))
      · exact .inr (.inr (.inr (.inr q'))))) q) hf hT nw
    refine ⟨.ref T, upd H T (.tup [x, y]), I1, rfl, ⟨T, x, y, rfl, I.hok.fresh hT, rfl, fun l hl => ?_, fun l hl => ?_⟩, ⟨t1, t2, t3, t4, t5⟩, fun c hcm => ?_⟩
    · rw [I.tuple_inj hl qx]; exact gx
    · rw [I.list_inj hl qy]; exact gy
    · have hlt : c < s.heap.objs.size := by
        simp only [List.mem_cons, List.not_mem_nil, or_false] at hcm
        rcases hcm with rfl | rfl | rfl | rfl | rfl
        · exact Heap.lt_size h1
        · exact Heap.lt_size h2
        · obtain ⟨x1, y1, h3⟩ := h3; exact Heap.lt_size h3
        · obtain ⟨_, q1, _⟩ := h4; exact Heap.lt_size q1
        · obtain ⟨_, q1, _⟩ := h5; exact Heap.lt_size q1
      rw [upd_ne (Nat.ne_of_lt (Nat.lt_of_lt_of_le hlt hT))]
      exact (hf c hcm).1
  done := by
    intro X e1 e2 e3 hc i pins s σ H E I hf st hg
    subst e1 e2 e3
    obtain ⟨h1, h2, h3, h4, h5⟩ := st
    obtain ⟨xs, ys, qx, qy, hi⟩ := hg
    obtain ⟨us, rv, px, _⟩ := I.tuple qx
    obtain ⟨vs, rw_, py, _⟩ := I.list qy
    have lu := rv.length
    have lv := rw_.length
    have hA : X.A.in1.handled = none := I.ok.hd hc
    have n1 : a ≠ i1 := fun e => by
      obtain ⟨o, ho, hcl, _⟩ := h4
      obtain ⟨o', ho', hcl', _⟩ := px
      rw [← e, ho'] at ho
      cases ho
      rw [hcl'] at hcl
      exact absurd (Value.type.inj hcl) (by decide)
    have n2 : b ≠ i2 := fun e => by
      obtain ⟨o, ho, hcl, _⟩ := h5
      obtain ⟨o', ho', hcl', _⟩ := py.isList
      rw [← e, ho'] at ho
      cases ho
      rw [hcl'] at hcl
      exact absurd (Value.type.inj hcl) (by decide)
    have hi2 : i = min us.toArray.size vs.toArray.size := by
      rw [hi]
      simp
      omega
    subst hi2
    refine (GoesN.zip2 (elts := es) (x1 := k0) (pos := tp) S (Draws.tuple hA i1 a n1 us.toArray) (Draws.list hA i2 b n2 vs.toArray)).stops s _ E ⟨h1, h2, h3, ⟨h4, px⟩, ⟨h5, py.isList⟩⟩ fun h' tk hk htk => ?_
    exact I.turnedL (ch := [z, TI, TO, i1, i2]) (fun c o hb q => hk c o (fun q' => hb (by
      simp only [List.mem_cons, List.not_mem_nil, or_false] at q' ⊢
      rcases q' with q' | q' | q' | q'
      · exact .inl q'
      · exact .inr (.inr (.inl q'))
      · exact .inr (.inr (.inr (.inl q')))
      · exact .inr (.inr (.inr (.inr q'))))) q) hf
  self := fun A i s Q E st h => wpAny_pyIter_zip st.1 h
def iZipM (K : PySem.W.Frag) (ta : TA) : TI := fun σ H R => ta σ H fun vs H1 => ∃ (a b : Addr) (xs ys : List V), vs = [.ref a, .ref b] ∧ SqT K H1 a xs ∧ SqL K H1 b ys ∧ R (ItzM K a b) H1
theorem piZM {X : Cx} {K : PySem.W.Frag} {e e2 : Expr} {t : TA} {p pos tp : Pos} {es : List Expr} {k0 : Nat} (hK : X.K = K) (hg : Gl X "zip") (hm : X.mg "zip" = none) (ha : PA X [e, e2] t)
    (hst : starEach [e, e2] X.env = (false, eval e X.env) :: starEach [e2] X.env := by rfl) (hpl : (backTo pos (starEach [e2] X.env)).any (·.1) = false := by rfl) :
    PI X (.Tuple es k0 tp) (.Call (.Name "zip" p) [e, e2] [] pos) (iZipM K t) := by
  subst hK
  refine ⟨fun pins s σ H R I h => ?_⟩
  refine Call_ (ld_blt I hg hm PyProof.Rows.boot_zip (PyProof.Rows.callWith_type1 (thn (ha.run pos pins s σ H _ I h) fun us s1 ⟨vs, H1, I1, r1, q1⟩ => ?_) hst hpl))
  obtain ⟨a, b, xs, ys, ex, qx, qy, q⟩ := q1
  subst ex
  obtain ⟨u1, u2, eu, ra, rb⟩ : ∃ u1 u2, us = [u1, u2] ∧ RelV (.ref a) u1 ∧ RelV (.ref b) u2 := by
    cases r1 with
    | cons ra rr =>
    cases rr with
    | cons rb rr =>
    cases rr
    exact ⟨_, _, rfl, ra, rb⟩
  subst eu
  obtain rfl : u1 = Value.ref a := ra
  obtain rfl : u2 = Value.ref b := rb
  obtain ⟨its, _, px, _⟩ := I1.tuple qx
  obtain ⟨its2, _, py, _⟩ := I1.list qy
  have la : a < s1.heap.objs.size := by obtain ⟨o, ho, _⟩ := id px; exact Heap.lt_size ho
  have lb : b < s1.heap.objs.size := by obtain ⟨o, ho, _⟩ := id py.isList; exact Heap.lt_size ho
  refine zip_begins2 (begins_tuple a its.toArray) (begins_list b its2.toArray) px py.isList fun h' hz hTI hTO h1 h2 hsz hk => wpAny_pyIter_zip hz ?_
  refine ⟨_, [s1.heap.objs.size + 4, s1.heap.objs.size + 2, s1.heap.objs.size + 3, s1.heap.objs.size, s1.heap.objs.size + 1], _, ItzM X.K a b, H1, rfl, I1.kept (t' := s1.toks) hk, turn_zipM (zip_sep2 (fun c hc => by rw [List.mem_singleton.mp hc]; exact la) (fun c hc => by rw [List.mem_singleton.mp hc]; exact lb)), ⟨hz, hTI, ⟨_, _, hTO⟩, ⟨_, h1, rfl, rfl⟩, ⟨_, h2, rfl, rfl⟩⟩, fun c hc => ?_, q⟩
  have hle : s1.heap.objs.size ≤ c := by
    simp only [List.mem_cons, List.not_mem_nil, or_false] at hc
    rcases hc with rfl | rfl | rfl | rfl | rfl <;> omega
  exact I1.fpOk hle (I1.hok.fresh hle)
theorem i_iZipM {K : PySem.W.Frag} {ta : TA} {σ : L2.St} {H : Hp} {R : It → Hp → Prop} (h : ta σ H fun vs H1 => ∃ (a b : Addr) (xs ys : List V), vs = [.ref a, .ref b] ∧ SqT K H1 a xs ∧ SqL K H1 b ys ∧ R (ItzM K a b) H1) : iZipM K ta σ H R := h
instance st_iZipM {K : PySem.W.Frag} {ta : TA} {σ : L2.St} {H : Hp} {R : It → Hp → Prop} : StOf (@i_iZipM K ta σ H R) := ⟨@i_iZipM K ta σ H R⟩
/-- a loop over zip of a tuple and a list -/
theorem l_zipM {K : PySem.W.Frag} {a b : Addr} {xs ys : List V} {g : TG} {tb : TS} {D : Ends} {σ : L2.St} {H : Hp} (qx : SqT K H a xs) (qy : SqL K H b ys) (Pv : Nat → L2.St → Hp → Prop) (h0 : Pv 0 σ H) (hq : ∀ i σ H, i ≤ min xs.length ys.length → Pv i σ H → SqT K H a xs ∧ SqL K H b ys)
    (hs : ∀ (i : Nat) x y T σ H, xs[i]? = some x → ys[i]? = some y → Pv i σ H → H T = none → g (.ref T) σ (upd H T (.tup [x, y])) fun σ2 H2 => tb { D with nx := Pv (i + 1), ct := Pv (i + 1), bk := D.nx } σ2 H2) (hd : ∀ σ H, Pv (min xs.length ys.length) σ H → D.nx σ H) :
    ∃ a' b' xs' ys', [V.ref a, V.ref b] = [.ref a', .ref b'] ∧ SqT K H a' xs' ∧ SqL K H b' ys' ∧ ∃ W : Nat → Nat → L2.St → Hp → Prop, (∃ m, W 0 m σ H) ∧ ∀ i m σ H, W i m σ H →
      ((ItzM K a' b').stop i H ∧ D.nx σ H) ∨ ((ItzM K a' b').go i H ∧ ∃ N : L2.St → Hp → Prop, (∀ σ' H', N σ' H' → ∃ m', m' < m ∧ W (i + 1) m' σ' H') ∧ ∀ x H', (ItzM K a' b').yld i H x H' → g x σ H' fun σ2 H2 => tb { D with nx := N, ct := N, bk := D.nx } σ2 H2) := by
  refine ⟨a, b, xs, ys, rfl, qx, qy, fun i m σ H => m = min xs.length ys.length - i ∧ i ≤ min xs.length ys.length ∧ Pv i σ H, ⟨min xs.length ys.length, by simp, Nat.zero_le _, h0⟩, ?_⟩
  rintro i m σ H ⟨rfl, hi, p⟩
  obtain ⟨q1, q2⟩ := hq i σ H hi p
  by_cases hlt : i < min xs.length ys.length
  · have l1 : i < xs.length := by omega
    have l2 : i < ys.length := by omega
    refine .inr ⟨⟨xs, ys, xs[i], ys[i], q1, q2, by simp [l1], by simp [l2]⟩, Pv (i + 1), fun σ' H' p' => ⟨min xs.length ys.length - (i + 1), by omega, rfl, hlt, p'⟩, fun x H' y => ?_⟩
    obtain ⟨T, x1, y1, rfl, hT, rfl, f1, f2⟩ := y
    exact hs i x1 y1 T σ H (f1 xs q1) (f2 ys q2) p hT
  · have e : i = min xs.length ys.length := by omega
    subst e
    exact .inl ⟨⟨xs, ys, q1, q2, rfl⟩, hd σ H p⟩
end FS

set_option Elab.async false
set_option maxRecDepth 100000
set_option linter.all false
/-! FsStory2: the first fault of a story, in plain terms; stories in order; rows read. -/
namespace FS
open PySem PySem.Spec PyProof.Rows L2 Evl
instance st_dnewT {σ : L2.St} {H : Hp} {Q : VK} : StOf (@i_dnewT σ H Q) := ⟨@i_dnewT σ H Q⟩
def asksAt (rows : List SRow) (i : Nat) : Asks := (List.range i).foldl (fun (A : Asks) (j : Nat) => match rows[j]? with | some (SRow.ask h n q) => aset A (h, n) ((j : Int), q) | _ => A) []
theorem asksAt_succ (rows : List SRow) (i : Nat) : asksAt rows (i + 1) = match rows[i]? with | some (SRow.ask h n q) => aset (asksAt rows i) (h, n) ((i : Int), q) | _ => asksAt rows i := by
  unfold asksAt
  rw [List.range_succ, List.foldl_append]
  rfl
def fitA : SAns → SReq → Prop
  | .shut _ _, .shut _ _ _ => True
  | .shut _ _, _ => False
  | .joined _, .join _ => True
  | .joined _, _ => False
  | _, _ => True
structure Wf (rows : List SRow) : Prop where
  told : ∀ (k : Nat) (h n : Int) (a : SAns), rows[k]? = some (SRow.told h n a) → ∃ (j : Nat) (q : SReq), j < k ∧ rows[j]? = some (SRow.ask h n q) ∧ fitA a q
  one : ∀ (i j : Nat) (h n : Int) (q q' : SReq), rows[i]? = some (SRow.ask h n q) → rows[j]? = some (SRow.ask h n q') → i = j
theorem Wf.nil : Wf [] := ⟨fun k h n a e => by simp at e, fun i j h n q q' e => by simp at e⟩
theorem Wf.take {rows : List SRow} (w : Wf rows) (m : Nat) : Wf (rows.take m) := by
  have g : ∀ {i : Nat} {r : SRow}, (rows.take m)[i]? = some r → i < m ∧ rows[i]? = some r := fun {i r} e => by
    rw [List.getElem?_take] at e
    split at e
    · rename_i h; exact ⟨h, e⟩
    · cases e
  refine ⟨fun k h n a e => ?_, fun i j h n q q' e1 e2 => w.one i j h n q q' (g e1).2 (g e2).2⟩
  obtain ⟨hk, e⟩ := g e
  obtain ⟨j, q, hj, ej, hf⟩ := w.told k h n a e
  exact ⟨j, q, hj, by rw [List.getElem?_take, if_pos (by omega)]; exact ej, hf⟩
theorem asks_get {rows : List SRow} (w : Wf rows) {j : Nat} {h n : Int} {q : SReq} (e : rows[j]? = some (.ask h n q)) : ∀ i, j < i → aget (asksAt rows i) (h, n) = some ((j : Int), q)
  | 0, hl => by omega
  | i + 1, hl => by
    rw [asksAt_succ]
    by_cases hij : i = j
    · subst hij
      rw [e]
      dsimp only
      rw [aget_put, if_pos rfl]
    · have ih := asks_get w e i (by omega)
      cases hr : rows[i]? with
      | none => exact ih
      | some r =>
        cases r with
        | ask h' n' q' =>
          dsimp only
          rw [aget_put, if_neg, ih]
          intro z
          obtain ⟨rfl, rfl⟩ := Prod.mk.inj z
          exact hij (w.one i j _ _ _ _ hr e)
        | told _ _ _ => exact ih
        | saw _ _ _ _ => exact ih
theorem Wf.ask {rows : List SRow} (w : Wf rows) {k : Nat} {h n : Int} {a : SAns} (e : rows[k]? = some (.told h n a)) : ∃ (j : Nat) (q : SReq), aget (asksAt rows rows.length) (h, n) = some ((j : Int), q) ∧ fitA a q := by
  obtain ⟨j, q, hj, ej, hf⟩ := w.told k h n a e
  have := (List.getElem?_eq_some_iff.mp e).1
  exact ⟨j, q, asks_get w ej _ (by omega), hf⟩
/-! ### the first fault -/
def tell0 (A : Asks) (r : SRow) : Tell := (tells A r).headD (0, 0, none)
def bindsB (A : Asks) (k : Nat) (rk : SRow) (i : Nat) (ri : SRow) (o : Tell) : Bool := decide ((i : Int) < beginOf A (k : Int) rk) && (o.2.2.isNone || decide (handOf ri = handOf rk))
def hitAt (A : Asks) (rows : List SRow) (k : Nat) (rk : SRow) (i : Nat) : Bool := match rows[i]? with
  | none => false
  | some ri => (tells A ri).any fun o => unlike (tell0 A rk) o (bindsB A k rk i ri o)
def firstA (A : Asks) (rows : List SRow) (k : Nat) (rk : SRow) : Option Nat := (List.range k).find? (hitAt A rows k rk)
def looksB : SRow → Bool
  | .saw _ _ _ _ => true
  | .told _ _ (.file _ _ _ _) => true
  | _ => false
def faultAt (A : Asks) (rows : List SRow) (k : Nat) : Option (Nat × Nat) := match rows[k]? with
  | some rk => if looksB rk = true then (firstA A rows k rk).map fun i => (i, k) else none
  | none => none
def faultS (rows : List SRow) : Option (Nat × Nat) := (List.range rows.length).findSome? (faultAt (asksAt rows rows.length) rows)
theorem find_none {p : Nat → Bool} {i : Nat} (h : ∀ j, j < i → p j = false) : (List.range i).find? p = none := List.find?_eq_none.mpr fun x hx => by
  rw [h x (List.mem_range.mp hx)]; decide
theorem find_at {p : Nat → Bool} {i n : Nat} (h : ∀ j, j < i → p j = false) (hi : p i = true) (hn : i < n) : (List.range n).find? p = some i := by
  obtain ⟨d, rfl⟩ : ∃ d, n = i + 1 + d := ⟨n - (i + 1), by omega⟩
  rw [List.range_add, List.find?_append, List.range_succ, List.find?_append, find_none h]
  simp [hi]
theorem some_none {α : Type} {f : Nat → Option α} {i : Nat} (h : ∀ j, j < i → f j = none) : (List.range i).findSome? f = none := List.findSome?_eq_none_iff.mpr fun x hx => h x (List.mem_range.mp hx)
theorem some_at {α : Type} {f : Nat → Option α} {i n : Nat} {v : α} (h : ∀ j, j < i → f j = none) (hi : f i = some v) (hn : i < n) : (List.range n).findSome? f = some v := by
  obtain ⟨d, rfl⟩ : ∃ d, n = i + 1 + d := ⟨n - (i + 1), by omega⟩
  rw [List.range_add, List.findSome?_append, List.range_succ, List.findSome?_append, some_none h]
  simp [hi]
/-! ### the asks as a dict -/
def gK (k : Int × Int) : List Key := [Sum.inl k.1, Sum.inl k.2]
theorem gK_inj {a b : Int × Int} (h : gK a = gK b) : a = b := by
  obtain ⟨a1, a2⟩ := a
  obtain ⟨b1, b2⟩ := b
  unfold gK at h
  have h1 := (List.cons.inj h).1
  have h2 := (List.cons.inj (List.cons.inj h).2).1
  have e1 : a1 = b1 := Sum.inl.inj h1
  have e2 : a2 = b2 := Sum.inl.inj h2
  rw [e1, e2]
def AskF (K : PySem.W.Frag) (P : Hp) (kv : List Key × V) (p : (Int × Int) × (Int × SReq)) : Prop := kv.1 = gK p.1 ∧ ∃ t b, kv.2 = .ref t ∧ SqT K P t [.int p.2.1, .ref b] ∧ Dp K P (.ref b) p.2.2.d
def AskR (K : PySem.W.Frag) (P : Hp) (kvs : List (List Key × V)) (A : Asks) : Prop := Paired (AskF K P) kvs A
theorem AskR.up {K : PySem.W.Frag} {P P' : Hp} (e : Ex P P') {kvs : List (List Key × V)} {A : Asks} (h : AskR K P kvs A) : AskR K P' kvs A :=
  pmonoF (fun _ _ ⟨z1, t, b, z2, z3, z4⟩ => ⟨z1, t, b, z2, sqT_up z3 e, Dp.up e z4⟩) h
theorem askR_get {K : PySem.W.Frag} {P : Hp} : ∀ {kvs : List (List Key × V)} {A : Asks}, AskR K P kvs A → ∀ {k : Int × Int} {j : Int} {q : SReq}, aget A k = some (j, q) → ∃ t b, valV kvs (gK k) = some (.ref t) ∧ SqT K P t [.int j, .ref b] ∧ Dp K P (.ref b) q.d
  | _, _, .nil, k, j, q, e => by cases e
  | _, _, .cons (a := p) (b := d) h r, k, j, q, e => by
    obtain ⟨h1, t, b, h2, h3, h4⟩ := h
    rw [aget_cons] at e
    show ∃ t b, aget _ (gK k) = some (V.ref t) ∧ _
    rw [aget_cons]
    by_cases z : d.1 = k
    · rw [if_pos z] at e
      have e5 := Option.some.inj e
      rw [e5] at h3 h4
      rw [if_pos (by rw [h1, z]), h2]
      exact ⟨t, b, rfl, h3, h4⟩
    · rw [if_neg z] at e
      rw [if_neg (by rw [h1]; exact fun y => z (gK_inj y))]
      exact askR_get r e
theorem askR_any {K : PySem.W.Frag} {P : Hp} {k : Int × Int} : ∀ {kvs : List (List Key × V)} {A : Asks}, AskR K P kvs A → (kvs.any fun kv => decide (kv.1 = gK k)) = A.any fun p => decide (p.1 = k)
  | _, _, .nil => rfl
  | _, _, .cons (a := p) (b := d) h r => by
    rw [List.any_cons, List.any_cons, askR_any r, h.1]
    congr 1
    by_cases e : d.1 = k
    · rw [decide_eq_true e, decide_eq_true (by rw [e])]
    · rw [decide_eq_false e, decide_eq_false fun y => e (gK_inj y)]
theorem askR_map {K : PySem.W.Frag} {P : Hp} {k : Int × Int} {j : Int} {q : SReq} {t b : Addr} (ht : SqT K P t [.int j, .ref b]) (hb : Dp K P (.ref b) q.d) : ∀ {kvs : List (List Key × V)} {A : Asks}, AskR K P kvs A → AskR K P (kvs.map fun kv => if kv.1 = gK k then (kv.1, .ref t) else kv) (A.map fun p => if p.1 = k then (p.1, (j, q)) else p)
  | _, _, .nil => .nil
  | _, _, .cons (a := p) (b := d) h r => by
    rw [List.map_cons, List.map_cons]
    refine .cons ?_ (askR_map ht hb r)
    by_cases e : d.1 = k
    · rw [if_pos e, if_pos (by rw [h.1, e])]
      exact ⟨h.1, t, b, rfl, ht, hb⟩
    · rw [if_neg e, if_neg (by rw [h.1]; exact fun y => e (gK_inj y))]
      exact h
theorem askR_put {K : PySem.W.Frag} {P : Hp} {k : Int × Int} {j : Int} {q : SReq} {t b : Addr} (ht : SqT K P t [.int j, .ref b]) (hb : Dp K P (.ref b) q.d) {kvs : List (List Key × V)} {A : Asks} (h : AskR K P kvs A) : AskR K P (putK kvs (gK k) (.ref t)) (aset A k (j, q)) := by
  unfold putK aset
  rw [askR_any h]
  split
  · exact askR_map ht hb h
  · exact pair_snoc h ⟨rfl, t, b, rfl, ht, hb⟩
/-! ### rows read -/
def TellD (t : Tell) : PyData := .tuple [.int t.1, .int t.2.1, match t.2.2 with | none => .none | some c => .str c]
def optS : Option Str → V
  | none => .non
  | some c => .str c
def TellR (K : PySem.W.Frag) (P : Hp) (v : V) (t : Tell) : Prop := ∃ r, v = .ref r ∧ SqT K P r [.int t.1, .int t.2.1, optS t.2.2]
theorem TellR.up {K : PySem.W.Frag} {P P' : Hp} (e : Ex P P') {v : V} {t : Tell} (h : TellR K P v t) : TellR K P' v t := by
  obtain ⟨r, rfl, h⟩ := h
  exact ⟨r, rfl, sqT_up h e⟩
section
variable {K : PySem.W.Frag} {P : Hp} {v : V}
theorem ask_inv {h n : Int} {q : SReq} (d : Dp K P v (SRow.ask h n q).d) : ∃ r b, v = .ref r ∧ SqT K P r [.str "ask", .int h, .int n, .ref b] ∧ Dp K P (.ref b) q.d := by
  cases d with
  | tup h1 a =>
  cases a with
  | cons d1 a =>
  cases a with
  | cons d2 a =>
  cases a with
  | cons d3 a =>
  cases a with
  | cons d4 a =>
  cases a; cases d1; cases d2; cases d3
  have : ∃ b, ‹V› = V.ref b := by
    cases q <;> (cases d4; exact ⟨_, rfl⟩)
  obtain ⟨b, rfl⟩ := this
  exact ⟨_, b, rfl, h1, d4⟩
theorem told_inv {h n : Int} {q : SAns} (d : Dp K P v (SRow.told h n q).d) : ∃ r b, v = .ref r ∧ SqT K P r [.str "told", .int h, .int n, .ref b] ∧ Dp K P (.ref b) q.d := by
  cases d with
  | tup h1 a =>
  cases a with
  | cons d1 a =>
  cases a with
  | cons d2 a =>
  cases a with
  | cons d3 a =>
  cases a with
  | cons d4 a =>
  cases a; cases d1; cases d2; cases d3
  have : ∃ b, ‹V› = V.ref b := by
    cases q <;> (cases d4; exact ⟨_, rfl⟩)
  obtain ⟨b, rfl⟩ := this
  exact ⟨_, b, rfl, h1, d4⟩
theorem saw_inv {h f w : Int} {c : Str} (d : Dp K P v (SRow.saw h f w c).d) : ∃ r, v = .ref r ∧ SqT K P r [.str "saw", .int h, .int f, .int w, .str c] := by
  cases d with
  | tup h1 a =>
  cases a with
  | cons d1 a =>
  cases a with
  | cons d2 a =>
  cases a with
  | cons d3 a =>
  cases a with
  | cons d4 a =>
  cases a with
  | cons d5 a =>
  cases a; cases d1; cases d2; cases d3; cases d4; cases d5
  exact ⟨_, rfl, h1⟩
theorem file_inv {b : Addr} {f w st : Int} {c : Str} (d : Dp K P (.ref b) (SAns.file f w c st).d) : SqT K P b [.str "file", .int f, .int w, .str c, .int st] := by
  cases d with
  | tup h1 a =>
  cases a with
  | cons d1 a =>
  cases a with
  | cons d2 a =>
  cases a with
  | cons d3 a =>
  cases a with
  | cons d4 a =>
  cases a with
  | cons d5 a =>
  cases a; cases d1; cases d2; cases d3; cases d4; cases d5
  exact h1
theorem shutA_inv {b : Addr} {w st : Int} (d : Dp K P (.ref b) (SAns.shut w st).d) : SqT K P b [.str "shut", .int w, .int st] := by
  cases d with
  | tup h1 a =>
  cases a with
  | cons d1 a =>
  cases a with
  | cons d2 a =>
  cases a with
  | cons d3 a =>
  cases a; cases d1; cases d2; cases d3
  exact h1
theorem joined_inv {b : Addr} {ps : List SPart} (d : Dp K P (.ref b) (SAns.joined ps).d) : ∃ L xs, SqT K P b [.str "joined", .ref L] ∧ SqL K P L xs ∧ DpAll K P xs (ps.map SPart.d) := by
  cases d with
  | tup h1 a =>
  cases a with
  | cons d1 a =>
  cases a with
  | cons d2 a =>
  cases a; cases d1
  cases d2 with
  | lst h2 a2 => exact ⟨_, _, h1, h2, a2⟩
theorem shutQ_inv {b : Addr} {f w : Int} {c : Str} (d : Dp K P (.ref b) (SReq.shut f w c).d) : SqT K P b [.str "shut", .int f, .int w, .str c] := by
  cases d with
  | tup h1 a =>
  cases a with
  | cons d1 a =>
  cases a with
  | cons d2 a =>
  cases a with
  | cons d3 a =>
  cases a with
  | cons d4 a =>
  cases a; cases d1; cases d2; cases d3; cases d4
  exact h1
theorem join_inv {b : Addr} {ds : List SDeed} (d : Dp K P (.ref b) (SReq.join ds).d) : ∃ T xs, SqT K P b [.str "join", .ref T] ∧ SqT K P T xs ∧ DpAll K P xs (ds.map SDeed.d) := by
  cases d with
  | tup h1 a =>
  cases a with
  | cons d1 a =>
  cases a with
  | cons d2 a =>
  cases a; cases d1
  cases d2 with
  | tup h2 a2 => exact ⟨_, _, h1, h2, a2⟩
def SAns.word : SAns → Str
  | .ended => "ended"
  | .refused _ => "refused"
  | .shut _ _ => "shut"
  | .joined _ => "joined"
  | .ok => "ok"
  | .begun => "begun"
  | .folder => "folder"
  | .file _ _ _ _ => "file"
theorem ans_inv {b : Addr} {a : SAns} (d : Dp K P (.ref b) a.d) : ∃ r, SqT K P b (.str a.word :: r) := by
  cases a <;> (
    cases d with
    | tup h1 a2 =>
    cases a2 with
    | cons d1 a2 =>
    cases d1
    exact ⟨_, h1⟩)
theorem shutD_inv {v : V} {f w : Int} {c : Str} (d : Dp K P v (SDeed.shut f w c).d) : ∃ r, v = .ref r ∧ SqT K P r [.str "shut", .int f, .int w, .str c] := by
  cases d with
  | tup h1 a =>
  cases a with
  | cons d1 a =>
  cases a with
  | cons d2 a =>
  cases a with
  | cons d3 a =>
  cases a with
  | cons d4 a =>
  cases a; cases d1; cases d2; cases d3; cases d4
  exact ⟨_, rfl, h1⟩
theorem makeD_inv {v : V} {c : Str} (d : Dp K P v (SDeed.make c).d) : ∃ r, v = .ref r ∧ SqT K P r [.str "make", .int 0, .str "n", .str c] := by
  cases d with
  | tup h1 a =>
  cases a with
  | cons d1 a =>
  cases a with
  | cons d2 a =>
  cases a with
  | cons d3 a =>
  cases a with
  | cons d4 a =>
  cases a; cases d1; cases d2; cases d3; cases d4
  exact ⟨_, rfl, h1⟩
def SPart.word : SPart → Str
  | .clash => "clash"
  | .put _ => "put"
  | .made => "made"
  | .there => "refused"
theorem part_inv {v : V} {p : SPart} (d : Dp K P v p.d) : ∃ r t, v = .ref r ∧ SqT K P r (.str p.word :: t) := by
  cases p <;> (
    cases d with
    | tup h1 a2 =>
    cases a2 with
    | cons d1 a2 =>
    cases d1
    exact ⟨_, _, rfl, h1⟩)
theorem put_inv {v : V} {w : Int} (d : Dp K P v (SPart.put w).d) : ∃ r, v = .ref r ∧ SqT K P r [.str "put", .int w] := by
  cases d with
  | tup h1 a =>
  cases a with
  | cons d1 a =>
  cases a with
  | cons d2 a =>
  cases a; cases d1; cases d2
  exact ⟨_, rfl, h1⟩
theorem clash_inv {v : V} (d : Dp K P v (SPart.clash).d) : ∃ r, v = .ref r ∧ SqT K P r [.str "clash", .int 9, .str "stale"] := by
  cases d with
  | tup h1 a =>
  cases a with
  | cons d1 a =>
  cases a with
  | cons d2 a =>
  cases a with
  | cons d3 a =>
  cases a; cases d1; cases d2; cases d3
  exact ⟨_, rfl, h1⟩
theorem made_inv {v : V} (d : Dp K P v (SPart.made).d) : ∃ r, v = .ref r ∧ SqT K P r [.str "made", .int 8] := by
  cases d with
  | tup h1 a =>
  cases a with
  | cons d1 a =>
  cases a with
  | cons d2 a =>
  cases a; cases d1; cases d2
  exact ⟨_, rfl, h1⟩
theorem there_inv {v : V} (d : Dp K P v (SPart.there).d) : ∃ r, v = .ref r ∧ SqT K P r [.str "refused", .str "there"] := by
  cases d with
  | tup h1 a =>
  cases a with
  | cons d1 a =>
  cases a with
  | cons d2 a =>
  cases a; cases d1; cases d2
  exact ⟨_, rfl, h1⟩
theorem ended_inv {b : Addr} (d : Dp K P (.ref b) (SAns.ended).d) : SqT K P b [.str "ended"] := by
  cases d with
  | tup h1 a =>
  cases a with
  | cons d1 a =>
  cases a; cases d1
  exact h1
theorem refused_inv {b : Addr} {w : Str} (d : Dp K P (.ref b) (SAns.refused w).d) : SqT K P b [.str "refused", .str w] := by
  cases d with
  | tup h1 a =>
  cases a with
  | cons d1 a =>
  cases a with
  | cons d2 a =>
  cases a; cases d1; cases d2
  exact h1
theorem ok_inv {b : Addr} (d : Dp K P (.ref b) (SAns.ok).d) : SqT K P b [.str "ok"] := by
  cases d with
  | tup h1 a =>
  cases a with
  | cons d1 a =>
  cases a; cases d1
  exact h1
theorem begun_inv {b : Addr} (d : Dp K P (.ref b) (SAns.begun).d) : SqT K P b [.str "begun"] := by
  cases d with
  | tup h1 a =>
  cases a with
  | cons d1 a =>
  cases a; cases d1
  exact h1
theorem folder_inv {b : Addr} (d : Dp K P (.ref b) SAns.folder.d) : ∃ L, SqT K P b [.str "folder", .int 0, .ref L] := by
  cases d with
  | tup h1 a =>
  cases a with
  | cons d1 a =>
  cases a with
  | cons d2 a =>
  cases a with
  | cons d3 a =>
  cases a; cases d1; cases d2
  cases d3 with
  | lst h3 _ => exact ⟨_, h1⟩
end
end FS

set_option Elab.async false
set_option maxRecDepth 100000
set_option linter.all false
/-! FsStory3: a story drawn: the state of the draws, and what they keep. -/
namespace FS
open PySem PySem.Spec PyProof.Rows L2 Evl
/-- where the state lies, and what stays -/
structure StA where
  d : Addr
  N : Addr
  C : Addr
  U : Addr
  S : Addr
  f : Int
  o : Int
  hf : 1 ≤ f ∧ f ≤ 9
  ho : 2 ≤ o ∧ o ≤ 1000
def stK (g : StA) : List (Key × V) := [(Sum.inr "now", .ref g.N), (Sum.inr "contents", .ref g.C), (Sum.inr "counts", .ref g.U), (Sum.inr "asked", .ref g.S), (Sum.inr "files", .int g.f), (Sum.inr "odd", .int g.o)]
theorem stK_now (g : StA) : valV (stK g) (Sum.inr "now") = some (.ref g.N) := rfl
theorem stK_con (g : StA) : valV (stK g) (Sum.inr "contents") = some (.ref g.C) := rfl
theorem stK_cnt (g : StA) : valV (stK g) (Sum.inr "counts") = some (.ref g.U) := rfl
theorem stK_ask (g : StA) : valV (stK g) (Sum.inr "asked") = some (.ref g.S) := rfl
theorem stK_fil (g : StA) : valV (stK g) (Sum.inr "files") = some (.int g.f) := rfl
theorem stK_odd (g : StA) : valV (stK g) (Sum.inr "odd") = some (.int g.o) := rfl
abbrev AskL := List (Option (Addr × SReq))
def askV : Option (Addr × SReq) → V
  | none => .non
  | some p => .ref p.1
abbrev stP (g : StA) (nk : List (Key × V)) (ck : List (List Key × V)) (cnt : List Int) (ask : AskL) (F : List Ch) : List Ch :=
  pt g.d (.dK (stK g)) :: pt g.N (.dK nk) :: pt g.C (.dT ck) :: pt g.U (.lst (cnt.map V.int)) :: pt g.S (.lst (ask.map askV)) :: F
def C4 : List Str := ["", "x", "y.1", "zz"]
theorem c4_ok {c : Str} (h : c ∈ C4) : PyData.strOk c = true := by
  have : ∀ c ∈ C4, PyData.strOk c = true := by decide +kernel
  exact this c h
def okQ : SReq → Prop
  | .join ds => ds.length ≤ 3 ∧ ∀ d ∈ ds, match d with | .make c => c ∈ C4 | .shut _ _ c => c ∈ C4
  | .shut _ _ c => c ∈ C4
  | _ => True
def okA : SAns → Prop
  | .joined ps => ps.length ≤ 3
  | .file _ _ c _ => c ∈ C4
  | .refused w => PyData.strOk w = true
  | _ => True
def okR : SRow → Prop
  | .ask _ _ q => okQ q
  | .told _ _ a => okA a
  | .saw _ _ _ c => c ∈ C4
def NowOk (nk : List (Key × V)) : Prop := ∀ kv ∈ nk, ∃ w : Int, kv.2 = .int w
def ConOk (ck : List (List Key × V)) : Prop := ∀ kv ∈ ck, ∃ c : Str, kv.2 = .str c ∧ c ∈ C4
theorem now_get {nk : List (Key × V)} (h : NowOk nk) (k : Key) : ∃ w : Int, (valV nk k).getD (.int 0) = .int w := by
  cases e : valV nk k with
  | none => exact ⟨0, rfl⟩
  | some v =>
    obtain ⟨w, hw⟩ := h _ (aget_mem (show aget nk k = some v from e))
    exact ⟨w, hw⟩
theorem con_get {ck : List (List Key × V)} (h : ConOk ck) (k : List Key) : ∃ c : Str, (valV ck k).getD (.str "") = .str c ∧ c ∈ C4 := by
  cases e : valV ck k with
  | none => exact ⟨"", rfl, by decide⟩
  | some v =>
    obtain ⟨c, hc, hm⟩ := h _ (aget_mem (show aget ck k = some v from e))
    exact ⟨c, hc, hm⟩
theorem mem_putK {κ : Type} [DecidableEq κ] {l : List (κ × V)} {k : κ} {v : V} {q : κ × V} (h : q ∈ putK l k v) : q ∈ l ∨ q.2 = v := by
  unfold putK at h
  split at h
  · obtain ⟨p, hp, rfl⟩ := List.mem_map.mp h
    split
    · exact .inr rfl
    · exact .inl hp
  · rcases List.mem_append.mp h with z | z
    · exact .inl z
    · rw [List.mem_singleton.mp z]
      exact .inr rfl
theorem len_putK {κ : Type} [DecidableEq κ] {l : List (κ × V)} {k : κ} {v : V} : (putK l k v).length ≤ l.length + 1 := by
  unfold putK
  split
  · rw [List.length_map]; omega
  · rw [List.length_append]; exact Nat.le_refl _
theorem now_put {nk : List (Key × V)} (h : NowOk nk) (k : Key) (w : Int) : NowOk (putK nk k (.int w)) := fun kv hk => (mem_putK hk).elim (h kv) fun z => ⟨w, z⟩
theorem con_put {ck : List (List Key × V)} (h : ConOk ck) (k : List Key) {c : Str} (hc : c ∈ C4) : ConOk (putK ck k (.str c)) := fun kv hk => (mem_putK hk).elim (h kv) fun z => ⟨c, z, hc⟩
def AskD (K : PySem.W.Frag) (P : Hp) (ask : AskL) : Prop := ∀ p, some p ∈ ask → Dp K P (.ref p.1) p.2.d ∧ okQ p.2
theorem AskD.up {K : PySem.W.Frag} {P P' : Hp} (e : Ex P P') {ask : AskL} (h : AskD K P ask) : AskD K P' ask := fun p hp => ⟨Dp.up e (h p hp).1, (h p hp).2⟩
structure StG (K : PySem.W.Frag) (P : Hp) (nk : List (Key × V)) (ck : List (List Key × V)) (cnt : List Int) (ask : AskL) (n B : Nat) : Prop where
  now : NowOk nk
  con : ConOk ck
  ln : nk.length ≤ B
  lc : ck.length ≤ B
  hu : cnt.length = n
  hs : ask.length = n
  asks : AskD K P ask
theorem StG.up {K : PySem.W.Frag} {P P' : Hp} (e : Ex P P') {nk : List (Key × V)} {ck : List (List Key × V)} {cnt : List Int} {ask : AskL} {n B B' : Nat} (h : StG K P nk ck cnt ask n B) (hB : B ≤ B') : StG K P' nk ck cnt ask n B' :=
  ⟨h.now, h.con, Nat.le_trans h.ln hB, Nat.le_trans h.lc hB, h.hu, h.hs, h.asks.up e⟩
theorem StG.put {K : PySem.W.Frag} {P P' : Hp} (e : Ex P P') {nk : List (Key × V)} {ck : List (List Key × V)} {cnt : List Int} {ask : AskL} {n B : Nat} (h : StG K P nk ck cnt ask n B) (k : Key) (w : Int) (j : List Key) {c : Str} (hc : c ∈ C4) : StG K P' (putK nk k (.int w)) (putK ck j (.str c)) cnt ask n (B + 1) :=
  ⟨now_put h.now k w, con_put h.con j hc, Nat.le_trans len_putK (Nat.succ_le_succ h.ln), Nat.le_trans len_putK (Nat.succ_le_succ h.lc), h.hu, h.hs, h.asks.up e⟩
/-! ### a row more -/
inductive StepR (cnt : List Int) (ask : AskL) : SRow → List Int → AskL → Prop
  | ask {h : Nat} {c : Int} {b : Addr} {q : SReq} : cnt[h]? = some c → h < ask.length → okQ q → StepR cnt ask (.ask (h : Int) (c + 1) q) (cnt.set h (c + 1)) (ask.set h (some (b, q)))
  | told {h : Nat} {c : Int} {b : Addr} {q : SReq} {a : SAns} : cnt[h]? = some c → ask[h]? = some (some (b, q)) → fitA a q → okA a → StepR cnt ask (.told (h : Int) c a) cnt (ask.set h none)
  | saw {h f v : Int} {c : Str} : c ∈ C4 → StepR cnt ask (.saw h f v c) cnt ask
theorem StepR.lens {cnt cnt' : List Int} {ask ask' : AskL} {r : SRow} (h : StepR cnt ask r cnt' ask') : cnt'.length = cnt.length ∧ ask'.length = ask.length := by
  cases h <;> simp
structure StoOk (rows : List SRow) (cnt : List Int) (ask : AskL) : Prop where
  wf : Wf rows
  ok : ∀ r ∈ rows, okR r
  low : ∀ (h n : Int) (q : SReq), SRow.ask h n q ∈ rows → ∃ (i : Nat) (c : Int), h = (i : Int) ∧ cnt[i]? = some c ∧ n ≤ c
  cur : ∀ (h : Nat) (b : Addr) (q : SReq), ask[h]? = some (some (b, q)) → ∃ c, cnt[h]? = some c ∧ SRow.ask (h : Int) c q ∈ rows
theorem snoc_get {α : Type} {l : List α} {r x : α} {k : Nat} (h : (l ++ [r])[k]? = some x) : (k < l.length ∧ l[k]? = some x) ∨ (k = l.length ∧ x = r) := by
  rw [List.getElem?_append] at h
  split at h
  · rename_i z; exact .inl ⟨z, h⟩
  · rename_i z
    have hk : k - l.length = 0 := by
      cases e : k - l.length with
      | zero => rfl
      | succ i => rw [e] at h; cases h
    rw [hk] at h
    exact .inr ⟨by omega, (Option.some.inj h).symm⟩
theorem Wf.snoc {rows : List SRow} (w : Wf rows) {r : SRow} (h1 : ∀ h n a, r = .told h n a → ∃ q, SRow.ask h n q ∈ rows ∧ fitA a q) (h2 : ∀ h n q q', r = .ask h n q → SRow.ask h n q' ∉ rows) : Wf (rows ++ [r]) := by
  refine ⟨fun k h n a e => ?_, fun i j h n q q' e1 e2 => ?_⟩
  · rcases snoc_get e with ⟨hk, e⟩ | ⟨hk, e⟩
    · obtain ⟨j, q, hj, ej, hf⟩ := w.told k h n a e
      exact ⟨j, q, hj, by rw [List.getElem?_append_left (by omega)]; exact ej, hf⟩
    · obtain ⟨q, hq, hf⟩ := h1 h n a e.symm
      obtain ⟨j, hj, ej⟩ := List.getElem_of_mem hq
      exact ⟨j, q, by omega, by rw [List.getElem?_append_left hj, List.getElem?_eq_getElem hj, ej], hf⟩
  · rcases snoc_get e1 with ⟨hi, e1⟩ | ⟨hi, e1⟩ <;> rcases snoc_get e2 with ⟨hj, e2⟩ | ⟨hj, e2⟩
    · exact w.one i j h n q q' e1 e2
    · exact absurd (List.mem_of_getElem? e1) (h2 h n q' q e2.symm)
    · exact absurd (List.mem_of_getElem? e2) (h2 h n q q' e1.symm)
    · omega
theorem StoOk.nil (n : Nat) : StoOk [] (List.replicate n 0) (List.replicate n none) := by
  refine ⟨Wf.nil, (fun _ z => nomatch z), (fun _ _ _ z => nomatch z), fun h b q e => ?_⟩
  rw [List.getElem?_replicate] at e
  split at e
  · cases e
  · cases e
theorem StoOk.step {rows : List SRow} {cnt cnt' : List Int} {ask ask' : AskL} {r : SRow} (w : StoOk rows cnt ask) (s : StepR cnt ask r cnt' ask') : StoOk (rows ++ [r]) cnt' ask' := by
  cases s with
  | ask hc hl hq =>
    rename_i h c b q
    refine ⟨w.wf.snoc (fun _ _ _ z => nomatch z) fun h' n' q1 q2 z hm => ?_, fun r hr => ?_, fun h' n' q' hm => ?_, fun h' b' q' e => ?_⟩
    · cases z
      obtain ⟨i, c', hi, h3, h4⟩ := w.low _ _ _ hm
      have : i = h := by omega
      subst this
      rw [hc] at h3
      cases h3
      omega
    · rcases List.mem_append.mp hr with z | z
      · exact w.ok r z
      · rw [List.mem_singleton.mp z]; exact hq
    · have hlt := (List.getElem?_eq_some_iff.mp hc).1
      rcases List.mem_append.mp hm with z | z
      · obtain ⟨i, c', hi, h3, h4⟩ := w.low _ _ _ z
        by_cases hih : h = i
        · subst hih
          rw [hc] at h3
          cases h3
          exact ⟨h, c + 1, hi, by rw [List.getElem?_set_self hlt], by omega⟩
        · exact ⟨i, c', hi, by rw [List.getElem?_set_ne hih]; exact h3, h4⟩
      · cases List.mem_singleton.mp z
        exact ⟨h, c + 1, rfl, by rw [List.getElem?_set_self hlt], Int.le_refl _⟩
    · have hlt := (List.getElem?_eq_some_iff.mp hc).1
      by_cases hih : h = h'
      · subst hih
        rw [List.getElem?_set_self hl] at e
        cases e
        exact ⟨c + 1, by rw [List.getElem?_set_self hlt], List.mem_append_right _ (List.mem_singleton.mpr rfl)⟩
      · rw [List.getElem?_set_ne hih] at e
        obtain ⟨c', h3, h4⟩ := w.cur _ _ _ e
        exact ⟨c', by rw [List.getElem?_set_ne hih]; exact h3, List.mem_append_left _ h4⟩
  | told hc ha hf ho =>
    rename_i h c b q a
    refine ⟨w.wf.snoc (fun h' n' a' z => ?_) (fun _ _ _ _ z => nomatch z), fun r hr => ?_, fun h' n' q' hm => ?_, fun h' b' q' e => ?_⟩
    · cases z
      obtain ⟨c', h3, h4⟩ := w.cur _ _ _ ha
      rw [hc] at h3
      cases h3
      exact ⟨q, h4, hf⟩
    · rcases List.mem_append.mp hr with z | z
      · exact w.ok r z
      · rw [List.mem_singleton.mp z]; exact ho
    · rcases List.mem_append.mp hm with z | z
      · exact w.low _ _ _ z
      · cases List.mem_singleton.mp z
    · by_cases hih : h = h'
      · subst hih
        rw [List.getElem?_set_self (List.getElem?_eq_some_iff.mp ha).1] at e
        cases e
      · rw [List.getElem?_set_ne hih] at e
        obtain ⟨c', h3, h4⟩ := w.cur _ _ _ e
        exact ⟨c', h3, List.mem_append_left _ h4⟩
  | saw hc =>
    refine ⟨w.wf.snoc (fun _ _ _ z => nomatch z) (fun _ _ _ _ z => nomatch z), fun r hr => ?_, fun h' n' q' hm => ?_, fun h' b' q' e => ?_⟩
    · rcases List.mem_append.mp hr with z | z
      · exact w.ok r z
      · rw [List.mem_singleton.mp z]; exact hc
    · rcases List.mem_append.mp hm with z | z
      · exact w.low _ _ _ z
      · cases List.mem_singleton.mp z
    · obtain ⟨c', h3, h4⟩ := w.cur _ _ _ e
      exact ⟨c', h3, List.mem_append_left _ h4⟩
theorem StepR.ok {rows : List SRow} {cnt cnt' : List Int} {ask ask' : AskL} {r : SRow} (w : StoOk rows cnt ask) (s : StepR cnt ask r cnt' ask') : okR r := by
  exact (w.step s).ok r (List.mem_append_right _ (List.mem_singleton.mpr rfl))
/-! ### rows are small and plain -/
theorem sh_deed {d : SDeed} (h : match d with | .make c => c ∈ C4 | .shut _ _ c => c ∈ C4) : Sh 1 d.d := by
  cases d <;> refine Sh.tup fun x hx => ?_ <;> simp only [List.mem_cons, List.not_mem_nil, or_false] at hx <;> rcases hx with rfl | rfl | rfl | rfl <;> first | exact Sh.int _ | exact Sh.str (by decide +kernel) | exact Sh.str (c4_ok h)
theorem sh_req {q : SReq} (h : okQ q) : Sh 3 q.d := by
  cases q with
  | join ds =>
    refine Sh.tup fun x hx => ?_
    simp only [List.mem_cons, List.not_mem_nil, or_false] at hx
    rcases hx with rfl | rfl
    · exact (Sh.str (by decide +kernel)).mono (by decide)
    · refine Sh.tup fun x hx => ?_
      obtain ⟨d, hd, rfl⟩ := List.mem_map.mp hx
      exact sh_deed (h.2 d hd)
  | shut f v c =>
    refine (Sh.tup (n := 0) fun x hx => ?_).mono (by decide)
    simp only [List.mem_cons, List.not_mem_nil, or_false] at hx
    rcases hx with rfl | rfl | rfl | rfl <;> first | exact Sh.int _ | exact Sh.str (by decide +kernel) | exact Sh.str (c4_ok h)
  | see f => refine (Sh.tup (n := 0) fun x hx => ?_).mono (by decide); simp only [List.mem_cons, List.not_mem_nil, or_false] at hx; rcases hx with rfl | rfl <;> first | exact Sh.int _ | exact Sh.str (by decide +kernel)
  | opn => refine (Sh.tup (n := 0) fun x hx => ?_).mono (by decide); simp only [List.mem_cons, List.not_mem_nil, or_false] at hx; rcases hx with rfl | rfl <;> first | exact Sh.int _ | exact Sh.str (by decide +kernel)
  | look => refine (Sh.tup (n := 0) fun x hx => ?_).mono (by decide); simp only [List.mem_cons, List.not_mem_nil, or_false] at hx; subst hx; exact Sh.str (by decide +kernel)
  | begin => refine (Sh.tup (n := 0) fun x hx => ?_).mono (by decide); simp only [List.mem_cons, List.not_mem_nil, or_false] at hx; subst hx; exact Sh.str (by decide +kernel)
theorem sh_part (p : SPart) : Sh 1 p.d := by
  cases p <;> refine Sh.tup fun x hx => ?_ <;> simp only [List.mem_cons, List.not_mem_nil, or_false] at hx <;> first
    | (rcases hx with rfl | rfl | rfl <;> first | exact Sh.int _ | exact Sh.str (by decide +kernel); done)
    | (rcases hx with rfl | rfl <;> first | exact Sh.int _ | exact Sh.str (by decide +kernel); done)
theorem sh_ans {a : SAns} (h : okA a) : Sh 3 a.d := by
  cases a with
  | ended => refine (Sh.tup (n := 0) fun x hx => ?_).mono (by decide); simp only [List.mem_cons, List.not_mem_nil, or_false] at hx; subst hx; exact Sh.str (by decide +kernel)
  | ok => refine (Sh.tup (n := 0) fun x hx => ?_).mono (by decide); simp only [List.mem_cons, List.not_mem_nil, or_false] at hx; subst hx; exact Sh.str (by decide +kernel)
  | begun => refine (Sh.tup (n := 0) fun x hx => ?_).mono (by decide); simp only [List.mem_cons, List.not_mem_nil, or_false] at hx; subst hx; exact Sh.str (by decide +kernel)
  | refused w => refine (Sh.tup (n := 0) fun x hx => ?_).mono (by decide); simp only [List.mem_cons, List.not_mem_nil, or_false] at hx; rcases hx with rfl | rfl <;> first | exact Sh.str (by decide +kernel) | exact Sh.str h
  | shut v st => refine (Sh.tup (n := 0) fun x hx => ?_).mono (by decide); simp only [List.mem_cons, List.not_mem_nil, or_false] at hx; rcases hx with rfl | rfl | rfl <;> first | exact Sh.int _ | exact Sh.str (by decide +kernel)
  | file f v c st => refine (Sh.tup (n := 0) fun x hx => ?_).mono (by decide); simp only [List.mem_cons, List.not_mem_nil, or_false] at hx; rcases hx with rfl | rfl | rfl | rfl | rfl <;> first | exact Sh.int _ | exact Sh.str (by decide +kernel) | exact Sh.str (c4_ok h)
  | folder =>
    refine (Sh.tup (n := 1) fun x hx => ?_).mono (by decide)
    simp only [List.mem_cons, List.not_mem_nil, or_false] at hx
    rcases hx with rfl | rfl | rfl
    · exact (Sh.str (by decide +kernel)).mono (by decide)
    · exact (Sh.int _).mono (by decide)
    · refine Sh.lst fun x hx => ?_
      simp only [List.mem_cons, List.not_mem_nil, or_false] at hx
      rcases hx with rfl | rfl <;> exact Sh.str (by decide +kernel)
  | joined ps =>
    refine Sh.tup fun x hx => ?_
    simp only [List.mem_cons, List.not_mem_nil, or_false] at hx
    rcases hx with rfl | rfl
    · exact (Sh.str (by decide +kernel)).mono (by decide)
    · refine Sh.lst fun x hx => ?_
      obtain ⟨d, hd, rfl⟩ := List.mem_map.mp hx
      exact sh_part d
theorem sh_row {r : SRow} (h : okR r) : Sh 4 r.d := by
  cases r with
  | ask hd n q =>
    refine Sh.tup fun x hx => ?_
    simp only [List.mem_cons, List.not_mem_nil, or_false] at hx
    rcases hx with rfl | rfl | rfl | rfl
    · exact (Sh.str (by decide +kernel)).mono (by decide)
    · exact (Sh.int _).mono (by decide)
    · exact (Sh.int _).mono (by decide)
    · exact sh_req h
  | told hd n a =>
    refine Sh.tup fun x hx => ?_
    simp only [List.mem_cons, List.not_mem_nil, or_false] at hx
    rcases hx with rfl | rfl | rfl | rfl
    · exact (Sh.str (by decide +kernel)).mono (by decide)
    · exact (Sh.int _).mono (by decide)
    · exact (Sh.int _).mono (by decide)
    · exact sh_ans h
  | saw hd f v c =>
    refine (Sh.tup (n := 0) fun x hx => ?_).mono (by decide)
    simp only [List.mem_cons, List.not_mem_nil, or_false] at hx
    rcases hx with rfl | rfl | rfl | rfl | rfl <;> first | exact Sh.int _ | exact Sh.str (by decide +kernel) | exact Sh.str (c4_ok h)
theorem sh_rows {rows : List SRow} (h : ∀ r ∈ rows, okR r) : Sh 5 (.list (rows.map SRow.d)) := Sh.lst fun d hd => by
  obtain ⟨r, hr, rfl⟩ := List.mem_map.mp hd
  exact sh_row (h r hr)
/-- data of texts, numbers and short rows -/
inductive FewD : PyData → Prop
  | non : FewD .none
  | int (i : Int) : FewD (.int i)
  | str (z : Str) : FewD (.str z)
  | lst {ds : List PyData} : ds.length ≤ 90000 → (∀ d ∈ ds, FewD d) → FewD (.list ds)
  | tup {ds : List PyData} : ds.length ≤ 90000 → (∀ d ∈ ds, FewD d) → FewD (.tuple ds)
theorem dep_mem {d : PyData} : ∀ {ds : List PyData}, d ∈ ds → d.depth ≤ PyData.depthAll ds
  | e :: ds, h => by
    simp only [PyData.depthAll]
    rcases List.mem_cons.mp h with rfl | h
    · exact Nat.le_max_left _ _
    · exact Nat.le_trans (dep_mem h) (Nat.le_max_right _ _)
theorem smd_few {d : PyData} (h : FewD d) : ∀ {n : Nat}, d.depth ≤ n → SmD (n + 1) d := by
  induction h with
  | non => exact fun _ => .non
  | int i => exact fun _ => .int i
  | str z => exact fun _ => .str z
  | lst l _ ih =>
    intro n hn
    simp only [PyData.depth] at hn
    obtain ⟨m, rfl⟩ : ∃ m, n = m + 1 := ⟨n - 1, by omega⟩
    exact .lst l fun d hd => ih d hd (Nat.le_trans (dep_mem hd) (by omega))
  | tup l _ ih =>
    intro n hn
    simp only [PyData.depth] at hn
    obtain ⟨m, rfl⟩ : ∃ m, n = m + 1 := ⟨n - 1, by omega⟩
    exact .tup l fun d hd => ih d hd (Nat.le_trans (dep_mem hd) (by omega))
theorem few_deed (d : SDeed) : FewD d.d := by
  cases d <;> refine .tup (by simp [SDeed.d, SPart.d]) fun x hx => ?_ <;> simp only [List.mem_cons, List.not_mem_nil, or_false] at hx <;> rcases hx with rfl | rfl | rfl | rfl <;> first | exact .int _ | exact .str _
theorem few_part (p : SPart) : FewD p.d := by
  cases p <;> refine .tup (by simp [SDeed.d, SPart.d]) fun x hx => ?_ <;> simp only [List.mem_cons, List.not_mem_nil, or_false] at hx <;> first
    | (rcases hx with rfl | rfl | rfl <;> first | exact .int _ | exact .str _; done)
    | (rcases hx with rfl | rfl <;> first | exact .int _ | exact .str _; done)
theorem few_req {q : SReq} (h : okQ q) : FewD q.d := by
  cases q with
  | join ds =>
    refine .tup (by simp) fun x hx => ?_
    simp only [List.mem_cons, List.not_mem_nil, or_false] at hx
    rcases hx with rfl | rfl
    · exact .str _
    · refine .tup (by have := h.1; rw [List.length_map]; omega) fun x hx => ?_
      obtain ⟨d, hd, rfl⟩ := List.mem_map.mp hx
      exact few_deed d
  | shut f v c => refine .tup (by simp) fun x hx => ?_; simp only [List.mem_cons, List.not_mem_nil, or_false] at hx; rcases hx with rfl | rfl | rfl | rfl <;> first | exact .int _ | exact .str _
  | see f => refine .tup (by simp) fun x hx => ?_; simp only [List.mem_cons, List.not_mem_nil, or_false] at hx; rcases hx with rfl | rfl <;> first | exact .int _ | exact .str _
  | opn => refine .tup (by simp) fun x hx => ?_; simp only [List.mem_cons, List.not_mem_nil, or_false] at hx; rcases hx with rfl | rfl <;> exact .str _
  | look => refine .tup (by simp) fun x hx => ?_; simp only [List.mem_cons, List.not_mem_nil, or_false] at hx; subst hx; exact .str _
  | begin => refine .tup (by simp) fun x hx => ?_; simp only [List.mem_cons, List.not_mem_nil, or_false] at hx; subst hx; exact .str _
theorem few_ans {a : SAns} (h : okA a) : FewD a.d := by
  cases a with
  | ended => refine .tup (by simp) fun x hx => ?_; simp only [List.mem_cons, List.not_mem_nil, or_false] at hx; subst hx; exact .str _
  | ok => refine .tup (by simp) fun x hx => ?_; simp only [List.mem_cons, List.not_mem_nil, or_false] at hx; subst hx; exact .str _
  | begun => refine .tup (by simp) fun x hx => ?_; simp only [List.mem_cons, List.not_mem_nil, or_false] at hx; subst hx; exact .str _
  | refused w => refine .tup (by simp) fun x hx => ?_; simp only [List.mem_cons, List.not_mem_nil, or_false] at hx; rcases hx with rfl | rfl <;> exact .str _
  | shut v st => refine .tup (by simp) fun x hx => ?_; simp only [List.mem_cons, List.not_mem_nil, or_false] at hx; rcases hx with rfl | rfl | rfl <;> first | exact .int _ | exact .str _
  | file f v c st => refine .tup (by simp) fun x hx => ?_; simp only [List.mem_cons, List.not_mem_nil, or_false] at hx; rcases hx with rfl | rfl | rfl | rfl | rfl <;> first | exact .int _ | exact .str _
  | folder =>
    refine .tup (by simp) fun x hx => ?_
    simp only [List.mem_cons, List.not_mem_nil, or_false] at hx
    rcases hx with rfl | rfl | rfl
    · exact .str _
    · exact .int _
    · refine .lst (by simp) fun x hx => ?_
      simp only [List.mem_cons, List.not_mem_nil, or_false] at hx
      rcases hx with rfl | rfl <;> exact .str _
  | joined ps =>
    refine .tup (by simp) fun x hx => ?_
    simp only [List.mem_cons, List.not_mem_nil, or_false] at hx
    rcases hx with rfl | rfl
    · exact .str _
    · refine .lst (by have : ps.length ≤ 3 := h; rw [List.length_map]; omega) fun x hx => ?_
      obtain ⟨d, hd, rfl⟩ := List.mem_map.mp hx
      exact few_part d
theorem few_row {r : SRow} (h : okR r) : FewD r.d := by
  cases r with
  | ask hd n q =>
    refine .tup (by simp) fun x hx => ?_
    simp only [List.mem_cons, List.not_mem_nil, or_false] at hx
    rcases hx with rfl | rfl | rfl | rfl <;> first | exact few_req h | exact .int _ | exact .str _
  | told hd n a =>
    refine .tup (by simp) fun x hx => ?_
    simp only [List.mem_cons, List.not_mem_nil, or_false] at hx
    rcases hx with rfl | rfl | rfl | rfl <;> first | exact few_ans h | exact .int _ | exact .str _
  | saw hd f v c =>
    refine .tup (by simp) fun x hx => ?_
    simp only [List.mem_cons, List.not_mem_nil, or_false] at hx
    rcases hx with rfl | rfl | rfl | rfl | rfl <;> first | exact .int _ | exact .str _
theorem smd_story {rows : List SRow} (h : ∀ r ∈ rows, okR r) (hl : rows.length ≤ 1000) : SmD 6 (.list (rows.map SRow.d)) := by
  refine smd_few (.lst (by rw [List.length_map]; omega) fun d hd => ?_) (sh_rows h).2
  obtain ⟨r, hr, rfl⟩ := List.mem_map.mp hd
  exact few_row (h r hr)
theorem atI_in {xs : List V} {i : Int} (h0 : 0 ≤ i) (h1 : i < (xs.length : Int)) : ∃ v, atI xs i = some v ∧ xs[i.toNat]? = some v ∧ v ∈ xs := by
  have hi : i.toNat < xs.length := by omega
  refine ⟨xs[i.toNat], ?_, List.getElem?_eq_getElem hi, List.getElem_mem hi⟩
  unfold atI ixN
  rw [if_pos h0, if_pos h1]
  exact List.getElem?_eq_getElem hi
theorem i_isDT {P H : Hp} {cs r : List Ch} {a : Addr} {kvs : List (List Key × V)} {R : Addr → Prop} (m : Mem P cs H) (q : Sel cs (pt a (.dT kvs)) r) (c : R a) : IsDAt (.ref a) H R := ⟨a, rfl, .inr ⟨kvs, .inl (m.rd q)⟩, c⟩
theorem c4_at {i : Int} (h0 : 0 ≤ i) (h1 : i < 4) : ∃ c : Str, atI [V.str "", V.str "x", V.str "y.1", V.str "zz"] i = some (.str c) ∧ c ∈ C4 := by
  obtain ⟨v, hv, _, hm⟩ := atI_in (xs := [V.str "", V.str "x", V.str "y.1", V.str "zz"]) h0 h1
  simp only [List.mem_cons, List.not_mem_nil, or_false] at hm
  rcases hm with rfl | rfl | rfl | rfl <;> exact ⟨_, hv, by decide⟩
def DeR (K : PySem.W.Frag) (P : Hp) (v : V) (d : SDeed) : Prop := Dp K P v d.d ∧ match d with | .make c => c ∈ C4 | .shut _ _ c => c ∈ C4
theorem DeR.up {K : PySem.W.Frag} {P P' : Hp} (e : Ex P P') {v : V} {d : SDeed} (h : DeR K P v d) : DeR K P' v d := ⟨Dp.up e h.1, h.2⟩
theorem DeR.make {K : PySem.W.Frag} {P : Hp} {r : Addr} {c : Str} (h : SqT K P r [.str "make", .int 0, .str "n", .str c]) (hc : c ∈ C4) : DeR K P (.ref r) (.make c) :=
  ⟨.tup h (.cons (.str _) (.cons (.int _) (.cons (.str _) (.cons (.str _) .nil)))), hc⟩
theorem DeR.shut {K : PySem.W.Frag} {P : Hp} {r : Addr} {f v : Int} {c : Str} (h : SqT K P r [.str "shut", .int f, .int v, .str c]) (hc : c ∈ C4) : DeR K P (.ref r) (.shut f v c) :=
  ⟨.tup h (.cons (.str _) (.cons (.int _) (.cons (.int _) (.cons (.str _) .nil)))), hc⟩
theorem des_dp {K : PySem.W.Frag} {P : Hp} : ∀ {xs : List V} {ds : List SDeed}, Paired (DeR K P) xs ds → DpAll K P xs (ds.map SDeed.d)
  | _, _, .nil => .nil
  | _, _, .cons a r => .cons a.1 (des_dp r)
theorem des_ok {K : PySem.W.Frag} {P : Hp} : ∀ {xs : List V} {ds : List SDeed}, Paired (DeR K P) xs ds → ∀ d ∈ ds, match d with | .make c => c ∈ C4 | .shut _ _ c => c ∈ C4
  | _, _, .cons a r, d, h => by
    rcases List.mem_cons.mp h with z | z
    · rw [z]; exact a.2
    · exact des_ok r d z
/-- a request as it lies -/
def ReqR (K : PySem.W.Frag) (P : Hp) (v : V) : Prop := ∃ b q, v = .ref b ∧ Dp K P (.ref b) (SReq.d q) ∧ okQ q
theorem set_ask (ask : AskL) (h : Nat) (b : Addr) (q : SReq) : (ask.map askV).set (h : Int).toNat (.ref b) = (ask.set h (some (b, q))).map askV := by
  rw [List.map_set]; rfl
theorem set_none (ask : AskL) (h : Nat) : (ask.map askV).set (h : Int).toNat .non = (ask.set h none).map askV := by
  rw [List.map_set]; rfl
theorem set_cnt (cnt : List Int) (h : Nat) (c : Int) : (cnt.map V.int).set (h : Int).toNat (.int c) = (cnt.set h c).map V.int := by
  rw [List.map_set]; rfl
theorem map_at {α : Type} {f : α → V} {l : List α} {h : Nat} {x : α} (e : l[h]? = some x) : (l.map f)[h]? = some (f x) := by
  rw [List.getElem?_map, e]; rfl
theorem set_at {α : Type} {l : List α} {h : Nat} {x : α} (e : h < l.length) : (l.set h x)[h]? = some x := List.getElem?_set_self e
theorem StG.ask {K : PySem.W.Frag} {P P' : Hp} (e : Ex P P') {nk : List (Key × V)} {ck : List (List Key × V)} {cnt : List Int} {ask : AskL} {n B : Nat} (h : StG K P nk ck cnt ask n B) (i : Nat) (c : Int) {b : Addr} {q : SReq} (hd : Dp K P' (.ref b) q.d) (hq : okQ q) : StG K P' nk ck (cnt.set i c) (ask.set i (some (b, q))) n B :=
  ⟨h.now, h.con, h.ln, h.lc, by rw [List.length_set]; exact h.hu, by rw [List.length_set]; exact h.hs, fun p hp => by
    rcases List.mem_or_eq_of_mem_set hp with z | z
    · exact h.asks.up e p z
    · cases z; exact ⟨hd, hq⟩⟩
theorem StG.told {K : PySem.W.Frag} {P P' : Hp} (e : Ex P P') {nk : List (Key × V)} {ck : List (List Key × V)} {cnt : List Int} {ask : AskL} {n B : Nat} (h : StG K P nk ck cnt ask n B) (i : Nat) : StG K P' nk ck cnt (ask.set i none) n B :=
  ⟨h.now, h.con, h.ln, h.lc, h.hu, by rw [List.length_set]; exact h.hs, fun p hp => by
    rcases List.mem_or_eq_of_mem_set hp with z | z
    · exact h.asks.up e p z
    · cases z⟩
section
variable {K : PySem.W.Frag} {P : Hp} {b : Addr}
theorem see_inv {f : Int} (d : Dp K P (.ref b) (SReq.see f).d) : SqT K P b [.str "see", .int f] := by
  cases d with
  | tup h d => cases d with
    | cons h1 d => cases h1; cases d with
      | cons h2 d => cases h2; cases d; exact h
theorem opn_inv (d : Dp K P (.ref b) SReq.opn.d) : SqT K P b [.str "open", .str "/a"] := by
  cases d with
  | tup h d => cases d with
    | cons h1 d => cases h1; cases d with
      | cons h2 d => cases h2; cases d; exact h
theorem look_inv (d : Dp K P (.ref b) SReq.look.d) : SqT K P b [.str "look"] := by
  cases d with
  | tup h d => cases d with
    | cons h1 d => cases h1; cases d; exact h
theorem begin_inv (d : Dp K P (.ref b) SReq.begin.d) : SqT K P b [.str "begin"] := by
  cases d with
  | tup h d => cases d with
    | cons h1 d => cases h1; cases d; exact h
end
abbrev st4 (a b c d : V) : List (Key × V) := [(Sum.inr "now", a), (Sum.inr "contents", b), (Sum.inr "counts", c), (Sum.inr "asked", d)]
theorem mergeSt {a b c d : V} : mergeK [] (st4 a b c d) = st4 a b c d := rfl
theorem putFil {a b c d e : V} : putK (st4 a b c d) (Sum.inr "files") e = (st4 a b c d ++ ([(Sum.inr "files", e)] : List (Key × V))) := rfl
theorem putOdd {a b c d e f : V} : putK (st4 a b c d ++ ([(Sum.inr "files", e)] : List (Key × V))) (Sum.inr "odd") f = (st4 a b c d ++ ([(Sum.inr "files", e), (Sum.inr "odd", f)] : List (Key × V))) := rfl
theorem i_dispSt {P H : Hp} {cs r : List Ch} {Q : VK} {p : Addr} {x a b c : V} (m : Mem P cs H) (u : Upd cs p (.dK []) (.dK [(Sum.inr "now", x), (Sum.inr "contents", a), (Sum.inr "counts", b), (Sum.inr "asked", c)]) r) (q : ∀ H', Mem P r H' → Q (.ref p) H') : DispEnd p [(.str "now", x), (.str "contents", a), (.str "counts", b), (.str "asked", c)] H Q :=
  i_dispEnd (kvs := [(Sum.inr "now", x), (Sum.inr "contents", a), (Sum.inr "counts", b), (Sum.inr "asked", c)]) m rfl (by rw [mergeSt]; exact u) (by simp) q
theorem dp_take {K : PySem.W.Frag} {P : Hp} : ∀ (k : Nat) {xs : List V} {ds : List PyData}, DpAll K P xs ds → DpAll K P (xs.take k) (ds.take k)
  | 0, _, _, _ => .nil
  | k + 1, _, _, .nil => .nil
  | k + 1, _, _, .cons a r => .cons a (dp_take k r)
theorem cut_take (xs : List V) (m : Int) : ∃ k : Nat, cutV xs none (some m) = xs.take k := ⟨_, by unfold cutV; rw [show HT.sIx xs.length 0 none = 0 from rfl]; rfl⟩
structure GoodS (rows : List SRow) : Prop where
  wf : Wf rows
  ok : ∀ r ∈ rows, okR r
  l : rows.length ≤ 1000
theorem GoodS.take {rows : List SRow} (g : GoodS rows) (k : Nat) : GoodS (rows.take k) := ⟨g.wf.take k, fun r hr => g.ok r (List.mem_of_mem_take hr), by have := g.l; rw [List.length_take]; omega⟩
theorem rep_flat {α : Type} (k : Nat) (x : α) : (List.replicate k [x]).flatten = List.replicate k x := by
  induction k with
  | zero => rfl
  | succ k ih => rw [List.replicate_succ, List.flatten_cons, ih]; rfl
end FS

set_option Elab.async false
set_option maxRecDepth 100000
set_option linter.all false
set_option maxHeartbeats 4000000
namespace Fs
open PySem L2 Evl FS
local macro_rules
  | `(tactic| purse 1 => fail) => `(tactic| ((repeat (first | exact FS.Sel.z | apply FS.Sel.s)); done))
  | `(tactic| purse 2 => fail) => `(tactic| ((repeat (first | assumption | exact Evl.Ex.refl _ | refine Evl.Ex.trans ?_ (by assumption))); done))
  | `(tactic| purse 3 => fail) => `(tactic| first
    | assumption
    | exact FS.Mem.sqL (by assumption) (by assumption) (by (purse 2 => fail))
    | exact FS.Mem.sqT (by assumption) (by assumption) (by (purse 2 => fail))
    | exact FS.Mem.sqLp (by assumption) (by (purse 1 => fail))
    | exact FS.sqL_up (by assumption) (by (purse 2 => fail))
    | exact FS.sqT_up (by assumption) (by (purse 2 => fail)))
  | `(tactic| purse 4 => fail) => `(tactic| ((repeat (first | exact FS.SetS.z | apply FS.SetS.s)); done))
  | `(tactic| purse 5 => fail) => `(tactic| ((repeat (first | exact FS.Upd.z | apply FS.Upd.s)); done))
  | `(tactic| purse 6 => fail) => `(tactic| first | refine FS.Go.run ?_ | (purse 7 => fail))
  | `(tactic| purse 7 => fail) => `(tactic| first
    | (refine FS.TgA.on ?_; (purse 11 => fail))
    | (refine FS.TgB.on ?_; (purse 10 => fail))
    | (refine FS.TgC.on ?_; (purse 13 => fail))
    | (refine FS.TgD.on ?_; (purse 14 => fail))
    | (refine FS.TgE.on ?_; (purse 12 => fail))
    | (refine FS.TgF.on ?_; (purse 15 => fail))
    | (purse 16 => fail))
  | `(tactic| purse 8 => fail) => `(tactic| repeat (purse 6 => fail))
  | `(tactic| purse 9 => fail) => `(tactic| repeat (first | (purse 6 => fail) | (purse 29 => fail) | (refine FS.i_newL (K := ‹PySem.W.Frag›) (by assumption) ?_; intro p P' H' m e h)))
  | `(tactic| purse 10 => fail) => `(tactic| first
    | ((with_reducible show L2.rIxL _ _ _ _ _); refine FS.i_ixL (by (purse 3 => fail)) rfl ?_)
    | ((with_reducible show L2.rIxT _ _ _ _ _); refine FS.i_ixT (by (purse 3 => fail)) rfl ?_)
    | ((with_reducible show L2.gTup _ _ _ _ _ _ _); refine FS.i_gTup (by (purse 3 => fail)) rfl ?_)
    | ((with_reducible show L2.rSlL _ _ _ _ _ _); refine FS.i_slL (by (purse 3 => fail)) ?_)
    | ((with_reducible show FS.rLen _ _ _ _); first | refine FS.i_lenL (by (purse 3 => fail)) ?_ | refine FS.i_lenT (by (purse 3 => fail)) ?_)
    | ((with_reducible show FS.rListOf _ _ _ _); first | refine FS.i_listL (by (purse 3 => fail)) ?_ | refine FS.i_listT (by (purse 3 => fail)) ?_)
    | ((with_reducible show FS.rTupOf _ _ _ _); refine FS.i_tupL (by (purse 3 => fail)) ?_)
    | ((with_reducible show L2.tyV _ _ _ _ ∧ _); refine FS.i_tyL (by (purse 3 => fail)) ?_)
    | ((with_reducible show L2.rIn _ false (L2.V.str (PySem.Str.ofString _)) _ _ _); first | refine FS.i_inT (b := true) (by (purse 3 => fail)) rfl rfl (by decide) ?_ | refine FS.i_inT (b := false) (by (purse 3 => fail)) rfl rfl (by decide) ?_)
    | ((with_reducible show L2.rSlA _ _ _ _ _ _); refine FS.i_slA (by assumption) (by (purse 3 => fail)) ?_; intro p P' H' m e h)
    | ((with_reducible show FS.rSl3 _ _ _ _ _ _ _); refine FS.i_sl3 (by (purse 3 => fail)) (by decide) rfl (by (purse 17 => fail)) ?_))
  | `(tactic| purse 11 => fail) => `(tactic| first
    | ((with_reducible show FS.NewT (L2.V.ty _ :: _) _ _); refine FS.i_newTy (by (purse 17 => fail)) (by assumption) ?_; intro p P' H' m e h)
    | ((with_reducible show FS.NewT _ _ _); refine FS.i_NT (by (purse 17 => fail)) ?_; refine FS.i_newT (K := ‹PySem.W.Frag›) (by assumption) ?_; intro p P' H' m e h)
    | ((with_reducible show FS.NewL _ _ _); refine FS.i_NL (by (purse 17 => fail)) ?_)
    | ((with_reducible show L2.tDisp _ _ _ _); refine FS.i_disp (by assumption) ?_; intro p H' m)
    | ((with_reducible show FS.DispEnd _ [(L2.V.int _, _)] _ _); refine FS.i_dispI (by assumption) (by (purse 5 => fail)) ?_; intro H' m)
    | ((with_reducible show FS.NewO (L2.HO.tup _) _ _); refine FS.i_newT (K := ‹PySem.W.Frag›) (by assumption) ?_; intro p P' H' m e h)
    | ((with_reducible show FS.DispEnd _ [(L2.V.int _, _), (L2.V.int _, _)] _ _); refine FS.i_dispI2 (by assumption) (by decide) (by (purse 5 => fail)) ?_; intro H' m)
    | ((with_reducible show FS.DispEnd _ [(L2.V.str _, _)] _ _); refine FS.i_dispS1 (by assumption) (by (purse 5 => fail)) ?_; intro H' m)
    | ((with_reducible show FS.DispEnd _ [(L2.V.str _, _), (L2.V.str _, _)] _ _); refine FS.i_dispS2 (by assumption) (by decide) (by (purse 5 => fail)) ?_; intro H' m)
    | ((with_reducible show FS.DispEnd _ [(L2.V.str _, _), (L2.V.str _, _), (L2.V.str _, _)] _ _); refine FS.i_dispS3 (by assumption) (by decide) (by decide) (by decide) (by (purse 5 => fail)) ?_; intro H' m))
  | `(tactic| purse 12 => fail) => `(tactic| first
    | ((with_reducible show (if decide (PySem.Str.ofString _ = PySem.Str.ofString _) = true then _ else _)); first | refine FS.i_dec (fun _ => ?_) (fun z => absurd rfl z) | refine FS.i_dec (fun z => absurd z (by decide)) (fun _ => ?_))
    | ((with_reducible show L2.tChain _ _ _ _ _ _ _ _); refine FS.i_chain ?_)
    | refine FS.i_p12 ?_ | refine FS.i_p18 ?_ | refine FS.i_p9 ?_ | refine FS.i_p6 ?_ | refine FS.i_p11 ?_
    | ((with_reducible show L2.rI _ _ _ _ _ _); refine FS.i_rI (by (purse 19 => fail)) ?_)
    | ((with_reducible show L2.rIsi _ _ _ _); refine FS.i_isi (L2.ClsV.ty _) (by first | exact FS.tyx_l (by (purse 3 => fail)) | exact FS.tyx_t (by (purse 3 => fail)) | exact L2.TyX.base (by constructor)) (L2.kit_ty (by (purse 20 => fail))) ?_)
    | ((with_reducible show L2.rIsiT _ _ _ _); first | refine FS.i_isiT2 (r := true) (by assumption) (by assumption) (by first | exact FS.tyx_l (by (purse 3 => fail)) | exact FS.tyx_t (by (purse 3 => fail)) | exact L2.TyX.base (by constructor)) (by (purse 20 => fail)) (by (purse 20 => fail)) (by rfl) ?_ | refine FS.i_isiT2 (r := false) (by assumption) (by assumption) (by first | exact FS.tyx_l (by (purse 3 => fail)) | exact FS.tyx_t (by (purse 3 => fail)) | exact L2.TyX.base (by constructor)) (by (purse 20 => fail)) (by (purse 20 => fail)) (by rfl) ?_)
    | ((with_reducible show FS.rAddS _ _ _ _); refine FS.i_addS (by (purse 18 => fail)) ?_)
    | ((with_reducible show FS.rLenStr _ _ _); refine FS.i_lenS (FS.sz_up (by (purse 18 => fail))) ?_)
    | ((with_reducible show L2.rSlS _ _ _ _ _); refine FS.i_slS (by (purse 18 => fail)) ?_))
  | `(tactic| purse 13 => fail) => `(tactic| first
    | ((with_reducible show FS.FldAt _ _ _ _ _); (purse 32 => fail))
    | ((with_reducible show FS.FldPut _ _ _ _ _ _); (purse 33 => fail))
    | ((with_reducible show FS.FldAug _ _ _ _ _); (purse 34 => fail))
    | ((with_reducible show FS.FldBack _ _ _ _ _ _); (purse 35 => fail))
    | ((with_reducible show FS.MethAt _ _ _ _ _); refine FS.i_methAt (by assumption) (by (purse 1 => fail)) rfl ?_))
  | `(tactic| purse 14 => fail) => `(tactic| first
    | ((with_reducible show L2.rSetL _ _ _ _ _); refine FS.i_setL (by assumption) (by (purse 1 => fail)) (by (purse 21 => fail)) (by (purse 5 => fail)) ?_; intro H' m)
    | ((with_reducible show FS.Par2 _ _ _ _ _ _); refine FS.i_par2 (by (purse 4 => fail)) (by (purse 4 => fail)) ?_)
    | ((with_reducible show FS.rLenD _ _ _); refine FS.i_lenDr (by assumption) (by (purse 1 => fail)) ?_)
    | ((with_reducible show FS.rValsL _ _ _); refine FS.i_listValsAt (by assumption) (by (purse 1 => fail)) ?_)
    | ((with_reducible show L2.rAppend _ _ _ _); refine FS.i_app (by assumption) (by (purse 5 => fail)) (by (purse 17 => fail)) ?_; intro H' m)
    | ((with_reducible show L2.rExtend _ _ _ _); refine FS.i_ext (by assumption) (by (purse 1 => fail)) (by (purse 5 => fail)) (by (purse 17 => fail)) ?_; intro H' m)
    | ((with_reducible show L2.rReverse _ _ _ _); refine FS.i_rev (by assumption) (by (purse 5 => fail)) ?_; intro H' m)
    | ((with_reducible show L2.rClear _ _ _ _); refine FS.i_clr (by assumption) (by (purse 5 => fail)) ?_; intro H' m))
  | `(tactic| purse 15 => fail) => `(tactic| first
    | ((with_reducible show L2.rCat _ _ _ _); refine FS.i_cat (by assumption) (by (purse 1 => fail)) (by (purse 1 => fail)) ?hl ?_; (case hl => (purse 17 => fail)))
    | ((with_reducible show FS.rCatL _ _ _ _ _); refine FS.i_catL (by (purse 3 => fail)) (by (purse 3 => fail)) (by (purse 17 => fail)) ?_)
    | ((with_reducible show L2.rCatT _ _ _ _ _); refine FS.i_catT (by (purse 3 => fail)) (by (purse 3 => fail)) (by intro z; cases z) (by intro z; cases z) (by (purse 17 => fail)) ?_)
    | ((with_reducible show L2.rCatA _ _ _ _ _); refine FS.i_catAk (by assumption) (by (purse 3 => fail)) (by (purse 3 => fail)) (by (purse 17 => fail)) ?_; intro p P' H' m e h))
  | `(tactic| purse 16 => fail) => `(tactic| first
    | ((with_reducible show L2.gName _ _ _ _ _); refine FS.i_name (by (purse 4 => fail)) ?_)
    | with_reducible refine FS.i_var rfl ?_
    | with_reducible refine FS.i_sortR ?_)
  | `(tactic| purse 17 => fail) => `(tactic| first | decide | (simp; done) | (simp; omega) | (simp only [List.length_cons, List.length_nil]; decide) | omega)
  | `(tactic| purse 18 => fail) => `(tactic| first | assumption | omega | decide | (simp; omega))
  | `(tactic| purse 19 => fail) => `(tactic| first | (show L2.CMul _ _; (purse 24 => fail)) | (show (0 : Int) < _; first | decide | omega | (dsimp only; omega)) | (show L2.CDivW _ _; first | exact ⟨by decide, by decide⟩ | apply_assumption | fail "divw"))
  | `(tactic| purse 20 => fail) => `(tactic| first | exact FS.kb_bool_bool | exact FS.kb_bool_int | exact FS.kb_bool_str | exact FS.kb_bool_list | exact FS.kb_bool_tuple | exact FS.kb_bool_dict | exact FS.kb_int_bool | exact FS.kb_int_int | exact FS.kb_int_str | exact FS.kb_int_list | exact FS.kb_int_tuple | exact FS.kb_int_dict | exact FS.kb_str_bool | exact FS.kb_str_int | exact FS.kb_str_str | exact FS.kb_str_list | exact FS.kb_str_tuple | exact FS.kb_str_dict | exact FS.kb_NoneType_bool | exact FS.kb_NoneType_int | exact FS.kb_NoneType_str | exact FS.kb_NoneType_list | exact FS.kb_NoneType_tuple | exact FS.kb_NoneType_dict | exact FS.kb_list_bool | exact FS.kb_list_int | exact FS.kb_list_str | exact FS.kb_list_list | exact FS.kb_list_tuple | exact FS.kb_list_dict | exact FS.kb_tuple_bool | exact FS.kb_tuple_int | exact FS.kb_tuple_str | exact FS.kb_tuple_list | exact FS.kb_tuple_tuple | exact FS.kb_tuple_dict | exact FS.kb_dict_bool | exact FS.kb_dict_int | exact FS.kb_dict_str | exact FS.kb_dict_list | exact FS.kb_dict_tuple | exact FS.kb_dict_dict)
  | `(tactic| purse 21 => fail) => `(tactic| ((repeat (first | exact FS.SetV.z | apply FS.SetV.s)); done))
  | `(tactic| purse 22 => fail) => `(tactic| ((repeat (first | exact FS.Per.nil | (refine FS.Per.cons (by (purse 1 => fail)) ?_))); done))
  | `(tactic| purse 23 => fail) => `(tactic| ((repeat (first | exact FS.Pr.all | (refine FS.Pr.cons (by (purse 1 => fail)) ?_))); done))
  | `(tactic| purse 24 => fail) => `(tactic| first
    | exact Or.inr ⟨by decide, by decide⟩ | exact Or.inl ⟨by decide, by decide⟩
    | exact Or.inr ⟨by omega, by omega⟩ | exact Or.inl ⟨by omega, by omega⟩)
  | `(tactic| purse 25 => fail) => `(tactic| first | refine FS.i_ndec ?_ ?_ | refine FS.i_dec ?_ ?_ | refine FS.i_ite ?_ ?_)
  | `(tactic| purse 26 => fail) => `(tactic| first
    | (refine FS.i_newL (K := ‹PySem.W.Frag›) (by assumption) ?_; intro p P' H' m e h)
    | (refine FS.i_newP (by assumption) ?_; intro p P' H' m e h))
  | `(tactic| purse 27 => fail) => `(tactic| (refine FS.i_newM (by assumption) ?_; intro p H' m))
  | `(tactic| purse 28 => fail) => `(tactic| skip)
  | `(tactic| purse 29 => fail) => `(tactic| first
    | ((with_reducible show FS.IsDAt (L2.V.ref _) _ _); first | refine FS.i_isDAt (by assumption) (by (purse 1 => fail)) ?_ | refine FS.i_isDE (by assumption) (by (purse 1 => fail)) (by assumption) ?_)
    | ((with_reducible show (if Option.isSome (some _) = true then _ else _)); refine L2.iteT ?_)
    | ((with_reducible show (if (!Option.isSome (some _)) = true then _ else _)); refine FS.i_iteNT ?_)
    | ((with_reducible show (if Option.isSome none = true then _ else _)); refine L2.iteF ?_)
    | ((with_reducible show (if (!Option.isSome none) = true then _ else _)); refine FS.i_iteNF ?_)
    | ((with_reducible show FS.DGetAt (L2.V.ref _) (L2.V.str _) _ _); refine FS.i_dgetS (by assumption) (by (purse 1 => fail)) (by first | exact FS.ow_fo _ _ | exact FS.ow_fi _ _ | exact FS.ow_la _ _ | assumption) ?_)
    | ((with_reducible show FS.DGetAt (L2.V.ref _) (L2.V.str _) _ _); refine FS.i_dgetE (by assumption) (by (purse 1 => fail)) (by assumption) (by assumption) ?_)
    | ((with_reducible show FS.DGetAt (L2.V.ref _) (L2.V.int _) _ _); refine FS.i_dgetI (by assumption) (by (purse 1 => fail)) (by assumption) ?_)
    | ((with_reducible show FS.DInAt (L2.V.ref _) (L2.V.int _) _ _); refine FS.i_dinI (by assumption) (by (purse 1 => fail)) ?_; first | rw [FS.foK_isSome (by assumption)] | rw [FS.fv_isSome (by assumption)])
    | ((with_reducible show FS.DInAt (L2.V.ref _) (L2.V.str _) _ _); refine FS.i_dinE (by assumption) (by (purse 1 => fail)) (by assumption) ?_; rw [FS.map_isSome])
    | ((with_reducible show FS.rLenD [L2.V.ref _] _ _); refine FS.i_lenE (by assumption) (by (purse 1 => fail)) (by assumption) ?_))
  | `(tactic| purse 30 => fail) => `(tactic| repeat (first | (purse 6 => fail) | (purse 29 => fail)))
  | `(tactic| purse 31 => fail) => `(tactic| repeat (first | (purse 6 => fail) | (purse 29 => fail) | (purse 27 => fail)))

def top (i : Nat) : Stmt := PySem.Challenge.pw_farshelf_k55_the_first_fault.main.body.getD i (.Pass ⟨0, 0, 0, 0⟩)
abbrev s_asks_of : Stmt := top 1
abbrev N_asks_of : List Str := ["story", "asks", "place", "row"]
theorem sc_asks_of : FnScope ["story", "asks", "place", "row"] ["story"] (defScope s_asks_of) := ⟨rfl, rfl, rfl, by decide +kernel, rfl, by decide +kernel, by decide +kernel⟩
abbrev s_joined_puts : Stmt := top 2
abbrev N_joined_puts : List Str := ["deeds", "parts", "found", "deed", "part"]
theorem sc_joined_puts : FnScope ["deeds", "parts", "found", "deed", "part"] ["deeds", "parts"] (defScope s_joined_puts) := ⟨rfl, rfl, rfl, by decide +kernel, rfl, by decide +kernel, by decide +kernel⟩
abbrev s_versions_in : Stmt := top 3
abbrev N_versions_in : List Str := ["asks", "row", "told", "request"]
theorem sc_versions_in : FnScope ["asks", "row", "told", "request"] ["asks", "row"] (defScope s_versions_in) := ⟨rfl, rfl, rfl, by decide +kernel, rfl, by decide +kernel, by decide +kernel⟩
abbrev s_begin_of : Stmt := top 4
abbrev N_begin_of : List Str := ["asks", "place", "row"]
theorem sc_begin_of : FnScope ["asks", "place", "row"] ["asks", "place", "row"] (defScope s_begin_of) := ⟨rfl, rfl, rfl, by decide +kernel, rfl, by decide +kernel, by decide +kernel⟩
abbrev s_are_unlike : Stmt := top 5
abbrev N_are_unlike : List Str := ["one", "other", "binds"]
theorem sc_are_unlike : FnScope ["one", "other", "binds"] ["one", "other", "binds"] (defScope s_are_unlike) := ⟨rfl, rfl, rfl, by decide +kernel, rfl, by decide +kernel, by decide +kernel⟩
abbrev s_first_against : Stmt := top 6
abbrev N_first_against : List Str := ["story", "asks", "told", "k", "row", "begin", "i", "other", "binds"]
theorem sc_first_against : FnScope ["story", "asks", "told", "k", "row", "begin", "i", "other", "binds"] ["story", "asks", "told", "k"] (defScope s_first_against) := ⟨rfl, rfl, rfl, by decide +kernel, rfl, by decide +kernel, by decide +kernel⟩
abbrev s_story_fault : Stmt := top 7
abbrev N_story_fault : List Str := ["story", "asks", "told", "k", "row", "i"]
theorem sc_story_fault : FnScope ["story", "asks", "told", "k", "row", "i"] ["story"] (defScope s_story_fault) := ⟨rfl, rfl, rfl, by decide +kernel, rfl, by decide +kernel, by decide +kernel⟩
abbrev s_law_cell_at : Stmt := top 9
abbrev N_law_cell_at : List Str := ["_law_script", "_law_k"]
theorem sc_law_cell_at : FnScope ["_law_script", "_law_k"] ["_law_script", "_law_k"] (defScope s_law_cell_at) := ⟨rfl, rfl, rfl, by decide +kernel, rfl, by decide +kernel, by decide +kernel⟩
abbrev s_law_mix : Stmt := top 10
abbrev N_law_mix : List Str := ["_law_cell", "_law_k", "_law_m"]
theorem sc_law_mix : FnScope ["_law_cell", "_law_k", "_law_m"] ["_law_cell", "_law_k"] (defScope s_law_mix) := ⟨rfl, rfl, rfl, by decide +kernel, rfl, by decide +kernel, by decide +kernel⟩
abbrev s_law_left : Stmt := top 11
abbrev N_law_left : List Str := ["_law_cell", "_law_k", "_law_number", "_law_j"]
theorem sc_law_left : FnScope ["_law_cell", "_law_k", "_law_number", "_law_j"] ["_law_cell", "_law_k"] (defScope s_law_left) := ⟨rfl, rfl, rfl, by decide +kernel, rfl, by decide +kernel, by decide +kernel⟩
abbrev s_law_pick : Stmt := top 12
abbrev N_law_pick : List Str := ["_law_left_here", "_law_many", "_law_digit"]
theorem sc_law_pick : FnScope ["_law_left_here", "_law_many", "_law_digit"] ["_law_left_here", "_law_many"] (defScope s_law_pick) := ⟨rfl, rfl, rfl, by decide +kernel, rfl, by decide +kernel, by decide +kernel⟩
abbrev s_law_own : Stmt := top 13
abbrev N_law_own : List Str := ["_law_thing", "_law_part"]
theorem sc_law_own : FnScope ["_law_thing", "_law_part"] ["_law_thing"] (defScope s_law_own) := ⟨rfl, rfl, rfl, by decide +kernel, rfl, by decide +kernel, by decide +kernel⟩
abbrev s_law_tells : Stmt := top 14
abbrev N_law_tells : List Str := ["_law_asks", "_law_row_here", "_law_request", "_law_found", "_law_deed", "_law_part"]
theorem sc_law_tells : FnScope ["_law_asks", "_law_row_here", "_law_request", "_law_found", "_law_deed", "_law_part"] ["_law_asks", "_law_row_here"] (defScope s_law_tells) := ⟨rfl, rfl, rfl, by decide +kernel, rfl, by decide +kernel, by decide +kernel⟩
abbrev s_law_fault : Stmt := top 15
abbrev N_law_fault : List Str := ["_law_story", "_law_asks", "_law_place", "_law_row_here", "_law_rows", "_law_k", "_law_file", "_law_version_here", "_law_content_here", "_law_begin", "_law_i", "_law_one", "_law_number", "_law_text", "_law_binds"]
theorem sc_law_fault : FnScope ["_law_story", "_law_asks", "_law_place", "_law_row_here", "_law_rows", "_law_k", "_law_file", "_law_version_here", "_law_content_here", "_law_begin", "_law_i", "_law_one", "_law_number", "_law_text", "_law_binds"] ["_law_story"] (defScope s_law_fault) := ⟨rfl, rfl, rfl, by decide +kernel, rfl, by decide +kernel, by decide +kernel⟩
abbrev s_law_version : Stmt := top 16
abbrev N_law_version : List Str := ["_law_left_here", "_law_state", "_law_file", "_law_now"]
theorem sc_law_version : FnScope ["_law_left_here", "_law_state", "_law_file", "_law_now"] ["_law_left_here", "_law_state", "_law_file"] (defScope s_law_version) := ⟨rfl, rfl, rfl, by decide +kernel, rfl, by decide +kernel, by decide +kernel⟩
abbrev s_law_content : Stmt := top 17
abbrev N_law_content : List Str := ["_law_left_here", "_law_state", "_law_file", "_law_version_here"]
theorem sc_law_content : FnScope ["_law_left_here", "_law_state", "_law_file", "_law_version_here"] ["_law_left_here", "_law_state", "_law_file", "_law_version_here"] (defScope s_law_content) := ⟨rfl, rfl, rfl, by decide +kernel, rfl, by decide +kernel, by decide +kernel⟩
abbrev s_law_put : Stmt := top 18
abbrev N_law_put : List Str := ["_law_left_here", "_law_state", "_law_file", "_law_content_here", "_law_version_here"]
theorem sc_law_put : FnScope ["_law_left_here", "_law_state", "_law_file", "_law_content_here", "_law_version_here"] ["_law_left_here", "_law_state", "_law_file", "_law_content_here"] (defScope s_law_put) := ⟨rfl, rfl, rfl, by decide +kernel, rfl, by decide +kernel, by decide +kernel⟩
abbrev s_law_ask : Stmt := top 19
abbrev N_law_ask : List Str := ["_law_left_here", "_law_state", "_law_h", "_law_file", "_law_contents", "_law_deeds", "_law_k", "_law_deed", "_law_some"]
theorem sc_law_ask : FnScope ["_law_left_here", "_law_state", "_law_h", "_law_file", "_law_contents", "_law_deeds", "_law_k", "_law_deed", "_law_some"] ["_law_left_here", "_law_state", "_law_h"] (defScope s_law_ask) := ⟨rfl, rfl, rfl, by decide +kernel, rfl, by decide +kernel, by decide +kernel⟩
abbrev s_law_answer : Stmt := top 20
abbrev N_law_answer : List Str := ["_law_left_here", "_law_state", "_law_request", "_law_parts", "_law_deed", "_law_part", "_law_file", "_law_version_here"]
theorem sc_law_answer : FnScope ["_law_left_here", "_law_state", "_law_request", "_law_parts", "_law_deed", "_law_part", "_law_file", "_law_version_here"] ["_law_left_here", "_law_state", "_law_request"] (defScope s_law_answer) := ⟨rfl, rfl, rfl, by decide +kernel, rfl, by decide +kernel, by decide +kernel⟩
abbrev s_law_row : Stmt := top 21
abbrev N_law_row : List Str := ["_law_left_here", "_law_state", "_law_h", "_law_file", "_law_version_here", "_law_request"]
theorem sc_law_row : FnScope ["_law_left_here", "_law_state", "_law_h", "_law_file", "_law_version_here", "_law_request"] ["_law_left_here", "_law_state"] (defScope s_law_row) := ⟨rfl, rfl, rfl, by decide +kernel, rfl, by decide +kernel, by decide +kernel⟩
abbrev s_law : Stmt := top 22
abbrev N_law : List Str := ["_law_script", "_law_left_here", "_law_hands", "_law_state", "_law_story", "_law_k", "_law_cell", "_law_turn", "_law_some", "_law_handed", "_law_due", "_law_found"]
theorem sc_law : FnScope ["_law_script", "_law_left_here", "_law_hands", "_law_state", "_law_story", "_law_k", "_law_cell", "_law_turn", "_law_some", "_law_handed", "_law_due", "_law_found"] ["_law_script"] (defScope s_law) := ⟨rfl, rfl, rfl, by decide +kernel, rfl, by decide +kernel, by decide +kernel⟩
structure Txt (K : PySem.W.Frag) (mg : Str → Option Value) (a : Nat → Addr) (c : Nat → Addr) (fd : Nat → FuncData) : Prop where
  F0 : Fun K "asks_of" "asks_of" s_asks_of (a 0) (fd 0)
  b0 : Binds K (fd 0) ["story"] []
  m0 : mg "asks_of" = some (.ref (a 0))
  F1 : Fun K "joined_puts" "joined_puts" s_joined_puts (a 1) (fd 1)
  b1 : Binds K (fd 1) ["deeds", "parts"] []
  m1 : mg "joined_puts" = some (.ref (a 1))
  F2 : Fun K "versions_in" "versions_in" s_versions_in (a 2) (fd 2)
  b2 : Binds K (fd 2) ["asks", "row"] []
  m2 : mg "versions_in" = some (.ref (a 2))
  F3 : Fun K "begin_of" "begin_of" s_begin_of (a 3) (fd 3)
  b3 : Binds K (fd 3) ["asks", "place", "row"] []
  m3 : mg "begin_of" = some (.ref (a 3))
  F4 : Fun K "are_unlike" "are_unlike" s_are_unlike (a 4) (fd 4)
  b4 : Binds K (fd 4) ["one", "other", "binds"] []
  m4 : mg "are_unlike" = some (.ref (a 4))
  F5 : Fun K "first_against" "first_against" s_first_against (a 5) (fd 5)
  b5 : Binds K (fd 5) ["story", "asks", "told", "k"] []
  m5 : mg "first_against" = some (.ref (a 5))
  F6 : Fun K "story_fault" "story_fault" s_story_fault (a 6) (fd 6)
  b6 : Binds K (fd 6) ["story"] []
  m6 : mg "story_fault" = some (.ref (a 6))
  F7 : Fun K "_law_cell_at" "_law_cell_at" s_law_cell_at (a 7) (fd 7)
  b7 : Binds K (fd 7) ["_law_script", "_law_k"] []
  m7 : mg "_law_cell_at" = some (.ref (a 7))
  F8 : Fun K "_law_mix" "_law_mix" s_law_mix (a 8) (fd 8)
  b8 : Binds K (fd 8) ["_law_cell", "_law_k"] []
  m8 : mg "_law_mix" = some (.ref (a 8))
  F9 : Fun K "_law_left" "_law_left" s_law_left (a 9) (fd 9)
  b9 : Binds K (fd 9) ["_law_cell", "_law_k"] []
  m9 : mg "_law_left" = some (.ref (a 9))
  F10 : Fun K "_law_pick" "_law_pick" s_law_pick (a 10) (fd 10)
  b10 : Binds K (fd 10) ["_law_left_here", "_law_many"] []
  m10 : mg "_law_pick" = some (.ref (a 10))
  F11 : Fun K "_law_own" "_law_own" s_law_own (a 11) (fd 11)
  b11 : Binds K (fd 11) ["_law_thing"] []
  m11 : mg "_law_own" = some (.ref (a 11))
  F12 : Fun K "_law_tells" "_law_tells" s_law_tells (a 12) (fd 12)
  b12 : Binds K (fd 12) ["_law_asks", "_law_row_here"] []
  m12 : mg "_law_tells" = some (.ref (a 12))
  F13 : Fun K "_law_fault" "_law_fault" s_law_fault (a 13) (fd 13)
  b13 : Binds K (fd 13) ["_law_story"] []
  m13 : mg "_law_fault" = some (.ref (a 13))
  F14 : Fun K "_law_version" "_law_version" s_law_version (a 14) (fd 14)
  b14 : Binds K (fd 14) ["_law_left_here", "_law_state", "_law_file"] []
  m14 : mg "_law_version" = some (.ref (a 14))
  F15 : Fun K "_law_content" "_law_content" s_law_content (a 15) (fd 15)
  b15 : Binds K (fd 15) ["_law_left_here", "_law_state", "_law_file", "_law_version_here"] []
  m15 : mg "_law_content" = some (.ref (a 15))
  F16 : Fun K "_law_put" "_law_put" s_law_put (a 16) (fd 16)
  b16 : Binds K (fd 16) ["_law_left_here", "_law_state", "_law_file", "_law_content_here"] []
  m16 : mg "_law_put" = some (.ref (a 16))
  F17 : Fun K "_law_ask" "_law_ask" s_law_ask (a 17) (fd 17)
  b17 : Binds K (fd 17) ["_law_left_here", "_law_state", "_law_h"] []
  m17 : mg "_law_ask" = some (.ref (a 17))
  F18 : Fun K "_law_answer" "_law_answer" s_law_answer (a 18) (fd 18)
  b18 : Binds K (fd 18) ["_law_left_here", "_law_state", "_law_request"] []
  m18 : mg "_law_answer" = some (.ref (a 18))
  F19 : Fun K "_law_row" "_law_row" s_law_row (a 19) (fd 19)
  b19 : Binds K (fd 19) ["_law_left_here", "_law_state"] []
  m19 : mg "_law_row" = some (.ref (a 19))
  F20 : Fun K "law" "law" s_law (a 20) (fd 20)
  b20 : Binds K (fd 20) ["_law_script"] []
  m20 : mg "law" = some (.ref (a 20))
  g_enumerate : mg "enumerate" = none
  g_zip : mg "zip" = none
  g_range : mg "range" = none
  g_len : mg "len" = none
  g_abs : mg "abs" = none
  g_isinstance : mg "isinstance" = none
  g_list : mg "list" = none
  g_tuple : mg "tuple" = none
  g_max : mg "max" = none
  g_int : mg "int" = none

section
variable {P : Program} {w : World} {K : PySem.W.Frag} {mg : Str → Option Value} {base : Heap} {a c : Nat → Addr} {fd : Nat → FuncData}

/-- the numbers that draws are taken of: one list of one number -/
def Draw1 (o : HO) : Prop := ∃ x : Int, o = .lst [.int x]
abbrev draw (st : Addr) : Ch := ptx st Draw1
def spCell (K : PySem.W.Frag) : Sp := fun vs H Q _ => ∃ (P : Hp) (cs : List Ch) (a : Addr) (ns : List Int) (k : Int), vs = [.ref a, .int k] ∧ SqL K P a (ns.map V.int) ∧ 0 ≤ k ∧ Mem P cs H ∧ ∀ z, Q (.int z) H
theorem ok_law_cell_at (T : Txt K mg a c fd) : FnOk P w K mg base CX0 1 (a 7) (fd 7) ["_law_script", "_law_k"] (spCell K) := by
  refine T.F7.ok sc_law_cell_at (fun vs H Q E h => ?_) (fun cdv A outer s H vs Q E hr h => ?_)
  · obtain ⟨_, _, _, _, _, rfl, _⟩ := h; rfl
  · obtain ⟨P0, cs, ad, ns, k, rfl, hS, k0, m, q⟩ := h
    refine ⟨_, (pss_cons (ps_if (pt_cmpR op_lt (pv 1) (pe_callB (lenQ (K := K) rfl) (by rfl) T.g_len (by decide +kernel) (pa_cons (pv 0) pa_nil)) (nomark _)) (pss_one (ps_ret (pe_ix (ixL (K := K) rfl) (pv 0) (pv 1) (fun _ _ => rfl)))) pss_nil)
      (pss_one (ps_ret pe_int))), ?_⟩
    (purse 8 => fail)
    (purse 25 => fail) <;> intro hc
    · (purse 8 => fail)
      have hk : k.toNat < ns.length := by
        rw [List.length_map] at hc
        omega
      refine i_ixL (m.sqL hS (Ex.refl _)) (v := .int ns[k.toNat]) ?_ (q _)
      unfold atI ixN
      rw [if_pos k0, if_pos (by rw [List.length_map]; omega)]
      simp [hk]
    · (purse 8 => fail)
      exact q 0
def spMix : Sp := fun vs H Q _ => ∃ (c k : Int), vs = [.int c, .int k] ∧ 0 ≤ k ∧ k ≤ 1000000 ∧ ∀ r, 0 ≤ r → Q (.int r) H
theorem ok_law_mix (T : Txt K mg a c fd) : FnOk P w K mg base CX0 1 (a 8) (fd 8) ["_law_cell", "_law_k"] (spMix) := by
  refine T.F8.ok sc_law_mix (fun vs H Q E h => ?_) (fun cdv A outer s H vs Q E hr h => ?_)
  · obtain ⟨_, _, rfl, _⟩ := h; rfl
  · obtain ⟨cl, k, rfl, k0, k1, q⟩ := h
    have hm0 : 0 ≤ ((cl % 2147483629 + k * k * 7919 + 11) * 48271 % 2147483647) := Int.emod_nonneg _ (by decide)
    have hm1 : ((cl % 2147483629 + k * k * 7919 + 11) * 48271 % 2147483647) < 2147483647 := Int.emod_lt_of_pos _ (by decide)
    refine ⟨_, (pss_cons (ps_set (i := 2) sc_law_mix.nd rfl (Or.inl rfl) (pe_op op_mod (pe_op op_mul (pe_op op_add (pe_op op_add (pe_op op_mod (pv 0) pe_int) (pe_op op_mul (pe_op op_mul (pv 1) (pv 1)) pe_int)) pe_int) pe_int) pe_int))
      (pss_one (ps_ret (pe_op op_mod (pe_op op_mul (pv 2) (pv 2)) pe_int)))), ?_⟩
    (purse 8 => fail)
    exact q _ (Int.emod_nonneg _ (by decide))
def spPick1 : Sp := fun vs H Q _ => ∃ (P : Hp) (F : List Ch) (st : Addr) (many : Int), vs = [.ref st, .int many] ∧ 0 < many ∧ many < 2 ^ 100 ∧ Mem P (draw st :: F) H ∧ ∀ r H', 0 ≤ r → r < many → Mem P (draw st :: F) H' → Q (.int r) H'
theorem ok_law_pick (T : Txt K mg a c fd) : FnOk P w K mg base CX0 1 (a 10) (fd 10) ["_law_left_here", "_law_many"] (spPick1) := by
  refine T.F10.ok sc_law_pick (fun vs H Q E h => ?_) (fun cdv A outer s H vs Q E hr h => ?_)
  · obtain ⟨_, _, _, _, rfl, _⟩ := h; rfl
  · obtain ⟨P0, F, st, many, rfl, h0, h1, m, q⟩ := h
    obtain ⟨o, ⟨x, rfl⟩, m⟩ := m.rdx
    have dw := fun i => (wide_div (i := i) (j := many) (b := 100) h0 (by omega) (by decide) (by decide))
    refine ⟨_, (pss_cons (ps_set (i := 2) sc_law_pick.nd rfl (Or.inl rfl) (pe_op op_mod (pe_ix (ixL (K := K) rfl) (pv 0) pe_int (fun _ _ => rfl)) (pv 1)))
      (pss_cons (ps_asg (pe_op op_fdivW (pe_ix (ixL (K := K) rfl) (pv 0) pe_int (fun _ _ => rfl)) (pv 1)) (pg_sub (pv 0) pe_int set_list))
      (pss_one (ps_ret (pv 2))))), ?_⟩
    (purse 8 => fail)
    exact q _ _ (Int.emod_nonneg _ (by omega)) (Int.emod_lt_of_pos _ h0) (Mem.tox (by assumption) ⟨_, rfl⟩)

/-! ### the program's walk through a story -/
def RowsR (K : PySem.W.Frag) (P : Hp) (L : Addr) (rows : List SRow) : Prop := ∃ xs, SqL K P L xs ∧ DpAll K P xs (rows.map SRow.d)
theorem RowsR.up {K : PySem.W.Frag} {P P' : Hp} (e : Ex P P') {L : Addr} {rows : List SRow} (h : RowsR K P L rows) : RowsR K P' L rows := by
  obtain ⟨xs, h1, h2⟩ := h
  exact ⟨xs, sqL_up h1 e, DpAll.up e h2⟩
def spAsksOf (K : PySem.W.Frag) : Sp := fun vs H Q _ => ∃ (P : Hp) (F : List Ch) (L : Addr) (rows : List SRow), vs = [.ref L] ∧ RowsR K P L rows ∧ rows.length ≤ 1000 ∧ Mem P F H ∧
  ∀ P' H' d kvs, Ex P P' → AskR K P' kvs (asksAt rows rows.length) → Mem P' (pt d (.dT kvs) :: F) H' → Q (.ref d) H'
theorem dp_at {K : PySem.W.Frag} {P : Hp} : ∀ {xs : List V} {ds : List PyData} {i : Nat} {x : V}, DpAll K P xs ds → xs[i]? = some x → ∃ d, ds[i]? = some d ∧ Dp K P x d
  | _, _, i, x, .nil, h => by simp at h
  | _, _, 0, x, .cons (v := v) (d := d) a b, h => ⟨d, rfl, by simp at h; subst h; exact a⟩
  | _, _, i + 1, x, .cons a b, h => dp_at (i := i) b (by simpa using h)
theorem rows_at {K : PySem.W.Frag} {P : Hp} {xs : List V} {rows : List SRow} {i : Nat} {x : V} (h : DpAll K P xs (rows.map SRow.d)) (hx : xs[i]? = some x) : ∃ r, rows[i]? = some r ∧ Dp K P x r.d := by
  obtain ⟨d, hd, hp⟩ := dp_at h hx
  rw [List.getElem?_map] at hd
  obtain ⟨r, hr, rfl⟩ := Option.map_eq_some_iff.mp hd
  exact ⟨r, hr, hp⟩
theorem asksAt_len (rows : List SRow) : ∀ i, (asksAt rows i).length ≤ i
  | 0 => Nat.zero_le _
  | i + 1 => by
    have ih := asksAt_len rows i
    rw [asksAt_succ]
    split
    · unfold aset
      split
      · rw [List.length_map]; omega
      · rw [List.length_append]; simp; omega
    · omega
theorem ok_asks_of (T : Txt K mg a c fd) : FnOk P w K mg base CX0 1 (a 0) (fd 0) ["story"] (spAsksOf K) := by
  refine T.F0.ok sc_asks_of (fun vs H Q E h => ?_) (fun cdv A outer s H vs Q E hr h => ?_)
  · obtain ⟨_, _, _, _, rfl, _⟩ := h; rfl
  · obtain ⟨P0, F, L, rows, rfl, ⟨xs, hL, hx⟩, hl, m, q⟩ := h
    have hxl : xs.length = rows.length := by rw [dpLen hx, List.length_map]
    refine ⟨_, (pss_cons (ps_set (i := 1) sc_asks_of.nd rfl (Or.inl rfl) pe_dnewT)
      (pss_cons (ps_for PassesOwn.never rfl (piE (K := K) rfl (by rfl) T.g_enumerate (pa_cons (pv 0) pa_nil)) (pgT (K := K) (n := 2) rfl rfl (pgs_cons (pg_name (i := 2) sc_asks_of.nd rfl (Or.inl rfl)) (pgs_cons (pg_name (i := 3) sc_asks_of.nd rfl (Or.inl rfl)) pgs_nil)))
      (pss_one (ps_if (pt_cmpR op_eq (pe_ix (ixT (K := K) rfl) (pv 3) pe_int (fun _ _ => rfl)) pe_str (nomark _)) (pss_one (ps_dput (hu_of hr) (pv 1) (pe_tupK (pa_cons (pe_ix (ixT (K := K) rfl) (pv 3) pe_int (fun _ _ => rfl)) (pa_cons (pe_ix (ixT (K := K) rfl) (pv 3) pe_int (fun _ _ => rfl)) pa_nil))) (pe_tup (pa_cons (pv 2) (pa_cons (pe_ix (ixT (K := K) rfl) (pv 3) pe_int (fun _ _ => rfl)) pa_nil))) rfl)) pss_nil)))
      (pss_one (ps_ret (pv 1))))), ?_⟩
    (purse 8 => fail)
    (purse 27 => fail)
    rename_i d H1 m1
    (purse 8 => fail)
    refine l_enum (K := K) (sqL_up hL m1.ex) (fun i σ H' => ∃ P' kvs x2 x3, Ex P0 P' ∧ AskR K P' kvs (asksAt rows i) ∧ Mem P' (pt d (.dT kvs) :: F) H' ∧ σ = [some (.ref L), some (.ref d), x2, x3])
      ⟨P0, [], _, _, Ex.refl _, .nil, m1, rfl⟩ (fun i σ H' _ ⟨P', _, _, _, e, _, m', _⟩ => sqL_up hL (e.trans m'.ex)) ?_ ?_
    · rintro i v σ H' T hv ⟨P', kvs, x2, x3, e, hA, m', rfl⟩ hT
      obtain ⟨r, hr, hd⟩ := rows_at hx hv
      have hi := (List.getElem?_eq_some_iff.mp hv).1
      have hkl : kvs.length < 100000 := by
        have h1 : kvs.length = (asksAt rows i).length := Paired.length hA
        have h2 := asksAt_len rows i
        omega
      obtain ⟨P6, m6, e6, hT6⟩ := Mem.enum (K := K) (xs := [.int (i : Int), v]) m' hT
      replace hd := Dp.up (e.trans e6) hd
      replace hA := hA.up e6
      rw [asksAt_succ, hr]
      cases r with
      | ask h n q0 =>
        obtain ⟨r, b, rfl, h1, h2⟩ := ask_inv hd
        (purse 8 => fail)
        rename_i t8 P8 H8 m8 e8 h8
        refine i_newK m8 (by simp) fun p9 P9 H9 m9 e9 h9 => ?_
        refine i_dputT (k := gK (h, n)) m9 (by (purse 5 => fail)) h9 hkl fun H10 m10 => ?_
        (purse 8 => fail)
        exact ⟨P9, _, _, _, e.trans (e6.trans (e8.trans e9)), askR_put (sqT_up h8 e9) (Dp.up (e8.trans e9) h2) (hA.up (e8.trans e9)), m10, rfl⟩
      | told h n a0 =>
        obtain ⟨r, b, rfl, h1, h2⟩ := told_inv hd
        (purse 8 => fail)
        exact ⟨P6, _, _, _, e.trans e6, hA, m6, rfl⟩
      | saw h f w0 c0 =>
        obtain ⟨r, rfl, h1⟩ := saw_inv hd
        (purse 8 => fail)
        exact ⟨P6, _, _, _, e.trans e6, hA, m6, rfl⟩
    · rintro σ H' ⟨P', kvs, x2, x3, e, hA, m', rfl⟩
      rw [hxl] at hA
      (purse 8 => fail)
      exact q P' H' d kvs e hA m'

def TellsR (K : PySem.W.Frag) (P : Hp) (D : Addr) (ts : List Tell) : Prop := ∃ vs, SqL K P D vs ∧ Paired (TellR K P) vs ts
theorem TellsR.up {K : PySem.W.Frag} {P P' : Hp} (e : Ex P P') {D : Addr} {ts : List Tell} (h : TellsR K P D ts) : TellsR K P' D ts := by
  obtain ⟨vs, h1, h2⟩ := h
  exact ⟨vs, sqL_up h1 e, pmonoF (fun _ _ z => TellR.up e z) h2⟩
def jput : SDeed × SPart → Option Tell
  | (.shut f _ _, .put v) => some (f, v, none)
  | _ => none
theorem joined_zip : ∀ (ds : List SDeed) (ps : List SPart), joinedT ds ps = (ds.zip ps).filterMap jput
  | [], ps => by cases ps <;> rfl
  | d :: ds, [] => by cases d <;> rfl
  | d :: ds, p :: ps => by
    rw [List.zip_cons_cons, List.filterMap_cons, ← joined_zip ds ps]
    cases d <;> cases p <;> rfl
def spJPuts (K : PySem.W.Frag) : Sp := fun vs H Q _ => ∃ (P : Hp) (F : List Ch) (T L : Addr) (ds : List SDeed) (ps : List SPart) (xs ys : List V), vs = [.ref T, .ref L] ∧ SqT K P T xs ∧ DpAll K P xs (ds.map SDeed.d) ∧ SqL K P L ys ∧ DpAll K P ys (ps.map SPart.d) ∧ ds.length ≤ 1000 ∧ Mem P F H ∧
  ∀ P' H' D, Ex P P' → TellsR K P' D (joinedT ds ps) → Mem P' F H' → Q (.ref D) H'
theorem ok_joined_puts (T : Txt K mg a c fd) : FnOk P w K mg base CX0 1 (a 1) (fd 1) ["deeds", "parts"] (spJPuts K) := by
  refine T.F1.ok sc_joined_puts (fun vs H Q E h => ?_) (fun cdv A outer s H vs Q E hr h => ?_)
  · obtain ⟨_, _, _, _, _, _, _, _, rfl, _⟩ := h; rfl
  · obtain ⟨P0, F, T0, L, ds, ps, xs, ys, rfl, hT, hx, hL, hy, hl, m, q⟩ := h
    have hxl : xs.length = ds.length := by rw [dpLen hx, List.length_map]
    have hyl : ys.length = ps.length := by rw [dpLen hy, List.length_map]
    have hzl : (ds.zip ps).length = min xs.length ys.length := by rw [List.length_zip, hxl, hyl]
    refine ⟨_, (pss_cons (ps_set (i := 2) sc_joined_puts.nd rfl (Or.inl rfl) (pe_lst pa_nil))
      (pss_cons (ps_for PassesOwn.never rfl (piZM (K := K) rfl (by rfl) T.g_zip (pa_cons (pv 0) (pa_cons (pv 1) pa_nil))) (pgT (K := K) (n := 2) rfl rfl (pgs_cons (pg_name (i := 3) sc_joined_puts.nd rfl (Or.inl rfl)) (pgs_cons (pg_name (i := 4) sc_joined_puts.nd rfl (Or.inl rfl)) pgs_nil)))
      (pss_one (ps_if (PW.pt (pw_and (pt_cmpR op_eq (pe_ix (ixT (K := K) rfl) (pv 3) pe_int (fun _ _ => rfl)) pe_str (nomark _)) (pw_and1 (pt_cmpR op_eq (pe_ix (ixT (K := K) rfl) (pv 4) pe_int (fun _ _ => rfl)) pe_str (nomark _))))) (pss_one (ps_expr (peM (K := K) rfl PySem.F.plainAttrs_list PySem.F.slot_list_append PySem.F.type_list_append mt_append (pv 2) (pa_cons (pe_tup (pa_cons (pe_ix (ixT (K := K) rfl) (pv 3) pe_int (fun _ _ => rfl)) (pa_cons (pe_ix (ixT (K := K) rfl) (pv 4) pe_int (fun _ _ => rfl)) (pa_cons pe_non pa_nil)))) pa_nil)))) pss_nil)))
      (pss_one (ps_ret (pv 2))))), ?_⟩
    (purse 8 => fail)
    (purse 27 => fail)
    rename_i D H1 m1
    (purse 8 => fail)
    refine l_zipM (K := K) (sqT_up hT m1.ex) (sqL_up hL m1.ex) (fun i σ H' => ∃ P' vs x3 x4, Ex P0 P' ∧ Paired (TellR K P') vs (((ds.zip ps).take i).filterMap jput) ∧ Mem P' (pt D (.lst vs) :: F) H' ∧ σ = [some (.ref T0), some (.ref L), some (.ref D), x3, x4])
      ⟨P0, [], _, _, Ex.refl _, .nil, m1, rfl⟩ (fun i σ H' _ ⟨P', _, _, _, e, _, m', _⟩ => ⟨sqT_up hT (e.trans m'.ex), sqL_up hL (e.trans m'.ex)⟩) ?_ ?_
    · rintro i x y T2 σ H' hxi hyi ⟨P', vs, x3, x4, e, hv, m', rfl⟩ hT2
      obtain ⟨d, hd0, hdd⟩ := dp_at hx hxi
      obtain ⟨p, hp0, hpp⟩ := dp_at hy hyi
      rw [List.getElem?_map] at hd0 hp0
      obtain ⟨d, hd, rfl⟩ := Option.map_eq_some_iff.mp hd0
      obtain ⟨p, hp, rfl⟩ := Option.map_eq_some_iff.mp hp0
      have hvl : vs.length ≤ 1000 := by
        rw [Paired.length hv]
        refine Nat.le_trans (List.length_filterMap_le _ _) ?_
        rw [List.length_take, List.length_zip]; omega
      have hz : (ds.zip ps)[i]? = some (d, p) := List.getElem?_zip_eq_some.mpr ⟨hd, hp⟩
      obtain ⟨P6, m6, e6, hT6⟩ := Mem.enum (K := K) (xs := [x, y]) m' hT2
      replace hdd := Dp.up (e.trans e6) hdd
      replace hpp := Dp.up (e.trans e6) hpp
      replace hv := pmonoF (fun _ _ z => TellR.up e6 z) hv
      rw [List.take_add_one, hz, List.filterMap_append]
      cases d with
      | make c0 =>
        obtain ⟨r, rfl, h1⟩ := makeD_inv hdd
        (purse 8 => fail)
        refine ⟨P6, vs, _, _, e.trans e6, ?_, m6, rfl⟩
        have : (some (SDeed.make c0, p)).toList.filterMap jput = [] := by cases p <;> rfl
        rw [this, List.append_nil]; exact hv
      | shut f w0 c0 =>
        obtain ⟨r, rfl, h1⟩ := shutD_inv hdd
        cases p with
        | put v0 =>
          obtain ⟨r2, rfl, h2⟩ := put_inv hpp
          (purse 8 => fail)
          rename_i t8 P8 H8 m8 e8 h8 H9 m9
          refine ⟨P8, vs ++ [.ref t8], _, _, e.trans (e6.trans e8), ?_, m9, rfl⟩
          exact pair_snoc (pmonoF (fun _ _ z => TellR.up e8 z) hv) ⟨t8, rfl, h8⟩
        | clash =>
          obtain ⟨r2, rfl, h2⟩ := clash_inv hpp
          (purse 8 => fail)
          exact ⟨P6, vs, _, _, e.trans e6, by rw [show (some (SDeed.shut f w0 c0, SPart.clash)).toList.filterMap jput = [] from rfl, List.append_nil]; exact hv, m6, rfl⟩
        | made =>
          obtain ⟨r2, rfl, h2⟩ := made_inv hpp
          (purse 8 => fail)
          exact ⟨P6, vs, _, _, e.trans e6, by rw [show (some (SDeed.shut f w0 c0, SPart.made)).toList.filterMap jput = [] from rfl, List.append_nil]; exact hv, m6, rfl⟩
        | there =>
          obtain ⟨r2, rfl, h2⟩ := there_inv hpp
          (purse 8 => fail)
          exact ⟨P6, vs, _, _, e.trans e6, by rw [show (some (SDeed.shut f w0 c0, SPart.there)).toList.filterMap jput = [] from rfl, List.append_nil]; exact hv, m6, rfl⟩
    · rintro σ H' ⟨P', vs, x3, x4, e, hv, m', rfl⟩
      rw [← hzl, List.take_length, ← joined_zip] at hv
      (purse 8 => fail)
      have f := m'.freeze
      exact q _ H' D (e.trans f.2) ⟨vs, SqL.of upd_same, pmonoF (fun _ _ z => TellR.up f.2 z) hv⟩ f.1
def FitR (A : Asks) (r : SRow) : Prop := match r with
  | .told h n a => ∃ (j : Int) (q : SReq), aget A (h, n) = some (j, q) ∧ fitA a q
  | _ => True
def jlen (r : SRow) (A : Asks) : Prop := match r with
  | .told h n (.joined ps) => ∀ j ds, aget A (h, n) = some (j, .join ds) → ds.length ≤ 1000
  | _ => True
def spVers (K : PySem.W.Frag) : Sp := fun vs H Q _ => ∃ (P : Hp) (F : List Ch) (d r : Addr) (kvs : List (List Key × V)) (A : Asks) (row : SRow), vs = [.ref d, .ref r] ∧ Dp K P (.ref r) row.d ∧ AskR K P kvs A ∧ FitR A row ∧ jlen row A ∧ Mem P (pt d (.dT kvs) :: F) H ∧
  ∀ P' H' D, Ex P P' → TellsR K P' D (tells A row) → Mem P' (pt d (.dT kvs) :: F) H' → Q (.ref D) H'
theorem ok_versions_in (T : Txt K mg a c fd) : FnOk P w K mg base CX0 2 (a 2) (fd 2) ["asks", "row"] (spVers K) := by
  refine T.F2.ok sc_versions_in (fun vs H Q E h => ?_) (fun cdv A outer s H vs Q E hr h => ?_)
  · obtain ⟨_, _, _, _, _, _, _, rfl, _⟩ := h; rfl
  · obtain ⟨P0, F, d, r, kvs, A, row, rfl, hrow, hA, hf, hj, m, q⟩ := h
    have G_joined_puts := ok_joined_puts (P := P) (w := w) (base := base) T
    refine ⟨_, (pss_cons (ps_if (pt_cmpR op_eq (pe_ix (ixT (K := K) rfl) (pv 1) pe_int (fun _ _ => rfl)) pe_str (nomark _)) (pss_one (ps_ret (pe_lst (pa_cons (pe_tup (pa_cons (pe_ix (ixT (K := K) rfl) (pv 1) pe_int (fun _ _ => rfl)) (pa_cons (pe_ix (ixT (K := K) rfl) (pv 1) pe_int (fun _ _ => rfl)) (pa_cons (pe_ix (ixT (K := K) rfl) (pv 1) pe_int (fun _ _ => rfl)) pa_nil)))) pa_nil)))) pss_nil)
      (pss_cons (ps_if (pt_cmpR op_eq (pe_ix (ixT (K := K) rfl) (pv 1) pe_int (fun _ _ => rfl)) pe_str (nomark _)) (pss_one (ps_ret (pe_lst pa_nil))) pss_nil)
      (pss_cons (ps_set (i := 2) sc_versions_in.nd rfl (Or.inl rfl) (pe_ix (ixT (K := K) rfl) (pv 1) pe_int (fun _ _ => rfl)))
      (pss_cons (ps_if (pt_cmpR op_eq (pe_ix (ixT (K := K) rfl) (pv 2) pe_int (fun _ _ => rfl)) pe_str (nomark _)) (pss_one (ps_ret (pe_lst (pa_cons (pe_tup (pa_cons (pe_ix (ixT (K := K) rfl) (pv 2) pe_int (fun _ _ => rfl)) (pa_cons (pe_ix (ixT (K := K) rfl) (pv 2) pe_int (fun _ _ => rfl)) (pa_cons (pe_ix (ixT (K := K) rfl) (pv 2) pe_int (fun _ _ => rfl)) pa_nil)))) pa_nil)))) pss_nil)
      (pss_cons (ps_set (i := 3) sc_versions_in.nd rfl (Or.inl rfl) (pe_ix (ixT (K := K) rfl) (pe_dget (hu_of hr) (pv 0) (pe_tupK (pa_cons (pe_ix (ixT (K := K) rfl) (pv 1) pe_int (fun _ _ => rfl)) (pa_cons (pe_ix (ixT (K := K) rfl) (pv 1) pe_int (fun _ _ => rfl)) pa_nil))) (fun _ _ => rfl)) pe_int (fun _ _ => rfl)))
      (pss_cons (ps_if (pt_cmpR op_eq (pe_ix (ixT (K := K) rfl) (pv 2) pe_int (fun _ _ => rfl)) pe_str (nomark _)) (pss_one (ps_ret (pe_lst (pa_cons (pe_tup (pa_cons (pe_ix (ixT (K := K) rfl) (pv 3) pe_int (fun _ _ => rfl)) (pa_cons (pe_ix (ixT (K := K) rfl) (pv 2) pe_int (fun _ _ => rfl)) (pa_cons pe_non pa_nil)))) pa_nil)))) pss_nil)
      (pss_cons (ps_if (pt_cmpR op_eq (pe_ix (ixT (K := K) rfl) (pv 2) pe_int (fun _ _ => rfl)) pe_str (nomark _)) (pss_one (ps_ret (pe_call G_joined_puts hr rfl T.m1 T.F1.kp T.b1 .nil pass0 (pa_cons (pe_ix (ixT (K := K) rfl) (pv 3) pe_int (fun _ _ => rfl)) (pa_cons (pe_ix (ixT (K := K) rfl) (pv 2) pe_int (fun _ _ => rfl)) pa_nil))))) pss_nil)
      (pss_one (ps_ret (pe_lst pa_nil)))))))))), ?_⟩
    have fin0 : ∀ {P' H' D}, Ex P0 P' → tells A row = [] → SqL K P' D [] → Mem P' (pt d (.dT kvs) :: F) H' → Q (.ref D) H' := fun e hz h m => q _ _ _ e (by rw [hz]; exact ⟨[], h, .nil⟩) m
    have fin1 : ∀ {P' H' D t x}, Ex P0 P' → tells A row = [t] → SqL K P' D [x] → TellR K P' x t → Mem P' (pt d (.dT kvs) :: F) H' → Q (.ref D) H' := fun e hz h ht m => q _ _ _ e (by rw [hz]; exact ⟨[_], h, .cons ht .nil⟩) m
    cases row with
    | saw h f w0 c0 =>
      obtain ⟨_, e0, h1⟩ := saw_inv hrow
      cases e0
      (purse 9 => fail)
      rename_i t1 P1 H1 m1 e1 h1 D P2 H2 m2 e2 h2
      exact fin1 (e1.trans e2) rfl h2 (TellR.up e2 ⟨t1, rfl, h1⟩) m2
    | ask h n q0 =>
      obtain ⟨_, b, e0, h1, h2⟩ := ask_inv hrow
      cases e0
      (purse 9 => fail)
      rename_i D P2 H2 m2 e2 h2
      exact fin0 e2 rfl h2 m2
    | told h n a0 =>
      obtain ⟨_, b, e0, h1, h2⟩ := told_inv hrow
      cases e0
      obtain ⟨j, q0, hq, hfa⟩ := hf
      obtain ⟨t, b2, k1, k2, k3⟩ := askR_get hA hq
      cases a0 with
      | file f w0 c0 st0 =>
        have h3 := file_inv h2
        (purse 9 => fail)
        rename_i t1 P1 H1 m1 e1 h1 D P2 H2 m2 e2 h2
        exact fin1 (e1.trans e2) rfl h2 (TellR.up e2 ⟨t1, rfl, h1⟩) m2
      | shut w0 st0 =>
        have h3 := shutA_inv h2
        cases q0 <;> first | exact hfa.elim | skip
        rename_i f0 w1 c1
        have h4 := shutQ_inv k3
        (purse 9 => fail)
        refine i_newK m (by simp) fun p9 P9 H9 m9 e9 h9 => ?_
        refine i_dgetT (k := gK (h, n)) m9 .z h9 k1 ?_
        replace k2 := sqT_up k2 e9
        replace h4 := sqT_up h4 e9
        replace h3 := sqT_up h3 e9
        (purse 9 => fail)
        rename_i t1 P1 H1 m1 e1 h1 D P2 H2 m2 e2 h2
        have et : tells A (.told h n (.shut w0 st0)) = [(f0, w0, none)] := by
          show (match aget A (h, n) with | some (_, .shut f _ _) => _ | _ => _) = _
          rw [hq]
        exact fin1 (e9.trans (e1.trans e2)) et h2 (TellR.up e2 ⟨t1, rfl, h1⟩) m2
      | joined ps =>
        obtain ⟨L, ys, h3, h4, h5⟩ := joined_inv h2
        cases q0 <;> first | exact hfa.elim | skip
        rename_i ds
        obtain ⟨T0, xs, h6, h7, h8⟩ := join_inv k3
        have hdl : ds.length ≤ 1000 := hj j ds hq
        (purse 9 => fail)
        refine i_newK m (by simp) fun p9 P9 H9 m9 e9 h9 => ?_
        refine i_dgetT (k := gK (h, n)) m9 .z h9 k1 ?_
        replace k2 := sqT_up k2 e9
        replace h6 := sqT_up h6 e9
        replace h3 := sqT_up h3 e9
        (purse 9 => fail)
        refine ⟨P9, _, T0, L, ds, ps, xs, ys, rfl, sqT_up h7 e9, DpAll.up e9 h8, sqL_up h4 e9, DpAll.up e9 h5, hdl, m9, fun P1 H1 D e1 ht m1 => ?_⟩
        have et : tells A (.told h n (.joined ps)) = joinedT ds ps := by
          show (match aget A (h, n) with | some (_, .join ds) => _ | _ => _) = _
          rw [hq]
        exact q P1 H1 D (e9.trans e1) (by rw [et]; exact ht) m1
      | ended =>
        have h3 := ended_inv h2
        (purse 9 => fail)
        refine i_newK m (by simp) fun p9 P9 H9 m9 e9 h9 => ?_
        refine i_dgetT (k := gK (h, n)) m9 .z h9 k1 ?_
        replace k2 := sqT_up k2 e9
        replace h3 := sqT_up h3 e9
        (purse 9 => fail)
        rename_i D P2 H2 m2 e2 h2
        exact fin0 (e9.trans e2) rfl h2 m2
      | refused w1 =>
        have h3 := refused_inv h2
        (purse 9 => fail)
        refine i_newK m (by simp) fun p9 P9 H9 m9 e9 h9 => ?_
        refine i_dgetT (k := gK (h, n)) m9 .z h9 k1 ?_
        replace k2 := sqT_up k2 e9
        replace h3 := sqT_up h3 e9
        (purse 9 => fail)
        rename_i D P2 H2 m2 e2 h2
        exact fin0 (e9.trans e2) rfl h2 m2
      | ok =>
        have h3 := ok_inv h2
        (purse 9 => fail)
        refine i_newK m (by simp) fun p9 P9 H9 m9 e9 h9 => ?_
        refine i_dgetT (k := gK (h, n)) m9 .z h9 k1 ?_
        replace k2 := sqT_up k2 e9
        replace h3 := sqT_up h3 e9
        (purse 9 => fail)
        rename_i D P2 H2 m2 e2 h2
        exact fin0 (e9.trans e2) rfl h2 m2
      | begun =>
        have h3 := begun_inv h2
        (purse 9 => fail)
        refine i_newK m (by simp) fun p9 P9 H9 m9 e9 h9 => ?_
        refine i_dgetT (k := gK (h, n)) m9 .z h9 k1 ?_
        replace k2 := sqT_up k2 e9
        replace h3 := sqT_up h3 e9
        (purse 9 => fail)
        rename_i D P2 H2 m2 e2 h2
        exact fin0 (e9.trans e2) rfl h2 m2
      | folder =>
        obtain ⟨L9, h3⟩ := folder_inv h2
        (purse 9 => fail)
        refine i_newK m (by simp) fun p9 P9 H9 m9 e9 h9 => ?_
        refine i_dgetT (k := gK (h, n)) m9 .z h9 k1 ?_
        replace k2 := sqT_up k2 e9
        replace h3 := sqT_up h3 e9
        (purse 9 => fail)
        rename_i D P2 H2 m2 e2 h2
        exact fin0 (e9.trans e2) rfl h2 m2

def spBegin (K : PySem.W.Frag) : Sp := fun vs H Q _ => ∃ (P : Hp) (F : List Ch) (d r : Addr) (k : Int) (kvs : List (List Key × V)) (A : Asks) (row : SRow), vs = [.ref d, .int k, .ref r] ∧ Dp K P (.ref r) row.d ∧ AskR K P kvs A ∧ FitR A row ∧ Mem P (pt d (.dT kvs) :: F) H ∧
  ∀ P' H', Ex P P' → Mem P' (pt d (.dT kvs) :: F) H' → Q (.int (beginOf A k row)) H'
theorem ok_begin_of (T : Txt K mg a c fd) : FnOk P w K mg base CX0 1 (a 3) (fd 3) ["asks", "place", "row"] (spBegin K) := by
  refine T.F3.ok sc_begin_of (fun vs H Q E h => ?_) (fun cdv A outer s H vs Q E hr h => ?_)
  · obtain ⟨_, _, _, _, _, _, _, _, rfl, _⟩ := h; rfl
  · obtain ⟨P0, F, d, r, k, kvs, A, row, rfl, hrow, hA, hf, m, q⟩ := h
    refine ⟨_, (pss_cons (ps_if (pt_cmpR op_eq (pe_ix (ixT (K := K) rfl) (pv 2) pe_int (fun _ _ => rfl)) pe_str (nomark _)) (pss_one (ps_ret (pe_ix (ixT (K := K) rfl) (pe_dget (hu_of hr) (pv 0) (pe_tupK (pa_cons (pe_ix (ixT (K := K) rfl) (pv 2) pe_int (fun _ _ => rfl)) (pa_cons (pe_ix (ixT (K := K) rfl) (pv 2) pe_int (fun _ _ => rfl)) pa_nil))) (fun _ _ => rfl)) pe_int (fun _ _ => rfl)))) pss_nil)
      (pss_one (ps_ret (pv 1)))), ?_⟩
    cases row with
    | saw h f w0 c0 =>
      obtain ⟨_, e0, h1⟩ := saw_inv hrow
      cases e0
      (purse 8 => fail)
      exact q P0 _ (Ex.refl _) m
    | ask h n q0 =>
      obtain ⟨_, b, e0, h1, h2⟩ := ask_inv hrow
      cases e0
      (purse 8 => fail)
      exact q P0 _ (Ex.refl _) m
    | told h n a0 =>
      obtain ⟨_, b, e0, h1, h2⟩ := told_inv hrow
      cases e0
      obtain ⟨j, q0, hq, hfa⟩ := hf
      obtain ⟨t, b2, k1, k2, k3⟩ := askR_get hA hq
      (purse 8 => fail)
      refine i_newK m (by simp) fun p9 P9 H9 m9 e9 h9 => ?_
      refine i_dgetT (k := gK (h, n)) m9 .z h9 k1 ?_
      replace k2 := sqT_up k2 e9
      (purse 8 => fail)
      have eb : beginOf A k (.told h n a0) = j := by
        show ((aget A (h, n)).map (·.1)).getD 0 = j
        rw [hq]; rfl
      rw [← eb]
      exact q P9 _ e9 m9
def spUnlike (K : PySem.W.Frag) : Sp := fun vs H Q _ => ∃ (P : Hp) (F : List Ch) (v1 v2 : V) (t1 t2 : Tell) (b : Bool) (c0 : Str), vs = [v1, v2, .bl b] ∧ TellR K P v1 t1 ∧ TellR K P v2 t2 ∧ t1.2.2 = some c0 ∧ Mem P F H ∧ Q (.bl (unlike t1 t2 b)) H
theorem ok_are_unlike (T : Txt K mg a c fd) : FnOk P w K mg base CX0 1 (a 4) (fd 4) ["one", "other", "binds"] (spUnlike K) := by
  refine T.F4.ok sc_are_unlike (fun vs H Q E h => ?_) (fun cdv A outer s H vs Q E hr h => ?_)
  · obtain ⟨_, _, _, _, _, _, _, _, rfl, _⟩ := h; rfl
  · obtain ⟨P0, F, v1, v2, t1, t2, b, c0, rfl, h1, h2, hc0, m, q⟩ := h
    obtain ⟨f1, w1, o1⟩ := t1
    obtain ⟨f2, w2, o2⟩ := t2
    obtain rfl : o1 = some c0 := hc0
    obtain ⟨r1, rfl, h1⟩ := h1
    obtain ⟨r2, rfl, h2⟩ := h2
    replace h1 : SqT K P0 r1 [.int f1, .int w1, .str c0] := h1
    unfold unlike at q
    dsimp only at q
    refine ⟨_, (pss_cons (ps_if (pt_cmpR op_ne (pe_ix (ixT (K := K) rfl) (pv 0) pe_int (fun _ _ => rfl)) (pe_ix (ixT (K := K) rfl) (pv 1) pe_int (fun _ _ => rfl)) (nomark _)) (pss_one (ps_ret pe_bl)) pss_nil)
      (pss_cons (ps_if (PW.pt (pw_and (pt_val (pv 2)) (pw_and1 (pt_cmpR op_lt (pe_ix (ixT (K := K) rfl) (pv 0) pe_int (fun _ _ => rfl)) (pe_ix (ixT (K := K) rfl) (pv 1) pe_int (fun _ _ => rfl)) (nomark _))))) (pss_one (ps_ret pe_bl)) pss_nil)
      (pss_one (ps_ret (pe_and (pe_cmpR op_notN1 (pe_ix (ixT (K := K) rfl) (pv 1) pe_int (fun _ _ => rfl)) pe_non (nomark _)) (pe_and (pe_cmpR op_eq (pe_ix (ixT (K := K) rfl) (pv 0) pe_int (fun _ _ => rfl)) (pe_ix (ixT (K := K) rfl) (pv 1) pe_int (fun _ _ => rfl)) (nomark _)) (pe_one (pe_cmpR op_ne (pe_ix (ixT (K := K) rfl) (pv 0) pe_int (fun _ _ => rfl)) (pe_ix (ixT (K := K) rfl) (pv 1) pe_int (fun _ _ => rfl)) (nomark _))))))))), ?_⟩
    cases o2 with
    | none =>
      replace h2 : SqT K P0 r2 [.int f2, .int w2, .non] := h2
      (purse 8 => fail)
      refine i_ndec ?_ ?_ <;> intro hf
      · rw [decide_eq_false hf] at q
        (purse 8 => fail)
        exact q
      · rw [decide_eq_true hf] at q
        cases b with
        | true =>
          (purse 8 => fail)
          (purse 25 => fail) <;> intro hc
          · (purse 8 => fail)
            simpa [hc] using q
          · (purse 8 => fail)
            simpa [hc] using q
        | false =>
          (purse 8 => fail)
          simpa using q
    | some c2 =>
      replace h2 : SqT K P0 r2 [.int f2, .int w2, .str c2] := h2
      (purse 8 => fail)
      refine i_ndec ?_ ?_ <;> intro hf
      · rw [decide_eq_false hf] at q
        (purse 8 => fail)
        exact q
      · rw [decide_eq_true hf] at q
        cases b with
        | true =>
          (purse 8 => fail)
          (purse 25 => fail) <;> intro hc
          · (purse 8 => fail)
            simpa [hc] using q
          · (purse 8 => fail)
            (purse 25 => fail) <;> intro hc2
            · (purse 8 => fail)
              simpa [hc, hc2] using q
            · simpa [hc, hc2] using q
        | false =>
          (purse 8 => fail)
          (purse 25 => fail) <;> intro hc2
          · (purse 8 => fail)
            simpa [hc2] using q
          · simpa [hc2] using q
def ToldR (K : PySem.W.Frag) (P : Hp) (A : Asks) (L : Addr) (rows : List SRow) : Prop := ∃ ts : List Addr, SqL K P L (ts.map V.ref) ∧ Paired (fun t row => TellsR K P t (tells A row)) ts rows
theorem ToldR.up {K : PySem.W.Frag} {P P' : Hp} (e : Ex P P') {A : Asks} {L : Addr} {rows : List SRow} (h : ToldR K P A L rows) : ToldR K P' A L rows := by
  obtain ⟨ts, h1, h2⟩ := h
  exact ⟨ts, sqL_up h1 e, pmonoF (fun _ _ z => TellsR.up e z) h2⟩
theorem told_at {K : PySem.W.Frag} {P : Hp} {A : Asks} {L : Addr} {rows : List SRow} (h : ToldR K P A L rows) {i : Nat} {r : SRow} (hr : rows[i]? = some r) : ∃ ts t vs, SqL K P L ts ∧ atI ts (i : Int) = some (.ref t) ∧ SqL K P t vs ∧ Paired (TellR K P) vs (tells A r) := by
  obtain ⟨ts, h1, h2⟩ := h
  have hl := Paired.length h2
  have hi := (List.getElem?_eq_some_iff.mp hr).1
  have ht : i < ts.length := by omega
  obtain ⟨r', hr', h3⟩ := pairAt h2 (List.getElem?_eq_getElem ht)
  rw [hr] at hr'
  cases hr'
  obtain ⟨vs, h4, h5⟩ := h3
  refine ⟨_, ts[i], vs, h1, ?_, h4, h5⟩
  unfold atI ixN
  rw [if_pos (by omega), if_pos (by rw [List.length_map]; omega)]
  simp [ht]
theorem row_ix {K : PySem.W.Frag} {P : Hp} {xs : List V} {rows : List SRow} (h : DpAll K P xs (rows.map SRow.d)) {i : Nat} {r : SRow} (hr : rows[i]? = some r) : ∃ b, atI xs (i : Int) = some (.ref b) ∧ Dp K P (.ref b) r.d := by
  have hl : xs.length = rows.length := by rw [dpLen h, List.length_map]
  have hi := (List.getElem?_eq_some_iff.mp hr).1
  have hx : xs[i]? = some xs[i] := List.getElem?_eq_getElem (by omega)
  obtain ⟨r', hr', hd⟩ := rows_at h hx
  rw [hr] at hr'
  cases hr'
  obtain ⟨b, hb⟩ : ∃ b, xs[i] = V.ref b := by
    cases r with
    | saw h f w0 c0 => obtain ⟨b, e, _⟩ := saw_inv hd; exact ⟨b, e⟩
    | ask h n q0 => obtain ⟨b, _, e, _⟩ := ask_inv hd; exact ⟨b, e⟩
    | told h n a0 => obtain ⟨b, _, e, _⟩ := told_inv hd; exact ⟨b, e⟩
  refine ⟨b, ?_, hb ▸ hd⟩
  unfold atI ixN
  rw [if_pos (by omega), if_pos (by omega)]
  simp [hx, hb]
theorem row_hand {K : PySem.W.Frag} {P : Hp} {b : Addr} {r : SRow} (hd : Dp K P (.ref b) r.d) : ∃ xs, SqT K P b xs ∧ atI xs 1 = some (.int (handOf r)) := by
  cases r with
  | saw h f w0 c0 => obtain ⟨_, e, h1⟩ := saw_inv hd; cases e; exact ⟨_, h1, rfl⟩
  | ask h n q0 => obtain ⟨_, _, e, h1, _⟩ := ask_inv hd; cases e; exact ⟨_, h1, rfl⟩
  | told h n a0 => obtain ⟨_, _, e, h1, _⟩ := told_inv hd; cases e; exact ⟨_, h1, rfl⟩
theorem looks_tells {A : Asks} {r : SRow} (h : looksB r = true) : ∃ f w c, tells A r = [(f, w, some c)] ∧ tell0 A r = (f, w, some c) := by
  cases r with
  | saw h f w c => exact ⟨f, w, c, rfl, rfl⟩
  | ask h n q => cases h
  | told h n a =>
    cases a with
    | file f w c st => exact ⟨f, w, c, rfl, rfl⟩
    | _ => cases h
def optN : Option Nat → V
  | none => .non
  | some i => .int (i : Int)
def spFA (K : PySem.W.Frag) : Sp := fun vs H Q _ => ∃ (P : Hp) (F : List Ch) (L d Tl : Addr) (k : Nat) (kvs : List (List Key × V)) (A : Asks) (rows : List SRow) (rk : SRow), vs = [.ref L, .ref d, .ref Tl, .int (k : Int)] ∧ RowsR K P L rows ∧ AskR K P kvs A ∧ ToldR K P A Tl rows ∧ rows[k]? = some rk ∧ looksB rk = true ∧ FitR A rk ∧ rows.length ≤ 1000 ∧ Mem P (pt d (.dT kvs) :: F) H ∧
  ∀ P' H', Ex P P' → Mem P' (pt d (.dT kvs) :: F) H' → Q (optN (firstA A rows k rk)) H'
theorem ok_first_against (T : Txt K mg a c fd) : FnOk P w K mg base CX0 2 (a 5) (fd 5) ["story", "asks", "told", "k"] (spFA K) := by
  refine T.F5.ok sc_first_against (fun vs H Q E h => ?_) (fun cdv A outer s H vs Q E hr h => ?_)
  · obtain ⟨_, _, _, _, _, _, _, _, _, _, rfl, _⟩ := h; rfl
  · obtain ⟨P0, F, L, d, Tl, k, kvs, A0, rows, rk, rfl, ⟨xs, hL, hx⟩, hA, hT, hrk, hlk, hfk, hl, m, q⟩ := h
    have hk := (List.getElem?_eq_some_iff.mp hrk).1
    obtain ⟨b, hb1, hb2⟩ := row_ix hx hrk
    obtain ⟨ts, t, vs, k1, k2, k3, k4⟩ := told_at hT hrk
    obtain ⟨f0, w0, c0, etl, et0⟩ := looks_tells (A := A0) hlk
    rw [etl] at k4
    obtain ⟨v0, hv0, hv1⟩ : ∃ v0, vs = [v0] ∧ TellR K P0 v0 (tell0 A0 rk) := by
      cases k4 with
      | cons a b0 => cases b0; exact ⟨_, rfl, by rw [et0]; exact a⟩
    subst hv0
    have G_begin_of := ok_begin_of (P := P) (w := w) (base := base) T
    have G_are_unlike := ok_are_unlike (P := P) (w := w) (base := base) T
    refine ⟨_, (pss_cons (ps_set (i := 4) sc_first_against.nd rfl (Or.inl rfl) (pe_ix (ixL (K := K) rfl) (pv 0) (pv 3) (fun _ _ => rfl)))
      (pss_cons (ps_set (i := 5) sc_first_against.nd rfl (Or.inl rfl) (pe_call G_begin_of hr rfl T.m3 T.F3.kp T.b3 .nil pass0 (pa_cons (pv 1) (pa_cons (pv 3) (pa_cons (pv 4) pa_nil)))))
      (pss_cons (ps_for PassesOwn.never rfl (pi_range1 rfl T.g_range (pa_cons (pv 3) pa_nil)) (pg_name (i := 6) sc_first_against.nd rfl (Or.inl rfl))
      (pss_one (ps_for PassesOwn.never rfl (piL (K := K) rfl (pe_ix (ixL (K := K) rfl) (pv 2) (pv 6) (fun _ _ => rfl))) (pg_name (i := 7) sc_first_against.nd rfl (Or.inl rfl))
      (pss_cons (ps_set (i := 8) sc_first_against.nd rfl (Or.inl rfl) (pe_and (pe_cmpR op_lt (pv 6) (pv 5) (nomark _)) (pe_one (pe_or (pe_cmpR op_isN1 (pe_ix (ixT (K := K) rfl) (pv 7) pe_int (fun _ _ => rfl)) pe_non (nomark _)) (pe_one (pe_cmpR op_eq (pe_ix (ixT (K := K) rfl) (pe_ix (ixL (K := K) rfl) (pv 0) (pv 6) (fun _ _ => rfl)) pe_int (fun _ _ => rfl)) (pe_ix (ixT (K := K) rfl) (pv 4) pe_int (fun _ _ => rfl)) (nomark _)))))))
      (pss_one (ps_if (pt_val (pe_call G_are_unlike hr rfl T.m4 T.F4.kp T.b4 .nil pass0 (pa_cons (pe_ix (ixL (K := K) rfl) (pe_ix (ixL (K := K) rfl) (pv 2) (pv 3) (fun _ _ => rfl)) pe_int (fun _ _ => rfl)) (pa_cons (pv 7) (pa_cons (pv 8) pa_nil))))) (pss_one (ps_ret (pv 6))) pss_nil))))))
      (pss_one (ps_ret pe_non))))), ?_⟩
    (purse 8 => fail)
    refine i_ixL (m.sqL hL (Ex.refl _)) hb1 ?_
    (purse 8 => fail)
    refine ⟨P0, F, d, b, k, kvs, A0, rk, rfl, hb2, hA, hfk, m, fun P1 H1 e1 m1 => ?_⟩
    (purse 8 => fail)
    refine l_range1 (by omega) (by omega) (fun i σ H' => (∀ j, j < i → hitAt A0 rows k rk j = false) ∧ ∃ P' x6 x7 x8, Ex P1 P' ∧ Mem P' (pt d (.dT kvs) :: F) H' ∧ σ = [some (.ref L), some (.ref d), some (.ref Tl), some (.int (k : Int)), some (.ref b), some (.int (beginOf A0 (k : Int) rk)), x6, x7, x8]) ⟨(fun _ z => absurd z (Nat.not_lt_zero _)), P1, _, _, _, Ex.refl _, m1, rfl⟩ ?_ ?_
    · rintro i σ H' hi ⟨hno, P', x6, x7, x8, e', m', rfl⟩
      have hik : i < k := by omega
      have hri : rows[i]? = some rows[i] := List.getElem?_eq_getElem (by omega)
      obtain ⟨ts2, t2, vs2, j1, j2, j3, j4⟩ := told_at (hT.up (e1.trans e')) hri
      obtain ⟨bi, hbi1, hbi2⟩ := row_ix hx hri
      obtain ⟨hxs, hh1, hh2⟩ := row_hand (Dp.up (e1.trans e') hbi2)
      obtain ⟨kxs, hk1, hk2⟩ := row_hand (Dp.up (e1.trans e') hb2)
      (purse 8 => fail)
      refine i_ixL (m'.sqL j1 (Ex.refl _)) j2 ?_
      (purse 8 => fail)
      refine l_list (K := K) (m'.sqL j3 (Ex.refl _)) (fun l σ H' => (∀ o ∈ (tells A0 rows[i]).take l, unlike (tell0 A0 rk) o (bindsB A0 k rk i rows[i] o) = false) ∧ ∃ P2 x7 x8, Ex P' P2 ∧ Mem P2 (pt d (.dT kvs) :: F) H' ∧ σ = [some (.ref L), some (.ref d), some (.ref Tl), some (.int (k : Int)), some (.ref b), some (.int (beginOf A0 (k : Int) rk)), some (.int (i : Int)), x7, x8])
        ⟨(fun _ z => by simp at z), P', _, _, Ex.refl _, m', rfl⟩ (fun l σ H' _ ⟨_, P2, _, _, e2, m2, _⟩ => sqL_up j3 (e2.trans m2.ex)) ?_ ?_
      · rintro l x σ H2 hxl ⟨hno2, P2, x7, x8, e2, m2, rfl⟩
        obtain ⟨o, ho, hto⟩ := pairAt j4 hxl
        replace hto := TellR.up e2 hto
        obtain ⟨ro, rfl, hro⟩ := id hto
        obtain ⟨of, ow, oo⟩ := o
        have htk : (tells A0 rows[i]).take (l + 1) = (tells A0 rows[i]).take l ++ [(of, ow, oo)] := by rw [List.take_add_one, ho]; rfl
        have e02 : Ex P0 P2 := e1.trans (e'.trans e2)
        have hbind : bindsB A0 k rk i rows[i] (of, ow, oo) = (decide ((i : Int) < beginOf A0 (k : Int) rk) && (oo.isNone || decide (handOf rows[i] = handOf rk))) := rfl
        have hmem : (of, ow, oo) ∈ tells A0 rows[i] := List.mem_of_getElem? ho
        have hitQ : ∀ {P2 H2}, Mem P2 (pt d (.dT kvs) :: F) H2 → Ex P0 P2 → unlike (tell0 A0 rk) (of, ow, oo) (bindsB A0 k rk i rows[i] (of, ow, oo)) = true → Q (.int (i : Int)) H2 := fun {P2 H2} m2 e02 hu => by
          have hhit : hitAt A0 rows k rk i = true := by
            unfold hitAt
            rw [hri]
            exact List.any_eq_true.mpr ⟨_, hmem, hu⟩
          have := q P2 H2 e02 m2
          unfold firstA at this
          rw [find_at hno hhit hik] at this
          exact this
        have missQ : ∀ {P2 H2 x7 x8}, Mem P2 (pt d (.dT kvs) :: F) H2 → Ex P' P2 → unlike (tell0 A0 rk) (of, ow, oo) (bindsB A0 k rk i rows[i] (of, ow, oo)) = false → (∀ o ∈ (tells A0 rows[i]).take (l + 1), unlike (tell0 A0 rk) o (bindsB A0 k rk i rows[i] o) = false) ∧ ∃ P3 y7 y8, Ex P' P3 ∧ Mem P3 (pt d (.dT kvs) :: F) H2 ∧ [some (V.ref L), some (.ref d), some (.ref Tl), some (.int (k : Int)), some (.ref b), some (.int (beginOf A0 (k : Int) rk)), some (.int (i : Int)), x7, x8] = [some (.ref L), some (.ref d), some (.ref Tl), some (.int (k : Int)), some (.ref b), some (.int (beginOf A0 (k : Int) rk)), some (.int (i : Int)), y7, y8] := fun {P2 H2 x7 x8} m2 e2 hu => by
          refine ⟨fun o' ho' => ?_, P2, x7, x8, e2, m2, rfl⟩
          rw [htk] at ho'
          rcases List.mem_append.mp ho' with z | z
          · exact hno2 o' z
          · rw [List.mem_singleton.mp z]; exact hu
        (purse 8 => fail)
        (purse 25 => fail) <;> intro hb
        · cases oo with
          | none =>
            replace hro : SqT K P2 ro [.int of, .int ow, .non] := hro
            have hX : bindsB A0 k rk i rows[i] (of, ow, none) = true := by rw [hbind, decide_eq_true hb]; rfl
            have k3' := sqL_up k3 e02
            (purse 8 => fail)
            refine i_ixL (m2.sqL (sqL_up k1 e02) (Ex.refl _)) k2 ?_
            (purse 8 => fail)
            refine ⟨P2, _, v0, .ref ro, tell0 A0 rk, (of, ow, none), true, c0, rfl, TellR.up e02 hv1, hto, by rw [et0], m2, ?_⟩
            refine ⟨_, rfl, ?_⟩
            (purse 25 => fail) <;> intro hu
            · (purse 8 => fail)
              exact hitQ m2 e02 (by rw [hX]; exact hu)
            · exact missQ m2 e2 (by rw [hX]; exact hu)
          | some c9 =>
            replace hro : SqT K P2 ro [.int of, .int ow, .str c9] := hro
            have hX : bindsB A0 k rk i rows[i] (of, ow, some c9) = decide (handOf rows[i] = handOf rk) := by rw [hbind, decide_eq_true hb]; rfl
            (purse 8 => fail)
            refine i_ixL (m2.sqL (sqL_up hL e02) (Ex.refl _)) hbi1 ?_
            (purse 8 => fail)
            refine i_ixT (m2.sqT (sqT_up hh1 e2) (Ex.refl _)) hh2 ?_
            (purse 8 => fail)
            refine i_ixT (m2.sqT (sqT_up hk1 e2) (Ex.refl _)) hk2 ?_
            have k3' := sqL_up k3 e02
            (purse 8 => fail)
            refine i_ixL (m2.sqL (sqL_up k1 e02) (Ex.refl _)) k2 ?_
            (purse 8 => fail)
            refine ⟨P2, _, v0, .ref ro, tell0 A0 rk, (of, ow, (some c9)), (decide (handOf rows[i] = handOf rk)), c0, rfl, TellR.up e02 hv1, hto, by rw [et0], m2, ?_⟩
            refine ⟨_, rfl, ?_⟩
            (purse 25 => fail) <;> intro hu
            · (purse 8 => fail)
              exact hitQ m2 e02 (by rw [hX]; exact hu)
            · exact missQ m2 e2 (by rw [hX]; exact hu)
        · have hX : bindsB A0 k rk i rows[i] (of, ow, oo) = false := by rw [hbind, decide_eq_false hb]; rfl
          have k3' := sqL_up k3 e02
          (purse 8 => fail)
          refine i_ixL (m2.sqL (sqL_up k1 e02) (Ex.refl _)) k2 ?_
          (purse 8 => fail)
          refine ⟨P2, _, v0, .ref ro, tell0 A0 rk, (of, ow, oo), false, c0, rfl, TellR.up e02 hv1, hto, by rw [et0], m2, ?_⟩
          refine ⟨_, rfl, ?_⟩
          (purse 25 => fail) <;> intro hu
          · (purse 8 => fail)
            exact hitQ m2 e02 (by rw [hX]; exact hu)
          · exact missQ m2 e2 (by rw [hX]; exact hu)
      · rintro σ H2 ⟨hno2, P2, x7, x8, e2, m2, rfl⟩
        have hll := Paired.length j4
        rw [hll, List.take_length] at hno2
        refine ⟨fun j hj => ?_, P2, _, _, _, e'.trans e2, m2, rfl⟩
        by_cases hji : j = i
        · subst hji
          unfold hitAt
          rw [hri]
          exact List.any_eq_false.mpr fun o ho => by rw [hno2 o ho]; decide
        · exact hno j (by omega)
    · rintro σ H' ⟨hno, P', x6, x7, x8, e', m', rfl⟩
      rw [Int.toNat_natCast] at hno
      (purse 8 => fail)
      have := q P' H' (e1.trans e') m'
      unfold firstA at this
      rw [find_none hno] at this
      exact this

theorem asks_mem {rows : List SRow} : ∀ (i : Nat) {k : Int × Int} {j : Int} {q : SReq}, aget (asksAt rows i) k = some (j, q) → SRow.ask k.1 k.2 q ∈ rows
  | 0, k, j, q, e => by cases e
  | i + 1, k, j, q, e => by
    rw [asksAt_succ] at e
    split at e
    · rename_i h n q0 hr
      rw [aget_put] at e
      split at e
      · rename_i hk
        subst hk
        cases e
        exact List.mem_of_getElem? hr
      · exact asks_mem i e
    · exact asks_mem i e
structure WfJ (rows : List SRow) : Prop where
  w : Wf rows
  j : ∀ h n ds, SRow.ask h n (.join ds) ∈ rows → ds.length ≤ 1000
  l : rows.length ≤ 1000
theorem WfJ.fit {rows : List SRow} (w : WfJ rows) {k : Nat} {r : SRow} (e : rows[k]? = some r) : FitR (asksAt rows rows.length) r ∧ jlen r (asksAt rows rows.length) := by
  cases r with
  | ask h n q => exact ⟨trivial, trivial⟩
  | saw h f v c => exact ⟨trivial, trivial⟩
  | told h n a =>
    constructor
    · obtain ⟨j, q, h1, h2⟩ := w.w.ask e
      exact ⟨(j : Int), q, h1, h2⟩
    · cases a <;> first | exact trivial | skip
      exact fun j ds hj => w.j h n ds (asks_mem _ hj)
def ftD : Option (Nat × Nat) → PyData
  | none => .none
  | some (i, k) => .tuple [.int (i : Int), .int (k : Int)]
def spSF (K : PySem.W.Frag) : Sp := fun vs H Q _ => ∃ (P : Hp) (F : List Ch) (L : Addr) (rows : List SRow), vs = [.ref L] ∧ RowsR K P L rows ∧ WfJ rows ∧ Mem P F H ∧
  ∀ P' H' v, Ex P P' → Dp K P' v (ftD (faultS rows)) → Mem P' F H' → Q v H'
theorem fault_none {A : Asks} {rows : List SRow} {k : Nat} {r : SRow} (hr : rows[k]? = some r) (h : looksB r = false ∨ firstA A rows k r = none) : faultAt A rows k = none := by
  unfold faultAt
  rw [hr]
  dsimp only
  rcases h with h | h
  · rw [h]; rfl
  · rw [h]
    split <;> rfl
theorem fault_some {A : Asks} {rows : List SRow} {k i : Nat} {r : SRow} (hr : rows[k]? = some r) (h1 : looksB r = true) (h : firstA A rows k r = some i) : faultAt A rows k = some (i, k) := by
  unfold faultAt
  rw [hr]
  dsimp only
  rw [if_pos h1, h]
  rfl
theorem ok_story_fault (T : Txt K mg a c fd) : FnOk P w K mg base CX0 3 (a 6) (fd 6) ["story"] (spSF K) := by
  refine T.F6.ok sc_story_fault (fun vs H Q E h => ?_) (fun cdv A outer s H vs Q E hr h => ?_)
  · obtain ⟨_, _, _, _, rfl, _⟩ := h; rfl
  · obtain ⟨P0, F, L, rows, rfl, hR, hw, m, q⟩ := h
    obtain ⟨xs, hL, hx⟩ := id hR
    have hxl : xs.length = rows.length := by rw [dpLen hx, List.length_map]
    have hrl := hw.l
    have G_asks_of := ok_asks_of (P := P) (w := w) (base := base) T
    have G_versions_in := ok_versions_in (P := P) (w := w) (base := base) T
    have G_first_against := ok_first_against (P := P) (w := w) (base := base) T
    refine ⟨_, (pss_cons (ps_set (i := 1) sc_story_fault.nd rfl (Or.inr rfl) (pe_call G_asks_of (hr.mono (by decide)) rfl T.m0 T.F0.kp T.b0 .nil pass0 (pa_cons (pv 0) pa_nil)))
      (pss_cons (ps_setLc (i := 2) (own := [("row", 4)]) (tt := tYes) (by rfl) sc_story_fault.nd rfl rfl (sw_true rfl rfl rfl (by decide +kernel)) (piL (K := K) rfl (pv 0)) (blkOk_by (own := [("row", 4)]) (N := N_story_fault) (sc := defScope s_story_fault) (by decide +kernel)) (fun _ _ _ _ _ => (pg_name (i := 4) sc_story_fault.nd rfl (Or.inl rfl))) (fun _ _ _ _ _ => pts_nil) (fun _ _ _ _ _ => (pe_call G_versions_in hr rfl T.m2 T.F2.kp T.b2 .nil pass0 (pa_cons (pv 1) (pa_cons (pv 4) pa_nil)))))
      (pss_cons (ps_for PassesOwn.never rfl (piE (K := K) rfl (by rfl) T.g_enumerate (pa_cons (pv 0) pa_nil)) (pgT (K := K) (n := 2) rfl rfl (pgs_cons (pg_name (i := 3) sc_story_fault.nd rfl (Or.inl rfl)) (pgs_cons (pg_name (i := 4) sc_story_fault.nd rfl (Or.inl rfl)) pgs_nil)))
      (pss_one (ps_if (PW.pt (pw_or (pt_cmpR op_eq (pe_ix (ixT (K := K) rfl) (pv 4) pe_int (fun _ _ => rfl)) pe_str (nomark _)) (pw_or1 (PW.pt (pw_and (pt_cmpR op_eq (pe_ix (ixT (K := K) rfl) (pv 4) pe_int (fun _ _ => rfl)) pe_str (nomark _)) (pw_and1 (pt_cmpR op_eq (pe_ix (ixT (K := K) rfl) (pe_ix (ixT (K := K) rfl) (pv 4) pe_int (fun _ _ => rfl)) pe_int (fun _ _ => rfl)) pe_str (nomark _)))))))) (pss_cons (ps_set (i := 5) sc_story_fault.nd rfl (Or.inl rfl) (pe_call G_first_against hr rfl T.m5 T.F5.kp T.b5 .nil pass0 (pa_cons (pv 0) (pa_cons (pv 1) (pa_cons (pv 2) (pa_cons (pv 3) pa_nil))))))
      (pss_one (ps_if (pt_cmpR op_notN1 (pv 5) pe_non (nomark _)) (pss_one (ps_ret (pe_tup (pa_cons (pv 5) (pa_cons (pv 3) pa_nil))))) pss_nil))) pss_nil)))
      (pss_one (ps_ret pe_non))))), ?_⟩
    (purse 8 => fail)
    refine ⟨P0, F, L, rows, rfl, hR, hrl, m, fun P1 H1 d kvs e1 hA m1 => ?_⟩
    (purse 8 => fail)
    refine l_lc (K := K) (a := L) (xs := xs) m1 (fun P' H' _ e mm => sqL_up hL ((e1.trans e).trans mm.ex)) (fun i acc P' => ∃ ts : List Addr, acc = ts.map V.ref ∧ Paired (fun t row => TellsR K P' t (tells (asksAt rows rows.length) row)) ts (rows.take i)) ⟨[], rfl, .nil⟩ ?_ ?_
    · rintro i x P2 H2 acc D hxi e2 m2 ⟨ts, rfl, hts⟩ Kt Kf hkt hkf
      obtain ⟨r, hr, hd⟩ := rows_at hx hxi
      obtain ⟨hfit, hjl⟩ := hw.fit hr
      have hi := (List.getElem?_eq_some_iff.mp hxi).1
      have htl : ts.length = (rows.take i).length := Paired.length hts
      obtain ⟨b, rfl⟩ : ∃ b, x = V.ref b := by
        cases r with
        | saw h f w0 c0 => obtain ⟨b, e, _⟩ := saw_inv hd; exact ⟨b, e⟩
        | ask h n q0 => obtain ⟨b, _, e, _⟩ := ask_inv hd; exact ⟨b, e⟩
        | told h n a0 => obtain ⟨b, _, e, _⟩ := told_inv hd; exact ⟨b, e⟩
      (purse 8 => fail)
      refine ⟨rfl, ?_⟩
      (purse 8 => fail)
      refine ⟨P2, [pt D (.lst (ts.map V.ref))] ++ F, d, b, kvs, _, r, rfl, Dp.up (e1.trans e2) hd, hA.up e2, hfit, hjl, m2.pr (by (purse 23 => fail)), fun P3 H3 D3 e3 ht3 m3 => ?_⟩
      refine hkt _ P3 H3 e3 (m3.pr (by (purse 23 => fail))) (by rw [List.length_map, htl, List.length_take]; omega) ⟨ts ++ [D3], by rw [List.map_append]; rfl, ?_⟩
      rw [List.take_add_one, hr]
      exact pair_snoc (pmonoF (fun _ _ z => TellsR.up e3 z) hts) ht3
    · rintro D P2 H2 acc e2 m2 ⟨ts, rfl, hts⟩
      rw [hxl, List.take_length] at hts
      obtain ⟨mF, eF⟩ := m2.freeze
      have hTl : ToldR K (upd P2 D (.lst (ts.map V.ref))) (asksAt rows rows.length) D rows := ⟨ts, SqL.of upd_same, pmonoF (fun _ _ z => TellsR.up eF z) hts⟩
      generalize upd P2 D (.lst (ts.map V.ref)) = P3 at mF eF hTl
      have e03 : Ex P0 P3 := e1.trans (e2.trans eF)
      replace hA := hA.up (e2.trans eF)
      clear m1 m2
      (purse 8 => fail)
      refine l_enum (K := K) (xs := xs) (sqL_up hL (e03.trans mF.ex)) (fun i σ H' => (∀ j, j < i → faultAt (asksAt rows rows.length) rows j = none) ∧ ∃ P' x3 x4 x5, Ex P3 P' ∧ Mem P' (pt d (.dT kvs) :: F) H' ∧ σ = [some (.ref L), some (.ref d), some (.ref D), x3, x4, x5])
        ⟨(fun _ z => absurd z (Nat.not_lt_zero _)), P3, _, _, _, Ex.refl _, mF, rfl⟩ (fun i σ H' _ ⟨_, P', _, _, _, e, m', _⟩ => sqL_up hL ((e03.trans e).trans m'.ex)) ?_ ?_
      · rintro i v σ H' T1 hv ⟨hno, P', x3, x4, x5, e, m', rfl⟩ hT1
        obtain ⟨r, hr, hd⟩ := rows_at hx hv
        obtain ⟨hfit, _⟩ := hw.fit hr
        obtain ⟨P6, m6, e6, hT6⟩ := Mem.enum (K := K) (xs := [.int (i : Int), v]) m' hT1
        have e06 : Ex P0 P6 := e03.trans (e.trans e6)
        replace hd := Dp.up e06 hd
        have skip : faultAt (asksAt rows rows.length) rows i = none → ∀ j, j < i + 1 → faultAt (asksAt rows rows.length) rows j = none := fun hz j hj => by
          by_cases hji : j = i
          · rw [hji]; exact hz
          · exact hno j (by omega)
        have done : ∀ {P7 H7 t i2}, Ex P0 P7 → looksB r = true → firstA (asksAt rows rows.length) rows i r = some i2 → SqT K P7 t [.int (i2 : Int), .int (i : Int)] → Mem P7 (pt d (.dT kvs) :: F) H7 → Q (.ref t) H7 := fun e7 h1 h2 h3 m7 => by
          have hf : faultS rows = some (_, i) := some_at hno (fault_some hr h1 h2) (List.getElem?_eq_some_iff.mp hr).1
          refine q _ _ _ e7 ?_ m7.drop
          rw [hf]
          exact .tup h3 (.cons (.int _) (.cons (.int _) .nil))
        cases r with
        | ask h n q0 =>
          obtain ⟨b, b2, rfl, h1, h2⟩ := ask_inv hd
          (purse 8 => fail)
          exact ⟨skip (fault_none hr (.inl rfl)), P6, _, _, _, e.trans e6, m6, rfl⟩
        | saw h f w0 c0 =>
          obtain ⟨b, rfl, h1⟩ := saw_inv hd
          (purse 8 => fail)
          refine ⟨P6, F, L, d, D, i, kvs, _, rows, _, rfl, hR.up e06, hA.up (e.trans e6), hTl.up (e.trans e6), hr, rfl, hfit, hrl, m6, fun P7 H7 e7 m7 => ?_⟩
          cases hfa : firstA (asksAt rows rows.length) rows i (.saw h f w0 c0) with
          | none =>
            (purse 8 => fail)
            exact ⟨skip (fault_none hr (.inr hfa)), P7, _, _, _, e.trans (e6.trans e7), m7, rfl⟩
          | some i2 =>
            rw [show optN (some i2) = V.int (i2 : Int) from rfl]
            (purse 8 => fail)
            rename_i t8 P8 H8 m8 e8 h8
            exact done (e06.trans (e7.trans e8)) rfl hfa h8 m8
        | told h n a0 =>
          obtain ⟨b, b2, rfl, h1, h2⟩ := told_inv hd
          cases a0 with
          | file f w0 c0 st0 =>
            have h3 := file_inv h2
            (purse 8 => fail)
            refine ⟨P6, F, L, d, D, i, kvs, _, rows, _, rfl, hR.up e06, hA.up (e.trans e6), hTl.up (e.trans e6), hr, rfl, hfit, hrl, m6, fun P7 H7 e7 m7 => ?_⟩
            cases hfa : firstA (asksAt rows rows.length) rows i (.told h n (.file f w0 c0 st0)) with
            | none =>
              (purse 8 => fail)
              exact ⟨skip (fault_none hr (.inr hfa)), P7, _, _, _, e.trans (e6.trans e7), m7, rfl⟩
            | some i2 =>
              rw [show optN (some i2) = V.int (i2 : Int) from rfl]
              (purse 8 => fail)
              rename_i t8 P8 H8 m8 e8 h8
              exact done (e06.trans (e7.trans e8)) rfl hfa h8 m8
          | shut w1 st1 =>
            have h3 := shutA_inv h2
            (purse 8 => fail)
            exact ⟨skip (fault_none hr (.inl rfl)), P6, _, _, _, e.trans e6, m6, rfl⟩
          | joined ps =>
            obtain ⟨L9, ys9, h3, _, _⟩ := joined_inv h2
            (purse 8 => fail)
            exact ⟨skip (fault_none hr (.inl rfl)), P6, _, _, _, e.trans e6, m6, rfl⟩
          | ended =>
            have h3 := ended_inv h2
            (purse 8 => fail)
            exact ⟨skip (fault_none hr (.inl rfl)), P6, _, _, _, e.trans e6, m6, rfl⟩
          | refused w1 =>
            have h3 := refused_inv h2
            (purse 8 => fail)
            exact ⟨skip (fault_none hr (.inl rfl)), P6, _, _, _, e.trans e6, m6, rfl⟩
          | ok =>
            have h3 := ok_inv h2
            (purse 8 => fail)
            exact ⟨skip (fault_none hr (.inl rfl)), P6, _, _, _, e.trans e6, m6, rfl⟩
          | begun =>
            have h3 := begun_inv h2
            (purse 8 => fail)
            exact ⟨skip (fault_none hr (.inl rfl)), P6, _, _, _, e.trans e6, m6, rfl⟩
          | folder =>
            obtain ⟨L9, h3⟩ := folder_inv h2
            (purse 8 => fail)
            exact ⟨skip (fault_none hr (.inl rfl)), P6, _, _, _, e.trans e6, m6, rfl⟩
      · rintro σ H' ⟨hno, P', x3, x4, x5, e, m', rfl⟩
        rw [hxl] at hno
        (purse 8 => fail)
        refine q P' H' .non (e03.trans e) ?_ m'.drop
        have : faultS rows = none := some_none hno
        rw [this]
        exact .non

theorem ok_law_tells (T : Txt K mg a c fd) : FnOk P w K mg base CX0 1 (a 12) (fd 12) ["_law_asks", "_law_row_here"] (spVers K) := by
  refine T.F12.ok sc_law_tells (fun vs H Q E h => ?_) (fun cdv A outer s H vs Q E hr h => ?_)
  · obtain ⟨_, _, _, _, _, _, _, rfl, _⟩ := h; rfl
  · obtain ⟨P0, F, d, r, kvs, A, row, rfl, hrow, hA, hf, hj, m, q⟩ := h
    refine ⟨_, (pss_cons (ps_if (pt_cmpR op_eq (pe_ix (ixT (K := K) rfl) (pv 1) pe_int (fun _ _ => rfl)) pe_str (nomark _)) (pss_one (ps_ret (pe_lst (pa_cons (pe_slice (slA (K := K) rfl) (pv 1) (po_some pe_int) po_none) pa_nil)))) pss_nil)
      (pss_cons (ps_if (pt_cmpR op_eq (pe_ix (ixT (K := K) rfl) (pv 1) pe_int (fun _ _ => rfl)) pe_str (nomark _)) (pss_one (ps_ret (pe_lst pa_nil))) pss_nil)
      (pss_cons (ps_set (i := 2) sc_law_tells.nd rfl (Or.inl rfl) (pe_ix (ixT (K := K) rfl) (pe_dget (hu_of hr) (pv 0) (pe_tupK (pa_cons (pe_ix (ixT (K := K) rfl) (pv 1) pe_int (fun _ _ => rfl)) (pa_cons (pe_ix (ixT (K := K) rfl) (pv 1) pe_int (fun _ _ => rfl)) pa_nil))) (fun _ _ => rfl)) pe_int (fun _ _ => rfl)))
      (pss_cons (ps_if (pt_cmpR op_eq (pe_ix (ixT (K := K) rfl) (pe_ix (ixT (K := K) rfl) (pv 1) pe_int (fun _ _ => rfl)) pe_int (fun _ _ => rfl)) pe_str (nomark _)) (pss_one (ps_ret (pe_lst (pa_cons (pe_slice (slA (K := K) rfl) (pe_ix (ixT (K := K) rfl) (pv 1) pe_int (fun _ _ => rfl)) (po_some pe_int) (po_some pe_int)) pa_nil)))) pss_nil)
      (pss_cons (ps_if (pt_cmpR op_eq (pe_ix (ixT (K := K) rfl) (pe_ix (ixT (K := K) rfl) (pv 1) pe_int (fun _ _ => rfl)) pe_int (fun _ _ => rfl)) pe_str (nomark _)) (pss_one (ps_ret (pe_lst (pa_cons (pe_tup (pa_cons (pe_ix (ixT (K := K) rfl) (pv 2) pe_int (fun _ _ => rfl)) (pa_cons (pe_ix (ixT (K := K) rfl) (pe_ix (ixT (K := K) rfl) (pv 1) pe_int (fun _ _ => rfl)) pe_int (fun _ _ => rfl)) (pa_cons pe_non pa_nil)))) pa_nil)))) pss_nil)
      (pss_cons (ps_set (i := 3) sc_law_tells.nd rfl (Or.inl rfl) (pe_lst pa_nil))
      (pss_cons (ps_if (pt_cmpR op_eq (pe_ix (ixT (K := K) rfl) (pe_ix (ixT (K := K) rfl) (pv 1) pe_int (fun _ _ => rfl)) pe_int (fun _ _ => rfl)) pe_str (nomark _)) (pss_one (ps_for PassesOwn.never rfl (piZM (K := K) rfl (by rfl) T.g_zip (pa_cons (pe_ix (ixT (K := K) rfl) (pv 2) pe_int (fun _ _ => rfl)) (pa_cons (pe_ix (ixT (K := K) rfl) (pe_ix (ixT (K := K) rfl) (pv 1) pe_int (fun _ _ => rfl)) pe_int (fun _ _ => rfl)) pa_nil))) (pgT (K := K) (n := 2) rfl rfl (pgs_cons (pg_name (i := 4) sc_law_tells.nd rfl (Or.inl rfl)) (pgs_cons (pg_name (i := 5) sc_law_tells.nd rfl (Or.inl rfl)) pgs_nil)))
      (pss_one (ps_if (PW.pt (pw_and (pt_cmpR op_eq (pe_ix (ixT (K := K) rfl) (pv 4) pe_int (fun _ _ => rfl)) pe_str (nomark _)) (pw_and1 (pt_cmpR op_eq (pe_ix (ixT (K := K) rfl) (pv 5) pe_int (fun _ _ => rfl)) pe_str (nomark _))))) (pss_one (ps_expr (peM (K := K) rfl PySem.F.plainAttrs_list PySem.F.slot_list_append PySem.F.type_list_append mt_append (pv 3) (pa_cons (pe_tup (pa_cons (pe_ix (ixT (K := K) rfl) (pv 4) pe_int (fun _ _ => rfl)) (pa_cons (pe_ix (ixT (K := K) rfl) (pv 5) pe_int (fun _ _ => rfl)) (pa_cons pe_non pa_nil)))) pa_nil)))) pss_nil)))) pss_nil)
      (pss_one (ps_ret (pv 3)))))))))), ?_⟩
    have fin0 : ∀ {P' H' D}, Ex P0 P' → tells A row = [] → SqL K P' D [] → Mem P' (pt d (.dT kvs) :: F) H' → Q (.ref D) H' := fun e hz h m => q _ _ _ e (by rw [hz]; exact ⟨[], h, .nil⟩) m
    have fin1 : ∀ {P' H' D t x}, Ex P0 P' → tells A row = [t] → SqL K P' D [x] → TellR K P' x t → Mem P' (pt d (.dT kvs) :: F) H' → Q (.ref D) H' := fun e hz h ht m => q _ _ _ e (by rw [hz]; exact ⟨[_], h, .cons ht .nil⟩) m
    cases row with
    | saw h f w0 c0 =>
      obtain ⟨_, e0, h1⟩ := saw_inv hrow
      cases e0
      (purse 9 => fail)
      rename_i t1 P1 H1 m1 e1 h1 D P2 H2 m2 e2 h2
      replace h1 : SqT K P1 t1 [.int f, .int w0, .str c0] := h1
      exact fin1 (e1.trans e2) rfl h2 (TellR.up e2 ⟨t1, rfl, h1⟩) m2
    | ask h n q0 =>
      obtain ⟨_, b, e0, h1, h2⟩ := ask_inv hrow
      cases e0
      (purse 9 => fail)
      rename_i D P2 H2 m2 e2 h2
      exact fin0 e2 rfl h2 m2
    | told h n a0 =>
      obtain ⟨_, b, e0, h1, h2⟩ := told_inv hrow
      cases e0
      obtain ⟨j, q0, hq, hfa⟩ := hf
      obtain ⟨t, b2, k1, k2, k3⟩ := askR_get hA hq
      (purse 9 => fail)
      refine i_newK m (by simp) fun p9 P9 H9 m9 e9 h9 => ?_
      refine i_dgetT (k := gK (h, n)) m9 .z h9 k1 ?_
      replace k2 := sqT_up k2 e9
      replace k3 := Dp.up e9 k3
      replace h1 := sqT_up h1 e9
      replace h2 := Dp.up e9 h2
      (purse 9 => fail)
      cases a0 with
      | file f w0 c0 st0 =>
        have h3 := file_inv h2
        (purse 9 => fail)
        rename_i t1 P1 H1 m1 e1 h1 D P2 H2 m2 e2 h2
        replace h1 : SqT K P1 t1 [.int f, .int w0, .str c0] := h1
        exact fin1 (e9.trans (e1.trans e2)) rfl h2 (TellR.up e2 ⟨t1, rfl, h1⟩) m2
      | shut w0 st0 =>
        have h3 := shutA_inv h2
        cases q0 <;> first | exact hfa.elim | skip
        rename_i f0 w1 c1
        have h4 := shutQ_inv k3
        (purse 9 => fail)
        rename_i t1 P1 H1 m1 e1 h1 D P2 H2 m2 e2 h2
        have et : tells A (.told h n (.shut w0 st0)) = [(f0, w0, none)] := by
          show (match aget A (h, n) with | some (_, .shut f _ _) => _ | _ => _) = _
          rw [hq]
        exact fin1 (e9.trans (e1.trans e2)) et h2 (TellR.up e2 ⟨t1, rfl, h1⟩) m2
      | joined ps =>
        obtain ⟨L, ys, h3, h4, h5⟩ := joined_inv h2
        cases q0 <;> first | exact hfa.elim | skip
        rename_i ds
        obtain ⟨T0, xs, h6, h7, h8⟩ := join_inv k3
        have hdl : ds.length ≤ 1000 := hj j ds hq
        have hxl : xs.length = ds.length := by rw [dpLen h8, List.length_map]
        have hyl : ys.length = ps.length := by rw [dpLen h5, List.length_map]
        have hzl : (ds.zip ps).length = min xs.length ys.length := by rw [List.length_zip, hxl, hyl]
        have et : tells A (.told h n (.joined ps)) = joinedT ds ps := by
          show (match aget A (h, n) with | some (_, .join ds) => _ | _ => _) = _
          rw [hq]
        (purse 8 => fail)
        (purse 27 => fail)
        rename_i D H1 m1
        (purse 8 => fail)
        refine l_zipM (K := K) (sqT_up h7 m1.ex) (sqL_up h4 m1.ex) (fun i σ H' => ∃ P' vs x4 x5, Ex P9 P' ∧ Paired (TellR K P') vs (((ds.zip ps).take i).filterMap jput) ∧ Mem P' (pt D (.lst vs) :: pt d (.dT kvs) :: F) H' ∧ σ = [some (.ref d), some (.ref r), some (.ref b2), some (.ref D), x4, x5])
          ⟨P9, [], _, _, Ex.refl _, .nil, m1, rfl⟩ (fun i σ H' _ ⟨P', _, _, _, e, _, m', _⟩ => ⟨sqT_up h7 (e.trans m'.ex), sqL_up h4 (e.trans m'.ex)⟩) ?_ ?_
        · rintro i x y T2 σ H' hxi hyi ⟨P', vs, x4, x5, e, hv, m', rfl⟩ hT2
          obtain ⟨d, hd0, hdd⟩ := dp_at h8 hxi
          obtain ⟨p, hp0, hpp⟩ := dp_at h5 hyi
          rw [List.getElem?_map] at hd0 hp0
          obtain ⟨d, hd, rfl⟩ := Option.map_eq_some_iff.mp hd0
          obtain ⟨p, hp, rfl⟩ := Option.map_eq_some_iff.mp hp0
          have hvl : vs.length ≤ 1000 := by
            rw [Paired.length hv]
            refine Nat.le_trans (List.length_filterMap_le _ _) ?_
            rw [List.length_take, List.length_zip]; omega
          have hz : (ds.zip ps)[i]? = some (d, p) := List.getElem?_zip_eq_some.mpr ⟨hd, hp⟩
          obtain ⟨P6, m6, e6, hT6⟩ := Mem.enum (K := K) (xs := [x, y]) m' hT2
          replace hdd := Dp.up (e.trans e6) hdd
          replace hpp := Dp.up (e.trans e6) hpp
          replace hv := pmonoF (fun _ _ z => TellR.up e6 z) hv
          rw [List.take_add_one, hz, List.filterMap_append]
          cases d with
          | make c0 =>
            obtain ⟨r, rfl, h1⟩ := makeD_inv hdd
            (purse 8 => fail)
            refine ⟨P6, vs, _, _, e.trans e6, ?_, m6, rfl⟩
            have : (some (SDeed.make c0, p)).toList.filterMap jput = [] := by cases p <;> rfl
            rw [this, List.append_nil]; exact hv
          | shut f w0 c0 =>
            obtain ⟨r, rfl, h1⟩ := shutD_inv hdd
            cases p with
            | put v0 =>
              obtain ⟨r2, rfl, h2⟩ := put_inv hpp
              (purse 8 => fail)
              rename_i t8 P8 H8 m8 e8 h8 H9 m9
              refine ⟨P8, vs ++ [.ref t8], _, _, e.trans (e6.trans e8), ?_, m9, rfl⟩
              exact pair_snoc (pmonoF (fun _ _ z => TellR.up e8 z) hv) ⟨t8, rfl, h8⟩
            | clash =>
              obtain ⟨r2, rfl, h2⟩ := clash_inv hpp
              (purse 8 => fail)
              exact ⟨P6, vs, _, _, e.trans e6, by rw [show (some (SDeed.shut f w0 c0, SPart.clash)).toList.filterMap jput = [] from rfl, List.append_nil]; exact hv, m6, rfl⟩
            | made =>
              obtain ⟨r2, rfl, h2⟩ := made_inv hpp
              (purse 8 => fail)
              exact ⟨P6, vs, _, _, e.trans e6, by rw [show (some (SDeed.shut f w0 c0, SPart.made)).toList.filterMap jput = [] from rfl, List.append_nil]; exact hv, m6, rfl⟩
            | there =>
              obtain ⟨r2, rfl, h2⟩ := there_inv hpp
              (purse 8 => fail)
              exact ⟨P6, vs, _, _, e.trans e6, by rw [show (some (SDeed.shut f w0 c0, SPart.there)).toList.filterMap jput = [] from rfl, List.append_nil]; exact hv, m6, rfl⟩
        · rintro σ H' ⟨P', vs, x4, x5, e, hv, m', rfl⟩
          rw [← hzl, List.take_length, ← joined_zip] at hv
          (purse 8 => fail)
          have f := m'.freeze
          refine q _ H' D (e9.trans (e.trans f.2)) ?_ f.1
          rw [et]
          exact ⟨vs, SqL.of upd_same, pmonoF (fun _ _ z => TellR.up f.2 z) hv⟩
      | ended =>
        have h3 := ended_inv h2
        (purse 9 => fail)
        rename_i D P2 H2 m2 e2 h2 _
        exact fin0 (e9.trans e2) rfl h2 m2
      | refused w1 =>
        have h3 := refused_inv h2
        (purse 9 => fail)
        rename_i D P2 H2 m2 e2 h2 _
        exact fin0 (e9.trans e2) rfl h2 m2
      | ok =>
        have h3 := ok_inv h2
        (purse 9 => fail)
        rename_i D P2 H2 m2 e2 h2 _
        exact fin0 (e9.trans e2) rfl h2 m2
      | begun =>
        have h3 := begun_inv h2
        (purse 9 => fail)
        rename_i D P2 H2 m2 e2 h2 _
        exact fin0 (e9.trans e2) rfl h2 m2
      | folder =>
        obtain ⟨L9, h3⟩ := folder_inv h2
        (purse 9 => fail)
        rename_i D P2 H2 m2 e2 h2 _
        exact fin0 (e9.trans e2) rfl h2 m2
theorem unlike_alt {f0 w0 : Int} {c0 : Str} {of ow : Int} {oo : Option Str} {b : Bool} : unlike (f0, w0, some c0) (of, ow, oo) b = ((decide (of = f0) && decide (w0 < ow) && b) || (decide (of = f0) && decide (ow = w0) && oo.isSome && decide (oo ≠ some c0))) := by
  unfold unlike
  by_cases h1 : of = f0
  · subst h1
    by_cases h2 : ow = w0
    · subst h2
      by_cases h3 : oo = some c0
      · subst h3; simp
      · have h4 : ¬ some c0 = oo := fun z => h3 z.symm
        simp [h3, h4]
    · have h3 : ¬ w0 = ow := fun z => h2 z.symm
      simp [h2, h3, Bool.and_comm]
  · have h2 : ¬ f0 = of := fun z => h1 z.symm
    simp [h1, h2]
theorem ok_law_fault (T : Txt K mg a c fd) : FnOk P w K mg base CX0 2 (a 13) (fd 13) ["_law_story"] (spSF K) := by
  refine T.F13.ok sc_law_fault (fun vs H Q E h => ?_) (fun cdv A outer s H vs Q E hr h => ?_)
  · obtain ⟨_, _, _, _, rfl, _⟩ := h; rfl
  · obtain ⟨P0, F, L, rows, rfl, hR, hw, m, q⟩ := h
    obtain ⟨xs, hL, hx⟩ := id hR
    have hxl : xs.length = rows.length := by rw [dpLen hx, List.length_map]
    have hrl := hw.l
    have G_law_tells := ok_law_tells (P := P) (w := w) (base := base) T
    refine ⟨_, (pss_cons (ps_set (i := 1) sc_law_fault.nd rfl (Or.inr rfl) pe_dnewT)
      (pss_cons (ps_for PassesOwn.never rfl (piE (K := K) rfl (by rfl) T.g_enumerate (pa_cons (pv 0) pa_nil)) (pgT (K := K) (n := 2) rfl rfl (pgs_cons (pg_name (i := 2) sc_law_fault.nd rfl (Or.inl rfl)) (pgs_cons (pg_name (i := 3) sc_law_fault.nd rfl (Or.inl rfl)) pgs_nil)))
      (pss_one (ps_if (pt_cmpR op_eq (pe_ix (ixT (K := K) rfl) (pv 3) pe_int (fun _ _ => rfl)) pe_str (nomark _)) (pss_one (ps_dput (hu_of hr) (pv 1) (pe_slice (slK (K := K) rfl) (pv 3) (po_some pe_int) (po_some pe_int)) (pe_tup (pa_cons (pv 2) (pa_cons (pe_ix (ixT (K := K) rfl) (pv 3) pe_int (fun _ _ => rfl)) pa_nil))) rfl)) pss_nil)))
      (pss_cons (ps_setLc (i := 4) (own := [("_law_row_here", 3)]) (tt := tYes) (by rfl) sc_law_fault.nd rfl rfl (sw_true rfl rfl rfl (by decide +kernel)) (piL (K := K) rfl (pv 0)) (blkOk_by (own := [("_law_row_here", 3)]) (N := N_law_fault) (sc := defScope s_law_fault) (by decide +kernel)) (fun _ _ _ _ _ => (pg_name (i := 3) sc_law_fault.nd rfl (Or.inl rfl))) (fun _ _ _ _ _ => pts_nil) (fun _ _ _ _ _ => (pe_call G_law_tells hr rfl T.m12 T.F12.kp T.b12 .nil pass0 (pa_cons (pv 1) (pa_cons (pv 3) pa_nil)))))
      (pss_cons (ps_for PassesOwn.never rfl (piE (K := K) rfl (by rfl) T.g_enumerate (pa_cons (pv 0) pa_nil)) (pgT (K := K) (n := 2) rfl rfl (pgs_cons (pg_name (i := 5) sc_law_fault.nd rfl (Or.inl rfl)) (pgs_cons (pg_name (i := 3) sc_law_fault.nd rfl (Or.inl rfl)) pgs_nil)))
      (pss_cons (ps_if (PW.pt (pw_or (pt_cmpR op_eq (pe_ix (ixT (K := K) rfl) (pv 3) pe_int (fun _ _ => rfl)) pe_str (nomark _)) (pw_or1 (PW.pt (pw_and (pt_cmpR op_eq (pe_ix (ixT (K := K) rfl) (pv 3) pe_int (fun _ _ => rfl)) pe_str (nomark _)) (pw_and1 (pt_cmpR op_ne (pe_ix (ixT (K := K) rfl) (pe_ix (ixT (K := K) rfl) (pv 3) pe_int (fun _ _ => rfl)) pe_int (fun _ _ => rfl)) pe_str (nomark _)))))))) (pss_one ps_continue) pss_nil)
      (pss_cons (ps_asg (pe_ix (ixL (K := K) rfl) (pe_ix (ixL (K := K) rfl) (pv 4) (pv 5) (fun _ _ => rfl)) pe_int (fun _ _ => rfl)) (pgT (K := K) (n := 3) rfl rfl (pgs_cons (pg_name (i := 6) sc_law_fault.nd rfl (Or.inl rfl)) (pgs_cons (pg_name (i := 7) sc_law_fault.nd rfl (Or.inl rfl)) (pgs_cons (pg_name (i := 8) sc_law_fault.nd rfl (Or.inl rfl)) pgs_nil)))))
      (pss_cons (ps_set (i := 9) sc_law_fault.nd rfl (Or.inl rfl) (pe_ifExp (pt_cmpR op_eq (pe_ix (ixT (K := K) rfl) (pv 3) pe_int (fun _ _ => rfl)) pe_str (nomark _)) (pv 5) (pe_ix (ixT (K := K) rfl) (pe_dget (hu_of hr) (pv 1) (pe_slice (slK (K := K) rfl) (pv 3) (po_some pe_int) (po_some pe_int)) (fun _ _ => rfl)) pe_int (fun _ _ => rfl))))
      (pss_one (ps_for PassesOwn.never rfl (pi_range1 rfl T.g_range (pa_cons (pv 5) pa_nil)) (pg_name (i := 10) sc_law_fault.nd rfl (Or.inl rfl))
      (pss_one (ps_for PassesOwn.never rfl (piL (K := K) rfl (pe_ix (ixL (K := K) rfl) (pv 4) (pv 10) (fun _ _ => rfl))) (pgT (K := K) (n := 3) rfl rfl (pgs_cons (pg_name (i := 11) sc_law_fault.nd rfl (Or.inl rfl)) (pgs_cons (pg_name (i := 12) sc_law_fault.nd rfl (Or.inl rfl)) (pgs_cons (pg_name (i := 13) sc_law_fault.nd rfl (Or.inl rfl)) pgs_nil))))
      (pss_cons (ps_set (i := 14) sc_law_fault.nd rfl (Or.inl rfl) (pe_and (pe_cmpR op_lt (pv 10) (pv 9) (nomark _)) (pe_one (pe_or (pe_cmpR op_isN1 (pv 13) pe_non (nomark _)) (pe_one (pe_cmpR op_eq (pe_ix (ixT (K := K) rfl) (pe_ix (ixL (K := K) rfl) (pv 0) (pv 10) (fun _ _ => rfl)) pe_int (fun _ _ => rfl)) (pe_ix (ixT (K := K) rfl) (pv 3) pe_int (fun _ _ => rfl)) (nomark _)))))))
      (pss_cons (ps_if (PW.pt (pw_and (pt_cmpR op_eq (pv 11) (pv 6) (nomark _)) (pw_and (pt_cmpR op_gt (pv 12) (pv 7) (nomark _)) (pw_and1 (pt_val (pv 14)))))) (pss_one (ps_ret (pe_tup (pa_cons (pv 10) (pa_cons (pv 5) pa_nil))))) pss_nil)
      (pss_one (ps_if (PW.pt (pw_and (pt_cmpR op_eq (pv 11) (pv 6) (nomark _)) (pw_and (pt_cmpR op_eq (pv 12) (pv 7) (nomark _)) (pw_and (pt_cmpR op_notN1 (pv 13) pe_non (nomark _)) (pw_and1 (pt_cmpR op_ne (pv 13) (pv 8) (nomark _))))))) (pss_one (ps_ret (pe_tup (pa_cons (pv 10) (pa_cons (pv 5) pa_nil))))) pss_nil))))))))))))
      (pss_one (ps_ret pe_non)))))), ?_⟩
    (purse 8 => fail)
    (purse 27 => fail)
    rename_i d H1 m1
    (purse 8 => fail)
    refine l_enum (K := K) (sqL_up hL m1.ex) (fun i σ H' => ∃ P' kvs x2 x3, Ex P0 P' ∧ AskR K P' kvs (asksAt rows i) ∧ Mem P' (pt d (.dT kvs) :: F) H' ∧ σ = some (.ref L) :: some (.ref d) :: x2 :: x3 :: List.replicate 11 none)
      ⟨P0, [], _, _, Ex.refl _, .nil, m1, rfl⟩ (fun i σ H' _ ⟨P', _, _, _, e, _, m', _⟩ => sqL_up hL (e.trans m'.ex)) ?_ ?_
    · rintro i v σ H' T1 hv ⟨P', kvs, x2, x3, e, hA, m', rfl⟩ hT
      obtain ⟨r, hr, hd⟩ := rows_at hx hv
      have hi := (List.getElem?_eq_some_iff.mp hv).1
      have hkl : kvs.length < 100000 := by
        have h1 : kvs.length = (asksAt rows i).length := Paired.length hA
        have h2 := asksAt_len rows i
        omega
      obtain ⟨P6, m6, e6, hT6⟩ := Mem.enum (K := K) (xs := [.int (i : Int), v]) m' hT
      replace hd := Dp.up (e.trans e6) hd
      replace hA := hA.up e6
      rw [asksAt_succ, hr]
      cases r with
      | ask h n q0 =>
        obtain ⟨r, b, rfl, h1, h2⟩ := ask_inv hd
        (purse 8 => fail)
        rename_i t8 P8 H8 m8 e8 h8
        refine i_slK (ys := [.int h, .int n]) m8 (sqT_up h1 e8) rfl (by intro z; have := z.1; simp [HT.sIx] at this) fun p9 P9 H9 m9 e9 h9 => ?_
        refine i_dputT (k := gK (h, n)) m9 (by (purse 5 => fail)) h9 hkl fun H10 m10 => ?_
        (purse 8 => fail)
        exact ⟨P9, _, _, _, e.trans (e6.trans (e8.trans e9)), askR_put (sqT_up h8 e9) (Dp.up (e8.trans e9) h2) (hA.up (e8.trans e9)), m10, rfl⟩
      | told h n a0 =>
        obtain ⟨r, b, rfl, h1, h2⟩ := told_inv hd
        (purse 8 => fail)
        exact ⟨P6, _, _, _, e.trans e6, hA, m6, rfl⟩
      | saw h f w0 c0 =>
        obtain ⟨r, rfl, h1⟩ := saw_inv hd
        (purse 8 => fail)
        exact ⟨P6, _, _, _, e.trans e6, hA, m6, rfl⟩
    · rintro σ H' ⟨P1, kvs, x2, x3, e1, hA, m1, rfl⟩
      rw [hxl] at hA
      (purse 8 => fail)
      refine l_lc (K := K) (a := L) (xs := xs) m1 (fun P' H' _ e mm => sqL_up hL ((e1.trans e).trans mm.ex)) (fun i acc P' => ∃ ts : List Addr, acc = ts.map V.ref ∧ Paired (fun t row => TellsR K P' t (tells (asksAt rows rows.length) row)) ts (rows.take i)) ⟨[], rfl, .nil⟩ ?_ ?_
      · rintro i x P2 H2 acc D hxi e2 m2 ⟨ts, rfl, hts⟩ Kt Kf hkt hkf
        obtain ⟨r, hr, hd⟩ := rows_at hx hxi
        obtain ⟨hfit, hjl⟩ := hw.fit hr
        have hi := (List.getElem?_eq_some_iff.mp hxi).1
        have htl : ts.length = (rows.take i).length := Paired.length hts
        obtain ⟨b, rfl⟩ : ∃ b, x = V.ref b := by
          cases r with
          | saw h f w0 c0 => obtain ⟨b, e, _⟩ := saw_inv hd; exact ⟨b, e⟩
          | ask h n q0 => obtain ⟨b, _, e, _⟩ := ask_inv hd; exact ⟨b, e⟩
          | told h n a0 => obtain ⟨b, _, e, _⟩ := told_inv hd; exact ⟨b, e⟩
        (purse 8 => fail)
        refine ⟨rfl, ?_⟩
        (purse 8 => fail)
        refine ⟨P2, [pt D (.lst (ts.map V.ref))] ++ F, d, b, kvs, _, r, rfl, Dp.up (e1.trans e2) hd, hA.up e2, hfit, hjl, m2.pr (by (purse 23 => fail)), fun P3 H3 D3 e3 ht3 m3 => ?_⟩
        refine hkt _ P3 H3 e3 (m3.pr (by (purse 23 => fail))) (by rw [List.length_map, htl, List.length_take]; omega) ⟨ts ++ [D3], by rw [List.map_append]; rfl, ?_⟩
        rw [List.take_add_one, hr]
        exact pair_snoc (pmonoF (fun _ _ z => TellsR.up e3 z) hts) ht3
      · rintro D P2 H2 acc e2 m2 ⟨ts, rfl, hts⟩
        rw [hxl, List.take_length] at hts
        obtain ⟨mF, eF⟩ := m2.freeze
        have hTl : ToldR K (upd P2 D (.lst (ts.map V.ref))) (asksAt rows rows.length) D rows := ⟨ts, SqL.of upd_same, pmonoF (fun _ _ z => TellsR.up eF z) hts⟩
        generalize upd P2 D (.lst (ts.map V.ref)) = P3 at mF eF hTl
        have e03 : Ex P0 P3 := e1.trans (e2.trans eF)
        replace hA := hA.up (e2.trans eF)
        clear m1 m2
        (purse 8 => fail)
        generalize hA0 : asksAt rows rows.length = A0 at *
        refine l_enum (K := K) (xs := xs) (sqL_up hL (e03.trans mF.ex)) (fun i σ H' => (∀ j, j < i → faultAt A0 rows j = none) ∧ ∃ P' x2 x3 x5 x6 x7 x8 x9 x10 x11 x12 x13 x14, Ex P3 P' ∧ Mem P' (pt d (.dT kvs) :: F) H' ∧ σ = [some (.ref L), some (.ref d), x2, x3, some (.ref D), x5, x6, x7, x8, x9, x10, x11, x12, x13, x14])
          ⟨(fun _ z => absurd z (Nat.not_lt_zero _)), P3, _, _, _, _, _, _, _, _, _, _, _, _, Ex.refl _, mF, rfl⟩ (fun i σ H' _ ⟨_, P', _, _, _, _, _, _, _, _, _, _, _, _, e, m', _⟩ => sqL_up hL ((e03.trans e).trans m'.ex)) ?_ ?_
        · rintro i v σ H' T1 hv ⟨hno, P', x2, x3, x5, x6, x7, x8, x9, x10, x11, x12, x13, x14, e, m', rfl⟩ hT1
          obtain ⟨r, hr, hd⟩ := rows_at hx hv
          obtain ⟨hfit, _⟩ := hw.fit hr
          rw [hA0] at hfit
          obtain ⟨P6, m6, e6, hT6⟩ := Mem.enum (K := K) (xs := [.int (i : Int), v]) m' hT1
          have e06 : Ex P0 P6 := e03.trans (e.trans e6)
          have hi := (List.getElem?_eq_some_iff.mp hr).1
          replace hd := Dp.up e06 hd
          have skip : faultAt A0 rows i = none → ∀ j, j < i + 1 → faultAt A0 rows j = none := fun hz j hj => by
            by_cases hji : j = i
            · rw [hji]; exact hz
            · exact hno j (by omega)
          have done : ∀ {P7 H7 t i2}, Ex P0 P7 → looksB r = true → firstA A0 rows i r = some i2 → SqT K P7 t [.int (i2 : Int), .int (i : Int)] → Mem P7 (pt d (.dT kvs) :: F) H7 → Q (.ref t) H7 := fun {P7 H7 t i2} e7 h1 h2 h3 m7 => by
            have hf : faultS rows = some (i2, i) := by
              unfold faultS
              rw [hA0]
              exact some_at hno (fault_some hr h1 h2) hi
            refine q _ _ _ e7 ?_ m7.drop
            rw [hf]
            exact .tup h3 (.cons (.int _) (.cons (.int _) .nil))
          have skipQ : ∀ {x2 x3 x5}, looksB r = false → (∀ j, j < i + 1 → faultAt A0 rows j = none) ∧ ∃ P' y2 y3 y5 y6 y7 y8 y9 y10 y11 y12 y13 y14, Ex P3 P' ∧ Mem P' (pt d (.dT kvs) :: F) (upd H' T1 (.tup [.int (i : Int), v])) ∧ [some (V.ref L), some (.ref d), x2, x3, some (.ref D), x5, x6, x7, x8, x9, x10, x11, x12, x13, x14] = [some (V.ref L), some (.ref d), y2, y3, some (.ref D), y5, y6, y7, y8, y9, y10, y11, y12, y13, y14] := fun hl => ⟨skip (fault_none hr (.inl hl)), P6, _, _, _, _, _, _, _, _, _, _, _, _, e.trans e6, m6, rfl⟩
          cases r with
          | ask h n q0 =>
            obtain ⟨b, b2, rfl, h1, h2⟩ := ask_inv hd
            (purse 8 => fail)
            exact skipQ rfl
          | saw h f w0 c0 =>
            obtain ⟨b, rfl, h1⟩ := saw_inv hd
            obtain ⟨ts3, t3, vs3, k1, k2, k3, k4⟩ := told_at (hTl.up (e.trans e6)) hr
            obtain ⟨v3, hv3, r3, hv4, hv5⟩ : ∃ v3, vs3 = [v3] ∧ ∃ r3, v3 = .ref r3 ∧ SqT K P6 r3 [.int f, .int w0, .str c0] := by
              cases k4 with
              | cons a b0 => cases b0; obtain ⟨r3, z1, z2⟩ := a; exact ⟨_, rfl, r3, z1, z2⟩
            subst hv3 hv4
            (purse 8 => fail)
            refine i_ixL (m6.sqL k1 (Ex.refl _)) k2 ?_
            (purse 8 => fail)
            have mB := m6
            have eB : Ex P0 P6 := e06
            have eC : Ex P3 P6 := e.trans e6
            have eD : Ex P6 P6 := Ex.refl _
            refine l_range1 (by omega) (by omega) (fun i2 σ H' => (∀ j, j < i2 → hitAt A0 rows i (SRow.saw h f w0 c0) j = false) ∧ ∃ P' y10 y11 y12 y13 y14, Ex P6 P' ∧ Mem P' (pt d (.dT kvs) :: F) H' ∧ σ = [some (.ref L), some (.ref d), x2, some (.ref b), some (.ref D), some (.int (i : Int)), some (.int f), some (.int w0), some (.str c0), some (.int (beginOf A0 (i : Int) (SRow.saw h f w0 c0))), y10, y11, y12, y13, y14])
              ⟨(fun _ z => absurd z (Nat.not_lt_zero _)), P6, _, _, _, _, _, Ex.refl _, mB, rfl⟩ ?_ ?_
            · rintro i2 σ H' hi2 ⟨hno2, P', y10, y11, y12, y13, y14, e', m', rfl⟩
              have hik : i2 < i := by omega
              have hri : rows[i2]? = some rows[i2] := List.getElem?_eq_getElem (by omega)
              have e0' : Ex P0 P' := eB.trans e'
              obtain ⟨ts2, t2, vs2, j1, j2, j3, j4⟩ := told_at (hTl.up (eC.trans e')) hri
              obtain ⟨bi, hbi1, hbi2⟩ := row_ix hx hri
              obtain ⟨hxs, hh1, hh2⟩ := row_hand (Dp.up e0' hbi2)
              obtain ⟨kxs, hk1, hk2⟩ := row_hand (Dp.up (eD.trans e') hd)
              (purse 8 => fail)
              refine i_ixL (m'.sqL j1 (Ex.refl _)) j2 ?_
              (purse 8 => fail)
              refine l_list (K := K) (m'.sqL j3 (Ex.refl _)) (fun l σ H' => (∀ o ∈ (tells A0 rows[i2]).take l, unlike (f, w0, some c0) o (bindsB A0 i (SRow.saw h f w0 c0) i2 rows[i2] o) = false) ∧ ∃ P2 y11 y12 y13 y14, Ex P' P2 ∧ Mem P2 (pt d (.dT kvs) :: F) H' ∧ σ = [some (.ref L), some (.ref d), x2, some (.ref b), some (.ref D), some (.int (i : Int)), some (.int f), some (.int w0), some (.str c0), some (.int (beginOf A0 (i : Int) (SRow.saw h f w0 c0))), some (.int (i2 : Int)), y11, y12, y13, y14])
                ⟨(fun _ z => by simp at z), P', _, _, _, _, Ex.refl _, m', rfl⟩ (fun l σ H' _ ⟨_, P2, _, _, _, _, e2, m2, _⟩ => sqL_up j3 (e2.trans m2.ex)) ?_ ?_
              · rintro l x σ H2 hxl2 ⟨hno3, P2, y11, y12, y13, y14, e2, m2, rfl⟩
                obtain ⟨o, ho, hto⟩ := pairAt j4 hxl2
                replace hto := TellR.up e2 hto
                obtain ⟨ro, rfl, hro⟩ := id hto
                obtain ⟨of, ow, oo⟩ := o
                have hmem : (of, ow, oo) ∈ tells A0 rows[i2] := List.mem_of_getElem? ho
                have htk : (tells A0 rows[i2]).take (l + 1) = (tells A0 rows[i2]).take l ++ [(of, ow, oo)] := by rw [List.take_add_one, ho]; rfl
                have e02 : Ex P0 P2 := e0'.trans e2
                have hbind : bindsB A0 i (SRow.saw h f w0 c0) i2 rows[i2] (of, ow, oo) = (decide ((i2 : Int) < beginOf A0 (i : Int) (SRow.saw h f w0 c0)) && (oo.isNone || decide (handOf rows[i2] = handOf (SRow.saw h f w0 c0)))) := rfl
                have hitQ : ∀ {P3 H3 t3}, Mem P3 (pt d (.dT kvs) :: F) H3 → Ex P0 P3 → SqT K P3 t3 [.int (i2 : Int), .int (i : Int)] → unlike (f, w0, some c0) (of, ow, oo) (bindsB A0 i (SRow.saw h f w0 c0) i2 rows[i2] (of, ow, oo)) = true → Q (.ref t3) H3 := fun {P3 H3 t3} m3 e3 h3 hu => by
                  have hhit : hitAt A0 rows i (SRow.saw h f w0 c0) i2 = true := by
                    unfold hitAt
                    rw [hri]
                    exact List.any_eq_true.mpr ⟨_, hmem, hu⟩
                  exact done e3 rfl (find_at hno2 hhit hik) h3 m3
                have missQ : ∀ {P3 H3 z11 z12 z13 z14}, Mem P3 (pt d (.dT kvs) :: F) H3 → Ex P' P3 → unlike (f, w0, some c0) (of, ow, oo) (bindsB A0 i (SRow.saw h f w0 c0) i2 rows[i2] (of, ow, oo)) = false → (∀ o ∈ (tells A0 rows[i2]).take (l + 1), unlike (f, w0, some c0) o (bindsB A0 i (SRow.saw h f w0 c0) i2 rows[i2] o) = false) ∧ ∃ P2 y11 y12 y13 y14, Ex P' P2 ∧ Mem P2 (pt d (.dT kvs) :: F) H3 ∧ [some (V.ref L), some (.ref d), x2, some (.ref b), some (.ref D), some (.int (i : Int)), some (.int f), some (.int w0), some (.str c0), some (.int (beginOf A0 (i : Int) (SRow.saw h f w0 c0))), some (.int (i2 : Int)), z11, z12, z13, z14] = [some (V.ref L), some (.ref d), x2, some (.ref b), some (.ref D), some (.int (i : Int)), some (.int f), some (.int w0), some (.str c0), some (.int (beginOf A0 (i : Int) (SRow.saw h f w0 c0))), some (.int (i2 : Int)), y11, y12, y13, y14] := fun {P3 H3 z11 z12 z13 z14} m3 e3 hu => by
                  refine ⟨fun o' ho' => ?_, P3, z11, z12, z13, z14, e3, m3, rfl⟩
                  rw [htk] at ho'
                  rcases List.mem_append.mp ho' with z | z
                  · exact hno3 o' z
                  · rw [List.mem_singleton.mp z]; exact hu
                cases oo with
                | none =>
                  replace hro : SqT K P2 ro [.int of, .int ow, .non] := hro
                  by_cases hb : (i2 : Int) < beginOf A0 (i : Int) (SRow.saw h f w0 c0)
                  · have hX : bindsB A0 i (SRow.saw h f w0 c0) i2 rows[i2] (of, ow, none) = true := by rw [hbind, decide_eq_true hb]; rfl
                    (purse 8 => fail)
                    rw [decide_eq_true hb]
                    (purse 8 => fail)
                    repeat' (first | (purse 6 => fail) | ((purse 25 => fail) <;> intro _))
                    all_goals first
                      | contradiction
                      | exact missQ m2 e2 (by rw [hX, unlike_alt]; simp [*]; done)
                      | exact missQ m2 e2 (by rw [hX, unlike_alt]; simp [*]; omega)
                      | (rename_i t8 P8 H8 m8 e8 h8; exact hitQ m8 (e02.trans e8) h8 (by rw [hX, unlike_alt]; simp [*]; done))
                  · have hX : bindsB A0 i (SRow.saw h f w0 c0) i2 rows[i2] (of, ow, none) = false := by rw [hbind, decide_eq_false hb]; rfl
                    (purse 8 => fail)
                    rw [decide_eq_false hb]
                    (purse 8 => fail)
                    repeat' (first | (purse 6 => fail) | ((purse 25 => fail) <;> intro _))
                    all_goals first
                      | contradiction
                      | exact missQ m2 e2 (by rw [hX, unlike_alt]; simp [*]; done)
                      | exact missQ m2 e2 (by rw [hX, unlike_alt]; simp [*]; omega)
                      | (rename_i t8 P8 H8 m8 e8 h8; exact hitQ m8 (e02.trans e8) h8 (by rw [hX, unlike_alt]; simp [*]; done))
                | some c9 =>
                  replace hro : SqT K P2 ro [.int of, .int ow, .str c9] := hro
                  by_cases hb : (i2 : Int) < beginOf A0 (i : Int) (SRow.saw h f w0 c0)
                  · have hX : bindsB A0 i (SRow.saw h f w0 c0) i2 rows[i2] (of, ow, some c9) = decide (handOf rows[i2] = handOf (SRow.saw h f w0 c0)) := by rw [hbind, decide_eq_true hb]; rfl
                    (purse 8 => fail)
                    rw [decide_eq_true hb]
                    (purse 8 => fail)
                    refine i_ixL (m2.sqL (sqL_up hL e02) (Ex.refl _)) hbi1 ?_
                    (purse 8 => fail)
                    refine i_ixT (m2.sqT (sqT_up hh1 e2) (Ex.refl _)) hh2 ?_
                    (purse 8 => fail)
                    refine i_ixT (m2.sqT (sqT_up hk1 e2) (Ex.refl _)) hk2 ?_
                    (purse 8 => fail)
                    repeat' (first | (purse 6 => fail) | ((purse 25 => fail) <;> intro _))
                    all_goals first
                      | contradiction
                      | exact missQ m2 e2 (by rw [hX, unlike_alt]; simp [*]; done)
                      | exact missQ m2 e2 (by rw [hX, unlike_alt]; simp [*]; omega)
                      | (rename_i t8 P8 H8 m8 e8 h8; exact hitQ m8 (e02.trans e8) h8 (by rw [hX, unlike_alt]; simp [*]; done))
                  · have hX : bindsB A0 i (SRow.saw h f w0 c0) i2 rows[i2] (of, ow, some c9) = false := by rw [hbind, decide_eq_false hb]; rfl
                    (purse 8 => fail)
                    rw [decide_eq_false hb]
                    (purse 8 => fail)
                    repeat' (first | (purse 6 => fail) | ((purse 25 => fail) <;> intro _))
                    all_goals first
                      | contradiction
                      | exact missQ m2 e2 (by rw [hX, unlike_alt]; simp [*]; done)
                      | exact missQ m2 e2 (by rw [hX, unlike_alt]; simp [*]; omega)
                      | (rename_i t8 P8 H8 m8 e8 h8; exact hitQ m8 (e02.trans e8) h8 (by rw [hX, unlike_alt]; simp [*]; done))
              · rintro σ H2 ⟨hno3, P2, y11, y12, y13, y14, e2, m2, rfl⟩
                have hll := Paired.length j4
                rw [hll, List.take_length] at hno3
                refine ⟨fun j hj => ?_, P2, _, _, _, _, _, e'.trans e2, m2, rfl⟩
                by_cases hji : j = i2
                · subst hji
                  unfold hitAt
                  rw [hri]
                  exact List.any_eq_false.mpr fun o ho => by rw [show tell0 A0 (SRow.saw h f w0 c0) = (f, w0, some c0) from rfl, hno3 o ho]; decide
                · exact hno2 j (by omega)
            · rintro σ H' ⟨hno2, P', y10, y11, y12, y13, y14, e', m', rfl⟩
              rw [Int.toNat_natCast] at hno2
              (purse 8 => fail)
              exact ⟨skip (fault_none hr (.inr (find_none hno2))), P', _, _, _, _, _, _, _, _, _, _, _, _, eC.trans e', m', rfl⟩
          | told h n a0 =>
            obtain ⟨b, b2, rfl, h1, h2⟩ := told_inv hd
            cases a0 with
            | file f w0 c0 st0 =>
              have h3 := file_inv h2
              obtain ⟨ts3, t3, vs3, k1, k2, k3, k4⟩ := told_at (hTl.up (e.trans e6)) hr
              obtain ⟨v3, hv3, r3, hv4, hv5⟩ : ∃ v3, vs3 = [v3] ∧ ∃ r3, v3 = .ref r3 ∧ SqT K P6 r3 [.int f, .int w0, .str c0] := by
                cases k4 with
                | cons a b0 => cases b0; obtain ⟨r3, z1, z2⟩ := a; exact ⟨_, rfl, r3, z1, z2⟩
              subst hv3 hv4
              obtain ⟨j0, q0, hq0, _⟩ := hfit
              obtain ⟨t4, b4, g1, g2, g3⟩ := askR_get (hA.up (e.trans e6)) hq0
              have ebeg : beginOf A0 (i : Int) (.told h n (.file f w0 c0 st0)) = j0 := by
                show ((aget A0 (h, n)).map (·.1)).getD 0 = j0
                rw [hq0]; rfl
              (purse 8 => fail)
              refine i_ndec (fun z => absurd rfl z) (fun _ => ?_)
              (purse 8 => fail)
              refine i_ixL (m6.sqL k1 (Ex.refl _)) k2 ?_
              (purse 8 => fail)
              refine i_slK (ys := [.int h, .int n]) m6 h1 rfl (by intro z; have := z.1; simp [HT.sIx] at this) fun p9 P9 H9 m9 e9 h9 => ?_
              refine i_dgetT (k := gK (h, n)) m9 .z h9 g1 ?_
              replace g2 := sqT_up g2 e9
              (purse 8 => fail)
              rw [← ebeg]
              have mB := m9
              have eB : Ex P0 P9 := e06.trans e9
              have eC : Ex P3 P9 := e.trans (e6.trans e9)
              have eD : Ex P6 P9 := e9
              refine l_range1 (by omega) (by omega) (fun i2 σ H' => (∀ j, j < i2 → hitAt A0 rows i (SRow.told h n (SAns.file f w0 c0 st0)) j = false) ∧ ∃ P' y10 y11 y12 y13 y14, Ex P9 P' ∧ Mem P' (pt d (.dT kvs) :: F) H' ∧ σ = [some (.ref L), some (.ref d), x2, some (.ref b), some (.ref D), some (.int (i : Int)), some (.int f), some (.int w0), some (.str c0), some (.int (beginOf A0 (i : Int) (SRow.told h n (SAns.file f w0 c0 st0)))), y10, y11, y12, y13, y14])
                ⟨(fun _ z => absurd z (Nat.not_lt_zero _)), P9, _, _, _, _, _, Ex.refl _, mB, rfl⟩ ?_ ?_
              · rintro i2 σ H' hi2 ⟨hno2, P', y10, y11, y12, y13, y14, e', m', rfl⟩
                have hik : i2 < i := by omega
                have hri : rows[i2]? = some rows[i2] := List.getElem?_eq_getElem (by omega)
                have e0' : Ex P0 P' := eB.trans e'
                obtain ⟨ts2, t2, vs2, j1, j2, j3, j4⟩ := told_at (hTl.up (eC.trans e')) hri
                obtain ⟨bi, hbi1, hbi2⟩ := row_ix hx hri
                obtain ⟨hxs, hh1, hh2⟩ := row_hand (Dp.up e0' hbi2)
                obtain ⟨kxs, hk1, hk2⟩ := row_hand (Dp.up (eD.trans e') hd)
                (purse 8 => fail)
                refine i_ixL (m'.sqL j1 (Ex.refl _)) j2 ?_
                (purse 8 => fail)
                refine l_list (K := K) (m'.sqL j3 (Ex.refl _)) (fun l σ H' => (∀ o ∈ (tells A0 rows[i2]).take l, unlike (f, w0, some c0) o (bindsB A0 i (SRow.told h n (SAns.file f w0 c0 st0)) i2 rows[i2] o) = false) ∧ ∃ P2 y11 y12 y13 y14, Ex P' P2 ∧ Mem P2 (pt d (.dT kvs) :: F) H' ∧ σ = [some (.ref L), some (.ref d), x2, some (.ref b), some (.ref D), some (.int (i : Int)), some (.int f), some (.int w0), some (.str c0), some (.int (beginOf A0 (i : Int) (SRow.told h n (SAns.file f w0 c0 st0)))), some (.int (i2 : Int)), y11, y12, y13, y14])
                  ⟨(fun _ z => by simp at z), P', _, _, _, _, Ex.refl _, m', rfl⟩ (fun l σ H' _ ⟨_, P2, _, _, _, _, e2, m2, _⟩ => sqL_up j3 (e2.trans m2.ex)) ?_ ?_
                · rintro l x σ H2 hxl2 ⟨hno3, P2, y11, y12, y13, y14, e2, m2, rfl⟩
                  obtain ⟨o, ho, hto⟩ := pairAt j4 hxl2
                  replace hto := TellR.up e2 hto
                  obtain ⟨ro, rfl, hro⟩ := id hto
                  obtain ⟨of, ow, oo⟩ := o
                  have hmem : (of, ow, oo) ∈ tells A0 rows[i2] := List.mem_of_getElem? ho
                  have htk : (tells A0 rows[i2]).take (l + 1) = (tells A0 rows[i2]).take l ++ [(of, ow, oo)] := by rw [List.take_add_one, ho]; rfl
                  have e02 : Ex P0 P2 := e0'.trans e2
                  have hbind : bindsB A0 i (SRow.told h n (SAns.file f w0 c0 st0)) i2 rows[i2] (of, ow, oo) = (decide ((i2 : Int) < beginOf A0 (i : Int) (SRow.told h n (SAns.file f w0 c0 st0))) && (oo.isNone || decide (handOf rows[i2] = handOf (SRow.told h n (SAns.file f w0 c0 st0))))) := rfl
                  have hitQ : ∀ {P3 H3 t3}, Mem P3 (pt d (.dT kvs) :: F) H3 → Ex P0 P3 → SqT K P3 t3 [.int (i2 : Int), .int (i : Int)] → unlike (f, w0, some c0) (of, ow, oo) (bindsB A0 i (SRow.told h n (SAns.file f w0 c0 st0)) i2 rows[i2] (of, ow, oo)) = true → Q (.ref t3) H3 := fun {P3 H3 t3} m3 e3 h3 hu => by
                    have hhit : hitAt A0 rows i (SRow.told h n (SAns.file f w0 c0 st0)) i2 = true := by
                      unfold hitAt
                      rw [hri]
                      exact List.any_eq_true.mpr ⟨_, hmem, hu⟩
                    exact done e3 rfl (find_at hno2 hhit hik) h3 m3
                  have missQ : ∀ {P3 H3 z11 z12 z13 z14}, Mem P3 (pt d (.dT kvs) :: F) H3 → Ex P' P3 → unlike (f, w0, some c0) (of, ow, oo) (bindsB A0 i (SRow.told h n (SAns.file f w0 c0 st0)) i2 rows[i2] (of, ow, oo)) = false → (∀ o ∈ (tells A0 rows[i2]).take (l + 1), unlike (f, w0, some c0) o (bindsB A0 i (SRow.told h n (SAns.file f w0 c0 st0)) i2 rows[i2] o) = false) ∧ ∃ P2 y11 y12 y13 y14, Ex P' P2 ∧ Mem P2 (pt d (.dT kvs) :: F) H3 ∧ [some (V.ref L), some (.ref d), x2, some (.ref b), some (.ref D), some (.int (i : Int)), some (.int f), some (.int w0), some (.str c0), some (.int (beginOf A0 (i : Int) (SRow.told h n (SAns.file f w0 c0 st0)))), some (.int (i2 : Int)), z11, z12, z13, z14] = [some (V.ref L), some (.ref d), x2, some (.ref b), some (.ref D), some (.int (i : Int)), some (.int f), some (.int w0), some (.str c0), some (.int (beginOf A0 (i : Int) (SRow.told h n (SAns.file f w0 c0 st0)))), some (.int (i2 : Int)), y11, y12, y13, y14] := fun {P3 H3 z11 z12 z13 z14} m3 e3 hu => by
                    refine ⟨fun o' ho' => ?_, P3, z11, z12, z13, z14, e3, m3, rfl⟩
                    rw [htk] at ho'
                    rcases List.mem_append.mp ho' with z | z
                    · exact hno3 o' z
                    · rw [List.mem_singleton.mp z]; exact hu
                  cases oo with
                  | none =>
                    replace hro : SqT K P2 ro [.int of, .int ow, .non] := hro
                    by_cases hb : (i2 : Int) < beginOf A0 (i : Int) (SRow.told h n (SAns.file f w0 c0 st0))
                    · have hX : bindsB A0 i (SRow.told h n (SAns.file f w0 c0 st0)) i2 rows[i2] (of, ow, none) = true := by rw [hbind, decide_eq_true hb]; rfl
                      (purse 8 => fail)
                      rw [decide_eq_true hb]
                      (purse 8 => fail)
                      repeat' (first | (purse 6 => fail) | ((purse 25 => fail) <;> intro _))
                      all_goals first
                        | contradiction
                        | exact missQ m2 e2 (by rw [hX, unlike_alt]; simp [*]; done)
                        | exact missQ m2 e2 (by rw [hX, unlike_alt]; simp [*]; omega)
                        | (rename_i t8 P8 H8 m8 e8 h8; exact hitQ m8 (e02.trans e8) h8 (by rw [hX, unlike_alt]; simp [*]; done))
                    · have hX : bindsB A0 i (SRow.told h n (SAns.file f w0 c0 st0)) i2 rows[i2] (of, ow, none) = false := by rw [hbind, decide_eq_false hb]; rfl
                      (purse 8 => fail)
                      rw [decide_eq_false hb]
                      (purse 8 => fail)
                      repeat' (first | (purse 6 => fail) | ((purse 25 => fail) <;> intro _))
                      all_goals first
                        | contradiction
                        | exact missQ m2 e2 (by rw [hX, unlike_alt]; simp [*]; done)
                        | exact missQ m2 e2 (by rw [hX, unlike_alt]; simp [*]; omega)
                        | (rename_i t8 P8 H8 m8 e8 h8; exact hitQ m8 (e02.trans e8) h8 (by rw [hX, unlike_alt]; simp [*]; done))
                  | some c9 =>
                    replace hro : SqT K P2 ro [.int of, .int ow, .str c9] := hro
                    by_cases hb : (i2 : Int) < beginOf A0 (i : Int) (SRow.told h n (SAns.file f w0 c0 st0))
                    · have hX : bindsB A0 i (SRow.told h n (SAns.file f w0 c0 st0)) i2 rows[i2] (of, ow, some c9) = decide (handOf rows[i2] = handOf (SRow.told h n (SAns.file f w0 c0 st0))) := by rw [hbind, decide_eq_true hb]; rfl
                      (purse 8 => fail)
                      rw [decide_eq_true hb]
                      (purse 8 => fail)
                      refine i_ixL (m2.sqL (sqL_up hL e02) (Ex.refl _)) hbi1 ?_
                      (purse 8 => fail)
                      refine i_ixT (m2.sqT (sqT_up hh1 e2) (Ex.refl _)) hh2 ?_
                      (purse 8 => fail)
                      refine i_ixT (m2.sqT (sqT_up hk1 e2) (Ex.refl _)) hk2 ?_
                      (purse 8 => fail)
                      repeat' (first | (purse 6 => fail) | ((purse 25 => fail) <;> intro _))
                      all_goals first
                        | contradiction
                        | exact missQ m2 e2 (by rw [hX, unlike_alt]; simp [*]; done)
                        | exact missQ m2 e2 (by rw [hX, unlike_alt]; simp [*]; omega)
                        | (rename_i t8 P8 H8 m8 e8 h8; exact hitQ m8 (e02.trans e8) h8 (by rw [hX, unlike_alt]; simp [*]; done))
                    · have hX : bindsB A0 i (SRow.told h n (SAns.file f w0 c0 st0)) i2 rows[i2] (of, ow, some c9) = false := by rw [hbind, decide_eq_false hb]; rfl
                      (purse 8 => fail)
                      rw [decide_eq_false hb]
                      (purse 8 => fail)
                      repeat' (first | (purse 6 => fail) | ((purse 25 => fail) <;> intro _))
                      all_goals first
                        | contradiction
                        | exact missQ m2 e2 (by rw [hX, unlike_alt]; simp [*]; done)
                        | exact missQ m2 e2 (by rw [hX, unlike_alt]; simp [*]; omega)
                        | (rename_i t8 P8 H8 m8 e8 h8; exact hitQ m8 (e02.trans e8) h8 (by rw [hX, unlike_alt]; simp [*]; done))
                · rintro σ H2 ⟨hno3, P2, y11, y12, y13, y14, e2, m2, rfl⟩
                  have hll := Paired.length j4
                  rw [hll, List.take_length] at hno3
                  refine ⟨fun j hj => ?_, P2, _, _, _, _, _, e'.trans e2, m2, rfl⟩
                  by_cases hji : j = i2
                  · subst hji
                    unfold hitAt
                    rw [hri]
                    exact List.any_eq_false.mpr fun o ho => by rw [show tell0 A0 (SRow.told h n (SAns.file f w0 c0 st0)) = (f, w0, some c0) from rfl, hno3 o ho]; decide
                  · exact hno2 j (by omega)
              · rintro σ H' ⟨hno2, P', y10, y11, y12, y13, y14, e', m', rfl⟩
                rw [Int.toNat_natCast] at hno2
                (purse 8 => fail)
                exact ⟨skip (fault_none hr (.inr (find_none hno2))), P', _, _, _, _, _, _, _, _, _, _, _, _, eC.trans e', m', rfl⟩
            | shut w1 st1 =>
              have h3 := shutA_inv h2
              (purse 8 => fail)
              refine i_ndec (fun _ => ?_) (fun z => absurd z (by decide))
              (purse 8 => fail)
              exact skipQ rfl
            | joined ps =>
              obtain ⟨L9, ys9, h3, _, _⟩ := joined_inv h2
              (purse 8 => fail)
              refine i_ndec (fun _ => ?_) (fun z => absurd z (by decide))
              (purse 8 => fail)
              exact skipQ rfl
            | ended =>
              have h3 := ended_inv h2
              (purse 8 => fail)
              refine i_ndec (fun _ => ?_) (fun z => absurd z (by decide))
              (purse 8 => fail)
              exact skipQ rfl
            | refused w1 =>
              have h3 := refused_inv h2
              (purse 8 => fail)
              refine i_ndec (fun _ => ?_) (fun z => absurd z (by decide))
              (purse 8 => fail)
              exact skipQ rfl
            | ok =>
              have h3 := ok_inv h2
              (purse 8 => fail)
              refine i_ndec (fun _ => ?_) (fun z => absurd z (by decide))
              (purse 8 => fail)
              exact skipQ rfl
            | begun =>
              have h3 := begun_inv h2
              (purse 8 => fail)
              refine i_ndec (fun _ => ?_) (fun z => absurd z (by decide))
              (purse 8 => fail)
              exact skipQ rfl
            | folder =>
              obtain ⟨L9, h3⟩ := folder_inv h2
              (purse 8 => fail)
              refine i_ndec (fun _ => ?_) (fun z => absurd z (by decide))
              (purse 8 => fail)
              exact skipQ rfl
        · rintro σ H' ⟨hno, P', x2, x3, x5, x6, x7, x8, x9, x10, x11, x12, x13, x14, e, m', rfl⟩
          rw [hxl] at hno
          (purse 8 => fail)
          refine q P' H' .non (e03.trans e) ?_ m'.drop
          have : faultS rows = none := by
            unfold faultS
            rw [hA0]
            exact some_none hno
          rw [this]
          exact .non

/-! ### what is drawn for a story -/
def spLeftC : Sp := fun vs H Q _ => ∃ (P : Hp) (F : List Ch) (x k : Int), vs = [.int x, .int k] ∧ 0 ≤ k ∧ k ≤ 1000 ∧ Mem P F H ∧ ∀ st H', Mem P (draw st :: F) H' → Q (.ref st) H'
theorem ok_law_left (T : Txt K mg a c fd) : FnOk P w K mg base CX0 2 (a 9) (fd 9) ["_law_cell", "_law_k"] (spLeftC) := by
  refine T.F9.ok sc_law_left (fun vs H Q E h => ?_) (fun cdv A outer s H vs Q E hr h => ?_)
  · obtain ⟨_, _, _, _, rfl, _⟩ := h; rfl
  · obtain ⟨P0, F, z, k, rfl, k0, k1, m, q⟩ := h
    have G_law_mix := ok_law_mix (P := P) (w := w) (base := base) T
    refine ⟨_, (pss_cons (ps_if (pt_cmpR op_ge (pe_callB absI (by rfl) T.g_abs (by decide +kernel) (pa_cons (pv 0) pa_nil)) (pe_op op_pow pe_int pe_int) (nomark _)) (pss_one (ps_ret (pe_lst (pa_cons (pe_callB absI (by rfl) T.g_abs (by decide +kernel) (pa_cons (pv 0) pa_nil)) pa_nil)))) pss_nil)
      (pss_cons (ps_set (i := 2) sc_law_left.nd rfl (Or.inl rfl) pe_int)
      (pss_cons (ps_for PassesOwn.never rfl (pi_range1 rfl T.g_range (pa_cons pe_int pa_nil)) (pg_name (i := 3) sc_law_left.nd rfl (Or.inl rfl))
      (pss_one (ps_set (i := 2) sc_law_left.nd rfl (Or.inl rfl) (pe_op op_add (pe_op op_mul (pv 2) pe_int) (pe_call G_law_mix hr rfl T.m8 T.F8.kp T.b8 .nil pass0 (pa_cons (pe_call G_law_mix hr rfl T.m8 T.F8.kp T.b8 .nil pass0 (pa_cons (pv 0) (pa_cons (pe_op op_add (pe_op op_mul pe_int (pv 1)) (pv 3)) pa_nil))) (pa_cons (pv 3) pa_nil)))))))
      (pss_one (ps_ret (pe_lst (pa_cons (pv 2) pa_nil))))))), ?_⟩
    (purse 8 => fail)
    (purse 25 => fail) <;> intro hc
    · (purse 8 => fail)
      (purse 27 => fail)
      exact q _ _ (Mem.tox (by assumption) ⟨_, rfl⟩)
    · (purse 8 => fail)
      refine l_range1 (by decide) (by decide) (fun i σ H' => Mem P0 F H' ∧ ∃ (n : Int) (y : Option V), σ = [some (.int z), some (.int k), some (.int n), y]) ⟨m, _, _, rfl⟩ ?_ ?_
      · rintro i σ H' hi ⟨m', n, y, rfl⟩
        (purse 8 => fail)
        refine ⟨_, _, rfl, by omega, by omega, fun r r0 => ?_⟩
        (purse 8 => fail)
        refine ⟨_, _, rfl, by omega, by omega, fun r2 r20 => ?_⟩
        (purse 8 => fail)
        exact ⟨m', _, _, rfl⟩
      · rintro σ H' ⟨m', n, y, rfl⟩
        (purse 8 => fail)
        (purse 27 => fail)
        exact q _ _ (Mem.tox (by assumption) ⟨_, rfl⟩)
def spOwnN (K : PySem.W.Frag) (n : Nat) : Sp := fun vs H Q _ => ∃ (P : Hp) (F : List Ch) (x : V) (d : PyData), vs = [x] ∧ SmD n d ∧ Dp K P x d ∧ Mem P F H ∧ ∀ P' H' y, Ex P P' → Dp K P' y d → Mem P' F H' → Q y H'
theorem spOwnN0 {K : PySem.W.Frag} {vs : List V} {H : Hp} {Q : VK} {E : XK} (h : spOwnN K 0 vs H Q E) : False := by
  obtain ⟨_, _, x, d, _, h, _⟩ := h
  cases h
theorem step_law_own (T : Txt K mg a c fd) (n : Nat) (ih : FnOk P w K mg base CX0 (n + 1) (a 11) (fd 11) ["_law_thing"] (spOwnN K n)) : FnOk P w K mg base CX0 (n + 1 + 1) (a 11) (fd 11) ["_law_thing"] (spOwnN K (n + 1)) := by
  refine T.F11.ok sc_law_own (fun vs H Q E h => ?_) (fun cdv A outer s H vs Q E hr h => ?_)
  · obtain ⟨_, _, _, _, rfl, _⟩ := h; rfl
  · obtain ⟨P0, F, x, d, rfl, hd, dx, m, q⟩ := h
    have G_law_own := ih
    refine ⟨_, (pss_cons (ps_if (pt_val (pe_callB (isiK (K := K) rfl) (by rfl) T.g_isinstance (by decide +kernel) (pa_cons (pv 0) (pa_cons (pe_bltn (v := .ty "list") (by rfl) T.g_list (by decide +kernel) rfl) pa_nil)))) (pss_one (ps_ret (pe_lc (own := [("_law_part", 1)]) (tt := tYes) (by rfl) sc_law_own.nd (piL (K := K) rfl (pv 0)) (blkOk_by (own := [("_law_part", 1)]) (N := N_law_own) (sc := defScope s_law_own) (by decide +kernel)) (fun _ _ _ _ _ => (pg_name (i := 1) sc_law_own.nd rfl (Or.inl rfl))) (fun _ _ _ _ _ => pts_nil) (fun _ _ _ _ _ => (pe_call G_law_own hr rfl T.m11 T.F11.kp T.b11 .nil pass0 (pa_cons (pv 1) pa_nil)))))) pss_nil)
      (pss_cons (ps_if (pt_val (pe_callB (isiK (K := K) rfl) (by rfl) T.g_isinstance (by decide +kernel) (pa_cons (pv 0) (pa_cons (pe_bltn (v := .ty "tuple") (by rfl) T.g_tuple (by decide +kernel) rfl) pa_nil)))) (pss_one (ps_ret (pe_callTy (tupOf (K := K) rfl) (by rfl) T.g_tuple (by decide +kernel) (pa_cons (pe_lc (own := [("_law_part", 1)]) (tt := tYes) (by rfl) sc_law_own.nd (piT (K := K) rfl (pv 0)) (blkOk_by (own := [("_law_part", 1)]) (N := N_law_own) (sc := defScope s_law_own) (by decide +kernel)) (fun _ _ _ _ _ => (pg_name (i := 1) sc_law_own.nd rfl (Or.inl rfl))) (fun _ _ _ _ _ => pts_nil) (fun _ _ _ _ _ => (pe_call G_law_own hr rfl T.m11 T.F11.kp T.b11 .nil pass0 (pa_cons (pv 1) pa_nil)))) pa_nil)))) pss_nil)
      (pss_one (ps_ret (pv 0))))), ?_⟩
    cases hd with
    | non =>
      cases dx
      (purse 8 => fail)
      exact q P0 _ _ (Ex.refl _) .non m
    | int i =>
      cases dx
      (purse 8 => fail)
      exact q P0 _ _ (Ex.refl _) (.int i) m
    | str z =>
      cases dx
      (purse 8 => fail)
      exact q P0 _ _ (Ex.refl _) (.str z) m
    | lst hl hds =>
      rename_i ds
      cases dx with
      | lst hx dx =>
      rename_i a1 xs
      have lx := dpLen dx
      (purse 8 => fail)
      refine l_lc (K := K) (a := a1) (xs := xs) m (fun P' H' _ e mm => sqL_up hx (e.trans mm.ex)) (fun i acc P' => DpAll K P' acc (ds.take i)) .nil ?_ ?_
      · rintro i x1 P4 H4 acc D h1 e4 m4 hacc Kt Kf hKt hKf
        obtain ⟨d1, hd1, dx1⟩ := dpAt dx h1
        have hi := (List.getElem?_eq_some_iff.mp h1).1
        have hal := dpLen hacc
        (purse 8 => fail)
        refine ⟨rfl, ?_⟩
        (purse 8 => fail)
        refine ⟨P4, _, x1, d1, rfl, hds d1 (List.mem_of_getElem? hd1), Dp.up e4 dx1, m4, fun P5 H5 y e5 hy m5 => ?_⟩
        refine hKt y P5 H5 e5 m5 (by rw [hal, List.length_take]; omega) ?_
        rw [List.take_add_one, hd1]
        exact dpSnoc (DpAll.up e5 hacc) hy
      · rintro D P4 H4 acc e4 m4 hacc
        rw [lx, List.take_length] at hacc
        have f := m4.freeze
        (purse 8 => fail)
        exact q _ H4 (.ref D) (e4.trans f.2) (.lst (SqL.of upd_same) (DpAll.up f.2 hacc)) f.1
    | tup hl hds =>
      rename_i ds
      cases dx with
      | tup hx dx =>
      rename_i a1 xs
      have lx := dpLen dx
      (purse 8 => fail)
      refine l_lcT (K := K) (a := a1) (xs := xs) m hx (fun i acc P' => DpAll K P' acc (ds.take i)) .nil ?_ ?_
      · rintro i x1 P4 H4 acc D h1 e4 m4 hacc Kt Kf hKt hKf
        obtain ⟨d1, hd1, dx1⟩ := dpAt dx h1
        have hi := (List.getElem?_eq_some_iff.mp h1).1
        have hal := dpLen hacc
        (purse 8 => fail)
        refine ⟨rfl, ?_⟩
        (purse 8 => fail)
        refine ⟨P4, _, x1, d1, rfl, hds d1 (List.mem_of_getElem? hd1), Dp.up e4 dx1, m4, fun P5 H5 y e5 hy m5 => ?_⟩
        refine hKt y P5 H5 e5 m5 (by rw [hal, List.length_take]; omega) ?_
        rw [List.take_add_one, hd1]
        exact dpSnoc (DpAll.up e5 hacc) hy
      · rintro D P4 H4 acc e4 m4 hacc
        rw [lx, List.take_length] at hacc
        (purse 8 => fail)
        rename_i p5 P5 H5 m5 e5 h5
        exact q _ _ _ (e4.trans e5) (.tup h5 (DpAll.up e5 hacc)) (m5.gone .z)
theorem okn_law_own (T : Txt K mg a c fd) : ∀ n, FnOk P w K mg base CX0 (n + 1) (a 11) (fd 11) ["_law_thing"] (spOwnN K n)
  | 0 => ⟨fun _ _ _ _ h => (spOwnN0 h).elim, fun _ _ _ _ _ _ _ _ _ _ _ _ _ h => (spOwnN0 h).elim⟩
  | n + 1 => step_law_own T n (okn_law_own T n)
theorem ok_law_own (T : Txt K mg a c fd) : FnOk P w K mg base CX0 8 (a 11) (fd 11) ["_law_thing"] (spOwnN K 7) := okn_law_own T 7

/-! ### a story's draws -/
def spSVer (K : PySem.W.Frag) : Sp := fun vs H Q _ => ∃ (P : Hp) (F : List Ch) (st : Addr) (g : StA) (nk : List (Key × V)) (ck : List (List Key × V)) (cnt : List Int) (ask : AskL) (f : Int), vs = [.ref st, .ref g.d, .int f] ∧ NowOk nk ∧ Mem P (draw st :: stP g nk ck cnt ask F) H ∧
  ∀ w H', Mem P (draw st :: stP g nk ck cnt ask F) H' → Q (.int w) H'
theorem ok_law_version (T : Txt K mg a c fd) : FnOk P w K mg base CX0 2 (a 14) (fd 14) ["_law_left_here", "_law_state", "_law_file"] (spSVer K) := by
  refine T.F14.ok sc_law_version (fun vs H Q E h => ?_) (fun cdv A outer s H vs Q E hr h => ?_)
  · obtain ⟨_, _, _, _, _, _, _, _, _, rfl, _⟩ := h; rfl
  · obtain ⟨P0, F, st, g, nk, ck, cnt, ask, f, rfl, hn, m, q⟩ := h
    have hN := stK_now g
    have hO := stK_odd g
    have ho := g.ho
    obtain ⟨vn, hw⟩ := now_get hn (Sum.inl f)
    have G_law_pick := ok_law_pick (P := P) (w := w) (base := base) T
    refine ⟨_, (pss_cons (ps_set (i := 3) sc_law_version.nd rfl (Or.inl rfl) (pe_dget2 (hu_of hr) (pe_dget (hu_of hr) (pv 1) pe_str (fun _ _ => rfl)) (pv 2) pe_int ⟨rfl, rfl, rfl, rfl⟩))
      (pss_cons (ps_if (pt_cmpR op_eq (pe_call G_law_pick hr rfl T.m10 T.F10.kp T.b10 .nil pass0 (pa_cons (pv 0) (pa_cons (pe_dget (hu_of hr) (pv 1) pe_str (fun _ _ => rfl)) pa_nil))) pe_int (nomark _)) (pss_one (ps_ret (pe_callB (mx2 rfl) (by rfl) T.g_max (by decide +kernel) (pa_cons pe_int (pa_cons (pe_op op_sub (pe_op op_add (pv 3) (pe_call G_law_pick hr rfl T.m10 T.F10.kp T.b10 .nil pass0 (pa_cons (pv 0) (pa_cons pe_int pa_nil)))) pe_int) pa_nil))))) pss_nil)
      (pss_one (ps_ret (pv 3))))), ?_⟩
    (purse 30 => fail)
    refine i_dgetO (k := Sum.inl f) m (by (purse 1 => fail)) ?_
    rw [hw]
    (purse 30 => fail)
    refine ⟨P0, _, st, g.o, rfl, by omega, by omega, m, fun r H1 r0 r1 m1 => ?_⟩
    (purse 30 => fail)
    (purse 25 => fail) <;> intro hc
    · (purse 30 => fail)
      refine ⟨P0, _, st, 4, rfl, by decide, by decide, m1, fun r2 H2 r3 r4 m2 => ?_⟩
      (purse 30 => fail)
      exact q _ _ m2
    · (purse 30 => fail)
      exact q _ _ m1
def spSCon (K : PySem.W.Frag) : Sp := fun vs H Q _ => ∃ (P : Hp) (F : List Ch) (st : Addr) (g : StA) (nk : List (Key × V)) (ck : List (List Key × V)) (cnt : List Int) (ask : AskL) (f w : Int), vs = [.ref st, .ref g.d, .int f, .int w] ∧ ConOk ck ∧ Mem P (draw st :: stP g nk ck cnt ask F) H ∧
  ∀ P' c H', Ex P P' → c ∈ C4 → Mem P' (draw st :: stP g nk ck cnt ask F) H' → Q (.str c) H'
theorem ok_law_content (T : Txt K mg a c fd) : FnOk P w K mg base CX0 2 (a 15) (fd 15) ["_law_left_here", "_law_state", "_law_file", "_law_version_here"] (spSCon K) := by
  refine T.F15.ok sc_law_content (fun vs H Q E h => ?_) (fun cdv A outer s H vs Q E hr h => ?_)
  · obtain ⟨_, _, _, _, _, _, _, _, _, _, rfl, _⟩ := h; rfl
  · obtain ⟨P0, F, st, g, nk, ck, cnt, ask, f, vn, rfl, hn, m, q⟩ := h
    have hC := stK_con g
    have hO := stK_odd g
    have ho := g.ho
    have G_law_pick := ok_law_pick (P := P) (w := w) (base := base) T
    refine ⟨_, (pss_cons (ps_if (pt_cmpR op_eq (pe_call G_law_pick hr rfl T.m10 T.F10.kp T.b10 .nil pass0 (pa_cons (pv 0) (pa_cons (pe_dget (hu_of hr) (pv 1) pe_str (fun _ _ => rfl)) pa_nil))) pe_int (nomark _)) (pss_one (ps_ret (pe_ix (ixL (K := K) rfl) (pe_lst (pa_cons pe_str (pa_cons pe_str (pa_cons pe_str pa_nil)))) (pe_call G_law_pick hr rfl T.m10 T.F10.kp T.b10 .nil pass0 (pa_cons (pv 0) (pa_cons pe_int pa_nil))) (fun _ _ => rfl)))) pss_nil)
      (pss_one (ps_ret (pe_dget2 (hu_of hr) (pe_dget (hu_of hr) (pv 1) pe_str (fun _ _ => rfl)) (pe_tupK (pa_cons (pv 2) (pa_cons (pv 3) pa_nil))) pe_str ⟨rfl, rfl, rfl, rfl⟩)))), ?_⟩
    (purse 30 => fail)
    refine ⟨P0, _, st, g.o, rfl, by omega, by omega, m, fun r H1 r0 r1 m1 => ?_⟩
    (purse 30 => fail)
    (purse 25 => fail) <;> intro hc
    · (purse 9 => fail)
      rename_i l P1 H2 m2 e1 h1
      refine ⟨P1, _, st, 3, rfl, by decide, by decide, m2, fun r2 H2 r3 r4 m2 => ?_⟩
      obtain ⟨v, hv, _, hm⟩ := atI_in (xs := [V.str "", V.str "x", V.str "y.1"]) r3 r4
      refine i_ixL (m2.sqL h1 (Ex.refl _)) hv ?_
      simp only [List.mem_cons, List.not_mem_nil, or_false] at hm
      rcases hm with rfl | rfl | rfl <;> exact q P1 _ _ e1 (by decide) m2
    · (purse 30 => fail)
      refine i_isDT m1 (by (purse 1 => fail)) ?_
      (purse 30 => fail)
      refine i_newK (xs := [V.int f, V.int vn]) m1 (by simp) fun p P1 H2 m2 e1 h1 => ?_
      (purse 30 => fail)
      refine i_dgetOT (k := [Sum.inl f, Sum.inl vn]) m2 (by (purse 1 => fail)) h1 ?_
      obtain ⟨c1, hc1, hc2⟩ := con_get hn [Sum.inl f, Sum.inl vn]
      rw [hc1]
      (purse 30 => fail)
      exact q P1 _ _ e1 hc2 m2
def spSPut (K : PySem.W.Frag) : Sp := fun vs H Q _ => ∃ (P : Hp) (F : List Ch) (st : Addr) (g : StA) (nk : List (Key × V)) (ck : List (List Key × V)) (cnt : List Int) (ask : AskL) (f : Int) (c : Str) (n B : Nat), vs = [.ref st, .ref g.d, .int f, .str c] ∧ c ∈ C4 ∧ StG K P nk ck cnt ask n B ∧ B ≤ 50000 ∧ Mem P (draw st :: stP g nk ck cnt ask F) H ∧
  ∀ P' w nk' ck' H', Ex P P' → StG K P' nk' ck' cnt ask n (B + 1) → Mem P' (draw st :: stP g nk' ck' cnt ask F) H' → Q (.int w) H'
theorem ok_law_put (T : Txt K mg a c fd) : FnOk P w K mg base CX0 3 (a 16) (fd 16) ["_law_left_here", "_law_state", "_law_file", "_law_content_here"] (spSPut K) := by
  refine T.F16.ok sc_law_put (fun vs H Q E h => ?_) (fun cdv A outer s H vs Q E hr h => ?_)
  · obtain ⟨_, _, _, _, _, _, _, _, _, _, _, _, rfl, _⟩ := h; rfl
  · obtain ⟨P0, F, st, g, nk, ck, cnt, ask, f, cc, n, B, rfl, hc, hg, hB, m, q⟩ := h
    have hN := stK_now g
    have hC := stK_con g
    obtain ⟨vn, hw⟩ := now_get hg.now (Sum.inl f)
    have l1 := hg.ln
    have l2 := hg.lc
    have G_law_version := ok_law_version (P := P) (w := w) (base := base) T
    refine ⟨_, (pss_cons (ps_set (i := 4) sc_law_put.nd rfl (Or.inl rfl) (pe_op op_add (pe_call G_law_version hr rfl T.m14 T.F14.kp T.b14 .nil pass0 (pa_cons (pv 0) (pa_cons (pv 1) (pa_cons (pv 2) pa_nil)))) pe_int))
      (pss_cons (ps_dput (hu_of hr) (pe_dget (hu_of hr) (pv 1) pe_str (fun _ _ => rfl)) (pv 2) (pe_callB (mx2 rfl) (by rfl) T.g_max (by decide +kernel) (pa_cons (pv 4) (pa_cons (pe_dget2 (hu_of hr) (pe_dget (hu_of hr) (pv 1) pe_str (fun _ _ => rfl)) (pv 2) pe_int ⟨rfl, rfl, rfl, rfl⟩) pa_nil))) rfl)
      (pss_cons (ps_dput (hu_of hr) (pe_dget (hu_of hr) (pv 1) pe_str (fun _ _ => rfl)) (pe_tupK (pa_cons (pv 2) (pa_cons (pv 4) pa_nil))) (pv 3) rfl)
      (pss_one (ps_ret (pv 4)))))), ?_⟩
    (purse 30 => fail)
    refine ⟨P0, F, st, g, nk, ck, cnt, ask, f, rfl, hg.now, m, fun v1 H1 m1 => ?_⟩
    (purse 30 => fail)
    refine i_dgetO (k := Sum.inl f) m1 (by (purse 1 => fail)) ?_
    rw [hw]
    (purse 30 => fail)
    refine i_dputAt (k := Sum.inl f) m1 (by (purse 5 => fail)) (by omega) fun H2 m2 => ?_
    (purse 30 => fail)
    refine i_newK (xs := [V.int f, V.int (v1 + 1)]) m2 (by simp) fun p P1 H3 m3 e1 h1 => ?_
    (purse 30 => fail)
    refine i_dputT (k := [Sum.inl f, Sum.inl (v1 + 1)]) m3 (by (purse 5 => fail)) h1 (by omega) fun H4 m4 => ?_
    (purse 30 => fail)
    exact q P1 _ _ _ _ e1 (hg.put e1 _ _ _ hc) m4
def spSAsk (K : PySem.W.Frag) : Sp := fun vs H Q _ => ∃ (P : Hp) (F : List Ch) (st : Addr) (g : StA) (nk : List (Key × V)) (ck : List (List Key × V)) (cnt : List Int) (ask : AskL) (h : Nat) (n B : Nat), vs = [.ref st, .ref g.d, .int h] ∧ h < n ∧ StG K P nk ck cnt ask n B ∧ Mem P (draw st :: stP g nk ck cnt ask F) H ∧
  ∀ P' r row cnt' ask' H', Ex P P' → StepR cnt ask row cnt' ask' → StG K P' nk ck cnt' ask' n B → Dp K P' (.ref r) row.d → Mem P' (draw st :: stP g nk ck cnt' ask' F) H' → Q (.ref r) H'
theorem ok_law_ask (T : Txt K mg a c fd) : FnOk P w K mg base CX0 2 (a 17) (fd 17) ["_law_left_here", "_law_state", "_law_h"] (spSAsk K) := by
  refine T.F17.ok sc_law_ask (fun vs H Q E h => ?_) (fun cdv A outer s H vs Q E hr h => ?_)
  · obtain ⟨_, _, _, _, _, _, _, _, _, _, _, rfl, _⟩ := h; rfl
  · obtain ⟨P0, F, st, g, nk, ck, cnt, ask, h, n, B, rfl, hn, hg, m, q⟩ := h
    have hC := stK_cnt g
    have hA := stK_ask g
    have hF := stK_fil g
    have hf := g.hf
    have G_law_pick := ok_law_pick (P := P) (w := w) (base := base) T
    refine ⟨_, (pss_cons (ps_set (i := 3) sc_law_ask.nd rfl (Or.inl rfl) (pe_op op_add pe_int (pe_call G_law_pick hr rfl T.m10 T.F10.kp T.b10 .nil pass0 (pa_cons (pv 0) (pa_cons (pe_dget (hu_of hr) (pv 1) pe_str (fun _ _ => rfl)) pa_nil)))))
      (pss_cons (ps_set (i := 4) sc_law_ask.nd rfl (Or.inl rfl) (pe_lst (pa_cons pe_str (pa_cons pe_str (pa_cons pe_str (pa_cons pe_str pa_nil))))))
      (pss_cons (ps_set (i := 5) sc_law_ask.nd rfl (Or.inl rfl) (pe_lst pa_nil))
      (pss_cons (ps_for PassesOwn.never rfl (pi_range1 rfl T.g_range (pa_cons (pe_call G_law_pick hr rfl T.m10 T.F10.kp T.b10 .nil pass0 (pa_cons (pv 0) (pa_cons pe_int pa_nil))) pa_nil)) (pg_name (i := 6) sc_law_ask.nd rfl (Or.inl rfl))
      (pss_cons (ps_set (i := 7) sc_law_ask.nd rfl (Or.inl rfl) (pe_tup (pa_cons pe_str (pa_cons pe_int (pa_cons pe_str (pa_cons (pe_ix (ixL (K := K) rfl) (pv 4) (pe_call G_law_pick hr rfl T.m10 T.F10.kp T.b10 .nil pass0 (pa_cons (pv 0) (pa_cons pe_int pa_nil))) (fun _ _ => rfl)) pa_nil))))))
      (pss_cons (ps_if (pt_cmpR op_gt (pe_call G_law_pick hr rfl T.m10 T.F10.kp T.b10 .nil pass0 (pa_cons (pv 0) (pa_cons pe_int pa_nil))) pe_int (nomark _)) (pss_one (ps_set (i := 7) sc_law_ask.nd rfl (Or.inl rfl) (pe_tup (pa_cons pe_str (pa_cons (pe_op op_add pe_int (pe_call G_law_pick hr rfl T.m10 T.F10.kp T.b10 .nil pass0 (pa_cons (pv 0) (pa_cons (pe_dget (hu_of hr) (pv 1) pe_str (fun _ _ => rfl)) pa_nil)))) (pa_cons (pe_call G_law_pick hr rfl T.m10 T.F10.kp T.b10 .nil pass0 (pa_cons (pv 0) (pa_cons pe_int pa_nil))) (pa_cons (pe_ix (ixL (K := K) rfl) (pv 4) (pe_call G_law_pick hr rfl T.m10 T.F10.kp T.b10 .nil pass0 (pa_cons (pv 0) (pa_cons pe_int pa_nil))) (fun _ _ => rfl)) pa_nil))))))) pss_nil)
      (pss_one (ps_expr (peM (K := K) rfl PySem.F.plainAttrs_list PySem.F.slot_list_append PySem.F.type_list_append mt_append (pv 5) (pa_cons (pv 7) pa_nil)))))))
      (pss_cons (ps_set (i := 8) sc_law_ask.nd rfl (Or.inl rfl) (pe_lst (pa_cons (pe_tup (pa_cons pe_str (pa_cons (pv 3) pa_nil))) (pa_cons (pe_tup (pa_cons pe_str (pa_cons pe_str pa_nil))) (pa_cons (pe_tup (pa_cons pe_str (pa_cons (pv 3) (pa_cons (pe_call G_law_pick hr rfl T.m10 T.F10.kp T.b10 .nil pass0 (pa_cons (pv 0) (pa_cons pe_int pa_nil))) (pa_cons (pe_ix (ixL (K := K) rfl) (pv 4) (pe_call G_law_pick hr rfl T.m10 T.F10.kp T.b10 .nil pass0 (pa_cons (pv 0) (pa_cons pe_int pa_nil))) (fun _ _ => rfl)) pa_nil))))) pa_nil)))))
      (pss_cons (ps_set (i := 8) sc_law_ask.nd rfl (Or.inl rfl) (pe_op (catL (K := K) rfl) (pv 8) (pe_lst (pa_cons (pe_tup (pa_cons pe_str (pa_cons (pe_callTy (tupOf (K := K) rfl) (by rfl) T.g_tuple (by decide +kernel) (pa_cons (pv 5) pa_nil)) pa_nil))) (pa_cons (pe_tup (pa_cons pe_str pa_nil)) (pa_cons (pe_tup (pa_cons pe_str (pa_cons (pv 3) pa_nil))) (pa_cons (pe_tup (pa_cons pe_str pa_nil)) pa_nil)))))))
      (pss_cons (ps_asg (pe_ix (ixL (K := K) rfl) (pv 8) (pe_call G_law_pick hr rfl T.m10 T.F10.kp T.b10 .nil pass0 (pa_cons (pv 0) (pa_cons pe_int pa_nil))) (fun _ _ => rfl)) (pg_sub (pe_dget (hu_of hr) (pv 1) pe_str (fun _ _ => rfl)) (pv 2) set_list))
      (pss_cons (ps_asg (pe_op op_add (pe_ix (ixL (K := K) rfl) (pe_dget (hu_of hr) (pv 1) pe_str (fun _ _ => rfl)) (pv 2) (fun _ _ => rfl)) pe_int) (pg_sub (pe_dget (hu_of hr) (pv 1) pe_str (fun _ _ => rfl)) (pv 2) set_list))
      (pss_one (ps_ret (pe_tup (pa_cons pe_str (pa_cons (pv 2) (pa_cons (pe_ix (ixL (K := K) rfl) (pe_dget (hu_of hr) (pv 1) pe_str (fun _ _ => rfl)) (pv 2) (fun _ _ => rfl)) (pa_cons (pe_ix (ixL (K := K) rfl) (pe_dget (hu_of hr) (pv 1) pe_str (fun _ _ => rfl)) (pv 2) (fun _ _ => rfl)) pa_nil))))))))))))))), ?_⟩
    (purse 30 => fail)
    refine ⟨P0, _, st, g.f, rfl, by omega, by omega, m, fun f0 H1 f1 f2 m1 => ?_⟩
    (purse 30 => fail)
    (purse 26 => fail)
    rename_i lc P1 H2 m2 e1 hlc
    (purse 30 => fail)
    (purse 27 => fail)
    rename_i D H3 m3
    (purse 30 => fail)
    refine ⟨P1, _, st, 4, rfl, by decide, by decide, m3.sel (c := draw st) (by (purse 1 => fail)), fun k0 H4 k1 k2 m4 => ?_⟩
    (purse 30 => fail)
    refine l_range1 (by omega) (by omega) (fun i σ H' => (∃ P' xs ds, Ex P1 P' ∧ Paired (DeR K P') xs ds ∧ xs.length = i ∧ Mem P' (draw st :: pt D (.lst xs) :: stP g nk ck cnt ask F) H') ∧ ∃ y1 y2 y3, σ = [some (.ref st), some (.ref g.d), some (.int h), some (.int (2 + f0)), some (.ref lc), some (.ref D), y1, y2, y3]) ⟨⟨P1, [], [], Ex.refl _, .nil, rfl, m4⟩, _, _, _, rfl⟩ ?_ ?_
    · rintro i σ H5 hi ⟨⟨P5, xs, ds, e5, hp, hx, m5⟩, y1, y2, y3, rfl⟩
      have hlc5 := sqL_up hlc e5
      (purse 30 => fail)
      refine ⟨P5, _, st, 4, rfl, by decide, by decide, m5, fun r6 H6 r60 r61 m6 => ?_⟩
      (purse 30 => fail)
      obtain ⟨c6, hc6, hm6⟩ := c4_at r60 r61
      refine i_ixL (m6.sqL hlc5 (Ex.refl _)) hc6 ?_
      (purse 9 => fail)
      rename_i t7 P7 H7 m7 e7 h7
      have d7 := DeR.make h7 hm6
      refine ⟨P7, _, st, 3, rfl, by decide, by decide, m7, fun r8 H8 r80 r81 m8 => ?_⟩
      (purse 30 => fail)
      (purse 25 => fail) <;> intro hc
      · (purse 30 => fail)
        refine ⟨P7, _, st, g.f, rfl, by omega, by omega, m8, fun r9 H9 r90 r91 m9 => ?_⟩
        (purse 30 => fail)
        refine ⟨P7, _, st, 5, rfl, by omega, by omega, m9, fun r10 H10 r100 r101 m10 => ?_⟩
        (purse 30 => fail)
        refine ⟨P7, _, st, 4, rfl, by omega, by omega, m10, fun r11 H11 r110 r111 m11 => ?_⟩
        (purse 30 => fail)
        obtain ⟨c12, hc12, hm12⟩ := c4_at r110 r111
        refine i_ixL (m11.sqL hlc5 e7) hc12 ?_
        (purse 9 => fail)
        rename_i t13 P13 H13 m13 e13 h13 H14 m14
        exact ⟨⟨P13, xs ++ [.ref t13], ds ++ [_], (e5.trans e7).trans e13, pair_snoc (pmonoF (fun _ _ z => DeR.up (e7.trans e13) z) hp) (DeR.shut h13 hm12), by rw [List.length_append, hx]; rfl, m14⟩, _, _, _, rfl⟩
      · (purse 30 => fail)
        rename_i H14 m14
        exact ⟨⟨P7, xs ++ [.ref t7], ds ++ [_], e5.trans e7, pair_snoc (pmonoF (fun _ _ z => DeR.up e7 z) hp) d7, by rw [List.length_append, hx]; rfl, m14⟩, _, _, _, rfl⟩
    · rintro σ H5 ⟨⟨P5, xs, ds, e5, hp, hx, m5⟩, y1, y2, y3, rfl⟩
      have hlc5 := sqL_up hlc e5
      (purse 9 => fail)
      rename_i t6 P6 H6 m6 e6 h6 t7 P7 H7 m7 e7 h7
      refine ⟨P7, _, st, 5, rfl, by omega, by omega, m7, fun r10 H10 r100 r101 m10 => ?_⟩
      (purse 30 => fail)
      refine ⟨P7, _, st, 4, rfl, by omega, by omega, m10, fun r11 H11 r110 r111 m11 => ?_⟩
      (purse 30 => fail)
      obtain ⟨c12, hc12, hm12⟩ := c4_at r110 r111
      refine i_ixL (m11.sqL hlc5 (e6.trans e7)) hc12 ?_
      (purse 9 => fail)
      rename_i t8 P8 H8 m8 e8 h8 t9 P9 H9 m9 e9 h9 t10 P10 H10 m10 e10 h10 t11 P11 H11 m11 e11 h11 t12 P12 H12 m12 e12 h12 t13 P13 H13 m13 e13 h13 t14 P14 H14 m14 e14 h14 t15 P15 H15 m15 e15 h15 t16 P16 H16 m16 e16 h16
      have f8 := (e9.trans e10)
      refine ⟨P16, _, st, 7, rfl, by omega, by omega, m16, fun r17 H17 r170 r171 m17 => ?_⟩
      obtain ⟨v, hv, _, hm⟩ := atI_in (xs := [V.ref t6, V.ref t7, V.ref t8] ++ [V.ref t11, V.ref t12, V.ref t13, V.ref t14]) r170 r171
      have hok : ReqR K P16 v := by
        simp only [List.mem_append, List.mem_cons, List.not_mem_nil, or_false, false_or, or_assoc] at hm
        rcases hm with rfl | rfl | rfl | rfl | rfl | rfl | rfl
        · exact ⟨t6, .see (2 + f0), rfl, .tup (sqT_up h6 (e7.trans (e8.trans (e9.trans (e10.trans (e11.trans (e12.trans (e13.trans (e14.trans (e15.trans e16)))))))))) (.cons (.str _) (.cons (.int _) .nil)), trivial⟩
        · exact ⟨t7, .opn, rfl, .tup (sqT_up h7 (e8.trans (e9.trans (e10.trans (e11.trans (e12.trans (e13.trans (e14.trans (e15.trans e16))))))))) (.cons (.str _) (.cons (.str _) .nil)), trivial⟩
        · exact ⟨t8, .shut _ _ _, rfl, .tup (sqT_up h8 (e9.trans (e10.trans (e11.trans (e12.trans (e13.trans (e14.trans (e15.trans e16)))))))) (.cons (.str _) (.cons (.int _) (.cons (.int _) (.cons (.str _) .nil)))), hm12⟩
        · exact ⟨t11, .join ds, rfl, .tup (sqT_up h11 (e12.trans (e13.trans (e14.trans (e15.trans e16))))) (.cons (.str _) (.cons (.tup (sqT_up h10 (e11.trans (e12.trans (e13.trans (e14.trans (e15.trans e16)))))) (DpAll.up (e6.trans (e7.trans (e8.trans (e9.trans (e10.trans (e11.trans (e12.trans (e13.trans (e14.trans (e15.trans e16)))))))))) (des_dp hp))) .nil)), by rw [← Paired.length hp, hx]; omega, des_ok hp⟩
        · exact ⟨t12, .look, rfl, .tup (sqT_up h12 (e13.trans (e14.trans (e15.trans e16)))) (.cons (.str _) .nil), trivial⟩
        · exact ⟨t13, .see (2 + f0), rfl, .tup (sqT_up h13 (e14.trans (e15.trans e16))) (.cons (.str _) (.cons (.int _) .nil)), trivial⟩
        · exact ⟨t14, .begin, rfl, .tup (sqT_up h14 (e15.trans e16)) (.cons (.str _) .nil), trivial⟩
      have eP : Ex P0 P16 := e1.trans (e5.trans (e6.trans (e7.trans (e8.trans (e9.trans (e10.trans (e11.trans (e12.trans (e13.trans (e14.trans (e15.trans e16)))))))))))
      obtain ⟨b, qq, rfl, hd, hq⟩ := hok
      clear hm m6 m7 m8 m9 m10 m11 m12 m13 m14 m15 m16 m5 m4 m3 m2 m1 m hp
      (purse 30 => fail)
      refine i_ixL (m17.sqL h16 (Ex.refl _)) hv ?_
      (purse 30 => fail)
      have hus := hg.hu
      have hss := hg.hs
      refine i_setLv m17 (by (purse 1 => fail)) (by omega) (by rw [List.length_map]; omega) (by (purse 5 => fail)) fun H18 m18 => ?_
      (purse 30 => fail)
      obtain ⟨cv, hcv⟩ : ∃ cv, cnt[h]? = some cv := ⟨_, List.getElem?_eq_getElem (by omega)⟩
      refine i_ixL (m18.sqLp (by (purse 1 => fail))) (atI_nat (map_at hcv)) ?_
      (purse 30 => fail)
      refine i_setLv m18 (by (purse 1 => fail)) (by omega) (by rw [List.length_map]; omega) (by (purse 5 => fail)) fun H19 m19 => ?_
      rw [set_ask ask h b qq, set_cnt] at m19
      (purse 30 => fail)
      refine i_ixL (m19.sqLp (by (purse 1 => fail))) (atI_nat (map_at (set_at (by omega)))) ?_
      (purse 30 => fail)
      refine i_ixL (m19.sqLp (by (purse 1 => fail))) (atI_nat (map_at (set_at (by omega)))) ?_
      clear m18 m17
      (purse 9 => fail)
      rename_i t20 P20 H20 m20 e20 h20
      have eQ := eP.trans e20
      have hd2 := Dp.up e20 hd
      exact q P20 t20 (.ask (h : Int) (cv + 1) qq) _ _ _ eQ (.ask hcv (by omega) hq) (hg.ask eQ h (cv + 1) hd2 hq) (.tup h20 (.cons (.str _) (.cons (.int _) (.cons (.int _) (.cons hd2 .nil))))) (m20.gone (c := pt D (.lst xs)) (by (purse 1 => fail)))
def spSAns (K : PySem.W.Frag) : Sp := fun vs H Q _ => ∃ (P : Hp) (F : List Ch) (st : Addr) (g : StA) (nk : List (Key × V)) (ck : List (List Key × V)) (cnt : List Int) (ask : AskL) (n B : Nat) (b : Addr) (qq : SReq), vs = [.ref st, .ref g.d, .ref b] ∧ Dp K P (.ref b) qq.d ∧ okQ qq ∧ StG K P nk ck cnt ask n B ∧ B ≤ 40000 ∧ Mem P (draw st :: stP g nk ck cnt ask F) H ∧
  ∀ P' r aa nk' ck' H', Ex P P' → fitA aa qq → okA aa → StG K P' nk' ck' cnt ask n (B + 3) → Dp K P' (.ref r) aa.d → Mem P' (draw st :: stP g nk' ck' cnt ask F) H' → Q (.ref r) H'
theorem ok_law_answer (T : Txt K mg a c fd) : FnOk P w K mg base CX0 4 (a 18) (fd 18) ["_law_left_here", "_law_state", "_law_request"] (spSAns K) := by
  refine T.F18.ok sc_law_answer (fun vs H Q E h => ?_) (fun cdv A outer s H vs Q E hr h => ?_)
  · obtain ⟨_, _, _, _, _, _, _, _, _, _, _, _, rfl, _⟩ := h; rfl
  · obtain ⟨P0, F, st, g, nk, ck, cnt, ask, n, B, b, qq, rfl, hd, hq, hg, hB, m, q⟩ := h
    have hF := stK_fil g
    have hf := g.hf
    have G_law_version := ok_law_version (P := P) (w := w) (base := base) T
    have G_law_pick := ok_law_pick (P := P) (w := w) (base := base) T
    have G_law_content := ok_law_content (P := P) (w := w) (base := base) T
    have G_law_put := ok_law_put (P := P) (w := w) (base := base) T
    refine ⟨_, (pss_cons (ps_if (pt_cmpR op_eq (pe_call G_law_pick (hr.mono (by decide)) rfl T.m10 T.F10.kp T.b10 .nil pass0 (pa_cons (pv 0) (pa_cons pe_int pa_nil))) pe_int (nomark _)) (pss_one (ps_ret (pe_ix (ixL (K := K) rfl) (pe_lst (pa_cons (pe_tup (pa_cons pe_str pa_nil)) (pa_cons (pe_tup (pa_cons pe_str (pa_cons pe_str pa_nil))) (pa_cons (pe_tup (pa_cons pe_str (pa_cons pe_str pa_nil))) pa_nil)))) (pe_call G_law_pick (hr.mono (by decide)) rfl T.m10 T.F10.kp T.b10 .nil pass0 (pa_cons (pv 0) (pa_cons pe_int pa_nil))) (fun _ _ => rfl)))) pss_nil)
      (pss_cons (ps_if (pt_cmpR op_eq (pe_ix (ixT (K := K) rfl) (pv 2) pe_int (fun _ _ => rfl)) pe_str (nomark _)) (pss_one (ps_ret (pe_tup (pa_cons pe_str (pa_cons (pe_call G_law_put hr rfl T.m16 T.F16.kp T.b16 .nil pass0 (pa_cons (pv 0) (pa_cons (pv 1) (pa_cons (pe_ix (ixT (K := K) rfl) (pv 2) pe_int (fun _ _ => rfl)) (pa_cons (pe_ix (ixT (K := K) rfl) (pv 2) pe_int (fun _ _ => rfl)) pa_nil))))) (pa_cons (pe_call G_law_pick (hr.mono (by decide)) rfl T.m10 T.F10.kp T.b10 .nil pass0 (pa_cons (pv 0) (pa_cons pe_int pa_nil))) pa_nil)))))) pss_nil)
      (pss_cons (ps_if (pt_cmpR op_eq (pe_ix (ixT (K := K) rfl) (pv 2) pe_int (fun _ _ => rfl)) pe_str (nomark _)) (pss_cons (ps_set (i := 3) sc_law_answer.nd rfl (Or.inl rfl) (pe_lst pa_nil))
      (pss_cons (ps_for PassesOwn.never rfl (piT (K := K) rfl (pe_ix (ixT (K := K) rfl) (pv 2) pe_int (fun _ _ => rfl))) (pg_name (i := 4) sc_law_answer.nd rfl (Or.inl rfl))
      (pss_cons (ps_set (i := 5) sc_law_answer.nd rfl (Or.inl rfl) (pe_tup (pa_cons pe_str (pa_cons pe_int (pa_cons pe_str pa_nil)))))
      (pss_cons (ps_if (PW.pt (pw_and (pt_cmpR op_gt (pe_call G_law_pick (hr.mono (by decide)) rfl T.m10 T.F10.kp T.b10 .nil pass0 (pa_cons (pv 0) (pa_cons pe_int pa_nil))) pe_int (nomark _)) (pw_and1 (pt_cmpR op_eq (pe_ix (ixT (K := K) rfl) (pv 4) pe_int (fun _ _ => rfl)) pe_str (nomark _))))) (pss_one (ps_set (i := 5) sc_law_answer.nd rfl (Or.inl rfl) (pe_tup (pa_cons pe_str (pa_cons (pe_call G_law_put hr rfl T.m16 T.F16.kp T.b16 .nil pass0 (pa_cons (pv 0) (pa_cons (pv 1) (pa_cons (pe_ix (ixT (K := K) rfl) (pv 4) pe_int (fun _ _ => rfl)) (pa_cons (pe_ix (ixT (K := K) rfl) (pv 4) pe_int (fun _ _ => rfl)) pa_nil))))) pa_nil))))) (pss_one (ps_if (pt_cmpR op_eq (pe_ix (ixT (K := K) rfl) (pv 4) pe_int (fun _ _ => rfl)) pe_str (nomark _)) (pss_one (ps_set (i := 5) sc_law_answer.nd rfl (Or.inl rfl) (pe_ix (ixL (K := K) rfl) (pe_lst (pa_cons (pe_tup (pa_cons pe_str (pa_cons pe_int pa_nil))) (pa_cons (pe_tup (pa_cons pe_str (pa_cons pe_str pa_nil))) pa_nil))) (pe_call G_law_pick (hr.mono (by decide)) rfl T.m10 T.F10.kp T.b10 .nil pass0 (pa_cons (pv 0) (pa_cons pe_int pa_nil))) (fun _ _ => rfl)))) pss_nil)))
      (pss_one (ps_expr (peM (K := K) rfl PySem.F.plainAttrs_list PySem.F.slot_list_append PySem.F.type_list_append mt_append (pv 3) (pa_cons (pv 5) pa_nil)))))))
      (pss_one (ps_ret (pe_tup (pa_cons pe_str (pa_cons (pv 3) pa_nil))))))) pss_nil)
      (pss_cons (ps_if (pt_cmpR (inQ (K := K) rfl) (pe_ix (ixT (K := K) rfl) (pv 2) pe_int (fun _ _ => rfl)) (pe_tup (pa_cons pe_str (pa_cons pe_str pa_nil))) (by with_unfolding_all rfl)) (pss_one (ps_ret (pe_ix (ixL (K := K) rfl) (pe_lst (pa_cons (pe_tup (pa_cons pe_str pa_nil)) (pa_cons (pe_tup (pa_cons pe_str pa_nil)) pa_nil))) (pe_callTy intB (by rfl) T.g_int (by decide +kernel) (pa_cons (pe_cmpR op_eq (pe_ix (ixT (K := K) rfl) (pv 2) pe_int (fun _ _ => rfl)) pe_str (nomark _)) pa_nil)) (fun _ _ => rfl)))) pss_nil)
      (pss_cons (ps_set (i := 6) sc_law_answer.nd rfl (Or.inl rfl) (pe_ix (ixT (K := K) rfl) (pv 2) pe_int (fun _ _ => rfl)))
      (pss_cons (ps_if (pt_cmpR op_eq (pe_ix (ixT (K := K) rfl) (pv 2) pe_int (fun _ _ => rfl)) pe_str (nomark _)) (pss_cons (ps_set (i := 6) sc_law_answer.nd rfl (Or.inl rfl) (pe_op op_add pe_int (pe_call G_law_pick (hr.mono (by decide)) rfl T.m10 T.F10.kp T.b10 .nil pass0 (pa_cons (pv 0) (pa_cons (pe_dget (hu_of hr) (pv 1) pe_str (fun _ _ => rfl)) pa_nil)))))
      (pss_one (ps_if (pt_cmpR op_eq (pe_call G_law_pick (hr.mono (by decide)) rfl T.m10 T.F10.kp T.b10 .nil pass0 (pa_cons (pv 0) (pa_cons pe_int pa_nil))) pe_int (nomark _)) (pss_one (ps_ret (pe_tup (pa_cons pe_str (pa_cons pe_int (pa_cons (pe_lst (pa_cons pe_str (pa_cons pe_str pa_nil))) pa_nil)))))) pss_nil))) pss_nil)
      (pss_cons (ps_set (i := 7) sc_law_answer.nd rfl (Or.inl rfl) (pe_call G_law_version (hr.mono (by decide)) rfl T.m14 T.F14.kp T.b14 .nil pass0 (pa_cons (pv 0) (pa_cons (pv 1) (pa_cons (pv 6) pa_nil)))))
      (pss_one (ps_ret (pe_tup (pa_cons pe_str (pa_cons (pv 6) (pa_cons (pv 7) (pa_cons (pe_call G_law_content (hr.mono (by decide)) rfl T.m15 T.F15.kp T.b15 .nil pass0 (pa_cons (pv 0) (pa_cons (pv 1) (pa_cons (pv 6) (pa_cons (pv 7) pa_nil))))) (pa_cons (pe_call G_law_pick (hr.mono (by decide)) rfl T.m10 T.F10.kp T.b10 .nil pass0 (pa_cons (pv 0) (pa_cons pe_int pa_nil))) pa_nil))))))))))))))), ?_⟩
    (purse 30 => fail)
    refine ⟨P0, _, st, 9, rfl, by omega, by omega, m, fun r1 H1 r10 r11 m1 => ?_⟩
    (purse 30 => fail)
    (purse 25 => fail) <;> intro hc
    · (purse 9 => fail)
      rename_i t1 P1 H2 m2 e1 h1 t2 P2 H3 m3 e2 h2 t3 P3 H4 m4 e3 h3 t4 P4 H5 m5 e4 h4
      refine ⟨P4, _, st, 3, rfl, by omega, by omega, m5, fun r6 H6 r60 r61 m6 => ?_⟩
      (purse 30 => fail)
      obtain ⟨v, hv, _, hm⟩ := atI_in (xs := [V.ref t1, V.ref t2, V.ref t3]) r60 r61
      refine i_ixL (m6.sqL h4 (Ex.refl _)) hv ?_
      have eP : Ex P0 P4 := e1.trans (e2.trans (e3.trans e4))
      simp only [List.mem_cons, List.not_mem_nil, or_false] at hm
      rcases hm with rfl | rfl | rfl
      · exact q P4 t1 .ended _ _ _ eP trivial trivial (hg.up eP (by omega)) (.tup (sqT_up h1 (e2.trans (e3.trans e4))) (.cons (.str _) .nil)) m6
      · exact q P4 t2 (.refused "gone") _ _ _ eP trivial (by decide +kernel : PyData.strOk "gone" = true) (hg.up eP (by omega)) (.tup (sqT_up h2 (e3.trans e4)) (.cons (.str _) (.cons (.str _) .nil))) m6
      · exact q P4 t3 (.refused "stale") _ _ _ eP trivial (by decide +kernel : PyData.strOk "stale" = true) (hg.up eP (by omega)) (.tup (sqT_up h3 e4) (.cons (.str _) (.cons (.str _) .nil))) m6
    · cases qq with
      | shut f v c =>
        have hS := shutQ_inv hd
        (purse 30 => fail)
        refine ⟨P0, F, st, g, nk, ck, cnt, ask, f, c, n, B, rfl, hq, hg, by omega, m1, fun P2 w2 nk2 ck2 H2 e2 hg2 m2 => ?_⟩
        (purse 30 => fail)
        refine ⟨P2, _, st, 9, rfl, by omega, by omega, m2, fun r3 H3 r30 r31 m3 => ?_⟩
        (purse 9 => fail)
        rename_i t4 P4 H4 m4 e4 h4
        exact q P4 t4 (.shut w2 r3) _ _ _ (e2.trans e4) trivial trivial (hg2.up e4 (by omega)) (.tup h4 (.cons (.str _) (.cons (.int _) (.cons (.int _) .nil)))) m4
      | join ds =>
        obtain ⟨T1, xs, hS, hT, hD⟩ := join_inv hd
        have hxl : xs.length = ds.length := by rw [dpLen hD, List.length_map]
        have hq1 := hq.1
        (purse 30 => fail)
        (purse 27 => fail)
        rename_i D H2 m2
        (purse 30 => fail)
        refine l_tup (K := K) (xs := xs) (m2.sqT hT (Ex.refl _)) (fun i σ H' => ∃ P' vs ps nk' ck' y4 y5, Ex P0 P' ∧ DpAll K P' vs (ps.map SPart.d) ∧ ps.length = i ∧ StG K P' nk' ck' cnt ask n (B + i) ∧ Mem P' (draw st :: pt D (.lst vs) :: stP g nk' ck' cnt ask F) H' ∧ σ = [some (.ref st), some (.ref g.d), some (.ref b), some (.ref D), y4, y5, none, none]) ⟨P0, [], [], nk, ck, none, none, Ex.refl _, .nil, rfl, hg, m2.sel (c := draw st) (by (purse 1 => fail)), rfl⟩ (fun i σ H' _ ⟨P', _, _, _, _, _, _, e, _, _, _, m', _⟩ => m'.sqT hT e) ?_ ?_
        · rintro i x σ H3 hxi ⟨P3, vs, ps, nk3, ck3, y4, y5, e3, hv3, hp3, hg3, m3, rfl⟩
          have hil := (List.getElem?_eq_some_iff.mp hxi).1
          have hvl : vs.length = i := by rw [dpLen hv3, List.length_map, hp3]
          obtain ⟨dd, hdd, dx⟩ := dpAt hD hxi
          rw [List.getElem?_map] at hdd
          obtain ⟨d1, hd1, rfl⟩ := Option.map_eq_some_iff.mp hdd
          have hdm := List.mem_of_getElem? hd1
          have hok := hq.2 d1 hdm
          cases d1 with
          | make c =>
            obtain ⟨r, rfl, hr⟩ := makeD_inv dx
            replace hr := sqT_up hr e3
            (purse 9 => fail)
            rename_i t4 P4 H4 m4 e4 h4
            replace hr := sqT_up hr e4
            refine ⟨P4, _, st, 4, rfl, by omega, by omega, m4, fun r5 H5 r50 r51 m5 => ?_⟩
            (purse 30 => fail)
            (purse 25 => fail) <;> intro hc
            · (purse 9 => fail)
              rename_i t6 P6 H6 m6 e6 h6 t7 P7 H7 m7 e7 h7 t8 P8 H8 m8 e8 h8
              refine ⟨P8, _, st, 2, rfl, by omega, by omega, m8, fun r9 H9 r90 r91 m9 => ?_⟩
              (purse 30 => fail)
              obtain ⟨x, hx, _, hm⟩ := atI_in (xs := [V.ref t6, V.ref t7]) r90 r91
              refine i_ixL (m9.sqL h8 (Ex.refl _)) hx ?_
              have eP : Ex P3 P8 := e4.trans (e6.trans (e7.trans e8))
              have hpt : ∃ p : SPart, Dp K P8 x p.d := by
                simp only [List.mem_cons, List.not_mem_nil, or_false] at hm
                rcases hm with rfl | rfl
                · exact ⟨.made, .tup (sqT_up h6 (e7.trans e8)) (.cons (.str _) (.cons (.int _) .nil))⟩
                · exact ⟨.there, .tup (sqT_up h7 e8) (.cons (.str _) (.cons (.str _) .nil))⟩
              obtain ⟨p, hpd⟩ := hpt
              clear m8 m7 m6 m5 m4 m3 hm
              (purse 30 => fail)
              rename_i H10 m10
              exact ⟨P8, vs ++ [x], ps ++ [p], nk3, ck3, _, _, e3.trans eP, by rw [List.map_append]; exact dpSnoc (DpAll.up eP hv3) hpd, by rw [List.length_append, hp3]; rfl, hg3.up eP (by omega), m10, rfl⟩
            · (purse 9 => fail)
              rename_i t6 P6 H6 m6 e6 h6 t7 P7 H7 m7 e7 h7 t8 P8 H8 m8 e8 h8
              refine ⟨P8, _, st, 2, rfl, by omega, by omega, m8, fun r9 H9 r90 r91 m9 => ?_⟩
              (purse 30 => fail)
              obtain ⟨x, hx, _, hm⟩ := atI_in (xs := [V.ref t6, V.ref t7]) r90 r91
              refine i_ixL (m9.sqL h8 (Ex.refl _)) hx ?_
              have eP : Ex P3 P8 := e4.trans (e6.trans (e7.trans e8))
              have hpt : ∃ p : SPart, Dp K P8 x p.d := by
                simp only [List.mem_cons, List.not_mem_nil, or_false] at hm
                rcases hm with rfl | rfl
                · exact ⟨.made, .tup (sqT_up h6 (e7.trans e8)) (.cons (.str _) (.cons (.int _) .nil))⟩
                · exact ⟨.there, .tup (sqT_up h7 e8) (.cons (.str _) (.cons (.str _) .nil))⟩
              obtain ⟨p, hpd⟩ := hpt
              clear m8 m7 m6 m5 m4 m3 hm
              (purse 30 => fail)
              rename_i H10 m10
              exact ⟨P8, vs ++ [x], ps ++ [p], nk3, ck3, _, _, e3.trans eP, by rw [List.map_append]; exact dpSnoc (DpAll.up eP hv3) hpd, by rw [List.length_append, hp3]; rfl, hg3.up eP (by omega), m10, rfl⟩
          | shut f v c =>
            obtain ⟨r, rfl, hr⟩ := shutD_inv dx
            replace hr := sqT_up hr e3
            (purse 9 => fail)
            rename_i t4 P4 H4 m4 e4 h4
            replace hr := sqT_up hr e4
            refine ⟨P4, _, st, 4, rfl, by omega, by omega, m4, fun r5 H5 r50 r51 m5 => ?_⟩
            (purse 30 => fail)
            (purse 25 => fail) <;> intro hc
            · (purse 30 => fail)
              refine ⟨P4, pt D (.lst vs) :: F, st, g, nk3, ck3, cnt, ask, f, c, n, B + i, rfl, hok, hg3.up e4 (Nat.le_refl _), by omega, m5.pr (by (purse 23 => fail)), fun P6 w6 nk6 ck6 H6 e6 hg6 m6 => ?_⟩
              replace m6 : Mem P6 (draw st :: pt D (.lst vs) :: stP g nk6 ck6 cnt ask F) H6 := m6.pr (by (purse 23 => fail))
              (purse 30 => fail)
              rename_i t7 P7 H7 m7 e7 h7 H8 m8
              have eP : Ex P3 P7 := e4.trans (e6.trans e7)
              exact ⟨P7, vs ++ [.ref t7], ps ++ [.put w6], nk6, ck6, _, _, e3.trans eP, by rw [List.map_append]; exact dpSnoc (DpAll.up eP hv3) (.tup h7 (.cons (.str _) (.cons (.int _) .nil))), by rw [List.length_append, hp3]; rfl, hg6.up e7 (by omega), m8, rfl⟩
            · (purse 30 => fail)
              rename_i H8 m8
              exact ⟨P4, vs ++ [.ref t4], ps ++ [.clash], nk3, ck3, _, _, e3.trans e4, by rw [List.map_append]; exact dpSnoc (DpAll.up e4 hv3) (.tup h4 (.cons (.str _) (.cons (.int _) (.cons (.str _) .nil)))), by rw [List.length_append, hp3]; rfl, hg3.up e4 (by omega), m8, rfl⟩
        · rintro σ H3 ⟨P3, vs, ps, nk3, ck3, y4, y5, e3, hv3, hp3, hg3, m3, rfl⟩
          obtain ⟨mF, eF⟩ := (m3.sel (c := pt D (.lst vs)) (by (purse 1 => fail))).freeze
          have hE : SqL K (upd P3 D (.lst vs)) D vs := SqL.of upd_same
          generalize upd P3 D (.lst vs) = P4 at mF eF hE
          clear m3 m2
          (purse 30 => fail)
          rename_i t5 P5 H5 m5 e5 h5
          have eP : Ex P0 P5 := e3.trans (eF.trans e5)
          exact q P5 t5 (.joined ps) _ _ _ eP trivial (by show ps.length ≤ 3; omega) (hg3.up (eF.trans e5) (by omega)) (.tup h5 (.cons (.str _) (.cons (.lst (sqL_up hE e5) (DpAll.up (eF.trans e5) hv3)) .nil))) m5
      | see f => 
        have hS := see_inv hd
        (purse 30 => fail)
        rename_i t7 P7 H7 m7 e7 h7 z7
        refine ⟨P7, F, st, g, nk, ck, cnt, ask, f, rfl, hg.now, m7, fun w2 H2 m2 => ?_⟩
        (purse 30 => fail)
        refine ⟨P7, F, st, g, nk, ck, cnt, ask, f, w2, rfl, hg.con, m2, fun P3 c3 H3 e3 hc3 m3 => ?_⟩
        replace e3 := e7.trans e3
        (purse 30 => fail)
        refine ⟨P3, _, st, 9, rfl, by omega, by omega, m3, fun r4 H4 r40 r41 m4 => ?_⟩
        (purse 9 => fail)
        rename_i t5 P5 H5 m5 e5 h5
        exact q P5 t5 (.file f w2 c3 r4) _ _ _ (e3.trans e5) trivial hc3 (hg.up (e3.trans e5) (by omega)) (.tup h5 (.cons (.str _) (.cons (.int _) (.cons (.int _) (.cons (.str _) (.cons (.int _) .nil)))))) m5
      | opn =>
        have hS := opn_inv hd
        (purse 30 => fail)
        rename_i t9 P9 H9 m9 e9 h9 z9
        refine ⟨P9, _, st, g.f, rfl, by omega, by omega, m9, fun f1 H6 f10 f11 m6 => ?_⟩
        (purse 30 => fail)
        refine ⟨P9, _, st, 4, rfl, by omega, by omega, m6, fun r7 H7 r70 r71 m7 => ?_⟩
        (purse 30 => fail)
        (purse 25 => fail) <;> intro hc2
        · (purse 9 => fail)
          rename_i t4 P4 H4 m4 e4 h4 t5 P5 H5 m5 e5 h5
          replace e4 := e9.trans e4
          exact q P5 t5 .folder _ _ _ (e4.trans e5) trivial trivial (hg.up (e4.trans e5) (by omega)) (.tup h5 (.cons (.str _) (.cons (.int _) (.cons (.lst (sqL_up h4 e5) (.cons (.str _) (.cons (.str _) .nil))) .nil)))) m5
        · (purse 30 => fail)
          refine ⟨P9, F, st, g, nk, ck, cnt, ask, 2 + f1, rfl, hg.now, m7, fun w2 H2 m2 => ?_⟩
          (purse 30 => fail)
          refine ⟨P9, F, st, g, nk, ck, cnt, ask, 2 + f1, w2, rfl, hg.con, m2, fun P3 c3 H3 e3 hc3 m3 => ?_⟩
          replace e3 := e9.trans e3
          (purse 30 => fail)
          refine ⟨P3, _, st, 9, rfl, by omega, by omega, m3, fun r4 H4 r40 r41 m4 => ?_⟩
          (purse 9 => fail)
          rename_i t5 P5 H5 m5 e5 h5
          exact q P5 t5 (.file (2 + f1) w2 c3 r4) _ _ _ (e3.trans e5) trivial hc3 (hg.up (e3.trans e5) (by omega)) (.tup h5 (.cons (.str _) (.cons (.int _) (.cons (.int _) (.cons (.str _) (.cons (.int _) .nil)))))) m5
      | look =>
        have hS := look_inv hd
        (purse 9 => fail)
        rename_i t2 P2 H2 m2 e2 h2 t3 P3 H3 m3 e3 h3 t4 P4 H4 m4 e4 h4 t5 P5 H5 m5 e5 h5
        have eP : Ex P0 P5 := e2.trans (e3.trans (e4.trans e5))
        exact q P5 t3 .ok _ _ _ eP trivial trivial (hg.up eP (by omega)) (.tup (sqT_up h3 (e4.trans e5)) (.cons (.str _) .nil)) m5
      | begin =>
        have hS := begin_inv hd
        (purse 9 => fail)
        rename_i t2 P2 H2 m2 e2 h2 t3 P3 H3 m3 e3 h3 t4 P4 H4 m4 e4 h4 t5 P5 H5 m5 e5 h5
        have eP : Ex P0 P5 := e2.trans (e3.trans (e4.trans e5))
        exact q P5 t4 .begun _ _ _ eP trivial trivial (hg.up eP (by omega)) (.tup (sqT_up h4 e5) (.cons (.str _) .nil)) m5

def spSRow (K : PySem.W.Frag) : Sp := fun vs H Q _ => ∃ (P : Hp) (F : List Ch) (st : Addr) (g : StA) (nk : List (Key × V)) (ck : List (List Key × V)) (cnt : List Int) (ask : AskL) (n B : Nat), vs = [.ref st, .ref g.d] ∧ 1 ≤ n ∧ n ≤ 10 ∧ StG K P nk ck cnt ask n B ∧ B ≤ 40000 ∧ Mem P (draw st :: stP g nk ck cnt ask F) H ∧
  ∀ P' r row nk' ck' cnt' ask' H', Ex P P' → StepR cnt ask row cnt' ask' → StG K P' nk' ck' cnt' ask' n (B + 3) → Dp K P' (.ref r) row.d → Mem P' (draw st :: stP g nk' ck' cnt' ask' F) H' → Q (.ref r) H'
theorem ok_law_row (T : Txt K mg a c fd) : FnOk P w K mg base CX0 5 (a 19) (fd 19) ["_law_left_here", "_law_state"] (spSRow K) := by
  refine T.F19.ok sc_law_row (fun vs H Q E h => ?_) (fun cdv A outer s H vs Q E hr h => ?_)
  · obtain ⟨_, _, _, _, _, _, _, _, _, _, rfl, _⟩ := h; rfl
  · obtain ⟨P0, F, st, g, nk, ck, cnt, ask, n, B, rfl, n1, n10, hg, hB, m, q⟩ := h
    have hU := stK_cnt g
    have hA := stK_ask g
    have hF := stK_fil g
    have hf := g.hf
    have hus := hg.hu
    have hss := hg.hs
    have G_law_pick := ok_law_pick (P := P) (w := w) (base := base) T
    have G_law_version := ok_law_version (P := P) (w := w) (base := base) T
    have G_law_ask := ok_law_ask (P := P) (w := w) (base := base) T
    have G_law_answer := ok_law_answer (P := P) (w := w) (base := base) T
    have G_law_content := ok_law_content (P := P) (w := w) (base := base) T
    refine ⟨_, (pss_cons (ps_set (i := 2) sc_law_row.nd rfl (Or.inl rfl) (pe_call G_law_pick (hr.mono (by decide)) rfl T.m10 T.F10.kp T.b10 .nil pass0 (pa_cons (pv 0) (pa_cons (pe_callB (lenQ (K := K) rfl) (by rfl) T.g_len (by decide +kernel) (pa_cons (pe_dget (hu_of hr) (pv 1) pe_str (fun _ _ => rfl)) pa_nil)) pa_nil))))
      (pss_cons (ps_if (pt_cmpR op_eq (pe_call G_law_pick (hr.mono (by decide)) rfl T.m10 T.F10.kp T.b10 .nil pass0 (pa_cons (pv 0) (pa_cons pe_int pa_nil))) pe_int (nomark _)) (pss_cons (ps_set (i := 3) sc_law_row.nd rfl (Or.inl rfl) (pe_op op_add pe_int (pe_call G_law_pick (hr.mono (by decide)) rfl T.m10 T.F10.kp T.b10 .nil pass0 (pa_cons (pv 0) (pa_cons (pe_dget (hu_of hr) (pv 1) pe_str (fun _ _ => rfl)) pa_nil)))))
      (pss_cons (ps_set (i := 4) sc_law_row.nd rfl (Or.inl rfl) (pe_call G_law_version (hr.mono (by decide)) rfl T.m14 T.F14.kp T.b14 .nil pass0 (pa_cons (pv 0) (pa_cons (pv 1) (pa_cons (pv 3) pa_nil)))))
      (pss_one (ps_ret (pe_tup (pa_cons pe_str (pa_cons (pv 2) (pa_cons (pv 3) (pa_cons (pv 4) (pa_cons (pe_call G_law_content (hr.mono (by decide)) rfl T.m15 T.F15.kp T.b15 .nil pass0 (pa_cons (pv 0) (pa_cons (pv 1) (pa_cons (pv 3) (pa_cons (pv 4) pa_nil))))) pa_nil)))))))))) pss_nil)
      (pss_cons (ps_if (pt_cmpR op_isN1 (pe_ix (ixL (K := K) rfl) (pe_dget (hu_of hr) (pv 1) pe_str (fun _ _ => rfl)) (pv 2) (fun _ _ => rfl)) pe_non (nomark _)) (pss_one (ps_ret (pe_call G_law_ask (hr.mono (by decide)) rfl T.m17 T.F17.kp T.b17 .nil pass0 (pa_cons (pv 0) (pa_cons (pv 1) (pa_cons (pv 2) pa_nil)))))) pss_nil)
      (pss_cons (ps_set (i := 5) sc_law_row.nd rfl (Or.inl rfl) (pe_ix (ixL (K := K) rfl) (pe_dget (hu_of hr) (pv 1) pe_str (fun _ _ => rfl)) (pv 2) (fun _ _ => rfl)))
      (pss_cons (ps_asg pe_non (pg_sub (pe_dget (hu_of hr) (pv 1) pe_str (fun _ _ => rfl)) (pv 2) set_list))
      (pss_one (ps_ret (pe_tup (pa_cons pe_str (pa_cons (pv 2) (pa_cons (pe_ix (ixL (K := K) rfl) (pe_dget (hu_of hr) (pv 1) pe_str (fun _ _ => rfl)) (pv 2) (fun _ _ => rfl)) (pa_cons (pe_call G_law_answer hr rfl T.m18 T.F18.kp T.b18 .nil pass0 (pa_cons (pv 0) (pa_cons (pv 1) (pa_cons (pv 5) pa_nil)))) pa_nil)))))))))))), ?_⟩
    (purse 30 => fail)
    refine ⟨P0, _, st, ((cnt.map V.int).length : Int), rfl, by rw [List.length_map]; omega, by rw [List.length_map]; omega, m, fun h0 H1 h1 h2 m1 => ?_⟩
    rw [List.length_map] at h2
    obtain ⟨h, rfl⟩ : ∃ h : Nat, h0 = (h : Int) := ⟨h0.toNat, by omega⟩
    (purse 30 => fail)
    refine ⟨P0, _, st, 5, rfl, by omega, by omega, m1, fun r2 H2 r20 r21 m2 => ?_⟩
    (purse 30 => fail)
    (purse 25 => fail) <;> intro hc
    · (purse 30 => fail)
      refine ⟨P0, _, st, g.f, rfl, by omega, by omega, m2, fun f1 H3 f10 f11 m3 => ?_⟩
      (purse 30 => fail)
      refine ⟨P0, F, st, g, nk, ck, cnt, ask, 2 + f1, rfl, hg.now, m3, fun w2 H2 m2 => ?_⟩
      (purse 30 => fail)
      refine ⟨P0, F, st, g, nk, ck, cnt, ask, 2 + f1, w2, rfl, hg.con, m2, fun P3 c3 H3 e3 hc3 m3 => ?_⟩
      (purse 30 => fail)
      rename_i t5 P5 H5 m5 e5 h5
      have eP := e3.trans e5
      exact q P5 t5 (.saw (h : Int) (2 + f1) w2 c3) _ _ _ _ _ eP (.saw hc3) (hg.up eP (by omega)) (.tup h5 (.cons (.str _) (.cons (.int _) (.cons (.int _) (.cons (.int _) (.cons (.str _) .nil)))))) m5
    · (purse 30 => fail)
      obtain ⟨av, hav⟩ : ∃ av, ask[h]? = some av := ⟨_, List.getElem?_eq_getElem (by omega)⟩
      refine i_ixL (m2.sqLp (by (purse 1 => fail))) (atI_nat (map_at hav)) ?_
      cases av with
      | none =>
        (purse 30 => fail)
        refine i_dec (fun _ => ?_) (fun z => absurd rfl z)
        (purse 30 => fail)
        refine ⟨P0, F, st, g, nk, ck, cnt, ask, h, n, B, rfl, by omega, hg, m2, fun P3 r3 row cnt3 ask3 H3 e3 hs3 hg3 hd3 m3 => ?_⟩
        (purse 30 => fail)
        exact q P3 r3 row _ _ _ _ _ e3 hs3 (hg3.up (Ex.refl _) (by omega)) hd3 m3
      | some p =>
        obtain ⟨b, qq⟩ := p
        have hpm := hg.asks (b, qq) (List.mem_of_getElem? hav)
        obtain ⟨cv, hcv⟩ : ∃ cv, cnt[h]? = some cv := ⟨_, List.getElem?_eq_getElem (by omega)⟩
        (purse 30 => fail)
        refine i_dec (fun z => absurd z (by intro z; cases z)) (fun _ => ?_)
        (purse 30 => fail)
        refine i_ixL (m2.sqLp (by (purse 1 => fail))) (atI_nat (map_at hav)) ?_
        (purse 30 => fail)
        refine i_setLv m2 (by (purse 1 => fail)) (by omega) (by rw [List.length_map]; omega) (by (purse 5 => fail)) fun H3 m3 => ?_
        rw [set_none ask h] at m3
        clear m2 m1 m
        (purse 30 => fail)
        refine i_ixL (m3.sqLp (by (purse 1 => fail))) (atI_nat (map_at hcv)) ?_
        (purse 30 => fail)
        refine ⟨P0, F, st, g, nk, ck, cnt, ask.set h none, n, B, b, qq, rfl, hpm.1, hpm.2, hg.told (Ex.refl _) h, hB, m3, fun P4 r4 aa nk4 ck4 H4 e4 hfa hoa hg4 hd4 m4 => ?_⟩
        (purse 30 => fail)
        rename_i t5 P5 H5 m5 e5 h5
        exact q P5 t5 (.told (h : Int) cv aa) _ _ _ _ _ (e4.trans e5) (.told hcv hav hfa hoa) (hg4.up e5 (by omega)) (.tup h5 (.cons (.str _) (.cons (.int _) (.cons (.int _) (.cons (Dp.up e5 hd4) .nil))))) m5

/-! ### the law -/
def spLaw (K : PySem.W.Frag) : Sp := fun vs H Q _ => ∃ (a : Addr) (ns : List Int), vs = [.ref a] ∧ SqL K H a (ns.map V.int) ∧ ns.length ≤ 63 ∧ ∀ H', Q (.bl true) H'
theorem cutV_ints (xs : List Int) (lo hi : Option Int) : ∃ ys : List Int, cutV (xs.map V.int) lo hi = ys.map V.int := by
  unfold cutV
  exact ⟨_, by rw [← List.map_drop, ← List.map_take]⟩
theorem cutV_len (xs : List V) {lo hi : Nat} (h : lo ≤ hi) : (cutV xs (some (lo : Int)) (some (hi : Int))).length ≤ hi - lo := by
  unfold cutV
  rw [List.length_take, show HT.sIx xs.length 0 (some (lo : Int)) = min lo xs.length from HT.sIx_nat _ _ lo, show HT.sIx xs.length xs.length (some (hi : Int)) = min hi xs.length from HT.sIx_nat _ _ hi]
  omega
theorem sto_good {rows : List SRow} {cnt : List Int} {ask : AskL} (h : StoOk rows cnt ask) (hl : rows.length ≤ 1000) : GoodS rows := ⟨h.wf, h.ok, hl⟩
theorem good_wfj {rows : List SRow} (g : GoodS rows) : WfJ rows := ⟨g.wf, fun h n ds hm => by have := (g.ok _ hm).1; omega, g.l⟩
theorem ok_law (T : Txt K mg a c fd) : FnOk P w K mg base CX0 9 (a 20) (fd 20) ["_law_script"] (spLaw K) := by
  refine T.F20.ok sc_law (fun vs H Q E h => ?_) (fun cdv A outer s H vs Q E hr h => ?_)
  · obtain ⟨_, _, rfl, _⟩ := h; rfl
  · obtain ⟨ad, ns, rfl, hS, hl, q⟩ := h
    have m : Mem H [] H := Mem.all
    have G_law_left := ok_law_left (P := P) (w := w) (base := base) T
    have G_law_cell_at := ok_law_cell_at (P := P) (w := w) (base := base) T
    have G_law_pick := ok_law_pick (P := P) (w := w) (base := base) T
    have G_law_own := ok_law_own (P := P) (w := w) (base := base) T
    have G_law_fault := ok_law_fault (P := P) (w := w) (base := base) T
    have G_story_fault := ok_story_fault (P := P) (w := w) (base := base) T
    have G_law_row := ok_law_row (P := P) (w := w) (base := base) T
    refine ⟨_, (pss_cons (ps_set (i := 1) sc_law.nd rfl (Or.inl rfl) (pe_call G_law_left (hr.mono (by decide)) rfl T.m9 T.F9.kp T.b9 .nil pass0 (pa_cons (pe_call G_law_cell_at (hr.mono (by decide)) rfl T.m7 T.F7.kp T.b7 .nil pass0 (pa_cons (pv 0) (pa_cons pe_int pa_nil))) (pa_cons pe_int pa_nil))))
      (pss_cons (ps_set (i := 2) sc_law.nd rfl (Or.inl rfl) (pe_op op_add (pe_op op_add pe_int (pe_call G_law_pick (hr.mono (by decide)) rfl T.m10 T.F10.kp T.b10 .nil pass0 (pa_cons (pv 1) (pa_cons pe_int pa_nil)))) (pe_op op_mul pe_int (pe_callTy intB (by rfl) T.g_int (by decide +kernel) (pa_cons (pe_cmpR op_eq (pe_call G_law_pick (hr.mono (by decide)) rfl T.m10 T.F10.kp T.b10 .nil pass0 (pa_cons (pv 1) (pa_cons pe_int pa_nil))) pe_int (nomark _)) pa_nil)))))
      (pss_cons (ps_set (i := 3) sc_law.nd rfl (Or.inl rfl) (pe_disp (pps_cons pe_str pe_dnewK (pps_cons pe_str pe_dnewT (pps_cons pe_str (pe_op op_rep (pe_lst (pa_cons pe_int pa_nil)) (pv 2)) (pps_cons pe_str (pe_op op_rep (pe_lst (pa_cons pe_non pa_nil)) (pv 2)) pps_nil)))) rfl rfl (fun z => nomatch z) (by decide)))
      (pss_cons (ps_dput (hu_of hr) (pv 3) pe_str (pe_op op_add (pe_op op_add pe_int (pe_call G_law_pick (hr.mono (by decide)) rfl T.m10 T.F10.kp T.b10 .nil pass0 (pa_cons (pv 1) (pa_cons pe_int pa_nil)))) (pe_op op_mul pe_int (pe_callTy intB (by rfl) T.g_int (by decide +kernel) (pa_cons (pe_cmpR op_eq (pe_call G_law_pick (hr.mono (by decide)) rfl T.m10 T.F10.kp T.b10 .nil pass0 (pa_cons (pv 1) (pa_cons pe_int pa_nil))) pe_int (nomark _)) pa_nil)))) rfl)
      (pss_cons (ps_dput (hu_of hr) (pv 3) pe_str (pe_ix (ixL (K := K) rfl) (pe_lst (pa_cons pe_int (pa_cons pe_int (pa_cons pe_int (pa_cons pe_int (pa_cons pe_int pa_nil)))))) (pe_call G_law_pick (hr.mono (by decide)) rfl T.m10 T.F10.kp T.b10 .nil pass0 (pa_cons (pv 1) (pa_cons pe_int pa_nil))) (fun _ _ => rfl)) rfl)
      (pss_cons (ps_set (i := 4) sc_law.nd rfl (Or.inl rfl) (pe_lst pa_nil))
      (pss_cons (ps_for PassesOwn.never rfl (piE (K := K) rfl (by rfl) T.g_enumerate (pa_cons (pe_slice (slL (K := K) rfl) (pv 0) (po_some pe_int) (po_some pe_int)) pa_nil)) (pgT (K := K) (n := 2) rfl rfl (pgs_cons (pg_name (i := 5) sc_law.nd rfl (Or.inl rfl)) (pgs_cons (pg_name (i := 6) sc_law.nd rfl (Or.inl rfl)) pgs_nil)))
      (pss_cons (ps_set (i := 1) sc_law.nd rfl (Or.inl rfl) (pe_call G_law_left (hr.mono (by decide)) rfl T.m9 T.F9.kp T.b9 .nil pass0 (pa_cons (pv 6) (pa_cons (pe_op op_add (pv 5) pe_int) pa_nil))))
      (pss_one (ps_for PassesOwn.never rfl (pi_range1 rfl T.g_range (pa_cons (pe_op op_add pe_int (pe_call G_law_pick (hr.mono (by decide)) rfl T.m10 T.F10.kp T.b10 .nil pass0 (pa_cons (pv 1) (pa_cons pe_int pa_nil)))) pa_nil)) (pg_name (i := 7) sc_law.nd rfl (Or.inl rfl))
      (pss_one (ps_expr (peM (K := K) rfl PySem.F.plainAttrs_list PySem.F.slot_list_append PySem.F.type_list_append mt_append (pv 4) (pa_cons (pe_call G_law_row (hr.mono (by decide)) rfl T.m19 T.F19.kp T.b19 .nil pass0 (pa_cons (pv 1) (pa_cons (pv 3) pa_nil))) pa_nil))))))))
      (pss_cons (ps_for PassesOwn.never rfl (piL (K := K) rfl (pe_lst (pa_cons (pv 4) (pa_cons (pe_slice (slL (K := K) rfl) (pv 4) po_none (po_some (pe_op op_fdivW (pe_callB (lenQ (K := K) rfl) (by rfl) T.g_len (by decide +kernel) (pa_cons (pv 4) pa_nil)) pe_int))) (pa_cons (pe_slice (slL (K := K) rfl) (pv 4) po_none (po_some pe_int)) pa_nil))))) (pg_name (i := 8) sc_law.nd rfl (Or.inl rfl))
      (pss_cons (ps_set (i := 9) sc_law.nd rfl (Or.inl rfl) (pe_call G_law_own hr rfl T.m11 T.F11.kp T.b11 .nil pass0 (pa_cons (pv 8) pa_nil)))
      (pss_cons (ps_set (i := 10) sc_law.nd rfl (Or.inl rfl) (pe_call G_law_fault (hr.mono (by decide)) rfl T.m13 T.F13.kp T.b13 .nil pass0 (pa_cons (pv 8) pa_nil)))
      (pss_one (ps_for PassesOwn.never rfl (pi_range1 rfl T.g_range (pa_cons pe_int pa_nil)) (pg_name (i := 7) sc_law.nd rfl (Or.inl rfl))
      (pss_cons (ps_set (i := 11) sc_law.nd rfl (Or.inl rfl) (pe_call G_story_fault (hr.mono (by decide)) rfl T.m6 T.F6.kp T.b6 .nil pass0 (pa_cons (pv 9) pa_nil)))
      (pss_one (ps_if (PW.pt (pw_or (pt_cmpR (neD (K := K) rfl hr.units) (pv 11) (pv 10) (nomark _)) (pw_or (PW.pt (pw_and (pt_cmpR op_notN1 (pv 10) pe_non (nomark _)) (pw_and1 (pt_not (pt_val (pe_callB (isiK (K := K) rfl) (by rfl) T.g_isinstance (by decide +kernel) (pa_cons (pv 11) (pa_cons (pe_bltn (v := .ty "tuple") (by rfl) T.g_tuple (by decide +kernel) rfl) pa_nil)))))))) (pw_or1 (pt_cmpR (neD (K := K) rfl hr.units) (pv 9) (pv 8) (nomark _)))))) (pss_one (ps_ret pe_bl)) pss_nil))))))))
      (pss_one (ps_ret pe_bl)))))))))), ?_⟩
    (purse 8 => fail)
    refine ⟨H, [], ad, ns, 0, rfl, hS, by decide, m, fun z0 => ?_⟩
    (purse 8 => fail)
    refine ⟨H, [], z0, 0, rfl, by decide, by decide, m, fun st H1 m1 => ?_⟩
    (purse 8 => fail)
    refine ⟨H, [], st, 4, rfl, by decide, by decide, m1, fun r2 H2 r20 r21 m2 => ?_⟩
    (purse 8 => fail)
    refine ⟨H, [], st, 8, rfl, by decide, by decide, m2, fun r3 H3 r30 r31 m3 => ?_⟩
    (purse 8 => fail)
    clear m m1 m2
    repeat (first | (purse 27 => fail) | (purse 6 => fail))
    rename_i d H4 m4 N H5 m5 C H6 m6 l0 H7 m7
    clear m3 m4 m5 m6
    generalize hk : (1 + r2 + 6 * if decide (r3 = 0) = true then 1 else 0 : Int) = k
    have hkb : 1 ≤ k ∧ k ≤ 10 := by
      rw [← hk]
      split <;> omega
    clear hk
    obtain ⟨n, rfl⟩ : ∃ n : Nat, k = (n : Int) := ⟨k.toNat, by omega⟩
    refine i_rep m7 (by (purse 1 => fail)) (by omega) (by omega) (by simp) ?_
    rw [show ((n : Int)).toNat = n from rfl, rep_flat]
    (purse 27 => fail)
    rename_i U H8 m8
    clear m7
    (purse 8 => fail)
    (purse 27 => fail)
    rename_i l1 H9 m9
    (purse 8 => fail)
    refine i_rep m9 (by (purse 1 => fail)) (by omega) (by omega) (by simp) ?_
    rw [show ((n : Int)).toNat = n from rfl, rep_flat]
    (purse 27 => fail)
    rename_i S H10 m10
    (purse 8 => fail)
    refine i_dispSt m10 (by (purse 5 => fail)) fun H11 m11 => ?_
    clear m8 m9 m10
    (purse 8 => fail)
    refine ⟨H, _, st, 3, rfl, by decide, by decide, m11.sel (c := draw st) (by (purse 1 => fail)), fun r12 H12 r120 r121 m12 => ?_⟩
    (purse 8 => fail)
    refine ⟨H, _, st, 8, rfl, by decide, by decide, m12, fun r13 H13 r130 r131 m13 => ?_⟩
    (purse 8 => fail)
    generalize hk : (1 + r12 + 6 * if decide (r13 = 0) = true then 1 else 0 : Int) = fz
    have hfb : 1 ≤ fz ∧ fz ≤ 9 := by
      rw [← hk]
      split <;> omega
    clear hk
    refine i_dputAt (k := Sum.inr "files") m13 (by (purse 5 => fail)) (by simp) fun H14 m14 => ?_
    rw [putFil] at m14
    (purse 8 => fail)
    (purse 26 => fail)
    rename_i lo P15 H15 m15 e15 h15
    clear m11 m12 m13 m14
    (purse 8 => fail)
    refine ⟨P15, _, st, 5, rfl, by decide, by decide, m15, fun r16 H16 r160 r161 m16 => ?_⟩
    (purse 8 => fail)
    obtain ⟨ov, hov, _, hom⟩ := atI_in (xs := [V.int 2, V.int 5, V.int 12, V.int 40, V.int 1000]) r160 r161
    refine i_ixL (m16.sqL h15 (Ex.refl _)) hov ?_
    have hoi : ∃ o : Int, ov = .int o ∧ 2 ≤ o ∧ o ≤ 1000 := by
      simp only [List.mem_cons, List.not_mem_nil, or_false] at hom
      rcases hom with rfl | rfl | rfl | rfl | rfl <;> exact ⟨_, rfl, by decide, by decide⟩
    obtain ⟨o, rfl, hob⟩ := hoi
    (purse 8 => fail)
    refine i_dputAt (k := Sum.inr "odd") m16 (by (purse 5 => fail)) (by simp) fun H17 m17 => ?_
    rw [putOdd] at m17
    clear m15 m16 hov hom
    (purse 8 => fail)
    (purse 27 => fail)
    rename_i SL H18 m18
    (purse 8 => fail)
    obtain ⟨c1, hc1⟩ := cutV_ints ns (some 1) (some 63)
    (purse 26 => fail)
    rename_i E1 P19 H19 m19 e19 h19
    rw [hc1] at h19
    have lc1 : c1.length ≤ 62 := by
      have := cutV_len (ns.map V.int) (lo := 1) (hi := 63) (by decide)
      rw [show (some ((1 : Nat) : Int)) = some 1 from rfl, show (some ((63 : Nat) : Int)) = some 63 from rfl, hc1, List.length_map] at this
      omega
    have eR1 : (List.replicate n (V.int 0)) = (List.replicate n (0 : Int)).map V.int := by simp
    have eR2 : (List.replicate n V.non) = (List.replicate n (none : Option (Addr × SReq))).map askV := by rw [List.map_replicate]; rfl
    rw [eR1, eR2] at m19
    clear m17 m18
    obtain ⟨g, rfl, rfl, rfl, rfl, rfl, rfl, rfl⟩ : ∃ g : StA, g.d = d ∧ g.N = N ∧ g.C = C ∧ g.U = U ∧ g.S = S ∧ g.f = fz ∧ g.o = o := ⟨⟨d, N, C, U, S, fz, o, hfb, hob⟩, rfl, rfl, rfl, rfl, rfl, rfl, rfl⟩
    rw [show (st4 (V.ref g.N) (V.ref g.C) (V.ref g.U) (V.ref g.S) ++ ([(Sum.inr "files", V.int g.f), (Sum.inr "odd", V.int g.o)] : List (Key × V))) = stK g from rfl] at m19
    replace m19 : Mem P19 (stP g [] [] (List.replicate n 0) (List.replicate n none) [pt SL (.lst [])]) H19 := ((m19.gone (c := draw st) (by (purse 1 => fail))).gone (c := pt l1 (.lst [V.non])) (by (purse 1 => fail)) |>.gone (c := pt l0 (.lst [V.int 0])) (by (purse 1 => fail))).pr (by (purse 23 => fail))
    have hg0 : StG K P19 [] [] (List.replicate n 0) (List.replicate n none) n 0 := ⟨(fun _ z => nomatch z), (fun _ z => nomatch z), Nat.le_refl _, Nat.le_refl _, List.length_replicate, List.length_replicate, fun p hp => by cases (List.mem_replicate.mp hp).2⟩
    have h16 : Ex H P19 := e15.trans e19
    (purse 8 => fail)
    refine l_enum (K := K) (xs := c1.map V.int) (sqL_up h19 m19.ex) (fun i σ H' => (∃ P' nk ck cnt ask rows vs, Ex P19 P' ∧ StG K P' nk ck cnt ask n (9 * i) ∧ StoOk rows cnt ask ∧ rows.length ≤ 3 * i ∧ DpAll K P' vs (rows.map SRow.d) ∧ Mem P' (stP g nk ck cnt ask [pt SL (.lst vs)]) H') ∧ ∃ x1 x5 x6 x7 x8 x9 x10 x11, σ = [some (.ref ad), x1, some (.int (n : Int)), some (.ref g.d), some (.ref SL), x5, x6, x7, x8, x9, x10, x11])
      ⟨⟨P19, [], [], _, _, [], [], Ex.refl _, hg0, StoOk.nil n, Nat.le_refl _, .nil, m19⟩, _, _, _, _, _, _, _, _, rfl⟩ (fun i σ H' _ ⟨⟨P', _, _, _, _, _, _, e, _, _, _, _, m'⟩, _⟩ => sqL_up h19 (e.trans m'.ex)) ?_ ?_
    · rintro i v σ H' T hv ⟨⟨P2, nk, ck, cnt, ask, rows, vs, e2, hg, hst, hrl, hvs, m2⟩, x1, x5, x6, x7, x8, x9, x10, x11, rfl⟩ hT
      rw [List.getElem?_map] at hv
      obtain ⟨z, hz, rfl⟩ := Option.map_eq_some_iff.mp hv
      have hi := (List.getElem?_eq_some_iff.mp hz).1
      obtain ⟨P6, m6, e6, hT6⟩ := m2.enum (K := K) hT
      (purse 8 => fail)
      refine ⟨P6, _, z, (i : Int) + 1, rfl, by omega, by omega, m6, fun st2 H7 m7 => ?_⟩
      (purse 8 => fail)
      refine ⟨P6, _, st2, 3, rfl, by decide, by decide, m7, fun r8 H8 r80 r81 m8 => ?_⟩
      (purse 8 => fail)
      clear m2 m6 m7
      refine l_range1 (by omega) (by omega) (fun j σ H' => (∃ P' nk ck cnt ask rows vs, Ex P6 P' ∧ StG K P' nk ck cnt ask n (9 * i + 3 * j) ∧ StoOk rows cnt ask ∧ rows.length ≤ 3 * i + j ∧ DpAll K P' vs (rows.map SRow.d) ∧ Mem P' (draw st2 :: stP g nk ck cnt ask [pt SL (.lst vs)]) H') ∧ ∃ x5 x6 x7 x8 x9 x10 x11, σ = [some (.ref ad), some (.ref st2), some (.int (n : Int)), some (.ref g.d), some (.ref SL), x5, x6, x7, x8, x9, x10, x11])
        ⟨⟨P6, nk, ck, cnt, ask, rows, vs, Ex.refl _, hg.up e6 (by omega), hst, by omega, DpAll.up e6 hvs, m8⟩, _, _, _, _, _, _, _, rfl⟩ ?_ ?_
      · rintro j σ H9 hj ⟨⟨P9, nk, ck, cnt, ask, rows, vs, e9, hg, hst, hrl, hvs, m9⟩, x5, x6, x7, x8, x9, x10, x11, rfl⟩
        have hvl : vs.length = rows.length := by rw [dpLen hvs, List.length_map]
        (purse 8 => fail)
        refine ⟨P9, [pt SL (.lst vs)], st2, g, nk, ck, cnt, ask, n, 9 * i + 3 * j, rfl, by omega, by omega, hg, by omega, m9, fun P10 r row nk10 ck10 cnt10 ask10 H10 e10 hs10 hg10 hd10 m10 => ?_⟩
        (purse 8 => fail)
        rename_i H11 m11
        exact ⟨⟨P10, nk10, ck10, cnt10, ask10, rows ++ [row], vs ++ [.ref r], e9.trans e10, hg10.up (Ex.refl _) (by omega), hst.step hs10, by rw [List.length_append]; show rows.length + 1 ≤ _; omega, by rw [List.map_append]; exact dpSnoc (DpAll.up e10 hvs) hd10, m11⟩, _, _, _, _, _, _, _, rfl⟩
      · rintro σ H9 ⟨⟨P9, nk, ck, cnt, ask, rows, vs, e9, hg, hst, hrl, hvs, m9⟩, x5, x6, x7, x8, x9, x10, x11, rfl⟩
        exact ⟨⟨P9, nk, ck, cnt, ask, rows, vs, e2.trans (e6.trans e9), hg.up (Ex.refl _) (by omega), hst, by omega, hvs, m9.drop⟩, _, _, _, _, _, _, _, _, rfl⟩
    · rintro σ H' ⟨⟨P2, nk, ck, cnt, ask, rows, vs, e2, hg, hst, hrl, hvs, m2⟩, x1, x5, x6, x7, x8, x9, x10, x11, rfl⟩
      rw [List.length_map] at hrl
      have hG : GoodS rows := sto_good hst (by omega)
      have hvl : vs.length = rows.length := by rw [dpLen hvs, List.length_map]
      obtain ⟨mF, eF⟩ := (m2.sel (c := pt SL (.lst vs)) (by (purse 1 => fail))).freeze
      have hE : SqL K (upd P2 SL (.lst vs)) SL vs := SqL.of upd_same
      generalize upd P2 SL (.lst vs) = P3 at mF eF hE
      replace hvs := DpAll.up eF hvs
      have mF : Mem P3 [] H' := mF.drop.drop.drop.drop.drop
      clear m2 m19 hg hst hg0
      (purse 9 => fail)
      rename_i L1 P4 H4 m4 e4 h4 L2 P5 H5 m5 e5 h5 L3 P6 H6 m6 e6 h6
      obtain ⟨k1, hk1⟩ := cut_take vs ((vs.length : Int) / 2)
      obtain ⟨k2, hk2⟩ := cut_take vs 1
      rw [hk1] at h4
      rw [hk2] at h5
      have hall : ∀ x ∈ [V.ref SL, V.ref L1, V.ref L2], ∃ L rw, x = .ref L ∧ RowsR K P6 L rw ∧ GoodS rw := by
        intro x hx
        simp only [List.mem_cons, List.not_mem_nil, or_false] at hx
        rcases hx with rfl | rfl | rfl
        · exact ⟨SL, rows, rfl, ⟨vs, sqL_up hE (e4.trans (e5.trans e6)), DpAll.up (e4.trans (e5.trans e6)) hvs⟩, hG⟩
        · exact ⟨L1, rows.take k1, rfl, ⟨vs.take k1, sqL_up h4 (e5.trans e6), DpAll.up (e4.trans (e5.trans e6)) (by rw [List.map_take]; exact dp_take k1 hvs)⟩, hG.take k1⟩
        · exact ⟨L2, rows.take k2, rfl, ⟨vs.take k2, sqL_up h5 e6, DpAll.up (e4.trans (e5.trans e6)) (by rw [List.map_take]; exact dp_take k2 hvs)⟩, hG.take k2⟩
      clear m4 m5 mF
      refine l_list (K := K) (xs := [V.ref SL, V.ref L1, V.ref L2]) (m6.sqL h6 (Ex.refl _)) (fun i σ H' => ∃ P', Ex P6 P' ∧ Mem P' [] H' ∧ ∃ x1 x5 x6 x7 x8 x9 x10 x11, σ = [some (.ref ad), x1, some (.int (n : Int)), some (.ref g.d), some (.ref SL), x5, x6, x7, x8, x9, x10, x11]) ⟨P6, Ex.refl _, m6, _, _, _, _, _, _, _, _, rfl⟩ (fun i σ H' _ ⟨P', e, m', _⟩ => m'.sqL h6 e) ?_ ?_
      · rintro i x σ H7 hx ⟨P7, e7, m7, x1, x5, x6, x7, x8, x9, x10, x11, rfl⟩
        obtain ⟨L, rw', rfl, hR, hgd⟩ := hall x (List.mem_of_getElem? hx)
        obtain ⟨ys, hL, hD⟩ := hR
        have hsh := (sh_rows hgd.ok).ok (by decide)
        have dL : Dp K P7 (.ref L) (.list (rw'.map SRow.d)) := .lst (sqL_up hL e7) (DpAll.up e7 hD)
        (purse 8 => fail)
        refine ⟨P7, [], .ref L, _, rfl, (smd_story hgd.ok hgd.l).mono (by decide), dL, m7, fun P8 H8 y e8 hy m8 => ?_⟩
        obtain ⟨hn, ys2, rfl, hL2, hD2⟩ : ∃ hn ys2, y = .ref hn ∧ SqL K P8 hn ys2 ∧ DpAll K P8 ys2 (rw'.map SRow.d) := by
          cases hy with
          | lst h1 h2 => exact ⟨_, _, rfl, h1, h2⟩
        (purse 8 => fail)
        refine ⟨P8, [], L, rw', rfl, ⟨ys, sqL_up hL (e7.trans e8), DpAll.up (e7.trans e8) hD⟩, good_wfj hgd, m8, fun P9 H9 dv e9 hdv m9 => ?_⟩
        (purse 8 => fail)
        refine l_range1 (by decide) (by decide) (fun i σ H' => ∃ P', Ex P9 P' ∧ Mem P' [] H' ∧ ∃ x7 x11, σ = [some (.ref ad), x1, some (.int (n : Int)), some (.ref g.d), some (.ref SL), x5, x6, x7, some (.ref L), some (.ref hn), some dv, x11]) ⟨P9, Ex.refl _, m9, _, _, rfl⟩ ?_ ?_
        · rintro j σ H10 hj ⟨P10, e10, m10, x7, x11, rfl⟩
          (purse 8 => fail)
          refine ⟨P10, [], hn, rw', rfl, ⟨ys2, sqL_up hL2 (e9.trans e10), DpAll.up (e9.trans e10) hD2⟩, good_wfj hgd, m10, fun P11 H11 fv e11 hfv m11 => ?_⟩
          have hdv2 := Dp.up (e10.trans e11) hdv
          have hy2 := Dp.up (e9.trans (e10.trans e11)) hy
          have dL2 := Dp.up (e8.trans (e9.trans (e10.trans e11))) dL
          have hft : SeqAt.shaped (ftD (faultS rw')) = true ∧ PyData.eqv (ftD (faultS rw')) (ftD (faultS rw')) = true := by
            have h : Sh 1 (ftD (faultS rw')) := by
              cases faultS rw' with
              | none => exact Sh.non.mono (by decide)
              | some p =>
                obtain ⟨i1, k1⟩ := p
                refine Sh.tup fun x hx => ?_
                simp only [List.mem_cons, List.not_mem_nil, or_false] at hx
                rcases hx with rfl | rfl <;> exact Sh.int _
            exact ⟨h.ok (by decide), eqv_self h⟩
          (purse 8 => fail)
          refine i_neDt (d := ftD (faultS rw')) (e := ftD (faultS rw')) (Dp.up m11.ex hfv) (Dp.up m11.ex hdv2) hft.1 hft.1 ?_
          rw [hft.2]
          (purse 8 => fail)
          cases hfs : faultS rw' with
          | none =>
            rw [hfs] at hdv2 hfv
            cases hdv2
            cases hfv
            refine i_ndec (fun z => absurd rfl z) (fun _ => ?_)
            (purse 8 => fail)
            refine i_neDt (d := .list (rw'.map SRow.d)) (e := .list (rw'.map SRow.d)) (Dp.up m11.ex hy2) (Dp.up m11.ex dL2) hsh hsh ?_
            rw [eqv_self (sh_rows hgd.ok)]
            (purse 8 => fail)
            exact ⟨P11, e10.trans e11, m11, _, _, rfl⟩
          | some p =>
            obtain ⟨i1, k1⟩ := p
            rw [hfs] at hdv2 hfv
            obtain ⟨t1, xs1, rfl, ht1⟩ : ∃ t1 xs1, fv = .ref t1 ∧ SqT K P11 t1 xs1 := by
              cases hfv with
              | tup h1 h2 => exact ⟨_, _, rfl, h1⟩
            obtain ⟨t2, rfl⟩ : ∃ t2, dv = .ref t2 := by
              cases hdv2 with
              | tup h1 h2 => exact ⟨_, rfl⟩
            refine i_ndec (fun _ => ?_) (fun z => by cases z)
            (purse 8 => fail)
            refine i_neDt (d := .list (rw'.map SRow.d)) (e := .list (rw'.map SRow.d)) (Dp.up m11.ex hy2) (Dp.up m11.ex dL2) hsh hsh ?_
            rw [eqv_self (sh_rows hgd.ok)]
            (purse 8 => fail)
            exact ⟨P11, e10.trans e11, m11, _, _, rfl⟩
        · rintro σ H10 ⟨P10, e10, m10, x7, x11, rfl⟩
          exact ⟨P10, e7.trans (e8.trans (e9.trans e10)), m10, _, _, _, _, _, _, _, _, rfl⟩
      · rintro σ H7 ⟨P7, e7, m7, x1, x5, x6, x7, x8, x9, x10, x11, rfl⟩
        (purse 8 => fail)
        exact q _

end
theorem all_mk {l : PySem.W.OpenLaw} {w : World} {K : PySem.W.Frag} {h : Heap} {mg : Str → Option Value} {fa f0 f1 f2 f3 f4 f5 f6 f7 f8 f9 f10 f11 f12 f13 f14 f15 f16 f17 f18 f19 f20 : Addr} (X : K.In h) (G : h.Ns mainGlobals mg) (hfa : mg "law" = some (.ref fa))
    {od0 an0 od1 an1 od2 an2 od3 an3 od4 an4 od5 an5 od6 an6 od7 an7 od8 an8 od9 an9 od10 an10 od11 an11 od12 an12 od13 an13 od14 an14 od15 an15 od16 an16 od17 an17 od18 an18 od19 an19 od20 an20 : Option Addr} {sl0 sl1 sl2 sl3 sl4 sl5 sl6 sl7 sl8 sl9 sl10 sl11 sl12 sl13 sl14 sl15 sl16 sl17 sl18 sl19 sl20 : Array (Option Value)} {oc0 kV0 dc0 pm0 cd0 ct0 oc1 kV1 dc1 pm1 cd1 ct1 oc2 kV2 dc2 pm2 cd2 ct2 oc3 kV3 dc3 pm3 cd3 ct3 oc4 kV4 dc4 pm4 cd4 ct4 oc5 kV5 dc5 pm5 cd5 ct5 oc6 kV6 dc6 pm6 cd6 ct6 oc7 kV7 dc7 pm7 cd7 ct7 oc8 kV8 dc8 pm8 cd8 ct8 oc9 kV9 dc9 pm9 cd9 ct9 oc10 kV10 dc10 pm10 cd10 ct10 oc11 kV11 dc11 pm11 cd11 ct11 oc12 kV12 dc12 pm12 cd12 ct12 oc13 kV13 dc13 pm13 cd13 ct13 oc14 kV14 dc14 pm14 cd14 ct14 oc15 kV15 dc15 pm15 cd15 ct15 oc16 kV16 dc16 pm16 cd16 ct16 oc17 kV17 dc17 pm17 cd17 ct17 oc18 kV18 dc18 pm18 cd18 ct18 oc19 kV19 dc19 pm19 cd19 ct19 oc20 kV20 dc20 pm20 cd20 ct20 : Value}
    (a0 : PySem.W.nsIn K mainGlobals "asks_of" = some (some (.ref f0)))
    (l0 : K.lookup f0 = some ⟨oc0, od0, .func (PySem.W.fnOf "asks_of" "asks_of" (defArgs s_asks_of) (defBody s_asks_of) (defScope s_asks_of) .none kV0 dc0 pm0 an0 cd0 ct0), sl0⟩)
    (c0 : PySem.W.codeIn K cd0 "asks_of" = true)
    (k0 : PySem.W.keepIn K (.ref f0) = true)
    (a1 : PySem.W.nsIn K mainGlobals "joined_puts" = some (some (.ref f1)))
    (l1 : K.lookup f1 = some ⟨oc1, od1, .func (PySem.W.fnOf "joined_puts" "joined_puts" (defArgs s_joined_puts) (defBody s_joined_puts) (defScope s_joined_puts) .none kV1 dc1 pm1 an1 cd1 ct1), sl1⟩)
    (c1 : PySem.W.codeIn K cd1 "joined_puts" = true)
    (k1 : PySem.W.keepIn K (.ref f1) = true)
    (a2 : PySem.W.nsIn K mainGlobals "versions_in" = some (some (.ref f2)))
    (l2 : K.lookup f2 = some ⟨oc2, od2, .func (PySem.W.fnOf "versions_in" "versions_in" (defArgs s_versions_in) (defBody s_versions_in) (defScope s_versions_in) .none kV2 dc2 pm2 an2 cd2 ct2), sl2⟩)
    (c2 : PySem.W.codeIn K cd2 "versions_in" = true)
    (k2 : PySem.W.keepIn K (.ref f2) = true)
    (a3 : PySem.W.nsIn K mainGlobals "begin_of" = some (some (.ref f3)))
    (l3 : K.lookup f3 = some ⟨oc3, od3, .func (PySem.W.fnOf "begin_of" "begin_of" (defArgs s_begin_of) (defBody s_begin_of) (defScope s_begin_of) .none kV3 dc3 pm3 an3 cd3 ct3), sl3⟩)
    (c3 : PySem.W.codeIn K cd3 "begin_of" = true)
    (k3 : PySem.W.keepIn K (.ref f3) = true)
    (a4 : PySem.W.nsIn K mainGlobals "are_unlike" = some (some (.ref f4)))
    (l4 : K.lookup f4 = some ⟨oc4, od4, .func (PySem.W.fnOf "are_unlike" "are_unlike" (defArgs s_are_unlike) (defBody s_are_unlike) (defScope s_are_unlike) .none kV4 dc4 pm4 an4 cd4 ct4), sl4⟩)
    (c4 : PySem.W.codeIn K cd4 "are_unlike" = true)
    (k4 : PySem.W.keepIn K (.ref f4) = true)
    (a5 : PySem.W.nsIn K mainGlobals "first_against" = some (some (.ref f5)))
    (l5 : K.lookup f5 = some ⟨oc5, od5, .func (PySem.W.fnOf "first_against" "first_against" (defArgs s_first_against) (defBody s_first_against) (defScope s_first_against) .none kV5 dc5 pm5 an5 cd5 ct5), sl5⟩)
    (c5 : PySem.W.codeIn K cd5 "first_against" = true)
    (k5 : PySem.W.keepIn K (.ref f5) = true)
    (a6 : PySem.W.nsIn K mainGlobals "story_fault" = some (some (.ref f6)))
    (l6 : K.lookup f6 = some ⟨oc6, od6, .func (PySem.W.fnOf "story_fault" "story_fault" (defArgs s_story_fault) (defBody s_story_fault) (defScope s_story_fault) .none kV6 dc6 pm6 an6 cd6 ct6), sl6⟩)
    (c6 : PySem.W.codeIn K cd6 "story_fault" = true)
    (k6 : PySem.W.keepIn K (.ref f6) = true)
    (a7 : PySem.W.nsIn K mainGlobals "_law_cell_at" = some (some (.ref f7)))
    (l7 : K.lookup f7 = some ⟨oc7, od7, .func (PySem.W.fnOf "_law_cell_at" "_law_cell_at" (defArgs s_law_cell_at) (defBody s_law_cell_at) (defScope s_law_cell_at) .none kV7 dc7 pm7 an7 cd7 ct7), sl7⟩)
    (c7 : PySem.W.codeIn K cd7 "_law_cell_at" = true)
    (k7 : PySem.W.keepIn K (.ref f7) = true)
    (a8 : PySem.W.nsIn K mainGlobals "_law_mix" = some (some (.ref f8)))
    (l8 : K.lookup f8 = some ⟨oc8, od8, .func (PySem.W.fnOf "_law_mix" "_law_mix" (defArgs s_law_mix) (defBody s_law_mix) (defScope s_law_mix) .none kV8 dc8 pm8 an8 cd8 ct8), sl8⟩)
    (c8 : PySem.W.codeIn K cd8 "_law_mix" = true)
    (k8 : PySem.W.keepIn K (.ref f8) = true)
    (a9 : PySem.W.nsIn K mainGlobals "_law_left" = some (some (.ref f9)))
    (l9 : K.lookup f9 = some ⟨oc9, od9, .func (PySem.W.fnOf "_law_left" "_law_left" (defArgs s_law_left) (defBody s_law_left) (defScope s_law_left) .none kV9 dc9 pm9 an9 cd9 ct9), sl9⟩)
    (c9 : PySem.W.codeIn K cd9 "_law_left" = true)
    (k9 : PySem.W.keepIn K (.ref f9) = true)
    (a10 : PySem.W.nsIn K mainGlobals "_law_pick" = some (some (.ref f10)))
    (l10 : K.lookup f10 = some ⟨oc10, od10, .func (PySem.W.fnOf "_law_pick" "_law_pick" (defArgs s_law_pick) (defBody s_law_pick) (defScope s_law_pick) .none kV10 dc10 pm10 an10 cd10 ct10), sl10⟩)
    (c10 : PySem.W.codeIn K cd10 "_law_pick" = true)
    (k10 : PySem.W.keepIn K (.ref f10) = true)
    (a11 : PySem.W.nsIn K mainGlobals "_law_own" = some (some (.ref f11)))
    (l11 : K.lookup f11 = some ⟨oc11, od11, .func (PySem.W.fnOf "_law_own" "_law_own" (defArgs s_law_own) (defBody s_law_own) (defScope s_law_own) .none kV11 dc11 pm11 an11 cd11 ct11), sl11⟩)
    (c11 : PySem.W.codeIn K cd11 "_law_own" = true)
    (k11 : PySem.W.keepIn K (.ref f11) = true)
    (a12 : PySem.W.nsIn K mainGlobals "_law_tells" = some (some (.ref f12)))
    (l12 : K.lookup f12 = some ⟨oc12, od12, .func (PySem.W.fnOf "_law_tells" "_law_tells" (defArgs s_law_tells) (defBody s_law_tells) (defScope s_law_tells) .none kV12 dc12 pm12 an12 cd12 ct12), sl12⟩)
    (c12 : PySem.W.codeIn K cd12 "_law_tells" = true)
    (k12 : PySem.W.keepIn K (.ref f12) = true)
    (a13 : PySem.W.nsIn K mainGlobals "_law_fault" = some (some (.ref f13)))
    (l13 : K.lookup f13 = some ⟨oc13, od13, .func (PySem.W.fnOf "_law_fault" "_law_fault" (defArgs s_law_fault) (defBody s_law_fault) (defScope s_law_fault) .none kV13 dc13 pm13 an13 cd13 ct13), sl13⟩)
    (c13 : PySem.W.codeIn K cd13 "_law_fault" = true)
    (k13 : PySem.W.keepIn K (.ref f13) = true)
    (a14 : PySem.W.nsIn K mainGlobals "_law_version" = some (some (.ref f14)))
    (l14 : K.lookup f14 = some ⟨oc14, od14, .func (PySem.W.fnOf "_law_version" "_law_version" (defArgs s_law_version) (defBody s_law_version) (defScope s_law_version) .none kV14 dc14 pm14 an14 cd14 ct14), sl14⟩)
    (c14 : PySem.W.codeIn K cd14 "_law_version" = true)
    (k14 : PySem.W.keepIn K (.ref f14) = true)
    (a15 : PySem.W.nsIn K mainGlobals "_law_content" = some (some (.ref f15)))
    (l15 : K.lookup f15 = some ⟨oc15, od15, .func (PySem.W.fnOf "_law_content" "_law_content" (defArgs s_law_content) (defBody s_law_content) (defScope s_law_content) .none kV15 dc15 pm15 an15 cd15 ct15), sl15⟩)
    (c15 : PySem.W.codeIn K cd15 "_law_content" = true)
    (k15 : PySem.W.keepIn K (.ref f15) = true)
    (a16 : PySem.W.nsIn K mainGlobals "_law_put" = some (some (.ref f16)))
    (l16 : K.lookup f16 = some ⟨oc16, od16, .func (PySem.W.fnOf "_law_put" "_law_put" (defArgs s_law_put) (defBody s_law_put) (defScope s_law_put) .none kV16 dc16 pm16 an16 cd16 ct16), sl16⟩)
    (c16 : PySem.W.codeIn K cd16 "_law_put" = true)
    (k16 : PySem.W.keepIn K (.ref f16) = true)
    (a17 : PySem.W.nsIn K mainGlobals "_law_ask" = some (some (.ref f17)))
    (l17 : K.lookup f17 = some ⟨oc17, od17, .func (PySem.W.fnOf "_law_ask" "_law_ask" (defArgs s_law_ask) (defBody s_law_ask) (defScope s_law_ask) .none kV17 dc17 pm17 an17 cd17 ct17), sl17⟩)
    (c17 : PySem.W.codeIn K cd17 "_law_ask" = true)
    (k17 : PySem.W.keepIn K (.ref f17) = true)
    (a18 : PySem.W.nsIn K mainGlobals "_law_answer" = some (some (.ref f18)))
    (l18 : K.lookup f18 = some ⟨oc18, od18, .func (PySem.W.fnOf "_law_answer" "_law_answer" (defArgs s_law_answer) (defBody s_law_answer) (defScope s_law_answer) .none kV18 dc18 pm18 an18 cd18 ct18), sl18⟩)
    (c18 : PySem.W.codeIn K cd18 "_law_answer" = true)
    (k18 : PySem.W.keepIn K (.ref f18) = true)
    (a19 : PySem.W.nsIn K mainGlobals "_law_row" = some (some (.ref f19)))
    (l19 : K.lookup f19 = some ⟨oc19, od19, .func (PySem.W.fnOf "_law_row" "_law_row" (defArgs s_law_row) (defBody s_law_row) (defScope s_law_row) .none kV19 dc19 pm19 an19 cd19 ct19), sl19⟩)
    (c19 : PySem.W.codeIn K cd19 "_law_row" = true)
    (k19 : PySem.W.keepIn K (.ref f19) = true)
    (a20 : PySem.W.nsIn K mainGlobals "law" = some (some (.ref f20)))
    (l20 : K.lookup f20 = some ⟨oc20, od20, .func (PySem.W.fnOf "law" "law" (defArgs s_law) (defBody s_law) (defScope s_law) .none kV20 dc20 pm20 an20 cd20 ct20), sl20⟩)
    (c20 : PySem.W.codeIn K cd20 "law" = true)
    (k20 : PySem.W.keepIn K (.ref f20) = true)
    (z_enumerate : PySem.W.nsIn K mainGlobals "enumerate" = some none)
    (z_zip : PySem.W.nsIn K mainGlobals "zip" = some none)
    (z_range : PySem.W.nsIn K mainGlobals "range" = some none)
    (z_len : PySem.W.nsIn K mainGlobals "len" = some none)
    (z_abs : PySem.W.nsIn K mainGlobals "abs" = some none)
    (z_isinstance : PySem.W.nsIn K mainGlobals "isinstance" = some none)
    (z_list : PySem.W.nsIn K mainGlobals "list" = some none)
    (z_tuple : PySem.W.nsIn K mainGlobals "tuple" = some none)
    (z_max : PySem.W.nsIn K mainGlobals "max" = some none)
    (z_int : PySem.W.nsIn K mainGlobals "int" = some none)
    : ∃ fd : FuncData, (∀ (s : Shared) (v : Value), BindsTo s fd ⟨[v], []⟩ [("_law_script", v)]) ∧ ∀ base : Heap, K.In base → base.Ns mainGlobals mg → FnOk l.prog w K mg base CX0 9 fa fd ["_law_script"] (spLaw K) := by
  have e := hfa.symm.trans (PySem.W.mg_of X G a20)
  cases e
  have F0 := fun_mk (st := s_asks_of) l0 c0 k0
  have b0 := F0.binds (ps := ["story"]) fun _ _ _ _ _ _ us hl => match us, hl with | [_], _ => rfl
  have F1 := fun_mk (st := s_joined_puts) l1 c1 k1
  have b1 := F1.binds (ps := ["deeds", "parts"]) fun _ _ _ _ _ _ us hl => match us, hl with | [_, _], _ => rfl
  have F2 := fun_mk (st := s_versions_in) l2 c2 k2
  have b2 := F2.binds (ps := ["asks", "row"]) fun _ _ _ _ _ _ us hl => match us, hl with | [_, _], _ => rfl
  have F3 := fun_mk (st := s_begin_of) l3 c3 k3
  have b3 := F3.binds (ps := ["asks", "place", "row"]) fun _ _ _ _ _ _ us hl => match us, hl with | [_, _, _], _ => rfl
  have F4 := fun_mk (st := s_are_unlike) l4 c4 k4
  have b4 := F4.binds (ps := ["one", "other", "binds"]) fun _ _ _ _ _ _ us hl => match us, hl with | [_, _, _], _ => rfl
  have F5 := fun_mk (st := s_first_against) l5 c5 k5
  have b5 := F5.binds (ps := ["story", "asks", "told", "k"]) fun _ _ _ _ _ _ us hl => match us, hl with | [_, _, _, _], _ => rfl
  have F6 := fun_mk (st := s_story_fault) l6 c6 k6
  have b6 := F6.binds (ps := ["story"]) fun _ _ _ _ _ _ us hl => match us, hl with | [_], _ => rfl
  have F7 := fun_mk (st := s_law_cell_at) l7 c7 k7
  have b7 := F7.binds (ps := ["_law_script", "_law_k"]) fun _ _ _ _ _ _ us hl => match us, hl with | [_, _], _ => rfl
  have F8 := fun_mk (st := s_law_mix) l8 c8 k8
  have b8 := F8.binds (ps := ["_law_cell", "_law_k"]) fun _ _ _ _ _ _ us hl => match us, hl with | [_, _], _ => rfl
  have F9 := fun_mk (st := s_law_left) l9 c9 k9
  have b9 := F9.binds (ps := ["_law_cell", "_law_k"]) fun _ _ _ _ _ _ us hl => match us, hl with | [_, _], _ => rfl
  have F10 := fun_mk (st := s_law_pick) l10 c10 k10
  have b10 := F10.binds (ps := ["_law_left_here", "_law_many"]) fun _ _ _ _ _ _ us hl => match us, hl with | [_, _], _ => rfl
  have F11 := fun_mk (st := s_law_own) l11 c11 k11
  have b11 := F11.binds (ps := ["_law_thing"]) fun _ _ _ _ _ _ us hl => match us, hl with | [_], _ => rfl
  have F12 := fun_mk (st := s_law_tells) l12 c12 k12
  have b12 := F12.binds (ps := ["_law_asks", "_law_row_here"]) fun _ _ _ _ _ _ us hl => match us, hl with | [_, _], _ => rfl
  have F13 := fun_mk (st := s_law_fault) l13 c13 k13
  have b13 := F13.binds (ps := ["_law_story"]) fun _ _ _ _ _ _ us hl => match us, hl with | [_], _ => rfl
  have F14 := fun_mk (st := s_law_version) l14 c14 k14
  have b14 := F14.binds (ps := ["_law_left_here", "_law_state", "_law_file"]) fun _ _ _ _ _ _ us hl => match us, hl with | [_, _, _], _ => rfl
  have F15 := fun_mk (st := s_law_content) l15 c15 k15
  have b15 := F15.binds (ps := ["_law_left_here", "_law_state", "_law_file", "_law_version_here"]) fun _ _ _ _ _ _ us hl => match us, hl with | [_, _, _, _], _ => rfl
  have F16 := fun_mk (st := s_law_put) l16 c16 k16
  have b16 := F16.binds (ps := ["_law_left_here", "_law_state", "_law_file", "_law_content_here"]) fun _ _ _ _ _ _ us hl => match us, hl with | [_, _, _, _], _ => rfl
  have F17 := fun_mk (st := s_law_ask) l17 c17 k17
  have b17 := F17.binds (ps := ["_law_left_here", "_law_state", "_law_h"]) fun _ _ _ _ _ _ us hl => match us, hl with | [_, _, _], _ => rfl
  have F18 := fun_mk (st := s_law_answer) l18 c18 k18
  have b18 := F18.binds (ps := ["_law_left_here", "_law_state", "_law_request"]) fun _ _ _ _ _ _ us hl => match us, hl with | [_, _, _], _ => rfl
  have F19 := fun_mk (st := s_law_row) l19 c19 k19
  have b19 := F19.binds (ps := ["_law_left_here", "_law_state"]) fun _ _ _ _ _ _ us hl => match us, hl with | [_, _], _ => rfl
  have F20 := fun_mk (st := s_law) l20 c20 k20
  have b20 := F20.binds (ps := ["_law_script"]) fun _ _ _ _ _ _ us hl => match us, hl with | [_], _ => rfl
  have T : Txt K mg (fun n => [f0, f1, f2, f3, f4, f5, f6, f7, f8, f9, f10, f11, f12, f13, f14, f15, f16, f17, f18, f19, fa].getD n 0) (fun n => [].getD n 0) (fun n => [(PySem.W.fnOf "asks_of" "asks_of" (defArgs s_asks_of) (defBody s_asks_of) (defScope s_asks_of) .none kV0 dc0 pm0 an0 cd0 ct0), (PySem.W.fnOf "joined_puts" "joined_puts" (defArgs s_joined_puts) (defBody s_joined_puts) (defScope s_joined_puts) .none kV1 dc1 pm1 an1 cd1 ct1), (PySem.W.fnOf "versions_in" "versions_in" (defArgs s_versions_in) (defBody s_versions_in) (defScope s_versions_in) .none kV2 dc2 pm2 an2 cd2 ct2), (PySem.W.fnOf "begin_of" "begin_of" (defArgs s_begin_of) (defBody s_begin_of) (defScope s_begin_of) .none kV3 dc3 pm3 an3 cd3 ct3), (PySem.W.fnOf "are_unlike" "are_unlike" (defArgs s_are_unlike) (defBody s_are_unlike) (defScope s_are_unlike) .none kV4 dc4 pm4 an4 cd4 ct4), (PySem.W.fnOf "first_against" "first_against" (defArgs s_first_against) (defBody s_first_against) (defScope s_first_against) .none kV5 dc5 pm5 an5 cd5 ct5), (PySem.W.fnOf "story_fault" "story_fault" (defArgs s_story_fault) (defBody s_story_fault) (defScope s_story_fault) .none kV6 dc6 pm6 an6 cd6 ct6), (PySem.W.fnOf "_law_cell_at" "_law_cell_at" (defArgs s_law_cell_at) (defBody s_law_cell_at) (defScope s_law_cell_at) .none kV7 dc7 pm7 an7 cd7 ct7), (PySem.W.fnOf "_law_mix" "_law_mix" (defArgs s_law_mix) (defBody s_law_mix) (defScope s_law_mix) .none kV8 dc8 pm8 an8 cd8 ct8), (PySem.W.fnOf "_law_left" "_law_left" (defArgs s_law_left) (defBody s_law_left) (defScope s_law_left) .none kV9 dc9 pm9 an9 cd9 ct9), (PySem.W.fnOf "_law_pick" "_law_pick" (defArgs s_law_pick) (defBody s_law_pick) (defScope s_law_pick) .none kV10 dc10 pm10 an10 cd10 ct10), (PySem.W.fnOf "_law_own" "_law_own" (defArgs s_law_own) (defBody s_law_own) (defScope s_law_own) .none kV11 dc11 pm11 an11 cd11 ct11), (PySem.W.fnOf "_law_tells" "_law_tells" (defArgs s_law_tells) (defBody s_law_tells) (defScope s_law_tells) .none kV12 dc12 pm12 an12 cd12 ct12), (PySem.W.fnOf "_law_fault" "_law_fault" (defArgs s_law_fault) (defBody s_law_fault) (defScope s_law_fault) .none kV13 dc13 pm13 an13 cd13 ct13), (PySem.W.fnOf "_law_version" "_law_version" (defArgs s_law_version) (defBody s_law_version) (defScope s_law_version) .none kV14 dc14 pm14 an14 cd14 ct14), (PySem.W.fnOf "_law_content" "_law_content" (defArgs s_law_content) (defBody s_law_content) (defScope s_law_content) .none kV15 dc15 pm15 an15 cd15 ct15), (PySem.W.fnOf "_law_put" "_law_put" (defArgs s_law_put) (defBody s_law_put) (defScope s_law_put) .none kV16 dc16 pm16 an16 cd16 ct16), (PySem.W.fnOf "_law_ask" "_law_ask" (defArgs s_law_ask) (defBody s_law_ask) (defScope s_law_ask) .none kV17 dc17 pm17 an17 cd17 ct17), (PySem.W.fnOf "_law_answer" "_law_answer" (defArgs s_law_answer) (defBody s_law_answer) (defScope s_law_answer) .none kV18 dc18 pm18 an18 cd18 ct18), (PySem.W.fnOf "_law_row" "_law_row" (defArgs s_law_row) (defBody s_law_row) (defScope s_law_row) .none kV19 dc19 pm19 an19 cd19 ct19), (PySem.W.fnOf "law" "law" (defArgs s_law) (defBody s_law) (defScope s_law) .none kV20 dc20 pm20 an20 cd20 ct20)].getD n (PySem.W.fnOf "asks_of" "asks_of" (defArgs s_asks_of) (defBody s_asks_of) (defScope s_asks_of) .none kV0 dc0 pm0 an0 cd0 ct0)) := {
    F0 := F0,
    b0 := b0,
    m0 := PySem.W.mg_of X G a0,
    F1 := F1,
    b1 := b1,
    m1 := PySem.W.mg_of X G a1,
    F2 := F2,
    b2 := b2,
    m2 := PySem.W.mg_of X G a2,
    F3 := F3,
    b3 := b3,
    m3 := PySem.W.mg_of X G a3,
    F4 := F4,
    b4 := b4,
    m4 := PySem.W.mg_of X G a4,
    F5 := F5,
    b5 := b5,
    m5 := PySem.W.mg_of X G a5,
    F6 := F6,
    b6 := b6,
    m6 := PySem.W.mg_of X G a6,
    F7 := F7,
    b7 := b7,
    m7 := PySem.W.mg_of X G a7,
    F8 := F8,
    b8 := b8,
    m8 := PySem.W.mg_of X G a8,
    F9 := F9,
    b9 := b9,
    m9 := PySem.W.mg_of X G a9,
    F10 := F10,
    b10 := b10,
    m10 := PySem.W.mg_of X G a10,
    F11 := F11,
    b11 := b11,
    m11 := PySem.W.mg_of X G a11,
    F12 := F12,
    b12 := b12,
    m12 := PySem.W.mg_of X G a12,
    F13 := F13,
    b13 := b13,
    m13 := PySem.W.mg_of X G a13,
    F14 := F14,
    b14 := b14,
    m14 := PySem.W.mg_of X G a14,
    F15 := F15,
    b15 := b15,
    m15 := PySem.W.mg_of X G a15,
    F16 := F16,
    b16 := b16,
    m16 := PySem.W.mg_of X G a16,
    F17 := F17,
    b17 := b17,
    m17 := PySem.W.mg_of X G a17,
    F18 := F18,
    b18 := b18,
    m18 := PySem.W.mg_of X G a18,
    F19 := F19,
    b19 := b19,
    m19 := PySem.W.mg_of X G a19,
    F20 := F20,
    b20 := b20,
    m20 := PySem.W.mg_of X G a20,
    g_enumerate := PySem.W.mg_none_of X G z_enumerate,
    g_zip := PySem.W.mg_none_of X G z_zip,
    g_range := PySem.W.mg_none_of X G z_range,
    g_len := PySem.W.mg_none_of X G z_len,
    g_abs := PySem.W.mg_none_of X G z_abs,
    g_isinstance := PySem.W.mg_none_of X G z_isinstance,
    g_list := PySem.W.mg_none_of X G z_list,
    g_tuple := PySem.W.mg_none_of X G z_tuple,
    g_max := PySem.W.mg_none_of X G z_max,
    g_int := PySem.W.mg_none_of X G z_int }
  exact ⟨PySem.W.fnOf "law" "law" (defArgs s_law) (defBody s_law) (defScope s_law) .none kV20 dc20 pm20 an20 cd20 ct20, fun s v => .of_eq rfl, fun base _ _ => ok_law T⟩
theorem walk {l : PySem.W.OpenLaw} {q : Program} {loose : List Str} {XP : (Str → Option Value) → Heap → Prop} {YP : World → Heap → Prop} {d : DefRec} {K : Params → PySem.W.Frag} (hn : l.most = some 63) (hdf : d.params.defaults = [])
    (hY : ∀ (w : World) (h : Heap), YP w h → (K w.params).In h)
    (F : ∀ (w : World) (mg : Str → Option Value) (fa : Addr) (h : Heap), (K w.params).In h → h.Ns mainGlobals mg → mg d.name = some (.ref fa) →
      ∃ fd : FuncData, (∀ (s : Shared) (u : Value), BindsTo s fd ⟨[u], []⟩ [("_law_script", u)]) ∧ ∀ base : Heap, (K w.params).In base → base.Ns mainGlobals mg → FnOk l.prog w (K w.params) mg base CX0 9 fa fd ["_law_script"] (spLaw (K w.params))) :
    PySem.W.WalkO q loose XP YP l.row.toRowW d [] (fun f vs => PySem.call f vs) :=
  L2.walk_of (n := 63) (k := 9) (x := "_law_script") (CX := fun _ => CX0) (sp := fun w => spLaw (K w.params)) hn (by decide) hdf ⟨rfl, by decide, by decide⟩ hY F (fun _ _ a ns hl _ hS => ⟨a, ns, rfl, hS, hl, fun _ => rfl⟩) fun _ _ _ _ _ z => z
end Fs
open PySem PySem.W PyProof.Rows in
set_option maxRecDepth 100000 in
set_option maxHeartbeats 0 in
theorem PySem.Challenge.cw_farshelf_k55_the_first_fault_holds : PySem.Challenge.rw_farshelf_k55_the_first_fault.Holds := by
  w_on; o_law; k_head; (case hw => w_witness2)
  k_fill
  refine Fs.walk (l := PySem.Challenge.rw_farshelf_k55_the_first_fault) rfl rfl (fun w h Y => PySem.W.kIn_of Y) ?F
  case F =>
    intro w mg fa h KX G hmg
    refine' Fs.all_mk KX G hmg ?a0 ?l0 ?c0 ?k0 ?a1 ?l1 ?c1 ?k1 ?a2 ?l2 ?c2 ?k2 ?a3 ?l3 ?c3 ?k3 ?a4 ?l4 ?c4 ?k4 ?a5 ?l5 ?c5 ?k5 ?a6 ?l6 ?c6 ?k6 ?a7 ?l7 ?c7 ?k7 ?a8 ?l8 ?c8 ?k8 ?a9 ?l9 ?c9 ?k9 ?a10 ?l10 ?c10 ?k10 ?a11 ?l11 ?c11 ?k11 ?a12 ?l12 ?c12 ?k12 ?a13 ?l13 ?c13 ?k13 ?a14 ?l14 ?c14 ?k14 ?a15 ?l15 ?c15 ?k15 ?a16 ?l16 ?c16 ?k16 ?a17 ?l17 ?c17 ?k17 ?a18 ?l18 ?c18 ?k18 ?a19 ?l19 ?c19 ?k19 ?a20 ?l20 ?c20 ?k20 ?z_enumerate ?z_zip ?z_range ?z_len ?z_abs ?z_isinstance ?z_list ?z_tuple ?z_max ?z_int
    (case a0 => k_is)
    (case l0 => k_is)
    (case c0 => k_is)
    (case k0 => k_is)
    (case a1 => k_is)
    (case l1 => k_is)
    (case c1 => k_is)
    (case k1 => k_is)
    (case a2 => k_is)
    (case l2 => k_is)
    (case c2 => k_is)
    (case k2 => k_is)
    (case a3 => k_is)
    (case l3 => k_is)
    (case c3 => k_is)
    (case k3 => k_is)
    (case a4 => k_is)
    (case l4 => k_is)
    (case c4 => k_is)
    (case k4 => k_is)
    (case a5 => k_is)
    (case l5 => k_is)
    (case c5 => k_is)
    (case k5 => k_is)
    (case a6 => k_is)
    (case l6 => k_is)
    (case c6 => k_is)
    (case k6 => k_is)
    (case a7 => k_is)
    (case l7 => k_is)
    (case c7 => k_is)
    (case k7 => k_is)
    (case a8 => k_is)
    (case l8 => k_is)
    (case c8 => k_is)
    (case k8 => k_is)
    (case a9 => k_is)
    (case l9 => k_is)
    (case c9 => k_is)
    (case k9 => k_is)
    (case a10 => k_is)
    (case l10 => k_is)
    (case c10 => k_is)
    (case k10 => k_is)
    (case a11 => k_is)
    (case l11 => k_is)
    (case c11 => k_is)
    (case k11 => k_is)
    (case a12 => k_is)
    (case l12 => k_is)
    (case c12 => k_is)
    (case k12 => k_is)
    (case a13 => k_is)
    (case l13 => k_is)
    (case c13 => k_is)
    (case k13 => k_is)
    (case a14 => k_is)
    (case l14 => k_is)
    (case c14 => k_is)
    (case k14 => k_is)
    (case a15 => k_is)
    (case l15 => k_is)
    (case c15 => k_is)
    (case k15 => k_is)
    (case a16 => k_is)
    (case l16 => k_is)
    (case c16 => k_is)
    (case k16 => k_is)
    (case a17 => k_is)
    (case l17 => k_is)
    (case c17 => k_is)
    (case k17 => k_is)
    (case a18 => k_is)
    (case l18 => k_is)
    (case c18 => k_is)
    (case k18 => k_is)
    (case a19 => k_is)
    (case l19 => k_is)
    (case c19 => k_is)
    (case k19 => k_is)
    (case a20 => k_is)
    (case l20 => k_is)
    (case c20 => k_is)
    (case k20 => k_is)
    (case z_enumerate => k_is)
    (case z_zip => k_is)
    (case z_range => k_is)
    (case z_len => k_is)
    (case z_abs => k_is)
    (case z_isinstance => k_is)
    (case z_list => k_is)
    (case z_tuple => k_is)
    (case z_max => k_is)
    (case z_int => k_is)

