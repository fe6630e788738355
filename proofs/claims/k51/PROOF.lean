import PyProof.Rows.All
import Wide.All
import OpenK.AllK
import Wide.FinOn
import HandS.ForMost
import HandS.Style
import KE.DataEq
import KE.LtData
import KE.SortData
import HandS.IsInst
import HandS.SortInts
import HandS.TupAny
import HandS.NoneIn
import HandS.Defaults
import HandS.Head0
import HandS.Head1
import HandS.Head2
import HandS.HeadEnd
import HandS.HeadHook1
import HandS.HeadHook2
import PySem.Challenge.RW_watchfloor_k51_calendars_duties_count_ti
set_option Elab.async false
set_option linter.all false
set_option maxRecDepth 100000
set_option maxHeartbeats 0
/-! VmA: plain data D, what a value shows in a heap (Vw), what a name owns (Own), states (Sta). -/
namespace Vm
open PySem PySem.Spec PyProof.Rows L2

/-! ### data -/
inductive D where
  | non | bl (b : Bool) | int (i : Int) | str (x : Str)
  | tup (ds : List D) | lst (ds : List D)
  | dct (kvs : List (D × D))
  | obj (C : Addr) (fs : List (Str × D))
  deriving Inhabited

/-- a flat key as data -/
def kD : Key → D
  | .inl i => .int i
  | .inr x => .str x

/-- a tuple that is read: tracked, or of the module -/
def SqTn (K : PySem.W.Frag) (H : Hp) (a : Addr) (xs : List V) : Prop :=
  H a = some (.tup xs) ∨ ∃ (o : Obj) (its : Array Value) (n : Nat), K.lookup a = some o ∧ o.cls = .type "tuple" ∧ o.data = .seq its n ∧ its.size ≤ sizeLine ∧ Vals xs its.toList
theorem SqTn.t {K : PySem.W.Frag} {H : Hp} {a : Addr} {xs : List V} (h : SqTn K H a xs) : SqT K H a xs := by
  rcases h with h | h
  · exact .inl (.inl h)
  · exact .inr h
/-- v shows d in the heap H -/
inductive Vw (K : PySem.W.Frag) (H : Hp) : List V → List D → Prop
  | nil : Vw K H [] []
  | cons {v : V} {vs : List V} {d : D} {ds : List D} : Vw K H [v] [d] → Vw K H vs ds → Vw K H (v :: vs) (d :: ds)
  | non : Vw K H [.non] [.non]
  | bl (b : Bool) : Vw K H [.bl b] [.bl b]
  | int (i : Int) : Vw K H [.int i] [.int i]
  | str (x : Str) : Vw K H [.str x] [.str x]
  | tup {a : Addr} {vs : List V} {ds : List D} : SqTn K H a vs → Vw K H vs ds → Vw K H [.ref a] [.tup ds]
  | lst {a : Addr} {vs : List V} {ds : List D} : SqL K H a vs → Vw K H vs ds → Vw K H [.ref a] [.lst ds]
  | dct {a : Addr} {kvs : List (Key × V)} {ds : List D} : Rd H a (.dK kvs) → Vw K H (kvs.map (·.2)) ds → Vw K H [.ref a] [.dct ((kvs.map fun p => kD p.1).zip ds)]
  | obj {a C dx : Addr} {fs : List (Str × V)} {ds : List D} : H a = some (.ins C dx fs) → Vw K H (fs.map (·.2)) ds → Vw K H [.ref a] [.obj C ((fs.map (·.1)).zip ds)]

/-- one value, by its kind -/
inductive Vw1 (K : PySem.W.Frag) (H : Hp) : V → D → Prop
  | non : Vw1 K H .non .non
  | bl (b : Bool) : Vw1 K H (.bl b) (.bl b)
  | int (i : Int) : Vw1 K H (.int i) (.int i)
  | str (x : Str) : Vw1 K H (.str x) (.str x)
  | tup {a : Addr} {vs : List V} {ds : List D} : SqTn K H a vs → Vw K H vs ds → Vw1 K H (.ref a) (.tup ds)
  | lst {a : Addr} {vs : List V} {ds : List D} : SqL K H a vs → Vw K H vs ds → Vw1 K H (.ref a) (.lst ds)
  | dct {a : Addr} {kvs : List (Key × V)} {ds : List D} : Rd H a (.dK kvs) → Vw K H (kvs.map (·.2)) ds → Vw1 K H (.ref a) (.dct ((kvs.map fun p => kD p.1).zip ds))
  | obj {a C dx : Addr} {fs : List (Str × V)} {ds : List D} : H a = some (.ins C dx fs) → Vw K H (fs.map (·.2)) ds → Vw1 K H (.ref a) (.obj C ((fs.map (·.1)).zip ds))
theorem Vw.invL {K : PySem.W.Frag} {H : Hp} {vs : List V} {ds : List D} (h : Vw K H vs ds) : ∀ v d, vs = [v] → ds = [d] → Vw1 K H v d := by
  induction h with
  | nil => intro v d e; cases e
  | cons x y i1 i2 =>
    intro v d e1 e2
    injection e1 with e1 _
    injection e2 with e2 _
    subst e1 e2
    exact i1 _ _ rfl rfl
  | non => intro v d e1 e2; cases e1; cases e2; exact .non
  | bl b => intro v d e1 e2; cases e1; cases e2; exact .bl b
  | int b => intro v d e1 e2; cases e1; cases e2; exact .int b
  | str b => intro v d e1 e2; cases e1; cases e2; exact .str b
  | tup s x _ => intro v d e1 e2; cases e1; cases e2; exact .tup s x
  | lst s x _ => intro v d e1 e2; cases e1; cases e2; exact .lst s x
  | dct s x _ => intro v d e1 e2; cases e1; cases e2; exact .dct s x
  | obj s x _ => intro v d e1 e2; cases e1; cases e2; exact .obj s x
theorem Vw.inv {K : PySem.W.Frag} {H : Hp} {v : V} {d : D} (h : Vw K H [v] [d]) : Vw1 K H v d := h.invL v d rfl rfl
theorem same_rd {H H' : Hp} {a : Addr} {u : HO} (e : Same H H') (h : Rd H a u) : Rd H' a u := by
  rcases h with h | ⟨o, h⟩
  · exact .inl (e _ _ h)
  · exact .inr ⟨o, e _ _ h⟩
theorem same_sqTn {K : PySem.W.Frag} {H H' : Hp} {a : Addr} {xs : List V} (e : Same H H') (h : SqTn K H a xs) : SqTn K H' a xs := by
  rcases h with h | h
  · exact .inl (e _ _ h)
  · exact .inr h
theorem same_sqT {K : PySem.W.Frag} {H H' : Hp} {a : Addr} {xs : List V} (e : Same H H') (h : SqT K H a xs) : SqT K H' a xs := by
  rcases h with h | h
  · exact .inl (same_rd e h)
  · exact .inr h
theorem same_sqL {K : PySem.W.Frag} {H H' : Hp} {a : Addr} {xs : List V} (e : Same H H') (h : SqL K H a xs) : SqL K H' a xs := by
  rcases h with h | h
  · exact .inl (same_rd e h)
  · exact .inr h
theorem Vw.mono {K : PySem.W.Frag} {H H' : Hp} (e : Same H H') {vs : List V} {ds : List D} (h : Vw K H vs ds) : Vw K H' vs ds := by
  induction h with
  | nil => exact .nil
  | cons _ _ i1 i2 => exact .cons i1 i2
  | non => exact .non
  | bl b => exact .bl b
  | int i => exact .int i
  | str x => exact .str x
  | tup s _ ih => exact .tup (same_sqTn e s) ih
  | lst s _ ih => exact .lst (same_sqL e s) ih
  | dct s _ ih => exact .dct (same_rd e s) ih
  | obj s _ ih => exact .obj (e _ _ s) ih
theorem Vw.len {K : PySem.W.Frag} {H : Hp} {vs : List V} {ds : List D} (h : Vw K H vs ds) : vs.length = ds.length := by
  induction h <;> simp_all
theorem Vw.one {K : PySem.W.Frag} {H : Hp} {v : V} {vs : List V} {d : D} {ds : List D} (h : Vw K H (v :: vs) (d :: ds)) : Vw K H [v] [d] ∧ Vw K H vs ds := by
  cases h with
  | cons a b => exact ⟨a, b⟩
  | non => exact ⟨.non, .nil⟩
  | bl b => exact ⟨.bl b, .nil⟩
  | int b => exact ⟨.int b, .nil⟩
  | str b => exact ⟨.str b, .nil⟩
  | tup a b => exact ⟨.tup a b, .nil⟩
  | lst a b => exact ⟨.lst a b, .nil⟩
  | dct a b => exact ⟨.dct a b, .nil⟩
  | obj a b => exact ⟨.obj a b, .nil⟩
theorem Vw.get {K : PySem.W.Frag} {H : Hp} : ∀ {vs : List V} {ds : List D} {i : Nat} {d : D}, Vw K H vs ds → ds[i]? = some d → ∃ v, vs[i]? = some v ∧ Vw K H [v] [d]
  | [], [], _, _, _, e => by simp at e
  | [], _ :: _, _, _, h, _ => by have := h.len; simp at this
  | _ :: _, [], _, _, h, _ => by have := h.len; simp at this
  | v :: vs, d :: ds, 0, x, h, e => by
    simp at e
    subst e
    exact ⟨v, rfl, h.one.1⟩
  | v :: vs, d :: ds, i + 1, x, h, e => by
    obtain ⟨w, a, b⟩ := Vw.get h.one.2 (i := i) (d := x) (by simpa using e)
    exact ⟨w, by simpa using a, b⟩
theorem Vw.getV {K : PySem.W.Frag} {H : Hp} : ∀ {vs : List V} {ds : List D} {i : Nat} {v : V}, Vw K H vs ds → vs[i]? = some v → ∃ d, ds[i]? = some d ∧ Vw K H [v] [d]
  | [], [], _, _, _, e => by simp at e
  | [], _ :: _, _, _, h, _ => by have := h.len; simp at this
  | _ :: _, [], _, _, h, _ => by have := h.len; simp at this
  | v :: vs, d :: ds, 0, x, h, e => by
    simp at e
    subst e
    exact ⟨d, rfl, h.one.1⟩
  | v :: vs, d :: ds, i + 1, x, h, e => by
    obtain ⟨w, a, b⟩ := Vw.getV h.one.2 (i := i) (v := x) (by simpa using e)
    exact ⟨w, by simpa using a, b⟩
theorem Vw.app {K : PySem.W.Frag} {H : Hp} : ∀ {vs us : List V} {ds es : List D}, Vw K H vs ds → Vw K H us es → Vw K H (vs ++ us) (ds ++ es)
  | [], _, [], _, _, h => h
  | [], _, _ :: _, _, h, _ => by have := h.len; simp at this
  | _ :: _, _, [], _, h, _ => by have := h.len; simp at this
  | v :: vs, us, d :: ds, es, h, h2 => .cons h.one.1 (Vw.app h.one.2 h2)
theorem Vw.take {K : PySem.W.Frag} {H : Hp} : ∀ {vs : List V} {ds : List D} (n : Nat), Vw K H vs ds → Vw K H (vs.take n) (ds.take n)
  | [], [], n, _ => by simpa using Vw.nil
  | [], _ :: _, _, h => by have := h.len; simp at this
  | _ :: _, [], _, h => by have := h.len; simp at this
  | _ :: _, _ :: _, 0, _ => .nil
  | v :: vs, d :: ds, n + 1, h => .cons h.one.1 (Vw.take n h.one.2)
theorem Vw.drop {K : PySem.W.Frag} {H : Hp} : ∀ {vs : List V} {ds : List D} (n : Nat), Vw K H vs ds → Vw K H (vs.drop n) (ds.drop n)
  | [], [], n, _ => by simpa using Vw.nil
  | [], _ :: _, _, h => by have := h.len; simp at this
  | _ :: _, [], _, h => by have := h.len; simp at this
  | _ :: _, _ :: _, 0, h => h
  | v :: vs, d :: ds, n + 1, h => Vw.drop n h.one.2
theorem Vw.rev {K : PySem.W.Frag} {H : Hp} : ∀ {vs : List V} {ds : List D}, Vw K H vs ds → Vw K H vs.reverse ds.reverse
  | [], [], _ => .nil
  | [], _ :: _, h => by have := h.len; simp at this
  | _ :: _, [], h => by have := h.len; simp at this
  | v :: vs, d :: ds, h => by
    rw [List.reverse_cons, List.reverse_cons]
    exact Vw.app (Vw.rev h.one.2) h.one.1
theorem Vw.setAt {K : PySem.W.Frag} {H : Hp} {v : V} {d : D} (hv : Vw K H [v] [d]) : ∀ {vs : List V} {ds : List D} (i : Nat), Vw K H vs ds → Vw K H (vs.set i v) (ds.set i d)
  | [], [], i, _ => by simpa using Vw.nil
  | [], _ :: _, _, h => by have := h.len; simp at this
  | _ :: _, [], _, h => by have := h.len; simp at this
  | _ :: _, _ :: _, 0, h => .cons hv h.one.2
  | v' :: vs, d' :: ds, i + 1, h => .cons h.one.1 (Vw.setAt hv i h.one.2)
theorem Vw.ofAll {K : PySem.W.Frag} {H : Hp} : ∀ {vs : List V} {ds : List D}, vs.length = ds.length → (∀ (i : Nat) (v : V) (d : D), vs[i]? = some v → ds[i]? = some d → Vw K H [v] [d]) → Vw K H vs ds
  | [], [], _, _ => .nil
  | [], _ :: _, h, _ => by simp at h
  | _ :: _, [], h, _ => by simp at h
  | v :: vs, d :: ds, h, f => .cons (f 0 v d rfl rfl) (Vw.ofAll (by simpa using h) fun i v d a b => f (i + 1) v d (by simpa using a) (by simpa using b))

/-! ### ownership -/
inductive T where
  | any | fr | rd
  | lst (t : T) | dct (t : T)
  | tup (ts : List T)
  | obj (fs : List (Str × T))
  deriving Inhabited

/-- v is d, of the kind t; fp: the objects that it alone has -/
inductive Own (K : PySem.W.Frag) (F Hb H : Hp) : List T → List V → List D → List Addr → Prop
  | nil : Own K F Hb H [] [] [] []
  | cons {t : T} {ts : List T} {v : V} {vs : List V} {d : D} {ds : List D} {f g : List Addr} : Own K F Hb H [t] [v] [d] f → Own K F Hb H ts vs ds g → Own K F Hb H (t :: ts) (v :: vs) (d :: ds) (f ++ g)
  | fr {v : V} {d : D} : Vw K Hb [v] [d] → Own K F Hb H [.fr] [v] [d] []
  | rd {v : V} {d : D} : Vw K F [v] [d] → Own K F Hb H [.rd] [v] [d] []
  | lst {t : T} {a : Addr} {vs : List V} {ds : List D} {f : List Addr} : H a = some (.lst vs) → Hb a = none → F a = none → Own K F Hb H (List.replicate ds.length t) vs ds f → Own K F Hb H [.lst t] [.ref a] [.lst ds] (a :: f)
  | tup {ts : List T} {a : Addr} {vs : List V} {ds : List D} {f : List Addr} : H a = some (.tup vs) → Hb a = none → F a = none → Own K F Hb H ts vs ds f → Own K F Hb H [.tup ts] [.ref a] [.tup ds] (a :: f)
  | dct {t : T} {a : Addr} {kvs : List (Key × V)} {ds : List D} {f : List Addr} : H a = some (.dK kvs) → Hb a = none → F a = none → Own K F Hb H (List.replicate ds.length t) (kvs.map (·.2)) ds f →
      Own K F Hb H [.dct t] [.ref a] [.dct ((kvs.map fun p => kD p.1).zip ds)] (a :: f)
  | obj {ts : List (Str × T)} {a C dx : Addr} {fs : List (Str × V)} {ds : List D} {f : List Addr} : H a = some (.ins C dx fs) → Hb a = none → F a = none → fs.map (·.1) = ts.map (·.1) → Own K F Hb H (ts.map (·.2)) (fs.map (·.2)) ds f →
      Own K F Hb H [.obj ts] [.ref a] [.obj C ((fs.map (·.1)).zip ds)] (a :: f)

/-- one owned value, by its kind -/
inductive Own1 (K : PySem.W.Frag) (F Hb H : Hp) : T → V → D → List Addr → Prop
  | fr {v : V} {d : D} : Vw K Hb [v] [d] → Own1 K F Hb H .fr v d []
  | rd {v : V} {d : D} : Vw K F [v] [d] → Own1 K F Hb H .rd v d []
  | lst {t : T} {a : Addr} {vs : List V} {ds : List D} {f : List Addr} : H a = some (.lst vs) → Hb a = none → F a = none → Own K F Hb H (List.replicate ds.length t) vs ds f → Own1 K F Hb H (.lst t) (.ref a) (.lst ds) (a :: f)
  | tup {ts : List T} {a : Addr} {vs : List V} {ds : List D} {f : List Addr} : H a = some (.tup vs) → Hb a = none → F a = none → Own K F Hb H ts vs ds f → Own1 K F Hb H (.tup ts) (.ref a) (.tup ds) (a :: f)
  | dct {t : T} {a : Addr} {kvs : List (Key × V)} {ds : List D} {f : List Addr} : H a = some (.dK kvs) → Hb a = none → F a = none → Own K F Hb H (List.replicate ds.length t) (kvs.map (·.2)) ds f →
      Own1 K F Hb H (.dct t) (.ref a) (.dct ((kvs.map fun p => kD p.1).zip ds)) (a :: f)
  | obj {ts : List (Str × T)} {a C dx : Addr} {fs : List (Str × V)} {ds : List D} {f : List Addr} : H a = some (.ins C dx fs) → Hb a = none → F a = none → fs.map (·.1) = ts.map (·.1) → Own K F Hb H (ts.map (·.2)) (fs.map (·.2)) ds f →
      Own1 K F Hb H (.obj ts) (.ref a) (.obj C ((fs.map (·.1)).zip ds)) (a :: f)
theorem Own.nil_inv {K : PySem.W.Frag} {F Hb H : Hp} {vs : List V} {ds : List D} {f : List Addr} {ts : List T} (h : Own K F Hb H ts vs ds f) (e : ts = []) : f = [] := by
  induction h with
  | nil => rfl
  | _ => cases e
theorem Own.invL {K : PySem.W.Frag} {F Hb H : Hp} {ts : List T} {vs : List V} {ds : List D} {fp : List Addr} (h : Own K F Hb H ts vs ds fp) : ∀ t v d, ts = [t] → vs = [v] → ds = [d] → Own1 K F Hb H t v d fp := by
  induction h with
  | nil => intro t v d e; cases e
  | cons x y i1 i2 =>
    intro t v d e0 e1 e2
    injection e0 with e0 e0'
    injection e1 with e1 _
    injection e2 with e2 _
    subst e0 e1 e2
    have := y.nil_inv e0'
    subst this
    rw [List.append_nil]
    exact i1 _ _ _ rfl rfl rfl
  | fr x => intro t v d e0 e1 e2; cases e0; cases e1; cases e2; exact .fr x
  | rd x => intro t v d e0 e1 e2; cases e0; cases e1; cases e2; exact .rd x
  | lst a b c x _ => intro t v d e0 e1 e2; cases e0; cases e1; cases e2; exact .lst a b c x
  | tup a b c x _ => intro t v d e0 e1 e2; cases e0; cases e1; cases e2; exact .tup a b c x
  | dct a b c x _ => intro t v d e0 e1 e2; cases e0; cases e1; cases e2; exact .dct a b c x
  | obj a b c d x _ => intro t v d e0 e1 e2; cases e0; cases e1; cases e2; exact .obj a b c d x
theorem Own.inv {K : PySem.W.Frag} {F Hb H : Hp} {t : T} {v : V} {d : D} {fp : List Addr} (h : Own K F Hb H [t] [v] [d] fp) : Own1 K F Hb H t v d fp := h.invL t v d rfl rfl rfl
/-- several, from the first on -/
theorem Own.uncons {K : PySem.W.Frag} {F Hb H : Hp} {t : T} {ts : List T} {v : V} {vs : List V} {d : D} {ds : List D} {fp : List Addr} (h : Own K F Hb H (t :: ts) (v :: vs) (d :: ds) fp) : ∃ f g, fp = f ++ g ∧ Own K F Hb H [t] [v] [d] f ∧ Own K F Hb H ts vs ds g := by
  cases h with
  | cons a b => exact ⟨_, _, rfl, a, b⟩
  | fr x => exact ⟨[], [], rfl, .fr x, .nil⟩
  | rd x => exact ⟨[], [], rfl, .rd x, .nil⟩
  | lst a b c x => exact ⟨_, [], (List.append_nil _).symm, .lst a b c x, .nil⟩
  | tup a b c x => exact ⟨_, [], (List.append_nil _).symm, .tup a b c x, .nil⟩
  | dct a b c x => exact ⟨_, [], (List.append_nil _).symm, .dct a b c x, .nil⟩
  | obj a b c d x => exact ⟨_, [], (List.append_nil _).symm, .obj a b c d x, .nil⟩

/-- every shared dict is locked -/
def Lkd (Hb : Hp) : Prop := ∀ a kvs, Hb a ≠ some (.dK kvs)
structure Ext (Hb H Hb' H' : Hp) : Prop where
  h : Same H H'
  b : Same Hb Hb'
  bh : Same Hb' H'
  k : ∀ a, H a ≠ none → Hb' a = Hb a
  l : Lkd Hb → Lkd Hb'
theorem Ext.refl {Hb H : Hp} (h : Same Hb H) : Ext Hb H Hb H := ⟨.refl _, .refl _, h, fun _ _ => rfl, fun h => h⟩
theorem Ext.trans {A B C E G I : Hp} (x : Ext A B C E) (y : Ext C E G I) : Ext A B G I :=
  ⟨x.h.trans y.h, x.b.trans y.b, y.bh, fun a n => by
    have n' : E a ≠ none := by
      cases q : B a with
      | none => exact absurd q n
      | some o => rw [x.h a o q]; simp
    rw [y.k a n', x.k a n], fun h => y.l (x.l h)⟩
theorem same_new {H : Hp} {p : Addr} {o : HO} (h : H p = none) : Same H (upd H p o) := fun b u e => by
  rw [upd_ne (ne_of_none e h)]
  exact e
theorem none_of_same {H H' : Hp} (e : Same H H') {a : Addr} (h : H' a = none) : H a = none := e.free h
/-- a new object, not frozen -/
theorem Ext.new {Hb H : Hp} {p : Addr} {o : HO} (s : Same Hb H) (h : H p = none) : Ext Hb H Hb (upd H p o) :=
  ⟨same_new h, .refl _, s.trans (same_new h), fun _ _ => rfl, fun h => h⟩
/-- a new object, frozen at once -/
theorem Ext.newFr {Hb H : Hp} {p : Addr} {o : HO} (s : Same Hb H) (h : H p = none) (ho : ∀ kvs, o ≠ .dK kvs := by intro _ z; cases z) : Ext Hb H (upd Hb p o) (upd H p o) := by
  have hb : Hb p = none := s.free h
  refine ⟨same_new h, same_new hb, fun b u e => ?_, fun a n => ?_, fun l a kvs e => ?_⟩
  · by_cases q : b = p
    · subst q; rw [upd_same] at e ⊢; exact e
    · rw [upd_ne q] at e ⊢; exact s b u e
  · have q : a ≠ p := fun q => n (q ▸ h)
    rw [upd_ne q]
  · by_cases q : a = p
    · subst q
      rw [upd_same] at e
      exact ho kvs (Option.some.inj e)
    · rw [upd_ne q] at e
      exact l a kvs e

theorem Own.ext {K : PySem.W.Frag} {F Hb H Hb' H' : Hp} (e : Ext Hb H Hb' H') {ts : List T} {vs : List V} {ds : List D} {fp : List Addr} (h : Own K F Hb H ts vs ds fp) : Own K F Hb' H' ts vs ds fp := by
  induction h with
  | nil => exact .nil
  | cons _ _ a b => exact .cons a b
  | fr v => exact .fr (v.mono e.b)
  | rd v => exact .rd v
  | lst ha hb hf _ ih => exact .lst (e.h _ _ ha) (by rw [e.k _ (by rw [ha]; simp)]; exact hb) hf ih
  | tup ha hb hf _ ih => exact .tup (e.h _ _ ha) (by rw [e.k _ (by rw [ha]; simp)]; exact hb) hf ih
  | dct ha hb hf _ ih => exact .dct (e.h _ _ ha) (by rw [e.k _ (by rw [ha]; simp)]; exact hb) hf ih
  | obj ha hb hf hn _ ih => exact .obj (e.h _ _ ha) (by rw [e.k _ (by rw [ha]; simp)]; exact hb) hf hn ih
/-- what is owned is seen -/
theorem Own.vw {K : PySem.W.Frag} {F Hb H : Hp} (sb : Same Hb H) (sf : Same F H) {ts : List T} {vs : List V} {ds : List D} {fp : List Addr} (h : Own K F Hb H ts vs ds fp) : Vw K H vs ds := by
  induction h with
  | nil => exact .nil
  | cons _ _ a b => exact .cons a b
  | fr v => exact v.mono sb
  | rd v => exact v.mono sf
  | lst ha hb hf _ ih => exact .lst (.of ha) ih
  | tup ha hb hf _ ih => exact .tup (.inl ha) ih
  | dct ha hb hf _ ih => exact .dct (.of ha) ih
  | obj ha hb hf hn _ ih => exact .obj ha ih
theorem Own.len {K : PySem.W.Frag} {F Hb H : Hp} {ts : List T} {vs : List V} {ds : List D} {fp : List Addr} (h : Own K F Hb H ts vs ds fp) : ts.length = vs.length ∧ vs.length = ds.length := by
  induction h <;> simp_all
/-- the objects of a footprint stand in H alone -/
theorem Own.apart {K : PySem.W.Frag} {F Hb H : Hp} {ts : List T} {vs : List V} {ds : List D} {fp : List Addr} (h : Own K F Hb H ts vs ds fp) : ∀ a ∈ fp, H a ≠ none ∧ Hb a = none ∧ F a = none := by
  induction h with
  | nil => intro a q; simp at q
  | cons _ _ a b => intro x q; rcases List.mem_append.mp q with q | q; exact a x q; exact b x q
  | fr v => intro a q; simp at q
  | rd v => intro a q; simp at q
  | lst ha hb hf _ ih => intro x q; rcases List.mem_cons.mp q with q | q; (subst q; exact ⟨by rw [ha]; simp, hb, hf⟩); exact ih x q
  | tup ha hb hf _ ih => intro x q; rcases List.mem_cons.mp q with q | q; (subst q; exact ⟨by rw [ha]; simp, hb, hf⟩); exact ih x q
  | dct ha hb hf _ ih => intro x q; rcases List.mem_cons.mp q with q | q; (subst q; exact ⟨by rw [ha]; simp, hb, hf⟩); exact ih x q
  | obj ha hb hf hn _ ih => intro x q; rcases List.mem_cons.mp q with q | q; (subst q; exact ⟨by rw [ha]; simp, hb, hf⟩); exact ih x q
/-- a change of objects outside the footprint -/
theorem Own.frame {K : PySem.W.Frag} {F Hb H Hb' H' : Hp} {ts : List T} {vs : List V} {ds : List D} {fp : List Addr} (h : Own K F Hb H ts vs ds fp) (sb : Same Hb Hb') (kh : ∀ a ∈ fp, H' a = H a) (kb : ∀ a ∈ fp, Hb' a = Hb a) : Own K F Hb' H' ts vs ds fp := by
  induction h with
  | nil => exact .nil
  | cons _ _ a b => exact .cons (a (fun x q => kh x (List.mem_append_left _ q)) (fun x q => kb x (List.mem_append_left _ q))) (b (fun x q => kh x (List.mem_append_right _ q)) (fun x q => kb x (List.mem_append_right _ q)))
  | fr v => exact .fr (v.mono sb)
  | rd v => exact .rd v
  | lst ha hb hf _ ih => exact .lst (by rw [kh _ List.mem_cons_self]; exact ha) (by rw [kb _ List.mem_cons_self]; exact hb) hf (ih (fun x q => kh x (List.mem_cons_of_mem _ q)) fun x q => kb x (List.mem_cons_of_mem _ q))
  | tup ha hb hf _ ih => exact .tup (by rw [kh _ List.mem_cons_self]; exact ha) (by rw [kb _ List.mem_cons_self]; exact hb) hf (ih (fun x q => kh x (List.mem_cons_of_mem _ q)) fun x q => kb x (List.mem_cons_of_mem _ q))
  | dct ha hb hf _ ih => exact .dct (by rw [kh _ List.mem_cons_self]; exact ha) (by rw [kb _ List.mem_cons_self]; exact hb) hf (ih (fun x q => kh x (List.mem_cons_of_mem _ q)) fun x q => kb x (List.mem_cons_of_mem _ q))
  | obj ha hb hf hn _ ih => exact .obj (by rw [kh _ List.mem_cons_self]; exact ha) (by rw [kb _ List.mem_cons_self]; exact hb) hf hn (ih (fun x q => kh x (List.mem_cons_of_mem _ q)) fun x q => kb x (List.mem_cons_of_mem _ q))

/-- what may be frozen -/
inductive Fz : T → Prop
  | fr : Fz .fr
  | lst {t : T} : Fz t → Fz (.lst t)
  | tup {ts : List T} : (∀ t ∈ ts, Fz t) → Fz (.tup ts)
  | obj {fs : List (Str × T)} : (∀ t ∈ fs.map (·.2), Fz t) → Fz (.obj fs)
/-- the frozen heap with the objects at fp -/
def addFr (Hb H : Hp) (fp : List Addr) : Hp := fun a => if a ∈ fp then H a else Hb a
theorem addFr_same {Hb H : Hp} {fp : List Addr} (h : ∀ a ∈ fp, Hb a = none) : Same Hb (addFr Hb H fp) := fun a o e => by
  unfold addFr
  by_cases q : a ∈ fp
  · rw [h a q] at e; cases e
  · rw [if_neg q]; exact e
theorem addFr_in {Hb H : Hp} {fp : List Addr} (s : Same Hb H) : Same (addFr Hb H fp) H := fun a o e => by
  unfold addFr at e
  by_cases q : a ∈ fp
  · rw [if_pos q] at e; exact e
  · rw [if_neg q] at e; exact s a o e
theorem addFr_mono {Hb H : Hp} {fp gp : List Addr} (h : ∀ a ∈ gp, Hb a = none ∧ H a ≠ none) (s : Same Hb H) (i : ∀ a ∈ fp, a ∈ gp) : Same (addFr Hb H fp) (addFr Hb H gp) := fun a o e => by
  unfold addFr at e ⊢
  by_cases q : a ∈ fp
  · rw [if_pos q] at e; rw [if_pos (i a q)]; exact e
  · rw [if_neg q] at e
    by_cases q2 : a ∈ gp
    · rw [if_pos q2]; exact s a o e
    · rw [if_neg q2]; exact e
theorem Own.freeze {K : PySem.W.Frag} {F Hb H : Hp} (s : Same Hb H) {ts : List T} {vs : List V} {ds : List D} {fp : List Addr} (h : Own K F Hb H ts vs ds fp) : (∀ t ∈ ts, Fz t) → Vw K (addFr Hb H fp) vs ds := by
  induction h with
  | nil => intro _; exact .nil
  | @cons t ts v vs d ds f g x y a b =>
    intro z
    have ax := fun q hq => x.apart q hq
    have ay := fun q hq => y.apart q hq
    have all : ∀ q ∈ f ++ g, Hb q = none ∧ H q ≠ none := fun q hq => by
      rcases List.mem_append.mp hq with hq | hq
      · exact ⟨(ax q hq).2.1, (ax q hq).1⟩
      · exact ⟨(ay q hq).2.1, (ay q hq).1⟩
    refine .cons ((a fun t q => z t (by simp at q; subst q; exact List.mem_cons_self)).mono (addFr_mono all s fun q hq => List.mem_append_left _ hq)) ((b fun t q => z t (List.mem_cons_of_mem _ q)).mono (addFr_mono all s fun q hq => List.mem_append_right _ hq))
  | fr v => intro _; exact v.mono (addFr_same (fun a q => by simp at q))
  | rd v => intro z; have := z .rd List.mem_cons_self; cases this
  | @lst t a vs ds f ha hb hf o ih =>
    intro z
    have zt : Fz t := by have := z _ List.mem_cons_self; cases this; assumption
    have all : ∀ q ∈ a :: f, Hb q = none ∧ H q ≠ none := fun q hq => by
      rcases List.mem_cons.mp hq with hq | hq
      · subst hq; exact ⟨hb, by rw [ha]; simp⟩
      · exact ⟨(o.apart q hq).2.1, (o.apart q hq).1⟩
    refine .lst (.of ?_) ((ih fun t' q => by rw [List.eq_of_mem_replicate q]; exact zt).mono (addFr_mono all s fun q hq => List.mem_cons_of_mem _ hq))
    unfold addFr; rw [if_pos List.mem_cons_self]; exact ha
  | @tup ts a vs ds f ha hb hf o ih =>
    intro z
    have zt : ∀ t ∈ ts, Fz t := by have := z _ List.mem_cons_self; cases this; assumption
    have all : ∀ q ∈ a :: f, Hb q = none ∧ H q ≠ none := fun q hq => by
      rcases List.mem_cons.mp hq with hq | hq
      · subst hq; exact ⟨hb, by rw [ha]; simp⟩
      · exact ⟨(o.apart q hq).2.1, (o.apart q hq).1⟩
    refine .tup (.inl ?_) ((ih zt).mono (addFr_mono all s fun q hq => List.mem_cons_of_mem _ hq))
    unfold addFr; rw [if_pos List.mem_cons_self]; exact ha
  | dct _ _ _ _ _ => intro z; have := z _ List.mem_cons_self; cases this
  | @obj ts a C dx fs ds f ha hb hf hn o ih =>
    intro z
    have zt : ∀ t ∈ ts.map (·.2), Fz t := by have := z _ List.mem_cons_self; cases this; assumption
    have all : ∀ q ∈ a :: f, Hb q = none ∧ H q ≠ none := fun q hq => by
      rcases List.mem_cons.mp hq with hq | hq
      · subst hq; exact ⟨hb, by rw [ha]; simp⟩
      · exact ⟨(o.apart q hq).2.1, (o.apart q hq).1⟩
    refine .obj (dx := dx) ?_ ((ih zt).mono (addFr_mono all s fun q hq => List.mem_cons_of_mem _ hq))
    unfold addFr; rw [if_pos List.mem_cons_self]; exact ha

/-- what may be frozen has no dict -/
theorem Own.nodict {K : PySem.W.Frag} {F Hb H : Hp} {ts : List T} {vs : List V} {ds : List D} {fp : List Addr} (h : Own K F Hb H ts vs ds fp) : (∀ t ∈ ts, Fz t) → ∀ a ∈ fp, ∀ kvs, H a ≠ some (.dK kvs) := by
  induction h with
  | nil => intro _ a q; simp at q
  | cons _ _ a b =>
    intro z x q
    rcases List.mem_append.mp q with q | q
    · exact a (fun t h => z t (by simp at h; subst h; exact List.mem_cons_self)) x q
    · exact b (fun t h => z t (List.mem_cons_of_mem _ h)) x q
  | fr v => intro _ a q; simp at q
  | rd v => intro _ a q; simp at q
  | @lst t a vs ds f ha hb hf _ ih =>
    intro z x q kvs
    have zt : Fz t := by have := z _ List.mem_cons_self; cases this; assumption
    rcases List.mem_cons.mp q with q | q
    · subst q; rw [ha]; exact fun z => nomatch z
    · exact ih (fun t' h => by rw [List.eq_of_mem_replicate h]; exact zt) x q kvs
  | @tup ts a vs ds f ha hb hf _ ih =>
    intro z x q kvs
    have zt : ∀ t ∈ ts, Fz t := by have := z _ List.mem_cons_self; cases this; assumption
    rcases List.mem_cons.mp q with q | q
    · subst q; rw [ha]; exact fun z => nomatch z
    · exact ih zt x q kvs
  | dct _ _ _ _ _ => intro z; have := z _ List.mem_cons_self; cases this
  | @obj ts a C dx fs ds f ha hb hf hn _ ih =>
    intro z x q kvs
    have zt : ∀ t ∈ ts.map (·.2), Fz t := by have := z _ List.mem_cons_self; cases this; assumption
    rcases List.mem_cons.mp q with q | q
    · subst q; rw [ha]; exact fun z => nomatch z
    · exact ih zt x q kvs
theorem addFr_lk {Hb H : Hp} {fp : List Addr} (l : Lkd Hb) (h : ∀ a ∈ fp, ∀ kvs, H a ≠ some (.dK kvs)) : Lkd (addFr Hb H fp) := fun a kvs e => by
  unfold addFr at e
  by_cases q : a ∈ fp
  · rw [if_pos q] at e; exact h a q kvs e
  · rw [if_neg q] at e; exact l a kvs e

/-! ### the slots -/
abbrev Env' := List (Option D)
inductive Ow (K : PySem.W.Frag) (F Hb H : Hp) : List T → L2.St → Env' → List Addr → Prop
  | nil : Ow K F Hb H [] [] [] []
  | any {Γ : List T} {σ : L2.St} {ρ : Env'} {fp : List Addr} (v : Option V) (d : Option D) : Ow K F Hb H Γ σ ρ fp → Ow K F Hb H (.any :: Γ) (v :: σ) (d :: ρ) fp
  | cons {t : T} {v : V} {d : D} {f : List Addr} {Γ : List T} {σ : L2.St} {ρ : Env'} {fp : List Addr} : Own K F Hb H [t] [v] [d] f → Ow K F Hb H Γ σ ρ fp → Ow K F Hb H (t :: Γ) (some v :: σ) (some d :: ρ) (f ++ fp)

structure Sta (K : PySem.W.Frag) (F Hb H : Hp) (Γ : List T) (σ : L2.St) (ρ : Env') (fp : List Addr) : Prop where
  ow : Ow K F Hb H Γ σ ρ fp
  nd : fp.Nodup
  sb : Same Hb H
  sf : Same F H
  lk : Lkd Hb

theorem Ow.ext {K : PySem.W.Frag} {F Hb H Hb' H' : Hp} (e : Ext Hb H Hb' H') {Γ : List T} {σ : L2.St} {ρ : Env'} {fp : List Addr} (h : Ow K F Hb H Γ σ ρ fp) : Ow K F Hb' H' Γ σ ρ fp := by
  induction h with
  | nil => exact .nil
  | any v d _ ih => exact .any v d ih
  | cons o _ ih => exact .cons (o.ext e) ih
theorem Sta.ext {K : PySem.W.Frag} {F Hb H Hb' H' : Hp} {Γ : List T} {σ : L2.St} {ρ : Env'} {fp : List Addr} (h : Sta K F Hb H Γ σ ρ fp) (e : Ext Hb H Hb' H') : Sta K F Hb' H' Γ σ ρ fp :=
  ⟨h.ow.ext e, h.nd, e.bh, h.sf.trans e.h, e.l h.lk⟩
theorem Ow.apart {K : PySem.W.Frag} {F Hb H : Hp} {Γ : List T} {σ : L2.St} {ρ : Env'} {fp : List Addr} (h : Ow K F Hb H Γ σ ρ fp) : ∀ a ∈ fp, H a ≠ none ∧ Hb a = none ∧ F a = none := by
  induction h with
  | nil => intro a q; simp at q
  | any v d _ ih => exact ih
  | cons o _ ih => intro x q; rcases List.mem_append.mp q with q | q; exact o.apart x q; exact ih x q
theorem Ow.frame {K : PySem.W.Frag} {F Hb H Hb' H' : Hp} {Γ : List T} {σ : L2.St} {ρ : Env'} {fp : List Addr} (h : Ow K F Hb H Γ σ ρ fp) (sb : Same Hb Hb') (kh : ∀ a ∈ fp, H' a = H a) (kb : ∀ a ∈ fp, Hb' a = Hb a) : Ow K F Hb' H' Γ σ ρ fp := by
  induction h with
  | nil => exact .nil
  | any v d _ ih => exact .any v d (ih kh kb)
  | cons o _ ih => exact .cons (o.frame sb (fun x q => kh x (List.mem_append_left _ q)) (fun x q => kb x (List.mem_append_left _ q))) (ih (fun x q => kh x (List.mem_append_right _ q)) (fun x q => kb x (List.mem_append_right _ q)))
theorem Ow.len {K : PySem.W.Frag} {F Hb H : Hp} {Γ : List T} {σ : L2.St} {ρ : Env'} {fp : List Addr} (h : Ow K F Hb H Γ σ ρ fp) : Γ.length = σ.length ∧ σ.length = ρ.length := by
  induction h <;> simp_all
/-- the slot i, of the kind t that is not any -/
theorem Ow.get {K : PySem.W.Frag} {F Hb H : Hp} {Γ : List T} {σ : L2.St} {ρ : Env'} {fp : List Addr} (h : Ow K F Hb H Γ σ ρ fp) : ∀ {i : Nat} {t : T}, Γ[i]? = some t → t ≠ .any → ∃ v d f, σ[i]? = some (some v) ∧ ρ[i]? = some (some d) ∧ Own K F Hb H [t] [v] [d] f ∧ ∀ a ∈ f, a ∈ fp := by
  induction h with
  | nil => intro i t e; simp at e
  | any v d _ ih =>
    intro i t e n
    cases i with
    | zero => simp at e; exact absurd e.symm n
    | succ i => obtain ⟨a, b, c, x, y, z, q⟩ := ih (i := i) (t := t) (by simpa using e) n; exact ⟨a, b, c, by simpa using x, by simpa using y, z, q⟩
  | cons o _ ih =>
    intro i t e n
    cases i with
    | zero => simp at e; subst e; exact ⟨_, _, _, rfl, rfl, o, fun a q => List.mem_append_left _ q⟩
    | succ i => obtain ⟨a, b, c, x, y, z, q⟩ := ih (i := i) (t := t) (by simpa using e) n; exact ⟨a, b, c, by simpa using x, by simpa using y, z, fun a h => List.mem_append_right _ (q a h)⟩
/-- taking the slot i out: what it holds, and the other slots -/
theorem Ow.out {K : PySem.W.Frag} {F Hb H : Hp} {Γ : List T} {σ : L2.St} {ρ : Env'} {fp : List Addr} (h : Ow K F Hb H Γ σ ρ fp) : ∀ {i : Nat} {t : T}, Γ[i]? = some t → t ≠ .any → ∃ v d f g, σ[i]? = some (some v) ∧ ρ[i]? = some (some d) ∧ Own K F Hb H [t] [v] [d] f ∧
    (∀ v' d', Ow K F Hb H (Γ.set i .any) (σ.set i v') (ρ.set i d') g) ∧ (fp.Nodup → (f ++ g).Nodup) ∧ (∀ a, a ∈ fp ↔ a ∈ f ∨ a ∈ g) := by
  induction h with
  | nil => intro i t e; simp at e
  | @any Γ σ ρ fp v d o ih =>
    intro i t e n
    cases i with
    | zero => simp at e; exact absurd e.symm n
    | succ i =>
      obtain ⟨a, b, f, g, x, y, z, q, r, s⟩ := ih (i := i) (t := t) (by simpa using e) n
      exact ⟨a, b, f, g, by simpa using x, by simpa using y, z, fun v' d' => by simpa using Ow.any v d (q v' d'), r, s⟩
  | @cons t' v d f0 Γ σ ρ fp o w ih =>
    intro i t e n
    cases i with
    | zero =>
      simp at e; subst e
      exact ⟨v, d, f0, fp, rfl, rfl, o, fun v' d' => by simpa using Ow.any v' d' w, fun q => q, fun a => List.mem_append⟩
    | succ i =>
      obtain ⟨a, b, f, g, x, y, z, q, r, s⟩ := ih (i := i) (t := t) (by simpa using e) n
      refine ⟨a, b, f, f0 ++ g, by simpa using x, by simpa using y, z, fun v' d' => by simpa using Ow.cons o (q v' d'), fun nd => ?_, fun u => ?_⟩
      · rw [List.nodup_append] at nd ⊢
        obtain ⟨n1, n2, n3⟩ := nd
        have n4 := r n2
        rw [List.nodup_append] at n4
        obtain ⟨m1, m2, m3⟩ := n4
        refine ⟨m1, ?_, fun u hu w' hw => ?_⟩
        · rw [List.nodup_append]
          exact ⟨n1, m2, fun u hu w' hw => n3 u hu w' ((s w').mpr (.inr hw))⟩
        · rcases List.mem_append.mp hw with hw | hw
          · exact (n3 w' hw u ((s u).mpr (.inl hu))).symm
          · exact m3 u hu w' hw
      · rw [List.mem_append, s u, List.mem_append]
        constructor
        · rintro (h | h | h)
          · exact .inr (.inl h)
          · exact .inl h
          · exact .inr (.inr h)
        · rintro (h | h | h)
          · exact .inr (.inl h)
          · exact .inl h
          · exact .inr (.inr h)
/-- putting a thing into a slot that is any -/
theorem Ow.put {K : PySem.W.Frag} {F Hb H : Hp} {Γ : List T} {σ : L2.St} {ρ : Env'} {fp : List Addr} (h : Ow K F Hb H Γ σ ρ fp) : ∀ {i : Nat} {t : T} {v : V} {d : D} {f : List Addr}, Γ[i]? = some .any → Own K F Hb H [t] [v] [d] f → ∃ gp, Ow K F Hb H (Γ.set i t) (σ.set i (some v)) (ρ.set i (some d)) gp ∧
    ((f ++ fp).Nodup → gp.Nodup) ∧ (∀ a, a ∈ gp ↔ a ∈ f ∨ a ∈ fp) := by
  induction h with
  | nil => intro i t v d f e; simp at e
  | @any Γ σ ρ fp v d w ih =>
    intro i t v' d' f e o
    cases i with
    | zero => exact ⟨f ++ fp, by simpa using Ow.cons o w, fun q => q, fun a => List.mem_append⟩
    | succ i =>
      obtain ⟨gp, q, r, s⟩ := ih (i := i) (by simpa using e) o
      exact ⟨gp, by simpa using Ow.any v d q, r, s⟩
  | @cons t' v d f0 Γ σ ρ fp o' w ih =>
    intro i t v' d' f e o
    cases i with
    | zero =>
      have et : t' = T.any := by simpa using e
      subst et
      cases o'.inv
    | succ i =>
      obtain ⟨gp, q, r, s⟩ := ih (i := i) (by simpa using e) o
      refine ⟨f0 ++ gp, by simpa using Ow.cons o' q, fun nd => ?_, fun a => ?_⟩
      · rw [List.nodup_append] at nd ⊢
        obtain ⟨n1, n2, n3⟩ := nd
        rw [List.nodup_append] at n2
        obtain ⟨m1, m2, m3⟩ := n2
        refine ⟨m1, r ?_, fun u hu w' hw => ?_⟩
        · rw [List.nodup_append]
          exact ⟨n1, m2, fun u hu w' hw => n3 u hu w' (List.mem_append_right _ hw)⟩
        · rcases (s w').mp hw with hw | hw
          · exact (n3 w' hw u (List.mem_append_left _ hu)).symm
          · exact m3 u hu w' hw
      · rw [List.mem_append, s a, List.mem_append]
        constructor
        · rintro (h | h | h)
          · exact .inr (.inl h)
          · exact .inl h
          · exact .inr (.inr h)
        · rintro (h | h | h)
          · exact .inr (.inl h)
          · exact .inl h
          · exact .inr (.inr h)
end Vm

/-! VmB: the judgements of expressions (QE, QT, QA) and their rules. -/
namespace Vm
open PySem PySem.Spec PyProof.Rows L2

structure Ctx where
  P : Program
  w : World
  K : PySem.W.Frag
  mg : Str → Option Value
  base : Heap
  N : List Str
  sc : Scope
  fn : Str → Bool
  k : Nat

/-- the context of a code, as the rules ask it -/
structure Ctx.Ok (c : Ctx) (X : Cx) : Prop where
  prog : X.prog = c.P
  w : X.w = c.w
  K : X.K = c.K
  mg : X.mg = c.mg
  base : X.base = c.base
  N : X.N = c.N
  sc : X.env.scope = c.sc
  fn : X.fn = c.fn
  calm : X.calm = true
  room : Room c.k X.A
  xe : X.xe = fun _ _ => False
  nd : X.N.Nodup

def Fresh (H : Hp) (f : List Addr) : Prop := f.Nodup ∧ ∀ a ∈ f, H a = none
theorem Fresh.nil {H : Hp} : Fresh H [] := ⟨List.nodup_nil, fun a q => by simp at q⟩
theorem Fresh.back {H H' : Hp} {f : List Addr} (e : Same H H') (h : Fresh H' f) : Fresh H f := ⟨h.1, fun a q => e.free (h.2 a q)⟩
theorem Fresh.F {F H : Hp} {f : List Addr} (e : Same F H) (h : Fresh H f) : ∀ a ∈ f, F a = none := fun a q => e.free (h.2 a q)
/-- what is made later is apart from what is there -/
theorem Fresh.app {H H' : Hp} {f g : List Addr} (h : Fresh H f) (e : Same H H') (th : ∀ a ∈ f, H' a ≠ none) (h2 : Fresh H' g) : Fresh H (f ++ g) :=
  ⟨List.nodup_append.mpr ⟨h.1, h2.1, fun a ha b hb q => th a ha (q ▸ h2.2 b hb)⟩, fun a q => (List.mem_append.mp q).elim (h.2 a) fun q => e.free (h2.2 a q)⟩

/-- e is f of the slots, quietly: nothing that stood is changed -/
structure QE (c : Ctx) (Γ : List T) (e : Expr) (f : Env' → Option D) (t : T) (m : Bool) : Prop where
  ex : ∃ te : TE, (∀ X, c.Ok X → PE X e te) ∧ ∀ F Hb H σ ρ fp d, Sta c.K F Hb H Γ σ ρ fp → f ρ = some d → ∀ Q : VK,
    (∀ v Hb' H' fv, Ext Hb H Hb' H' → Own c.K F Hb' H' [t] [v] [d] fv → (m = true → Fresh H fv) → Q v H') → te σ H Q
structure QT (c : Ctx) (Γ : List T) (e : Expr) (f : Env' → Option Bool) : Prop where
  ex : ∃ te : TT, (∀ X, c.Ok X → PT X e te) ∧ ∀ F Hb H σ ρ fp b, Sta c.K F Hb H Γ σ ρ fp → f ρ = some b → ∀ Q : Bool → Hp → Prop,
    (∀ Hb' H', Ext Hb H Hb' H' → Q b H') → te σ H Q
structure QW (c : Ctx) (Γ : List T) (e : Expr) (f : Env' → Option Bool) : Prop where
  ex : ∃ te : TT, (∀ X, c.Ok X → PW X e te) ∧ ∀ F Hb H σ ρ fp b, Sta c.K F Hb H Γ σ ρ fp → f ρ = some b → ∀ Q : Bool → Hp → Prop,
    (∀ Hb' H', Ext Hb H Hb' H' → Q b H') → te σ H Q
structure QA (c : Ctx) (Γ : List T) (es : List Expr) (f : Env' → Option (List D)) (ts : List T) (m : Bool) : Prop where
  ex : ∃ te : TA, (∀ X, c.Ok X → PA X es te) ∧ ∀ F Hb H σ ρ fp ds, Sta c.K F Hb H Γ σ ρ fp → f ρ = some ds → ∀ Q : List V → Hp → Prop,
    (∀ vs Hb' H' fv, Ext Hb H Hb' H' → Own c.K F Hb' H' ts vs ds fv → (m = true → Fresh H fv) → Q vs H') → te σ H Q

/-! ### slots and constants -/
def getV (i : Nat) (ρ : Env') : Option D := (ρ[i]?).join
theorem getV_some {i : Nat} {ρ : Env'} {d : D} (h : ρ[i]? = some (some d)) : getV i ρ = some d := by
  unfold getV
  rw [h]
  rfl
section
variable {c : Ctx} {Γ : List T} {pos : Pos}
theorem qe_var {x : Str} {i : Nat} {t : T} {m : Bool} (hN : c.N[i]? = some x) (hv : Vis c.sc x) (ht : Γ[i]? = some t) (hm : (t = .fr ∨ t = .rd) ∨ (m = false ∧ t ≠ .any)) (hd : (x == ("__debug__" : Str)) = false := by decide) (hcd : (x == ("__classdict__" : Str)) = false := by decide) :
    QE c Γ (.Name x pos) (getV i) t m := by
  refine ⟨tVar i, fun X ok => pe_var (by rw [ok.N]; exact hN) (by rw [ok.sc]; exact hv) hd hcd, fun F Hb H σ ρ fp d S e Q q => ?_⟩
  have na : t ≠ .any := by
    rcases hm with (h | h) | h
    · rw [h]; exact fun z => nomatch z
    · rw [h]; exact fun z => nomatch z
    · exact h.2
  obtain ⟨v, d', f, h1, h2, h3, h4⟩ := S.ow.get ht na
  rw [getV_some h2] at e
  cases e
  refine ⟨v, h1, q v Hb H f (.refl S.sb) h3 fun em => ?_⟩
  rcases hm with (h | h) | h
  · subst h
    cases h3.inv
    exact .nil
  · subst h
    cases h3.inv
    exact .nil
  · rw [h.1] at em
    cases em
theorem qe_int {n : Int} {j : Nat} {m : Bool} : QE c Γ (.Constant (.int n) j pos) (fun _ => some (.int n)) .fr m :=
  ⟨_, fun X _ => pe_int, fun F Hb H σ ρ fp d S e Q q => by cases e; exact q _ Hb H [] (.refl S.sb) (.fr (.int n)) fun _ => .nil⟩
theorem qe_bl {n : Bool} {j : Nat} {m : Bool} : QE c Γ (.Constant (.bool n) j pos) (fun _ => some (.bl n)) .fr m :=
  ⟨_, fun X _ => pe_bl, fun F Hb H σ ρ fp d S e Q q => by cases e; exact q _ Hb H [] (.refl S.sb) (.fr (.bl n)) fun _ => .nil⟩
theorem qe_non {j : Nat} {m : Bool} : QE c Γ (.Constant .none j pos) (fun _ => some .non) .fr m :=
  ⟨_, fun X _ => pe_non, fun F Hb H σ ρ fp d S e Q q => by cases e; exact q _ Hb H [] (.refl S.sb) (.fr .non) fun _ => .nil⟩
theorem qe_str {n : Str} {j : Nat} {m : Bool} : QE c Γ (.Constant (.str n) j pos) (fun _ => some (.str n)) .fr m :=
  ⟨_, fun X _ => pe_str, fun F Hb H σ ρ fp d S e Q q => by cases e; exact q _ Hb H [] (.refl S.sb) (.fr (.str n)) fun _ => .nil⟩
/-- a constant of the module -/
theorem qe_glob {x : Str} {v : V} {u : Value} {d : D} {m : Bool} (hg : c.sc.names.lookup x = some .globalImplicit) (hm : c.mg x = some u) (r : RelV v u) (hv : Vw c.K (fun _ => none) [v] [d]) (hd : (x == ("__debug__" : Str)) = false := by decide) :
    QE c Γ (.Name x pos) (fun _ => some d) .fr m :=
  ⟨tC v, fun X ok => pe_glob (show X.env.scope.names.lookup x = _ by rw [ok.sc]; exact hg) (by rw [ok.mg]; exact hm) r hd, fun F Hb H σ ρ fp d' S e Q q => by
    cases e
    exact q _ Hb H [] (.refl S.sb) (.fr (hv.mono fun a o z => by cases z)) fun _ => .nil⟩

/-! ### kinds made weaker -/
/-- what was made anew may be shared -/
theorem qe_fz {e : Expr} {f : Env' → Option D} {t : T} {m : Bool} (h : QE c Γ e f t true) (z : Fz t) : QE c Γ e f .fr m := by
  obtain ⟨te, h1, h2⟩ := h.ex
  refine ⟨te, h1, fun F Hb H σ ρ fp d S e Q q => h2 F Hb H σ ρ fp d S e Q fun v Hb' H' fv x o fr => ?_⟩
  have fr := fr rfl
  have ap := o.apart
  refine q v (addFr Hb' H' fv) H' [] ⟨x.h, x.b.trans (addFr_same fun a ha => (ap a ha).2.1), addFr_in x.bh, fun a n => ?_, fun l => addFr_lk (x.l l) (o.nodict fun t' ht => by simp at ht; subst ht; exact z)⟩ (.fr (o.freeze x.bh fun t' ht => by simp at ht; subst ht; exact z)) fun _ => .nil
  unfold addFr
  rw [if_neg fun ha => n (fr.2 a ha)]
  exact x.k a n
theorem qe_old {e : Expr} {f : Env' → Option D} {t : T} {m : Bool} (h : QE c Γ e f t true) : QE c Γ e f t m := by
  obtain ⟨te, h1, h2⟩ := h.ex
  exact ⟨te, h1, fun F Hb H σ ρ fp d S e Q q => h2 F Hb H σ ρ fp d S e Q fun v Hb' H' fv x o fr => q v Hb' H' fv x o fun _ => fr rfl⟩

/-! ### operations on values that give a flat value (or one of the module) -/
def Flat (K : PySem.W.Frag) (g : R2) (f : D → D → Option D) : Prop :=
  ∀ H x y a b d, Vw K H [x] [a] → Vw K H [y] [b] → f a b = some d → ∀ Q : VK, (∀ v, Vw K (fun _ => none) [v] [d] → Q v H) → g x y H Q
theorem vw0 {K : PySem.W.Frag} {H : Hp} {vs : List V} {ds : List D} (h : Vw K (fun _ => none) vs ds) : Vw K H vs ds := h.mono fun a o z => by cases z
structure OpS (c : Ctx) (op : Value → Value → Sem Value) (f : D → D → Option D) : Prop where
  ex : ∃ r : R2, (∀ X, c.Ok X → OpR X op r) ∧ Flat c.K r f

theorem two {a b : Expr} {fa fb : Env' → Option D} {ta tb : T} {ma mb : Bool} (ha : QE c Γ a fa ta ma) (hb : QE c Γ b fb tb mb) :
    ∃ ea eb : TE, (∀ X, c.Ok X → PE X a ea) ∧ (∀ X, c.Ok X → PE X b eb) ∧ ∀ F Hb H σ ρ fp x y, Sta c.K F Hb H Γ σ ρ fp → fa ρ = some x → fb ρ = some y → ∀ Q : V → V → Hp → Prop,
      (∀ v w Hb' H' f g, Ext Hb H Hb' H' → Own c.K F Hb' H' [ta] [v] [x] f → Own c.K F Hb' H' [tb] [w] [y] g → Same F H' → Same Hb' H' → (ma = true → Fresh H f) → (mb = true → Fresh H g ∧ ∀ a ∈ f, a ∉ g) → Q v w H') → ea σ H fun v H1 => eb σ H1 fun w H2 => Q v w H2 := by
  obtain ⟨ea, h1, h2⟩ := ha.ex
  obtain ⟨eb, h3, h4⟩ := hb.ex
  refine ⟨ea, eb, h1, h3, fun F Hb H σ ρ fp x y S e1 e2 Q q => h2 F Hb H σ ρ fp x S e1 _ fun v Hb1 H1 f x1 o1 r1 => ?_⟩
  refine h4 F Hb1 H1 σ ρ fp y (S.ext x1) e2 _ fun w Hb2 H2 g x2 o2 r2 => ?_
  refine q v w Hb2 H2 f g (x1.trans x2) (o1.ext x2) o2 ((S.sf.trans x1.h).trans x2.h) x2.bh r1 fun em => ⟨(r2 em).back x1.h, fun a ha hg => (o1.apart a ha).1 ((r2 em).2 a hg)⟩
def op2 (g : D → D → Option D) (fa fb : Env' → Option D) : Env' → Option D := fun ρ => (fa ρ).bind fun x => (fb ρ).bind fun y => g x y
theorem op2_some {g : D → D → Option D} {fa fb : Env' → Option D} {ρ : Env'} {d : D} (h : op2 g fa fb ρ = some d) : ∃ x y, fa ρ = some x ∧ fb ρ = some y ∧ g x y = some d := by
  unfold op2 at h
  obtain ⟨x, e1, h⟩ := Option.bind_eq_some_iff.mp h
  obtain ⟨y, e2, h⟩ := Option.bind_eq_some_iff.mp h
  exact ⟨x, y, e1, e2, h⟩
theorem qe_op {a b : Expr} {fa fb : Env' → Option D} {ta tb : T} {ma mb m : Bool} {op : Operator} {g : D → D → Option D} (ho : OpS c (binaryOp op) g) (ha : QE c Γ a fa ta ma) (hb : QE c Γ b fb tb mb) :
    QE c Γ (.BinOp a op b pos) (op2 g fa fb) .fr m := by
  obtain ⟨r, hr, hf⟩ := ho.ex
  obtain ⟨ea, eb, h1, h2, h3⟩ := two ha hb
  refine ⟨tOp r ea eb, fun X ok => pe_op (hr X ok) (h1 X ok) (h2 X ok), fun F Hb H σ ρ fp d S e Q q => ?_⟩
  obtain ⟨x, y, e1, e2, e3⟩ := op2_some e
  refine h3 F Hb H σ ρ fp x y S e1 e2 (fun v w H2 => r v w H2 Q) fun v w Hb' H' f g x1 o1 o2 sf sb _ _ => ?_
  exact hf H' v w x y d (o1.vw sb sf) (o2.vw sb sf) e3 Q fun z hz => q z Hb' H' [] x1 (.fr (vw0 hz)) fun _ => .nil
theorem qe_cmp {a b : Expr} {fa fb : Env' → Option D} {ta tb : T} {ma mb m : Bool} {op : CmpOp} {g : D → D → Option D} (ho : OpS c (compareOp op) g) (ha : QE c Γ a fa ta ma) (hb : QE c Γ b fb tb mb) (hm : behindInMarks op b = false := by first | exact nomark _ | rfl | with_unfolding_all rfl) :
    QE c Γ (.Compare a [op] [b] pos) (op2 g fa fb) .fr m := by
  obtain ⟨r, hr, hf⟩ := ho.ex
  obtain ⟨ea, eb, h1, h2, h3⟩ := two ha hb
  refine ⟨tOp r ea eb, fun X ok => pe_cmpR (hr X ok) (h1 X ok) (h2 X ok) hm, fun F Hb H σ ρ fp d S e Q q => ?_⟩
  obtain ⟨x, y, e1, e2, e3⟩ := op2_some e
  refine h3 F Hb H σ ρ fp x y S e1 e2 (fun v w H2 => r v w H2 Q) fun v w Hb' H' f g x1 o1 o2 sf sb _ _ => ?_
  exact hf H' v w x y d (o1.vw sb sf) (o2.vw sb sf) e3 Q fun z hz => q z Hb' H' [] x1 (.fr (vw0 hz)) fun _ => .nil
def asB : D → Option Bool
  | .bl b => some b
  | _ => none
theorem vw_bl {K : PySem.W.Frag} {H : Hp} {v : V} {d : D} {b : Bool} (h : Vw K H [v] [d]) (e : asB d = some b) : v = .bl b := by
  cases d with
  | bl k =>
    cases e
    cases h.inv
    rfl
  | _ => cases e
theorem qt_cmp {a b : Expr} {fa fb : Env' → Option D} {ta tb : T} {ma mb : Bool} {op : CmpOp} {g : D → D → Option D} (ho : OpS c (compareOp op) g) (ha : QE c Γ a fa ta ma) (hb : QE c Γ b fb tb mb) (hm : behindInMarks op b = false := by first | exact nomark _ | rfl | with_unfolding_all rfl) :
    QT c Γ (.Compare a [op] [b] pos) (fun ρ => (op2 g fa fb ρ).bind asB) := by
  obtain ⟨r, hr, hf⟩ := ho.ex
  obtain ⟨ea, eb, h1, h2, h3⟩ := two ha hb
  refine ⟨tTest (tOp r ea eb), fun X ok => pt_cmpR (hr X ok) (h1 X ok) (h2 X ok) hm, fun F Hb H σ ρ fp d S e Q q => ?_⟩
  obtain ⟨d0, e, eb⟩ := Option.bind_eq_some_iff.mp e
  obtain ⟨x, y, e1, e2, e3⟩ := op2_some e
  refine h3 F Hb H σ ρ fp x y S e1 e2 (fun v w H2 => r v w H2 _) fun v w Hb' H' f g x1 o1 o2 sf sb _ _ => ?_
  exact hf H' v w x y d0 (o1.vw sb sf) (o2.vw sb sf) e3 _ fun z hz => ⟨d, vw_bl hz eb, q Hb' H' x1⟩
/-- a op b op c -/
def ch3 (g g' : D → D → Option D) (fa fb fc : Env' → Option D) : Env' → Option Bool := fun ρ => (fa ρ).bind fun x => (fb ρ).bind fun y => ((g x y).bind asB).bind fun k => if k = true then (fc ρ).bind fun z => (g' y z).bind asB else some false
theorem chain_core {a b e3 : Expr} {fa fb fc : Env' → Option D} {ta tb tc : T} {ma mb mc : Bool} {op op' : CmpOp} {g g' : D → D → Option D} (ho : OpS c (compareOp op) g) (ho' : OpS c (compareOp op') g') (ha : QE c Γ a fa ta ma) (hb : QE c Γ b fb tb mb) (hc : QE c Γ e3 fc tc mc) :
    ∃ r r' ea eb ec, (∀ X, c.Ok X → OpR X (compareOp op) r) ∧ (∀ X, c.Ok X → OpR X (compareOp op') r') ∧ (∀ X, c.Ok X → PE X a ea) ∧ (∀ X, c.Ok X → PE X b eb) ∧ (∀ X, c.Ok X → PE X e3 ec) ∧
      ∀ F Hb H σ ρ fp d, Sta c.K F Hb H Γ σ ρ fp → ch3 g g' fa fb fc ρ = some d → ∀ Q : VK, (∀ Hb' H', Ext Hb H Hb' H' → Q (.bl d) H') → tChain r r' ea eb ec σ H Q := by
  obtain ⟨r, hr, hf⟩ := ho.ex
  obtain ⟨r', hr', hf'⟩ := ho'.ex
  obtain ⟨ea, eb, h1, h2, h3⟩ := two ha hb
  obtain ⟨ec, h4, h5⟩ := hc.ex
  refine ⟨r, r', ea, eb, ec, hr, hr', h1, h2, h4, fun F Hb H σ ρ fp d S e Q q => ?_⟩
  unfold ch3 at e
  obtain ⟨x, e1, e⟩ := Option.bind_eq_some_iff.mp e
  obtain ⟨y, e2, e⟩ := Option.bind_eq_some_iff.mp e
  obtain ⟨k, ek, e⟩ := Option.bind_eq_some_iff.mp e
  obtain ⟨d0, ed, ek⟩ := Option.bind_eq_some_iff.mp ek
  refine h3 F Hb H σ ρ fp x y S e1 e2 (fun v w H2 => r v w H2 _) fun v w Hb' H' f g0 x1 o1 o2 sf sb _ _ => ?_
  refine hf H' v w x y d0 (o1.vw sb sf) (o2.vw sb sf) ed _ fun z hz => ⟨k, vw_bl hz ek, ?_⟩
  cases k with
  | false =>
    rw [if_neg Bool.false_ne_true] at e ⊢
    cases e
    exact q Hb' H' x1
  | true =>
    rw [if_pos rfl] at e ⊢
    obtain ⟨z', ez, e⟩ := Option.bind_eq_some_iff.mp e
    obtain ⟨d1, ed1, ek1⟩ := Option.bind_eq_some_iff.mp e
    refine h5 F Hb' H' σ ρ fp z' (S.ext x1) ez _ fun u Hb2 H2 f2 x2 o3 _ => ?_
    have s2 : Same F H2 := sf.trans x2.h
    refine hf' H2 w u y z' d1 ((o2.ext x2).vw x2.bh s2) (o3.vw x2.bh s2) ed1 _ fun z2 hz2 => ?_
    rw [vw_bl hz2 ek1]
    exact q Hb2 H2 (x1.trans x2)
theorem qe_chain {a b e3 : Expr} {fa fb fc : Env' → Option D} {ta tb tc : T} {ma mb mc m : Bool} {op op' : CmpOp} {g g' : D → D → Option D} (ho : OpS c (compareOp op) g) (ho' : OpS c (compareOp op') g') (ha : QE c Γ a fa ta ma) (hb : QE c Γ b fb tb mb) (hc : QE c Γ e3 fc tc mc)
    (hm : lastMarks [op, op'] [b, e3] = false := by with_unfolding_all rfl) : QE c Γ (.Compare a [op, op'] [b, e3] pos) (fun ρ => (ch3 g g' fa fb fc ρ).map D.bl) .fr m := by
  obtain ⟨r, r', ea, eb, ec, h1, h2, h3, h4, h5, h6⟩ := chain_core ho ho' ha hb hc
  refine ⟨_, fun X ok => pe_chain (h1 X ok) (h2 X ok) (h3 X ok) (h4 X ok) (h5 X ok) hm, fun F Hb H σ ρ fp d S e Q q => ?_⟩
  obtain ⟨k, e0, ed⟩ := Option.map_eq_some_iff.mp e
  subst ed
  exact h6 F Hb H σ ρ fp k S e0 Q fun Hb' H' x => q _ Hb' H' [] x (.fr (.bl k)) fun _ => .nil
theorem qt_chain {a b e3 : Expr} {fa fb fc : Env' → Option D} {ta tb tc : T} {ma mb mc : Bool} {op op' : CmpOp} {g g' : D → D → Option D} (ho : OpS c (compareOp op) g) (ho' : OpS c (compareOp op') g') (ha : QE c Γ a fa ta ma) (hb : QE c Γ b fb tb mb) (hc : QE c Γ e3 fc tc mc)
    (hm : lastMarks [op, op'] [b, e3] = false := by with_unfolding_all rfl) : QT c Γ (.Compare a [op, op'] [b, e3] pos) (ch3 g g' fa fb fc) := by
  obtain ⟨r, r', ea, eb, ec, h1, h2, h3, h4, h5, h6⟩ := chain_core ho ho' ha hb hc
  refine ⟨_, fun X ok => pt_chain (h1 X ok) (h2 X ok) (h3 X ok) (h4 X ok) (h5 X ok) hm, fun F Hb H σ ρ fp d S e Q q => ?_⟩
  exact h6 F Hb H σ ρ fp d S e _ fun Hb' H' x => ⟨d, rfl, q Hb' H' x⟩

/-! ### tests -/
def sL : Nat := 16777216
def truD : D → Option Bool
  | .non => some false
  | .bl b => some b
  | .int i => some (i != 0)
  | .str y => if y.length ≤ sL then some (y.length != 0) else none
  | .tup ds => some (!ds.isEmpty)
  | .lst ds => some (!ds.isEmpty)
  | .dct kvs => some (!kvs.isEmpty)
  | .obj _ _ => none
theorem isEmpty_len {α β : Type} {xs : List α} {ys : List β} (h : xs.length = ys.length) : xs.isEmpty = ys.isEmpty := by
  cases xs <;> cases ys <;> simp_all
/-- the truth of a value that is no dict -/
def truF : D → Option Bool
  | .dct _ => none
  | d => truD d
theorem truF_ok {K : PySem.W.Frag} {H : Hp} {v : V} {d : D} {k : Bool} (h : Vw K H [v] [d]) (e : truF d = some k) : TruV K v H k := by
  cases h.inv with
  | non => cases e; rfl
  | bl b => cases e; rfl
  | int i => cases e; rfl
  | str x =>
    have e : (if x.length ≤ sL then some (x.length != 0) else none) = some k := e
    by_cases hl : x.length ≤ sL
    · rw [if_pos hl] at e
      cases e
      refine ⟨by rw [sizeLine_eq]; exact hl, ?_⟩
      cases hx : x.length <;> simp <;> omega
    · rw [if_neg hl] at e; cases e
  | @tup a vs ds s x => cases e; exact .inr (.inl ⟨vs, s.t, by rw [isEmpty_len x.len]⟩)
  | @lst a vs ds s x => cases e; exact .inl ⟨vs, s, by rw [isEmpty_len x.len]⟩
  | dct _ _ => cases e
  | obj _ _ => cases e
theorem qt_val {a : Expr} {fa : Env' → Option D} {t : T} {m : Bool} (ha : QE c Γ a fa t m) (he : ∀ (env : Env) (whole : Sem Value), isTrue a env whole = (do let v ← whole; standAt a.pos; holding [v] (truthy v)) := by intro _ _; rfl) :
    QT c Γ a (fun ρ => (fa ρ).bind truF) := by
  obtain ⟨te, h1, h2⟩ := ha.ex
  refine ⟨fun σ H Q => te σ H fun x H' => ∃ k, TruV c.K x H' k ∧ Q k H', fun X ok => ?_, fun F Hb H σ ρ fp b S e Q q => ?_⟩
  · have := pt_truth (h1 X ok) (he X.env)
    rw [ok.K] at this
    exact this
  · obtain ⟨d, e, eb⟩ := Option.bind_eq_some_iff.mp e
    refine h2 F Hb H σ ρ fp d S e _ fun v Hb' H' fv x o _ => ⟨b, truF_ok (o.vw x.bh (S.sf.trans x.h)) eb, q Hb' H' x⟩
theorem qt_not {a : Expr} {f : Env' → Option Bool} (ha : QT c Γ a f) : QT c Γ (.UnaryOp .Not a pos) (fun ρ => (f ρ).map (!·)) := by
  obtain ⟨te, h1, h2⟩ := ha.ex
  refine ⟨tNot te, fun X ok => pt_not (h1 X ok), fun F Hb H σ ρ fp b S e Q q => ?_⟩
  obtain ⟨k, e0, ek⟩ := Option.map_eq_some_iff.mp e
  subst ek
  exact h2 F Hb H σ ρ fp k S e0 _ q
theorem QW.qt {a : Expr} {f : Env' → Option Bool} (h : QW c Γ a f) : QT c Γ a f := by
  obtain ⟨te, h1, h2⟩ := h.ex
  exact ⟨te, fun X ok => (h1 X ok).pt, h2⟩
def andB (f g : Env' → Option Bool) : Env' → Option Bool := fun ρ => (f ρ).bind fun k => if k = true then g ρ else some false
def orB (f g : Env' → Option Bool) : Env' → Option Bool := fun ρ => (f ρ).bind fun k => if k = true then some true else g ρ
theorem qw_and1 {a : Expr} {f : Env' → Option Bool} (ha : QT c Γ a f) : QW c Γ (.BoolOp .And [a] pos) f := by
  obtain ⟨te, h1, h2⟩ := ha.ex
  exact ⟨te, fun X ok => pw_and1 (h1 X ok), h2⟩
theorem qw_or1 {a : Expr} {f : Env' → Option Bool} (ha : QT c Γ a f) : QW c Γ (.BoolOp .Or [a] pos) f := by
  obtain ⟨te, h1, h2⟩ := ha.ex
  exact ⟨te, fun X ok => pw_or1 (h1 X ok), h2⟩
theorem qw_and {a b : Expr} {rest : List Expr} {f g : Env' → Option Bool} (ha : QT c Γ a f) (hb : QW c Γ (.BoolOp .And (b :: rest) pos) g) : QW c Γ (.BoolOp .And (a :: b :: rest) pos) (andB f g) := by
  obtain ⟨te, h1, h2⟩ := ha.ex
  obtain ⟨tf, h3, h4⟩ := hb.ex
  refine ⟨tAnd te tf, fun X ok => pw_and (h1 X ok) (h3 X ok), fun F Hb H σ ρ fp b S e Q q => ?_⟩
  obtain ⟨k, e1, e⟩ := Option.bind_eq_some_iff.mp e
  refine h2 F Hb H σ ρ fp k S e1 _ fun Hb' H' x => ?_
  cases k with
  | true =>
    rw [if_pos rfl] at e ⊢
    exact h4 F Hb' H' σ ρ fp b (S.ext x) e Q fun Hb2 H2 x2 => q Hb2 H2 (x.trans x2)
  | false =>
    rw [if_neg Bool.false_ne_true] at e ⊢
    cases e
    exact q Hb' H' x
theorem qw_or {a b : Expr} {rest : List Expr} {f g : Env' → Option Bool} (ha : QT c Γ a f) (hb : QW c Γ (.BoolOp .Or (b :: rest) pos) g) : QW c Γ (.BoolOp .Or (a :: b :: rest) pos) (orB f g) := by
  obtain ⟨te, h1, h2⟩ := ha.ex
  obtain ⟨tf, h3, h4⟩ := hb.ex
  refine ⟨tOr te tf, fun X ok => pw_or (h1 X ok) (h3 X ok), fun F Hb H σ ρ fp b S e Q q => ?_⟩
  obtain ⟨k, e1, e⟩ := Option.bind_eq_some_iff.mp e
  refine h2 F Hb H σ ρ fp k S e1 _ fun Hb' H' x => ?_
  cases k with
  | false =>
    rw [if_neg Bool.false_ne_true] at e ⊢
    exact h4 F Hb' H' σ ρ fp b (S.ext x) e Q fun Hb2 H2 x2 => q Hb2 H2 (x.trans x2)
  | true =>
    rw [if_pos rfl] at e ⊢
    cases e
    exact q Hb' H' x
/-! .. as values: all but the last are True or False -/
def andV (f g : Env' → Option D) : Env' → Option D := fun ρ => ((f ρ).bind asB).bind fun k => if k = true then g ρ else some (.bl false)
def orV (f g : Env' → Option D) : Env' → Option D := fun ρ => ((f ρ).bind asB).bind fun k => if k = true then some (.bl true) else g ρ
theorem qe_one {op : BoolOp} {a : Expr} {f : Env' → Option D} {t : T} {m : Bool} (ha : QE c Γ a f t m) : QE c Γ (.BoolOp op [a] pos) f t m := by
  obtain ⟨te, h1, h2⟩ := ha.ex
  exact ⟨te, fun X ok => pe_one (h1 X ok), h2⟩
theorem qe_and {a b : Expr} {rest : List Expr} {f g : Env' → Option D} {ta : T} {ma m : Bool} (ha : QE c Γ a f ta ma) (hb : QE c Γ (.BoolOp .And (b :: rest) pos) g .fr m) : QE c Γ (.BoolOp .And (a :: b :: rest) pos) (andV f g) .fr m := by
  obtain ⟨te, h1, h2⟩ := ha.ex
  obtain ⟨tf, h3, h4⟩ := hb.ex
  refine ⟨tAndV te tf, fun X ok => pe_and (h1 X ok) (h3 X ok), fun F Hb H σ ρ fp d S e Q q => ?_⟩
  obtain ⟨k, e1, e⟩ := Option.bind_eq_some_iff.mp e
  obtain ⟨d1, e1, ek⟩ := Option.bind_eq_some_iff.mp e1
  refine h2 F Hb H σ ρ fp d1 S e1 _ fun v Hb' H' fv x o _ => ⟨k, vw_bl (o.vw x.bh (S.sf.trans x.h)) ek, ?_⟩
  cases k with
  | true =>
    rw [if_pos rfl] at e ⊢
    exact h4 F Hb' H' σ ρ fp d (S.ext x) e Q fun v Hb2 H2 f2 x2 o2 r2 => q v Hb2 H2 f2 (x.trans x2) o2 fun em => (r2 em).back x.h
  | false =>
    rw [if_neg Bool.false_ne_true] at e ⊢
    cases e
    exact q _ Hb' H' [] x (.fr (.bl false)) fun _ => .nil
theorem qe_or {a b : Expr} {rest : List Expr} {f g : Env' → Option D} {ta : T} {ma m : Bool} (ha : QE c Γ a f ta ma) (hb : QE c Γ (.BoolOp .Or (b :: rest) pos) g .fr m) : QE c Γ (.BoolOp .Or (a :: b :: rest) pos) (orV f g) .fr m := by
  obtain ⟨te, h1, h2⟩ := ha.ex
  obtain ⟨tf, h3, h4⟩ := hb.ex
  refine ⟨tOrV te tf, fun X ok => pe_or (h1 X ok) (h3 X ok), fun F Hb H σ ρ fp d S e Q q => ?_⟩
  obtain ⟨k, e1, e⟩ := Option.bind_eq_some_iff.mp e
  obtain ⟨d1, e1, ek⟩ := Option.bind_eq_some_iff.mp e1
  refine h2 F Hb H σ ρ fp d1 S e1 _ fun v Hb' H' fv x o _ => ⟨k, vw_bl (o.vw x.bh (S.sf.trans x.h)) ek, ?_⟩
  cases k with
  | false =>
    rw [if_neg Bool.false_ne_true] at e ⊢
    exact h4 F Hb' H' σ ρ fp d (S.ext x) e Q fun v Hb2 H2 f2 x2 o2 r2 => q v Hb2 H2 f2 (x.trans x2) o2 fun em => (r2 em).back x.h
  | true =>
    rw [if_pos rfl] at e ⊢
    cases e
    exact q _ Hb' H' [] x (.fr (.bl true)) fun _ => .nil
theorem qe_not {a : Expr} {f : Env' → Option D} {ta : T} {ma m : Bool} (ha : QE c Γ a f ta ma) : QE c Γ (.UnaryOp .Not a pos) (fun ρ => ((f ρ).bind asB).map fun k => D.bl (!k)) .fr m := by
  obtain ⟨te, h1, h2⟩ := ha.ex
  refine ⟨tNotV te, fun X ok => pe_not (h1 X ok), fun F Hb H σ ρ fp d S e Q q => ?_⟩
  obtain ⟨k, e1, e⟩ := Option.map_eq_some_iff.mp e
  obtain ⟨d1, e1, ek⟩ := Option.bind_eq_some_iff.mp e1
  subst e
  exact h2 F Hb H σ ρ fp d1 S e1 _ fun v Hb' H' fv x o _ => ⟨k, vw_bl (o.vw x.bh (S.sf.trans x.h)) ek, q _ Hb' H' [] x (.fr (.bl _)) fun _ => .nil⟩
def ifD (f : Env' → Option Bool) (g h : Env' → Option D) : Env' → Option D := fun ρ => (f ρ).bind fun k => if k = true then g ρ else h ρ
theorem qe_if {a b e3 : Expr} {f : Env' → Option Bool} {g h : Env' → Option D} {t : T} {m : Bool} (hc : QT c Γ e3 f) (ha : QE c Γ a g t m) (hb : QE c Γ b h t m) : QE c Γ (.IfExp e3 a b pos) (ifD f g h) t m := by
  obtain ⟨tc, h1, h2⟩ := hc.ex
  obtain ⟨te, h3, h4⟩ := ha.ex
  obtain ⟨tf, h5, h6⟩ := hb.ex
  refine ⟨tIf tc te tf, fun X ok => pe_ifExp (h1 X ok) (h3 X ok) (h5 X ok), fun F Hb H σ ρ fp d S e Q q => ?_⟩
  obtain ⟨k, e1, e⟩ := Option.bind_eq_some_iff.mp e
  refine h2 F Hb H σ ρ fp k S e1 _ fun Hb' H' x => ?_
  cases k with
  | true =>
    rw [if_pos rfl] at e ⊢
    exact h4 F Hb' H' σ ρ fp d (S.ext x) e Q fun v Hb2 H2 f2 x2 o2 r2 => q v Hb2 H2 f2 (x.trans x2) o2 fun em => (r2 em).back x.h
  | false =>
    rw [if_neg Bool.false_ne_true] at e ⊢
    exact h6 F Hb' H' σ ρ fp d (S.ext x) e Q fun v Hb2 H2 f2 x2 o2 r2 => q v Hb2 H2 f2 (x.trans x2) o2 fun em => (r2 em).back x.h

/-! ### several -/
def nilA : Env' → Option (List D) := fun _ => some []
def consA (f : Env' → Option D) (g : Env' → Option (List D)) : Env' → Option (List D) := fun ρ => (f ρ).bind fun x => (g ρ).map (x :: ·)
theorem qa_nil {m : Bool} : QA c Γ [] nilA [] m := ⟨tNil, fun X _ => pa_nil, fun F Hb H σ ρ fp ds S e Q q => by cases e; exact q [] Hb H [] (.refl S.sb) .nil fun _ => .nil⟩
theorem qa_cons {a : Expr} {es : List Expr} {f : Env' → Option D} {g : Env' → Option (List D)} {t : T} {ts : List T} {m : Bool} (ha : QE c Γ a f t m) (hr : QA c Γ es g ts m) (hs : ∀ env : Env, starEach (a :: es) env = (false, eval a env) :: starEach es env := by intro _; rfl) : QA c Γ (a :: es) (consA f g) (t :: ts) m := by
  obtain ⟨te, h1, h2⟩ := ha.ex
  obtain ⟨tr, h3, h4⟩ := hr.ex
  refine ⟨tCons te tr, fun X ok => pa_cons (h1 X ok) (h3 X ok) (hs _), fun F Hb H σ ρ fp ds S e Q q => ?_⟩
  obtain ⟨x, e1, e⟩ := Option.bind_eq_some_iff.mp e
  obtain ⟨xs, e2, e⟩ := Option.map_eq_some_iff.mp e
  subst e
  refine h2 F Hb H σ ρ fp x S e1 _ fun v Hb1 H1 f1 x1 o1 r1 => ?_
  refine h4 F Hb1 H1 σ ρ fp xs (S.ext x1) e2 _ fun vs Hb2 H2 f2 x2 o2 r2 => ?_
  exact q (v :: vs) Hb2 H2 (f1 ++ f2) (x1.trans x2) (.cons (o1.ext x2) o2) fun em => (r1 em).app x1.h (fun a ha => (o1.apart a ha).1) (r2 em)

/-- a display: a tuple of shared things is shared -/
def tupD (f : Env' → Option (List D)) : Env' → Option D := fun ρ => (f ρ).bind fun ds => if ds.length ≤ sL then some (.tup ds) else none
def lstD (f : Env' → Option (List D)) : Env' → Option D := fun ρ => (f ρ).bind fun ds => if ds.length ≤ sL then some (.lst ds) else none
theorem Own.frs {K : PySem.W.Frag} {F Hb H : Hp} : ∀ {n : Nat} {vs : List V} {ds : List D} {fp : List Addr}, Own K F Hb H (List.replicate n .fr) vs ds fp → fp = [] ∧ Vw K Hb vs ds
  | 0, vs, ds, fp, h => by
    have e := h.nil_inv rfl
    have l := h.len
    obtain ⟨l1, l2⟩ := l
    have l1 : vs.length = 0 := l1.symm
    have l2 : ds.length = 0 := l2.symm.trans l1
    rw [List.eq_nil_of_length_eq_zero l1, List.eq_nil_of_length_eq_zero l2]
    exact ⟨e, .nil⟩
  | n + 1, [], ds, fp, h => by have := h.len; simp at this
  | n + 1, v :: vs, [], fp, h => by have := h.len; simp at this
  | n + 1, v :: vs, d :: ds, fp, h => by
    obtain ⟨f, g, e, a, b⟩ := h.uncons
    obtain ⟨e2, b2⟩ := Own.frs b
    have := a.inv
    cases this with
    | fr x => subst e e2; exact ⟨rfl, .cons x b2⟩
theorem Own.ofFrs {K : PySem.W.Frag} {F Hb H : Hp} : ∀ {vs : List V} {ds : List D}, Vw K Hb vs ds → Own K F Hb H (List.replicate ds.length .fr) vs ds []
  | [], [], _ => .nil
  | [], _ :: _, h => by have := h.len; simp at this
  | _ :: _, [], h => by have := h.len; simp at this
  | v :: vs, d :: ds, h => by
    have := Own.cons (Own.fr (F := F) (H := H) h.one.1) (Own.ofFrs (F := F) (H := H) h.one.2)
    exact this
theorem same_cons {H : Hp} {Hb : Hp} (p : Addr) (o : HO) (s : Same Hb H) : Same (upd Hb p o) (upd H p o) := fun b u e => by
  by_cases q : b = p
  · subst q; rw [upd_same] at e ⊢; exact e
  · rw [upd_ne q] at e ⊢; exact s b u e
theorem qe_tup {es : List Expr} {f : Env' → Option (List D)} {n : Nat} {j : Nat} {m mm : Bool} (ha : QA c Γ es f (List.replicate n .fr) m) : QE c Γ (.Tuple es j pos) (tupD f) .fr mm := by
  obtain ⟨te, h1, h2⟩ := ha.ex
  refine ⟨tTup te, fun X ok => pe_tup (h1 X ok), fun F Hb H σ ρ fp d S e Q q => ?_⟩
  obtain ⟨ds, e1, e⟩ := Option.bind_eq_some_iff.mp e
  refine h2 F Hb H σ ρ fp ds S e1 _ fun vs Hb' H' fv x o _ => ?_
  obtain ⟨_, w⟩ := o.frs
  by_cases hl : ds.length ≤ sL
  · rw [if_pos hl] at e
    cases e
    refine ⟨by rw [w.len, sizeLine_eq]; exact hl, fun p hp => ?_⟩
    have xn := Ext.newFr (o := .tup vs) x.bh hp
    exact q _ _ _ [] (x.trans xn) (.fr (.tup (.inl upd_same) (w.mono xn.b))) fun _ => .nil
  · rw [if_neg hl] at e; cases e
theorem qe_tupO {es : List Expr} {f : Env' → Option (List D)} {ts : List T} {j : Nat} {m : Bool} (ha : QA c Γ es f ts m) : QE c Γ (.Tuple es j pos) (tupD f) (.tup ts) m := by
  obtain ⟨te, h1, h2⟩ := ha.ex
  refine ⟨tTup te, fun X ok => pe_tup (h1 X ok), fun F Hb H σ ρ fp d S e Q q => ?_⟩
  obtain ⟨ds, e1, e⟩ := Option.bind_eq_some_iff.mp e
  refine h2 F Hb H σ ρ fp ds S e1 _ fun vs Hb' H' fv x o r => ?_
  by_cases hl : ds.length ≤ sL
  · rw [if_pos hl] at e
    cases e
    refine ⟨by rw [o.len.2, sizeLine_eq]; exact hl, fun p hp => ?_⟩
    have xn := Ext.new (o := .tup vs) x.bh hp
    refine q _ _ _ (p :: fv) (x.trans xn) (.tup upd_same (x.bh.free hp) ((S.sf.trans x.h).free hp) (o.ext xn)) fun em => ?_
    refine ⟨List.nodup_cons.mpr ⟨fun hm => (o.apart p hm).1 hp, (r em).1⟩, fun a ha => ?_⟩
    rcases List.mem_cons.mp ha with h | h
    · subst h; exact x.h.free hp
    · exact (r em).2 a h
  · rw [if_neg hl] at e; cases e
theorem qe_lst {es : List Expr} {f : Env' → Option (List D)} {n : Nat} {t : T} {m : Bool} (ha : QA c Γ es f (List.replicate n t) m) : QE c Γ (.List es pos) (lstD f) (.lst t) m := by
  obtain ⟨te, h1, h2⟩ := ha.ex
  refine ⟨tLst te, fun X ok => pe_lst (h1 X ok), fun F Hb H σ ρ fp d S e Q q => ?_⟩
  obtain ⟨ds, e1, e⟩ := Option.bind_eq_some_iff.mp e
  refine h2 F Hb H σ ρ fp ds S e1 _ fun vs Hb' H' fv x o r => ?_
  by_cases hl : ds.length ≤ sL
  · rw [if_pos hl] at e
    cases e
    have hz : vs.length ≤ sizeLine := by rw [o.len.2, sizeLine_eq]; exact hl
    refine ⟨hz, fun p hp => ?_⟩
    have xn := Ext.new (o := .lst vs) x.bh hp
    have en : List.replicate n t = List.replicate ds.length t := by
      have := o.len
      simp at this
      rw [this.1, this.2]
    rw [en] at o
    refine q _ _ _ (p :: fv) (x.trans xn) (.lst upd_same (x.bh.free hp) ((S.sf.trans x.h).free hp) (o.ext xn)) fun em => ?_
    refine ⟨List.nodup_cons.mpr ⟨fun hm => (o.apart p hm).1 hp, (r em).1⟩, fun a ha => ?_⟩
    rcases List.mem_cons.mp ha with h | h
    · subst h; exact x.h.free hp
    · exact (r em).2 a h
  · rw [if_neg hl] at e; cases e
end
end Vm

/-! VmC: operations on data, and that the model does them. -/
namespace Vm
open PySem PySem.Spec PyProof.Rows L2

/-! ### data as the library's -/
mutual
def D.py : D → PyData
  | .non => .none
  | .bl b => .bool b
  | .int i => .int i
  | .str x => .str x
  | .tup ds => .tuple (pyAll ds)
  | .lst ds => .list (pyAll ds)
  | .dct _ => .dict []
  | .obj _ _ => .dict []
def pyAll : List D → List PyData
  | [] => []
  | d :: ds => d.py :: pyAll ds
end
mutual
/-- no dict and no object lies within -/
def D.pl : D → Bool
  | .non | .bl _ | .int _ | .str _ => true
  | .tup ds | .lst ds => plAll ds
  | .dct _ | .obj _ _ => false
def plAll : List D → Bool
  | [] => true
  | d :: ds => d.pl && plAll ds
end
mutual
/-- how deep -/
def D.dp : D → Nat
  | .tup ds | .lst ds => dpAll ds + 1
  | _ => 0
def dpAll : List D → Nat
  | [] => 0
  | d :: ds => max d.dp (dpAll ds)
end
theorem pyAll_map : ∀ ds : List D, pyAll ds = ds.map D.py
  | [] => rfl
  | d :: ds => by rw [pyAll, pyAll_map ds]; rfl
mutual
theorem D.plain_py : ∀ d : D, d.pl = true → d.py.plain = true
  | .non, _ | .bl _, _ | .int _, _ | .str _, _ => by simp [D.py, PyData.plain]
  | .tup ds, h | .lst ds, h => by
    rw [D.py, PyData.plain]
    exact plainAll_py ds (by simpa [D.pl] using h)
  | .dct _, h | .obj _ _, h => by simp [D.pl] at h
theorem plainAll_py : ∀ ds : List D, plAll ds = true → PyData.plainAll (pyAll ds) = true
  | [], _ => by simp [pyAll, PyData.plainAll]
  | d :: ds, h => by
    have h : d.pl = true ∧ plAll ds = true := by simpa [plAll] using h
    rw [pyAll, PyData.plainAll, D.plain_py d h.1, plainAll_py ds h.2]
    rfl
end
mutual
theorem D.depth_py : ∀ d : D, d.pl = true → d.py.depth = d.dp
  | .non, _ | .bl _, _ | .int _, _ | .str _, _ => by simp [D.py, PyData.depth, D.dp]
  | .tup ds, h | .lst ds, h => by
    rw [D.py, PyData.depth, D.dp, depthAll_py ds (by simpa [D.pl] using h)]
  | .dct _, h | .obj _ _, h => by simp [D.pl] at h
theorem depthAll_py : ∀ ds : List D, plAll ds = true → PyData.depthAll (pyAll ds) = dpAll ds
  | [], _ => by simp [pyAll, PyData.depthAll, dpAll]
  | d :: ds, h => by
    have h : d.pl = true ∧ plAll ds = true := by simpa [plAll] using h
    rw [pyAll, PyData.depthAll, dpAll, D.depth_py d h.1, depthAll_py ds h.2]
end
section
variable {X : Cx} {pins : List (Addr × Obj)} {σ : L2.St} {H : Hp} {s : Shared}
mutual
theorem reads (I : Inv X pins σ H s) : ∀ (d : D) (v : V) (u : Value), d.pl = true → Vw X.K H [v] [d] → RelV v u → ∃ as, Reads s.heap u d.py as
  | .non, v, u, _, h, r => by cases h.inv; cases r; exact ⟨_, by rw [D.py]; exact .none⟩
  | .bl b, v, u, _, h, r => by cases h.inv; cases r; exact ⟨_, by rw [D.py]; exact .bool b⟩
  | .int i, v, u, _, h, r => by cases h.inv; obtain ⟨t, rfl⟩ := r; exact ⟨_, by rw [D.py]; exact .int i t⟩
  | .str x, v, u, _, h, r => by cases h.inv; obtain ⟨t, rfl⟩ := r; exact ⟨_, by rw [D.py]; exact .str x t⟩
  | .tup ds, v, u, p, h, r => by
    cases h.inv with
    | tup hs ha =>
      cases r
      obtain ⟨its, rv, ⟨o, ho, hc, n, hd⟩, _⟩ := I.tuple hs.t
      obtain ⟨as, hr⟩ := readsAll I ds _ its (by simpa [D.pl] using p) ha rv
      exact ⟨_, by rw [D.py]; exact Reads.tuple ho hc hd hr⟩
  | .lst ds, v, u, p, h, r => by
    cases h.inv with
    | lst hs ha =>
      cases r
      obtain ⟨its, rv, ⟨o, n, ho, hc, _, hd⟩, _⟩ := I.list hs
      obtain ⟨as, hr⟩ := readsAll I ds _ its (by simpa [D.pl] using p) ha rv
      exact ⟨_, by rw [D.py]; exact Reads.list ho hc hd hr⟩
  | .dct _, _, _, p, _, _ => by simp [D.pl] at p
  | .obj _ _, _, _, p, _, _ => by simp [D.pl] at p
theorem readsAll (I : Inv X pins σ H s) : ∀ (ds : List D) (vs : List V) (us : List Value), plAll ds = true → Vw X.K H vs ds → Vals vs us → ∃ as, ReadsAll s.heap us (pyAll ds) as
  | [], vs, us, _, h, r => by
    have l := h.len
    have l : vs = [] := List.eq_nil_of_length_eq_zero l
    subst l
    cases r
    exact ⟨_, by rw [pyAll]; exact .nil⟩
  | d :: ds, vs, us, p, h, r => by
    have p : d.pl = true ∧ plAll ds = true := by simpa [plAll] using p
    cases vs with
    | nil => have := h.len; simp at this
    | cons v vs =>
      cases r with
      | cons r1 r2 =>
        obtain ⟨as, q1⟩ := reads I d _ _ p.1 h.one.1 r1
        obtain ⟨bs, q2⟩ := readsAll I ds _ _ p.2 h.one.2 r2
        exact ⟨_, by rw [pyAll]; exact .cons q1 q2⟩
end
end

/-! ### == and != -/
def eqP (a b : D) : Bool := PyData.eqv a.py b.py
def eqOk (a b : D) : Bool := a.pl && b.pl && decide (min a.dp b.dp ≤ 64)
def eqD (a b : D) : Option D := if eqOk a b = true then some (.bl (eqP a b)) else none
def neD (a b : D) : Option D := if eqOk a b = true then some (.bl (!eqP a b)) else none
theorem room64 {A : Around} {k : Nat} (r : Room k A) {n : Nat} (h : n ≤ 64) : A.units + n < cLine := by have := r.units; omega
section
variable {c : Ctx}
theorem os_eq : OpS c (compareOp .Eq) eqD := by
  refine ⟨fun x y H Q => ∃ a b, eqOk a b = true ∧ Vw c.K H [x] [a] ∧ Vw c.K H [y] [b] ∧ Q (.bl (eqP a b)) H, fun X ok pins s σ H x y v u Q I rx ry h => ?_, fun H x y a b d h1 h2 e Q q => ?_⟩
  · obtain ⟨a, b, ho, h1, h2, q⟩ := h
    have ho : (a.pl = true ∧ b.pl = true) ∧ min a.dp b.dp ≤ 64 := by simpa [eqOk] using ho
    rw [← ok.K] at h1 h2
    obtain ⟨as, r1⟩ := reads I a x v ho.1.1 h1 rx
    obtain ⟨bs, r2⟩ := reads I b y u ho.1.2 h2 ry
    refine SeqAt.eq_plain r1 r2 (a.plain_py ho.1.1) (b.plain_py ho.1.2) ?_ ⟨.bl _, H, I, rfl, q⟩
    rw [a.depth_py ho.1.1, b.depth_py ho.1.2]
    exact room64 ok.room ho.2
  · unfold eqD at e
    by_cases ho : eqOk a b = true
    · rw [if_pos ho] at e
      cases e
      exact ⟨a, b, ho, h1, h2, q _ (.bl _)⟩
    · rw [if_neg ho] at e; cases e
theorem os_ne : OpS c (compareOp .NotEq) neD := by
  refine ⟨fun x y H Q => ∃ a b, eqOk a b = true ∧ Vw c.K H [x] [a] ∧ Vw c.K H [y] [b] ∧ Q (.bl (!eqP a b)) H, fun X ok pins s σ H x y v u Q I rx ry h => ?_, fun H x y a b d h1 h2 e Q q => ?_⟩
  · obtain ⟨a, b, ho, h1, h2, q⟩ := h
    have ho : (a.pl = true ∧ b.pl = true) ∧ min a.dp b.dp ≤ 64 := by simpa [eqOk] using ho
    rw [← ok.K] at h1 h2
    obtain ⟨as, r1⟩ := reads I a x v ho.1.1 h1 rx
    obtain ⟨bs, r2⟩ := reads I b y u ho.1.2 h2 ry
    refine SeqAt.ne_plain r1 r2 (a.plain_py ho.1.1) (b.plain_py ho.1.2) ?_ ⟨.bl _, H, I, rfl, q⟩
    rw [a.depth_py ho.1.1, b.depth_py ho.1.2]
    exact room64 ok.room ho.2
  · unfold neD at e
    by_cases ho : eqOk a b = true
    · rw [if_pos ho] at e
      cases e
      exact ⟨a, b, ho, h1, h2, q _ (.bl _)⟩
    · rw [if_neg ho] at e; cases e

/-! ### in -/
def inOk (x : D) (ds : List D) : Bool := x.pl && plAll ds && decide (min (dpAll ds) x.dp ≤ 60)
def inP (x : D) (ds : List D) : Bool := ds.any fun y => eqP y x
/-- x in y -/
def inB : D → D → Option Bool
  | x, .lst ds => if inOk x ds = true then some (inP x ds) else none
  | x, .tup ds => if inOk x ds = true then some (inP x ds) else none
  | .str w, .str z => if w.length = 1 then some (decide (w.cps.getD 0 0 ∈ z.cps.toList)) else none
  | _, _ => none
def inD (x y : D) : Option D := (inB x y).map D.bl
def ninD (x y : D) : Option D := (inB x y).map fun k => D.bl (!k)
theorem any_py (x : D) (ds : List D) : ((pyAll ds).any fun y => PyData.eqv y x.py) = inP x ds := by
  rw [pyAll_map, List.any_map]
  rfl
theorem str1 {w : Str} (h : w.length = 1) : w = ⟨#[w.cps.getD 0 0]⟩ := by
  obtain ⟨cs⟩ := w
  obtain ⟨l⟩ := cs
  cases l with
  | nil => cases h
  | cons x r =>
    cases r with
    | nil => rfl
    | cons y r => simp [Str.length] at h
theorem in_core {X : Cx} {op : CmpOp} {neg : Bool} (ok : c.Ok X) (hop : (op = .In ∧ neg = false) ∨ (op = .NotIn ∧ neg = true)) : OpR X (compareOp op) (fun x y H Q => ∃ a b k, inB a b = some k ∧ Vw c.K H [x] [a] ∧ Vw c.K H [y] [b] ∧ Q (.bl (if neg = true then !k else k)) H) := by
  intro pins s σ H x y v u Q I rx ry h
  obtain ⟨a, b, k, hk, h1, h2, q⟩ := h
  rw [← ok.K] at h1 h2
  have fin : ∀ {k' : Bool}, k' = (if neg = true then !k else k) → EP X pins σ Q (.bool k') s := fun e => ⟨.bl _, H, I, rfl, by rw [e]; exact q⟩
  cases b with
  | lst ds =>
    have hk : (if inOk a ds = true then some (inP a ds) else none) = some k := by
      cases a <;> exact hk
    by_cases ho : inOk a ds = true
    · rw [if_pos ho] at hk
      have hk : inP a ds = k := Option.some.inj hk
      have ho : (a.pl = true ∧ plAll ds = true) ∧ min (dpAll ds) a.dp ≤ 60 := by simpa [inOk] using ho
      obtain ⟨as, r1⟩ := reads I a x v ho.1.1 h1 rx
      obtain ⟨bs, r2⟩ := reads I (.lst ds) y u (by simpa [D.pl] using ho.1.2) h2 ry
      rw [D.py] at r2
      have room : X.A.units + 1 + min (PyData.depthAll (pyAll ds)) a.py.depth < cLine := by
        rw [depthAll_py ds ho.1.2, a.depth_py ho.1.1]
        have := ok.room.units
        omega
      rcases hop with ⟨e1, e2⟩ | ⟨e1, e2⟩
      · subst e1 e2
        exact SeqAt.in_list_data r2 r1 (plainAll_py ds ho.1.2) (a.plain_py ho.1.1) room (fin (by rw [any_py, hk]; rfl))
      · subst e1 e2
        exact SeqAt.notIn_list_data r2 r1 (plainAll_py ds ho.1.2) (a.plain_py ho.1.1) room (fin (by rw [any_py, hk]; rfl))
    · rw [if_neg ho] at hk
      cases hk
  | tup ds =>
    have hk : (if inOk a ds = true then some (inP a ds) else none) = some k := by
      cases a <;> exact hk
    by_cases ho : inOk a ds = true
    · rw [if_pos ho] at hk
      have hk : inP a ds = k := Option.some.inj hk
      have ho : (a.pl = true ∧ plAll ds = true) ∧ min (dpAll ds) a.dp ≤ 60 := by simpa [inOk] using ho
      obtain ⟨as, r1⟩ := reads I a x v ho.1.1 h1 rx
      obtain ⟨bs, r2⟩ := reads I (.tup ds) y u (by simpa [D.pl] using ho.1.2) h2 ry
      rw [D.py] at r2
      have room : X.A.units + 1 + min (PyData.depthAll (pyAll ds)) a.py.depth < cLine := by
        rw [depthAll_py ds ho.1.2, a.depth_py ho.1.1]
        have := ok.room.units
        omega
      rcases hop with ⟨e1, e2⟩ | ⟨e1, e2⟩
      · subst e1 e2
        exact SeqAt.in_tuple_data r2 r1 (plainAll_py ds ho.1.2) (a.plain_py ho.1.1) room (fin (by rw [any_py, hk]; rfl))
      · subst e1 e2
        exact SeqAt.notIn_tuple_data r2 r1 (plainAll_py ds ho.1.2) (a.plain_py ho.1.1) room (fin (by rw [any_py, hk]; rfl))
    · rw [if_neg ho] at hk
      cases hk
  | str z =>
    cases a with
    | str w =>
      have hk : (if w.length = 1 then some (decide (w.cps.getD 0 0 ∈ z.cps.toList)) else none) = some k := hk
      by_cases hw : w.length = 1
      · rw [if_pos hw] at hk
        have hk : decide (w.cps.getD 0 0 ∈ z.cps.toList) = k := Option.some.inj hk
        cases h1.inv
        cases h2.inv
        have ew := str1 hw
        rcases hop with ⟨e1, e2⟩ | ⟨e1, e2⟩
        · subst e1 e2
          refine op_in_sign pins s σ H _ _ v u Q I rx ry ⟨w.cps.getD 0 0, z, by rw [← ew], rfl, ?_⟩
          rw [hk]; exact q
        · subst e1 e2
          refine op_notIn_sign pins s σ H _ _ v u Q I rx ry ⟨w.cps.getD 0 0, z, by rw [← ew], rfl, ?_⟩
          rw [hk]; exact q
      · rw [if_neg hw] at hk
        cases hk
    | _ => cases hk
  | _ => cases a <;> cases hk
theorem os_in : OpS c (compareOp .In) inD :=
  ⟨_, fun X ok => in_core ok (.inl ⟨rfl, rfl⟩), fun H x y a b d h1 h2 e Q q => by
    obtain ⟨k, ek, ed⟩ := Option.map_eq_some_iff.mp e
    subst ed
    exact ⟨a, b, k, ek, h1, h2, q _ (.bl k)⟩⟩
theorem os_nin : OpS c (compareOp .NotIn) ninD :=
  ⟨_, fun X ok => in_core ok (.inr ⟨rfl, rfl⟩), fun H x y a b d h1 h2 e Q q => by
    obtain ⟨k, ek, ed⟩ := Option.map_eq_some_iff.mp e
    subst ed
    exact ⟨a, b, k, ek, h1, h2, q _ (.bl (!k))⟩⟩

/-! ### is None -/
def isN : D → Bool
  | .non => true
  | _ => false
theorem isN_V {K : PySem.W.Frag} {H : Hp} {v : V} {d : D} (h : Vw K H [v] [d]) : decide (v = .non) = isN d := by
  cases h.inv <;> rfl
def isD (x y : D) : Option D := if isN y = true then some (.bl (isN x)) else none
def isntD (x y : D) : Option D := if isN y = true then some (.bl (!isN x)) else none
theorem os_is : OpS c (compareOp .Is) isD := ⟨_, fun X ok => op_isN, fun H x y a b d h1 h2 e Q q => by
  unfold isD at e
  by_cases hb : isN b = true
  · rw [if_pos hb] at e
    cases e
    refine ⟨?_, ?_⟩
    · rw [← isN_V h2] at hb
      exact of_decide_eq_true hb
    · rw [isN_V h1]
      exact q _ (.bl _)
  · rw [if_neg hb] at e; cases e⟩
theorem os_isnt : OpS c (compareOp .IsNot) isntD := ⟨_, fun X ok => op_notN, fun H x y a b d h1 h2 e Q q => by
  unfold isntD at e
  by_cases hb : isN b = true
  · rw [if_pos hb] at e
    cases e
    refine ⟨?_, ?_⟩
    · rw [← isN_V h2] at hb
      exact of_decide_eq_true hb
    · rw [isN_V h1]
      exact q _ (.bl _)
  · rw [if_neg hb] at e; cases e⟩

/-! ### ints and texts -/
theorem OpR.cases2 {X : Cx} {f : Value → Value → Sem Value} {r r' : R2} (h : OpR X f r) (h' : OpR X f r') : OpR X f (fun x y H Q => r x y H Q ∨ r' x y H Q) := h.or h'
def addD : D → D → Option D
  | .int i, .int j => some (.int (i + j))
  | .str x, .str y => if x.length + y.length ≤ sL then some (.str (x ++ y)) else none
  | _, _ => none
theorem os_add : OpS c (binaryOp .Add) addD := ⟨_, fun X ok => op_add.or op_add_str, fun H x y a b d h1 h2 e Q q => by
  cases a with
  | int i =>
    cases b with
    | int j => cases h1.inv; cases h2.inv; cases e; exact .inl ⟨i, j, rfl, rfl, q _ (.int _)⟩
    | _ => cases e
  | str i =>
    cases b with
    | str j =>
      cases h1.inv
      cases h2.inv
      have e : (if i.length + j.length ≤ sL then some (D.str (i ++ j)) else none) = some d := e
      by_cases hl : i.length + j.length ≤ sL
      · rw [if_pos hl] at e
        cases e
        exact .inr ⟨i, j, rfl, rfl, by rw [sizeLine_eq]; exact hl, q _ (.str _)⟩
      · rw [if_neg hl] at e; cases e
    | _ => cases e
  | _ => cases b <;> cases e⟩
def int2 (C : Int → Int → Bool) (g : Int → Int → Int) : D → D → Option D
  | .int i, .int j => if C i j = true then some (.int (g i j)) else none
  | _, _ => none
theorem os_int2 {op : Operator} {C : Int → Int → Prop} {B : Int → Int → Bool} {g : Int → Int → Int} (hB : ∀ i j, B i j = true → C i j) (h : ∀ X, c.Ok X → OpR X (binaryOp op) (rI C fun i j => .int (g i j))) : OpS c (binaryOp op) (int2 B g) := ⟨_, h, fun H x y a b d h1 h2 e Q q => by
  cases a with
  | int i =>
    cases b with
    | int j =>
      cases h1.inv
      cases h2.inv
      have e : (if B i j = true then some (D.int (g i j)) else none) = some d := e
      by_cases hl : B i j = true
      · rw [if_pos hl] at e
        cases e
        exact ⟨i, j, rfl, rfl, hB i j hl, q _ (.int _)⟩
      · rw [if_neg hl] at e; cases e
    | _ => cases e
  | _ => cases b <;> cases e⟩
def subD : D → D → Option D
  | .int i, .int j => some (.int (i - j))
  | _, _ => none
theorem os_sub : OpS c (binaryOp .Sub) subD := ⟨_, fun X ok => op_sub, fun H x y a b d h1 h2 e Q q => by
  cases a with
  | int i =>
    cases b with
    | int j => cases h1.inv; cases h2.inv; cases e; exact ⟨i, j, rfl, rfl, q _ (.int _)⟩
    | _ => cases e
  | _ => cases b <;> cases e⟩
def mulOk (i j : Int) : Bool := (decide (-(2 ^ 64) < i) && decide (i < 2 ^ 64)) || (decide (-(2 ^ 64) < j) && decide (j < 2 ^ 64))
def mulD : D → D → Option D
  | .int i, .int j => if mulOk i j = true then some (.int (i * j)) else none
  | .str x, .int n => if 1 ≤ n ∧ n ≤ 1000 ∧ x.length = 1 then some (.str ⟨(List.replicate n.toNat (x.cps.getD 0 0)).toArray⟩) else none
  | _, _ => none
theorem fold_one (q : Nat) : ∀ (n : Nat) (acc : Array Nat), (List.replicate n #[q]).foldl (· ++ ·) acc = acc ++ (List.replicate n q).toArray
  | 0, acc => by simp
  | n + 1, acc => by
    rw [List.replicate_succ, List.foldl_cons, fold_one q n, List.replicate_succ, Array.append_assoc]
    have e : (q :: List.replicate n q).toArray = #[q] ++ (List.replicate n q).toArray := by
      apply Array.toList_inj.mp
      simp
    rw [e]
theorem op_rep1 {X : Cx} : OpR X (binaryOp .Mult) (fun x y H Q => ∃ (w : Str) (n : Int), x = .str w ∧ y = .int n ∧ 1 ≤ n ∧ n ≤ 1000 ∧ w.length = 1 ∧ Q (.str ⟨(List.replicate n.toNat (w.cps.getD 0 0)).toArray⟩) H) := by
  intro pins s σ H x y v u Q I rx ry h
  obtain ⟨w, n, rfl, rfl, h1, h2, hw, q⟩ := h
  obtain ⟨t, rfl⟩ := rx
  obtain ⟨t', rfl⟩ := ry
  have ew := str1 hw
  refine PySem.P.mul_str ?_ (fun _ _ => ?_) (fun _ _ => ?_) ?_
  · have e1 : ¬ n < -(2 ^ 63 : Int) := by omega
    have e2 : ¬ n ≥ 2 ^ 63 := by omega
    rw [decide_eq_false e1, decide_eq_false e2]; rfl
  · have e3 : (1 : Int) ≤ (2 ^ 63 - 1) / n := by
      rw [Int.le_ediv_iff_mul_le (by omega)]
      omega
    rw [hw]
    omega
  · rw [hw]
    unfold Builtin.Str.tooLong
    apply decide_eq_false
    have : sizeLine = 16777216 := sizeLine_eq
    omega
  · rw [if_neg (by omega)]
    by_cases e1 : n = 1
    · subst e1
      rw [if_pos (by simp)]
      refine ⟨.str _, H, I, ⟨t, rfl⟩, ?_⟩
      have e2 : (⟨(List.replicate (1 : Int).toNat (w.cps.getD 0 0)).toArray⟩ : Str) = w := ew.symm
      rw [e2] at q
      exact q
    · have hb : (n == 1 || w.length == 0) = false := by
        rw [hw]
        simp [e1]
      rw [hb, if_neg Bool.false_ne_true]
      have e3 : (List.replicate n.toNat w.cps).foldl (· ++ ·) #[] = (List.replicate n.toNat (w.cps.getD 0 0)).toArray := by
        have e4 : w.cps = #[w.cps.getD 0 0] := congrArg Str.cps ew
        rw [e4, fold_one]
        simp
      rw [e3]
      refine ⟨?_, ⟨.str _, H, I.tok _, ⟨_, rfl⟩, q⟩⟩
      show (List.replicate n.toNat (w.cps.getD 0 0)).toArray.size ≤ sizeLine
      rw [List.size_toArray, List.length_replicate]
      have : sizeLine = 16777216 := sizeLine_eq
      omega
theorem os_mul : OpS c (binaryOp .Mult) mulD := ⟨_, fun X ok => op_mul.or op_rep1, fun H x y a b d h1 h2 e Q q => by
  cases a with
  | int i =>
    cases b with
    | int j =>
      cases h1.inv
      cases h2.inv
      have e : (if mulOk i j = true then some (D.int (i * j)) else none) = some d := e
      by_cases hl : mulOk i j = true
      · rw [if_pos hl] at e
        cases e
        refine .inl ⟨i, j, rfl, rfl, ?_, q _ (.int _)⟩
        simpa [mulOk, CMul] using hl
      · rw [if_neg hl] at e; cases e
    | _ => cases e
  | str i =>
    cases b with
    | int n =>
      cases h1.inv
      cases h2.inv
      have e : (if 1 ≤ n ∧ n ≤ 1000 ∧ i.length = 1 then some (D.str ⟨(List.replicate n.toNat (i.cps.getD 0 0)).toArray⟩) else none) = some d := e
      by_cases hl : 1 ≤ n ∧ n ≤ 1000 ∧ i.length = 1
      · rw [if_pos hl] at e
        cases e
        exact .inr ⟨i, n, rfl, rfl, hl.1, hl.2.1, hl.2.2, q _ (.str _)⟩
      · rw [if_neg hl] at e; cases e
    | _ => cases e
  | _ => cases b <;> cases e⟩
def fdivD : D → D → Option D := int2 (fun _ j => decide (0 < j) && decide (j < 1073741824)) (fun i j => i / j)
def modD : D → D → Option D := int2 (fun _ j => decide (0 < j)) (fun i j => i % j)
def powD : D → D → Option D := int2 (fun i j => decide (0 ≤ j) && decide (j ≤ 1000000) && decide (i.natAbs < 2 ^ 64)) (fun i j => i ^ j.toNat)
theorem os_fdiv : OpS c (binaryOp .FloorDiv) fdivD := os_int2 (C := CDiv) (fun i j h => by simpa [CDiv] using h) fun X ok => op_fdiv
theorem os_mod : OpS c (binaryOp .Mod) modD := os_int2 (C := fun _ j => 0 < j) (fun i j h => by simpa using h) fun X ok => op_mod
theorem os_pow : OpS c (binaryOp .Pow) powD := os_int2 (C := CPow) (fun i j h => by
  have h : (0 ≤ j ∧ j ≤ 1000000) ∧ i.natAbs < 2 ^ 64 := by simpa using h
  exact ⟨h.1.1, h.1.2, h.2⟩) fun X ok => op_pow
/-! order -/
def strLt (x y : Str) : Bool := decide (x.cps.toList < y.cps.toList)
def ltD : D → D → Option D
  | .int i, .int j => some (.bl (decide (i < j)))
  | .str x, .str y => some (.bl (strLt x y))
  | _, _ => none
def leD : D → D → Option D
  | .int i, .int j => some (.bl (decide (i ≤ j)))
  | .str x, .str y => some (.bl (!strLt y x))
  | _, _ => none
def gtD : D → D → Option D
  | .int i, .int j => some (.bl (decide (j < i)))
  | .str x, .str y => some (.bl (strLt y x))
  | _, _ => none
def geD : D → D → Option D
  | .int i, .int j => some (.bl (decide (j ≤ i)))
  | .str x, .str y => some (.bl (!strLt x y))
  | _, _ => none
theorem os_ord {op : CmpOp} {p : Int → Int → Bool} {p' : Str → Str → Bool} {g : D → D → Option D} (hi : ∀ i j, g (.int i) (.int j) = some (.bl (p i j))) (hs : ∀ i j, g (.str i) (.str j) = some (.bl (p' i j)))
    (hn : ∀ a b d, g a b = some d → (∃ i j, a = .int i ∧ b = .int j) ∨ ∃ i j, a = .str i ∧ b = .str j) (h1 : ∀ X, c.Ok X → OpR X (compareOp op) (rI0 fun i j => .bl (p i j)))
    (h2 : ∀ X, c.Ok X → OpR X (compareOp op) (fun x y H Q => ∃ i j, x = .str i ∧ y = .str j ∧ Q (.bl (p' i j)) H)) : OpS c (compareOp op) g :=
  ⟨_, fun X ok => (h1 X ok).or (h2 X ok), fun H x y a b d v1 v2 e Q q => by
    rcases hn a b d e with ⟨i, j, ea, eb⟩ | ⟨i, j, ea, eb⟩
    · subst ea eb
      cases v1.inv
      cases v2.inv
      rw [hi] at e
      cases e
      exact .inl ⟨i, j, rfl, rfl, q _ (.bl _)⟩
    · subst ea eb
      cases v1.inv
      cases v2.inv
      rw [hs] at e
      cases e
      exact .inr ⟨i, j, rfl, rfl, q _ (.bl _)⟩⟩
theorem os_lt : OpS c (compareOp .Lt) ltD := os_ord (fun _ _ => rfl) (fun _ _ => rfl) (fun a b d h => by
  cases a <;> cases b <;> first | exact .inl ⟨_, _, rfl, rfl⟩ | exact .inr ⟨_, _, rfl, rfl⟩ | cases h) (fun X ok => op_lt) fun X ok => op_lt_str
theorem os_le : OpS c (compareOp .LtE) leD := os_ord (fun _ _ => rfl) (fun _ _ => rfl) (fun a b d h => by
  cases a <;> cases b <;> first | exact .inl ⟨_, _, rfl, rfl⟩ | exact .inr ⟨_, _, rfl, rfl⟩ | cases h) (fun X ok => op_le) fun X ok => op_le_str
theorem os_gt : OpS c (compareOp .Gt) gtD := os_ord (fun _ _ => rfl) (fun _ _ => rfl) (fun a b d h => by
  cases a <;> cases b <;> first | exact .inl ⟨_, _, rfl, rfl⟩ | exact .inr ⟨_, _, rfl, rfl⟩ | cases h) (fun X ok => op_gt) fun X ok => op_gt_str
theorem os_ge : OpS c (compareOp .GtE) geD := os_ord (fun _ _ => rfl) (fun _ _ => rfl) (fun a b d h => by
  cases a <;> cases b <;> first | exact .inl ⟨_, _, rfl, rfl⟩ | exact .inr ⟨_, _, rfl, rfl⟩ | cases h) (fun X ok => op_ge) fun X ok => op_ge_str
def negD (f : Env' → Option D) : Env' → Option D := fun ρ => (f ρ).bind fun d => match d with | .int i => some (.int (-i)) | _ => none
theorem qe_neg {Γ : List T} {a : Expr} {f : Env' → Option D} {t : T} {ma m : Bool} {pos : Pos} (ha : QE c Γ a f t ma) : QE c Γ (.UnaryOp .USub a pos) (negD f) .fr m := by
  obtain ⟨te, h1, h2⟩ := ha.ex
  refine ⟨tUn (rU fun i => .int (-i)) te, fun X ok => pe_un un_neg (h1 X ok), fun F Hb H σ ρ fp d S e Q q => ?_⟩
  obtain ⟨d1, e1, e⟩ := Option.bind_eq_some_iff.mp e
  cases d1 with
  | int i =>
    cases e
    refine h2 F Hb H σ ρ fp _ S e1 _ fun v Hb' H' fv x o _ => ?_
    have w := o.vw x.bh (S.sf.trans x.h)
    cases w.inv
    exact ⟨i, rfl, q _ Hb' H' [] x (.fr (.int _)) fun _ => .nil⟩
  | _ => cases e
end
end Vm

/-! VmD: subscripts, slices, built-in functions. -/
namespace Vm
open PySem PySem.Spec PyProof.Rows L2
section
variable {c : Ctx} {Γ : List T} {pos : Pos}

/-! ### a[i] -/
def ixD : D → D → Option D
  | .lst ds, .int i => atI ds i
  | .tup ds, .int i => atI ds i
  | .str z, .int i => if z.length ≤ sL then (atI z.cps.toList i).map fun q => .str ⟨#[q]⟩ else none
  | _, _ => none
theorem atI_vw {K : PySem.W.Frag} {H : Hp} {vs : List V} {ds : List D} {i : Int} {d : D} (h : Vw K H vs ds) (e : atI ds i = some d) : ∃ v, atI vs i = some v ∧ Vw K H [v] [d] := by
  unfold atI at e ⊢
  rw [h.len]
  obtain ⟨j, e1, e2⟩ := Option.bind_eq_some_iff.mp e
  obtain ⟨v, e3, e4⟩ := h.get e2
  exact ⟨v, by rw [e1]; exact e3, e4⟩
/-- what a thing of a kind has within, as parts of the same list -/
def elT : T → Option T
  | .fr => some .fr
  | .rd => some .rd
  | .lst t => some t
  | _ => none
theorem Own.at {K : PySem.W.Frag} {F Hb H : Hp} {t : T} : ∀ {n : Nat} {vs : List V} {ds : List D} {fp : List Addr} {i : Nat} {d : D}, Own K F Hb H (List.replicate n t) vs ds fp → ds[i]? = some d → ∃ v g, vs[i]? = some v ∧ Own K F Hb H [t] [v] [d] g ∧ (∀ a ∈ g, a ∈ fp) ∧ (fp.Nodup → g.Nodup)
  | 0, vs, ds, fp, i, d, h, e => by
    have l := h.len
    have l1 : vs.length = 0 := l.1.symm
    have l2 : ds.length = 0 := l.2.symm.trans l1
    rw [List.eq_nil_of_length_eq_zero l2] at e
    simp at e
  | n + 1, [], ds, fp, i, d, h, e => by have := h.len; simp at this
  | n + 1, v :: vs, [], fp, i, d, h, e => by simp at e
  | n + 1, v :: vs, d' :: ds, fp, 0, d, h, e => by
    obtain ⟨f, g, e1, a, b⟩ := h.uncons
    simp at e
    subst e e1
    exact ⟨v, f, rfl, a, fun x q => List.mem_append_left _ q, fun q => (List.nodup_append.mp q).1⟩
  | n + 1, v :: vs, d' :: ds, fp, i + 1, d, h, e => by
    obtain ⟨f, g, e1, a, b⟩ := h.uncons
    subst e1
    obtain ⟨w, g', x, y, z, q⟩ := Own.at (i := i) (d := d) b (by simpa using e)
    exact ⟨w, g', by simpa using x, y, fun x q => List.mem_append_right _ (z x q), fun nd => q (List.nodup_append.mp nd).2.1⟩
/-- an item of a seen thing -/
theorem ix_own {F Hb H : Hp} {t t' : T} {v w : V} {d i r : D} {f : List Addr} (sb : Same Hb H) (sf : Same F H) (ht : elT t = some t') (o : Own c.K F Hb H [t] [v] [d] f) (hi : Vw c.K H [w] [i]) (e : ixD d i = some r) {Q : VK} (q : ∀ z g, Own c.K F Hb H [t'] [z] [r] g → (∀ a ∈ g, a ∈ f) → (f.Nodup → g.Nodup) → Q z H) : rIx c.K v w H Q := by
  cases o.inv with
  | @fr v d x =>
    cases ht
    cases d with
    | lst ds =>
      cases i with
      | int i =>
        cases hi.inv
        cases x.inv with
        | lst s y =>
          obtain ⟨z, h1, h2⟩ := atI_vw y e
          exact .inl ⟨_, _, i, z, rfl, rfl, same_sqL sb s, h1, q z [] (.fr h2) (fun _ h => h) fun h => h⟩
      | _ => cases e
    | tup ds =>
      cases i with
      | int i =>
        cases hi.inv
        cases x.inv with
        | tup s y =>
          obtain ⟨z, h1, h2⟩ := atI_vw y e
          exact .inr (.inl ⟨_, _, i, z, rfl, rfl, same_sqT sb s.t, h1, q z [] (.fr h2) (fun _ h => h) fun h => h⟩)
      | _ => cases e
    | str s =>
      cases i with
      | int i =>
        cases hi.inv
        cases x.inv
        have e : (if s.length ≤ sL then (atI s.cps.toList i).map fun q => D.str ⟨#[q]⟩ else none) = some r := e
        by_cases hl : s.length ≤ sL
        · rw [if_pos hl] at e
          obtain ⟨z, e1, e2⟩ := Option.map_eq_some_iff.mp e
          subst e2
          exact .inr (.inr ⟨s, i, z, rfl, rfl, by rw [sizeLine_eq]; exact hl, e1, q _ [] (.fr (.str _)) (fun _ h => h) fun h => h⟩)
        · rw [if_neg hl] at e; cases e
      | _ => cases e
    | _ => cases i <;> cases e
  | @rd v d x =>
    cases ht
    cases d with
    | lst ds =>
      cases i with
      | int i =>
        cases hi.inv
        cases x.inv with
        | lst s y =>
          obtain ⟨z, h1, h2⟩ := atI_vw y e
          exact .inl ⟨_, _, i, z, rfl, rfl, same_sqL sf s, h1, q z [] (.rd h2) (fun _ h => h) fun h => h⟩
      | _ => cases e
    | tup ds =>
      cases i with
      | int i =>
        cases hi.inv
        cases x.inv with
        | tup s y =>
          obtain ⟨z, h1, h2⟩ := atI_vw y e
          exact .inr (.inl ⟨_, _, i, z, rfl, rfl, same_sqT sf s.t, h1, q z [] (.rd h2) (fun _ h => h) fun h => h⟩)
      | _ => cases e
    | str s =>
      cases i with
      | int i =>
        cases hi.inv
        cases x.inv
        have e : (if s.length ≤ sL then (atI s.cps.toList i).map fun q => D.str ⟨#[q]⟩ else none) = some r := e
        by_cases hl : s.length ≤ sL
        · rw [if_pos hl] at e
          obtain ⟨z, e1, e2⟩ := Option.map_eq_some_iff.mp e
          subst e2
          exact .inr (.inr ⟨s, i, z, rfl, rfl, by rw [sizeLine_eq]; exact hl, e1, q _ [] (.rd (.str _)) (fun _ h => h) fun h => h⟩)
        · rw [if_neg hl] at e; cases e
      | _ => cases e
    | _ => cases i <;> cases e
  | @lst t a vs ds f ha hb hf o' =>
    cases ht
    cases i with
    | int i =>
      cases hi.inv
      have e : atI ds i = some r := e
      unfold atI at e
      obtain ⟨j, e1, e2⟩ := Option.bind_eq_some_iff.mp e
      obtain ⟨z, g, h1, h2, h3, h4⟩ := o'.at e2
      refine .inl ⟨a, vs, i, z, rfl, rfl, .of ha, ?_, q z g h2 (fun x hx => List.mem_cons_of_mem _ (h3 x hx)) fun nd => h4 (List.nodup_cons.mp nd).2⟩
      unfold atI
      rw [o'.len.2, e1]
      exact h1
    | _ => cases e
  | tup _ _ _ _ => cases ht
  | dct _ _ _ _ => cases ht
  | obj _ _ _ _ _ => cases ht
theorem qe_ix {a b : Expr} {fa fb : Env' → Option D} {t t' tb : T} {ma mb m : Bool} (ht : elT t = some t') (ha : QE c Γ a fa t ma) (hb : QE c Γ b fb tb mb) (hm : m = true → t' = .fr ∨ t' = .rd ∨ ma = true) (hs : PlainIx b := by intro _ _; rfl) :
    QE c Γ (.Subscript a b pos) (op2 ixD fa fb) t' m := by
  obtain ⟨ea, eb, h1, h2, h3⟩ := two ha hb
  refine ⟨tOp (rIx c.K) ea eb, fun X ok => ?_, fun F Hb H σ ρ fp d S e Q q => ?_⟩
  · have := pe_ix (pos := pos) (ix_seq (X := X)) (h1 X ok) (h2 X ok) hs
    rw [ok.K] at this
    exact this
  · obtain ⟨x, y, e1, e2, e3⟩ := op2_some e
    refine h3 F Hb H σ ρ fp x y S e1 e2 (fun v w H2 => rIx c.K v w H2 Q) fun v w Hb' H' f g x1 o1 o2 sf sb r1 _ => ?_
    refine ix_own sb sf ht o1 (o2.vw sb sf) e3 fun z g' o3 i1 i2 => q z Hb' H' g' x1 o3 fun em => ?_
    rcases hm em with h | h | h
    · subst h
      cases o3.inv
      exact .nil
    · subst h
      cases o3.inv
      exact .nil
    · exact ⟨i2 (r1 h).1, fun a ha => (r1 h).2 a (i1 a ha)⟩
/-! a tuple whose places have kinds -/
theorem Own.atT {K : PySem.W.Frag} {F Hb H : Hp} : ∀ {ts : List T} {vs : List V} {ds : List D} {fp : List Addr} {i : Nat} {d : D} {t : T}, Own K F Hb H ts vs ds fp → ds[i]? = some d → ts[i]? = some t → ∃ v g, vs[i]? = some v ∧ Own K F Hb H [t] [v] [d] g ∧ (∀ a ∈ g, a ∈ fp) ∧ (fp.Nodup → g.Nodup)
  | [], vs, ds, fp, i, d, t, h, e, e' => by simp at e'
  | _ :: _, [], ds, fp, i, d, t, h, e, e' => by have := h.len; simp at this
  | _ :: _, v :: vs, [], fp, i, d, t, h, e, e' => by simp at e
  | t0 :: ts, v :: vs, d' :: ds, fp, 0, d, t, h, e, e' => by
    obtain ⟨f, g, e1, a, b⟩ := h.uncons
    simp at e e'
    subst e e' e1
    exact ⟨v, f, rfl, a, fun x q => List.mem_append_left _ q, fun q => (List.nodup_append.mp q).1⟩
  | t0 :: ts, v :: vs, d' :: ds, fp, i + 1, d, t, h, e, e' => by
    obtain ⟨f, g, e1, a, b⟩ := h.uncons
    subst e1
    obtain ⟨w, g', x, y, z, q⟩ := Own.atT (i := i) (d := d) (t := t) b (by simpa using e) (by simpa using e')
    exact ⟨w, g', by simpa using x, y, fun x q => List.mem_append_right _ (z x q), fun nd => q (List.nodup_append.mp nd).2.1⟩
theorem qe_ixT {a : Expr} {fa : Env' → Option D} {ts : List T} {t' : T} {ma m : Bool} {n : Nat} {j : Nat} {p1 : Pos} (ht : ts[n]? = some t') (ha : QE c Γ a fa (.tup ts) ma) (hm : m = true → t' = .fr ∨ t' = .rd ∨ ma = true) :
    QE c Γ (.Subscript a (.Constant (.int (n : Int)) j p1) pos) (op2 ixD fa fun _ => some (.int (n : Int))) t' m := by
  obtain ⟨ea, eb, h1, h2, h3⟩ := two ha (qe_int (c := c) (Γ := Γ) (n := (n : Int)) (j := j) (pos := p1) (m := true))
  refine ⟨tOp (rIx c.K) ea eb, fun X ok => ?_, fun F Hb H σ ρ fp d S e Q q => ?_⟩
  · have := pe_ix (pos := pos) (ix_seq (X := X)) (h1 X ok) (h2 X ok) (by intro _ _; rfl)
    rw [ok.K] at this
    exact this
  · obtain ⟨x, y, e1, e2, e3⟩ := op2_some e
    refine h3 F Hb H σ ρ fp x y S e1 e2 (fun v w H2 => rIx c.K v w H2 Q) fun v w Hb' H' f g x1 o1 o2 sf sb r1 _ => ?_
    cases e2
    cases (o2.vw sb sf).inv
    cases o1.inv with
    | @tup ts a vs ds f' ha hb hf o =>
      have e4 : atI ds (n : Int) = some d := e3
      have e5 : ds[n]? = some d := by
        unfold atI at e4
        obtain ⟨j', e5, e6⟩ := Option.bind_eq_some_iff.mp e4
        unfold ixN at e5
        rw [if_pos (by omega)] at e5
        split at e5
        · cases e5; exact e6
        · cases e5
      obtain ⟨z, g', h4, o3, i1, i2⟩ := o.atT e5 ht
      refine .inr (.inl ⟨a, vs, n, z, rfl, rfl, .of ha, atI_nat h4, q z Hb' H' g' x1 o3 fun em => ?_⟩)
      rcases hm em with h | h | h
      · subst h
        cases o3.inv
        exact .nil
      · subst h
        cases o3.inv
        exact .nil
      · exact ⟨i2 (List.nodup_cons.mp (r1 h).1).2, fun a ha => (r1 h).2 a (List.mem_cons_of_mem _ (i1 a ha))⟩

/-! ### slices -/
structure QO (c : Ctx) (Γ : List T) (e : Option Expr) (f : Env' → Option (Option Int)) : Prop where
  ex : ∃ te : TO, (∀ X, c.Ok X → PO X e te) ∧ ∀ F Hb H σ ρ fp o, Sta c.K F Hb H Γ σ ρ fp → f ρ = some o → ∀ Q : Option Int → Hp → Prop,
    (∀ Hb' H', Ext Hb H Hb' H' → Q o H') → te σ H Q
theorem qo_none : QO c Γ none (fun _ => some none) := ⟨tNoPart, fun X _ => po_none, fun F Hb H σ ρ fp o S e Q q => by cases e; exact q Hb H (.refl S.sb)⟩
def asI : D → Option Int
  | .int i => some i
  | _ => none
theorem qo_some {a : Expr} {f : Env' → Option D} {t : T} {m : Bool} (ha : QE c Γ a f t m) : QO c Γ (some a) (fun ρ => ((f ρ).bind asI).map some) := by
  obtain ⟨te, h1, h2⟩ := ha.ex
  refine ⟨tPart te, fun X ok => po_some (h1 X ok), fun F Hb H σ ρ fp o S e Q q => ?_⟩
  obtain ⟨i, e1, e⟩ := Option.map_eq_some_iff.mp e
  obtain ⟨d, e1, e2⟩ := Option.bind_eq_some_iff.mp e1
  subst e
  refine h2 F Hb H σ ρ fp d S e1 _ fun v Hb' H' fv x o _ => ?_
  cases d with
  | int k =>
    cases e2
    cases (o.vw x.bh (S.sf.trans x.h)).inv
    exact ⟨_, rfl, q Hb' H' x⟩
  | _ => cases e2
def cutD {α : Type} (xs : List α) (lo hi : Option Int) : List α := (xs.drop (HT.sIx xs.length 0 lo)).take (HT.sIx xs.length xs.length hi - HT.sIx xs.length 0 lo)
theorem cutD_vw {K : PySem.W.Frag} {H : Hp} {vs : List V} {ds : List D} (h : Vw K H vs ds) (lo hi : Option Int) : Vw K H (cutV vs lo hi) (cutD ds lo hi) := by
  unfold cutV cutD
  rw [h.len]
  exact (h.drop _).take _
/-- a slice of a list: a new list -/
def slcL (d : D) (lo hi : Option Int) : Option D := match d with
  | .lst ds => some (.lst (cutD ds lo hi))
  | _ => none
/-- a slice of a text, of a tuple -/
def slcF (d : D) (lo hi : Option Int) : Option D := match d with
  | .str z => if z.length ≤ sL then some (.str (cutS z lo hi)) else none
  | .tup ds => some (.tup (cutD ds lo hi))
  | _ => none
def sl3 (g : D → Option Int → Option Int → Option D) (fa : Env' → Option D) (fl fh : Env' → Option (Option Int)) : Env' → Option D := fun ρ => (fa ρ).bind fun d => (fl ρ).bind fun l => (fh ρ).bind fun h => g d l h
/-- a list all of whose items are shared -/
theorem own_list {F Hb H : Hp} {t : T} {v : V} {ds : List D} {f : List Addr} (ht : t = .fr ∨ t = .lst .fr) (sb : Same Hb H) (o : Own c.K F Hb H [t] [v] [.lst ds] f) : ∃ a vs, v = .ref a ∧ SqL c.K H a vs ∧ Vw c.K Hb vs ds ∧ (t = .fr → SqL c.K Hb a vs) := by
  rcases ht with ht | ht
  · subst ht
    cases o.inv with
    | fr x =>
      cases x.inv with
      | lst s y => exact ⟨_, _, rfl, same_sqL sb s, y, fun _ => s⟩
  · subst ht
    cases o.inv with
    | lst ha hb hf o' =>
      obtain ⟨_, w⟩ := o'.frs
      exact ⟨_, _, rfl, .of ha, w, fun z => nomatch z⟩
theorem qe_slL {a : Expr} {lo hi : Option Expr} {fa : Env' → Option D} {fl fh : Env' → Option (Option Int)} {t : T} {ma : Bool} {p2 : Pos} (ht : t = .fr ∨ t = .lst .fr) (ha : QE c Γ a fa t ma) (hl : QO c Γ lo fl) (hh : QO c Γ hi fh) :
    QE c Γ (.Subscript a (.Slice lo hi none p2) pos) (sl3 slcL fa fl fh) (.lst .fr) true := by
  obtain ⟨te, h1, h2⟩ := ha.ex
  obtain ⟨tl, h3, h4⟩ := hl.ex
  obtain ⟨th, h5, h6⟩ := hh.ex
  refine ⟨tSl (rSlL c.K) te tl th, fun X ok => pe_slice (by have := sl_list (X := X); rw [ok.K] at this; exact this) (h1 X ok) (h3 X ok) (h5 X ok), fun F Hb H σ ρ fp d S e Q q => ?_⟩
  · unfold sl3 at e
    obtain ⟨x, e1, e⟩ := Option.bind_eq_some_iff.mp e
    obtain ⟨l, e2, e⟩ := Option.bind_eq_some_iff.mp e
    obtain ⟨h, e3, e⟩ := Option.bind_eq_some_iff.mp e
    cases x with
    | lst ds =>
      cases e
      refine h2 F Hb H σ ρ fp _ S e1 _ fun v Hb1 H1 f1 x1 o1 _ => ?_
      refine h4 F Hb1 H1 σ ρ fp l (S.ext x1) e2 _ fun Hb2 H2 x2 => ?_
      refine h6 F Hb2 H2 σ ρ fp h ((S.ext x1).ext x2) e3 _ fun Hb3 H3 x3 => ?_
      have x13 := (x1.trans x2).trans x3
      obtain ⟨a, vs, ev, sl, w, _⟩ := own_list ht x3.bh (o1.ext (x2.trans x3))
      refine ⟨a, vs, ev, sl, fun p hp => ?_⟩
      have xn := Ext.new (o := .lst (cutV vs l h)) x3.bh hp
      have o2 := Own.ofFrs (F := F) (H := upd H3 p (.lst (cutV vs l h))) (cutD_vw w l h)
      refine q _ _ _ [p] (x13.trans xn) (.lst upd_same (x3.bh.free hp) ((S.sf.trans x13.h).free hp) o2) fun _ => ⟨by simp, fun a ha => ?_⟩
      have : a = p := by simpa using ha
      subst this
      exact x13.h.free hp
    | _ => cases e
theorem qe_slF {a : Expr} {lo hi : Option Expr} {fa : Env' → Option D} {fl fh : Env' → Option (Option Int)} {ma m : Bool} {p2 : Pos} (ha : QE c Γ a fa .fr ma) (hl : QO c Γ lo fl) (hh : QO c Γ hi fh) :
    QE c Γ (.Subscript a (.Slice lo hi none p2) pos) (sl3 slcF fa fl fh) .fr m := by
  obtain ⟨te, h1, h2⟩ := ha.ex
  obtain ⟨tl, h3, h4⟩ := hl.ex
  obtain ⟨th, h5, h6⟩ := hh.ex
  refine ⟨tSl (fun x lo hi H Q => rSlS x lo hi H Q ∨ rSlA c.K x lo hi H Q) te tl th, fun X ok => pe_slice (sl_str.or (by have := sl_tupA (X := X); rw [ok.K] at this; exact this)) (h1 X ok) (h3 X ok) (h5 X ok), fun F Hb H σ ρ fp d S e Q q => ?_⟩
  unfold sl3 at e
  obtain ⟨x, e1, e⟩ := Option.bind_eq_some_iff.mp e
  obtain ⟨l, e2, e⟩ := Option.bind_eq_some_iff.mp e
  obtain ⟨h, e3, e⟩ := Option.bind_eq_some_iff.mp e
  refine h2 F Hb H σ ρ fp _ S e1 _ fun v Hb1 H1 f1 x1 o1 _ => ?_
  refine h4 F Hb1 H1 σ ρ fp l (S.ext x1) e2 _ fun Hb2 H2 x2 => ?_
  refine h6 F Hb2 H2 σ ρ fp h ((S.ext x1).ext x2) e3 _ fun Hb3 H3 x3 => ?_
  have x13 := (x1.trans x2).trans x3
  cases (o1.ext (x2.trans x3)).inv with
  | fr w =>
    cases x with
    | str z =>
      have e : (if z.length ≤ sL then some (D.str (cutS z l h)) else none) = some d := e
      by_cases hz : z.length ≤ sL
      · rw [if_pos hz] at e
        cases e
        cases w.inv
        exact .inl ⟨z, rfl, by rw [sizeLine_eq]; exact hz, q _ _ _ [] x13 (.fr (.str _)) fun _ => .nil⟩
      · rw [if_neg hz] at e; cases e
    | tup ds =>
      cases e
      cases w.inv with
      | @tup a vs ds s y =>
        refine .inr ⟨a, vs, rfl, same_sqT x3.bh s.t, fun hz => ?_, fun hz p hp => ?_⟩
        · rw [y.len] at hz
          have ec : cutD ds l h = ds := by
            unfold cutD
            rw [hz.1, hz.2]
            simp
          rw [ec] at q
          exact q _ _ _ [] x13 (.fr (.tup s y)) fun _ => .nil
        · have xn := Ext.newFr (o := .tup (cutV vs l h)) x3.bh hp
          exact q _ _ _ [] (x13.trans xn) (.fr (.tup (.inl upd_same) ((cutD_vw y l h).mono xn.b))) fun _ => .nil
    | _ => cases e
/-- xs[::-1] -/
def revD (f : Env' → Option D) : Env' → Option D := fun ρ => (f ρ).bind fun d => match d with | .lst ds => some (.lst ds.reverse) | _ => none
theorem qe_rev {a : Expr} {fa : Env' → Option D} {t : T} {ma : Bool} {k : Nat} {p1 p2 p3 : Pos} (ht : t = .fr ∨ t = .lst .fr) (ha : QE c Γ a fa t ma) :
    QE c Γ (.Subscript a (.Slice none none (some (.UnaryOp .USub (.Constant (.int 1) k p1) p2)) p3) pos) (revD fa) (.lst .fr) true := by
  obtain ⟨te, h1, h2⟩ := ha.ex
  refine ⟨tRevL c.K te, fun X ok => by have := pe_revL (k := k) (p1 := p1) (p2 := p2) (p3 := p3) (pos := pos) (h1 X ok); rw [ok.K] at this; exact this, fun F Hb H σ ρ fp d S e Q q => ?_⟩
  obtain ⟨x, e1, e⟩ := Option.bind_eq_some_iff.mp e
  cases x with
  | lst ds =>
    cases e
    refine h2 F Hb H σ ρ fp _ S e1 _ fun v Hb1 H1 f1 x1 o1 _ => ?_
    obtain ⟨a, vs, ev, sl, w, _⟩ := own_list ht x1.bh o1
    refine ⟨a, vs, ev, sl, fun p hp => ?_⟩
    have xn := Ext.new (o := .lst vs.reverse) x1.bh hp
    have o2 := Own.ofFrs (F := F) (H := upd H1 p (.lst vs.reverse)) w.rev
    refine q _ _ _ [p] (x1.trans xn) (.lst upd_same (x1.bh.free hp) ((S.sf.trans x1.h).free hp) o2) fun _ => ⟨by simp, fun a ha => ?_⟩
    have : a = p := by simpa using ha
    subst this
    exact x1.h.free hp
  | _ => cases e
end
end Vm

/-! VmE: built-in functions. -/
namespace Vm
open PySem PySem.Spec PyProof.Rows L2
section
variable {c : Ctx} {Γ : List T} {pos : Pos}

/-- a call of a known value -/
structure CallG (c : Ctx) (fv : Value) (ts : List T) (g : List D → Option D) (t : T) : Prop where
  ex : ∃ r, (∀ X, c.Ok X → CallR X fv r) ∧ ∀ F Hb H vs ds fp d, Same Hb H → Same F H → Own c.K F Hb H ts vs ds fp → g ds = some d → ∀ Q : VK, (∀ v Hb' H' fv, Ext Hb H Hb' H' → Own c.K F Hb' H' [t] [v] [d] fv → Fresh H fv → Q v H') → r vs H Q
theorem qe_callB {x : Str} {id : String} {a : Expr} {es : List Expr} {f : Env' → Option (List D)} {g : List D → Option D} {ts : List T} {t : T} {m : Bool} {p : Pos} (hc : CallG c (.builtin id) ts g t) (hg : c.sc.names.lookup x = some .globalImplicit) (hm : c.mg x = none) (hv : bootBuiltins x = some (.builtin id)) (ha : QA c Γ (a :: es) f ts m)
    (hn : x ≠ "__name__" := by decide) (hdb : (x == ("__debug__" : Str)) = false := by decide)
    (he : ∀ env : Env, starEach (a :: es) env = (false, eval a env) :: starEach es env := by intro _; rfl) (hpl : ∀ env : Env, (backTo pos (starEach es env)).any (·.1) = false := by intro _; rfl) : QE c Γ (.Call (.Name x p) (a :: es) [] pos) (fun ρ => (f ρ).bind g) t true := by
  obtain ⟨r, h1, h2⟩ := hc.ex
  obtain ⟨te, h3, h4⟩ := ha.ex
  refine ⟨tCB r te, fun X ok => pe_callB (h1 X ok) (show X.env.scope.names.lookup x = _ by rw [ok.sc]; exact hg) (by rw [ok.mg]; exact hm) hv (h3 X ok) hn hdb (he _) (hpl _), fun F Hb H σ ρ fp d S e Q q => ?_⟩
  obtain ⟨ds, e1, e2⟩ := Option.bind_eq_some_iff.mp e
  refine h4 F Hb H σ ρ fp ds S e1 _ fun vs Hb1 H1 fv x1 o1 _ => ?_
  exact h2 F Hb1 H1 vs ds fv d x1.bh (S.sf.trans x1.h) o1 e2 Q fun v Hb2 H2 f2 x2 o2 r2 => q v Hb2 H2 f2 (x1.trans x2) o2 fun _ => r2.back x1.h
theorem qe_callTy {x : Str} {id : String} {a : Expr} {es : List Expr} {f : Env' → Option (List D)} {g : List D → Option D} {ts : List T} {t : T} {m : Bool} {p : Pos} (hc : CallG c (.type id) ts g t) (hg : c.sc.names.lookup x = some .globalImplicit) (hm : c.mg x = none) (hv : bootBuiltins x = some (.type id)) (ha : QA c Γ (a :: es) f ts m)
    (hn : x ≠ "__name__" := by decide) (hdb : (x == ("__debug__" : Str)) = false := by decide)
    (he : ∀ env : Env, starEach (a :: es) env = (false, eval a env) :: starEach es env := by intro _; rfl) (hpl : ∀ env : Env, (backTo pos (starEach es env)).any (·.1) = false := by intro _; rfl) : QE c Γ (.Call (.Name x p) (a :: es) [] pos) (fun ρ => (f ρ).bind g) t true := by
  obtain ⟨r, h1, h2⟩ := hc.ex
  obtain ⟨te, h3, h4⟩ := ha.ex
  refine ⟨tCB r te, fun X ok => pe_callTy (h1 X ok) (show X.env.scope.names.lookup x = _ by rw [ok.sc]; exact hg) (by rw [ok.mg]; exact hm) hv (h3 X ok) hn hdb (he _) (hpl _), fun F Hb H σ ρ fp d S e Q q => ?_⟩
  obtain ⟨ds, e1, e2⟩ := Option.bind_eq_some_iff.mp e
  refine h4 F Hb H σ ρ fp ds S e1 _ fun vs Hb1 H1 fv x1 o1 _ => ?_
  exact h2 F Hb1 H1 vs ds fv d x1.bh (S.sf.trans x1.h) o1 e2 Q fun v Hb2 H2 f2 x2 o2 r2 => q v Hb2 H2 f2 (x1.trans x2) o2 fun _ => r2.back x1.h

/-- calls with a flat answer, whatever the arguments' kinds are -/
theorem cg_flat {fv : Value} {ts : List T} {g : List D → Option D} {r : List V → Hp → VK → Prop} (h : ∀ X, c.Ok X → CallR X fv r) (hr : ∀ H vs ds d, Vw c.K H vs ds → g ds = some d → ∀ Q : VK, (∀ v, Vw c.K (fun _ => none) [v] [d] → Q v H) → r vs H Q) : CallG c fv ts g .fr :=
  ⟨r, h, fun F Hb H vs ds fp d sb sf o e Q q => hr H vs ds d (o.vw sb sf) e Q fun v w => q v Hb H [] (.refl sb) (.fr (vw0 w)) .nil⟩
/-- calls that give a new list of shared things -/
theorem cg_list {fv : Value} {ts : List T} {g : List D → Option D} {r : List V → Hp → VK → Prop} (h : ∀ X, c.Ok X → CallR X fv r)
    (hr : ∀ F Hb H vs ds fp d, Same Hb H → Same F H → Own c.K F Hb H ts vs ds fp → g ds = some d → ∃ ws es, d = .lst es ∧ Vw c.K Hb ws es ∧ ∀ Q : VK, (∀ p, H p = none → Q (.ref p) (upd H p (.lst ws))) → r vs H Q) : CallG c fv ts g (.lst .fr) :=
  ⟨r, h, fun F Hb H vs ds fp d sb sf o e Q q => by
    obtain ⟨ws, es, ed, w, k⟩ := hr F Hb H vs ds fp d sb sf o e
    subst ed
    refine k Q fun p hp => ?_
    have xn := Ext.new (o := .lst ws) sb hp
    refine q _ _ _ [p] xn (.lst upd_same (sb.free hp) (sf.free hp) (Own.ofFrs w)) ⟨by simp, fun a ha => ?_⟩
    have : a = p := by simpa using ha
    subst this
    exact hp⟩
theorem vw1 {K : PySem.W.Frag} {H : Hp} {vs : List V} {d : D} (h : Vw K H vs [d]) : ∃ v, vs = [v] ∧ Vw K H [v] [d] := by
  have l := h.len
  match vs, l with
  | [v], _ => exact ⟨v, rfl, h⟩
theorem vw2 {K : PySem.W.Frag} {H : Hp} {vs : List V} {d e : D} (h : Vw K H vs [d, e]) : ∃ v w, vs = [v, w] ∧ Vw K H [v] [d] ∧ Vw K H [w] [e] := by
  have l := h.len
  match vs, l with
  | [v, w], _ => exact ⟨v, w, rfl, h.one.1, h.one.2⟩

def lenD : List D → Option D
  | [.str z] => if z.length ≤ sL then some (.int z.length) else none
  | [.tup ds] => some (.int ds.length)
  | [.lst ds] => some (.int ds.length)
  | _ => none
theorem cg_len {t : T} : CallG c (.builtin "len") [t] lenD .fr := cg_flat (r := fun xs H Q => ∃ x n, xs = [x] ∧ LenV c.K x H n ∧ Q (.int n) H) (fun X ok => by rw [← ok.K]; exact call_len) fun H vs ds d h e Q q => by
  match ds, e with
  | [.str z], e =>
    obtain ⟨v, rfl, w⟩ := vw1 h
    cases w.inv
    have e : (if z.length ≤ sL then some (D.int z.length) else none) = some d := e
    by_cases hz : z.length ≤ sL
    · rw [if_pos hz] at e
      cases e
      exact ⟨_, z.length, rfl, ⟨by rw [sizeLine_eq]; exact hz, rfl⟩, q _ (.int _)⟩
    · rw [if_neg hz] at e; cases e
  | [.tup ds], e =>
    obtain ⟨v, rfl, w⟩ := vw1 h
    cases e
    cases w.inv with
    | @tup a vs ds s y => exact ⟨_, ds.length, rfl, .inr ⟨vs, s.t, y.len.symm⟩, q _ (.int _)⟩
  | [.lst ds], e =>
    obtain ⟨v, rfl, w⟩ := vw1 h
    cases e
    cases w.inv with
    | @lst a vs ds s y => exact ⟨_, ds.length, rfl, .inl ⟨vs, s, y.len.symm⟩, q _ (.int _)⟩
def intD : List D → Option D
  | [.int i] => some (.int i)
  | [.bl k] => some (.int (if k then 1 else 0))
  | _ => none
theorem cg_int {t : T} : CallG c (.type "int") [t] intD .fr := cg_flat (fun X ok => call_int1) fun H vs ds d h e Q q => by
  match ds, e with
  | [.int i], e => obtain ⟨v, rfl, w⟩ := vw1 h; cases w.inv; cases e; exact .inl ⟨i, rfl, q _ (.int _)⟩
  | [.bl k], e => obtain ⟨v, rfl, w⟩ := vw1 h; cases w.inv; cases e; exact .inr ⟨k, rfl, q _ (.int _)⟩
def absD : List D → Option D
  | [.int i] => some (.int (if i < 0 then -i else i))
  | _ => none
theorem cg_abs {t : T} : CallG c (.builtin "abs") [t] absD .fr := cg_flat (fun X ok => call_abs) fun H vs ds d h e Q q => by
  match ds, e with
  | [.int i], e => obtain ⟨v, rfl, w⟩ := vw1 h; cases w.inv; cases e; exact ⟨i, rfl, q _ (.int _)⟩
def ordD : List D → Option D
  | [.str x] => if x.length = 1 then some (.int (x.cps.getD 0 0 : Nat)) else none
  | _ => none
theorem cg_ord {t : T} : CallG c (.builtin "ord") [t] ordD .fr := cg_flat (fun X ok => call_ord) fun H vs ds d h e Q q => by
  match ds, e with
  | [.str x], e =>
    obtain ⟨v, rfl, w⟩ := vw1 h
    cases w.inv
    have e : (if x.length = 1 then some (D.int (x.cps.getD 0 0 : Nat)) else none) = some d := e
    by_cases hz : x.length = 1
    · rw [if_pos hz] at e; cases e; exact ⟨x, rfl, hz, q _ (.int _)⟩
    · rw [if_neg hz] at e; cases e
def strD : List D → Option D
  | [.int i] => if i.natAbs.log2 < 1920 then some (.str (toString i)) else none
  | _ => none
theorem cg_str {t : T} : CallG c (.type "str") [t] strD .fr := cg_flat (fun X ok => call_str_int) fun H vs ds d h e Q q => by
  match ds, e with
  | [.int x], e =>
    obtain ⟨v, rfl, w⟩ := vw1 h
    cases w.inv
    have e : (if x.natAbs.log2 < 1920 then some (D.str (toString x)) else none) = some d := e
    by_cases hz : x.natAbs.log2 < 1920
    · rw [if_pos hz] at e; cases e; exact ⟨x, rfl, hz, q _ (.str _)⟩
    · rw [if_neg hz] at e; cases e
def max2D : List D → Option D
  | [.int i, .int j] => some (.int (if j > i then j else i))
  | _ => none
def min2D : List D → Option D
  | [.int i, .int j] => some (.int (if j < i then j else i))
  | _ => none
theorem cg_max2 {t t' : T} : CallG c (.builtin "max") [t, t'] max2D .fr := cg_flat (fun X ok => call_max2 ok.calm) fun H vs ds d h e Q q => by
  match ds, e with
  | [.int i, .int j], e => obtain ⟨v, w, rfl, w1, w2⟩ := vw2 h; cases w1.inv; cases w2.inv; cases e; exact ⟨i, j, rfl, q _ (.int _)⟩
theorem cg_min2 {t t' : T} : CallG c (.builtin "min") [t, t'] min2D .fr := cg_flat (fun X ok => call_min2 ok.calm) fun H vs ds d h e Q q => by
  match ds, e with
  | [.int i, .int j], e => obtain ⟨v, w, rfl, w1, w2⟩ := vw2 h; cases w1.inv; cases w2.inv; cases e; exact ⟨i, j, rfl, q _ (.int _)⟩
/-! a list of ints, of truth values -/
def asInts : List D → Option (List Int)
  | [] => some []
  | .int i :: r => (asInts r).map (i :: ·)
  | _ => none
def asBls : List D → Option (List Bool)
  | [] => some []
  | .bl i :: r => (asBls r).map (i :: ·)
  | _ => none
theorem asInts_vw {K : PySem.W.Frag} {H : Hp} : ∀ {vs : List V} {ds : List D} {ns : List Int}, Vw K H vs ds → asInts ds = some ns → vs = ns.map V.int
  | [], [], _, _, e => by cases e; rfl
  | [], _ :: _, _, h, _ => by have := h.len; simp at this
  | _ :: _, [], _, h, _ => by have := h.len; simp at this
  | v :: vs, .int i :: ds, ns, h, e => by
    obtain ⟨r, e1, e2⟩ := Option.map_eq_some_iff.mp e
    subst e2
    cases h.one.1.inv
    rw [asInts_vw h.one.2 e1]
    rfl
theorem asBls_vw {K : PySem.W.Frag} {H : Hp} : ∀ {vs : List V} {ds : List D} {ns : List Bool}, Vw K H vs ds → asBls ds = some ns → vs = ns.map V.bl
  | [], [], _, _, e => by cases e; rfl
  | [], _ :: _, _, h, _ => by have := h.len; simp at this
  | _ :: _, [], _, h, _ => by have := h.len; simp at this
  | v :: vs, .bl i :: ds, ns, h, e => by
    obtain ⟨r, e1, e2⟩ := Option.map_eq_some_iff.mp e
    subst e2
    cases h.one.1.inv
    rw [asBls_vw h.one.2 e1]
    rfl
def sumD : List D → Option D
  | [.lst ds] => (asInts ds).map fun ns => .int ns.sum
  | _ => none
theorem cg_sum {t : T} : CallG c (.builtin "sum") [t] sumD .fr := cg_flat (r := rSum c.K) (fun X ok => by rw [← ok.K]; exact cr_sum ok.calm) fun H vs ds d h e Q q => by
  match ds, e with
  | [.lst ds], e =>
    obtain ⟨v, rfl, w⟩ := vw1 h
    obtain ⟨ns, e1, e2⟩ := Option.map_eq_some_iff.mp e
    subst e2
    cases w.inv with
    | @lst a vs ds s y =>
      rw [asInts_vw y e1] at s
      exact ⟨a, ns, rfl, s, q _ (.int _)⟩
def maxI : List Int → Int
  | [] => 0
  | x :: r => r.foldl (fun a b => if b > a then b else a) x
def minI : List Int → Int
  | [] => 0
  | x :: r => r.foldl (fun a b => if b < a then b else a) x
theorem maxI_fold : ∀ (r : List Int) (x : Int), (r.foldl (fun a b => if b > a then b else a) x ∈ x :: r) ∧ ∀ y ∈ x :: r, y ≤ r.foldl (fun a b => if b > a then b else a) x
  | [], x => by simp
  | z :: r, x => by
    obtain ⟨h1, h2⟩ := maxI_fold r (if z > x then z else x)
    rw [List.foldl_cons]
    constructor
    · rcases List.mem_cons.mp h1 with h | h
      · rw [h]
        split <;> simp
      · exact List.mem_cons_of_mem _ (List.mem_cons_of_mem _ h)
    · intro y hy
      have h3 := h2 _ List.mem_cons_self
      rcases List.mem_cons.mp hy with h | h
      · subst h; exact Int.le_trans (by split <;> omega) h3
      · rcases List.mem_cons.mp h with h | h
        · subst h; exact Int.le_trans (by split <;> omega) h3
        · exact h2 y (List.mem_cons_of_mem _ h)
theorem minI_fold : ∀ (r : List Int) (x : Int), (r.foldl (fun a b => if b < a then b else a) x ∈ x :: r) ∧ ∀ y ∈ x :: r, r.foldl (fun a b => if b < a then b else a) x ≤ y
  | [], x => by simp
  | z :: r, x => by
    obtain ⟨h1, h2⟩ := minI_fold r (if z < x then z else x)
    rw [List.foldl_cons]
    constructor
    · rcases List.mem_cons.mp h1 with h | h
      · rw [h]
        split <;> simp
      · exact List.mem_cons_of_mem _ (List.mem_cons_of_mem _ h)
    · intro y hy
      have h3 := h2 _ List.mem_cons_self
      rcases List.mem_cons.mp hy with h | h
      · subst h; exact Int.le_trans h3 (by split <;> omega)
      · rcases List.mem_cons.mp h with h | h
        · subst h; exact Int.le_trans h3 (by split <;> omega)
        · exact h2 y (List.mem_cons_of_mem _ h)
theorem maxI_mem {ns : List Int} (h : ns ≠ []) : maxI ns ∈ ns ∧ ∀ y ∈ ns, y ≤ maxI ns := by
  cases ns with
  | nil => exact absurd rfl h
  | cons x r => exact maxI_fold r x
theorem minI_mem {ns : List Int} (h : ns ≠ []) : minI ns ∈ ns ∧ ∀ y ∈ ns, minI ns ≤ y := by
  cases ns with
  | nil => exact absurd rfl h
  | cons x r => exact minI_fold r x
def maxD : List D → Option D
  | [.lst ds] => (asInts ds).bind fun ns => if ns.isEmpty then none else some (.int (maxI ns))
  | _ => none
def minD : List D → Option D
  | [.lst ds] => (asInts ds).bind fun ns => if ns.isEmpty then none else some (.int (minI ns))
  | _ => none
theorem cg_max {t : T} : CallG c (.builtin "max") [t] maxD .fr := cg_flat (r := rMax c.K) (fun X ok => by rw [← ok.K]; exact cr_max ok.calm) fun H vs ds d h e Q q => by
  match ds, e with
  | [.lst ds], e =>
    obtain ⟨v, rfl, w⟩ := vw1 h
    obtain ⟨ns, e1, e2⟩ := Option.bind_eq_some_iff.mp e
    cases w.inv with
    | @lst a vs ds s y =>
      rw [asInts_vw y e1] at s
      by_cases hn : ns.isEmpty = true
      · rw [if_pos hn] at e2; cases e2
      · rw [if_neg hn] at e2
        cases e2
        have hne : ns ≠ [] := fun z => hn (by rw [z]; rfl)
        obtain ⟨h1, h2⟩ := maxI_mem hne
        refine ⟨a, ns, rfl, s, List.length_pos_iff.mpr hne, fun m hm hle => ?_⟩
        have : m = maxI ns := Int.le_antisymm (h2 m hm) (hle _ h1)
        subst this
        exact q _ (.int _)
theorem cg_min {t : T} : CallG c (.builtin "min") [t] minD .fr := cg_flat (r := rMin c.K) (fun X ok => by rw [← ok.K]; exact cr_min ok.calm) fun H vs ds d h e Q q => by
  match ds, e with
  | [.lst ds], e =>
    obtain ⟨v, rfl, w⟩ := vw1 h
    obtain ⟨ns, e1, e2⟩ := Option.bind_eq_some_iff.mp e
    cases w.inv with
    | @lst a vs ds s y =>
      rw [asInts_vw y e1] at s
      by_cases hn : ns.isEmpty = true
      · rw [if_pos hn] at e2; cases e2
      · rw [if_neg hn] at e2
        cases e2
        have hne : ns ≠ [] := fun z => hn (by rw [z]; rfl)
        obtain ⟨h1, h2⟩ := minI_mem hne
        refine ⟨a, ns, rfl, s, List.length_pos_iff.mpr hne, fun m hm hle => ?_⟩
        have : m = minI ns := Int.le_antisymm (hle _ h1) (h2 m hm)
        subst this
        exact q _ (.int _)
def anyD : List D → Option D
  | [.lst ds] => (asBls ds).map fun bs => .bl (bs.any id)
  | _ => none
def allD : List D → Option D
  | [.lst ds] => (asBls ds).map fun bs => .bl (bs.all id)
  | _ => none
theorem cg_any {t : T} : CallG c (.builtin "any") [t] anyD .fr := cg_flat (r := rAny c.K) (fun X ok => by rw [← ok.K]; exact cr_any ok.calm) fun H vs ds d h e Q q => by
  match ds, e with
  | [.lst ds], e =>
    obtain ⟨v, rfl, w⟩ := vw1 h
    obtain ⟨ns, e1, e2⟩ := Option.map_eq_some_iff.mp e
    subst e2
    cases w.inv with
    | @lst a vs ds s y =>
      rw [asBls_vw y e1] at s
      exact ⟨a, ns, rfl, s, q _ (.bl _)⟩
theorem cg_all {t : T} : CallG c (.builtin "all") [t] allD .fr := cg_flat (r := rAll c.K) (fun X ok => by rw [← ok.K]; exact cr_all ok.calm) fun H vs ds d h e Q q => by
  match ds, e with
  | [.lst ds], e =>
    obtain ⟨v, rfl, w⟩ := vw1 h
    obtain ⟨ns, e1, e2⟩ := Option.map_eq_some_iff.mp e
    subst e2
    cases w.inv with
    | @lst a vs ds s y =>
      rw [asBls_vw y e1] at s
      exact ⟨a, ns, rfl, s, q _ (.bl _)⟩
/-! list(x), tuple(x) -/
def listD : List D → Option D
  | [.lst ds] => some (.lst ds)
  | [.tup ds] => some (.lst ds)
  | _ => none
theorem own1L {K : PySem.W.Frag} {F Hb H : Hp} {t : T} {vs : List V} {d : D} {f : List Addr} (h : Own K F Hb H [t] vs [d] f) : ∃ v, vs = [v] ∧ Own K F Hb H [t] [v] [d] f := by
  have l := h.len.1
  match vs, l with
  | [v], _ => exact ⟨v, rfl, h⟩
theorem cg_listOf {t : T} (ht : t = .fr ∨ t = .lst .fr) : CallG c (.type "list") [t] listD (.lst .fr) := cg_list (r := fun xs H Q => ∃ p ys, xs = [.ref p] ∧ (SqL c.K H p ys ∨ SqT c.K H p ys) ∧ ∀ l, H l = none → Q (.ref l) (upd H l (.lst ys))) (fun X ok => by rw [← ok.K]; exact call_list_of) fun F Hb H vs ds fp d sb sf o e => by
  match ds, e with
  | [.lst ds], e =>
    cases e
    obtain ⟨v, rfl, o⟩ := own1L o
    obtain ⟨a, ws, rfl, s, w, _⟩ := own_list ht sb o
    exact ⟨ws, ds, rfl, w, fun Q q => ⟨a, ws, rfl, .inl s, q⟩⟩
  | [.tup ds], e =>
    cases e
    obtain ⟨v, rfl, o⟩ := own1L o
    rcases ht with ht | ht
    · subst ht
      cases o.inv with
      | fr x =>
        cases x.inv with
        | tup s y => exact ⟨_, ds, rfl, y, fun Q q => ⟨_, _, rfl, .inr (same_sqT sb s.t), q⟩⟩
    · subst ht
      cases o.inv
def tupleD : List D → Option D
  | [.lst ds] => some (.tup ds)
  | [.tup ds] => some (.tup ds)
  | _ => none
theorem cg_tupleOf {t : T} (ht : t = .fr ∨ t = .lst .fr) : CallG c (.type "tuple") [t] tupleD .fr := by
  refine ⟨fun xs H Q => ∃ p ys, xs = [.ref p] ∧ ((SqL c.K H p ys ∧ ∀ l, H l = none → Q (.ref l) (upd H l (.tup ys))) ∨ (SqT c.K H p ys ∧ Q (.ref p) H)), fun X ok => by rw [← ok.K]; exact call_tuple_of, fun F Hb H vs ds fp d sb sf o e Q q => ?_⟩
  match ds, e with
  | [.lst ds], e =>
    cases e
    obtain ⟨v, rfl, o⟩ := own1L o
    obtain ⟨a, ws, rfl, s, w, _⟩ := own_list ht sb o
    refine ⟨a, ws, rfl, .inl ⟨s, fun p hp => ?_⟩⟩
    have xn := Ext.newFr (o := .tup ws) sb hp
    exact q _ _ _ [] xn (.fr (.tup (.inl upd_same) (w.mono xn.b))) .nil
  | [.tup ds], e =>
    cases e
    obtain ⟨v, rfl, o⟩ := own1L o
    rcases ht with ht | ht
    · subst ht
      cases o.inv with
      | fr x =>
        cases x.inv with
        | tup s y => exact ⟨_, _, rfl, .inr ⟨same_sqT sb s.t, q _ _ _ [] (.refl sb) (.fr (.tup s y)) .nil⟩⟩
    · subst ht
      cases o.inv
/-! sorted(xs) -/
/-- Python's order of data -/
def leP (a b : D) : Bool := PySem.W.dataLe false D.py a b
def alikes (ds : List D) : Bool := ds.all fun a => ds.all fun b => PySem.W.alike a.py b.py
def isTupP : D → Bool
  | .tup (_ :: _) => true
  | _ => false
def isOther : D → Bool
  | .bl _ | .int _ | .str _ | .lst _ => true
  | _ => false
def sortOk (ds : List D) : Bool := plAll ds && alikes ds && (ds.all isTupP || ds.all isOther) && decide (dpAll ds ≤ 60) && decide (ds.length ≤ sL)
def sortD : List D → Option D
  | [.lst ds] => if sortOk ds = true then some (.lst (ds.mergeSort leP)) else none
  | _ => none
theorem plAll_mem : ∀ {ds : List D}, plAll ds = true → ∀ d ∈ ds, d.pl = true
  | d :: ds, h, x, hx => by
    have h : d.pl = true ∧ plAll ds = true := by simpa [plAll] using h
    rcases List.mem_cons.mp hx with e | e
    · subst e; exact h.1
    · exact plAll_mem h.2 x e
theorem dpAll_mem : ∀ {ds : List D}, ∀ d ∈ ds, d.dp ≤ dpAll ds
  | d :: ds, x, hx => by
    rw [dpAll]
    rcases List.mem_cons.mp hx with e | e
    · subst e; omega
    · have := dpAll_mem x e; omega
theorem each_of {R : Value → V × D → Prop} : ∀ {vs : List V} {us : List Value} {ds : List D}, Vals vs us → vs.length = ds.length → (∀ (i : Nat) (u : Value) (v : V) (d : D), us[i]? = some u → vs[i]? = some v → ds[i]? = some d → RelV v u → R u (v, d)) → PySem.W.EachIs R us (vs.zip ds)
  | [], [], [], _, _, _ => .nil
  | [], [], _ :: _, _, l, _ => by simp at l
  | v :: vs, u :: us, [], _, l, _ => by simp at l
  | v :: vs, u :: us, d :: ds, h, l, f => by
    cases h with
    | cons r1 r2 => exact .cons (f 0 u v d rfl rfl rfl r1) (each_of r2 (by simpa using l) fun i u v d a b e => f (i + 1) u v d (by simpa using a) (by simpa using b) (by simpa using e))
theorem vals_each : ∀ {us : List Value} {ps : List (V × D)}, PySem.W.EachIs (fun u p => RelV p.1 u) us ps → Vals (ps.map (·.1)) us
  | _, _, .nil => .nil
  | _, _, .cons h t => .cons h (vals_each t)
theorem vw_pairs {K : PySem.W.Frag} {H : Hp} : ∀ {ps : List (V × D)}, (∀ p ∈ ps, Vw K H [p.1] [p.2]) → Vw K H (ps.map (·.1)) (ps.map (·.2))
  | [], _ => .nil
  | p :: ps, h => .cons (h p List.mem_cons_self) (vw_pairs fun q hq => h q (List.mem_cons_of_mem _ hq))
theorem vw_zip {K : PySem.W.Frag} {H : Hp} : ∀ {vs : List V} {ds : List D}, Vw K H vs ds → ∀ p ∈ vs.zip ds, Vw K H [p.1] [p.2]
  | [], _, _, p, hp => by simp at hp
  | _ :: _, [], _, p, hp => by simp at hp
  | v :: vs, d :: ds, h, p, hp => by
    rw [List.zip_cons_cons] at hp
    rcases List.mem_cons.mp hp with e | e
    · subst e; exact h.one.1
    · exact vw_zip h.one.2 p e
theorem vw_get {K : PySem.W.Frag} {H : Hp} {vs : List V} {ds : List D} (h : Vw K H vs ds) {i : Nat} {v : V} {d : D} (a : vs[i]? = some v) (b : ds[i]? = some d) : Vw K H [v] [d] := by
  obtain ⟨w, e, x⟩ := h.get b
  rw [a] at e
  cases e
  exact x
def rSortD (K : PySem.W.Frag) : List V → Hp → VK → Prop := fun xs H Q => ∃ a vs ds, xs = [V.ref a] ∧ SqL K H a vs ∧ Vw K H vs ds ∧ sortOk ds = true ∧ ∀ p, H p = none → Q (.ref p) (upd H p (.lst (((vs.zip ds).mergeSort (fun x y => leP x.2 y.2)).map (·.1))))
theorem cr_sortD {X : Cx} (hr : Room c.k X.A) : CallR X (.builtin "sorted") (rSortD X.K) := by
  intro pins s σ H xs us Q I r h
  obtain ⟨a, vs, ds, rfl, hs, w, ho, q⟩ := h
  have ho : (((plAll ds = true ∧ alikes ds = true) ∧ (ds.all isTupP = true ∨ ds.all isOther = true)) ∧ dpAll ds ≤ 60) ∧ ds.length ≤ sL := by simpa [sortOk] using ho
  obtain ⟨⟨⟨⟨hp, hal⟩, hk⟩, hd⟩, hl⟩ := ho
  obtain ⟨its, rv, hL, hz⟩ := I.list hs
  rw [Vals.ref1 r]
  have ln : vs.length = ds.length := w.len
  have e1 : PySem.W.EachIs (fun u p => RelV p.1 u) its (vs.zip ds) := each_of rv ln fun i u v d _ _ _ hr => hr
  have e2 : PySem.W.EachIs (fun u (p : V × D) => ∃ as, Reads s.heap u p.2.py as) its (vs.zip ds) := each_of rv ln fun i u v d _ hv hd2 hr => reads I d v u (plAll_mem hp d (List.mem_of_getElem? hd2)) (vw_get w hv hd2) hr
  have mem2 : ∀ p ∈ vs.zip ds, p.2 ∈ ds := fun p hp => (List.of_mem_zip hp).2
  refine PySem.W.sorted_data (enc := fun p : V × D => p.2.py) hL.isList e1 e2 ?_ ?_ (by rw [List.length_zip, ln, Nat.min_self, sizeLine_eq]; exact hl) ?_ ?_
  · intro d hd1 d' hd2
    obtain ⟨p, h1, rfl⟩ := List.mem_map.mp hd1
    obtain ⟨p', h2, rfl⟩ := List.mem_map.mp hd2
    have := List.all_eq_true.mp (List.all_eq_true.mp hal _ (mem2 p h1)) _ (mem2 p' h2)
    exact this
  · rcases hk with hk | hk
    · refine .inl fun d hd1 => ?_
      obtain ⟨p, h1, rfl⟩ := List.mem_map.mp hd1
      have := List.all_eq_true.mp hk _ (mem2 p h1)
      show ∃ x r, p.2.py = _
      generalize p.2 = dd at this
      match dd, this with
      | .tup (x :: r), _ => exact ⟨x.py, pyAll r, by rw [D.py, pyAll]⟩
    · refine .inr fun d hd1 => ?_
      obtain ⟨p, h1, rfl⟩ := List.mem_map.mp hd1
      have := List.all_eq_true.mp hk _ (mem2 p h1)
      show p.2.py ≠ _ ∧ ∀ xs, p.2.py ≠ _
      generalize p.2 = dd at this
      cases dd <;> simp_all [isOther, D.py]
  · intro p hp1
    have h1 := D.depth_py p.2 (plAll_mem hp _ (mem2 p hp1))
    have h2 := dpAll_mem _ (mem2 p hp1)
    have h3 := hr.units
    show X.A.units + 2 + p.2.py.depth < cLine
    omega
  · intro out h1 h2
    obtain ⟨ep, he'⟩ := PyProof.Rows.sortedAll_at s.heap its out.toArray
    have rv2 := vals_each h2
    have hlen : (((vs.zip ds).mergeSort (PySem.W.dataLe false fun p : V × D => p.2.py)).map (·.1)).length ≤ sizeLine := by
      rw [List.length_map, List.length_mergeSort, List.length_zip, ln, Nat.min_self, sizeLine_eq]; exact hl
    exact ⟨.ref _, upd H (s.heap.objs.size + 1) (.lst _), I.laid (t' := s.toks) (fun _ _ => PyProof.Rows.sortedAll_old) (Nat.le_succ _) ⟨hlen, out, ep, rv2, he'⟩, rfl, q _ (I.hok.fresh (Nat.le_succ _))⟩
theorem cg_sorted {t : T} (ht : t = .fr ∨ t = .lst .fr) : CallG c (.builtin "sorted") [t] sortD (.lst .fr) := cg_list (r := rSortD c.K) (fun X ok => by rw [← ok.K]; exact cr_sortD ok.room) fun F Hb H vs ds fp d sb sf o e => by
  match ds, e with
  | [.lst ds], e =>
    obtain ⟨v, rfl, o⟩ := own1L o
    obtain ⟨a, ws, rfl, s, w, _⟩ := own_list ht sb o
    have e : (if sortOk ds = true then some (D.lst (ds.mergeSort leP)) else none) = some d := e
    by_cases ho : sortOk ds = true
    · rw [if_pos ho] at e
      cases e
      have e2 : ((ws.zip ds).mergeSort (fun x y => leP x.2 y.2)).map (·.2) = ds.mergeSort leP := by
        rw [PySem.W.sort_maps (s := leP) Prod.snd (fun _ _ _ _ => rfl), List.map_snd_zip (by rw [w.len]; exact Nat.le_refl _)]
      refine ⟨_, _, rfl, ?_, fun Q q => ⟨a, ws, ds, rfl, s, w.mono sb, ho, q⟩⟩
      rw [← e2]
      exact vw_pairs fun p hp => vw_zip w p (List.mem_mergeSort.mp hp)
    · rw [if_neg ho] at e; cases e
/-! isinstance(x, T), T a built-in class -/
def tyN : D → Option String
  | .non => some "NoneType"
  | .bl _ => some "bool"
  | .int _ => some "int"
  | .str _ => some "str"
  | .tup _ => some "tuple"
  | .lst _ => some "list"
  | _ => none
def isiD (n : String) (f : Env' → Option D) : Env' → Option D := fun ρ => (f ρ).bind fun d => (tyN d).bind fun k => (kitB k n).map D.bl
theorem tyx {K : PySem.W.Frag} {H : Hp} {v : V} {d : D} {k : String} (h : Vw K H [v] [d]) (e : tyN d = some k) : TyX K H v (.type k) := by
  cases h.inv with
  | non => cases e; exact .base .non
  | bl b => cases e; exact .base (.bl b)
  | int i => cases e; exact .base (.int i)
  | str x => cases e; exact .base (.str x)
  | tup s _ =>
    cases e
    rcases s with s | ⟨o, its, n, h1, h2, _⟩
    · exact .base (.tup s)
    · exact .kTuple h1 h2
  | lst s _ =>
    cases e
    rcases s with (s | ⟨o, s⟩) | ⟨o, its, n, h1, h2, _⟩
    · exact .base (.lst s)
    · exact .base (.frz s)
    · exact .kList h1 h2
  | dct _ _ => cases e
  | obj _ _ => cases e
theorem qe_isi {a : Expr} {f : Env' → Option D} {t : T} {m mm : Bool} {n : String} {x : Str} {p p2 : Pos} (hg : c.sc.names.lookup ("isinstance" : Str) = some .globalImplicit) (hm : c.mg "isinstance" = none) (hg2 : c.sc.names.lookup x = some .globalImplicit) (hm2 : c.mg x = none)
    (hv2 : bootBuiltins x = some (.type n)) (ha : QE c Γ a f t m) (hv : bootBuiltins "isinstance" = some (.builtin "isinstance") := by decide +kernel) (hn : x ≠ "__name__" := by decide) (hdb : (x == ("__debug__" : Str)) = false := by decide)
    (he : ∀ env : Env, starEach [a, .Name x p2] env = (false, eval a env) :: starEach [.Name x p2] env := by intro _; rfl) : QE c Γ (.Call (.Name "isinstance" p) [a, .Name x p2] [] pos) (isiD n f) .fr mm := by
  obtain ⟨te, h1, h2⟩ := ha.ex
  refine ⟨tCB (rIsi c.K) (tCons te (tCons (tC (.ty n)) tNil)), fun X ok => ?_, fun F Hb H σ ρ fp d S e Q q => ?_⟩
  · refine pe_callB (by rw [← ok.K]; exact call_isi) (show X.env.scope.names.lookup ("isinstance" : Str) = _ by rw [ok.sc]; exact hg) (by rw [ok.mg]; exact hm) hv (pa_cons (h1 X ok) (pa_cons (pe_bltn (v := .ty n) (u := .type n) (show X.env.scope.names.lookup x = _ by rw [ok.sc]; exact hg2) (by rw [ok.mg]; exact hm2) hv2 rfl hn hdb) pa_nil) (he _)) (by decide) (by decide) (he _) (by rfl)
  · obtain ⟨x, e1, e⟩ := Option.bind_eq_some_iff.mp e
    obtain ⟨k, e2, e⟩ := Option.bind_eq_some_iff.mp e
    obtain ⟨b, e3, e⟩ := Option.map_eq_some_iff.mp e
    subst e
    refine h2 F Hb H σ ρ fp x S e1 _ fun v Hb1 H1 fv x1 o1 _ => ?_
    exact ⟨v, .ty n, .type k, .type n, b, rfl, .ty n, tyx (o1.vw x1.bh (S.sf.trans x1.h)) e2, kit_ty e3, q _ Hb1 H1 [] x1 (.fr (.bl b)) fun _ => .nil⟩

/-! ### a + b of lists, of tuples -/
def rCatL (K : PySem.W.Frag) : R2 := fun x y H Q => ∃ l b xs zs, x = .ref l ∧ y = .ref b ∧ SqL K H l xs ∧ SqL K H b zs ∧ xs.length + zs.length ≤ sizeLine ∧ ∀ p, H p = none → Q (.ref p) (upd H p (.lst (xs ++ zs)))
theorem op_catL {X : Cx} : OpR X (binaryOp .Add) (rCatL X.K) := by
  intro pins s σ H x y v u Q I rx ry h
  obtain ⟨l, b, xs, zs, rfl, rfl, hH, hB, hz, q⟩ := h
  cases rx
  cases ry
  obtain ⟨its, r, hl, _⟩ := I.list hH
  obtain ⟨its2, r2, hb, _⟩ := I.list hB
  obtain ⟨⟨cls, dd, data, sl⟩, ho, hc, n, hd⟩ := id hl.isList
  obtain ⟨⟨cls2, dd2, data2, sl2⟩, ho2, hc2, n2, hd2⟩ := id hb.isList
  simp only at hc hd hc2 hd2
  subst hc hd hc2 hd2
  have e : its.toArray ++ its2.toArray = (its ++ its2).toArray := by simp
  refine concat_meets ⟨_, ho, rfl⟩ ⟨_, ho2, rfl⟩ noFill_list_add seq_list_add PySem.F.slot_list_add PySem.F.entry_list_add (PySem.F.args_list_add_2 _ _) (list_addW l b its.toArray its2.toArray n n2 dd dd2 sl sl2 (by simpa [← r.length, ← r2.length] using hz)) ⟨ho, ho2, ?_⟩
  rw [e]
  exact ⟨.ref _, _, I.lnew (t' := s.toks) (r.append r2) (by rw [List.length_append]; omega), rfl, q _ I.fresh⟩
def catD : D → D → Option D
  | .lst a, .lst b => if a.length + b.length ≤ sL then some (.lst (a ++ b)) else none
  | _, _ => none
theorem qe_cat {a b : Expr} {fa fb : Env' → Option D} {ta tb : T} {ma mb : Bool} (ht : ta = .fr ∨ ta = .lst .fr) (ht' : tb = .fr ∨ tb = .lst .fr) (ha : QE c Γ a fa ta ma) (hb : QE c Γ b fb tb mb) : QE c Γ (.BinOp a .Add b pos) (op2 catD fa fb) (.lst .fr) true := by
  obtain ⟨ea, eb, h1, h2, h3⟩ := two ha hb
  refine ⟨tOp (rCatL c.K) ea eb, fun X ok => pe_op (by rw [← ok.K]; exact op_catL) (h1 X ok) (h2 X ok), fun F Hb H σ ρ fp d S e Q q => ?_⟩
  obtain ⟨x, y, e1, e2, e3⟩ := op2_some e
  refine h3 F Hb H σ ρ fp x y S e1 e2 (fun v w H2 => rCatL c.K v w H2 Q) fun v w Hb' H' f g x1 o1 o2 sf sb _ _ => ?_
  cases x with
  | lst xs =>
    cases y with
    | lst ys =>
      have e3 : (if xs.length + ys.length ≤ sL then some (D.lst (xs ++ ys)) else none) = some d := e3
      by_cases hz : xs.length + ys.length ≤ sL
      · rw [if_pos hz] at e3
        cases e3
        obtain ⟨l, vs, ev, sl, w1, _⟩ := own_list ht sb o1
        obtain ⟨l2, vs2, ev2, sl2, w2, _⟩ := own_list ht' sb o2
        refine ⟨l, l2, vs, vs2, ev, ev2, sl, sl2, by rw [w1.len, w2.len, sizeLine_eq]; exact hz, fun p hp => ?_⟩
        have xn := Ext.new (o := .lst (vs ++ vs2)) sb hp
        refine q _ _ _ [p] (x1.trans xn) (.lst upd_same (sb.free hp) (sf.free hp) (Own.ofFrs (w1.app w2))) fun _ => ⟨by simp, fun a ha => ?_⟩
        have : a = p := by simpa using ha
        subst this
        exact x1.h.free hp
      · rw [if_neg hz] at e3; cases e3
    | _ => cases e3
  | _ => cases y <;> cases e3
def catT : D → D → Option D
  | .tup a, .tup b => if a.length + b.length ≤ sL then some (.tup (a ++ b)) else none
  | _, _ => none
theorem qe_catT {a b : Expr} {fa fb : Env' → Option D} {ma mb m : Bool} (ha : QE c Γ a fa .fr ma) (hb : QE c Γ b fb .fr mb) : QE c Γ (.BinOp a .Add b pos) (op2 catT fa fb) .fr m := by
  obtain ⟨ea, eb, h1, h2, h3⟩ := two ha hb
  refine ⟨tOp (rCatA c.K) ea eb, fun X ok => pe_op (by rw [← ok.K]; exact op_catA) (h1 X ok) (h2 X ok), fun F Hb H σ ρ fp d S e Q q => ?_⟩
  obtain ⟨x, y, e1, e2, e3⟩ := op2_some e
  refine h3 F Hb H σ ρ fp x y S e1 e2 (fun v w H2 => rCatA c.K v w H2 Q) fun v w Hb' H' f g x1 o1 o2 sf sb _ _ => ?_
  cases x with
  | tup xs =>
    cases y with
    | tup ys =>
      have e3 : (if xs.length + ys.length ≤ sL then some (D.tup (xs ++ ys)) else none) = some d := e3
      by_cases hz : xs.length + ys.length ≤ sL
      · rw [if_pos hz] at e3
        cases e3
        cases o1.inv with
        | fr w1 =>
          cases o2.inv with
          | fr w2 =>
            cases w1.inv with
            | @tup l vs _ s1 y1 =>
              cases w2.inv with
              | @tup l2 vs2 _ s2 y2 =>
                refine ⟨l, l2, vs, vs2, rfl, rfl, same_sqT sb s1.t, same_sqT sb s2.t, by rw [y1.len, y2.len, sizeLine_eq]; exact hz, fun hn => ?_, fun _ hn => ?_, fun _ _ p hp => ?_⟩
                · subst hn
                  have e : xs = [] := List.eq_nil_of_length_eq_zero y1.len.symm
                  subst e
                  exact q _ Hb' H' [] x1 (.fr (.tup s2 y2)) fun _ => .nil
                · subst hn
                  have e : ys = [] := List.eq_nil_of_length_eq_zero y2.len.symm
                  subst e
                  rw [List.append_nil] at q
                  exact q _ Hb' H' [] x1 (.fr (.tup s1 y1)) fun _ => .nil
                · have xn := Ext.newFr (o := .tup (vs ++ vs2)) sb hp
                  exact q _ _ _ [] (x1.trans xn) (.fr (.tup (.inl upd_same) ((y1.app y2).mono xn.b))) fun _ => .nil
      · rw [if_neg hz] at e3; cases e3
    | _ => cases e3
  | _ => cases y <;> cases e3
end
end Vm

/-! VmF: targets, what is walked, list comprehensions. -/
namespace Vm
open PySem PySem.Spec PyProof.Rows L2

def T.isFr : T → Bool
  | .fr => true
  | _ => false
@[simp] theorem isFr_fr : T.isFr .fr = true := rfl
@[simp] theorem isFr_rd : T.isFr .rd = false := rfl
/-! ### slots written -/
def setV (i : Nat) (d : D) (ρ : Env') : Env' := ρ.set i (some d)
section
variable {K : PySem.W.Frag} {F Hb H : Hp} {Γ : List T} {σ : L2.St} {ρ : Env'} {fp : List Addr}
/-- forgetting what a slot holds -/
theorem Sta.drop (S : Sta K F Hb H Γ σ ρ fp) (i : Nat) (v : Option V) (d : Option D) (hi : i < Γ.length) : ∃ gp, Sta K F Hb H (Γ.set i .any) (σ.set i v) (ρ.set i d) gp ∧ ∀ a ∈ gp, a ∈ fp := by
  by_cases h : Γ[i]? = some .any
  · refine ⟨fp, ⟨?_, S.nd, S.sb, S.sf, S.lk⟩, fun a h => h⟩
    have go : ∀ {Γ : List T} {σ : L2.St} {ρ : Env'} {fp : List Addr}, Ow K F Hb H Γ σ ρ fp → ∀ {i : Nat}, Γ[i]? = some .any → Ow K F Hb H (Γ.set i .any) (σ.set i v) (ρ.set i d) fp := by
      intro Γ σ ρ fp o
      induction o with
      | nil => intro i e; simp at e
      | any v0 d0 _ ih =>
        intro i e
        cases i with
        | zero => simpa using Ow.any v d (by assumption)
        | succ i => simpa using Ow.any v0 d0 (ih (i := i) (by simpa using e))
      | cons o _ ih =>
        intro i e
        cases i with
        | zero =>
          simp at e
          subst e
          cases o.inv
        | succ i => simpa using Ow.cons o (ih (i := i) (by simpa using e))
    exact go S.ow h
  · have e : Γ[i]? = some Γ[i] := List.getElem?_eq_getElem hi
    obtain ⟨v0, d0, f, g, _, _, _, h4, h5, h6⟩ := S.ow.out e (fun z => h (by rw [e, z]))
    exact ⟨g, ⟨h4 v d, (List.nodup_append.mp (h5 S.nd)).2.1, S.sb, S.sf, S.lk⟩, fun a ha => (h6 a).mpr (.inr ha)⟩
/-- a slot gets a thing of its own -/
theorem Sta.put (S : Sta K F Hb H Γ σ ρ fp) {i : Nat} {t : T} {v : V} {d : D} {f : List Addr} (hi : i < Γ.length) (o : Own K F Hb H [t] [v] [d] f) (nd : f.Nodup) (ap : ∀ a ∈ f, a ∉ fp) :
    ∃ gp, Sta K F Hb H (Γ.set i t) (σ.set i (some v)) (setV i d ρ) gp ∧ ∀ a ∈ gp, a ∈ f ∨ a ∈ fp := by
  obtain ⟨g, S2, h2⟩ := S.drop i (some v) (some d) hi
  obtain ⟨gp, h3, h4, h5⟩ := S2.ow.put (i := i) (by rw [List.getElem?_set_self hi]) o
  refine ⟨gp, ⟨by simpa [setV] using h3, h4 (List.nodup_append.mpr ⟨nd, S2.nd, fun a ha b hb q => ap a ha (q ▸ h2 b hb)⟩), S.sb, S.sf, S.lk⟩, fun a ha => ?_⟩
  rcases (h5 a).mp ha with h | h
  · exact .inl h
  · exact .inr (h2 a h)
theorem Sta.len (S : Sta K F Hb H Γ σ ρ fp) : Γ.length = σ.length ∧ σ.length = ρ.length := S.ow.len
end

/-! ### targets -/
/-- a value of kind t (shared, or read) goes to the target; the slots written are among is -/
structure QG (c : Ctx) (Γ : List T) (tg : Expr) (g : D → Env' → Option Env') (t : T) (Γ' : List T) (is : List Nat) : Prop where
  len : Γ'.length = Γ.length
  ex : ∃ te : TG, (∀ X, c.Ok X → PG X tg te) ∧ ∀ F Hb H σ ρ fp v d ρ', Sta c.K F Hb H Γ σ ρ fp → Own c.K F Hb H [t] [v] [d] [] → g d ρ = some ρ' → ∀ Q : L2.St → Hp → Prop,
    (∀ σ' fp', Sta c.K F Hb H Γ' σ' ρ' fp' → (∀ a ∈ fp', a ∈ fp) → (∀ j, j ∉ is → σ'[j]? = σ[j]?) → Q σ' H) → te v σ H Q
structure QGs (c : Ctx) (Γ : List T) (tgs : List Expr) (g : List D → Env' → Option Env') (t : T) (Γ' : List T) (is : List Nat) : Prop where
  len : Γ'.length = Γ.length
  ex : ∃ te : TGs, (∀ X, c.Ok X → PGs X tgs te) ∧ ∀ F Hb H σ ρ fp vs ds ρ', Sta c.K F Hb H Γ σ ρ fp → Own c.K F Hb H (List.replicate ds.length t) vs ds [] → g ds ρ = some ρ' → ∀ Q : L2.St → Hp → Prop,
    (∀ σ' fp', Sta c.K F Hb H Γ' σ' ρ' fp' → (∀ a ∈ fp', a ∈ fp) → (∀ j, j ∉ is → σ'[j]? = σ[j]?) → Q σ' H) → te vs σ H Q
def gSet (i : Nat) : D → Env' → Option Env' := fun d ρ => some (setV i d ρ)
section
variable {c : Ctx} {Γ Γ1 Γ2 : List T} {pos : Pos}
theorem qg_name {x : Str} {i : Nat} {t : T} (hi : c.N[i]? = some x) (hx : Loc c.sc x) (hf : c.fn x = true ∨ c.sc.names.lookup x = some .local) (hl : i < Γ.length) (ht : t = .fr ∨ t = .rd) : QG c Γ (.Name x pos) (gSet i) t (Γ.set i t) [i] :=
  ⟨by simp, gName i, fun X ok => pg_name ok.nd (by rw [ok.N]; exact hi) (by rw [ok.sc]; exact hx) (by rw [ok.fn, ok.sc]; exact hf), fun F Hb H σ ρ fp v d ρ' S o e Q q => by
    cases e
    obtain ⟨gp, S2, h2⟩ := S.put hl o List.nodup_nil (fun a ha => by simp at ha)
    refine q _ gp S2 (fun a ha => ?_) (fun j hj => ?_)
    · rcases h2 a ha with h | h
      · simp at h
      · exact h
    · have : i ≠ j := fun e => hj (by rw [e]; exact List.mem_singleton.mpr rfl)
      rw [List.getElem?_set_ne this]⟩
def gsNil : List D → Env' → Option Env' := fun ds ρ => match ds with | [] => some ρ | _ => none
def gsCons (g : D → Env' → Option Env') (h : List D → Env' → Option Env') : List D → Env' → Option Env' := fun ds ρ => match ds with | d :: r => (g d ρ).bind (h r) | [] => none
theorem qgs_nil {t : T} : QGs c Γ [] gsNil t Γ [] := ⟨rfl, gNil, fun X ok => pgs_nil, fun F Hb H σ ρ fp vs ds ρ' S o e Q q => by
  match ds, e with
  | [], e =>
    cases e
    have l := o.len.1
    have l : vs = [] := List.eq_nil_of_length_eq_zero l.symm
    exact ⟨l, q σ fp S (fun a h => h) fun j _ => rfl⟩⟩
theorem app_nil {f g : List Addr} (h : [] = f ++ g) : f = [] ∧ g = [] := by
  cases f with
  | nil => exact ⟨rfl, by simpa using h.symm⟩
  | cons a f => simp at h
theorem qgs_cons {e : Expr} {es : List Expr} {g : D → Env' → Option Env'} {h : List D → Env' → Option Env'} {t : T} {is js : List Nat} (h1 : QG c Γ e g t Γ1 is) (h2 : QGs c Γ1 es h t Γ2 js)
    (hs : ∀ env : Env, (assignEach (e :: es) env).map (·.2) = assign e env :: (assignEach es env).map (·.2) := by intro _; rfl) : QGs c Γ (e :: es) (gsCons g h) t Γ2 (is ++ js) := by
  obtain ⟨te, a1, a2⟩ := h1.ex
  obtain ⟨tf, b1, b2⟩ := h2.ex
  refine ⟨h2.len.trans h1.len, gCons te tf, fun X ok => pgs_cons (a1 X ok) (b1 X ok) (hs _), fun F Hb H σ ρ fp vs ds ρ' S o e Q q => ?_⟩
  match ds, e with
  | d :: r, e =>
    obtain ⟨ρ1, e1, e2⟩ := Option.bind_eq_some_iff.mp e
    match vs, o with
    | [], o => have := o.len; simp at this
    | v :: vr, o =>
      obtain ⟨f, g', ef, o1, o2⟩ := o.uncons
      obtain ⟨ef, eg⟩ := app_nil ef
      subst ef eg
      refine ⟨v, vr, rfl, a2 F Hb H σ ρ fp v d ρ1 S o1 e1 _ fun σ1 fp1 S1 i1 p1 => ?_⟩
      refine b2 F Hb H σ1 ρ1 fp1 vr r ρ' S1 o2 e2 Q fun σ2 fp2 S2 i2 p2 => q σ2 fp2 S2 (fun a ha => i1 a (i2 a ha)) fun j hj => ?_
      rw [p2 j (fun z => hj (List.mem_append_right _ z)), p1 j (fun z => hj (List.mem_append_left _ z))]
/-- unpacking a tuple or a list of n things -/
def unpD (n : Nat) : D → Option (List D)
  | .tup ds => if ds.length = n then some ds else none
  | .lst ds => if ds.length = n then some ds else none
  | _ => none
def gUnp (n : Nat) (h : List D → Env' → Option Env') : D → Env' → Option Env' := fun d ρ => (unpD n d).bind fun ds => h ds ρ
theorem own_frs {K : PySem.W.Frag} {F Hb H : Hp} {t : T} (ht : t = .fr ∨ t = .rd) : ∀ {vs : List V} {ds : List D}, Vw K (if t.isFr = true then Hb else F) vs ds → Own K F Hb H (List.replicate ds.length t) vs ds []
  | [], [], _ => .nil
  | [], _ :: _, h => by have := h.len; simp at this
  | _ :: _, [], h => by have := h.len; simp at this
  | v :: vs, d :: ds, h => by
    have o1 : Own K F Hb H [t] [v] [d] [] := by
      rcases ht with e | e
      · subst e; exact .fr (by simpa using h.one.1)
      · subst e; exact .rd (by simpa using h.one.1)
    exact Own.cons o1 (own_frs ht h.one.2)
theorem pg_or {X : Cx} {e : Expr} {t u : TG} (h : PG X e t) (h' : PG X e u) : PG X e (fun v σ H Q => t v σ H Q ∨ u v σ H Q) := ⟨fun pins s σ H v w Q I r q => q.elim (h.run pins s σ H v w Q I r) (h'.run pins s σ H v w Q I r)⟩
theorem qg_tup {es : List Expr} {n k : Nat} {h : List D → Env' → Option Env'} {t : T} {is : List Nat} (ht : t = .fr ∨ t = .rd) (hs : QGs c Γ es h t Γ1 is)
    (hn : ∀ env : Env, (assignEach es env).length = n := by intro _; rfl) (hst : ∀ env : Env, (assignEach es env).findIdx? (·.1) = none := by intro _; rfl) : QG c Γ (.Tuple es k pos) (gUnp n h) t Γ1 is := by
  obtain ⟨te, a1, a2⟩ := hs.ex
  refine ⟨hs.len, fun v σ H Q => gTup c.K n te v σ H Q ∨ gUnl c.K n te v σ H Q, fun X ok => ?_, fun F Hb H σ ρ fp v d ρ' S o e Q q => ?_⟩
  · have h1 := pg_tup (k := k) (pos := pos) ok.calm (a1 X ok) (hn _) (hst _)
    have h2 := pg_unl (k := k) (pos := pos) ok.calm (a1 X ok) (hn _) (hst _)
    rw [ok.K] at h1 h2
    exact pg_or h1 h2
  · obtain ⟨ds, e1, e2⟩ := Option.bind_eq_some_iff.mp e
    have w : Vw c.K (if t.isFr = true then Hb else F) [v] [d] := by
      rcases ht with e | e
      · subst e
        cases o.inv with
        | fr x => simpa using x
      · subst e
        cases o.inv with
        | rd x => simpa using x
    have up : Same (if t.isFr = true then Hb else F) H := by
      rcases ht with e | e
      · subst e; simpa using S.sb
      · subst e; simpa using S.sf
    cases d with
    | tup es' =>
      have e1 : (if es'.length = n then some es' else none) = some ds := e1
      by_cases hl : es'.length = n
      · rw [if_pos hl] at e1
        cases e1
        cases w.inv with
        | @tup a vs ds' s y =>
          exact .inl ⟨a, vs, rfl, same_sqT up s.t, y.len.trans hl, a2 F Hb H σ ρ fp vs _ ρ' S (own_frs ht y) e2 Q q⟩
      · rw [if_neg hl] at e1; cases e1
    | lst es' =>
      have e1 : (if es'.length = n then some es' else none) = some ds := e1
      by_cases hl : es'.length = n
      · rw [if_pos hl] at e1
        cases e1
        cases w.inv with
        | @lst a vs ds' s y =>
          exact .inr ⟨a, vs, rfl, same_sqL up s, y.len.trans hl, a2 F Hb H σ ρ fp vs _ ρ' S (own_frs ht y) e2 Q q⟩
      · rw [if_neg hl] at e1; cases e1
    | _ => cases e1

/-! ### what is walked -/
structure ItF (K : PySem.W.Frag) (F : Hp) (J : It) (ds : List D) (t : T) (Hb0 : Hp) : Prop where
  go : ∀ i Hb H, Same Hb0 Hb → Same Hb H → Same F H → i < ds.length → J.go i H
  stop : ∀ i Hb H, Same Hb0 Hb → Same Hb H → Same F H → ds.length ≤ i → J.stop i H
  yld : ∀ i Hb H x H' d, Same Hb0 Hb → Same Hb H → Same F H → ds[i]? = some d → J.yld i H x H' → ∃ Hb', Ext Hb H Hb' H' ∧ Own K F Hb' H' [t] [x] [d] []
structure QI (c : Ctx) (Γ : List T) (tg iter : Expr) (f : Env' → Option (List D)) (t : T) : Prop where
  ex : ∃ wi : TI, (∀ X, c.Ok X → PI X tg iter wi) ∧ ∀ F Hb H σ ρ fp ds, Sta c.K F Hb H Γ σ ρ fp → f ρ = some ds → ∀ R : It → Hp → Prop,
    (∀ J Hb' H', Ext Hb H Hb' H' → ItF c.K F J ds t Hb' → R J H') → wi σ H R
theorem pi_or {X : Cx} {tg e : Expr} {t u : TI} (h : PI X tg e t) (h' : PI X tg e u) : PI X tg e (fun σ H R => t σ H R ∨ u σ H R) := ⟨fun pins s σ H R I q => q.elim (h.run pins s σ H R I) (h'.run pins s σ H R I)⟩
/-- what a list, a tuple, a text gives one after the other -/
def itD : D → Option (List D)
  | .lst ds => some ds
  | .tup ds => some ds
  | .str z => some (z.cps.toList.map fun q => .str ⟨#[q]⟩)
  | _ => none
theorem itf_list {K : PySem.W.Frag} {F Hb0 : Hp} {a : Addr} {vs : List V} {ds : List D} {t : T} (ht : t = .fr ∨ t = .rd) (s : SqL K (if t.isFr = true then Hb0 else F) a vs) (w : Vw K (if t.isFr = true then Hb0 else F) vs ds) : ItF K F (Itl K a) ds t Hb0 := by
  have up : ∀ {Hb H : Hp}, Same Hb0 Hb → Same Hb H → Same F H → Same (if t.isFr = true then Hb0 else F) H := fun {Hb H} h1 h2 h3 => by
    split
    · exact h1.trans h2
    · exact h3
  refine ⟨fun i Hb H h1 h2 h3 hi => ?_, fun i Hb H h1 h2 h3 hi => ⟨vs, same_sqL (up h1 h2 h3) s, by rw [w.len]; exact hi⟩, fun i Hb H x H' d h1 h2 h3 hd hy => ?_⟩
  · have hi' : i < vs.length := by rw [w.len]; exact hi
    exact ⟨vs, vs[i], same_sqL (up h1 h2 h3) s, by simp [hi']⟩
  · obtain ⟨e, hy⟩ := hy
    subst e
    obtain ⟨v, hv, wv⟩ := w.get hd
    have := hy vs (same_sqL (up h1 h2 h3) s)
    rw [hv] at this
    cases this
    refine ⟨Hb, .refl h2, ?_⟩
    rcases ht with e | e
    · subst e; exact .fr (by simpa using wv.mono (by simpa using h1))
    · subst e; exact .rd (by simpa using wv)
theorem itf_tup {K : PySem.W.Frag} {F Hb0 : Hp} {a : Addr} {vs : List V} {ds : List D} {t : T} (ht : t = .fr ∨ t = .rd) (s : SqT K (if t.isFr = true then Hb0 else F) a vs) (w : Vw K (if t.isFr = true then Hb0 else F) vs ds) : ItF K F (Itt K a) ds t Hb0 := by
  have up : ∀ {Hb H : Hp}, Same Hb0 Hb → Same Hb H → Same F H → Same (if t.isFr = true then Hb0 else F) H := fun {Hb H} h1 h2 h3 => by
    split
    · exact h1.trans h2
    · exact h3
  refine ⟨fun i Hb H h1 h2 h3 hi => ?_, fun i Hb H h1 h2 h3 hi => ⟨vs, same_sqT (up h1 h2 h3) s, by rw [w.len]; exact hi⟩, fun i Hb H x H' d h1 h2 h3 hd hy => ?_⟩
  · have hi' : i < vs.length := by rw [w.len]; exact hi
    exact ⟨vs, vs[i], same_sqT (up h1 h2 h3) s, by simp [hi']⟩
  · obtain ⟨e, hy⟩ := hy
    subst e
    obtain ⟨v, hv, wv⟩ := w.get hd
    have := hy vs (same_sqT (up h1 h2 h3) s)
    rw [hv] at this
    cases this
    refine ⟨Hb, .refl h2, ?_⟩
    rcases ht with e | e
    · subst e; exact .fr (by simpa using wv.mono (by simpa using h1))
    · subst e; exact .rd (by simpa using wv)
theorem itf_str {K : PySem.W.Frag} {F Hb0 : Hp} {z : Str} {t : T} (ht : t = .fr ∨ t = .rd) : ItF K F (Its z) (z.cps.toList.map fun q => .str ⟨#[q]⟩) t Hb0 := by
  refine ⟨fun i Hb H h1 h2 h3 hi => by simpa [Its] using hi, fun i Hb H h1 h2 h3 hi => by simpa [Its] using hi, fun i Hb H x H' d h1 h2 h3 hd hy => ?_⟩
  obtain ⟨e, q, hq, ex⟩ := hy
  subst e ex
  rw [List.getElem?_map, Array.getElem?_toList, hq] at hd
  cases hd
  refine ⟨Hb, .refl h2, ?_⟩
  rcases ht with e | e
  · subst e; exact .fr (.str _)
  · subst e; exact .rd (.str _)
theorem qi_seq {tg it : Expr} {f : Env' → Option D} {t : T} {m : Bool} (ht : t = .fr ∨ t = .rd) (h : QE c Γ it f t m) : QI c Γ tg it (fun ρ => (f ρ).bind itD) t := by
  obtain ⟨te, h1, h2⟩ := h.ex
  refine ⟨fun σ H R => iList c.K te σ H R ∨ iTup c.K te σ H R ∨ iStr te σ H R, fun X ok => ?_, fun F Hb H σ ρ fp ds S e R q => ?_⟩
  · have a1 := pi_list (tg := tg) (h1 X ok)
    have a2 := pi_tup (tg := tg) (h1 X ok)
    rw [ok.K] at a1 a2
    exact pi_or a1 (pi_or a2 (pi_str (h1 X ok)))
  · obtain ⟨d, e1, e2⟩ := Option.bind_eq_some_iff.mp e
    have wf : ∀ {v : V} {Hb1 H1 : Hp} {f1 : List Addr}, Own c.K F Hb1 H1 [t] [v] [d] f1 → Vw c.K (if t.isFr = true then Hb1 else F) [v] [d] := fun {v Hb1 H1 f1} o => by
      rcases ht with e | e
      · subst e
        cases o.inv with
        | fr x => simpa using x
      · subst e
        cases o.inv with
        | rd x => simpa using x
    cases d with
    | lst es =>
      cases e2
      refine .inl (h2 F Hb H σ ρ fp _ S e1 _ fun v Hb1 H1 f1 x1 o1 _ => ?_)
      cases (wf o1).inv with
      | @lst a vs ds s y =>
        have up : Same (if t.isFr = true then Hb1 else F) H1 := by
          split
          · exact x1.bh
          · exact S.sf.trans x1.h
        exact ⟨a, rfl, ⟨vs, same_sqL up s⟩, q _ Hb1 H1 x1 (itf_list ht s y)⟩
    | tup es =>
      cases e2
      refine .inr (.inl (h2 F Hb H σ ρ fp _ S e1 _ fun v Hb1 H1 f1 x1 o1 _ => ?_))
      cases (wf o1).inv with
      | @tup a vs ds s y =>
        have up : Same (if t.isFr = true then Hb1 else F) H1 := by
          split
          · exact x1.bh
          · exact S.sf.trans x1.h
        exact ⟨a, rfl, ⟨vs, same_sqT up s.t⟩, q _ Hb1 H1 x1 (itf_tup ht s.t y)⟩
    | str z =>
      cases e2
      refine .inr (.inr (h2 F Hb H σ ρ fp _ S e1 _ fun v Hb1 H1 f1 x1 o1 _ => ?_))
      cases (wf o1).inv
      exact ⟨z, rfl, q _ Hb1 H1 x1 (itf_str ht)⟩
    | _ => cases e2
/-! ranges -/
def b62 (i : Int) : Bool := decide (-(2 ^ 62) ≤ i) && decide (i < 2 ^ 62)
/-- lo, lo + 1, .. n of them -/
def ups (lo : Int) (n : Nat) : List D := (List.range n).map fun (i : Nat) => D.int (lo + (i : Int))
theorem itf_range {K : PySem.W.Frag} {F Hb0 : Hp} {lo : Int} {n : Nat} {t : T} (ht : t = .fr ∨ t = .rd) : ItF K F (Itr lo n) (ups lo n) t Hb0 := by
  refine ⟨fun i Hb H h1 h2 h3 hi => by simpa [ups, Itr] using hi, fun i Hb H h1 h2 h3 hi => by simpa [ups, Itr] using hi, fun i Hb H x H' d h1 h2 h3 hd hy => ?_⟩
  obtain ⟨e, ex⟩ := hy
  subst e ex
  unfold ups at hd
  rw [List.getElem?_map] at hd
  obtain ⟨k, e1, e2⟩ := Option.map_eq_some_iff.mp hd
  have e3 : k = i := by
    by_cases h : i < n
    · rw [List.getElem?_range h] at e1
      exact (Option.some.inj e1).symm
    · rw [List.getElem?_eq_none (by simpa using h)] at e1; cases e1
  subst e3 e2
  refine ⟨Hb, .refl h2, ?_⟩
  rcases ht with e | e
  · subst e; exact .fr (.int _)
  · subst e; exact .rd (.int _)
def rng1 : List D → Option (List D)
  | [.int j] => if b62 j = true then some (ups 0 j.toNat) else none
  | _ => none
def rng2 : List D → Option (List D)
  | [.int i, .int j] => if (b62 i && b62 j) = true then some (ups i (j - i).toNat) else none
  | _ => none
theorem qi_range1 {tg a : Expr} {f : Env' → Option (List D)} {ts : List T} {m : Bool} {p : Pos} (hg : c.sc.names.lookup ("range" : Str) = some .globalImplicit) (hm : c.mg "range" = none) (ha : QA c Γ [a] f ts m) (hs : ∀ env : Env, starEach [a] env = [(false, eval a env)] := by intro _; rfl) :
    QI c Γ tg (.Call (.Name "range" p) [a] [] pos) (fun ρ => (f ρ).bind rng1) .fr := by
  obtain ⟨te, h1, h2⟩ := ha.ex
  refine ⟨iRng1 te, fun X ok => pi_range1 (show X.env.scope.names.lookup ("range" : Str) = _ by rw [ok.sc]; exact hg) (by rw [ok.mg]; exact hm) (h1 X ok) (hs _), fun F Hb H σ ρ fp ds S e R q => ?_⟩
  obtain ⟨xs, e1, e2⟩ := Option.bind_eq_some_iff.mp e
  refine h2 F Hb H σ ρ fp xs S e1 _ fun vs Hb1 H1 f1 x1 o1 _ => ?_
  have w := o1.vw x1.bh (S.sf.trans x1.h)
  match xs, e2 with
  | [.int j], e2 =>
    have e2 : (if b62 j = true then some (ups 0 j.toNat) else none) = some ds := e2
    by_cases hb : b62 j = true
    · rw [if_pos hb] at e2
      cases e2
      obtain ⟨v, rfl, w⟩ := vw1 w
      cases w.inv
      have hb : -(2 ^ 62) ≤ j ∧ j < 2 ^ 62 := by simpa [b62] using hb
      exact ⟨j, rfl, hb.1, hb.2, q _ Hb1 H1 x1 (itf_range (.inl rfl))⟩
    · rw [if_neg hb] at e2; cases e2
theorem qi_range2 {tg a b : Expr} {f : Env' → Option (List D)} {ts : List T} {m : Bool} {p : Pos} (hg : c.sc.names.lookup ("range" : Str) = some .globalImplicit) (hm : c.mg "range" = none) (ha : QA c Γ [a, b] f ts m)
    (hs : ∀ env : Env, starEach [a, b] env = [(false, eval a env), (false, eval b env)] := by intro _; rfl) (hs2 : ∀ env : Env, starEach [b] env = [(false, eval b env)] := by intro _; rfl) :
    QI c Γ tg (.Call (.Name "range" p) [a, b] [] pos) (fun ρ => (f ρ).bind rng2) .fr := by
  obtain ⟨te, h1, h2⟩ := ha.ex
  refine ⟨iRng2 te, fun X ok => pi_range2 (show X.env.scope.names.lookup ("range" : Str) = _ by rw [ok.sc]; exact hg) (by rw [ok.mg]; exact hm) (h1 X ok) (hs _) (hs2 _), fun F Hb H σ ρ fp ds S e R q => ?_⟩
  obtain ⟨xs, e1, e2⟩ := Option.bind_eq_some_iff.mp e
  refine h2 F Hb H σ ρ fp xs S e1 _ fun vs Hb1 H1 f1 x1 o1 _ => ?_
  have w := o1.vw x1.bh (S.sf.trans x1.h)
  match xs, e2 with
  | [.int i, .int j], e2 =>
    have e2 : (if (b62 i && b62 j) = true then some (ups i (j - i).toNat) else none) = some ds := e2
    by_cases hb : (b62 i && b62 j) = true
    · rw [if_pos hb] at e2
      cases e2
      obtain ⟨v, w', rfl, w1, w2⟩ := vw2 w
      cases w1.inv
      cases w2.inv
      have hb : (-(2 ^ 62) ≤ i ∧ i < 2 ^ 62) ∧ (-(2 ^ 62) ≤ j ∧ j < 2 ^ 62) := by simpa [b62] using hb
      exact ⟨i, j, rfl, ⟨hb.1.1, hb.1.2, hb.2.1, hb.2.2⟩, q _ Hb1 H1 x1 (itf_range (.inl rfl))⟩
    · rw [if_neg hb] at e2; cases e2
/-- range(a, b, k), k from 1 to 1000 -/
def rng3 : List D → Option (List D)
  | [.int i, .int j, .int k] => if (b62 i && b62 j && decide (0 < k) && decide (k ≤ 1000) && Builtin.Range.small i j k) = true then some ((List.range (Builtin.Range.rangeSize i j k).toNat).map fun (n : Nat) => D.int (i + (n : Int) * k)) else none
  | _ => none
theorem itf_rangeC {K : PySem.W.Frag} {F Hb0 : Hp} {lo k : Int} {n : Nat} {t : T} (ht : t = .fr ∨ t = .rd) : ItF K F (Itc lo k n) ((List.range n).map fun (i : Nat) => D.int (lo + (i : Int) * k)) t Hb0 := by
  refine ⟨fun i Hb H h1 h2 h3 hi => by simpa [Itc] using hi, fun i Hb H h1 h2 h3 hi => by simpa [Itc] using hi, fun i Hb H x H' d h1 h2 h3 hd hy => ?_⟩
  obtain ⟨e, ex⟩ := hy
  subst e ex
  rw [List.getElem?_map] at hd
  obtain ⟨k', e1, e2⟩ := Option.map_eq_some_iff.mp hd
  have e3 : k' = i := by
    by_cases h : i < n
    · rw [List.getElem?_range h] at e1
      exact (Option.some.inj e1).symm
    · rw [List.getElem?_eq_none (by simpa using h)] at e1; cases e1
  subst e3 e2
  refine ⟨Hb, .refl h2, ?_⟩
  rcases ht with e | e
  · subst e; exact .fr (.int _)
  · subst e; exact .rd (.int _)
theorem rangeSize_nn (i j k : Int) (hk : 0 < k) : 0 ≤ Builtin.Range.rangeSize i j k := by
  unfold Builtin.Range.rangeSize
  split
  · split
    · have : 0 ≤ (j - i - 1) / k := Int.ediv_nonneg (by omega) (by omega)
      omega
    · omega
  · split <;> omega
theorem vw3 {K : PySem.W.Frag} {H : Hp} {vs : List V} {d e f : D} (h : Vw K H vs [d, e, f]) : ∃ v w u, vs = [v, w, u] ∧ Vw K H [v] [d] ∧ Vw K H [w] [e] ∧ Vw K H [u] [f] := by
  have l := h.len
  match vs, l with
  | [v, w, u], _ => exact ⟨v, w, u, rfl, h.one.1, h.one.2.one.1, h.one.2.one.2⟩
theorem qi_range3 {tg a b b3 : Expr} {f : Env' → Option (List D)} {ts : List T} {m : Bool} {p : Pos} (hg : c.sc.names.lookup ("range" : Str) = some .globalImplicit) (hm : c.mg "range" = none) (ha : QA c Γ [a, b, b3] f ts m)
    (hs : ∀ env : Env, starEach [a, b, b3] env = (false, eval a env) :: starEach [b, b3] env := by intro _; rfl) (hpl : ∀ env : Env, (backTo pos (starEach [b, b3] env)).any (·.1) = false := by intro _; rfl) :
    QI c Γ tg (.Call (.Name "range" p) [a, b, b3] [] pos) (fun ρ => (f ρ).bind rng3) .fr := by
  obtain ⟨te, h1, h2⟩ := ha.ex
  refine ⟨iRng3 te, fun X ok => pi_range3 (show X.env.scope.names.lookup ("range" : Str) = _ by rw [ok.sc]; exact hg) (by rw [ok.mg]; exact hm) (h1 X ok) (hs _) (hpl _), fun F Hb H σ ρ fp ds S e R q => ?_⟩
  obtain ⟨xs, e1, e2⟩ := Option.bind_eq_some_iff.mp e
  refine h2 F Hb H σ ρ fp xs S e1 _ fun vs Hb1 H1 f1 x1 o1 _ => ?_
  have w := o1.vw x1.bh (S.sf.trans x1.h)
  match xs, e2 with
  | [.int i, .int j, .int k], e2 =>
    have e2 : (if (b62 i && b62 j && decide (0 < k) && decide (k ≤ 1000) && Builtin.Range.small i j k) = true then some ((List.range (Builtin.Range.rangeSize i j k).toNat).map fun (n : Nat) => D.int (i + (n : Int) * k)) else none) = some ds := e2
    by_cases hb : (b62 i && b62 j && decide (0 < k) && decide (k ≤ 1000) && Builtin.Range.small i j k) = true
    · rw [if_pos hb] at e2
      cases e2
      obtain ⟨v, w', u, rfl, w1, w2, w3⟩ := vw3 w
      cases w1.inv
      cases w2.inv
      cases w3.inv
      simp only [Bool.and_eq_true, decide_eq_true_eq] at hb
      have hn := rangeSize_nn i j k hb.1.1.2
      exact ⟨i, j, k, (Builtin.Range.rangeSize i j k).toNat, rfl, ⟨by omega, by omega, hb.2, by omega⟩, q _ Hb1 H1 x1 (itf_rangeC (.inl rfl))⟩
    · rw [if_neg hb] at e2; cases e2
/-- enumerate(xs), to a target of several names -/
def enumL (ds : List D) : List D := (List.range ds.length).map fun (i : Nat) => D.tup [.int (i : Int), ds.getD i .non]
def enumD : List D → Option (List D)
  | [.lst ds] => some (enumL ds)
  | _ => none
theorem enumL_get {ds : List D} {i : Nat} {d : D} (h : (enumL ds)[i]? = some d) : ∃ x, ds[i]? = some x ∧ d = .tup [.int (i : Int), x] := by
  unfold enumL at h
  rw [List.getElem?_map] at h
  obtain ⟨k, e1, e2⟩ := Option.map_eq_some_iff.mp h
  by_cases hi : i < ds.length
  · rw [List.getElem?_range hi] at e1
    cases e1
    refine ⟨ds[i], List.getElem?_eq_getElem hi, ?_⟩
    rw [← e2, List.getD_eq_getElem?_getD, List.getElem?_eq_getElem hi]
    rfl
  · rw [List.getElem?_eq_none (by simpa using hi)] at e1; cases e1
theorem itf_enum {K : PySem.W.Frag} {F Hb0 : Hp} {a : Addr} {vs : List V} {ds : List D} (s : SqL K Hb0 a vs) (w : Vw K Hb0 vs ds) : ItF K F (Ite K a) (enumL ds) .fr Hb0 := by
  have ll : (enumL ds).length = ds.length := by simp [enumL]
  refine ⟨fun i Hb H h1 h2 h3 hi => ?_, fun i Hb H h1 h2 h3 hi => ⟨vs, same_sqL (h1.trans h2) s, by rw [w.len, ← ll]; exact hi⟩, fun i Hb H x H' d h1 h2 h3 hd hy => ?_⟩
  · have hi' : i < vs.length := by rw [w.len, ← ll]; exact hi
    exact ⟨vs, vs[i], same_sqL (h1.trans h2) s, by simp [hi']⟩
  · obtain ⟨y, e1, e2⟩ := enumL_get hd
    subst e2
    obtain ⟨T, z, ex, hT, eH, hz⟩ := hy
    obtain ⟨v, hv, wv⟩ := w.get e1
    have := hz vs (same_sqL (h1.trans h2) s)
    rw [hv] at this
    cases this
    subst ex eH
    have xn := Ext.newFr (o := .tup [.int (i : Nat), z]) h2 hT
    exact ⟨_, xn, .fr (.tup (.inl upd_same) (.cons (.int _) (wv.mono (h1.trans xn.b))))⟩
theorem qi_enum {a : Expr} {elts : List Expr} {kk : Nat} {tpos : Pos} {f : Env' → Option (List D)} {m : Bool} {p : Pos} (hg : c.sc.names.lookup ("enumerate" : Str) = some .globalImplicit) (hm : c.mg "enumerate" = none) (ha : QA c Γ [a] f [.fr] m) (hs : ∀ env : Env, starEach [a] env = [(false, eval a env)] := by intro _; rfl) :
    QI c Γ (.Tuple elts kk tpos) (.Call (.Name "enumerate" p) [a] [] pos) (fun ρ => (f ρ).bind enumD) .fr := by
  obtain ⟨te, h1, h2⟩ := ha.ex
  refine ⟨iEnum c.K te, fun X ok => by rw [← ok.K]; exact pi_enum (show X.env.scope.names.lookup ("enumerate" : Str) = _ by rw [ok.sc]; exact hg) (by rw [ok.mg]; exact hm) (h1 X ok) (hs _), fun F Hb H σ ρ fp ds S e R q => ?_⟩
  obtain ⟨xs, e1, e2⟩ := Option.bind_eq_some_iff.mp e
  refine h2 F Hb H σ ρ fp xs S e1 _ fun vs Hb1 H1 f1 x1 o1 _ => ?_
  match xs, e2 with
  | [.lst es], e2 =>
    cases e2
    obtain ⟨v, rfl, o⟩ := own1L o1
    cases o.inv with
    | fr x =>
      cases x.inv with
      | @lst b ws ds s y => exact ⟨b, ws, rfl, same_sqL x1.bh s, q _ Hb1 H1 x1 (itf_enum s y)⟩
end
end Vm

/-! VmG: list comprehensions. -/
namespace Vm
open PySem PySem.Spec PyProof.Rows L2

def Ctx.blk (c : Ctx) (scope : Scope) : Ctx := { c with sc := relS scope c.sc, fn := fun x => scope.names.lookup x == some .cell }
theorem blk_ok {c : Ctx} {X : Cx} (ok : c.Ok X) (scope : Scope) (s : Shared) (H : Hp) (C : Addr) (cl : List (Str × Addr)) (fp : List Addr) : (c.blk scope).Ok (X.blk s H scope (compEnvC scope cl C X.env) fp) :=
  ⟨ok.prog, ok.w, ok.K, ok.mg, ok.base, ok.N, by
    show relabel scope X.env = relS scope c.sc
    rw [← ok.sc]
    rfl, rfl, ok.calm, ok.room, rfl, ok.nd⟩
def wipeT (Γ : List T) : List Nat → List T
  | [] => Γ
  | v :: vs => (wipeT Γ vs).set v .any
theorem wipeT_len (Γ : List T) : ∀ vs, (wipeT Γ vs).length = Γ.length
  | [] => rfl
  | v :: vs => by unfold wipeT; rw [List.length_set, wipeT_len Γ vs]
theorem Sta.wipe {K : PySem.W.Frag} {F Hb H : Hp} {Γ : List T} {σ : L2.St} {ρ : Env'} {fp : List Addr} (S : Sta K F Hb H Γ σ ρ fp) : ∀ (vs : List Nat), (∀ i ∈ vs, i < Γ.length) → ∃ gp, Sta K F Hb H (wipeT Γ vs) (L2.wipe σ vs) ρ gp ∧ ∀ a ∈ gp, a ∈ fp
  | [], _ => ⟨fp, S, fun a h => h⟩
  | v :: vs, h => by
    obtain ⟨gp, S1, h1⟩ := S.wipe vs fun i hi => h i (List.mem_cons_of_mem _ hi)
    have hv : v < (wipeT Γ vs).length := by rw [wipeT_len]; exact h v List.mem_cons_self
    have hr : v < ρ.length := by rw [← S1.len.2, ← S1.len.1]; exact hv
    obtain ⟨gp2, S2, h2⟩ := S1.drop v none ρ[v] hv
    rw [List.set_getElem_self] at S2
    exact ⟨gp2, S2, fun a ha => h1 a (h2 a ha)⟩
theorem wipe_same {σ σ' : L2.St} : ∀ (vs : List Nat), σ'.length = σ.length → (∀ j, j ∉ vs → σ'[j]? = σ[j]?) → L2.wipe σ' vs = L2.wipe σ vs := by
  intro vs hl h
  have gt : ∀ (τ : L2.St) (vs : List Nat) (j : Nat), (L2.wipe τ vs)[j]? = if j ∈ vs then (if j < τ.length then some none else none) else τ[j]? := by
    intro τ vs
    induction vs with
    | nil => intro j; simp [L2.wipe]
    | cons v vs ih =>
      intro j
      rw [L2.wipe, List.getElem?_set, ih j, L2.wipe_length]
      by_cases e : v = j
      · subst e
        simp
      · rw [if_neg e]
        have e' : ¬ j = v := fun z => e z.symm
        simp [e']
  apply List.ext_getElem?
  intro j
  rw [gt, gt, hl]
  by_cases hj : j ∈ vs
  · rw [if_pos hj, if_pos hj]
  · rw [if_neg hj, if_neg hj, h j hj]

/-! ### tests of a clause -/
structure QTs (c : Ctx) (Γ : List T) (es : List Expr) (f : Env' → Option Bool) : Prop where
  ex : ∃ te : TT, (∀ X, c.Ok X → PTs X es te) ∧ ∀ F Hb H σ ρ fp b, Sta c.K F Hb H Γ σ ρ fp → f ρ = some b → ∀ Q : Bool → Hp → Prop,
    (∀ Hb' H', Ext Hb H Hb' H' → Q b H') → te σ H Q
section
variable {c : Ctx} {Γ Γ1 Γ2 : List T} {pos : Pos}
theorem qts_nil : QTs c Γ [] (fun _ => some true) := ⟨tYes, fun X ok => pts_nil, fun F Hb H σ ρ fp b S e Q q => by cases e; exact q Hb H (.refl S.sb)⟩
theorem qts_one {a : Expr} {f : Env' → Option Bool} (h : QT c Γ a f) : QTs c Γ [a] f := by
  obtain ⟨te, h1, h2⟩ := h.ex
  exact ⟨te, fun X ok => pts_one (h1 X ok), h2⟩

/-- each item to one, to none, or no answer -/
def fmM (s : D → Option (Option D)) : List D → Option (List D)
  | [] => some []
  | d :: ds => (s d).bind fun o => (fmM s ds).map fun r => o.toList ++ r
theorem fmM_cons {s : D → Option (Option D)} {d : D} {ds r : List D} (h : fmM s (d :: ds) = some r) : ∃ o r', s d = some o ∧ fmM s ds = some r' ∧ r = o.toList ++ r' := by
  obtain ⟨o, e1, e2⟩ := Option.bind_eq_some_iff.mp h
  obtain ⟨r', e3, e4⟩ := Option.map_eq_some_iff.mp e2
  exact ⟨o, r', e1, e3, e4.symm⟩
/-- one turn: the target, the tests, the element -/
def turn1 (g : D → Env' → Option Env') (ft : Env' → Option Bool) (fe : Env' → Option D) (ρ : Env') : D → Option (Option D) := fun d => (g d ρ).bind fun ρ1 => (ft ρ1).bind fun b => if b = true then (fe ρ1).map some else some none
def lcD (fi : Env' → Option (List D)) (g : D → Env' → Option Env') (ft : Env' → Option Bool) (fe : Env' → Option D) : Env' → Option D := fun ρ => (fi ρ).bind fun ds => if ds.length ≤ sL then (fmM (turn1 g ft fe ρ) ds).map D.lst else none

theorem Own.snoc {K : PySem.W.Frag} {F Hb H : Hp} {t : T} {v : V} {d : D} {g : List Addr} (o : Own K F Hb H [t] [v] [d] g) : ∀ {vs : List V} {ds : List D} {f : List Addr}, Own K F Hb H (List.replicate ds.length t) vs ds f → Own K F Hb H (List.replicate (ds ++ [d]).length t) (vs ++ [v]) (ds ++ [d]) (f ++ g)
  | [], [], f, h => by
    have e := h.nil_inv rfl
    subst e
    exact o
  | [], _ :: _, _, h => by have := h.len; simp at this
  | _ :: _, [], _, h => by have := h.len; simp at this
  | v' :: vs, d' :: ds, f, h => by
    obtain ⟨f1, f2, e, a, b⟩ := h.uncons
    subst e
    rw [List.append_assoc]
    exact Own.cons a (Own.snoc o b)

/-- what the reading of a comprehension gives, from its parts -/
theorem lc_sound {scope : Scope} {own : List (Str × Nat)} {fi : Env' → Option (List D)} {t te : T} {g : D → Env' → Option Env'} {is : List Nat} {ft : Env' → Option Bool} {fe : Env' → Option D} {tg iter elt : Expr} {ifs : List Expr} {wi : TI} {tg' : TG} {tt : TT} {tE : TE}
    (hi : (∀ X, c.Ok X → PI X tg iter wi) ∧ ∀ F Hb H σ ρ fp ds, Sta c.K F Hb H Γ σ ρ fp → fi ρ = some ds → ∀ R : It → Hp → Prop, (∀ J Hb' H', Ext Hb H Hb' H' → ItF c.K F J ds t Hb' → R J H') → wi σ H R)
    (hw : ∀ i ∈ own.map (·.2), i < Γ.length) (hsub : ∀ i ∈ is, i ∈ own.map (·.2))
    (hg : Γ1.length = (wipeT Γ (own.map (·.2))).length ∧ (∀ X, (c.blk scope).Ok X → PG X tg tg') ∧ ∀ F Hb H σ ρ fp v d ρ', Sta c.K F Hb H (wipeT Γ (own.map (·.2))) σ ρ fp → Own c.K F Hb H [t] [v] [d] [] → g d ρ = some ρ' → ∀ Q : L2.St → Hp → Prop,
      (∀ σ' fp', Sta c.K F Hb H Γ1 σ' ρ' fp' → (∀ a ∈ fp', a ∈ fp) → (∀ j, j ∉ is → σ'[j]? = σ[j]?) → Q σ' H) → tg' v σ H Q)
    (ht : (∀ X, (c.blk scope).Ok X → PTs X ifs tt) ∧ ∀ F Hb H σ ρ fp b, Sta c.K F Hb H Γ1 σ ρ fp → ft ρ = some b → ∀ Q : Bool → Hp → Prop, (∀ Hb' H', Ext Hb H Hb' H' → Q b H') → tt σ H Q)
    (he : (∀ X, (c.blk scope).Ok X → PE X elt tE) ∧ ∀ F Hb H σ ρ fp d, Sta c.K F Hb H Γ1 σ ρ fp → fe ρ = some d → ∀ Q : VK, (∀ v Hb' H' fv, Ext Hb H Hb' H' → Own c.K F Hb' H' [te] [v] [d] fv → (true = true → Fresh H fv) → Q v H') → tE σ H Q) :
    ∀ F Hb H σ ρ fp d, Sta c.K F Hb H Γ σ ρ fp → lcD fi g ft fe ρ = some d → ∀ Q : VK, (∀ v Hb' H' fv, Ext Hb H Hb' H' → Own c.K F Hb' H' [.lst te] [v] [d] fv → Fresh H fv → Q v H') → tLc wi tg' tt tE (own.map (·.2)) σ H Q := by
  intro F Hb0 H0 σ ρ fp d S e Q q
  obtain ⟨i1, i2⟩ := hi
  obtain ⟨hlen, g1, g2⟩ := hg
  obtain ⟨t1, t2⟩ := ht
  obtain ⟨e1, e2⟩ := he
  obtain ⟨ds, ei, e⟩ := Option.bind_eq_some_iff.mp e
  by_cases hl : ds.length ≤ sL
  · rw [if_pos hl] at e
    obtain ⟨r, er, ed⟩ := Option.map_eq_some_iff.mp e
    subst ed
    refine i2 F Hb0 H0 σ ρ fp ds S ei _ fun J Hb1 H1 x1 it => ?_
    intro D0 hD
    have hD0 : H0 D0 = none := x1.h.free hD
    -- the state behind i turns
    refine ⟨fun i m H => m = ds.length - i ∧ i ≤ ds.length ∧ ∃ Hb acc accD rest f, Ext Hb1 H1 Hb H ∧ H D0 = some (.lst acc) ∧ Own c.K F Hb H (List.replicate accD.length te) acc accD f ∧ Hb D0 = none ∧ D0 ∉ f ∧ Fresh H1 f ∧ acc.length ≤ i ∧ fmM (turn1 g ft fe ρ) (ds.drop i) = some rest ∧ accD ++ rest = r,
      ⟨ds.length, by simp, Nat.zero_le _, Hb1, [], [], r, [], .new x1.bh hD, upd_same, .nil, x1.bh.free hD, by simp, .nil, by simp, by simpa using er, rfl⟩, ?_⟩
    rintro i m H ⟨rfl, hin, Hb, acc, accD, rest, f, x2, hacc, oacc, hbD, hDf, frf, hai, erest, esum⟩
    have S2 : Sta c.K F Hb H Γ σ ρ fp := (S.ext x1).ext x2
    by_cases hlt : i < ds.length
    · have ed : ds[i]? = some ds[i] := List.getElem?_eq_getElem hlt
      have edr : ds.drop i = ds[i] :: ds.drop (i + 1) := List.drop_eq_getElem_cons hlt
      rw [edr] at erest
      obtain ⟨o, r', et, er', eq⟩ := fmM_cons erest
      unfold turn1 at et
      obtain ⟨ρ1, eg, et⟩ := Option.bind_eq_some_iff.mp et
      obtain ⟨b, eb, et⟩ := Option.bind_eq_some_iff.mp et
      refine .inr ⟨it.go i Hb H x2.b x2.bh S2.sf hlt, fun H' => ∃ Hb acc accD rest f, Ext Hb1 H1 Hb H' ∧ H' D0 = some (.lst acc) ∧ Own c.K F Hb H' (List.replicate accD.length te) acc accD f ∧ Hb D0 = none ∧ D0 ∉ f ∧ Fresh H1 f ∧ acc.length ≤ i + 1 ∧ fmM (turn1 g ft fe ρ) (ds.drop (i + 1)) = some rest ∧ accD ++ rest = r, fun H' hN => ⟨ds.length - (i + 1), by omega, rfl, hlt, hN⟩, fun x H' hy => ?_⟩
      obtain ⟨Hb3, x3, ox⟩ := it.yld i Hb H x H' ds[i] x2.b x2.bh S2.sf ed hy
      obtain ⟨gp, S3, hgp⟩ := (S2.ext x3).wipe (own.map (·.2)) hw
      refine g2 F Hb3 H' _ ρ gp x ds[i] ρ1 S3 ox eg _ fun σ4 fp4 S4 h4 p4 => ?_
      refine ⟨?_, ?_⟩
      · have l4 : σ4.length = (L2.wipe σ (own.map (·.2))).length := by
          have a1 := S4.len
          have a2 := S3.len
          have a3 := S3.ow.len
          have := hlen
          omega
        rw [wipe_same (own.map (·.2)) l4 fun j hj => p4 j fun hz => hj (hsub j hz)]
        exact wipe_same _ (L2.wipe_length σ _) fun j hj => L2.wipe_out hj
      · refine t2 F Hb3 H' σ4 ρ1 fp4 b S4 eb _ fun Hb5 H5 x5 => ?_
        have x25 := (x2.trans x3).trans x5
        have hD5 : H5 D0 = some (.lst acc) := x5.h _ _ (x3.h _ _ hacc)
        cases b with
        | true =>
          rw [if_pos rfl] at et ⊢
          obtain ⟨y, ey, eo⟩ := Option.map_eq_some_iff.mp et
          subst eo
          refine e2 F Hb5 H5 σ4 ρ1 fp4 y (S4.ext x5) ey _ fun v Hb6 H6 fv x6 oy fr6 => ?_
          have fr6 := fr6 rfl
          have x26 := x25.trans x6
          have hD6 : H6 D0 = some (.lst acc) := x6.h _ _ hD5
          have hbD6 : Hb6 D0 = none := by
            rw [((x3.trans x5).trans x6).k D0 (by rw [hacc]; simp)]; exact hbD
          have oa6 := oacc.ext ((x3.trans x5).trans x6)
          have hDv : D0 ∉ fv := fun z => by
            have := fr6.2 D0 z
            rw [hD5] at this
            cases this
          refine ⟨acc, hD6, ?_, ?_⟩
          · have : sizeLine = 16777216 := sizeLine_eq
            have : sL = 16777216 := rfl
            omega
          · have eq : rest = y :: r' := eq
            have on : Own c.K F Hb6 (upd H6 D0 (.lst (acc ++ [v]))) (List.replicate (accD ++ [y]).length te) (acc ++ [v]) (accD ++ [y]) (f ++ fv) := by
              refine Own.frame (Own.snoc oy oa6) (.refl _) (fun a ha => ?_) fun a ha => rfl
              rcases List.mem_append.mp ha with h | h
              · exact upd_ne fun z => hDf (z ▸ h)
              · exact upd_ne fun z => hDv (z ▸ h)
            refine ⟨Hb6, acc ++ [v], accD ++ [y], r', f ++ fv, ⟨fun a o hz => ?_, x26.b, fun a o hz => ?_, x26.k, x26.l⟩, upd_same, on, hbD6, fun z => (List.mem_append.mp z).elim hDf hDv, ?_, by rw [List.length_append]; simp; omega, er', by rw [List.append_assoc, ← esum, eq]; rfl⟩
            · have : a ≠ D0 := fun z => by rw [z, hD] at hz; cases hz
              rw [upd_ne this]
              exact x26.h a o hz
            · have : a ≠ D0 := fun z => by rw [z, hbD6] at hz; cases hz
              rw [upd_ne this]
              exact x26.bh a o hz
            · refine frf.app (x25.h) (fun a ha => ?_) fr6
              have := (oacc.apart a ha).1
              cases hz : H a with
              | none => exact absurd hz this
              | some u => rw [(x3.trans x5).h a u hz]; simp
        | false =>
          rw [if_neg Bool.false_ne_true] at et ⊢
          cases et
          have hbD5 : Hb5 D0 = none := by
            rw [(x3.trans x5).k D0 (by rw [hacc]; simp)]; exact hbD
          exact ⟨Hb5, acc, accD, r', f, x25, hD5, oacc.ext (x3.trans x5), hbD5, hDf, frf, by omega, er', by rw [← esum, eq]; rfl⟩
    · have ei : i = ds.length := by omega
      subst ei
      refine .inl ⟨it.stop _ Hb H x2.b x2.bh S2.sf (Nat.le_refl _), ?_⟩
      rw [List.drop_length] at erest
      cases erest
      rw [List.append_nil] at esum
      subst esum
      refine q _ Hb H (D0 :: f) (x1.trans x2) (.lst hacc hbD ((S.sf.trans x1.h).free hD) oacc) ⟨List.nodup_cons.mpr ⟨hDf, frf.1⟩, fun a ha => ?_⟩
      rcases List.mem_cons.mp ha with h | h
      · subst h; exact hD0
      · exact x1.h.free (frf.2 a h)
  · rw [if_neg hl] at e; cases e
theorem qe_lc {elt tg iter : Expr} {ifs : List Expr} {scope : Scope} {own : List (Str × Nat)} {fi : Env' → Option (List D)} {t te : T} {g : D → Env' → Option Env'} {is : List Nat} {ft : Env' → Option Bool} {fe : Env' → Option D} (hi : QI c Γ tg iter fi t) (hb : blkC c.N c.sc scope own = true)
    (hw : ∀ i ∈ own.map (·.2), i < Γ.length) (hsub : ∀ i ∈ is, i ∈ own.map (·.2)) (hg : QG (c.blk scope) (wipeT Γ (own.map (·.2))) tg g t Γ1 is) (ht : QTs (c.blk scope) Γ1 ifs ft) (he : QE (c.blk scope) Γ1 elt fe te true)
    (hs : ∀ (env : Env) (x : Value), foldedSetIterable iter env x = pure x := by intro _ _; rfl) : QE c Γ (.ListComp elt [⟨tg, iter, ifs, 0⟩] scope pos) (lcD fi g ft fe) (.lst te) true := by
  obtain ⟨wi, i1, i2⟩ := hi.ex
  obtain ⟨tg', g1, g2⟩ := hg.ex
  obtain ⟨tt, t1, t2⟩ := ht.ex
  obtain ⟨tE, e1, e2⟩ := he.ex
  refine ⟨tLc wi tg' tt tE (own.map (·.2)), fun X ok => ?_, fun F Hb0 H0 σ ρ fp d S e Q q => ?_⟩
  · refine pe_lc ok.calm ok.nd (i1 X ok) (blkOk_by (by rw [ok.N, ok.sc]; exact hb)) (fun s H C cl fp => g1 _ (blk_ok ok scope s H C cl fp)) (fun s H C cl fp => t1 _ (blk_ok ok scope s H C cl fp)) (fun s H C cl fp => e1 _ (blk_ok ok scope s H C cl fp)) (hs _)
  · exact lc_sound ⟨i1, i2⟩ hw hsub ⟨hg.len, g1, g2⟩ ⟨t1, t2⟩ ⟨e1, e2⟩ F Hb0 H0 σ ρ fp d S e Q fun v Hb' H' fv x o fr => q v Hb' H' fv x o fun _ => fr
end
end Vm

/-! VmH: expressions that move and change, statements. -/
namespace Vm
open PySem PySem.Spec PyProof.Rows L2

/-- how a code's end is told -/
inductive Out where
  | nx | rt (d : D) | bk | ct
structure Gs where
  rt : T
  par : List T
  bk : List T
  ct : List T
  pins : List Nat
def Evo (F Hb Hb' : Hp) : Prop := Same Hb Hb' ∧ (∀ a, F a ≠ none → Hb' a = Hb a) ∧ (Lkd Hb → Lkd Hb')
theorem Evo.refl {F Hb : Hp} : Evo F Hb Hb := ⟨.refl _, fun _ _ => rfl, fun h => h⟩
theorem Evo.trans {F A B C : Hp} (x : Evo F A B) (y : Evo F B C) : Evo F A C := ⟨x.1.trans y.1, fun a n => (y.2.1 a n).trans (x.2.1 a n), fun h => y.2.2 (x.2.2 h)⟩
theorem Ext.evo {F Hb H Hb' H' : Hp} (x : Ext Hb H Hb' H') (sf : Same F H) : Evo F Hb Hb' := ⟨x.b, fun a n => x.k a (by
  cases q : F a with
  | none => exact absurd q n
  | some o => rw [sf a o q]; simp), x.l⟩
def Pin (G : Gs) (σ σ' : L2.St) : Prop := ∀ i ∈ G.pins, σ'[i]? = σ[i]?
theorem Pin.refl {G : Gs} {σ : L2.St} : Pin G σ σ := fun _ _ => rfl
theorem Pin.trans {G : Gs} {a b d : L2.St} (x : Pin G a b) (y : Pin G b d) : Pin G a d := fun i h => (y i h).trans (x i h)
def EndOk (c : Ctx) (G : Gs) (F Hb : Hp) (σ : L2.St) (o : Out) (ρ' : Env') (Γ' : List T) (E : Ends) : Prop := match o with
  | .nx => ∀ Hb' H' σ' fp', Evo F Hb Hb' → Sta c.K F Hb' H' Γ' σ' ρ' fp' → Pin G σ σ' → E.nx σ' H'
  | .bk => ∀ Hb' H' σ' fp', Evo F Hb Hb' → Sta c.K F Hb' H' G.bk σ' ρ' fp' → Pin G σ σ' → E.bk σ' H'
  | .ct => ∀ Hb' H' σ' fp', Evo F Hb Hb' → Sta c.K F Hb' H' G.ct σ' ρ' fp' → Pin G σ σ' → E.ct σ' H'
  | .rt d => ∀ Hb' H' σ' fp' v fv, Evo F Hb Hb' → Sta c.K F Hb' H' G.par σ' ρ' fp' → Pin G σ σ' → Own c.K F Hb' H' [G.rt] [v] [d] fv → fv.Nodup → (∀ a ∈ fv, a ∉ fp') → E.rt v H'
theorem EndOk.later {c : Ctx} {G : Gs} {F Hb Hb1 : Hp} {σ σ1 : L2.St} {o : Out} {ρ' : Env'} {Γ' : List T} {E : Ends} (h : EndOk c G F Hb σ o ρ' Γ' E) (e : Evo F Hb Hb1) (p : Pin G σ σ1) : EndOk c G F Hb1 σ1 o ρ' Γ' E := by
  cases o with
  | nx => exact fun Hb' H' σ' fp' e' S p' => h Hb' H' σ' fp' (e.trans e') S (p.trans p')
  | bk => exact fun Hb' H' σ' fp' e' S p' => h Hb' H' σ' fp' (e.trans e') S (p.trans p')
  | ct => exact fun Hb' H' σ' fp' e' S p' => h Hb' H' σ' fp' (e.trans e') S (p.trans p')
  | rt d => exact fun Hb' H' σ' fp' v fv e' S p' => h Hb' H' σ' fp' v fv (e.trans e') S (p.trans p')

/-- an expression that may move and change what the slots have -/
structure EE (c : Ctx) (Γ : List T) (e : Expr) (f : Env' → Option (D × Env')) (t : T) (Γ' : List T) : Prop where
  ex : ∃ te : TE, (∀ X, c.Ok X → PE X e te) ∧ ∀ F Hb H σ ρ fp d ρ', Sta c.K F Hb H Γ σ ρ fp → f ρ = some (d, ρ') → ∀ Q : VK,
    (∀ v Hb' H' fp' fv, Evo F Hb Hb' → Sta c.K F Hb' H' Γ' σ ρ' fp' → Own c.K F Hb' H' [t] [v] [d] fv → fv.Nodup → (∀ a ∈ fv, a ∉ fp') → Q v H') → te σ H Q
structure SS (c : Ctx) (G : Gs) (Γ : List T) (st : Stmt) (f : Env' → Option (Out × Env')) (Γ' : List T) : Prop where
  ex : ∃ ts : TS, (∀ X, c.Ok X → PS X st ts) ∧ ∀ F Hb H σ ρ fp o ρ', Sta c.K F Hb H Γ σ ρ fp → f ρ = some (o, ρ') → ∀ E : Ends, EndOk c G F Hb σ o ρ' Γ' E → ts E σ H
structure SSs (c : Ctx) (G : Gs) (Γ : List T) (st : List Stmt) (f : Env' → Option (Out × Env')) (Γ' : List T) : Prop where
  ex : ∃ ts : TS, (∀ X, c.Ok X → PSs X st ts) ∧ ∀ F Hb H σ ρ fp o ρ', Sta c.K F Hb H Γ σ ρ fp → f ρ = some (o, ρ') → ∀ E : Ends, EndOk c G F Hb σ o ρ' Γ' E → ts E σ H

/-! ### weaker knowledge -/
inductive Wk : List T → List T → Prop
  | nil : Wk [] []
  | any {t : T} {Γ Γ' : List T} : Wk Γ Γ' → Wk (t :: Γ) (.any :: Γ')
  | keep {t : T} {Γ Γ' : List T} : Wk Γ Γ' → Wk (t :: Γ) (t :: Γ')
theorem Wk.ow {K : PySem.W.Frag} {F Hb H : Hp} {Γ Γ' : List T} (w : Wk Γ Γ') : ∀ {σ : L2.St} {ρ : Env'} {fp : List Addr}, Ow K F Hb H Γ σ ρ fp → ∃ gp, Ow K F Hb H Γ' σ ρ gp ∧ (fp.Nodup → gp.Nodup) ∧ ∀ a ∈ gp, a ∈ fp := by
  induction w with
  | nil => intro σ ρ fp o; exact ⟨fp, o, fun h => h, fun a h => h⟩
  | @any t Γ Γ' w ih =>
    intro σ ρ fp o
    cases o with
    | any v d o =>
      obtain ⟨gp, o2, n, i⟩ := ih o
      exact ⟨gp, .any v d o2, n, i⟩
    | @cons t v d f Γ σ ρ fp x o =>
      obtain ⟨gp, o2, n, i⟩ := ih o
      exact ⟨gp, .any _ _ o2, fun h => n (List.nodup_append.mp h).2.1, fun a h => List.mem_append_right _ (i a h)⟩
  | @keep t Γ Γ' w ih =>
    intro σ ρ fp o
    cases o with
    | any v d o =>
      obtain ⟨gp, o2, n, i⟩ := ih o
      exact ⟨gp, .any v d o2, n, i⟩
    | @cons t v d f Γ σ ρ fp x o =>
      obtain ⟨gp, o2, n, i⟩ := ih o
      refine ⟨f ++ gp, .cons x o2, fun h => ?_, fun a h => ?_⟩
      · rw [List.nodup_append] at h ⊢
        exact ⟨h.1, n h.2.1, fun a ha b hb => h.2.2 a ha b (i b hb)⟩
      · rcases List.mem_append.mp h with h | h
        · exact List.mem_append_left _ h
        · exact List.mem_append_right _ (i a h)
theorem Sta.wk {K : PySem.W.Frag} {F Hb H : Hp} {Γ Γ' : List T} {σ : L2.St} {ρ : Env'} {fp : List Addr} (S : Sta K F Hb H Γ σ ρ fp) (w : Wk Γ Γ') : ∃ gp, Sta K F Hb H Γ' σ ρ gp ∧ ∀ a ∈ gp, a ∈ fp := by
  obtain ⟨gp, o, n, i⟩ := w.ow S.ow
  exact ⟨gp, ⟨o, n S.nd, S.sb, S.sf, S.lk⟩, i⟩
/-- what a slot has is shared from now on -/
theorem Sta.fz {K : PySem.W.Frag} {F Hb H : Hp} {Γ : List T} {σ : L2.St} {ρ : Env'} {fp : List Addr} (S : Sta K F Hb H Γ σ ρ fp) {i : Nat} {t : T} (hi : Γ[i]? = some t) (z : Fz t) : ∃ Hb' gp, Evo F Hb Hb' ∧ Sta K F Hb' H (Γ.set i .fr) σ ρ gp ∧ ∀ a ∈ gp, a ∈ fp := by
  obtain ⟨v, d, f, g, h1, h2, h3, h4, h5, h6⟩ := S.ow.out hi (fun e => by subst e; cases z)
  have nd := List.nodup_append.mp (h5 S.nd)
  have ap := h3.apart
  have ev : Evo F Hb (addFr Hb H f) := ⟨addFr_same fun a ha => (ap a ha).2.1, fun a n => by
    unfold addFr
    rw [if_neg fun ha => n (ap a ha).2.2], fun l => addFr_lk l (h3.nodict fun t' ht => by simp at ht; subst ht; exact z)⟩
  have hn : i < Γ.length := by
    by_cases hc : i < Γ.length
    · exact hc
    · rw [List.getElem?_eq_none (by omega)] at hi; cases hi
  have o1 := (h4 (some v) (some d)).frame (Hb' := addFr Hb H f) (H' := H) ev.1 (fun a _ => rfl) (fun a ha => by
    unfold addFr
    rw [if_neg fun hf => nd.2.2 a hf a ha rfl])
  have o2 : Own K F (addFr Hb H f) H [.fr] [v] [d] [] := .fr (h3.freeze S.sb fun t' ht => by simp at ht; subst ht; exact z)
  obtain ⟨gp, o3, n3, m3⟩ := o1.put (i := i) (by rw [List.getElem?_set_self hn]) o2
  have e1 : σ.set i (some v) = σ := by
    apply List.ext_getElem?
    intro j
    rw [List.getElem?_set]
    split
    · rename_i e; subst e
      split
      · exact h1.symm
      · rename_i hx; rw [List.getElem?_eq_none (by omega)]
    · rfl
  have e2 : ρ.set i (some d) = ρ := by
    apply List.ext_getElem?
    intro j
    rw [List.getElem?_set]
    split
    · rename_i e; subst e
      split
      · exact h2.symm
      · rename_i hx; rw [List.getElem?_eq_none (by omega)]
    · rfl
  simp only [List.set_set] at o3
  rw [e1, e2] at o3
  exact ⟨addFr Hb H f, gp, ev, ⟨o3, n3 (by simpa using nd.2.1), addFr_in S.sb, S.sf, ev.2.2 S.lk⟩, fun a ha => by
    rcases (m3 a).mp ha with h | h
    · simp at h
    · exact (h6 a).mpr (.inr h)⟩

section
variable {c : Ctx} {G : Gs} {Γ Γ1 Γ2 Γ' : List T} {pos : Pos}
/-! ### expressions -/
def liftQ (f : Env' → Option D) : Env' → Option (D × Env') := fun ρ => (f ρ).map fun d => (d, ρ)
theorem ee_q {e : Expr} {f : Env' → Option D} {t : T} (h : QE c Γ e f t true) : EE c Γ e (liftQ f) t Γ := by
  obtain ⟨te, h1, h2⟩ := h.ex
  refine ⟨te, h1, fun F Hb H σ ρ fp d ρ' S e Q q => ?_⟩
  obtain ⟨d', e1, e2⟩ := Option.map_eq_some_iff.mp e
  cases e2
  refine h2 F Hb H σ ρ fp d S e1 Q fun v Hb' H' fv x o fr => ?_
  have fr := fr rfl
  exact q v Hb' H' fp fv (x.evo S.sf) (S.ext x) o fr.1 fun a ha hf => (S.ow.apart a hf).1 (fr.2 a ha)
/-- what a slot has is taken -/
def mvV (i : Nat) : Env' → Option (D × Env') := fun ρ => (getV i ρ).map fun d => (d, ρ)
theorem ee_mv {x : Str} {i : Nat} {t : T} (hN : c.N[i]? = some x) (hv : Vis c.sc x) (ht : Γ[i]? = some t) (ha : t ≠ .any) (hd : (x == ("__debug__" : Str)) = false := by decide) (hcd : (x == ("__classdict__" : Str)) = false := by decide) : EE c Γ (.Name x pos) (mvV i) t (Γ.set i .any) := by
  refine ⟨tVar i, fun X ok => pe_var (by rw [ok.N]; exact hN) (by rw [ok.sc]; exact hv) hd hcd, fun F Hb H σ ρ fp d ρ' S e Q q => ?_⟩
  obtain ⟨v, d', f, g, h1, h2, h3, h4, h5, h6⟩ := S.ow.out ht ha
  obtain ⟨d1, e1, e2⟩ := Option.map_eq_some_iff.mp e
  cases e2
  rw [getV_some h2] at e1
  have e1 : d' = d := Option.some.inj e1
  subst e1
  have nd := List.nodup_append.mp (h5 S.nd)
  have e1 : σ.set i (some v) = σ := by
    apply List.ext_getElem?
    intro j
    rw [List.getElem?_set]
    split
    · rename_i e; subst e
      split
      · exact h1.symm
      · rename_i hx; rw [List.getElem?_eq_none (by omega)]
    · rfl
  have e2 : ρ.set i (some d') = ρ := by
    apply List.ext_getElem?
    intro j
    rw [List.getElem?_set]
    split
    · rename_i e; subst e
      split
      · exact h2.symm
      · rename_i hx; rw [List.getElem?_eq_none (by omega)]
    · rfl
  have o1 := h4 (some v) (some d')
  rw [e1, e2] at o1
  exact ⟨v, h1, q v Hb H g f .refl ⟨o1, nd.2.1, S.sb, S.sf, S.lk⟩ h3 nd.1 fun a ha hg => nd.2.2 a ha a hg rfl⟩
/-- shared from now on -/
theorem ee_fz {e : Expr} {f : Env' → Option (D × Env')} {t : T} (h : EE c Γ e f t Γ') (z : Fz t) : EE c Γ e f .fr Γ' := by
  obtain ⟨te, h1, h2⟩ := h.ex
  refine ⟨te, h1, fun F Hb H σ ρ fp d ρ' S e Q q => h2 F Hb H σ ρ fp d ρ' S e Q fun v Hb' H' fp' fv ev S2 o nd ap => ?_⟩
  have apo := o.apart
  have ev2 : Evo F Hb' (addFr Hb' H' fv) := ⟨addFr_same fun a ha => (apo a ha).2.1, fun a n => by
    unfold addFr
    rw [if_neg fun ha => n (apo a ha).2.2], fun l => addFr_lk l (o.nodict fun t' ht => by simp at ht; subst ht; exact z)⟩
  refine q v (addFr Hb' H' fv) H' fp' [] (ev.trans ev2) ⟨S2.ow.frame ev2.1 (fun a _ => rfl) (fun a ha => ?_), S2.nd, addFr_in S2.sb, S2.sf, ev2.2.2 S2.lk⟩ (.fr (o.freeze S2.sb fun t' ht => by simp at ht; subst ht; exact z)) List.nodup_nil (fun a h => by simp at h)
  unfold addFr
  rw [if_neg fun hf => ap a hf ha]

/-! ### blocks -/
def nilS : Env' → Option (Out × Env') := fun ρ => some (.nx, ρ)
def seqS (f g : Env' → Option (Out × Env')) : Env' → Option (Out × Env') := fun ρ => (f ρ).bind fun r => match r.1 with
  | .nx => g r.2
  | o => some (o, r.2)
theorem sss_nil : SSs c G Γ [] nilS Γ := ⟨tNext, fun X ok => pss_nil, fun F Hb H σ ρ fp o ρ' S e E k => by cases e; exact k Hb H σ fp .refl S .refl⟩
theorem seq_core {f g : Env' → Option (Out × Env')} {t u : TS} (h2 : ∀ F Hb H σ ρ fp o ρ', Sta c.K F Hb H Γ σ ρ fp → f ρ = some (o, ρ') → ∀ E : Ends, EndOk c G F Hb σ o ρ' Γ1 E → t E σ H)
    (h4 : ∀ F Hb H σ ρ fp o ρ', Sta c.K F Hb H Γ1 σ ρ fp → g ρ = some (o, ρ') → ∀ E : Ends, EndOk c G F Hb σ o ρ' Γ2 E → u E σ H) :
    ∀ F Hb H σ ρ fp o ρ', Sta c.K F Hb H Γ σ ρ fp → seqS f g ρ = some (o, ρ') → ∀ E : Ends, EndOk c G F Hb σ o ρ' Γ2 E → tSeq t u E σ H := by
  intro F Hb H σ ρ fp o ρ' S e E k
  obtain ⟨⟨o1, ρ1⟩, e1, e2⟩ := Option.bind_eq_some_iff.mp e
  refine h2 F Hb H σ ρ fp o1 ρ1 S e1 _ ?_
  cases o1 with
  | nx =>
    intro Hb1 H1 σ1 fp1 ev S1 p1
    exact h4 F Hb1 H1 σ1 ρ1 fp1 o ρ' S1 e2 E (k.later ev p1)
  | rt d => cases e2; exact k
  | bk => cases e2; exact k
  | ct => cases e2; exact k
theorem sss_cons {st : Stmt} {rest : List Stmt} {f g : Env' → Option (Out × Env')} (a : SS c G Γ st f Γ1) (b : SSs c G Γ1 rest g Γ2) : SSs c G Γ (st :: rest) (seqS f g) Γ2 := by
  obtain ⟨t, h1, h2⟩ := a.ex
  obtain ⟨u, h3, h4⟩ := b.ex
  exact ⟨tSeq t u, fun X ok => pss_cons (h1 X ok) (h3 X ok), seq_core h2 h4⟩
theorem sss_one {st : Stmt} {f : Env' → Option (Out × Env')} (a : SS c G Γ st f Γ1) : SSs c G Γ [st] f Γ1 := by
  obtain ⟨t, h1, h2⟩ := a.ex
  exact ⟨t, fun X ok => pss_one (h1 X ok), h2⟩
/-- ahead of the rest: less is known -/
theorem sss_wk {sts : List Stmt} {f : Env' → Option (Out × Env')} (w : Wk Γ Γ1) (a : SSs c G Γ1 sts f Γ2) : SSs c G Γ sts f Γ2 := by
  obtain ⟨t, h1, h2⟩ := a.ex
  refine ⟨t, h1, fun F Hb H σ ρ fp o ρ' S e E k => ?_⟩
  obtain ⟨gp, S2, _⟩ := S.wk w
  exact h2 F Hb H σ ρ gp o ρ' S2 e E k
/-- ahead of the rest: a slot's thing is shared -/
theorem sss_fz {sts : List Stmt} {f : Env' → Option (Out × Env')} {i : Nat} {t : T} (hi : Γ[i]? = some t) (z : Fz t) (a : SSs c G (Γ.set i .fr) sts f Γ2) : SSs c G Γ sts f Γ2 := by
  obtain ⟨t, h1, h2⟩ := a.ex
  refine ⟨t, h1, fun F Hb H σ ρ fp o ρ' S e E k => ?_⟩
  obtain ⟨Hb', gp, ev, S2, _⟩ := S.fz hi z
  exact h2 F Hb' H σ ρ gp o ρ' S2 e E (k.later ev .refl)
/-- behind a block: less is known -/
theorem sss_end {sts : List Stmt} {f : Env' → Option (Out × Env')} (a : SSs c G Γ sts f Γ1) (w : Wk Γ1 Γ2) : SSs c G Γ sts f Γ2 := by
  obtain ⟨t, h1, h2⟩ := a.ex
  refine ⟨t, h1, fun F Hb H σ ρ fp o ρ' S e E k => h2 F Hb H σ ρ fp o ρ' S e E ?_⟩
  cases o with
  | nx =>
    intro Hb1 H1 σ1 fp1 ev S1 p1
    obtain ⟨gp, S2, _⟩ := S1.wk w
    exact k Hb1 H1 σ1 gp ev S2 p1
  | rt d => exact k
  | bk => exact k
  | ct => exact k
theorem sss_endfz {sts : List Stmt} {f : Env' → Option (Out × Env')} {i : Nat} {t : T} (a : SSs c G Γ sts f Γ1) (hi : Γ1[i]? = some t) (z : Fz t) : SSs c G Γ sts f (Γ1.set i .fr) := by
  obtain ⟨t, h1, h2⟩ := a.ex
  refine ⟨t, h1, fun F Hb H σ ρ fp o ρ' S e E k => h2 F Hb H σ ρ fp o ρ' S e E ?_⟩
  cases o with
  | nx =>
    intro Hb1 H1 σ1 fp1 ev S1 p1
    obtain ⟨Hb', gp, ev2, S2, _⟩ := S1.fz hi z
    exact k Hb' H1 σ1 gp (ev.trans ev2) S2 p1
  | rt d => exact k
  | bk => exact k
  | ct => exact k

/-! ### statements -/
theorem ss_pass : SS c G Γ (.Pass pos) nilS Γ := ⟨tNext, fun X ok => ps_pass, fun F Hb H σ ρ fp o ρ' S e E k => by cases e; exact k Hb H σ fp .refl S .refl⟩
def brkS : Env' → Option (Out × Env') := fun ρ => some (.bk, ρ)
def conS : Env' → Option (Out × Env') := fun ρ => some (.ct, ρ)
theorem ss_break (w : Wk Γ G.bk) : SS c G Γ (.Break pos) brkS Γ' := ⟨tBreak, fun X ok => ps_break, fun F Hb H σ ρ fp o ρ' S e E k => by
  cases e
  obtain ⟨gp, S2, _⟩ := S.wk w
  exact k Hb H σ gp .refl S2 .refl⟩
theorem ss_continue (w : Wk Γ G.ct) : SS c G Γ (.Continue pos) conS Γ' := ⟨tCont, fun X ok => ps_continue, fun F Hb H σ ρ fp o ρ' S e E k => by
  cases e
  obtain ⟨gp, S2, _⟩ := S.wk w
  exact k Hb H σ gp .refl S2 .refl⟩
def expS (f : Env' → Option (D × Env')) : Env' → Option (Out × Env') := fun ρ => (f ρ).map fun r => (.nx, r.2)
theorem ss_expr {e : Expr} {f : Env' → Option (D × Env')} {t : T} (h : EE c Γ e f t Γ') (hs : ∀ env : Env, swapsWith e none pos.line env = pure false := by intro _; rfl) : SS c G Γ (.Expr e pos) (expS f) Γ' := by
  obtain ⟨te, h1, h2⟩ := h.ex
  refine ⟨tDrop te, fun X ok => ps_expr (h1 X ok) (hs _), fun F Hb H σ ρ fp o ρ' S e E k => ?_⟩
  obtain ⟨⟨d, ρ1⟩, e1, e2⟩ := Option.map_eq_some_iff.mp e
  cases e2
  exact h2 F Hb H σ ρ fp d _ S e1 _ fun v Hb' H' fp' fv ev S2 _ _ _ => k Hb' H' σ fp' ev S2 .refl
def retS (f : Env' → Option (D × Env')) : Env' → Option (Out × Env') := fun ρ => (f ρ).map fun r => (.rt r.1, r.2)
theorem ss_ret {e : Expr} {f : Env' → Option (D × Env')} (h : EE c Γ e f G.rt Γ1) (w : Wk Γ1 G.par) : SS c G Γ (.Return (some e) pos) (retS f) Γ' := by
  obtain ⟨te, h1, h2⟩ := h.ex
  refine ⟨tRet te, fun X ok => ps_ret (h1 X ok), fun F Hb H σ ρ fp o ρ' S e E k => ?_⟩
  obtain ⟨⟨d, ρ1⟩, e1, e2⟩ := Option.map_eq_some_iff.mp e
  cases e2
  refine h2 F Hb H σ ρ fp d _ S e1 _ fun v Hb' H' fp' fv ev S2 o nd ap => ?_
  obtain ⟨gp, S3, i3⟩ := S2.wk w
  exact k Hb' H' σ gp v fv ev S3 .refl o nd fun a ha hg => ap a ha (i3 a hg)
def retN : Env' → Option (Out × Env') := fun ρ => some (.rt .non, ρ)
theorem ss_retN (hr : G.rt = .fr) (w : Wk Γ G.par) : SS c G Γ (.Return none pos) retN Γ' := ⟨tRetN, fun X ok => ps_retN, fun F Hb H σ ρ fp o ρ' S e E k => by
  cases e
  obtain ⟨gp, S2, _⟩ := S.wk w
  refine k Hb H σ gp .non [] .refl S2 .refl ?_ List.nodup_nil (fun a h => by simp at h)
  rw [hr]
  exact .fr .non⟩
def ifS (f : Env' → Option Bool) (g h : Env' → Option (Out × Env')) : Env' → Option (Out × Env') := fun ρ => (f ρ).bind fun b => if b = true then g ρ else h ρ
theorem ss_if {e : Expr} {a b : List Stmt} {f : Env' → Option Bool} {g h : Env' → Option (Out × Env')} (hc : QT c Γ e f) (ha : SSs c G Γ a g Γ') (hb : SSs c G Γ b h Γ') : SS c G Γ (.If e a b pos) (ifS f g h) Γ' := by
  obtain ⟨tc, h1, h2⟩ := hc.ex
  obtain ⟨ta, h3, h4⟩ := ha.ex
  obtain ⟨tb, h5, h6⟩ := hb.ex
  refine ⟨tIfS tc ta tb, fun X ok => ps_if (h1 X ok) (h3 X ok) (h5 X ok), fun F Hb H σ ρ fp o ρ' S e E k => ?_⟩
  obtain ⟨b, e1, e2⟩ := Option.bind_eq_some_iff.mp e
  refine h2 F Hb H σ ρ fp b S e1 _ fun Hb' H' x => ?_
  cases b with
  | true =>
    rw [if_pos rfl] at e2 ⊢
    exact h4 F Hb' H' σ ρ fp o ρ' (S.ext x) e2 E (k.later (x.evo S.sf) .refl)
  | false =>
    rw [if_neg Bool.false_ne_true] at e2 ⊢
    exact h6 F Hb' H' σ ρ fp o ρ' (S.ext x) e2 E (k.later (x.evo S.sf) .refl)
def setS (i : Nat) (f : Env' → Option (D × Env')) : Env' → Option (Out × Env') := fun ρ => (f ρ).map fun r => (.nx, setV i r.1 r.2)
theorem set_core {i : Nat} {f : Env' → Option (D × Env')} {t : T} {te : TE} (hl : i < Γ1.length) (hp : i ∉ G.pins)
    (h2 : ∀ F Hb H σ ρ fp d ρ', Sta c.K F Hb H Γ σ ρ fp → f ρ = some (d, ρ') → ∀ Q : VK, (∀ v Hb' H' fp' fv, Evo F Hb Hb' → Sta c.K F Hb' H' Γ1 σ ρ' fp' → Own c.K F Hb' H' [t] [v] [d] fv → fv.Nodup → (∀ a ∈ fv, a ∉ fp') → Q v H') → te σ H Q) :
    ∀ F Hb H σ ρ fp o ρ', Sta c.K F Hb H Γ σ ρ fp → setS i f ρ = some (o, ρ') → ∀ E : Ends, EndOk c G F Hb σ o ρ' (Γ1.set i t) E → tAsg te (gName i) E σ H := by
  intro F Hb H σ ρ fp o ρ' S e E k
  obtain ⟨⟨d, ρ1⟩, e1, e2⟩ := Option.map_eq_some_iff.mp e
  cases e2
  refine h2 F Hb H σ ρ fp d ρ1 S e1 _ fun v Hb' H' fp' fv ev S2 ow nd ap => ?_
  obtain ⟨gp, S3, _⟩ := S2.put hl ow nd ap
  refine k Hb' H' _ gp ev S3 fun j hj => ?_
  have : i ≠ j := fun e => hp (e ▸ hj)
  rw [List.getElem?_set_ne this]
theorem ss_set {x : Str} {i : Nat} {e : Expr} {f : Env' → Option (D × Env')} {t : T} {pos' : Pos} (h : EE c Γ e f t Γ1) (hi : c.N[i]? = some x) (hx : Loc c.sc x) (hf : c.fn x = true ∨ c.sc.names.lookup x = some .local) (hl : i < Γ1.length) (hp : i ∉ G.pins)
    (hs : ∀ env : Env, swapsWith e (some (.Name x pos')) pos.line env = pure false := by intro _; rfl) : SS c G Γ (.Assign [.Name x pos'] e pos) (setS i f) (Γ1.set i t) := by
  obtain ⟨te, h1, h2⟩ := h.ex
  exact ⟨tAsg te (gName i), fun X ok => ps_set ok.nd (by rw [ok.N]; exact hi) (by rw [ok.sc]; exact hx) (h1 X ok) (hs _) (by rw [ok.fn, ok.sc]; exact hf), set_core hl hp h2⟩
/-- name = [..] on one line, the name a plain local -/
theorem ss_setLc {x : Str} {i : Nat} {elt tg iter : Expr} {ifs : List Expr} {scope : Scope} {own : List (Str × Nat)} {fi : Env' → Option (List D)} {t te : T} {g : D → Env' → Option Env'} {is : List Nat} {ft : Env' → Option Bool} {fe : Env' → Option D} {pos' spos : Pos}
    (hi : QI c Γ tg iter fi t) (hb : blkC c.N c.sc scope own = true)
    (hw : ∀ i ∈ own.map (·.2), i < Γ.length) (hsub : ∀ i ∈ is, i ∈ own.map (·.2)) (hg : QG (c.blk scope) (wipeT Γ (own.map (·.2))) tg g t Γ1 is) (ht : QTs (c.blk scope) Γ1 ifs ft) (he : QE (c.blk scope) Γ1 elt fe te true)
    (hx : c.N[i]? = some x) (hxl : c.sc.names.lookup x = some .local) (hl : i < Γ.length) (hp : i ∉ G.pins) (hln : (pos'.line == pos.line) = true) (hk : c.sc.kind = .function)
    (ha : (scope.names.any fun (n, k) => n == x && (k == .local || k == .cell)) = false)
    (hs : ∀ (env : Env) (x : Value), foldedSetIterable iter env x = pure x := by intro _ _; rfl) : SS c G Γ (.Assign [.Name x pos'] (.ListComp elt [⟨tg, iter, ifs, 0⟩] scope pos) spos) (setS i (liftQ (lcD fi g ft fe))) (Γ.set i (.lst te)) := by
  obtain ⟨_, lc2⟩ := (ee_q (qe_lc (pos := pos) hi hb hw hsub hg ht he hs)).ex
  obtain ⟨wi, i1, i2⟩ := hi.ex
  obtain ⟨tg', g1, g2⟩ := hg.ex
  obtain ⟨tt, t1, t2⟩ := ht.ex
  obtain ⟨tE, e1, e2⟩ := he.ex
  refine ⟨tAsg (tLc wi tg' tt tE (own.map (·.2))) (gName i), fun X ok => ?_, ?_⟩
  · exact ps_setLc ok.calm ok.nd (by rw [ok.N]; exact hx) (by rw [ok.sc]; exact hxl) (sw_true (by rw [ok.sc]; exact hk) (by rw [ok.sc]; exact hxl) hln ha) (i1 X ok) (blkOk_by (by rw [ok.N, ok.sc]; exact hb)) (fun s H C cl fp => g1 _ (blk_ok ok scope s H C cl fp)) (fun s H C cl fp => t1 _ (blk_ok ok scope s H C cl fp)) (fun s H C cl fp => e1 _ (blk_ok ok scope s H C cl fp)) (hs _)
  · refine set_core hl hp ?_
    intro F Hb H σ ρ fp d ρ' S e Q q
    obtain ⟨d', e0, e3⟩ := Option.map_eq_some_iff.mp e
    cases e3
    refine lc_sound ⟨i1, i2⟩ hw hsub ⟨hg.len, g1, g2⟩ ⟨t1, t2⟩ ⟨e1, e2⟩ F Hb H σ ρ fp d S e0 Q fun v Hb' H' fv x o fr => ?_
    exact q v Hb' H' fp fv (x.evo S.sf) (S.ext x) o fr.1 fun a ha hf => (S.ow.apart a hf).1 (fr.2 a ha)
def asgS (g : D → Env' → Option Env') (f : Env' → Option (D × Env')) : Env' → Option (Out × Env') := fun ρ => (f ρ).bind fun r => (g r.1 r.2).map fun ρ' => (.nx, ρ')
/-- a, b = e -/
theorem ss_asg {tg e : Expr} {f : Env' → Option (D × Env')} {g : D → Env' → Option Env'} {t : T} {is : List Nat} (h : EE c Γ e f t Γ1) (ht : t = .fr ∨ t = .rd) (hg : QG c Γ1 tg g t Γ2 is) (hp : ∀ i ∈ G.pins, i ∉ is)
    (hs : ∀ env : Env, swapsWithSole [tg] e pos.line env = pure false := by intro _; rfl) (hw : ∀ env : Env, swappedStores [tg] e env = pure none := by intro _; rfl) (h1 : ∀ env : Env, (assignEach [tg] env).map (·.2) = [assign tg env] := by intro _; rfl) : SS c G Γ (.Assign [tg] e pos) (asgS g f) Γ2 := by
  obtain ⟨te, a1, a2⟩ := h.ex
  obtain ⟨tg', g1, g2⟩ := hg.ex
  refine ⟨tAsg te tg', fun X ok => ps_asg (a1 X ok) (g1 X ok) (hs _) (hw _) (h1 _), fun F Hb H σ ρ fp o ρ' S e E k => ?_⟩
  obtain ⟨⟨d, ρ1⟩, e1, e2⟩ := Option.bind_eq_some_iff.mp e
  obtain ⟨ρ2, e2, e3⟩ := Option.map_eq_some_iff.mp e2
  cases e3
  refine a2 F Hb H σ ρ fp d ρ1 S e1 _ fun v Hb' H' fp' fv ev S2 ow nd ap => ?_
  have ow' : Own c.K F Hb' H' [t] [v] [d] [] := by
    rcases ht with e | e
    · subst e
      cases ow.inv with
      | fr x => exact .fr x
    · subst e
      cases ow.inv with
      | rd x => exact .rd x
  exact g2 F Hb' H' σ ρ1 fp' v d ρ' S2 ow' e2 _ fun σ' gp S3 _ p3 => k Hb' H' σ' gp ev S3 fun i hi => p3 i (hp i hi)

/-! ### loops -/
def forM (g : D → Env' → Option Env') (b : Env' → Option (Out × Env')) : List D → Env' → Option (Out × Env')
  | [], ρ => some (.nx, ρ)
  | d :: ds, ρ => (g d ρ).bind fun ρ1 => (b ρ1).bind fun r => match r.1 with
    | .nx => forM g b ds r.2
    | .ct => forM g b ds r.2
    | .bk => some (.nx, r.2)
    | .rt x => some (.rt x, r.2)
def forS (fi : Env' → Option (List D)) (g : D → Env' → Option Env') (b : Env' → Option (Out × Env')) : Env' → Option (Out × Env') := fun ρ => (fi ρ).bind fun ds => forM g b ds ρ
theorem ss_for {tg iter : Expr} {body : List Stmt} {fi : Env' → Option (List D)} {g : D → Env' → Option Env'} {b : Env' → Option (Out × Env')} {t : T} {is : List Nat} (hi : QI c Γ tg iter fi t) (hg : QG c Γ tg g t Γ1 is) (hp : ∀ i ∈ G.pins, i ∉ is)
    (hb : SSs c { G with bk := Γ, ct := Γ } Γ1 body b Γ) (hs : ∀ (env : Env) (x : Value), foldedSetIterable iter env x = pure x := by intro _ _; rfl) : SS c G Γ (.For tg iter body [] pos) (forS fi g b) Γ := by
  obtain ⟨wi, i1, i2⟩ := hi.ex
  obtain ⟨tg', g1, g2⟩ := hg.ex
  obtain ⟨tb, b1, b2⟩ := hb.ex
  refine ⟨tFor wi tg' tb, fun X ok => ps_for (by rw [ok.xe]; exact PassesOwn.never) ok.calm (i1 X ok) (g1 X ok) (b1 X ok) (hs _), fun F Hb0 H0 σ0 ρ0 fp0 o ρ' S0 e E k => ?_⟩
  obtain ⟨ds, e1, e2⟩ := Option.bind_eq_some_iff.mp e
  refine i2 F Hb0 H0 σ0 ρ0 fp0 ds S0 e1 _ fun J Hb1 H1 x1 it => ?_
  refine ⟨fun i m σ H => m = ds.length - i ∧ i ≤ ds.length ∧ ∃ Hb ρ fp, Evo F Hb0 Hb ∧ Same Hb1 Hb ∧ Sta c.K F Hb H Γ σ ρ fp ∧ Pin G σ0 σ ∧ forM g b (ds.drop i) ρ = some (o, ρ'), ⟨ds.length, by simp, Nat.zero_le _, Hb1, ρ0, fp0, x1.evo S0.sf, .refl _, S0.ext x1, .refl, by simpa using e2⟩, ?_⟩
  rintro i m σ H ⟨rfl, hin, Hb, ρ, fp, ev, sb1, S, p, ef⟩
  by_cases hlt : i < ds.length
  · have ed : ds[i]? = some ds[i] := List.getElem?_eq_getElem hlt
    rw [List.drop_eq_getElem_cons hlt] at ef
    obtain ⟨ρ1, eg, ef⟩ := Option.bind_eq_some_iff.mp ef
    obtain ⟨⟨o1, ρ2⟩, eb, ef⟩ := Option.bind_eq_some_iff.mp ef
    refine .inr ⟨it.go i Hb H sb1 S.sb S.sf hlt, fun σ' H' => ∃ Hb ρ fp, Evo F Hb0 Hb ∧ Same Hb1 Hb ∧ Sta c.K F Hb H' Γ σ' ρ fp ∧ Pin G σ0 σ' ∧ forM g b (ds.drop (i + 1)) ρ = some (o, ρ'), fun σ' H' hN => ⟨ds.length - (i + 1), by omega, rfl, hlt, hN⟩, fun x H' hy => ?_⟩
    obtain ⟨Hb3, x3, ox⟩ := it.yld i Hb H x H' ds[i] sb1 S.sb S.sf ed hy
    refine g2 F Hb3 H' σ ρ fp x ds[i] ρ1 (S.ext x3) ox eg _ fun σ4 fp4 S4 h4 p4 => ?_
    have ev3 := ev.trans (x3.evo S.sf)
    have pp : Pin G σ0 σ4 := p.trans fun j hj => p4 j (hp j hj)
    refine b2 F Hb3 H' σ4 ρ1 fp4 o1 ρ2 S4 eb _ ?_
    cases o1 with
    | nx => exact fun Hb5 H5 σ5 fp5 ev5 S5 p5 => ⟨Hb5, ρ2, fp5, ev3.trans ev5, (sb1.trans x3.b).trans ev5.1, S5, pp.trans p5, ef⟩
    | ct => exact fun Hb5 H5 σ5 fp5 ev5 S5 p5 => ⟨Hb5, ρ2, fp5, ev3.trans ev5, (sb1.trans x3.b).trans ev5.1, S5, pp.trans p5, ef⟩
    | bk =>
      cases ef
      exact fun Hb5 H5 σ5 fp5 ev5 S5 p5 => k Hb5 H5 σ5 fp5 (ev3.trans ev5) S5 (pp.trans p5)
    | rt d =>
      cases ef
      exact fun Hb5 H5 σ5 fp5 v fv ev5 S5 p5 => k Hb5 H5 σ5 fp5 v fv (ev3.trans ev5) S5 (pp.trans p5)
  · have ei : i = ds.length := by omega
    subst ei
    refine .inl ⟨it.stop _ Hb H sb1 S.sb S.sf (Nat.le_refl _), ?_⟩
    rw [List.drop_length] at ef
    cases ef
    exact k Hb H σ fp ev S p
/-- while, n turns at most -/
def whN (f : Env' → Option Bool) (b : Env' → Option (Out × Env')) : Nat → Env' → Option (Out × Env')
  | 0, _ => none
  | n + 1, ρ => (f ρ).bind fun k => if k = true then (b ρ).bind fun r => match r.1 with
      | .nx => whN f b n r.2
      | .ct => whN f b n r.2
      | .bk => some (.nx, r.2)
      | .rt x => some (.rt x, r.2)
    else some (.nx, ρ)
theorem whN_mono {f : Env' → Option Bool} {b : Env' → Option (Out × Env')} {r : Out × Env'} : ∀ {n : Nat} {ρ : Env'}, whN f b n ρ = some r → whN f b (n + 1) ρ = some r
  | 0, _, h => by cases h
  | n + 1, ρ, h => by
    obtain ⟨k, e1, h⟩ := Option.bind_eq_some_iff.mp h
    unfold whN
    rw [e1]
    show (if k = true then _ else _) = some r
    cases k with
    | false => exact h
    | true =>
      rw [if_pos rfl] at h ⊢
      obtain ⟨⟨o, ρ1⟩, e2, h⟩ := Option.bind_eq_some_iff.mp h
      rw [e2]
      cases o with
      | nx => exact whN_mono (n := n) h
      | ct => exact whN_mono (n := n) h
      | bk => exact h
      | rt x => exact h
theorem whN_le {f : Env' → Option Bool} {b : Env' → Option (Out × Env')} {r : Out × Env'} {n m : Nat} {ρ : Env'} (h : whN f b n ρ = some r) (hm : n ≤ m) : whN f b m ρ = some r := by
  induction hm with
  | refl => exact h
  | step _ ih => exact whN_mono ih
open Classical in
/-- while, as long as it takes -/
noncomputable def whS (f : Env' → Option Bool) (b : Env' → Option (Out × Env')) : Env' → Option (Out × Env') := fun ρ => if h : ∃ n r, whN f b n ρ = some r then some h.choose_spec.choose else none
theorem whS_of {f : Env' → Option Bool} {b : Env' → Option (Out × Env')} {r : Out × Env'} {n : Nat} {ρ : Env'} (h : whN f b n ρ = some r) : whS f b ρ = some r := by
  unfold whS
  have hx : ∃ n r, whN f b n ρ = some r := ⟨n, r, h⟩
  rw [dif_pos hx]
  have h2 := hx.choose_spec.choose_spec
  have h3 := whN_le h (Nat.le_max_left n hx.choose)
  have h4 := whN_le h2 (Nat.le_max_right n hx.choose)
  rw [h3] at h4
  exact h4.symm
theorem whS_inv {f : Env' → Option Bool} {b : Env' → Option (Out × Env')} {r : Out × Env'} {ρ : Env'} (h : whS f b ρ = some r) : ∃ n, whN f b n ρ = some r := by
  unfold whS at h
  split at h
  · rename_i hx
    cases h
    exact ⟨hx.choose, hx.choose_spec.choose_spec⟩
  · cases h
theorem ss_while {e : Expr} {body : List Stmt} {f : Env' → Option Bool} {b : Env' → Option (Out × Env')} (hc : QT c Γ e f) (hb : SSs c { G with bk := Γ, ct := Γ } Γ body b Γ) : SS c G Γ (.While e body [] pos) (whS f b) Γ := by
  obtain ⟨tc, h1, h2⟩ := hc.ex
  obtain ⟨tb, b1, b2⟩ := hb.ex
  refine ⟨tWhile tc tb, fun X ok => ps_while (by rw [ok.xe]; exact PassesOwn.never) (h1 X ok) (b1 X ok), fun F Hb0 H0 σ0 ρ0 fp0 o ρ' S0 e E k => ?_⟩
  obtain ⟨n, en⟩ := whS_inv e
  refine ⟨fun m σ H => ∃ Hb ρ fp, Evo F Hb0 Hb ∧ Sta c.K F Hb H Γ σ ρ fp ∧ Pin G σ0 σ ∧ whN f b m ρ = some (o, ρ'), ⟨n, Hb0, ρ0, fp0, .refl, S0, .refl, en⟩, ?_⟩
  rintro m σ H ⟨Hb, ρ, fp, ev, S, p, ew⟩
  cases m with
  | zero => cases ew
  | succ m =>
    obtain ⟨kk, e1, ew⟩ := Option.bind_eq_some_iff.mp ew
    refine h2 F Hb H σ ρ fp kk S e1 _ fun Hb1 H1 x1 => ?_
    have ev1 := ev.trans (x1.evo S.sf)
    cases kk with
    | false =>
      rw [if_neg Bool.false_ne_true] at ew ⊢
      cases ew
      exact k Hb1 H1 σ fp ev1 (S.ext x1) p
    | true =>
      rw [if_pos rfl] at ew ⊢
      obtain ⟨⟨o1, ρ2⟩, eb, ew⟩ := Option.bind_eq_some_iff.mp ew
      refine ⟨fun σ' H' => ∃ Hb ρ fp, Evo F Hb0 Hb ∧ Sta c.K F Hb H' Γ σ' ρ fp ∧ Pin G σ0 σ' ∧ whN f b m ρ = some (o, ρ'), fun σ' H' hN => ⟨m, Nat.lt_succ_self m, hN⟩, ?_⟩
      refine b2 F Hb1 H1 σ ρ fp o1 ρ2 (S.ext x1) eb _ ?_
      cases o1 with
      | nx => exact fun Hb5 H5 σ5 fp5 ev5 S5 p5 => ⟨Hb5, ρ2, fp5, ev1.trans ev5, S5, p.trans p5, ew⟩
      | ct => exact fun Hb5 H5 σ5 fp5 ev5 S5 p5 => ⟨Hb5, ρ2, fp5, ev1.trans ev5, S5, p.trans p5, ew⟩
      | bk =>
        cases ew
        exact fun Hb5 H5 σ5 fp5 ev5 S5 p5 => k Hb5 H5 σ5 fp5 (ev1.trans ev5) S5 (p.trans p5)
      | rt d =>
        cases ew
        exact fun Hb5 H5 σ5 fp5 v fv ev5 S5 p5 => k Hb5 H5 σ5 fp5 v fv (ev1.trans ev5) S5 (p.trans p5)
end
end Vm

/-! VmI: lists that change, functions and their calls. -/
namespace Vm
open PySem PySem.Spec PyProof.Rows L2

/-! ### a list that a slot owns -/
theorem set_same {α : Type} {xs : List α} {i : Nat} {x : α} (h : xs[i]? = some x) : xs.set i x = xs := by
  apply List.ext_getElem?
  intro j
  rw [List.getElem?_set]
  split
  · rename_i e; subst e
    split
    · exact h.symm
    · rename_i hx; rw [List.getElem?_eq_none (by omega)]
  · rfl
theorem Sta.lstAt {K : PySem.W.Frag} {F Hb H : Hp} {Γ : List T} {σ : L2.St} {ρ : Env'} {fp : List Addr} (S : Sta K F Hb H Γ σ ρ fp) {i : Nat} {t : T} (hi : Γ[i]? = some (.lst t)) :
    ∃ (l : Addr) (vs : List V) (ds : List D) (f g : List Addr), σ[i]? = some (some (.ref l)) ∧ getV i ρ = some (.lst ds) ∧ H l = some (.lst vs) ∧ Own K F Hb H (List.replicate ds.length t) vs ds f ∧ (∀ a, a ∈ fp ↔ a = l ∨ a ∈ f ∨ a ∈ g) ∧ f.Nodup ∧ l ∉ f ∧ l ∉ g ∧ (∀ a ∈ f, a ∉ g) ∧
      ∀ vs' ds' f', Own K F Hb H (List.replicate ds'.length t) vs' ds' f' → f'.Nodup → (∀ a ∈ f', a ∉ g ∧ a ≠ l) → ∃ gp, Sta K F Hb (upd H l (.lst vs')) Γ σ (setV i (.lst ds') ρ) gp ∧ ∀ a, a ∈ gp ↔ a = l ∨ a ∈ f' ∨ a ∈ g := by
  obtain ⟨v, d, f0, g, h1, h2, h3, h4, h5, h6⟩ := S.ow.out hi (fun e => nomatch e)
  have nd := List.nodup_append.mp (h5 S.nd)
  have hn : i < Γ.length := by
    by_cases hc : i < Γ.length
    · exact hc
    · rw [List.getElem?_eq_none (by omega)] at hi; cases hi
  cases h3.inv with
  | @lst t l vs ds f ha hb hf o =>
    have ndl := List.nodup_cons.mp nd.1
    have lg : l ∉ g := fun z => nd.2.2 l List.mem_cons_self l z rfl
    refine ⟨l, vs, ds, f, g, h1, getV_some h2, ha, o, fun a => by rw [h6 a, List.mem_cons, or_assoc], ndl.2, ndl.1, lg, fun a ha hg => nd.2.2 a (List.mem_cons_of_mem _ ha) a hg rfl, fun vs' ds' f' o' nd' ap' => ?_⟩
    have o1 := (h4 (some (.ref l)) (some (.lst ds'))).frame (Hb' := Hb) (H' := upd H l (.lst vs')) (.refl _) (fun a ha => upd_ne fun z => lg (z ▸ ha)) (fun _ _ => rfl)
    have o2 : Own K F Hb (upd H l (.lst vs')) [.lst t] [.ref l] [.lst ds'] (l :: f') := .lst upd_same hb hf (o'.frame (.refl _) (fun a ha => upd_ne (ap' a ha).2) fun _ _ => rfl)
    obtain ⟨gp, o3, n3, m3⟩ := o1.put (i := i) (by rw [List.getElem?_set_self hn]) o2
    simp only [List.set_set] at o3
    rw [set_same hi, set_same h1] at o3
    refine ⟨gp, ⟨o3, n3 (List.nodup_append.mpr ⟨List.nodup_cons.mpr ⟨fun z => (ap' l z).2 rfl, nd'⟩, nd.2.1, fun a ha b hq q => ?_⟩), fun a o q => ?_, fun a o q => ?_, S.lk⟩, fun a => ?_⟩
    · subst q
      rcases List.mem_cons.mp ha with h | h
      · subst h; exact lg hq
      · exact (ap' a h).1 hq
    · have : a ≠ l := fun z => by rw [z, hb] at q; cases q
      rw [upd_ne this]; exact S.sb a o q
    · have : a ≠ l := fun z => by rw [z, hf] at q; cases q
      rw [upd_ne this]; exact S.sf a o q
    · rw [m3 a, List.mem_cons, or_assoc]

section
variable {c : Ctx} {G : Gs} {Γ Γ1 Γ2 Γ' : List T} {pos : Pos}
def lstV (i : Nat) (ρ : Env') : Option (List D) := (getV i ρ).bind fun d => match d with | .lst ds => some ds | _ => none
theorem lstV_of {i : Nat} {ρ : Env'} {ds : List D} (h : getV i ρ = some (.lst ds)) : lstV i ρ = some ds := by
  unfold lstV
  rw [h]
  rfl
def appS (i : Nat) (f : Env' → Option (D × Env')) : Env' → Option (D × Env') := fun ρ => (f ρ).bind fun r => (lstV i r.2).bind fun ds => if ds.length < sL then some (.non, setV i (.lst (ds ++ [r.1])) r.2) else none
theorem ee_append {x : Str} {i : Nat} {a : Expr} {f : Env' → Option (D × Env')} {t t0 : T} {px apos cpos : Pos} (hN : c.N[i]? = some x) (hv : Vis c.sc x) (h0 : Γ[i]? = some (.lst t0)) (ha : EE c Γ a f t Γ1) (hi : Γ1[i]? = some (.lst t))
    (hd : (x == ("__debug__" : Str)) = false := by decide) (hcd : (x == ("__classdict__" : Str)) = false := by decide)
    (hbase : ∀ env : Env, attributeBase (.Name x px) "append" env (eval (.Name x px) env) = eval (.Name x px) env := by intro _; rfl)
    (hfew : ∀ env : Env, ((backTo cpos (starEach [a] env)).all (fun x => !x.1) && (backToKw cpos (keywordEach [] env)).all (fun x => x.1.isSome)
      && decide ([a].length + ([] : List Keyword).length + (if ([] : List Keyword).isEmpty then 0 else 1) < 30)) = true := by intro _; rfl)
    (hline : (apos.endLine == cpos.line) = true := by rfl) (hs : ∀ env : Env, starEach [a] env = (false, eval a env) :: starEach [] env := by intro _; rfl) : EE c Γ (.Call (.Attribute (.Name x px) "append" apos) [a] [] cpos) (appS i f) .fr Γ1 := by
  obtain ⟨te, h1, h2⟩ := ha.ex
  refine ⟨tBM c.K "list" rAppend (tVar i) (tCons te tNil), fun X ok => ?_, fun F Hb H σ ρ fp d ρ' S e Q q => ?_⟩
  · rw [← ok.K]
    exact pe_bm PySem.F.plainAttrs_list PySem.F.slot_list_append PySem.F.type_list_append mt_append (pe_var (by rw [ok.N]; exact hN) (by rw [ok.sc]; exact hv) hd hcd) (pa_cons (h1 X ok) pa_nil (hs _)) (hbase _) (hfew _) hline (hs _) (by rfl)
  · obtain ⟨⟨y, ρ1⟩, e1, e2⟩ := Option.bind_eq_some_iff.mp e
    obtain ⟨l, vs, ds, _, _, hσ, _, hl, _⟩ := S.lstAt h0
    refine ⟨.ref l, hσ, .inl ⟨rfl, vs, .of hl⟩, ?_⟩
    refine h2 F Hb H σ ρ fp y ρ1 S e1 _ fun v Hb1 H1 fp1 fv ev S1 o nd ap => ?_
    obtain ⟨l', vs', ds', f', g', hσ', hg', hl', o', m', nf, lf, lg, fg, k'⟩ := S1.lstAt hi
    rw [hσ] at hσ'
    cases hσ'
    rw [show lstV i (y, ρ1).2 = some ds' from lstV_of hg'] at e2
    by_cases hz : ds'.length < sL
    · have e2 : (if ds'.length < sL then some (D.non, setV i (.lst (ds' ++ [y])) ρ1) else none) = some (d, ρ') := e2
      rw [if_pos hz] at e2
      cases e2
      have apf : ∀ a ∈ fv, a ∉ f' ∧ a ∉ g' ∧ a ≠ l := fun a ha => ⟨fun z => ap a ha ((m' a).mpr (.inr (.inl z))), fun z => ap a ha ((m' a).mpr (.inr (.inr z))), fun z => ap a ha ((m' a).mpr (.inl z))⟩
      obtain ⟨gp, S2, m2⟩ := k' (vs' ++ [v]) (ds' ++ [y]) (f' ++ fv) (o.snoc o') (List.nodup_append.mpr ⟨nf, nd, fun a ha b hb q => (apf b hb).1 (q ▸ ha)⟩) (fun a ha => by
        rcases List.mem_append.mp ha with h | h
        · exact ⟨fg a h, fun z => lf (z ▸ h)⟩
        · exact (apf a h).2)
      refine ⟨l, vs', v, rfl, rfl, hl', ?_, q .non Hb1 _ gp [] ev S2 (.fr .non) List.nodup_nil (fun a h => by simp at h)⟩
      rw [o'.len.2, sizeLine_eq]; exact hz
    · have e2 : (if ds'.length < sL then some (D.non, setV i (.lst (ds' ++ [y])) ρ1) else none) = some (d, ρ') := e2
      rw [if_neg hz] at e2; cases e2
theorem Own.unsnoc {K : PySem.W.Frag} {F Hb H : Hp} {t : T} {d : D} : ∀ {vs : List V} {ds : List D} {f : List Addr}, Own K F Hb H (List.replicate (ds ++ [d]).length t) vs (ds ++ [d]) f → ∃ vs' v f1 f2, vs = vs' ++ [v] ∧ f = f1 ++ f2 ∧ Own K F Hb H (List.replicate ds.length t) vs' ds f1 ∧ Own K F Hb H [t] [v] [d] f2
  | [], ds, f, h => by have := h.len.2; simp at this
  | [v], [], f, h => ⟨[], v, [], f, rfl, rfl, .nil, h⟩
  | v :: w :: vs, [], f, h => by have := h.len.2; simp at this
  | v :: vs, d' :: ds, f, h => by
    obtain ⟨f1, f2, e, a, b⟩ := h.uncons
    obtain ⟨vs', v', g1, g2, e1, e2, o1, o2⟩ := Own.unsnoc (vs := vs) (ds := ds) b
    subst e e1 e2
    exact ⟨v :: vs', v', f1 ++ g1, g2, rfl, (List.append_assoc _ _ _).symm, .cons a o1, o2⟩
def popS (i : Nat) : Env' → Option (D × Env') := fun ρ => (lstV i ρ).bind fun ds => ds.getLast?.map fun d => (d, setV i (.lst ds.dropLast) ρ)
theorem ee_pop {x : Str} {i : Nat} {t : T} {px apos cpos : Pos} (hN : c.N[i]? = some x) (hv : Vis c.sc x) (hi : Γ[i]? = some (.lst t))
    (hd : (x == ("__debug__" : Str)) = false := by decide) (hcd : (x == ("__classdict__" : Str)) = false := by decide)
    (hbase : ∀ env : Env, attributeBase (.Name x px) "pop" env (eval (.Name x px) env) = eval (.Name x px) env := by intro _; rfl)
    (hline : (apos.endLine == cpos.line) = true := by rfl) : EE c Γ (.Call (.Attribute (.Name x px) "pop" apos) [] [] cpos) (popS i) t Γ := by
  refine ⟨tBM0 c.K "list" rPop (tVar i), fun X ok => ?_, fun F Hb H σ ρ fp d ρ' S e Q q => ?_⟩
  · rw [← ok.K]
    exact pe_bm0 PySem.F.plainAttrs_list PySem.F.slot_list_pop PySem.F.type_list_pop mt_pop (pe_var (by rw [ok.N]; exact hN) (by rw [ok.sc]; exact hv) hd hcd) (hbase _) hline
  · obtain ⟨l, vs, ds, f, g, hσ, hg, hl, o, m, nf, lf, lg, fg, k⟩ := S.lstAt hi
    unfold popS at e
    rw [lstV_of hg] at e
    obtain ⟨y, e1, e2⟩ := Option.map_eq_some_iff.mp e
    cases e2
    have ed : ds = ds.dropLast ++ [d] := by
      cases ds with
      | nil => cases e1
      | cons a r =>
        rw [List.getLast?_eq_getLast (List.cons_ne_nil a r)] at e1
        have e1 := Option.some.inj e1
        rw [← e1, List.dropLast_concat_getLast]
    rw [ed] at o
    obtain ⟨vs', v, f1, f2, e3, e4, o1, o2⟩ := o.unsnoc
    subst e3 e4
    have nn := List.nodup_append.mp nf
    obtain ⟨gp, S2, m2⟩ := k vs' ds.dropLast f1 o1 nn.1 (fun a ha => ⟨fg a (List.mem_append_left _ ha), fun z => lf (z ▸ List.mem_append_left _ ha)⟩)
    refine ⟨.ref l, hσ, .inl ⟨rfl, _, .of hl⟩, l, vs' ++ [v], v, rfl, rfl, hl, by simp, ?_⟩
    rw [List.dropLast_concat]
    have l2 : ∀ a ∈ f2, a ≠ l := fun a ha z => lf (z ▸ List.mem_append_right _ ha)
    refine q v Hb _ gp f2 .refl S2 (o2.frame (.refl _) (fun a ha => upd_ne (l2 a ha)) fun _ _ => rfl) nn.2.1 fun a ha hm => ?_
    rcases (m2 a).mp hm with h | h | h
    · exact l2 a ha h
    · exact nn.2.2 a h a ha rfl
    · exact fg a (List.mem_append_right _ ha) h
/-- xs[j] = e, the items shared -/
def putS (i : Nat) (f : Env' → Option (D × Env')) (g : Env' → Option D) : Env' → Option (Out × Env') := fun ρ => (f ρ).bind fun r => ((g r.2).bind asI).bind fun n => (lstV i r.2).bind fun ds => (ixN ds.length n).map fun k => (.nx, setV i (.lst (ds.set k r.1)) r.2)
theorem ss_put {x : Str} {i : Nat} {a b : Expr} {f : Env' → Option (D × Env')} {g : Env' → Option D} {tb : T} {mb : Bool} {px p1 : Pos} (hN : c.N[i]? = some x) (hv : Vis c.sc x) (ha : EE c Γ a f .fr Γ1) (hi : Γ1[i]? = some (.lst .fr)) (hb : QE c Γ1 b g tb mb)
    (hd : (x == ("__debug__" : Str)) = false := by decide) (hcd : (x == ("__classdict__" : Str)) = false := by decide)
    (hsub : ∀ (env : Env) (v : Value), assign (.Subscript (.Name x px) b p1) env v = (do
      let ov ← holding [v] (eval (.Name x px) env)
      let iv ← holding [v, ov] (eval b env)
      standAt p1
      holding [v, ov, iv] (setItem ov iv v)
      release [v, ov, iv] []) := by intro _ _; rfl)
    (hs : ∀ env : Env, swapsWithSole [.Subscript (.Name x px) b p1] a pos.line env = pure false := by intro _; rfl) (hw : ∀ env : Env, swappedStores [.Subscript (.Name x px) b p1] a env = pure none := by intro _; rfl)
    (h1 : ∀ env : Env, (assignEach [.Subscript (.Name x px) b p1] env).map (·.2) = [assign (.Subscript (.Name x px) b p1) env] := by intro _; rfl) :
    SS c G Γ (.Assign [.Subscript (.Name x px) b p1] a pos) (putS i f g) Γ1 := by
  obtain ⟨te, a1, a2⟩ := ha.ex
  obtain ⟨ti, b1, b2⟩ := hb.ex
  refine ⟨tAsg te (gSub (tVar i) ti rSetL), fun X ok => ps_asg (a1 X ok) (pg_sub (pe_var (by rw [ok.N]; exact hN) (by rw [ok.sc]; exact hv) hd hcd) (b1 X ok) set_list (hsub _)) (hs _) (hw _) (h1 _), fun F Hb H σ ρ fp o ρ' S e E k => ?_⟩
  obtain ⟨⟨y, ρ1⟩, e1, e2⟩ := Option.bind_eq_some_iff.mp e
  obtain ⟨n, e2, e3⟩ := Option.bind_eq_some_iff.mp e2
  obtain ⟨j, e2, ej⟩ := Option.bind_eq_some_iff.mp e2
  refine a2 F Hb H σ ρ fp y ρ1 S e1 _ fun v Hb1 H1 fp1 fv ev S1 ow nd ap => ?_
  obtain ⟨l0, vs0, ds0, _, _, hσ, _, hl0, _⟩ := S1.lstAt hi
  refine ⟨.ref l0, hσ, ?_⟩
  refine b2 F Hb1 H1 σ ρ1 fp1 j S1 e2 _ fun w Hb2 H2 f2 x2 o2 _ => ?_
  obtain ⟨l, vs, ds, f', g', hσ', hg', hl', o', m', nf, lf, lg, fg, k'⟩ := (S1.ext x2).lstAt hi
  rw [hσ] at hσ'
  cases hσ'
  rw [show lstV i (y, ρ1).2 = some ds from lstV_of hg'] at e3
  cases j with
  | int n' =>
    cases ej
    obtain ⟨kk, e4, e5⟩ := Option.map_eq_some_iff.mp e3
    cases e5
    cases (o2.vw x2.bh (S1.sf.trans x2.h)).inv
    cases ow.inv with
    | fr wv =>
      obtain ⟨ef, w'⟩ := o'.frs
      subst ef
      have ln := o'.len.2
      obtain ⟨gp, S3, m3⟩ := k' (vs.set kk v) (ds.set kk y) [] (Own.ofFrs (Vw.setAt (wv.mono x2.b) kk w')) List.nodup_nil (fun a h => by simp at h)
      refine ⟨l0, vs, n, kk, rfl, rfl, hl', by rw [ln]; exact e4, k Hb2 _ σ gp (ev.trans (x2.evo S1.sf)) S3 .refl⟩
  | _ => cases ej

/-! ### functions -/
def spF (K : PySem.W.Frag) (ps : List T) (t : T) (g : List D → Option D) : Sp := fun vs H Q _ => ∃ Hb ds d, Same Hb H ∧ Lkd Hb ∧ Own K H Hb H ps vs ds [] ∧ g ds = some d ∧
  ∀ v Hb' H' fv, Ext Hb H Hb' H' → Own K H Hb' H' [t] [v] [d] fv → Fresh H fv → Q v H'
/-- a body run on arguments: n slots in all; falls: may it end without a return -/
def runF (n : Nat) (falls : Bool) (fb : Env' → Option (Out × Env')) (ds : List D) : Option D := (fb (ds.map some ++ List.replicate (n - ds.length) none)).bind fun r => match r.1 with
  | .rt d => some d
  | .nx => if falls = true then some .non else none
  | _ => none
def parT (ps : List T) (n : Nat) : List T := ps ++ List.replicate (n - ps.length) .any
theorem ow_anys {K : PySem.W.Frag} {F Hb H : Hp} : ∀ n, Ow K F Hb H (List.replicate n .any) (List.replicate n none) (List.replicate n none) []
  | 0 => .nil
  | n + 1 => .any none none (ow_anys n)
theorem ow_start {K : PySem.W.Frag} {F Hb H : Hp} {n : Nat} : ∀ {ps : List T} {vs : List V} {ds : List D}, Own K F Hb H ps vs ds [] → Ow K F Hb H (ps ++ List.replicate n .any) (vs.map some ++ List.replicate n none) (ds.map some ++ List.replicate n none) []
  | [], [], [], _ => ow_anys n
  | [], _ :: _, _, h => by have := h.len; simp at this
  | [], [], _ :: _, h => by have := h.len; simp at this
  | _ :: _, [], _, h => by have := h.len; simp at this
  | _ :: _, _ :: _, [], h => by have := h.len; simp at this
  | p :: ps, v :: vs, d :: ds, h => by
    obtain ⟨f, g, e, a, b⟩ := h.uncons
    obtain ⟨ef, eg⟩ := app_nil e
    subst ef eg
    exact Ow.cons a (ow_start b)
def fnCtx (P : Program) (w : World) (K : PySem.W.Frag) (mg : Str → Option Value) (base : Heap) (N : List Str) (sc : Scope) (k : Nat) : Ctx := ⟨P, w, K, mg, base, N, sc, fun _ => true, k⟩
def fnGs (t : T) (n : Nat) : Gs := ⟨t, List.replicate n .any, [], [], []⟩
theorem fn_ok {P : Program} {w : World} {K : PySem.W.Frag} {mg : Str → Option Value} {base : Heap} {x qual : Str} {st : Stmt} {f : Addr} {fd : FuncData} {N ps : List Str} {k : Nat} {pk : List T} {t : T} {falls : Bool} {fb : Env' → Option (Out × Env')} {Γe : List T}
    (F : Fun K x qual st f fd) (S : FnScope N ps (defScope st)) (hl : pk.length = ps.length) (hf : falls = false ∨ t = .fr) (hb : SSs (fnCtx P w K mg base N (defScope st) k) (fnGs t N.length) (parT pk N.length) (defBody st) fb Γe) : FnOk P w K mg base CX0 (k + 1) f fd ps (spF K pk t (runF N.length falls fb)) := by
  refine F.ok S (fun vs H Q E h => ?_) (fun cdv A outer s H vs Q E hr h => ?_)
  · obtain ⟨Hb, ds, d, _, _, o, _⟩ := h
    rw [← o.len.1, hl]
  · obtain ⟨Hb, ds, d, sb, lk, o, er, q⟩ := h
    obtain ⟨ts, h1, h2⟩ := hb.ex
    refine ⟨ts, h1 _ ⟨rfl, rfl, rfl, rfl, rfl, rfl, rfl, rfl, rfl, hr, rfl, S.nd⟩, ?_⟩
    obtain ⟨⟨out, ρ'⟩, e1, e2⟩ := Option.bind_eq_some_iff.mp er
    have lv : vs.length = pk.length := o.len.1.symm
    have ld : ds.length = pk.length := o.len.2.symm.trans lv
    have S0 : Sta K H Hb H (parT pk N.length) (L2.start N vs) (ds.map some ++ List.replicate (N.length - ds.length) none) [] := by
      refine ⟨?_, List.nodup_nil, sb, .refl _, lk⟩
      unfold parT L2.start
      rw [lv, ld]
      exact ow_start o
    refine h2 H Hb H _ _ [] out ρ' S0 e1 _ ?_
    cases out with
    | rt d' =>
      cases e2
      intro Hb' H' σ' fp' v fv ev S2 _ ow nd _
      exact q v Hb' H' fv ⟨S2.sf, ev.1, S2.sb, ev.2.1, ev.2.2⟩ ow ⟨nd, fun a ha => (ow.apart a ha).2.2⟩
    | nx =>
      have e2 : (if falls = true then some D.non else none) = some d := e2
      cases falls with
      | false => rw [if_neg Bool.false_ne_true] at e2; cases e2
      | true =>
        rw [if_pos rfl] at e2
        cases e2
        intro Hb' H' σ' fp' ev S2 _
        rcases hf with h | h
        · cases h
        · subst h
          exact q .non Hb' H' [] ⟨S2.sf, ev.1, S2.sb, ev.2.1, ev.2.2⟩ (.fr .non) .nil
    | bk => cases e2
    | ct => cases e2
theorem Own.reF {K : PySem.W.Frag} {F F' Hb H : Hp} {ts : List T} {vs : List V} {ds : List D} {f : List Addr} (h : Own K F Hb H ts vs ds f) : (∀ t ∈ ts, Fz t) → (∀ a ∈ f, F' a = none) → Own K F' Hb H ts vs ds f := by
  induction h with
  | nil => intro _ _; exact .nil
  | cons _ _ a b => intro z k; exact .cons (a (fun t h => z t (by simp at h; subst h; exact List.mem_cons_self)) fun x q => k x (List.mem_append_left _ q)) (b (fun t h => z t (List.mem_cons_of_mem _ h)) fun x q => k x (List.mem_append_right _ q))
  | fr v => intro _ _; exact .fr v
  | rd v => intro z _; have := z _ List.mem_cons_self; cases this
  | lst ha hb hf _ ih =>
    intro z k
    have zt := z _ List.mem_cons_self
    cases zt with
    | lst zt => exact .lst ha hb (k _ List.mem_cons_self) (ih (fun t h => by rw [List.eq_of_mem_replicate h]; exact zt) fun x q => k x (List.mem_cons_of_mem _ q))
  | tup ha hb hf _ ih =>
    intro z k
    have zt := z _ List.mem_cons_self
    cases zt with
    | tup zt => exact .tup ha hb (k _ List.mem_cons_self) (ih zt fun x q => k x (List.mem_cons_of_mem _ q))
  | dct _ _ _ _ _ => intro z; have := z _ List.mem_cons_self; cases this
  | obj ha hb hf hn _ ih =>
    intro z k
    have zt := z _ List.mem_cons_self
    cases zt with
    | obj zt => exact .obj ha hb (k _ List.mem_cons_self) hn (ih zt fun x q => k x (List.mem_cons_of_mem _ q))
/-- the kinds of arguments meet the parameters' -/
inductive PKs : List T → List T → Prop
  | nil : PKs [] []
  | fr {ts ps : List T} : PKs ts ps → PKs (.fr :: ts) (.fr :: ps)
  | rd {t : T} {ts ps : List T} : PKs ts ps → PKs (t :: ts) (.rd :: ps)
theorem PKs.own {K : PySem.W.Frag} {F Hb H : Hp} (sb : Same Hb H) (sf : Same F H) {ts ps : List T} (h : PKs ts ps) : ∀ {vs : List V} {ds : List D} {f : List Addr}, Own K F Hb H ts vs ds f → Own K H Hb H ps vs ds [] := by
  induction h with
  | nil =>
    intro vs ds f o
    have l := o.len
    have l1 : vs = [] := List.eq_nil_of_length_eq_zero l.1.symm
    subst l1
    have l2 : ds = [] := List.eq_nil_of_length_eq_zero l.2.symm
    subst l2
    exact .nil
  | fr _ ih =>
    intro vs ds f o
    match vs, ds, o with
    | [], _, o => have := o.len; simp at this
    | _ :: _, [], o => have := o.len; simp at this
    | v :: vs, d :: ds, o =>
      obtain ⟨f1, f2, _, a, b⟩ := o.uncons
      cases a.inv with
      | fr x => exact Own.cons (Own.fr x) (ih b)
  | rd _ ih =>
    intro vs ds f o
    match vs, ds, o with
    | [], _, o => have := o.len; simp at this
    | _ :: _, [], o => have := o.len; simp at this
    | v :: vs, d :: ds, o =>
      obtain ⟨f1, f2, _, a, b⟩ := o.uncons
      exact Own.cons (Own.rd (a.vw sb sf)) (ih b)
structure Callee (c : Ctx) (x : Str) (ps : List T) (t : T) (g : List D → Option D) : Prop where
  ex : ∃ (k : Nat) (f : Addr) (fd : FuncData) (nm : List Str), FnOk c.P c.w c.K c.mg c.base CX0 k f fd nm (spF c.K ps t g) ∧ k ≤ c.k ∧ c.mg x = some (.ref f) ∧ PySem.W.keepIn c.K (.ref f) = true ∧ Binds c.K fd nm []
  fz : Fz t
theorem qe_call {x : Str} {a : Expr} {es : List Expr} {f : Env' → Option (List D)} {g : List D → Option D} {ts ps : List T} {t : T} {m : Bool} {p : Pos} (h : Callee c x ps t g) (hg : c.sc.names.lookup x = some .globalImplicit) (ha : QA c Γ (a :: es) f ts m) (hp : PKs ts ps)
    (hdb : (x == ("__debug__" : Str)) = false := by decide) (he : ∀ env : Env, starEach (a :: es) env = (false, eval a env) :: starEach es env := by intro _; rfl) (hpl : ∀ env : Env, (backTo pos (starEach es env)).any (·.1) = false := by intro _; rfl) :
    QE c Γ (.Call (.Name x p) (a :: es) [] pos) (fun ρ => (f ρ).bind g) t true := by
  obtain ⟨k, fa, fd, nm, F, hk, hm, hkp, hb⟩ := h.ex
  obtain ⟨te, h1, h2⟩ := ha.ex
  refine ⟨tCall (spF c.K ps t g) [] E0 te, fun X ok => ?_, fun F0 Hb H σ ρ fp d S e Q q => ?_⟩
  · have F' : FnOk X.prog X.w X.K X.mg X.base CX0 k fa fd nm (spF c.K ps t g) := by rw [ok.prog, ok.w, ok.K, ok.mg, ok.base]; exact F
    exact pe_call F' (ok.room.mono hk) (show X.env.scope.names.lookup x = _ by rw [ok.sc]; exact hg) (by rw [ok.mg]; exact hm) (by rw [ok.K]; exact hkp) (by rw [ok.K]; exact hb) .nil pass0 (h1 X ok) hdb (he _) (hpl _)
  · obtain ⟨ds, e1, e2⟩ := Option.bind_eq_some_iff.mp e
    refine h2 F0 Hb H σ ρ fp ds S e1 _ fun vs Hb1 H1 fv x1 o1 _ => ?_
    rw [List.append_nil]
    have sf1 := S.sf.trans x1.h
    refine ⟨Hb1, ds, d, x1.bh, x1.l S.lk, hp.own x1.bh sf1 o1, e2, fun v Hb2 H2 f2 x2 o2 fr => ?_⟩
    exact q v Hb2 H2 f2 (x1.trans x2) (o2.reF (fun t' ht => by simp at ht; subst ht; exact h.fz) (fr.F sf1)) fun _ => fr.back x1.h
/-- no answer at all -/
theorem fn_none {P : Program} {w : World} {K : PySem.W.Frag} {mg : Str → Option Value} {base : Heap} {k : Nat} {f : Addr} {fd : FuncData} {nm : List Str} {ps : List T} {t : T} : FnOk P w K mg base CX0 k f fd nm (spF K ps t fun _ => none) :=
  by
    refine ⟨fun vs H Q E h => ?_, fun A outer s H args us vs Q E hr he hb hv h => ?_⟩
    · obtain ⟨_, _, _, _, _, _, e, _⟩ := h
      cases e
    · obtain ⟨_, _, _, _, _, _, e, _⟩ := h
      cases e
end
end Vm

/-! VmJ: dicts with ints and texts as keys. -/
namespace Vm
open PySem PySem.Spec PyProof.Rows L2

/-! ### tables of data -/
def dfind (kvs : List (D × D)) (k : D) : Option D := (kvs.find? fun p => eqP p.1 k).map (·.2)
def dput (kvs : List (D × D)) (k v : D) : List (D × D) := if (kvs.any fun p => eqP p.1 k) = true then kvs.map (fun p => if eqP p.1 k = true then (p.1, v) else p) else kvs ++ [(k, v)]
def asK : D → Option Key
  | .int i => some (.inl i)
  | .str x => some (.inr x)
  | _ => none
theorem asK_kD {d : D} {k : Key} (h : asK d = some k) : d = kD k := by
  cases d <;> cases h <;> rfl
theorem asK_V {K : PySem.W.Frag} {H : Hp} {v : V} {d : D} {k : Key} (w : Vw K H [v] [d]) (h : asK d = some k) : v = kV k := by
  cases d <;> cases h <;> cases w.inv <;> rfl
theorem vw_kD {K : PySem.W.Frag} {H : Hp} (k : Key) : Vw K H [kV k] [kD k] := by
  cases k
  · exact .int _
  · exact .str _
theorem eqP_kD (a b : Key) : eqP (kD a) (kD b) = decide (a = b) := by
  cases a with
  | inl i =>
    cases b with
    | inl j => simp [eqP, kD, D.py, PyData.eqv]; rw [Bool.eq_iff_iff]; simp
    | inr y => simp [eqP, kD, D.py, PyData.eqv]
  | inr x =>
    cases b with
    | inl j => simp [eqP, kD, D.py, PyData.eqv]
    | inr y => simp [eqP, kD, D.py, PyData.eqv]; rw [Bool.eq_iff_iff]; simp
abbrev kz (kvs : List (Key × V)) (ds : List D) : List (D × D) := (kvs.map fun p => kD p.1).zip ds
theorem dfind_kz {K : PySem.W.Frag} {H : Hp} (k : Key) : ∀ {kvs : List (Key × V)} {ds : List D}, Vw K H (kvs.map (·.2)) ds → (valV kvs k = none ∧ dfind (kz kvs ds) (kD k) = none) ∨ ∃ v d, valV kvs k = some v ∧ dfind (kz kvs ds) (kD k) = some d ∧ Vw K H [v] [d]
  | [], ds, h => .inl ⟨rfl, by simp [kz, dfind]⟩
  | p :: kvs, [], h => by have := h.len; simp at this
  | p :: kvs, d :: ds, h => by
    have h : Vw K H (p.2 :: kvs.map (·.2)) (d :: ds) := h
    by_cases e : p.1 = k
    · refine .inr ⟨p.2, d, valV_pos e, ?_, h.one.1⟩
      unfold dfind kz
      rw [List.map_cons, List.zip_cons_cons, List.find?_cons, eqP_kD, decide_eq_true e]
      rfl
    · have f : dfind (kz (p :: kvs) (d :: ds)) (kD k) = dfind (kz kvs ds) (kD k) := by
        unfold dfind kz
        rw [List.map_cons, List.zip_cons_cons, List.find?_cons, eqP_kD, decide_eq_false e]
      rw [valV_neg e, f]
      exact dfind_kz k h.one.2
theorem any_kz (k : Key) : ∀ {kvs : List (Key × V)} {ds : List D}, kvs.length = ds.length → ((kz kvs ds).any fun p => eqP p.1 (kD k)) = kvs.any fun kv => decide (kv.1 = k)
  | [], _, _ => by simp [kz]
  | p :: kvs, [], h => by simp at h
  | p :: kvs, d :: ds, h => by
    unfold kz
    rw [List.map_cons, List.zip_cons_cons, List.any_cons, List.any_cons, eqP_kD]
    congr 1
    exact any_kz k (by simpa using h)
theorem dput_kz {K : PySem.W.Frag} {H : Hp} {k : Key} {v : V} {d : D} {kvs : List (Key × V)} {ds : List D} (h : Vw K H (kvs.map (·.2)) ds) (w : Vw K H [v] [d]) : ∃ es, dput (kz kvs ds) (kD k) d = kz (putK kvs k v) es ∧ Vw K H ((putK kvs k v).map (·.2)) es := by
  have hl : kvs.length = ds.length := by have := h.len; simpa using this
  unfold dput putK
  rw [any_kz k hl]
  by_cases e : (kvs.any fun kv => decide (kv.1 = k)) = true
  · rw [if_pos e, if_pos e]
    clear e
    have go : ∀ {kvs : List (Key × V)} {ds : List D}, Vw K H (kvs.map (·.2)) ds → ∃ es, (kz kvs ds).map (fun p => if eqP p.1 (kD k) = true then (p.1, d) else p) = kz (kvs.map fun kv => if kv.1 = k then (kv.1, v) else kv) es ∧ Vw K H ((kvs.map fun kv => if kv.1 = k then (kv.1, v) else kv).map (·.2)) es := by
      intro kvs
      induction kvs with
      | nil => intro ds h; exact ⟨[], by simp [kz], .nil⟩
      | cons p kvs ih =>
        intro ds h
        cases ds with
        | nil => have := h.len; simp at this
        | cons d0 ds =>
          have h : Vw K H (p.2 :: kvs.map (·.2)) (d0 :: ds) := h
          obtain ⟨es, e1, e2⟩ := ih h.one.2
          by_cases e : p.1 = k
          · refine ⟨d :: es, ?_, ?_⟩
            · unfold kz at e1 ⊢
              rw [List.map_cons, List.zip_cons_cons, List.map_cons, List.map_cons, List.map_cons, eqP_kD, decide_eq_true e, if_pos rfl, if_pos e, List.zip_cons_cons, e1]
            · rw [List.map_cons, List.map_cons, if_pos e]
              exact .cons w e2
          · refine ⟨d0 :: es, ?_, ?_⟩
            · unfold kz at e1 ⊢
              rw [List.map_cons, List.zip_cons_cons, List.map_cons, List.map_cons, List.map_cons, eqP_kD, decide_eq_false e, if_neg Bool.false_ne_true, if_neg e, List.zip_cons_cons, e1]
            · rw [List.map_cons, List.map_cons, if_neg e]
              exact .cons h.one.1 e2
    exact go h
  · rw [if_neg e, if_neg e]
    refine ⟨ds ++ [d], ?_, ?_⟩
    · unfold kz
      rw [List.map_append, List.zip_append (by simpa using hl)]
      rfl
    · rw [List.map_append]
      exact h.app w
theorem kz_len {kvs : List (Key × V)} {ds : List D} (h : kvs.length = ds.length) : (kz kvs ds).length = kvs.length := by simp [kz, h]

/-! ### the rules -/
/-- the dict that is seen -/
theorem own_dict {K : PySem.W.Frag} {F Hb H : Hp} {t t' : T} {v : V} {ps : List (D × D)} {f : List Addr} (ht : (t = .fr ∧ t' = .fr) ∨ (t = .rd ∧ t' = .rd) ∨ (t = .dct .fr ∧ t' = .fr)) (sb : Same Hb H) (sf : Same F H) (o : Own K F Hb H [t] [v] [.dct ps] f) :
    ∃ a kvs ds, v = .ref a ∧ Rd H a (.dK kvs) ∧ ps = kz kvs ds ∧ Vw K (if t'.isFr = true then Hb else F) (kvs.map (·.2)) ds := by
  rcases ht with ⟨h, h'⟩ | ⟨h, h'⟩ | ⟨h, h'⟩
  · subst h h'
    cases o.inv with
    | fr x =>
      cases x.inv with
      | dct s y => exact ⟨_, _, _, rfl, same_rd sb s, rfl, by simpa using y⟩
  · subst h h'
    cases o.inv with
    | rd x =>
      cases x.inv with
      | dct s y => exact ⟨_, _, _, rfl, same_rd sf s, rfl, by simpa using y⟩
  · subst h h'
    cases o.inv with
    | dct ha hb hf o' =>
      obtain ⟨_, w⟩ := o'.frs
      exact ⟨_, _, _, rfl, .inl ha, rfl, by simpa using w⟩
def DKind (t t' : T) : Prop := (t = .fr ∧ t' = .fr) ∨ (t = .rd ∧ t' = .rd) ∨ (t = .dct .fr ∧ t' = .fr)
theorem DKind.r {t t' : T} (h : DKind t t') : t' = .fr ∨ t' = .rd := by
  rcases h with ⟨_, h⟩ | ⟨_, h⟩ | ⟨_, h⟩
  · exact .inl h
  · exact .inr h
  · exact .inl h
theorem own_of {K : PySem.W.Frag} {F Hb H : Hp} {t : T} {v : V} {d : D} (ht : t = .fr ∨ t = .rd) (w : Vw K (if t.isFr = true then Hb else F) [v] [d]) : Own K F Hb H [t] [v] [d] [] := by
  rcases ht with e | e
  · subst e; exact .fr (by simpa using w)
  · subst e; exact .rd (by simpa using w)
section
variable {c : Ctx} {G : Gs} {Γ Γ1 Γ2 Γ' : List T} {pos : Pos}
theorem hu1 {X : Cx} (ok : c.Ok X) : X.A.units + 1 < cLine := by have := ok.room.units; omega
theorem qe_dnew {t : T} : QE c Γ (.Dict [] [] pos) (fun _ => some (.dct [])) (.dct t) true := ⟨tDNewK, fun X ok => pe_dnewK, fun F Hb H σ ρ fp d S e Q q => by
  cases e
  intro p hp
  have xn := Ext.new (o := .dK []) S.sb hp
  exact q _ _ _ [p] xn (.dct (kvs := []) (ds := []) upd_same (S.sb.free hp) (S.sf.free hp) .nil) fun _ => ⟨by simp, fun a ha => by
    have : a = p := by simpa using ha
    subst this
    exact hp⟩⟩
/-- d[k] -/
def dgetD (d k : D) : Option D := match d with
  | .dct ps => (asK k).bind fun _ => dfind ps k
  | _ => none
theorem qe_dget {a b : Expr} {fa fb : Env' → Option D} {t t' tb : T} {ma mb m : Bool} (ht : DKind t t') (ha : QE c Γ a fa t ma) (hb : QE c Γ b fb tb mb) (hs : NoSl b := by intro _ _; rfl) : QE c Γ (.Subscript a b pos) (op2 dgetD fa fb) t' m := by
  obtain ⟨ea, eb, h1, h2, h3⟩ := two ha hb
  refine ⟨tDGet ea eb, fun X ok => pe_dget (hu1 ok) (h1 X ok) (h2 X ok) hs, fun F Hb H σ ρ fp d S e Q q => ?_⟩
  obtain ⟨x, y, e1, e2, e3⟩ := op2_some e
  refine h3 F Hb H σ ρ fp x y S e1 e2 (fun v w H2 => ∃ a z, v = .ref a ∧ DGet H2 a w (some z) ∧ Q z H2) fun v w Hb' H' f g x1 o1 o2 sf sb _ _ => ?_
  cases x with
  | dct ps =>
    obtain ⟨k, ek, e4⟩ := Option.bind_eq_some_iff.mp e3
    obtain ⟨l, kvs, ds, ev, hr, ep, wv⟩ := own_dict ht sb sf o1
    subst ep
    have ey := asK_V (o2.vw sb sf) ek
    rw [asK_kD ek] at e4
    rcases dfind_kz k wv with ⟨h5, h6⟩ | ⟨z, d', h5, h6, h7⟩
    · rw [h6] at e4; cases e4
    · rw [h6] at e4
      cases e4
      exact ⟨l, z, ev, .inl ⟨kvs, k, hr, ey, h5.symm⟩, q z Hb' H' [] x1 (own_of ht.r h7) fun _ => .nil⟩
  | _ => cases e3
/-- k in d -/
def dinD (k d : D) : Option D := match d with
  | .dct ps => (asK k).map fun _ => .bl (dfind ps k).isSome
  | _ => none
def dninD (k d : D) : Option D := match d with
  | .dct ps => (asK k).map fun _ => .bl (!(dfind ps k).isSome)
  | _ => none
theorem din_core {a b : Expr} {fa fb : Env' → Option D} {ta t t' : T} {ma mb : Bool} (ht : DKind t t') (ha : QE c Γ a fa ta ma) (hb : QE c Γ b fb t mb) (g : Bool → Bool) : ∃ ea eb : TE, (∀ X, c.Ok X → PE X a ea) ∧ (∀ X, c.Ok X → PE X b eb) ∧
    ∀ F Hb H σ ρ fp x ps k, Sta c.K F Hb H Γ σ ρ fp → fa ρ = some x → fb ρ = some (.dct ps) → asK x = some k → ∀ Q : VK, (∀ Hb' H', Ext Hb H Hb' H' → Q (.bl (g (dfind ps x).isSome)) H') → ea σ H fun y H1 => eb σ H1 fun x H2 => ∃ a o, x = .ref a ∧ DGet H2 a y o ∧ Q (.bl (g o.isSome)) H2 := by
  obtain ⟨ea, eb, h1, h2, h3⟩ := two ha hb
  refine ⟨ea, eb, h1, h2, fun F Hb H σ ρ fp x ps k S e1 e2 ek Q q => ?_⟩
  refine h3 F Hb H σ ρ fp x _ S e1 e2 (fun y x H2 => ∃ a o, x = .ref a ∧ DGet H2 a y o ∧ Q (.bl (g o.isSome)) H2) fun v w Hb' H' f g' x1 o1 o2 sf sb _ _ => ?_
  obtain ⟨l, kvs, ds, ev, hr, ep, wv⟩ := own_dict ht sb sf o2
  subst ep
  have ey := asK_V (o1.vw sb sf) ek
  have q' := q Hb' H' x1
  rw [asK_kD ek] at q'
  rcases dfind_kz k wv with ⟨h5, h6⟩ | ⟨z, d', h5, h6, h7⟩
  · rw [h6] at q'
    exact ⟨l, none, ev, .inl ⟨kvs, k, hr, ey, h5.symm⟩, q'⟩
  · rw [h6] at q'
    exact ⟨l, some z, ev, .inl ⟨kvs, k, hr, ey, h5.symm⟩, q'⟩
theorem qe_din {a b : Expr} {fa fb : Env' → Option D} {ta t t' : T} {ma mb m : Bool} (ht : DKind t t') (ha : QE c Γ a fa ta ma) (hb : QE c Γ b fb t mb) (hm : behindInMarks .In b = false := by first | rfl | with_unfolding_all rfl) : QE c Γ (.Compare a [.In] [b] pos) (op2 dinD fa fb) .fr m := by
  obtain ⟨ea, eb, h1, h2, h3⟩ := din_core ht ha hb id
  refine ⟨tDIn ea eb, fun X ok => pe_cmp (pc_din (hu1 ok) (h1 X ok) (h2 X ok)) hm, fun F Hb H σ ρ fp d S e Q q => ?_⟩
  obtain ⟨x, y, e1, e2, e3⟩ := op2_some e
  cases y with
  | dct ps =>
    obtain ⟨k, ek, ed⟩ := Option.map_eq_some_iff.mp e3
    subst ed
    exact h3 F Hb H σ ρ fp x ps k S e1 e2 ek Q fun Hb' H' x1 => q _ Hb' H' [] x1 (.fr (.bl _)) fun _ => .nil
  | _ => cases e3
theorem qe_dnin {a b : Expr} {fa fb : Env' → Option D} {ta t t' : T} {ma mb m : Bool} (ht : DKind t t') (ha : QE c Γ a fa ta ma) (hb : QE c Γ b fb t mb) (hm : behindInMarks .NotIn b = false := by first | rfl | with_unfolding_all rfl) : QE c Γ (.Compare a [.NotIn] [b] pos) (op2 dninD fa fb) .fr m := by
  obtain ⟨ea, eb, h1, h2, h3⟩ := din_core ht ha hb (!·)
  refine ⟨tDNotIn ea eb, fun X ok => pe_cmp (pc_dnotin (hu1 ok) (h1 X ok) (h2 X ok)) hm, fun F Hb H σ ρ fp d S e Q q => ?_⟩
  obtain ⟨x, y, e1, e2, e3⟩ := op2_some e
  cases y with
  | dct ps =>
    obtain ⟨k, ek, ed⟩ := Option.map_eq_some_iff.mp e3
    subst ed
    exact h3 F Hb H σ ρ fp x ps k S e1 e2 ek Q fun Hb' H' x1 => q _ Hb' H' [] x1 (.fr (.bl _)) fun _ => .nil
  | _ => cases e3
theorem qt_din {a b : Expr} {fa fb : Env' → Option D} {ta t t' : T} {ma mb : Bool} (ht : DKind t t') (ha : QE c Γ a fa ta ma) (hb : QE c Γ b fb t mb) (hm : behindInMarks .In b = false := by first | rfl | with_unfolding_all rfl) : QT c Γ (.Compare a [.In] [b] pos) (fun ρ => (op2 dinD fa fb ρ).bind asB) := by
  obtain ⟨ea, eb, h1, h2, h3⟩ := din_core ht ha hb id
  refine ⟨tB (tDIn ea eb), fun X ok => pt_cmp (pc_din (hu1 ok) (h1 X ok) (h2 X ok)) hm, fun F Hb H σ ρ fp d S e Q q => ?_⟩
  obtain ⟨d0, e, ed0⟩ := Option.bind_eq_some_iff.mp e
  obtain ⟨x, y, e1, e2, e3⟩ := op2_some e
  cases y with
  | dct ps =>
    obtain ⟨k, ek, ed⟩ := Option.map_eq_some_iff.mp e3
    subst ed
    cases ed0
    exact h3 F Hb H σ ρ fp x ps k S e1 e2 ek (fun v H' => ∃ c, v = V.bl c ∧ Q c H') fun Hb' H' x1 => ⟨_, rfl, q Hb' H' x1⟩
  | _ => cases e3
theorem qt_dnin {a b : Expr} {fa fb : Env' → Option D} {ta t t' : T} {ma mb : Bool} (ht : DKind t t') (ha : QE c Γ a fa ta ma) (hb : QE c Γ b fb t mb) (hm : behindInMarks .NotIn b = false := by first | rfl | with_unfolding_all rfl) : QT c Γ (.Compare a [.NotIn] [b] pos) (fun ρ => (op2 dninD fa fb ρ).bind asB) := by
  obtain ⟨ea, eb, h1, h2, h3⟩ := din_core ht ha hb (!·)
  refine ⟨tB (tDNotIn ea eb), fun X ok => pt_cmp (pc_dnotin (hu1 ok) (h1 X ok) (h2 X ok)) hm, fun F Hb H σ ρ fp d S e Q q => ?_⟩
  obtain ⟨d0, e, ed0⟩ := Option.bind_eq_some_iff.mp e
  obtain ⟨x, y, e1, e2, e3⟩ := op2_some e
  cases y with
  | dct ps =>
    obtain ⟨k, ek, ed⟩ := Option.map_eq_some_iff.mp e3
    subst ed
    cases ed0
    exact h3 F Hb H σ ρ fp x ps k S e1 e2 ek (fun v H' => ∃ c, v = V.bl c ∧ Q c H') fun Hb' H' x1 => ⟨_, rfl, q Hb' H' x1⟩
  | _ => cases e3
/-- d.get(k, x), the values shared -/
def dgetOrD (fa fb fc : Env' → Option D) : Env' → Option D := fun ρ => (fa ρ).bind fun d => (fb ρ).bind fun k => (fc ρ).bind fun z => match d with
  | .dct ps => (asK k).map fun _ => (dfind ps k).getD z
  | _ => none
theorem qe_dgetOr {a b e3 : Expr} {fa fb fc : Env' → Option D} {t t' tb : T} {ma mb mc m : Bool} {apos cpos : Pos} (ht : DKind t t') (ha : QE c Γ a fa t ma) (hb : QE c Γ b fb tb mb) (hc : QE c Γ e3 fc t' mc)
    (hbase : ∀ env : Env, attributeBase a "get" env (eval a env) = eval a env := by intro _; rfl)
    (hfew : ∀ env : Env, ((backTo cpos (starEach [b, e3] env)).all (fun x => !x.1) && (backToKw cpos (keywordEach [] env)).all (fun x => x.1.isSome)
    && decide (([b, e3] : List Expr).length + ([] : List Keyword).length + (if ([] : List Keyword).isEmpty then 0 else 1) < 30)) = true := by intro _; rfl)
    (hline : (apos.endLine == cpos.line) = true := by rfl) (htr : ∀ env : Env, backTo cpos (starEach [b, e3] env) = [(false, eval b env), (false, eval e3 env)] := by intro _; rfl) :
    QE c Γ (.Call (.Attribute a "get" apos) [b, e3] [] cpos) (dgetOrD fa fb fc) t' m := by
  obtain ⟨ea, a1, a2⟩ := ha.ex
  obtain ⟨eb, b1, b2⟩ := hb.ex
  obtain ⟨ec, c1, c2⟩ := hc.ex
  refine ⟨tDGet2 ea eb ec, fun X ok => pe_dget2 (hu1 ok) (a1 X ok) (b1 X ok) (c1 X ok) ⟨hbase _, hfew _, hline, htr _⟩, fun F Hb H σ ρ fp d S e Q q => ?_⟩
  obtain ⟨x, e1, e⟩ := Option.bind_eq_some_iff.mp e
  obtain ⟨y, e2, e⟩ := Option.bind_eq_some_iff.mp e
  obtain ⟨z, e3, e⟩ := Option.bind_eq_some_iff.mp e
  cases x with
  | dct ps =>
    obtain ⟨k, ek, ed⟩ := Option.map_eq_some_iff.mp e
    refine a2 F Hb H σ ρ fp _ S e1 _ fun v1 Hb1 H1 f1 x1 o1 _ => ?_
    obtain ⟨l, kvs, ds, ev, hr, ep, wv⟩ := own_dict ht x1.bh (S.sf.trans x1.h) o1
    subst ep
    refine ⟨l, ev, .inl ⟨kvs, hr⟩, ?_⟩
    refine b2 F Hb1 H1 σ ρ fp y (S.ext x1) e2 _ fun v2 Hb2 H2 f2 x2 o2 _ => ?_
    have S2 := (S.ext x1).ext x2
    refine c2 F Hb2 H2 σ ρ fp z S2 e3 _ fun v3 Hb3 H3 f3 x3 o3 _ => ?_
    have sf3 := S2.sf.trans x3.h
    have ey := asK_V ((o2.ext x3).vw x3.bh sf3) ek
    have hr3 : Rd H3 l (.dK kvs) := same_rd (x2.h.trans x3.h) hr
    have wv3 : Vw c.K (if t'.isFr = true then Hb3 else F) (kvs.map (·.2)) ds := by
      rcases ht.r with e | e
      · subst e; simp at wv ⊢; exact wv.mono (x2.b.trans x3.b)
      · subst e; simp at wv ⊢; exact wv
    have x13 := (x1.trans x2).trans x3
    rw [asK_kD ek] at ed
    rcases dfind_kz k wv3 with ⟨h5, h6⟩ | ⟨z', d', h5, h6, h7⟩
    · rw [h6] at ed
      have ed : z = d := ed
      subst ed
      refine ⟨none, .inl ⟨kvs, k, hr3, ey, h5.symm⟩, q v3 Hb3 H3 [] x13 ?_ fun _ => .nil⟩
      rcases ht.r with e | e
      · subst e
        cases o3.inv with
        | fr x => exact .fr x
      · subst e
        cases o3.inv with
        | rd x => exact .rd x
    · rw [h6] at ed
      have ed : d' = d := ed
      subst ed
      exact ⟨some z', .inl ⟨kvs, k, hr3, ey, h5.symm⟩, q z' Hb3 H3 [] x13 (own_of ht.r h7) fun _ => .nil⟩
  | _ => cases e
/-! a dict that a slot owns -/
theorem lk_new {Hb : Hp} {l : Addr} {od : Obj} {u : HO} (hb : Hb l = none) (h : Lkd Hb) : Lkd (upd Hb l (.frz od u)) := fun a kvs e => by
  by_cases q : a = l
  · subst q; rw [upd_same] at e; cases e
  · rw [upd_ne q] at e; exact h a kvs e
theorem Sta.dctAt {K : PySem.W.Frag} {F Hb H : Hp} {Γ : List T} {σ : L2.St} {ρ : Env'} {fp : List Addr} (S : Sta K F Hb H Γ σ ρ fp) {i : Nat} (hi : Γ[i]? = some (.dct .fr)) :
    ∃ (l : Addr) (kvs : List (Key × V)) (ds : List D) (g : List Addr), σ[i]? = some (some (.ref l)) ∧ getV i ρ = some (.dct (kz kvs ds)) ∧ H l = some (.dK kvs) ∧ Vw K Hb (kvs.map (·.2)) ds ∧ (∀ a, a ∈ fp ↔ a = l ∨ a ∈ g) ∧ l ∉ g ∧ Hb l = none ∧ F l = none ∧
      (∀ kvs' ds', Vw K Hb (kvs'.map (·.2)) ds' → ∃ gp, Sta K F Hb (upd H l (.dK kvs')) Γ σ (setV i (.dct (kz kvs' ds')) ρ) gp) ∧
      ∀ od, ∃ gp, Sta K F (upd Hb l (.frz od (.dK kvs))) (upd H l (.frz od (.dK kvs))) (Γ.set i .fr) σ ρ gp := by
  obtain ⟨v, d, f0, g, h1, h2, h3, h4, h5, h6⟩ := S.ow.out hi (fun e => nomatch e)
  have nd := List.nodup_append.mp (h5 S.nd)
  have hn : i < Γ.length := by
    by_cases hc : i < Γ.length
    · exact hc
    · rw [List.getElem?_eq_none (by omega)] at hi; cases hi
  cases h3.inv with
  | @dct t l kvs ds f ha hb hf o =>
    obtain ⟨ef, w⟩ := o.frs
    subst ef
    have lg : l ∉ g := fun z => nd.2.2 l List.mem_cons_self l z rfl
    refine ⟨l, kvs, ds, g, h1, getV_some h2, ha, w, fun a => by rw [h6 a]; simp, lg, hb, hf, fun kvs' ds' w' => ?_, fun od => ?_⟩
    · have o1 := (h4 (some (.ref l)) (some (.dct (kz kvs' ds')))).frame (Hb' := Hb) (H' := upd H l (.dK kvs')) (.refl _) (fun a ha => upd_ne fun z => lg (z ▸ ha)) (fun _ _ => rfl)
      have o2 : Own K F Hb (upd H l (.dK kvs')) [.dct .fr] [.ref l] [.dct (kz kvs' ds')] [l] := .dct upd_same hb hf (Own.ofFrs w')
      obtain ⟨gp, o3, n3, m3⟩ := o1.put (i := i) (by rw [List.getElem?_set_self hn]) o2
      simp only [List.set_set] at o3
      rw [set_same hi, set_same h1] at o3
      refine ⟨gp, ⟨o3, n3 (List.nodup_append.mpr ⟨by simp, nd.2.1, fun a ha b hq q => ?_⟩), fun a o q => ?_, fun a o q => ?_, S.lk⟩⟩
      · subst q
        have : a = l := by simpa using ha
        subst this
        exact lg hq
      · have : a ≠ l := fun z => by rw [z, hb] at q; cases q
        rw [upd_ne this]; exact S.sb a o q
      · have : a ≠ l := fun z => by rw [z, hf] at q; cases q
        rw [upd_ne this]; exact S.sf a o q
    · have sb2 : Same Hb (upd Hb l (.frz od (.dK kvs))) := same_new hb
      have o1 := (h4 (some (.ref l)) (some (.dct (kz kvs ds)))).frame (Hb' := upd Hb l (.frz od (.dK kvs))) (H' := upd H l (.frz od (.dK kvs))) sb2 (fun a ha => upd_ne fun z => lg (z ▸ ha)) (fun a ha => upd_ne fun z => lg (z ▸ ha))
      have o2 : Own K F (upd Hb l (.frz od (.dK kvs))) (upd H l (.frz od (.dK kvs))) [.fr] [.ref l] [.dct (kz kvs ds)] [] := .fr (.dct (.inr ⟨od, upd_same⟩) (w.mono sb2))
      obtain ⟨gp, o3, n3, m3⟩ := o1.put (i := i) (by rw [List.getElem?_set_self hn]) o2
      simp only [List.set_set] at o3
      rw [set_same h1, set_same h2] at o3
      refine ⟨gp, ⟨o3, n3 (by simpa using nd.2.1), same_cons l _ S.sb, fun a o q => ?_, lk_new hb S.lk⟩⟩
      have : a ≠ l := fun z => by rw [z, hf] at q; cases q
      rw [upd_ne this]; exact S.sf a o q
/-- d[k] = e, d a slot's own -/
def dctV (i : Nat) (ρ : Env') : Option (List (D × D)) := (getV i ρ).bind fun d => match d with | .dct ps => some ps | _ => none
theorem dctV_of {i : Nat} {ρ : Env'} {ps : List (D × D)} (h : getV i ρ = some (.dct ps)) : dctV i ρ = some ps := by
  unfold dctV
  rw [h]
  rfl
def dputS (i : Nat) (f : Env' → Option (D × Env')) (g : Env' → Option D) : Env' → Option (Out × Env') := fun ρ => (f ρ).bind fun r => (g r.2).bind fun k => (asK k).bind fun _ => (dctV i r.2).bind fun ps => if ps.length < sL then some (.nx, setV i (.dct (dput ps k r.1)) r.2) else none
theorem ss_dput {x : Str} {i : Nat} {a b : Expr} {f : Env' → Option (D × Env')} {g : Env' → Option D} {tb : T} {mb : Bool} {px p1 : Pos} (hN : c.N[i]? = some x) (hv : Vis c.sc x) (ha : EE c Γ a f .fr Γ1) (hi : Γ1[i]? = some (.dct .fr)) (hb : QE c Γ1 b g tb mb)
    (hd : (x == ("__debug__" : Str)) = false := by decide) (hcd : (x == ("__classdict__" : Str)) = false := by decide)
    (hs : ∀ env : Env, swapsWith a (some (.Subscript (.Name x px) b p1)) pos.line env = pure false := by intro _; rfl) :
    SS c G Γ (.Assign [.Subscript (.Name x px) b p1] a pos) (dputS i f g) Γ1 := by
  obtain ⟨te, a1, a2⟩ := ha.ex
  obtain ⟨ti, b1, b2⟩ := hb.ex
  refine ⟨sDPut (tVar i) ti te, fun X ok => ps_dput (hu1 ok) (pe_var (by rw [ok.N]; exact hN) (by rw [ok.sc]; exact hv) hd hcd) (b1 X ok) (a1 X ok) (hs _), fun F Hb H σ ρ fp o ρ' S e E k => ?_⟩
  obtain ⟨⟨y, ρ1⟩, e1, e⟩ := Option.bind_eq_some_iff.mp e
  obtain ⟨j, e2, e⟩ := Option.bind_eq_some_iff.mp e
  obtain ⟨kk, e3, e⟩ := Option.bind_eq_some_iff.mp e
  obtain ⟨ps, e4, e⟩ := Option.bind_eq_some_iff.mp e
  refine a2 F Hb H σ ρ fp y ρ1 S e1 _ fun v Hb1 H1 fp1 fv ev S1 ow nd ap => ?_
  obtain ⟨l0, _, _, _, hσ, _⟩ := S1.dctAt hi
  refine ⟨.ref l0, hσ, ?_⟩
  refine b2 F Hb1 H1 σ ρ1 fp1 j S1 e2 _ fun w Hb2 H2 f2 x2 o2 _ => ?_
  obtain ⟨l, kvs, ds, g', hσ', hg', hl', wv, _, _, _, _, k', _⟩ := (S1.ext x2).dctAt hi
  rw [hσ] at hσ'
  cases hσ'
  have e4 : dctV i ρ1 = some ps := e4
  rw [dctV_of hg'] at e4
  cases e4
  have ll : kvs.length = ds.length := by have := wv.len; simpa using this
  by_cases hz : (kz kvs ds).length < sL
  · rw [if_pos hz] at e
    cases e
    have ey := asK_V (o2.vw x2.bh (S1.sf.trans x2.h)) e3
    cases ow.inv with
    | fr wy =>
      obtain ⟨es, e5, e6⟩ := dput_kz (k := kk) wv (wy.mono x2.b)
      obtain ⟨gp, S3⟩ := k' _ es e6
      refine ⟨l0, _, rfl, .inl ⟨kvs, kk, hl', ey, by rw [kz_len ll] at hz; rw [sizeLine_eq]; exact hz, rfl⟩, ?_⟩
      have ej := asK_kD e3
      subst ej
      have k2 := k Hb2 (upd H2 l0 (.dK (putK kvs kk v))) σ gp (ev.trans (x2.evo S1.sf))
      rw [e5] at k2
      exact k2 S3 .refl
  · rw [if_neg hz] at e; cases e
/-- ahead of the rest: a slot's dict is shared (and locked) -/
theorem sss_lock {sts : List Stmt} {f : Env' → Option (Out × Env')} {i : Nat} (hi : Γ[i]? = some (.dct .fr)) (a : SSs c G (Γ.set i .fr) sts f Γ2) : SSs c G Γ sts f Γ2 := by
  obtain ⟨t, h1, h2⟩ := a.ex
  refine ⟨fun D σ H => ∃ d u, H d = some u ∧ Mut (some u) ∧ ∀ od, t D σ (upd H d (.frz od u)), fun X ok => ⟨fun pins s σ H D I h => ?_⟩, fun F Hb H σ ρ fp o ρ' S e E k => ?_⟩
  · obtain ⟨d, u, hd, mu, h⟩ := h
    obtain ⟨od, I2⟩ := I.lock hd mu
    exact (h1 X ok).run pins s σ _ D I2 (h od)
  · obtain ⟨l, kvs, ds, g, hσ, hg, hl, wv, m, lg, hb, hf, _, k'⟩ := S.dctAt hi
    refine ⟨l, .dK kvs, hl, trivial, fun od => ?_⟩
    obtain ⟨gp, S2⟩ := k' od
    refine h2 F _ _ σ ρ gp o ρ' S2 e E (k.later ⟨same_new hb, fun a n => ?_, lk_new hb⟩ .refl)
    have : a ≠ l := fun z => n (z ▸ hf)
    rw [upd_ne this]
/-- the keys of a dict that is locked -/
def keysD : D → Option (List D)
  | .dct ps => some (ps.map (·.1))
  | _ => none
theorem qi_keys {tg it : Expr} {f : Env' → Option D} {m : Bool} (h : QE c Γ it f .fr m) : QI c Γ tg it (fun ρ => (f ρ).bind keysD) .fr := by
  obtain ⟨te, h1, h2⟩ := h.ex
  refine ⟨iKeys te, fun X ok => pi_keys (h1 X ok), fun F Hb H σ ρ fp ds S e R q => ?_⟩
  obtain ⟨d, e1, e2⟩ := Option.bind_eq_some_iff.mp e
  cases d with
  | dct ps =>
    cases e2
    refine h2 F Hb H σ ρ fp _ S e1 _ fun v Hb1 H1 f1 x1 o1 _ => ?_
    cases o1.inv with
    | fr w =>
      cases w.inv with
      | @dct a kvs ds s y =>
        rcases s with s | ⟨o, s⟩
        · exact absurd s (x1.l S.lk a kvs)
        · have ll : kvs.length = ds.length := by have := y.len; simpa using this
          refine ⟨a, o, rfl, .inl ⟨kvs, x1.bh _ _ s, q _ Hb1 H1 x1 ⟨fun i Hb2 H2 b1 b2 b3 hi => ⟨b2 _ _ (b1 _ _ s), by simpa [ll] using hi⟩, fun i Hb2 H2 b1 b2 b3 hi => ⟨b2 _ _ (b1 _ _ s), by simpa [ll] using hi⟩, fun i Hb2 H2 x H' d b1 b2 b3 hd hy => ?_⟩⟩⟩
          obtain ⟨e, k, v, e1, e2⟩ := hy
          subst e e2
          have hd2 : ((kvs.map fun p => kD p.1).zip ds).map (·.1) = kvs.map fun p => kD p.1 := List.map_fst_zip (by simp [ll])
          have hd : (kvs.map fun p => kD p.1)[i]? = some d := by rw [← hd2]; exact hd
          rw [List.getElem?_map, e1] at hd
          cases hd
          exact ⟨Hb2, .refl b2, .fr (vw_kD k)⟩
  | _ => cases e2
end
end Vm

/-! VmK: extend, moving out of a tuple, defs by FunD, callees by levels. -/
namespace Vm
open PySem PySem.Spec PyProof.Rows L2
theorem Own.cat {K : PySem.W.Frag} {F Hb H : Hp} {t : T} {us : List V} {es : List D} {g : List Addr} (o2 : Own K F Hb H (List.replicate es.length t) us es g) : ∀ {vs : List V} {ds : List D} {f : List Addr}, Own K F Hb H (List.replicate ds.length t) vs ds f → Own K F Hb H (List.replicate (ds ++ es).length t) (vs ++ us) (ds ++ es) (f ++ g)
  | [], [], f, h => by
    have := h.nil_inv rfl
    subst this
    exact o2
  | [], _ :: _, f, h => by have := h.len; simp at this
  | _ :: _, [], f, h => by have := h.len; simp at this
  | v :: vs, d :: ds, f, h => by
    obtain ⟨f1, f2, e, a, b⟩ := h.uncons
    subst e
    rw [List.append_assoc]
    exact .cons a (Own.cat o2 b)
section
variable {c : Ctx} {G : Gs} {Γ Γ1 Γ2 Γ' : List T} {pos : Pos}
def extS (i : Nat) (f : Env' → Option (D × Env')) : Env' → Option (D × Env') := fun ρ => (f ρ).bind fun r => (lstV i r.2).bind fun ds => match r.1 with
  | .lst es => if ds.length + es.length ≤ sL then some (.non, setV i (.lst (ds ++ es)) r.2) else none
  | _ => none
theorem ee_extend {x : Str} {i : Nat} {a : Expr} {f : Env' → Option (D × Env')} {t t0 : T} {px apos cpos : Pos} (hN : c.N[i]? = some x) (hv : Vis c.sc x) (h0 : Γ[i]? = some (.lst t0)) (ha : EE c Γ a f (.lst t) Γ1) (hi : Γ1[i]? = some (.lst t))
    (hd : (x == ("__debug__" : Str)) = false := by decide) (hcd : (x == ("__classdict__" : Str)) = false := by decide)
    (hbase : ∀ env : Env, attributeBase (.Name x px) "extend" env (eval (.Name x px) env) = eval (.Name x px) env := by intro _; rfl)
    (hfew : ∀ env : Env, ((backTo cpos (starEach [a] env)).all (fun x => !x.1) && (backToKw cpos (keywordEach [] env)).all (fun x => x.1.isSome)
      && decide ([a].length + ([] : List Keyword).length + (if ([] : List Keyword).isEmpty then 0 else 1) < 30)) = true := by intro _; rfl)
    (hline : (apos.endLine == cpos.line) = true := by rfl) (hs : ∀ env : Env, starEach [a] env = (false, eval a env) :: starEach [] env := by intro _; rfl) : EE c Γ (.Call (.Attribute (.Name x px) "extend" apos) [a] [] cpos) (extS i f) .fr Γ1 := by
  obtain ⟨te, h1, h2⟩ := ha.ex
  refine ⟨tBM c.K "list" rExtend (tVar i) (tCons te tNil), fun X ok => ?_, fun F Hb H σ ρ fp d ρ' S e Q q => ?_⟩
  · rw [← ok.K]
    exact pe_bm PySem.F.plainAttrs_list PySem.F.slot_list_extend PySem.F.type_list_extend mt_extend (pe_var (by rw [ok.N]; exact hN) (by rw [ok.sc]; exact hv) hd hcd) (pa_cons (h1 X ok) pa_nil (hs _)) (hbase _) (hfew _) hline (hs _) (by rfl)
  · obtain ⟨⟨y, ρ1⟩, e1, e2⟩ := Option.bind_eq_some_iff.mp e
    obtain ⟨l, vs, ds, _, _, hσ, _, hl, _⟩ := S.lstAt h0
    refine ⟨.ref l, hσ, .inl ⟨rfl, vs, .of hl⟩, ?_⟩
    refine h2 F Hb H σ ρ fp y ρ1 S e1 _ fun v Hb1 H1 fp1 fv ev S1 o nd ap => ?_
    obtain ⟨l', vs', ds', f', g', hσ', hg', hl', o', m', nf, lf, lg, fg, k'⟩ := S1.lstAt hi
    rw [hσ] at hσ'
    cases hσ'
    rw [show lstV i (y, ρ1).2 = some ds' from lstV_of hg'] at e2
    cases o.inv with
    | @lst _ b us es fz hb hbb hbf oz =>
    have e2 : (if ds'.length + es.length ≤ sL then some (D.non, setV i (.lst (ds' ++ es)) ρ1) else none) = some (d, ρ') := e2
    by_cases hz : ds'.length + es.length ≤ sL
    · rw [if_pos hz] at e2
      cases e2
      have nd2 := List.nodup_cons.mp nd
      have apf : ∀ a ∈ fz, a ∉ f' ∧ a ∉ g' ∧ a ≠ l := fun a ha => ⟨fun z => ap a (List.mem_cons_of_mem _ ha) ((m' a).mpr (.inr (.inl z))), fun z => ap a (List.mem_cons_of_mem _ ha) ((m' a).mpr (.inr (.inr z))), fun z => ap a (List.mem_cons_of_mem _ ha) ((m' a).mpr (.inl z))⟩
      obtain ⟨gp, S2, m2⟩ := k' (vs' ++ us) (ds' ++ es) (f' ++ fz) (Own.cat oz o') (List.nodup_append.mpr ⟨nf, nd2.2, fun a ha b hb q => (apf b hb).1 (q ▸ ha)⟩) (fun a ha => by
        rcases List.mem_append.mp ha with h | h
        · exact ⟨fg a h, fun z => lf (z ▸ h)⟩
        · exact (apf a h).2)
      refine ⟨l, b, vs', us, rfl, rfl, hl', hb, ?_, q .non Hb1 _ gp [] ev S2 (.fr .non) List.nodup_nil (fun a h => by simp at h)⟩
      rw [o'.len.2, oz.len.2, sizeLine_eq]; exact hz
    · rw [if_neg hz] at e2; cases e2
/-! a thing is moved out of an owned tuple; the tuple is not used again -/
def mvT (i n : Nat) : Env' → Option (D × Env') := fun ρ => ((getV i ρ).bind fun d => match d with | .tup ds => ds[n]? | _ => none).map fun d => (d, ρ)
theorem Sta.mv {K : PySem.W.Frag} {F Hb H : Hp} {σ : L2.St} {ρ : Env'} {fp : List Addr} (S : Sta K F Hb H Γ σ ρ fp) {i : Nat} {t : T} (ht : Γ[i]? = some t) (ha : t ≠ .any) : ∃ v d f g, σ[i]? = some (some v) ∧ getV i ρ = some d ∧ Own K F Hb H [t] [v] [d] f ∧ f.Nodup ∧ (∀ a ∈ f, a ∉ g) ∧ Sta K F Hb H (Γ.set i .any) σ ρ g := by
  obtain ⟨v, d', f, g, h1, h2, h3, h4, h5, h6⟩ := S.ow.out ht ha
  have nd := List.nodup_append.mp (h5 S.nd)
  have o1 := h4 (some v) (some d')
  rw [set_same h1, set_same h2] at o1
  exact ⟨v, d', f, g, h1, getV_some h2, h3, nd.1, fun a ha hg => nd.2.2 a ha a hg rfl, ⟨o1, nd.2.1, S.sb, S.sf, S.lk⟩⟩
theorem ee_mvT {x : Str} {i n j : Nat} {ts : List T} {t : T} {p1 p2 : Pos} (hN : c.N[i]? = some x) (hv : Vis c.sc x) (ht : Γ[i]? = some (.tup ts)) (hn : ts[n]? = some t) (hd : (x == ("__debug__" : Str)) = false := by decide) (hcd : (x == ("__classdict__" : Str)) = false := by decide) :
    EE c Γ (.Subscript (.Name x p1) (.Constant (.int (n : Int)) j p2) pos) (mvT i n) t (Γ.set i .any) := by
  refine ⟨tOp (rIx c.K) (tVar i) (tC (.int (n : Int))), fun X ok => ?_, fun F Hb H σ ρ fp d ρ' S e Q q => ?_⟩
  · rw [← ok.K]
    exact pe_ix (ix_seq (X := X)) (pe_var (by rw [ok.N]; exact hN) (by rw [ok.sc]; exact hv) hd hcd) pe_int (by intro _ _; rfl)
  · obtain ⟨v, dv, f, g, h1, h2, o, nd, ap, S2⟩ := S.mv ht (fun z => nomatch z)
    obtain ⟨d1, e1, e2⟩ := Option.map_eq_some_iff.mp e
    cases e2
    rw [h2] at e1
    cases o.inv with
    | @tup _ a vs ds f hl hb hf oz =>
      have e1 : ds[n]? = some d := e1
      obtain ⟨z, gz, hz, oo, hs, hnd⟩ := oz.atT e1 hn
      have nd2 := List.nodup_cons.mp nd
      exact ⟨.ref a, h1, .inr (.inl ⟨a, vs, n, z, rfl, rfl, .of hl, atI_nat hz, q z Hb H g gz .refl S2 oo (hnd nd2.2) fun b hb => ap b (List.mem_cons_of_mem _ (hs b hb))⟩)⟩
end
/-! ### defs and their callers -/
abbrev FnP (K : PySem.W.Frag) (x : Str) (st : Stmt) (f : Addr) (fd : FuncData) : Prop := FunD K x x (defArgs st) (defBody st) (defScope st) [] [] f fd
/-- the module's name x stands for the def st -/
def DefAt (K : PySem.W.Frag) (mg : Str → Option Value) (x : Str) (st : Stmt) : Prop := ∃ f fd, FnP K x st f fd ∧ mg x = some (.ref f)
structure Fx (P : Program) (w : World) (K : PySem.W.Frag) (mg : Str → Option Value) (base : Heap) (lvl : Nat) (x : Str) (ps : List T) (t : T) (g : List D → Option D) : Prop where
  ex : ∃ (f : Addr) (fd : FuncData) (nm : List Str), FnOk P w K mg base CX0 lvl f fd nm (spF K ps t g) ∧ mg x = some (.ref f) ∧ PySem.W.keepIn K (.ref f) = true ∧ Binds K fd nm []
  fz : Fz t
section
variable {P : Program} {w : World} {K : PySem.W.Frag} {mg : Str → Option Value} {base : Heap}
theorem fn_core {x : Str} {st : Stmt} {f : Addr} {fd : FuncData} {N ps : List Str} {k : Nat} {pk : List T} {t : T} {falls : Bool} {fb : Env' → Option (Out × Env')} {Γe : List T}
    (F : FnP K x st f fd) (S : FnScope N ps (defScope st)) (hl : pk.length = ps.length) (hf : falls = false ∨ t = .fr)
    (hb : SSs (fnCtx P w K mg base N (defScope st) k) (fnGs t N.length) (parT pk N.length) (defBody st) fb Γe) : FnOk P w K mg base CX0 (k + 1) f fd ps (spF K pk t (runF N.length falls fb)) := by
  refine F.ok S (fun vs H Q E h => ?_) (fun cdv A outer s H vs Q E hr h => ?_)
  · obtain ⟨Hb, ds, d, _, _, o, _⟩ := h
    rw [← o.len.1, hl]
  · obtain ⟨Hb, ds, d, sb, lk, o, er, q⟩ := h
    obtain ⟨ts, h1, h2⟩ := hb.ex
    refine ⟨ts, PSs.nox (h1 _ ⟨rfl, rfl, rfl, rfl, rfl, rfl, rfl, rfl, rfl, hr, rfl, S.nd⟩), ?_⟩
    obtain ⟨⟨out, ρ'⟩, e1, e2⟩ := Option.bind_eq_some_iff.mp er
    have lv : vs.length = pk.length := o.len.1.symm
    have ld : ds.length = pk.length := o.len.2.symm.trans lv
    have S0 : Sta K H Hb H (parT pk N.length) (L2.start N vs) (ds.map some ++ List.replicate (N.length - ds.length) none) [] := by
      refine ⟨?_, List.nodup_nil, sb, .refl _, lk⟩
      unfold parT L2.start
      rw [lv, ld]
      exact ow_start o
    refine h2 H Hb H _ _ [] out ρ' S0 e1 _ ?_
    cases out with
    | rt d' =>
      cases e2
      intro Hb' H' σ' fp' v fv ev S2 _ ow nd _
      exact q v Hb' H' fv ⟨S2.sf, ev.1, S2.sb, ev.2.1, ev.2.2⟩ ow ⟨nd, fun a ha => (ow.apart a ha).2.2⟩
    | nx =>
      have e2 : (if falls = true then some D.non else none) = some d := e2
      cases falls with
      | false => rw [if_neg Bool.false_ne_true] at e2; cases e2
      | true =>
        rw [if_pos rfl] at e2
        cases e2
        intro Hb' H' σ' fp' ev S2 _
        rcases hf with h | h
        · cases h
        · subst h
          exact q .non Hb' H' [] ⟨S2.sf, ev.1, S2.sb, ev.2.1, ev.2.2⟩ (.fr .non) .nil
    | bk => cases e2
    | ct => cases e2
theorem fx_of {x : Str} {st : Stmt} {N ps : List Str} {k : Nat} {pk : List T} {t : T} {falls : Bool} {fb : Env' → Option (Out × Env')} {Γe : List T}
    (A : DefAt K mg x st) (S : FnScope N ps (defScope st)) (hl : pk.length = ps.length) (hf : falls = false ∨ t = .fr) (z : Fz t)
    (hbd : ∀ (kV doc pm : Value) (an : Option Addr) (cdv ct : Value) (us : List Value), us.length = ps.length → bindArgs (PySem.W.fnOf x x (defArgs st) (defBody st) (defScope st) .none kV doc pm an cdv ct) ⟨us, []⟩ = pure (ps.zip us))
    (hb : SSs (fnCtx P w K mg base N (defScope st) k) (fnGs t N.length) (parT pk N.length) (defBody st) fb Γe) : Fx P w K mg base (k + 1) x pk t (runF N.length falls fb) := by
  obtain ⟨f, fd, F, hm⟩ := A
  exact ⟨⟨f, fd, ps, fn_core F S hl hf hb, hm, F.kp, F.bindsN hbd⟩, z⟩
theorem fx_none {x : Str} {st : Stmt} {ps : List Str} {k : Nat} {pk : List T} {t : T} (A : DefAt K mg x st) (z : Fz t)
    (hbd : ∀ (kV doc pm : Value) (an : Option Addr) (cdv ct : Value) (us : List Value), us.length = ps.length → bindArgs (PySem.W.fnOf x x (defArgs st) (defBody st) (defScope st) .none kV doc pm an cdv ct) ⟨us, []⟩ = pure (ps.zip us)) : Fx P w K mg base k x pk t (fun _ => none) := by
  obtain ⟨f, fd, F, hm⟩ := A
  exact ⟨⟨f, fd, ps, fn_none, hm, F.kp, F.bindsN hbd⟩, z⟩
end
section
variable {c : Ctx} {Γ : List T} {pos : Pos}
theorem Fx.at {lvl : Nat} {x : Str} {ps : List T} {t : T} {g : List D → Option D} (h : Fx c.P c.w c.K c.mg c.base lvl x ps t g) (hk : lvl ≤ c.k) : Callee c x ps t g := by
  obtain ⟨f, fd, nm, a, b, d, e⟩ := h.ex
  exact ⟨⟨lvl, f, fd, nm, a, hk, b, d, e⟩, h.fz⟩
abbrev apA (f : Env' → Option (List D)) (g : List D → Option D) : Env' → Option D := fun ρ => (f ρ).bind g
theorem qe_fx {lvl : Nat} {x : Str} {a : Expr} {es : List Expr} {f : Env' → Option (List D)} {g : List D → Option D} {ts ps : List T} {t : T} {p : Pos} (h : Fx c.P c.w c.K c.mg c.base lvl x ps t g) (hk : lvl ≤ c.k) (hg : c.sc.names.lookup x = some .globalImplicit) (ha : QA c Γ (a :: es) f ts true) (hp : PKs ts ps)
    (hdb : (x == ("__debug__" : Str)) = false := by decide) (he : ∀ env : Env, starEach (a :: es) env = (false, eval a env) :: starEach es env := by intro _; rfl) (hpl : ∀ env : Env, (backTo pos (starEach es env)).any (·.1) = false := by intro _; rfl) :
    QE c Γ (.Call (.Name x p) (a :: es) [] pos) (apA f g) t true := qe_call (h.at hk) hg ha hp hdb he hpl
end
theorem Wk.refl : ∀ Γ : List T, Wk Γ Γ
  | [] => .nil
  | _ :: Γ => .keep (Wk.refl Γ)
theorem Wk.anys : ∀ Γ : List T, Wk Γ (List.replicate Γ.length .any)
  | [] => .nil
  | _ :: Γ => .any (Wk.anys Γ)
theorem Wk.an {Γ : List T} {n : Nat} (h : Γ.length = n) : Wk Γ (List.replicate n .any) := h ▸ Wk.anys Γ
/-- the law's def, from its Fx: the script is data -/
theorem vw_ints {K : PySem.W.Frag} {H : Hp} : ∀ ns : List Int, Vw K H (ns.map V.int) (ns.map D.int)
  | [] => .nil
  | n :: ns => .cons (.int n) (vw_ints ns)
theorem law_sp {K : PySem.W.Frag} {H : Hp} {a : Addr} {ns : List Int} {g : List D → Option D} (ho : Only H) (hs : SqL K H a (ns.map V.int)) (hg : g [.lst (ns.map .int)] = some (.bl true)) :
    spF K [.fr] .fr g [.ref a] H (fun v _ => v = .bl true) fun _ _ _ => False := by
  refine ⟨H, [.lst (ns.map .int)], .bl true, .refl _, fun a kvs e => ?_, .fr (.lst hs (vw_ints ns)), hg, fun v Hb' H' fv x o _ => ?_⟩
  · rcases ho a with h | ⟨o, xs, h⟩ <;> rw [h] at e <;> cases e
  · cases o.inv with
    | fr w => cases w.inv; rfl
end Vm

/-! VmL: the rules in short, as the printer writes them. -/
namespace Vm
open PySem PySem.Spec PyProof.Rows L2
section
variable {c : Ctx} {G : Gs} {Γ Γ1 Γ2 Γ' : List T} {pos : Pos}
theorem vF {x : Str} {i : Nat} (hN : c.N[i]? = some x) (hv : Vis c.sc x) (ht : Γ[i]? = some .fr) (hd : (x == ("__debug__" : Str)) = false := by decide) (hcd : (x == ("__classdict__" : Str)) = false := by decide) : QE c Γ (.Name x pos) (getV i) .fr true := qe_var hN hv ht (.inl (.inl rfl)) hd hcd
theorem vR {x : Str} {i : Nat} (hN : c.N[i]? = some x) (hv : Vis c.sc x) (ht : Γ[i]? = some .rd) (hd : (x == ("__debug__" : Str)) = false := by decide) (hcd : (x == ("__classdict__" : Str)) = false := by decide) : QE c Γ (.Name x pos) (getV i) .rd true := qe_var hN hv ht (.inl (.inr rfl)) hd hcd
theorem vO {x : Str} {i : Nat} {t : T} (hN : c.N[i]? = some x) (hv : Vis c.sc x) (ht : Γ[i]? = some t) (ha : t ≠ .any) (hd : (x == ("__debug__" : Str)) = false := by decide) (hcd : (x == ("__classdict__" : Str)) = false := by decide) : QE c Γ (.Name x pos) (getV i) t false := qe_var hN hv ht (.inr ⟨rfl, ha⟩) hd hcd
abbrev kD' (d : D) : Env' → Option D := fun _ => some d
theorem cI {n : Int} {j : Nat} : QE c Γ (.Constant (.int n) j pos) (kD' (.int n)) .fr true := qe_int
theorem cB {n : Bool} {j : Nat} : QE c Γ (.Constant (.bool n) j pos) (kD' (.bl n)) .fr true := qe_bl
theorem cN {j : Nat} : QE c Γ (.Constant .none j pos) (kD' .non) .fr true := qe_non
theorem cS {n : Str} {j : Nat} : QE c Γ (.Constant (.str n) j pos) (kD' (.str n)) .fr true := qe_str
theorem oP {a b : Expr} {fa fb : Env' → Option D} {ta tb : T} {ma mb : Bool} {op : Operator} {g : D → D → Option D} (ho : OpS c (binaryOp op) g) (ha : QE c Γ a fa ta ma) (hb : QE c Γ b fb tb mb) : QE c Γ (.BinOp a op b pos) (op2 g fa fb) .fr true := qe_op ho ha hb
theorem cP {a b : Expr} {fa fb : Env' → Option D} {ta tb : T} {ma mb : Bool} {op : CmpOp} {g : D → D → Option D} (ho : OpS c (compareOp op) g) (ha : QE c Γ a fa ta ma) (hb : QE c Γ b fb tb mb) (hm : behindInMarks op b = false := by first | exact nomark _ | rfl | with_unfolding_all rfl) : QE c Γ (.Compare a [op] [b] pos) (op2 g fa fb) .fr true := qe_cmp ho ha hb hm
abbrev tB (f : Env' → Option D) : Env' → Option Bool := fun ρ => (f ρ).bind asB
abbrev tV (f : Env' → Option D) : Env' → Option Bool := fun ρ => (f ρ).bind truF
abbrev tN (f : Env' → Option Bool) : Env' → Option Bool := fun ρ => (f ρ).map (!·)
abbrev notV (f : Env' → Option D) : Env' → Option D := fun ρ => ((f ρ).bind asB).map fun k => D.bl (!k)
abbrev ch3V (g g' : D → D → Option D) (fa fb fc : Env' → Option D) : Env' → Option D := fun ρ => (ch3 g g' fa fb fc ρ).map D.bl
abbrev itF (f : Env' → Option D) : Env' → Option (List D) := fun ρ => (f ρ).bind itD
abbrev rnF (f : Env' → Option (List D)) (g : List D → Option (List D)) : Env' → Option (List D) := fun ρ => (f ρ).bind g
abbrev trueT : Env' → Option Bool := fun _ => some true
abbrev noI : Env' → Option (Option Int) := fun _ => some none
abbrev soI (f : Env' → Option D) : Env' → Option (Option Int) := fun ρ => ((f ρ).bind asI).map some
abbrev newDct : Env' → Option D := fun _ => some (.dct [])
theorem fzn : ∀ t ∈ ([] : List T), Fz t := fun _ h => by simp at h
theorem fzc {t : T} {ts : List T} (h : Fz t) (r : ∀ u ∈ ts, Fz u) : ∀ u ∈ t :: ts, Fz u := fun u hu => by
  rcases List.mem_cons.mp hu with e | e
  · exact e ▸ h
  · exact r u e
end
end Vm

/-! VmM: more short forms. -/
namespace Vm
open PySem PySem.Spec PyProof.Rows L2
section
variable {c : Ctx} {Γ : List T} {pos : Pos}
theorem qe_fxO {lvl : Nat} {x : Str} {a : Expr} {es : List Expr} {f : Env' → Option (List D)} {g : List D → Option D} {ts ps : List T} {t : T} {p : Pos} (h : Fx c.P c.w c.K c.mg c.base lvl x ps t g) (hk : lvl ≤ c.k) (hg : c.sc.names.lookup x = some .globalImplicit) (ha : QA c Γ (a :: es) f ts false) (hp : PKs ts ps)
    (hdb : (x == ("__debug__" : Str)) = false := by decide) (he : ∀ env : Env, starEach (a :: es) env = (false, eval a env) :: starEach es env := by intro _; rfl) (hpl : ∀ env : Env, (backTo pos (starEach es env)).any (·.1) = false := by intro _; rfl) :
    QE c Γ (.Call (.Name x p) (a :: es) [] pos) (apA f g) t true := qe_call (h.at hk) hg ha hp hdb he hpl
abbrev kyF (f : Env' → Option D) : Env' → Option (List D) := fun ρ => (f ρ).bind keysD
end
theorem lv_add {a b n : Nat} (h : a ≤ b) : a ≤ b + n := Nat.le_trans h (Nat.le_add_right b n)
theorem bt_len : bootBuiltins "len" = some (.builtin "len") := by decide +kernel
theorem bt_abs : bootBuiltins "abs" = some (.builtin "abs") := by decide +kernel
theorem bt_ord : bootBuiltins "ord" = some (.builtin "ord") := by decide +kernel
theorem bt_sum : bootBuiltins "sum" = some (.builtin "sum") := by decide +kernel
theorem bt_max : bootBuiltins "max" = some (.builtin "max") := by decide +kernel
theorem bt_min : bootBuiltins "min" = some (.builtin "min") := by decide +kernel
theorem bt_any : bootBuiltins "any" = some (.builtin "any") := by decide +kernel
theorem bt_all : bootBuiltins "all" = some (.builtin "all") := by decide +kernel
theorem bt_sorted : bootBuiltins "sorted" = some (.builtin "sorted") := by decide +kernel
theorem bt_int : bootBuiltins "int" = some (.type "int") := by decide +kernel
theorem bt_str : bootBuiltins "str" = some (.type "str") := by decide +kernel
theorem bt_bool : bootBuiltins "bool" = some (.type "bool") := by decide +kernel
theorem bt_list : bootBuiltins "list" = some (.type "list") := by decide +kernel
theorem bt_tuple : bootBuiltins "tuple" = some (.type "tuple") := by decide +kernel
end Vm

/-! VmP: the mirrors' own plain laws: how they are run. -/
namespace Vm
open PySem PySem.Spec PyProof.Rows L2
theorem nr {α : Sort _} {a b : α} (h : a = b) : a = b := h
/-! one step of a run, strict: no function stands under a binder -/
def bindS (o : Option (Out × Env')) (G : Env' → Option (Out × Env')) : Option (Out × Env') := o.bind fun r => match r.1 with
  | .nx => G r.2
  | o => some (o, r.2)
def liftV (o : Option D) (ρ : Env') : Option (D × Env') := o.map fun d => (d, ρ)
def mvTV (o : Option D) (n : Nat) (ρ : Env') : Option (D × Env') := (o.bind fun d => match d with | .tup ds => ds[n]? | _ => none).map fun d => (d, ρ)
def expV (o : Option (D × Env')) : Option (Out × Env') := o.map fun r => (.nx, r.2)
def retV (o : Option (D × Env')) : Option (Out × Env') := o.map fun r => (.rt r.1, r.2)
def setSV (i : Nat) (o : Option (D × Env')) : Option (Out × Env') := o.map fun r => (.nx, setV i r.1 r.2)
def asgV (k : D → Env' → Option Env') (o : Option (D × Env')) : Option (Out × Env') := o.bind fun r => (k r.1 r.2).map fun ρ' => (.nx, ρ')
def iteS {α : Type} (o : Option Bool) (F G : Env' → Option α) (ρ : Env') : Option α := o.bind fun b => if b = true then F ρ else G ρ
def forSV (o : Option (List D)) (k : D → Env' → Option Env') (F : Env' → Option (Out × Env')) (ρ : Env') : Option (Out × Env') := o.bind fun ds => forM k F ds ρ
def op2V (k : D → D → Option D) (a b : Option D) : Option D := a.bind fun x => b.bind fun y => k x y
def andBV (o : Option Bool) (u : Env' → Option Bool) (ρ : Env') : Option Bool := o.bind fun k => if k = true then u ρ else some false
def orBV (o : Option Bool) (u : Env' → Option Bool) (ρ : Env') : Option Bool := o.bind fun k => if k = true then some true else u ρ
def andVV (o : Option D) (u : Env' → Option D) (ρ : Env') : Option D := (o.bind asB).bind fun k => if k = true then u ρ else some (.bl false)
def orVV (o : Option D) (u : Env' → Option D) (ρ : Env') : Option D := (o.bind asB).bind fun k => if k = true then some (.bl true) else u ρ
def ch3W (k k' : D → D → Option D) (a b : Option D) (h : Env' → Option D) (ρ : Env') : Option Bool := a.bind fun x => b.bind fun y => ((k x y).bind asB).bind fun b => if b = true then (h ρ).bind fun z => (k' y z).bind asB else some false
def ch3X (k : Option D) (k' : D → D → Option D) (y : D) (h : Env' → Option D) (ρ : Env') : Option Bool := (k.bind asB).bind fun b => if b = true then (h ρ).bind fun z => (k' y z).bind asB else some false
def ch3Y (k' : D → D → Option D) (y : D) (o : Option D) : Option Bool := o.bind fun z => (k' y z).bind asB
def blV (o : Option Bool) : Option D := o.map D.bl
def notB (o : Option Bool) : Option Bool := o.map (!·)
def asBV (o : Option D) : Option Bool := o.bind asB
def truV (o : Option D) : Option Bool := o.bind truF
def consV (o : Option D) (q : Option (List D)) : Option (List D) := o.bind fun x => q.map (x :: ·)
def tupV (q : Option (List D)) : Option D := q.bind fun ds => if ds.length ≤ sL then some (.tup ds) else none
def lstVV (q : Option (List D)) : Option D := q.bind fun ds => if ds.length ≤ sL then some (.lst ds) else none
def apV {α β : Type} (o : Option α) (g : α → Option β) : Option β := o.bind g
def slV (k : D → Option Int → Option Int → Option D) (a : Option D) (l h : Option (Option Int)) : Option D := a.bind fun d => l.bind fun l => h.bind fun h => k d l h
def soV (o : Option D) : Option (Option Int) := (o.bind asI).map some
def isiV (s : String) (o : Option D) : Option D := o.bind fun d => (tyN d).bind fun k => (kitB k s).map D.bl
def gOrD (d k z : D) : Option D := match d with
  | .dct ps => (asK k).map fun _ => (dfind ps k).getD z
  | _ => none
def gOrV (a b e : Option D) : Option D := a.bind fun d => b.bind fun k => e.bind fun z => gOrD d k z
def appV (i : Nat) (o : Option (D × Env')) : Option (D × Env') := o.bind fun r => (lstV i r.2).bind fun ds => if ds.length < sL then some (.non, setV i (.lst (ds ++ [r.1])) r.2) else none
def appW (i : Nat) (d : D) (ρ : Env') (o : Option D) : Option (D × Env') := o.bind fun x => match x with
  | .lst ds => if ds.length < sL then some (.non, setV i (.lst (ds ++ [d])) ρ) else none
  | _ => none
def extV (i : Nat) (o : Option (D × Env')) : Option (D × Env') := o.bind fun r => (lstV i r.2).bind fun ds => match r.1 with
  | .lst es => if ds.length + es.length ≤ sL then some (.non, setV i (.lst (ds ++ es)) r.2) else none
  | _ => none
def extW (i : Nat) (d : D) (ρ : Env') (o : Option D) : Option (D × Env') := o.bind fun x => match x, d with
  | .lst ds, .lst es => if ds.length + es.length ≤ sL then some (.non, setV i (.lst (ds ++ es)) ρ) else none
  | _, _ => none
def putV (i : Nat) (o : Option (D × Env')) (f : Env' → Option D) : Option (Out × Env') := o.bind fun r => ((f r.2).bind asI).bind fun n => (lstV i r.2).bind fun ds => (ixN ds.length n).map fun k => (.nx, setV i (.lst (ds.set k r.1)) r.2)
def putW (i : Nat) (d : D) (ρ : Env') (n x : Option D) : Option (Out × Env') := n.bind fun n => x.bind fun x => match x, n with
  | .lst ds, .int n => (ixN ds.length n).map fun k => (.nx, setV i (.lst (ds.set k d)) ρ)
  | _, _ => none
def dputV (i : Nat) (o : Option (D × Env')) (f : Env' → Option D) : Option (Out × Env') := o.bind fun r => (f r.2).bind fun k => (asK k).bind fun _ => (dctV i r.2).bind fun ps => if ps.length < sL then some (.nx, setV i (.dct (dput ps k r.1)) r.2) else none
def dputW (i : Nat) (d : D) (ρ : Env') (n x : Option D) : Option (Out × Env') := n.bind fun k => (asK k).bind fun _ => x.bind fun x => match x with
  | .dct ps => if ps.length < sL then some (.nx, setV i (.dct (dput ps k d)) ρ) else none
  | _ => none
def lcV (o : Option (List D)) (k : D → Env' → Option Env') (t : Env' → Option Bool) (f : Env' → Option D) (ρ : Env') : Option D := o.bind fun ds => if ds.length ≤ sL then (fmM (turn1 k t f ρ) ds).map D.lst else none
def gV (o : Option Env') (q : Env' → Option Env') : Option Env' := o.bind q
def gsV (k : Option Env') (q : List D → Env' → Option Env') (ds : List D) : Option Env' := k.bind (q ds)
def t1V (o : Option Env') (t : Env' → Option Bool) (f : Env' → Option D) : Option (Option D) := o.bind fun ρ1 => (t ρ1).bind fun b => if b = true then (f ρ1).map some else some none
def t1W (o : Option Bool) (f : Env' → Option D) (ρ : Env') : Option (Option D) := o.bind fun b => if b = true then (f ρ).map some else some none
def smV (o : Option D) : Option (Option D) := o.map some
section
variable (f g h : Env' → Option D) (F G H : Env' → Option (Out × Env')) (t u : Env' → Option Bool) (ρ : Env') (i n : Nat) (d : D) (fl fh : Env' → Option (Option Int)) (q : Env' → Option (List D)) (k k' : D → D → Option D) (e : Env' → Option (D × Env')) (tg : D → Env' → Option Env')
@[simp] theorem p_getV0 {o : Option D} : getV 0 (o :: ρ) = o := by cases o <;> rfl
@[simp] theorem p_getVs {o : Option D} : getV (i + 1) (o :: ρ) = getV i ρ := nr rfl
@[simp] theorem p_setV0 {o : Option D} : setV 0 d (o :: ρ) = some d :: ρ := nr rfl
@[simp] theorem p_setVs {o : Option D} : setV (i + 1) d (o :: ρ) = o :: setV i d ρ := nr rfl
@[simp] theorem p_nilS : nilS ρ = some (.nx, ρ) := nr rfl
@[simp] theorem p_brkS : brkS ρ = some (.bk, ρ) := nr rfl
@[simp] theorem p_conS : conS ρ = some (.ct, ρ) := nr rfl
@[simp] theorem p_retN : retN ρ = some (.rt .non, ρ) := nr rfl
@[simp] theorem p_seqS : seqS F G ρ = bindS (F ρ) G := nr rfl
@[simp] theorem p_bindS1 : bindS (some (.nx, ρ)) G = G ρ := nr rfl
@[simp] theorem p_bindS2 : bindS (some (.rt d, ρ)) G = some (.rt d, ρ) := nr rfl
@[simp] theorem p_bindS3 : bindS (some (.bk, ρ)) G = some (.bk, ρ) := nr rfl
@[simp] theorem p_bindS4 : bindS (some (.ct, ρ)) G = some (.ct, ρ) := nr rfl
@[simp] theorem p_liftQ : liftQ f ρ = liftV (f ρ) ρ := nr rfl
@[simp] theorem p_liftV : liftV (some d) ρ = some (d, ρ) := nr rfl
@[simp] theorem p_mvV : mvV i ρ = liftV (getV i ρ) ρ := nr rfl
@[simp] theorem p_mvT : mvT i n ρ = mvTV (getV i ρ) n ρ := nr rfl
@[simp] theorem p_mvTV (ds : List D) : mvTV (some (.tup ds)) n ρ = liftV ds[n]? ρ := nr rfl
@[simp] theorem p_expS : expS e ρ = expV (e ρ) := nr rfl
@[simp] theorem p_expV : expV (some (d, ρ)) = some (.nx, ρ) := nr rfl
@[simp] theorem p_retS : retS e ρ = retV (e ρ) := nr rfl
@[simp] theorem p_retV : retV (some (d, ρ)) = some (.rt d, ρ) := nr rfl
@[simp] theorem p_setS : setS i e ρ = setSV i (e ρ) := nr rfl
@[simp] theorem p_setSV : setSV i (some (d, ρ)) = some (.nx, setV i d ρ) := nr rfl
@[simp] theorem p_asgS : asgS tg e ρ = asgV tg (e ρ) := nr rfl
@[simp] theorem p_asgV : asgV tg (some (d, ρ)) = (tg d ρ).map fun ρ' => (.nx, ρ') := nr rfl
@[simp] theorem p_ifS : ifS t F G ρ = iteS (t ρ) F G ρ := nr rfl
@[simp] theorem p_iteT {α : Type} (F G : Env' → Option α) : iteS (some true) F G ρ = F ρ := nr rfl
@[simp] theorem p_iteF {α : Type} (F G : Env' → Option α) : iteS (some false) F G ρ = G ρ := nr rfl
@[simp] theorem p_forS (fi : Env' → Option (List D)) : forS fi tg F ρ = forSV (fi ρ) tg F ρ := nr rfl
@[simp] theorem p_forSV (ds : List D) : forSV (some ds) tg F ρ = forM tg F ds ρ := nr rfl
@[simp] theorem p_op2 : op2 k f g ρ = op2V k (f ρ) (g ρ) := nr rfl
@[simp] theorem p_op2V (x y : D) : op2V k (some x) (some y) = k x y := nr rfl
@[simp] theorem p_ifD : ifD t f g ρ = iteS (t ρ) f g ρ := nr rfl
@[simp] theorem p_andB : andB t u ρ = andBV (t ρ) u ρ := nr rfl
@[simp] theorem p_andBT : andBV (some true) u ρ = u ρ := nr rfl
@[simp] theorem p_andBF : andBV (some false) u ρ = some false := nr rfl
@[simp] theorem p_orB : orB t u ρ = orBV (t ρ) u ρ := nr rfl
@[simp] theorem p_orBT : orBV (some true) u ρ = some true := nr rfl
@[simp] theorem p_orBF : orBV (some false) u ρ = u ρ := nr rfl
@[simp] theorem p_andV : andV f g ρ = andVV (f ρ) g ρ := nr rfl
@[simp] theorem p_andVT : andVV (some (.bl true)) g ρ = g ρ := nr rfl
@[simp] theorem p_andVF : andVV (some (.bl false)) g ρ = some (.bl false) := nr rfl
@[simp] theorem p_orV : orV f g ρ = orVV (f ρ) g ρ := nr rfl
@[simp] theorem p_orVT : orVV (some (.bl true)) g ρ = some (.bl true) := nr rfl
@[simp] theorem p_orVF : orVV (some (.bl false)) g ρ = g ρ := nr rfl
@[simp] theorem p_ch3 : ch3 k k' f g h ρ = ch3W k k' (f ρ) (g ρ) h ρ := nr rfl
@[simp] theorem p_ch3W (x y : D) : ch3W k k' (some x) (some y) h ρ = ch3X (k x y) k' y h ρ := nr rfl
@[simp] theorem p_ch3XT (y : D) : ch3X (some (.bl true)) k' y h ρ = ch3Y k' y (h ρ) := nr rfl
@[simp] theorem p_ch3XF (y : D) : ch3X (some (.bl false)) k' y h ρ = some false := nr rfl
@[simp] theorem p_ch3Y (y z : D) : ch3Y k' y (some z) = asBV (k' y z) := nr rfl
theorem p_ch3b (y : D) (b : Bool) (r : Bool) (hr : ch3Y k' y (h ρ) = some r) : ch3X (some (.bl b)) k' y h ρ = some (b && r) := by
  cases b
  · rfl
  · exact hr
@[simp] theorem p_ch3V : ch3V k k' f g h ρ = blV (ch3 k k' f g h ρ) := nr rfl
@[simp] theorem p_blV (b : Bool) : blV (some b) = some (.bl b) := nr rfl
@[simp] theorem p_tB : tB f ρ = asBV (f ρ) := nr rfl
@[simp] theorem p_asBV (b : Bool) : asBV (some (.bl b)) = some b := nr rfl
@[simp] theorem p_tV : tV f ρ = truV (f ρ) := nr rfl
@[simp] theorem p_truV : truV (some d) = truF d := nr rfl
@[simp] theorem p_tN : tN t ρ = notB (t ρ) := nr rfl
@[simp] theorem p_notB (b : Bool) : notB (some b) = some (!b) := nr rfl
@[simp] theorem p_notV : notV f ρ = blV (notB (asBV (f ρ))) := by
  show ((f ρ).bind asB).map (fun k => D.bl (!k)) = (((f ρ).bind asB).map (!·)).map D.bl
  cases (f ρ).bind asB <;> rfl
@[simp] theorem p_kD : kD' d ρ = some d := nr rfl
@[simp] theorem p_nilA : nilA ρ = some [] := nr rfl
@[simp] theorem p_consA : consA f q ρ = consV (f ρ) (q ρ) := nr rfl
@[simp] theorem p_consV (ds : List D) : consV (some d) (some ds) = some (d :: ds) := nr rfl
@[simp] theorem p_tupD : tupD q ρ = tupV (q ρ) := nr rfl
@[simp] theorem p_lstD : lstD q ρ = lstVV (q ρ) := nr rfl
@[simp] theorem p_tupV (ds : List D) (hl : ds.length ≤ sL) : tupV (some ds) = some (.tup ds) := if_pos hl
@[simp] theorem p_lstVV (ds : List D) (hl : ds.length ≤ sL) : lstVV (some ds) = some (.lst ds) := if_pos hl
@[simp] theorem p_apA (g : List D → Option D) : apA q g ρ = apV (q ρ) g := nr rfl
@[simp] theorem p_apV {α β : Type} (x : α) (g : α → Option β) : apV (some x) g = g x := nr rfl
@[simp] theorem p_itF : itF f ρ = apV (f ρ) itD := nr rfl
@[simp] theorem p_kyF : kyF f ρ = apV (f ρ) keysD := nr rfl
@[simp] theorem p_rnF (g : List D → Option (List D)) : rnF q g ρ = apV (q ρ) g := nr rfl
@[simp] theorem p_trueT : trueT ρ = some true := nr rfl
@[simp] theorem p_noI : noI ρ = some none := nr rfl
@[simp] theorem p_soI : soI f ρ = soV (f ρ) := nr rfl
@[simp] theorem p_soV (j : Int) : soV (some (.int j)) = some (some j) := nr rfl
@[simp] theorem p_newDct : newDct ρ = some (.dct []) := nr rfl
@[simp] theorem p_negD : negD f ρ = apV (f ρ) fun d => match d with | .int i => some (.int (-i)) | _ => none := nr rfl
@[simp] theorem p_revD : revD f ρ = apV (f ρ) fun d => match d with | .lst ds => some (.lst ds.reverse) | _ => none := nr rfl
@[simp] theorem p_isiD (s : String) : isiD s f ρ = isiV s (f ρ) := nr rfl
theorem p_isiV (s : String) {k : String} {b : Bool} (h1 : tyN d = some k) (h2 : kitB k s = some b) : isiV s (some d) = some (.bl b) := by
  unfold isiV
  rw [Option.bind_some, h1, Option.bind_some, h2]
  rfl
@[simp] theorem p_sl3 (k : D → Option Int → Option Int → Option D) : sl3 k f fl fh ρ = slV k (f ρ) (fl ρ) (fh ρ) := nr rfl
@[simp] theorem p_slV (k : D → Option Int → Option Int → Option D) (l h : Option Int) : slV k (some d) (some l) (some h) = k d l h := nr rfl
@[simp] theorem p_dgetOrD : dgetOrD f g h ρ = gOrV (f ρ) (g ρ) (h ρ) := nr rfl
@[simp] theorem p_gOrV (x y z : D) : gOrV (some x) (some y) (some z) = gOrD x y z := nr rfl
@[simp] theorem p_gSet : gSet i d ρ = some (setV i d ρ) := nr rfl
@[simp] theorem p_gsNil : gsNil [] ρ = some ρ := nr rfl
@[simp] theorem p_gsCons (l : List D → Env' → Option Env') (ds : List D) : gsCons tg l (d :: ds) ρ = gsV (tg d ρ) l ds := nr rfl
@[simp] theorem p_gsV (l : List D → Env' → Option Env') (ds : List D) : gsV (some ρ) l ds = l ds ρ := nr rfl
@[simp] theorem p_gUnpT (l : List D → Env' → Option Env') (ds : List D) : gUnp n l (.tup ds) ρ = if ds.length = n then l ds ρ else none := by
  unfold gUnp unpD
  by_cases h : ds.length = n <;> simp [h]
@[simp] theorem p_gUnpL (l : List D → Env' → Option Env') (ds : List D) : gUnp n l (.lst ds) ρ = if ds.length = n then l ds ρ else none := by
  unfold gUnp unpD
  by_cases h : ds.length = n <;> simp [h]
@[simp] theorem p_appS : appS i e ρ = appV i (e ρ) := nr rfl
@[simp] theorem p_appV : appV i (some (d, ρ)) = appW i d ρ (getV i ρ) := by
  show (((getV i ρ).bind _).bind _) = (getV i ρ).bind _
  cases getV i ρ with
  | none => rfl
  | some x => cases x <;> rfl
@[simp] theorem p_appW (ds : List D) (hl : ds.length < sL) : appW i d ρ (some (.lst ds)) = some (.non, setV i (.lst (ds ++ [d])) ρ) := if_pos hl
@[simp] theorem p_extS : extS i e ρ = extV i (e ρ) := nr rfl
@[simp] theorem p_extV : extV i (some (d, ρ)) = extW i d ρ (getV i ρ) := by
  show (((getV i ρ).bind _).bind _) = (getV i ρ).bind _
  cases getV i ρ with
  | none => rfl
  | some x => cases x <;> cases d <;> rfl
@[simp] theorem p_extW (ds es : List D) (hl : ds.length + es.length ≤ sL) : extW i (.lst es) ρ (some (.lst ds)) = some (.non, setV i (.lst (ds ++ es)) ρ) := if_pos hl
theorem p_popS (ds : List D) (hg : getV i ρ = some (.lst (ds ++ [d]))) : popS i ρ = some (d, setV i (.lst ds) ρ) := by
  unfold popS lstV
  rw [hg]
  simp
@[simp] theorem p_putS : putS i e f ρ = putV i (e ρ) f := nr rfl
@[simp] theorem p_putV : putV i (some (d, ρ)) f = putW i d ρ (f ρ) (getV i ρ) := by
  show ((f ρ).bind asI).bind _ = (f ρ).bind _
  cases f ρ with
  | none => rfl
  | some n =>
    show (asI n).bind _ = (getV i ρ).bind _
    show (asI n).bind (fun n => ((getV i ρ).bind _).bind _) = (getV i ρ).bind _
    cases getV i ρ with
    | none => cases n <;> rfl
    | some x => cases n <;> cases x <;> rfl
theorem p_putW (ds : List D) (j : Int) (n : Nat) (hn : ixN ds.length j = some n) : putW i d ρ (some (.int j)) (some (.lst ds)) = some (.nx, setV i (.lst (ds.set n d)) ρ) := by
  show (ixN ds.length j).map _ = _
  rw [hn]
  rfl
@[simp] theorem p_dputS : dputS i e f ρ = dputV i (e ρ) f := nr rfl
@[simp] theorem p_dputV : dputV i (some (d, ρ)) f = dputW i d ρ (f ρ) (getV i ρ) := by
  show (f ρ).bind _ = (f ρ).bind _
  cases f ρ with
  | none => rfl
  | some n =>
    show (asK n).bind _ = (asK n).bind _
    cases asK n with
    | none => rfl
    | some z =>
      show ((getV i ρ).bind _).bind _ = (getV i ρ).bind _
      cases getV i ρ with
      | none => rfl
      | some x => cases x <;> rfl
@[simp] theorem p_dputWs (ds : List (D × D)) (x : Str) (hl : ds.length < sL) : dputW i d ρ (some (.str x)) (some (.dct ds)) = some (.nx, setV i (.dct (dput ds (.str x) d)) ρ) := if_pos hl
@[simp] theorem p_dputWi (ds : List (D × D)) (x : Int) (hl : ds.length < sL) : dputW i d ρ (some (.int x)) (some (.dct ds)) = some (.nx, setV i (.dct (dput ds (.int x) d)) ρ) := if_pos hl
@[simp] theorem p_lcD (fi : Env' → Option (List D)) : lcD fi tg t f ρ = lcV (fi ρ) tg t f ρ := nr rfl
theorem p_lcV {ds es : List D} (hl : ds.length ≤ sL) (hf : fmM (turn1 tg t f ρ) ds = some es) : lcV (some ds) tg t f ρ = some (.lst es) := by
  unfold lcV
  rw [Option.bind_some, if_pos hl, hf]
  rfl
@[simp] theorem p_turn1 : turn1 tg t f ρ d = t1V (tg d ρ) t f := nr rfl
@[simp] theorem p_t1V : t1V (some ρ) t f = t1W (t ρ) f ρ := nr rfl
@[simp] theorem p_t1WT : t1W (some true) f ρ = smV (f ρ) := nr rfl
@[simp] theorem p_t1WF : t1W (some false) f ρ = some none := nr rfl
@[simp] theorem p_smV : smV (some d) = some (some d) := nr rfl
@[simp] theorem p_sL : (sL : Nat) = 16777216 := Eq.symm (Eq.symm rfl)
end
/-! things -/
section
variable (i j : Int) (x y : Str) (ds es : List D) (b : Bool)
@[simp] theorem p_addI : addD (.int i) (.int j) = some (.int (i + j)) := nr rfl
@[simp] theorem p_subI : subD (.int i) (.int j) = some (.int (i - j)) := nr rfl
theorem p_mul (h : mulOk i j = true) : mulD (.int i) (.int j) = some (.int (i * j)) := if_pos h
theorem p_mulR (h : -(2 ^ 64) < j) (h2 : j < 2 ^ 64) : mulD (.int i) (.int j) = some (.int (i * j)) := p_mul i j (by
  unfold mulOk
  rw [decide_eq_true h, decide_eq_true h2]
  simp)
theorem p_mulL (h : -(2 ^ 64) < i) (h2 : i < 2 ^ 64) : mulD (.int i) (.int j) = some (.int (i * j)) := p_mul i j (by
  unfold mulOk
  rw [decide_eq_true h, decide_eq_true h2]
  simp)
theorem p_mod (h : 0 < j) : modD (.int i) (.int j) = some (.int (i % j)) := by
  show (if decide (0 < j) = true then _ else _) = _
  rw [if_pos (decide_eq_true h)]
theorem p_fdiv (h : 0 < j) (h2 : j < 1073741824) : fdivD (.int i) (.int j) = some (.int (i / j)) := by
  show (if (decide (0 < j) && decide (j < 1073741824)) = true then _ else _) = _
  rw [decide_eq_true h, decide_eq_true h2]
  rfl
@[simp] theorem p_ltI : ltD (.int i) (.int j) = some (.bl (decide (i < j))) := nr rfl
@[simp] theorem p_leI : leD (.int i) (.int j) = some (.bl (decide (i ≤ j))) := nr rfl
@[simp] theorem p_gtI : gtD (.int i) (.int j) = some (.bl (decide (j < i))) := nr rfl
@[simp] theorem p_geI : geD (.int i) (.int j) = some (.bl (decide (j ≤ i))) := nr rfl
@[simp] theorem p_isN (d : D) : isD d .non = some (.bl (isN d)) := nr rfl
@[simp] theorem p_isntN (d : D) : isntD d .non = some (.bl (!isN d)) := nr rfl
@[simp] theorem p_isN1 : isN .non = true := nr rfl
@[simp] theorem p_isN2 : isN (.int i) = false := nr rfl
@[simp] theorem p_isN3 : isN (.str x) = false := nr rfl
@[simp] theorem p_isN4 : isN (.tup ds) = false := nr rfl
@[simp] theorem p_isN5 : isN (.lst ds) = false := nr rfl
@[simp] theorem p_isN6 : isN (.bl b) = false := nr rfl
@[simp] theorem p_asB : asB (.bl b) = some b := nr rfl
@[simp] theorem p_asI : asI (.int i) = some i := nr rfl
@[simp] theorem p_len1 : lenD [.lst ds] = some (.int ds.length) := nr rfl
@[simp] theorem p_len2 : lenD [.tup ds] = some (.int ds.length) := nr rfl
theorem p_len3 (h : x.length ≤ sL) : lenD [.str x] = some (.int x.length) := if_pos h
@[simp] theorem p_int1 : intD [.int i] = some (.int i) := nr rfl
@[simp] theorem p_max2 : max2D [.int i, .int j] = some (.int (max i j)) := by
  show some (D.int (if j > i then j else i)) = _
  by_cases h : j > i
  · rw [if_pos h, Int.max_eq_right (by omega)]
  · rw [if_neg h, Int.max_eq_left (by omega)]
@[simp] theorem p_min2 : min2D [.int i, .int j] = some (.int (min i j)) := by
  show some (D.int (if j < i then j else i)) = _
  by_cases h : j < i
  · rw [if_pos h, Int.min_eq_right (by omega)]
  · rw [if_neg h, Int.min_eq_left (by omega)]
@[simp] theorem p_list1 : listD [.lst ds] = some (.lst ds) := nr rfl
@[simp] theorem p_list2 : listD [.tup ds] = some (.lst ds) := nr rfl
@[simp] theorem p_tuple1 : tupleD [.lst ds] = some (.tup ds) := nr rfl
@[simp] theorem p_tuple2 : tupleD [.tup ds] = some (.tup ds) := nr rfl
@[simp] theorem p_truB : truF (.bl b) = some b := nr rfl
@[simp] theorem p_truN : truF .non = some false := nr rfl
@[simp] theorem p_truI : truF (.int i) = some (i != 0) := nr rfl
@[simp] theorem p_truL : truF (.lst ds) = some (!ds.isEmpty) := nr rfl
@[simp] theorem p_truT : truF (.tup ds) = some (!ds.isEmpty) := nr rfl
@[simp] theorem p_it1 : itD (.lst ds) = some ds := nr rfl
@[simp] theorem p_it2 : itD (.tup ds) = some ds := nr rfl
@[simp] theorem p_ix1 : ixD (.lst ds) (.int i) = atI ds i := nr rfl
@[simp] theorem p_ix2 : ixD (.tup ds) (.int i) = atI ds i := nr rfl
@[simp] theorem p_rng1 (h : b62 j = true) : rng1 [.int j] = some (ups 0 j.toNat) := if_pos h
@[simp] theorem p_rng2 (h : b62 i = true) (h2 : b62 j = true) : rng2 [.int i, .int j] = some (ups i (j - i).toNat) := by
  show (if (b62 i && b62 j) = true then some (ups i (j - i).toNat) else none) = _
  rw [h, h2]
  rfl
theorem b62_of (h : -(2 ^ 62) ≤ i) (h2 : i < 2 ^ 62) : b62 i = true := by
  unfold b62
  rw [decide_eq_true h, decide_eq_true h2]
  rfl
@[simp] theorem p_slL (l h : Option Int) : slcL (.lst ds) l h = some (.lst (cutD ds l h)) := nr rfl
@[simp] theorem p_slT (l h : Option Int) : slcF (.tup ds) l h = some (.tup (cutD ds l h)) := nr rfl
theorem atI_nn {α : Type} {xs : List α} {n : Nat} {v : α} (h : xs[n]? = some v) : atI xs (n : Int) = some v := atI_nat h
theorem atI_int {α : Type} {xs : List α} {i : Int} {v : α} (h0 : 0 ≤ i) (h : xs[i.toNat]? = some v) : atI xs i = some v := by
  have := atI_nn h
  rw [Int.toNat_of_nonneg h0] at this
  exact this
@[simp] theorem atI_lit0 {α : Type} {x : α} {xs : List α} : atI (x :: xs) 0 = some x := atI_nn (n := 0) rfl
@[simp] theorem atI_lit1 {α : Type} {x y : α} {xs : List α} : atI (x :: y :: xs) 1 = some y := atI_nn (n := 1) rfl
@[simp] theorem atI_lit2 {α : Type} {x y z : α} {xs : List α} : atI (x :: y :: z :: xs) 2 = some z := atI_nn (n := 2) rfl
@[simp] theorem atI_lit3 {α : Type} {x y z w : α} {xs : List α} : atI (x :: y :: z :: w :: xs) 3 = some w := atI_nn (n := 3) rfl
theorem ups_get {lo : Int} {n k : Nat} {d : D} (h : (ups lo n)[k]? = some d) : k < n ∧ d = .int (lo + (k : Int)) := by
  unfold ups at h
  rw [List.getElem?_map] at h
  obtain ⟨a, e1, e2⟩ := Option.map_eq_some_iff.mp h
  obtain ⟨h1, h2⟩ := List.getElem?_eq_some_iff.mp e1
  rw [List.length_range] at h1
  rw [List.getElem_range] at h2
  subst h2
  exact ⟨h1, e2.symm⟩
@[simp] theorem ups_len (lo : Int) (n : Nat) : (ups lo n).length = n := by unfold ups; simp
end
def forMW (o : Option (Out × Env')) (g : D → Env' → Option Env') (b : Env' → Option (Out × Env')) (ds : List D) : Option (Out × Env') := o.bind fun r => match r.1 with
  | .nx => forM g b ds r.2
  | .ct => forM g b ds r.2
  | .bk => some (.nx, r.2)
  | .rt x => some (.rt x, r.2)
def forMV (o : Option Env') (g : D → Env' → Option Env') (b : Env' → Option (Out × Env')) (ds : List D) : Option (Out × Env') := o.bind fun ρ => forMW (b ρ) g b ds
section
variable (g : D → Env' → Option Env') (b : Env' → Option (Out × Env')) (d : D) (ds : List D) (ρ : Env')
@[simp] theorem p_forM0 : forM g b [] ρ = some (.nx, ρ) := nr rfl
@[simp] theorem p_forM1 : forM g b (d :: ds) ρ = forMV (g d ρ) g b ds := nr rfl
@[simp] theorem p_forMV : forMV (some ρ) g b ds = forMW (b ρ) g b ds := nr rfl
@[simp] theorem p_forMW1 : forMW (some (.nx, ρ)) g b ds = forM g b ds ρ := nr rfl
@[simp] theorem p_forMW2 : forMW (some (.ct, ρ)) g b ds = forM g b ds ρ := nr rfl
@[simp] theorem p_forMW3 : forMW (some (.bk, ρ)) g b ds = some (.nx, ρ) := nr rfl
@[simp] theorem p_forMW4 : forMW (some (.rt d, ρ)) g b ds = some (.rt d, ρ) := nr rfl
end
/-! loops: I the invariant ahead of the i-th thing, R what a return inside has -/
theorem forM_run {g : D → Env' → Option Env'} {b : Env' → Option (Out × Env')} (R : D → Prop) : ∀ {ds : List D} (I : Nat → Env' → Prop),
    (∀ i d ρ, ds[i]? = some d → I i ρ → ∃ ρ1 o ρ2, g d ρ = some ρ1 ∧ b ρ1 = some (o, ρ2) ∧ ((o = .nx ∨ o = .ct) ∧ I (i + 1) ρ2 ∨ (∃ x, o = .rt x ∧ R x))) → ∀ {ρ}, I 0 ρ →
    (∃ ρ', forM g b ds ρ = some (.nx, ρ') ∧ I ds.length ρ') ∨ ∃ x ρ', forM g b ds ρ = some (.rt x, ρ') ∧ R x
  | [], I, _, ρ, h0 => .inl ⟨ρ, rfl, h0⟩
  | d :: ds, I, hs, ρ, h0 => by
    obtain ⟨ρ1, o, ρ2, e1, e2, h⟩ := hs 0 d ρ rfl h0
    have hs' : ∀ i d ρ, ds[i]? = some d → I (i + 1) ρ → ∃ ρ1 o ρ2, g d ρ = some ρ1 ∧ b ρ1 = some (o, ρ2) ∧ ((o = .nx ∨ o = .ct) ∧ I (i + 1 + 1) ρ2 ∨ (∃ x, o = .rt x ∧ R x)) :=
      fun i d ρ hd hi => hs (i + 1) d ρ (by simpa using hd) hi
    unfold forM
    rw [e1, Option.bind_some, e2, Option.bind_some]
    rcases h with ⟨ho, hi⟩ | ⟨x, rfl, hr⟩
    · have := forM_run R (ds := ds) (fun i => I (i + 1)) hs' hi
      rcases ho with rfl | rfl <;> exact this
    · exact .inr ⟨x, ρ2, rfl, hr⟩
theorem forM_inv {g : D → Env' → Option Env'} {b : Env' → Option (Out × Env')} {ds : List D} (I : Nat → Env' → Prop)
    (hs : ∀ i d ρ, ds[i]? = some d → I i ρ → ∃ ρ1 o ρ2, g d ρ = some ρ1 ∧ b ρ1 = some (o, ρ2) ∧ (o = .nx ∨ o = .ct) ∧ I (i + 1) ρ2) {ρ : Env'} (h0 : I 0 ρ) : ∃ ρ', forM g b ds ρ = some (.nx, ρ') ∧ I ds.length ρ' := by
  rcases forM_run (fun _ => False) I (fun i d ρ hd hi => by
    obtain ⟨ρ1, o, ρ2, e1, e2, ho, h⟩ := hs i d ρ hd hi
    exact ⟨ρ1, o, ρ2, e1, e2, .inl ⟨ho, h⟩⟩) h0 with h | ⟨_, _, _, h⟩
  · exact h
  · exact h.elim
/-- a comprehension without a test, thing by thing -/
theorem fmM_all {s : D → Option (Option D)} : ∀ {ds es : List D}, ds.length = es.length → (∀ (i : Nat) d e, ds[i]? = some d → es[i]? = some e → s d = some (some e)) → fmM s ds = some es
  | [], [], _, _ => rfl
  | [], _ :: _, h, _ => by simp at h
  | _ :: _, [], h, _ => by simp at h
  | d :: ds, e :: es, h, f => by
    unfold fmM
    rw [f 0 d e rfl rfl, Option.bind_some, fmM_all (ds := ds) (es := es) (by simpa using h) (fun i d e a b => f (i + 1) d e (by simpa using a) (by simpa using b))]
    rfl
theorem fmM_map {α : Type} {s : D → Option (Option D)} {p q : α → D} : ∀ {xs : List α}, (∀ x ∈ xs, s (p x) = some (some (q x))) → fmM s (xs.map p) = some (xs.map q)
  | [], _ => rfl
  | x :: xs, h => by
    rw [List.map_cons]
    unfold fmM
    rw [h x List.mem_cons_self, Option.bind_some, fmM_map (fun y hy => h y (List.mem_cons_of_mem _ hy))]
    rfl
theorem run_rt {n : Nat} {fl : Bool} {b : Env' → Option (Out × Env')} {ds : List D} {d : D} {ρ : Env'} (h : b (ds.map some ++ List.replicate (n - ds.length) none) = some (.rt d, ρ)) : runF n fl b ds = some d := by
  unfold runF
  rw [h]
  rfl
/-! equality, membership, truth of flat things -/
theorem eqP_I (i j : Int) : eqP (.int i) (.int j) = decide (i = j) := (eqP_kD (.inl i) (.inl j)).trans (by simp)
theorem eqP_S (x y : Str) : eqP (.str x) (.str y) = decide (x = y) := (eqP_kD (.inr x) (.inr y)).trans (by simp)
theorem eqP_IS (i : Int) (y : Str) : eqP (.int i) (.str y) = false := (eqP_kD (.inl i) (.inr y)).trans (by simp)
theorem eqP_SI (i : Int) (y : Str) : eqP (.str y) (.int i) = false := (eqP_kD (.inr y) (.inl i)).trans (by simp)
theorem eqP_NN : eqP .non .non = true := rfl
theorem eqP_NS (y : Str) : eqP .non (.str y) = false := rfl
theorem eqP_SN (y : Str) : eqP (.str y) .non = false := rfl
theorem eqP_NI (y : Int) : eqP .non (.int y) = false := rfl
theorem eqP_IN (y : Int) : eqP (.int y) .non = false := rfl
@[simp] theorem p_eqI (i j : Int) : eqD (.int i) (.int j) = some (.bl (decide (i = j))) := by rw [← eqP_I]; exact nr rfl
@[simp] theorem p_neI (i j : Int) : neD (.int i) (.int j) = some (.bl (!decide (i = j))) := by rw [← eqP_I]; exact nr rfl
@[simp] theorem p_eqS (i j : Str) : eqD (.str i) (.str j) = some (.bl (decide (i = j))) := by rw [← eqP_S]; exact nr rfl
@[simp] theorem p_neS (i j : Str) : neD (.str i) (.str j) = some (.bl (!decide (i = j))) := by rw [← eqP_S]; exact nr rfl
@[simp] theorem p_eqNN : eqD .non .non = some (.bl true) := nr rfl
@[simp] theorem p_eqNS (y : Str) : eqD .non (.str y) = some (.bl false) := nr rfl
@[simp] theorem p_eqSN (y : Str) : eqD (.str y) .non = some (.bl false) := nr rfl
theorem asBls_map {α : Type} (f : α → Bool) : ∀ xs : List α, asBls (xs.map fun x => .bl (f x)) = some (xs.map f)
  | [] => rfl
  | x :: xs => by
    show (asBls (xs.map fun x => .bl (f x))).map (f x :: ·) = _
    rw [asBls_map f xs]
    rfl
theorem p_any {α : Type} (f : α → Bool) (xs : List α) : anyD [.lst (xs.map fun x => .bl (f x))] = some (.bl (xs.any f)) := by
  show (asBls (xs.map fun x => .bl (f x))).map _ = _
  rw [asBls_map]
  simp [List.any_map]
theorem p_all {α : Type} (f : α → Bool) (xs : List α) : allD [.lst (xs.map fun x => .bl (f x))] = some (.bl (xs.all f)) := by
  show (asBls (xs.map fun x => .bl (f x))).map _ = _
  rw [asBls_map]
  simp [List.all_map]
theorem asInts_map : ∀ xs : List Int, asInts (xs.map .int) = some xs
  | [] => rfl
  | x :: xs => by
    show (asInts (xs.map .int)).map (x :: ·) = _
    rw [asInts_map xs]
    rfl
theorem p_sum (xs : List Int) : sumD [.lst (xs.map .int)] = some (.int xs.sum) := by
  show (asInts (xs.map .int)).map _ = _
  rw [asInts_map]
  rfl
theorem p_min {xs : List Int} (h : xs ≠ []) : minD [.lst (xs.map .int)] = some (.int (minI xs)) := by
  show (asInts (xs.map .int)).bind _ = _
  rw [asInts_map, Option.bind_some, if_neg]
  cases xs with
  | nil => exact absurd rfl h
  | cons => simp
theorem p_max {xs : List Int} (h : xs ≠ []) : maxD [.lst (xs.map .int)] = some (.int (maxI xs)) := by
  show (asInts (xs.map .int)).bind _ = _
  rw [asInts_map, Option.bind_some, if_neg]
  cases xs with
  | nil => exact absurd rfl h
  | cons => simp
theorem plAll_S : ∀ xs : List Str, plAll (xs.map .str) = true
  | [] => rfl
  | _ :: xs => plAll_S xs
theorem dpAll_S : ∀ xs : List Str, dpAll (xs.map .str) = 0
  | [] => rfl
  | x :: xs => by
    show max 0 (dpAll (xs.map .str)) = 0
    rw [dpAll_S xs]
    rfl
theorem inB_S (x : Str) (xs : List Str) : inB (.str x) (.lst (xs.map .str)) = some (decide (x ∈ xs)) := by
  have h : inOk (.str x) (xs.map .str) = true := by
    unfold inOk
    rw [plAll_S, dpAll_S]
    rfl
  show (if inOk (.str x) (xs.map .str) = true then some (inP (.str x) (xs.map .str)) else none) = _
  rw [if_pos h]
  unfold inP
  rw [List.any_map]
  congr 1
  rw [Bool.eq_iff_iff]
  simp [eqP_S]
@[simp] theorem p_inS (x : Str) (xs : List Str) : inD (.str x) (.lst (xs.map .str)) = some (.bl (decide (x ∈ xs))) := by
  unfold inD
  rw [inB_S]
  rfl
/-! loops over mapped lists -/
theorem forM_find {α R : Type} {g : D → Env' → Option Env'} {b : Env' → Option (Out × Env')} (e : α → D) (f : α → Option R) (q : R → D) (I : Env' → Prop) : ∀ xs : List α,
    (∀ x ∈ xs, ∀ ρ, I ρ → ∃ ρ1, g (e x) ρ = some ρ1 ∧ ((∃ r ρ2, f x = some r ∧ b ρ1 = some (.rt (q r), ρ2)) ∨ (f x = none ∧ ∃ ρ2, b ρ1 = some (.nx, ρ2) ∧ I ρ2))) → ∀ ρ, I ρ →
    (∃ r ρ', xs.findSome? f = some r ∧ forM g b (xs.map e) ρ = some (.rt (q r), ρ')) ∨ (xs.findSome? f = none ∧ ∃ ρ', forM g b (xs.map e) ρ = some (.nx, ρ') ∧ I ρ')
  | [], _, ρ, h => .inr ⟨rfl, ρ, rfl, h⟩
  | x :: xs, hs, ρ, h => by
    obtain ⟨ρ1, e1, hh⟩ := hs x List.mem_cons_self ρ h
    rw [List.map_cons]
    unfold forM
    rw [e1, Option.bind_some]
    rcases hh with ⟨r, ρ2, hf, e2⟩ | ⟨hf, ρ2, e2, h2⟩
    · rw [e2]
      exact .inl ⟨r, ρ2, by simp [hf], rfl⟩
    · rw [e2]
      have := forM_find e f q I xs (fun y hy => hs y (List.mem_cons_of_mem _ hy)) ρ2 h2
      rw [List.findSome?_cons, hf]
      exact this
theorem forM_fold {α S : Type} {g : D → Env' → Option Env'} {b : Env' → Option (Out × Env')} (e : α → D) (st : S → α → S) (I : S → Env' → Prop) : ∀ xs : List α,
    (∀ x ∈ xs, ∀ s ρ, I s ρ → ∃ ρ1 ρ2, g (e x) ρ = some ρ1 ∧ b ρ1 = some (.nx, ρ2) ∧ I (st s x) ρ2) → ∀ s ρ, I s ρ → ∃ ρ', forM g b (xs.map e) ρ = some (.nx, ρ') ∧ I (xs.foldl st s) ρ'
  | [], _, s, ρ, h => ⟨ρ, rfl, h⟩
  | x :: xs, hs, s, ρ, h => by
    obtain ⟨ρ1, ρ2, e1, e2, h2⟩ := hs x List.mem_cons_self s ρ h
    rw [List.map_cons]
    unfold forM
    rw [e1, Option.bind_some, e2]
    exact forM_fold e st I xs (fun y hy => hs y (List.mem_cons_of_mem _ hy)) (st s x) ρ2 h2
/-- the same with the number of things that are done -/
theorem forM_foldN {α S : Type} {g : D → Env' → Option Env'} {b : Env' → Option (Out × Env')} (e : α → D) (st : S → α → S) : ∀ (xs : List α) (I : Nat → S → Env' → Prop),
    (∀ i x s ρ, x ∈ xs → i < xs.length → I i s ρ → ∃ ρ1 ρ2, g (e x) ρ = some ρ1 ∧ b ρ1 = some (.nx, ρ2) ∧ I (i + 1) (st s x) ρ2) → ∀ s ρ, I 0 s ρ → ∃ ρ', forM g b (xs.map e) ρ = some (.nx, ρ') ∧ I xs.length (xs.foldl st s) ρ'
  | [], I, _, s, ρ, h => ⟨ρ, rfl, h⟩
  | x :: xs, I, hs, s, ρ, h => by
    obtain ⟨ρ1, ρ2, e1, e2, h2⟩ := hs 0 x s ρ List.mem_cons_self (by simp) h
    rw [List.map_cons]
    unfold forM
    rw [e1, Option.bind_some, e2]
    exact forM_foldN e st xs (fun i => I (i + 1)) (fun i y s ρ hy hi => hs (i + 1) y s ρ (List.mem_cons_of_mem _ hy) (by simpa using hi)) (st s x) ρ2 h2
/-- a while, with a measure -/
theorem whS_run {S : Type} {f : Env' → Option Bool} {b : Env' → Option (Out × Env')} (I : S → Env' → Prop) (μ : S → Nat)
    (hs : ∀ s ρ, I s ρ → f ρ = some false ∨ (f ρ = some true ∧ ∃ s' ρ', b ρ = some (.nx, ρ') ∧ I s' ρ' ∧ μ s' < μ s)) : ∀ s ρ, I s ρ → ∃ s' ρ', whS f b ρ = some (.nx, ρ') ∧ I s' ρ' ∧ f ρ' = some false := by
  have go : ∀ n s ρ, μ s ≤ n → I s ρ → ∃ s' ρ', whN f b (n + 1) ρ = some (.nx, ρ') ∧ I s' ρ' ∧ f ρ' = some false := by
    intro n
    induction n with
    | zero =>
      intro s ρ hn h
      rcases hs s ρ h with h1 | ⟨h1, s', ρ', _, _, hm⟩
      · exact ⟨s, ρ, by unfold whN; rw [h1]; rfl, h, h1⟩
      · omega
    | succ n ih =>
      intro s ρ hn h
      rcases hs s ρ h with h1 | ⟨h1, s', ρ', e, h2, hm⟩
      · exact ⟨s, ρ, by unfold whN; rw [h1]; rfl, h, h1⟩
      · obtain ⟨s2, ρ2, e2, h3, h4⟩ := ih s' ρ' (by omega) h2
        refine ⟨s2, ρ2, ?_, h3, h4⟩
        unfold whN
        rw [h1, Option.bind_some, if_pos rfl, e]
        exact e2
  intro s ρ h
  obtain ⟨s', ρ', e, h1, h2⟩ := go (μ s) s ρ (Nat.le_refl _) h
  exact ⟨s', ρ', whS_of e, h1, h2⟩
theorem foldl_last {α R : Type} (f : α → Option R) : ∀ (xs : List α) (z : Option R), xs.foldl (fun acc x => (f x).or acc) z = (xs.reverse.findSome? f).or z
  | [], z => rfl
  | x :: xs, z => by
    rw [List.foldl_cons, foldl_last f xs, List.reverse_cons, List.findSome?_append]
    cases h : xs.reverse.findSome? f with
    | some r => rfl
    | none =>
      cases hf : f x <;> simp [hf]
theorem atI_lst {α : Type} {x : α} {xs : List α} : atI (xs ++ [x]) (-1) = some x := by
  unfold atI ixN
  rw [List.length_append, List.length_singleton, if_neg (by omega), if_pos (by omega), Option.bind_some]
  have : ((-1 : Int) + ((xs.length + 1 : Nat) : Int)).toNat = xs.length := by omega
  rw [this]
  simp
theorem ixN_last {n : Nat} : ixN (n + 1) (-1) = some n := by
  unfold ixN
  rw [if_neg (by omega), if_pos (by omega)]
  congr 1
  omega
@[simp] theorem p_isi_NoneType_bool : isiV "bool" (some (.non)) = some (.bl false) := p_isiV _ _ (k := "NoneType") rfl (by decide +kernel)
@[simp] theorem p_isi_NoneType_int : isiV "int" (some (.non)) = some (.bl false) := p_isiV _ _ (k := "NoneType") rfl (by decide +kernel)
@[simp] theorem p_isi_NoneType_str : isiV "str" (some (.non)) = some (.bl false) := p_isiV _ _ (k := "NoneType") rfl (by decide +kernel)
@[simp] theorem p_isi_NoneType_tuple : isiV "tuple" (some (.non)) = some (.bl false) := p_isiV _ _ (k := "NoneType") rfl (by decide +kernel)
@[simp] theorem p_isi_NoneType_list : isiV "list" (some (.non)) = some (.bl false) := p_isiV _ _ (k := "NoneType") rfl (by decide +kernel)
@[simp] theorem p_isi_bool_bool (b : Bool) : isiV "bool" (some (.bl b)) = some (.bl true) := p_isiV _ _ (k := "bool") rfl (by decide +kernel)
@[simp] theorem p_isi_bool_int (b : Bool) : isiV "int" (some (.bl b)) = some (.bl true) := p_isiV _ _ (k := "bool") rfl (by decide +kernel)
@[simp] theorem p_isi_bool_str (b : Bool) : isiV "str" (some (.bl b)) = some (.bl false) := p_isiV _ _ (k := "bool") rfl (by decide +kernel)
@[simp] theorem p_isi_bool_tuple (b : Bool) : isiV "tuple" (some (.bl b)) = some (.bl false) := p_isiV _ _ (k := "bool") rfl (by decide +kernel)
@[simp] theorem p_isi_bool_list (b : Bool) : isiV "list" (some (.bl b)) = some (.bl false) := p_isiV _ _ (k := "bool") rfl (by decide +kernel)
@[simp] theorem p_isi_int_bool (i : Int) : isiV "bool" (some (.int i)) = some (.bl false) := p_isiV _ _ (k := "int") rfl (by decide +kernel)
@[simp] theorem p_isi_int_int (i : Int) : isiV "int" (some (.int i)) = some (.bl true) := p_isiV _ _ (k := "int") rfl (by decide +kernel)
@[simp] theorem p_isi_int_str (i : Int) : isiV "str" (some (.int i)) = some (.bl false) := p_isiV _ _ (k := "int") rfl (by decide +kernel)
@[simp] theorem p_isi_int_tuple (i : Int) : isiV "tuple" (some (.int i)) = some (.bl false) := p_isiV _ _ (k := "int") rfl (by decide +kernel)
@[simp] theorem p_isi_int_list (i : Int) : isiV "list" (some (.int i)) = some (.bl false) := p_isiV _ _ (k := "int") rfl (by decide +kernel)
@[simp] theorem p_isi_str_bool (x : Str) : isiV "bool" (some (.str x)) = some (.bl false) := p_isiV _ _ (k := "str") rfl (by decide +kernel)
@[simp] theorem p_isi_str_int (x : Str) : isiV "int" (some (.str x)) = some (.bl false) := p_isiV _ _ (k := "str") rfl (by decide +kernel)
@[simp] theorem p_isi_str_str (x : Str) : isiV "str" (some (.str x)) = some (.bl true) := p_isiV _ _ (k := "str") rfl (by decide +kernel)
@[simp] theorem p_isi_str_tuple (x : Str) : isiV "tuple" (some (.str x)) = some (.bl false) := p_isiV _ _ (k := "str") rfl (by decide +kernel)
@[simp] theorem p_isi_str_list (x : Str) : isiV "list" (some (.str x)) = some (.bl false) := p_isiV _ _ (k := "str") rfl (by decide +kernel)
@[simp] theorem p_isi_tuple_bool (ds : List D) : isiV "bool" (some (.tup ds)) = some (.bl false) := p_isiV _ _ (k := "tuple") rfl (by decide +kernel)
@[simp] theorem p_isi_tuple_int (ds : List D) : isiV "int" (some (.tup ds)) = some (.bl false) := p_isiV _ _ (k := "tuple") rfl (by decide +kernel)
@[simp] theorem p_isi_tuple_str (ds : List D) : isiV "str" (some (.tup ds)) = some (.bl false) := p_isiV _ _ (k := "tuple") rfl (by decide +kernel)
@[simp] theorem p_isi_tuple_tuple (ds : List D) : isiV "tuple" (some (.tup ds)) = some (.bl true) := p_isiV _ _ (k := "tuple") rfl (by decide +kernel)
@[simp] theorem p_isi_tuple_list (ds : List D) : isiV "list" (some (.tup ds)) = some (.bl false) := p_isiV _ _ (k := "tuple") rfl (by decide +kernel)
@[simp] theorem p_isi_list_bool (ds : List D) : isiV "bool" (some (.lst ds)) = some (.bl false) := p_isiV _ _ (k := "list") rfl (by decide +kernel)
@[simp] theorem p_isi_list_int (ds : List D) : isiV "int" (some (.lst ds)) = some (.bl false) := p_isiV _ _ (k := "list") rfl (by decide +kernel)
@[simp] theorem p_isi_list_str (ds : List D) : isiV "str" (some (.lst ds)) = some (.bl false) := p_isiV _ _ (k := "list") rfl (by decide +kernel)
@[simp] theorem p_isi_list_tuple (ds : List D) : isiV "tuple" (some (.lst ds)) = some (.bl false) := p_isiV _ _ (k := "list") rfl (by decide +kernel)
@[simp] theorem p_isi_list_list (ds : List D) : isiV "list" (some (.lst ds)) = some (.bl true) := p_isiV _ _ (k := "list") rfl (by decide +kernel)
end Vm

namespace K51
open PySem PySem.Spec PyProof.Rows L2 Vm
abbrev PW : Program := PySem.Challenge.pw_watchfloor_k51_calendars_duties_count_ti
def top (i : Nat) : Stmt := PW.main.body.getD i (.Pass ⟨0, 0, 0, 0⟩)
structure Facts (K : PySem.W.Frag) (mg : Str → Option Value) : Prop where
  d__law_draws : DefAt K mg "_law_draws" (top 10)
  d__law_words : DefAt K mg "_law_words" (top 12)
  d__law_cell : DefAt K mg "_law_cell" (top 9)
  d__law_world : DefAt K mg "_law_world" (top 19)
  d__law_layer : DefAt K mg "_law_layer" (top 13)
  d__law_rota : DefAt K mg "_law_rota" (top 14)
  d__law_range : DefAt K mg "_law_range" (top 18)
  d__law_inside : DefAt K mg "_law_inside" (top 15)
  d__law_member : DefAt K mg "_law_member" (top 16)
  d__law_on : DefAt K mg "_law_on" (top 17)
  d__law_counts : DefAt K mg "_law_counts" (top 20)
  d_in_spans : DefAt K mg "in_spans" (top 1)
  d_on_layer : DefAt K mg "on_layer" (top 2)
  d_on_call : DefAt K mg "on_call" (top 3)
  d__layer_breaks : DefAt K mg "_layer_breaks" (top 4)
  d_next_break : DefAt K mg "next_break" (top 5)
  d_stretches : DefAt K mg "stretches" (top 6)
  d_duties : DefAt K mg "duties" (top 7)
  d__law_same : DefAt K mg "_law_same" (top 11)
  d_law : DefAt K mg "law" (top 21)
  b_any : mg "any" = none
  b_bool : mg "bool" = none
  b_int : mg "int" = none
  b_isinstance : mg "isinstance" = none
  b_len : mg "len" = none
  b_list : mg "list" = none
  b_max : mg "max" = none
  b_min : mg "min" = none
  b_range : mg "range" = none
  b_str : mg "str" = none
  b_tuple : mg "tuple" = none
section
variable {w : World} {K : PySem.W.Frag} {mg : Str → Option Value} {base : Heap}
/-! _law_draws -/
abbrev N__law_draws : List Str := ["_law_cell_here", "_law_many", "_law_rows", "_law_rest", "_law_state", "_law_k"]
theorem sc__law_draws : FnScope N__law_draws ["_law_cell_here", "_law_many"] (defScope (top 10)) := ⟨rfl, rfl, rfl, by decide +kernel, rfl, by decide +kernel, by decide +kernel⟩
def lp1__law_draws : Env' → Option (Out × Env') :=
  (ifS (tB (op2 gtD (getV 3) (kD' (.int 0))))
  (seqS (expS (appS 2 (liftQ (op2 modD (apA (consA (getV 3) nilA) intD) (kD' (.int 1000))))))
  (setS 3 (liftQ (op2 fdivD (getV 3) (kD' (.int 1000))))))
  nilS)
def lp2__law_draws : Env' → Option (Out × Env') :=
  (seqS (setS 4 (liftQ (op2 modD (apA (consA (op2 addD (op2 addD (op2 mulD (getV 4) (kD' (.int 48271))) (op2 mulD (getV 5) (kD' (.int 69621)))) (kD' (.int 7))) nilA) intD) (kD' (.int 2147483647)))))
  (ifS (tB (op2 ltD (apA (consA (getV 2) nilA) lenD) (getV 1)))
  (expS (appS 2 (liftQ (op2 modD (apA (consA (op2 modD (apA (consA (op2 addD (op2 mulD (getV 4) (kD' (.int 69621))) (kD' (.int 5))) nilA) intD) (kD' (.int 2147483629))) nilA) intD) (kD' (.int 1000))))))
  nilS))
def b__law_draws : Env' → Option (Out × Env') :=
  (seqS (setS 2 (liftQ (lstD nilA)))
  (seqS (setS 3 (liftQ (apA (consA (getV 0) nilA) intD)))
  (seqS (ifS (tB (op2 geD (getV 3) (op2 powD (kD' (.int 10)) (kD' (.int 18)))))
  (forS (rnF (consA (getV 1) nilA) rng1) (gSet 5)
  lp1__law_draws)
  nilS)
  (seqS (setS 4 (liftQ (op2 modD (apA (consA (op2 addD (op2 mulD (apA (consA (getV 0) nilA) intD) (kD' (.int 48271))) (kD' (.int 11))) nilA) intD) (kD' (.int 2147483647)))))
  (seqS (forS (rnF (consA (getV 1) nilA) rng1) (gSet 5)
  lp2__law_draws)
  (retS (mvV 2)))))))
def m__law_draws : List D → Option D := runF 6 false b__law_draws
theorem ok__law_draws (G : Facts K mg) : Fx PW w K mg base 1 "_law_draws" [.rd, .rd] (.lst .fr) m__law_draws :=
  fx_of (N := N__law_draws) (falls := false) (fb := b__law_draws) (Γe := [.any, .any, .any, .any, .any, .any]) G.d__law_draws sc__law_draws rfl (.inl rfl) (.lst .fr) (fun _ _ _ _ _ _ us hl => match us, hl with | [_, _], _ => rfl)
  (sss_cons (Γ1 := [.rd, .rd, (.lst .fr), .any, .any, .any]) (ss_set (i := 2) (Γ1 := [.rd, .rd, .any, .any, .any, .any]) (ee_q (qe_lst (n := 0) (t := .fr) (m := true) qa_nil)) rfl (.inl rfl) (.inl rfl) (by decide) (by decide))
  (sss_cons (Γ1 := [.rd, .rd, (.lst .fr), .fr, .any, .any]) (ss_set (i := 3) (Γ1 := [.rd, .rd, (.lst .fr), .any, .any, .any]) (ee_q (qe_callTy cg_int rfl G.b_int bt_int (qa_cons (vR (i := 0) rfl (.inl rfl) rfl) qa_nil))) rfl (.inl rfl) (.inl rfl) (by decide) (by decide))
  (sss_cons (Γ1 := [.rd, .rd, (.lst .fr), .fr, .any, .any]) (ss_if (qt_cmp os_ge (vF (i := 3) rfl (.inl rfl) rfl) (oP os_pow cI cI))
  (sss_one (ss_for (Γ1 := [.rd, .rd, (.lst .fr), .fr, .any, .fr]) (qi_range1 rfl G.b_range (qa_cons (vR (i := 1) rfl (.inl rfl) rfl) qa_nil)) (qg_name (i := 5) rfl (.inl rfl) (.inl rfl) (by decide) (.inl rfl)) (by decide)
  (sss_end (Γ1 := [.rd, .rd, (.lst .fr), .fr, .any, .fr]) (sss_one (ss_if (qt_cmp os_gt (vF (i := 3) rfl (.inl rfl) rfl) cI)
  (sss_cons (Γ1 := [.rd, .rd, (.lst .fr), .fr, .any, .fr]) (ss_expr (ee_append (i := 2) (t0 := .fr) (t := .fr) rfl (.inl rfl) rfl (ee_q (oP os_mod (qe_callTy cg_int rfl G.b_int bt_int (qa_cons (vF (i := 3) rfl (.inl rfl) rfl) qa_nil)) cI)) rfl))
  (sss_one (ss_set (i := 3) (Γ1 := [.rd, .rd, (.lst .fr), .fr, .any, .fr]) (ee_q (oP os_fdiv (vF (i := 3) rfl (.inl rfl) rfl) cI)) rfl (.inl rfl) (.inl rfl) (by decide) (by decide))))
  sss_nil)) (.keep (.keep (.keep (.keep (.keep (.any .nil)))))))))
  sss_nil)
  (sss_cons (Γ1 := [.rd, .rd, (.lst .fr), .fr, .fr, .any]) (ss_set (i := 4) (Γ1 := [.rd, .rd, (.lst .fr), .fr, .any, .any]) (ee_q (oP os_mod (qe_callTy cg_int rfl G.b_int bt_int (qa_cons (oP os_add (oP os_mul (qe_callTy cg_int rfl G.b_int bt_int (qa_cons (vR (i := 0) rfl (.inl rfl) rfl) qa_nil)) cI) cI) qa_nil)) cI)) rfl (.inl rfl) (.inl rfl) (by decide) (by decide))
  (sss_cons (Γ1 := [.rd, .rd, (.lst .fr), .fr, .fr, .any]) (ss_for (Γ1 := [.rd, .rd, (.lst .fr), .fr, .fr, .fr]) (qi_range1 rfl G.b_range (qa_cons (vR (i := 1) rfl (.inl rfl) rfl) qa_nil)) (qg_name (i := 5) rfl (.inl rfl) (.inl rfl) (by decide) (.inl rfl)) (by decide)
  (sss_end (Γ1 := [.rd, .rd, (.lst .fr), .fr, .fr, .fr]) (sss_cons (Γ1 := [.rd, .rd, (.lst .fr), .fr, .fr, .fr]) (ss_set (i := 4) (Γ1 := [.rd, .rd, (.lst .fr), .fr, .fr, .fr]) (ee_q (oP os_mod (qe_callTy cg_int rfl G.b_int bt_int (qa_cons (oP os_add (oP os_add (oP os_mul (vF (i := 4) rfl (.inl rfl) rfl) cI) (oP os_mul (vF (i := 5) rfl (.inl rfl) rfl) cI)) cI) qa_nil)) cI)) rfl (.inl rfl) (.inl rfl) (by decide) (by decide))
  (sss_one (ss_if (qt_cmp os_lt (qe_callB cg_len rfl G.b_len bt_len (qa_cons (vO (i := 2) rfl (.inl rfl) rfl (fun z => nomatch z)) qa_nil)) (vR (i := 1) rfl (.inl rfl) rfl))
  (sss_one (ss_expr (ee_append (i := 2) (t0 := .fr) (t := .fr) rfl (.inl rfl) rfl (ee_q (oP os_mod (qe_callTy cg_int rfl G.b_int bt_int (qa_cons (oP os_mod (qe_callTy cg_int rfl G.b_int bt_int (qa_cons (oP os_add (oP os_mul (vF (i := 4) rfl (.inl rfl) rfl) cI) cI) qa_nil)) cI) qa_nil)) cI)) rfl)))
  sss_nil))) (.keep (.keep (.keep (.keep (.keep (.any .nil))))))))
  (sss_one (ss_ret (Γ1 := [.rd, .rd, .any, .fr, .fr, .any]) (ee_mv (i := 2) (t := (.lst .fr)) rfl (.inl rfl) rfl (fun z => nomatch z)) (Wk.an rfl))))))))
/-! _law_words -/
abbrev N__law_words : List Str := ["_law_cell_here", "_law_many", "_law_letters", "_law_place", "_law_k"]
theorem sc__law_words : FnScope N__law_words ["_law_cell_here", "_law_many"] (defScope (top 12)) := ⟨rfl, rfl, rfl, by decide +kernel, rfl, by decide +kernel, by decide +kernel⟩
def b__law_words : Env' → Option (Out × Env') :=
  (seqS (setS 2 (liftQ (kD' (.str "abcdefghijklmnopqrstuvwxyz"))))
  (seqS (setS 3 (liftQ (op2 modD (apA (consA (op2 fdivD (apA (consA (getV 0) nilA) intD) (kD' (.int 26))) nilA) intD) (kD' (.int 4)))))
  (retS (liftQ (lcD (rnF (consA (getV 1) nilA) rng1) (gSet 4) trueT (op2 addD (op2 addD (sl3 slcF (kD' (.str "xyz")) noI (soI (getV 3))) (op2 ixD (getV 2) (op2 modD (apA (consA (op2 addD (apA (consA (getV 0) nilA) intD) (op2 mulD (kD' (.int 3)) (getV 4))) nilA) intD) (kD' (.int 26))))) (sl3 slcF (kD' (.str "xyzw")) (soI (getV 3)) noI)))))))
def m__law_words : List D → Option D := runF 5 false b__law_words
theorem ok__law_words (G : Facts K mg) : Fx PW w K mg base 1 "_law_words" [.rd, .rd] (.lst .fr) m__law_words :=
  fx_of (N := N__law_words) (falls := false) (fb := b__law_words) (Γe := [.any, .any, .any, .any, .any]) G.d__law_words sc__law_words rfl (.inl rfl) (.lst .fr) (fun _ _ _ _ _ _ us hl => match us, hl with | [_, _], _ => rfl)
  (sss_cons (Γ1 := [.rd, .rd, .fr, .any, .any]) (ss_set (i := 2) (Γ1 := [.rd, .rd, .any, .any, .any]) (ee_q cS) rfl (.inr rfl) (.inl rfl) (by decide) (by decide))
  (sss_cons (Γ1 := [.rd, .rd, .fr, .fr, .any]) (ss_set (i := 3) (Γ1 := [.rd, .rd, .fr, .any, .any]) (ee_q (oP os_mod (qe_callTy cg_int rfl G.b_int bt_int (qa_cons (oP os_fdiv (qe_callTy cg_int rfl G.b_int bt_int (qa_cons (vR (i := 0) rfl (.inr (.inl rfl)) rfl) qa_nil)) cI) qa_nil)) cI)) rfl (.inr rfl) (.inl rfl) (by decide) (by decide))
  (sss_one (ss_ret (Γ1 := [.rd, .rd, .fr, .fr, .any]) (ee_q (qe_lc (own := [("_law_k", 4)]) (qi_range1 rfl G.b_range (qa_cons (vR (i := 1) rfl (.inl rfl) rfl) qa_nil)) rfl (by decide) (by decide) (qg_name (i := 4) rfl (.inl rfl) (.inr rfl) (by decide) (.inl rfl)) qts_nil (oP os_add (oP os_add (qe_slF (m := true) cS qo_none (qo_some (vF (i := 3) rfl (.inr (.inl rfl)) rfl))) (qe_ix (t' := .fr) (m := true) rfl (vF (i := 2) rfl (.inr (.inl rfl)) rfl) (oP os_mod (qe_callTy cg_int rfl G.b_int bt_int (qa_cons (oP os_add (qe_callTy cg_int rfl G.b_int bt_int (qa_cons (vR (i := 0) rfl (.inr (.inl rfl)) rfl) qa_nil)) (oP os_mul cI (vF (i := 4) rfl (.inl rfl) rfl))) qa_nil)) cI) (fun _ => .inl rfl))) (qe_slF (m := true) cS (qo_some (vF (i := 3) rfl (.inr (.inl rfl)) rfl)) qo_none)))) (Wk.an rfl)))))
/-! _law_cell -/
abbrev N__law_cell : List Str := ["_law_script", "_law_k"]
theorem sc__law_cell : FnScope N__law_cell ["_law_script", "_law_k"] (defScope (top 9)) := ⟨rfl, rfl, rfl, by decide +kernel, rfl, by decide +kernel, by decide +kernel⟩
def b__law_cell : Env' → Option (Out × Env') :=
  (seqS (ifS (tB (op2 ltD (getV 1) (apA (consA (getV 0) nilA) lenD)))
  (retS (liftQ (apA (consA (op2 ixD (getV 0) (getV 1)) nilA) intD)))
  nilS)
  (seqS (ifS (tB (op2 gtD (apA (consA (getV 0) nilA) lenD) (kD' (.int 0))))
  (retS (liftQ (op2 addD (apA (consA (op2 ixD (getV 0) (op2 modD (apA (consA (getV 1) nilA) intD) (apA (consA (getV 0) nilA) lenD))) nilA) intD) (op2 mulD (kD' (.int 104729)) (getV 1)))))
  nilS)
  (retS (liftQ (op2 mulD (kD' (.int 104729)) (getV 1))))))
def m__law_cell : List D → Option D := runF 2 false b__law_cell
theorem ok__law_cell (G : Facts K mg) : Fx PW w K mg base 1 "_law_cell" [.rd, .rd] .fr m__law_cell :=
  fx_of (N := N__law_cell) (falls := false) (fb := b__law_cell) (Γe := [.any, .any]) G.d__law_cell sc__law_cell rfl (.inl rfl) .fr (fun _ _ _ _ _ _ us hl => match us, hl with | [_, _], _ => rfl)
  (sss_cons (Γ1 := [.rd, .rd]) (ss_if (qt_cmp os_lt (vR (i := 1) rfl (.inl rfl) rfl) (qe_callB cg_len rfl G.b_len bt_len (qa_cons (vR (i := 0) rfl (.inl rfl) rfl) qa_nil)))
  (sss_one (ss_ret (Γ1 := [.rd, .rd]) (ee_q (qe_callTy cg_int rfl G.b_int bt_int (qa_cons (qe_ix (t' := .rd) (m := true) rfl (vR (i := 0) rfl (.inl rfl) rfl) (vR (i := 1) rfl (.inl rfl) rfl) (fun _ => .inr (.inl rfl))) qa_nil))) (Wk.an rfl)))
  sss_nil)
  (sss_cons (Γ1 := [.rd, .rd]) (ss_if (qt_cmp os_gt (qe_callB cg_len rfl G.b_len bt_len (qa_cons (vR (i := 0) rfl (.inl rfl) rfl) qa_nil)) cI)
  (sss_one (ss_ret (Γ1 := [.rd, .rd]) (ee_q (oP os_add (qe_callTy cg_int rfl G.b_int bt_int (qa_cons (qe_ix (t' := .rd) (m := true) rfl (vR (i := 0) rfl (.inl rfl) rfl) (oP os_mod (qe_callTy cg_int rfl G.b_int bt_int (qa_cons (vR (i := 1) rfl (.inl rfl) rfl) qa_nil)) (qe_callB cg_len rfl G.b_len bt_len (qa_cons (vR (i := 0) rfl (.inl rfl) rfl) qa_nil))) (fun _ => .inr (.inl rfl))) qa_nil)) (oP os_mul cI (vR (i := 1) rfl (.inl rfl) rfl)))) (Wk.an rfl)))
  sss_nil)
  (sss_one (ss_ret (Γ1 := [.rd, .rd]) (ee_q (oP os_mul cI (vR (i := 1) rfl (.inl rfl) rfl))) (Wk.an rfl)))))
/-! _law_world -/
abbrev N__law_world : List Str := ["_law_script", "_law_draws_here", "_law_size", "_law_days", "_law_crew"]
theorem sc__law_world : FnScope N__law_world ["_law_script"] (defScope (top 19)) := ⟨rfl, rfl, rfl, by decide +kernel, rfl, by decide +kernel, by decide +kernel⟩
def b__law_world : Env' → Option (Out × Env') :=
  (seqS (setS 1 (liftQ (apA (consA (apA (consA (getV 0) (consA (kD' (.int 0)) nilA)) m__law_cell) (consA (kD' (.int 8)) nilA)) m__law_draws)))
  (seqS (setS 2 (liftQ (kD' (.int 1))))
  (seqS (setS 3 (liftQ (op2 addD (kD' (.int 1)) (op2 modD (apA (consA (op2 ixD (getV 1) (kD' (.int 1))) nilA) intD) (kD' (.int 24))))))
  (seqS (ifS (tB (op2 eqD (op2 modD (apA (consA (op2 ixD (getV 1) (kD' (.int 0))) nilA) intD) (kD' (.int 8))) (kD' (.int 0))))
  (seqS (setS 2 (liftQ (kD' (.int 2))))
  (setS 3 (liftQ (op2 addD (kD' (.int 1)) (op2 modD (apA (consA (op2 addD (op2 mulD (op2 ixD (getV 1) (kD' (.int 1))) (kD' (.int 1000))) (op2 ixD (getV 1) (kD' (.int 2)))) nilA) intD) (kD' (.int 2000)))))))
  nilS)
  (seqS (setS 4 (liftQ (apA (consA (apA (consA (getV 0) (consA (kD' (.int 1)) nilA)) m__law_cell) (consA (op2 addD (kD' (.int 1)) (op2 modD (apA (consA (op2 ixD (getV 1) (kD' (.int 3))) nilA) intD) (kD' (.int 5)))) nilA)) m__law_words)))
  (retS (liftQ (lstD (consA (getV 3) (consA (getV 4) (consA (getV 2) nilA)))))))))))
def m__law_world : List D → Option D := runF 5 false b__law_world
theorem ok__law_world (G : Facts K mg) : Fx PW w K mg base 2 "_law_world" [.rd] (.lst .fr) m__law_world :=
  fx_of (N := N__law_world) (falls := false) (fb := b__law_world) (Γe := [.any, .any, .any, .any, .any]) G.d__law_world sc__law_world rfl (.inl rfl) (.lst .fr) (fun _ _ _ _ _ _ us hl => match us, hl with | [_], _ => rfl)
  (sss_cons (Γ1 := [.rd, (.lst .fr), .any, .any, .any]) (ss_set (i := 1) (Γ1 := [.rd, .any, .any, .any, .any]) (ee_q (qe_fx (ok__law_draws G) (Nat.le_of_ble_eq_true rfl) rfl (qa_cons (qe_fx (ok__law_cell G) (Nat.le_of_ble_eq_true rfl) rfl (qa_cons (vR (i := 0) rfl (.inl rfl) rfl) (qa_cons cI qa_nil)) (.rd (.rd .nil))) (qa_cons cI qa_nil)) (.rd (.rd .nil)))) rfl (.inl rfl) (.inl rfl) (by decide) (by decide))
  (sss_cons (Γ1 := [.rd, (.lst .fr), .fr, .any, .any]) (ss_set (i := 2) (Γ1 := [.rd, (.lst .fr), .any, .any, .any]) (ee_q cI) rfl (.inl rfl) (.inl rfl) (by decide) (by decide))
  (sss_cons (Γ1 := [.rd, (.lst .fr), .fr, .fr, .any]) (ss_set (i := 3) (Γ1 := [.rd, (.lst .fr), .fr, .any, .any]) (ee_q (oP os_add cI (oP os_mod (qe_callTy cg_int rfl G.b_int bt_int (qa_cons (qe_ix (t' := .fr) (m := true) rfl (vO (i := 1) rfl (.inl rfl) rfl (fun z => nomatch z)) cI (fun _ => .inl rfl)) qa_nil)) cI))) rfl (.inl rfl) (.inl rfl) (by decide) (by decide))
  (sss_cons (Γ1 := [.rd, (.lst .fr), .fr, .fr, .any]) (ss_if (qt_cmp os_eq (oP os_mod (qe_callTy cg_int rfl G.b_int bt_int (qa_cons (qe_ix (t' := .fr) (m := true) rfl (vO (i := 1) rfl (.inl rfl) rfl (fun z => nomatch z)) cI (fun _ => .inl rfl)) qa_nil)) cI) cI)
  (sss_cons (Γ1 := [.rd, (.lst .fr), .fr, .fr, .any]) (ss_set (i := 2) (Γ1 := [.rd, (.lst .fr), .fr, .fr, .any]) (ee_q cI) rfl (.inl rfl) (.inl rfl) (by decide) (by decide))
  (sss_one (ss_set (i := 3) (Γ1 := [.rd, (.lst .fr), .fr, .fr, .any]) (ee_q (oP os_add cI (oP os_mod (qe_callTy cg_int rfl G.b_int bt_int (qa_cons (oP os_add (oP os_mul (qe_ix (t' := .fr) (m := true) rfl (vO (i := 1) rfl (.inl rfl) rfl (fun z => nomatch z)) cI (fun _ => .inl rfl)) cI) (qe_ix (t' := .fr) (m := true) rfl (vO (i := 1) rfl (.inl rfl) rfl (fun z => nomatch z)) cI (fun _ => .inl rfl))) qa_nil)) cI))) rfl (.inl rfl) (.inl rfl) (by decide) (by decide))))
  sss_nil)
  (sss_cons (Γ1 := [.rd, (.lst .fr), .fr, .fr, (.lst .fr)]) (ss_set (i := 4) (Γ1 := [.rd, (.lst .fr), .fr, .fr, .any]) (ee_q (qe_fx (ok__law_words G) (Nat.le_of_ble_eq_true rfl) rfl (qa_cons (qe_fx (ok__law_cell G) (Nat.le_of_ble_eq_true rfl) rfl (qa_cons (vR (i := 0) rfl (.inl rfl) rfl) (qa_cons cI qa_nil)) (.rd (.rd .nil))) (qa_cons (oP os_add cI (oP os_mod (qe_callTy cg_int rfl G.b_int bt_int (qa_cons (qe_ix (t' := .fr) (m := true) rfl (vO (i := 1) rfl (.inl rfl) rfl (fun z => nomatch z)) cI (fun _ => .inl rfl)) qa_nil)) cI)) qa_nil)) (.rd (.rd .nil)))) rfl (.inl rfl) (.inl rfl) (by decide) (by decide))
  (sss_fz (i := 4) (t := (.lst .fr)) rfl (.lst .fr) (sss_one (ss_ret (Γ1 := [.rd, (.lst .fr), .fr, .fr, .fr]) (ee_q (qe_lst (n := 3) (t := .fr) (m := true) (qa_cons (vF (i := 3) rfl (.inl rfl) rfl) (qa_cons (vF (i := 4) rfl (.inl rfl) rfl) (qa_cons (vF (i := 2) rfl (.inl rfl) rfl) qa_nil))))) (Wk.an rfl)))))))))
/-! _law_layer -/
abbrev N__law_layer : List Str := ["_law_cell_here", "_law_crew", "_law_days", "_law_size", "_law_draws_here", "_law_many", "_law_start", "_law_shift", "_law_some", "_law_spans", "_law_k", "_law_members", "_law_first"]
theorem sc__law_layer : FnScope N__law_layer ["_law_cell_here", "_law_crew", "_law_days", "_law_size"] (defScope (top 13)) := ⟨rfl, rfl, rfl, by decide +kernel, rfl, by decide +kernel, by decide +kernel⟩
def lp1__law_layer : Env' → Option (Out × Env') :=
  (seqS (setS 12 (liftQ (op2 modD (apA (consA (op2 addD (op2 mulD (op2 ixD (getV 4) (op2 addD (kD' (.int 16)) (op2 mulD (kD' (.int 4)) (getV 10)))) (kD' (.int 1000))) (op2 ixD (getV 4) (op2 addD (kD' (.int 17)) (op2 mulD (kD' (.int 4)) (getV 10))))) nilA) intD) (getV 2))))
  (expS (appS 9 (liftQ (tupD (consA (getV 12) (consA (op2 addD (op2 addD (getV 12) (kD' (.int 1))) (op2 modD (apA (consA (op2 addD (op2 mulD (op2 ixD (getV 4) (op2 addD (kD' (.int 18)) (op2 mulD (kD' (.int 4)) (getV 10)))) (kD' (.int 1000))) (op2 ixD (getV 4) (op2 addD (kD' (.int 19)) (op2 mulD (kD' (.int 4)) (getV 10))))) nilA) intD) (op2 subD (getV 2) (getV 12)))) nilA)))))))
def b__law_layer : Env' → Option (Out × Env') :=
  (seqS (setS 4 (liftQ (apA (consA (getV 0) (consA (kD' (.int 40)) nilA)) m__law_draws)))
  (seqS (setS 5 (liftQ (op2 addD (kD' (.int 1)) (op2 modD (apA (consA (op2 ixD (getV 4) (kD' (.int 0))) nilA) intD) (kD' (.int 3))))))
  (seqS (setS 6 (liftQ (op2 modD (apA (consA (op2 ixD (getV 4) (kD' (.int 1))) nilA) intD) (kD' (.int 13)))))
  (seqS (setS 7 (liftQ (op2 addD (kD' (.int 1)) (op2 modD (apA (consA (op2 ixD (getV 4) (kD' (.int 2))) nilA) intD) (op2 ixD (lstD (consA (kD' (.int 4)) (consA (kD' (.int 9)) (consA (kD' (.int 1000)) nilA)))) (getV 3))))))
  (seqS (setS 8 (liftQ (op2 modD (apA (consA (op2 ixD (getV 4) (kD' (.int 5))) nilA) intD) (kD' (.int 3)))))
  (seqS (ifS (tB (op2 eqD (getV 3) (kD' (.int 2))))
  (seqS (setS 5 (liftQ (op2 addD (kD' (.int 1)) (op2 modD (apA (consA (op2 ixD (getV 4) (kD' (.int 0))) nilA) intD) (kD' (.int 10))))))
  (seqS (setS 6 (liftQ (op2 modD (apA (consA (op2 addD (op2 mulD (op2 ixD (getV 4) (kD' (.int 1))) (kD' (.int 1000))) (op2 ixD (getV 4) (kD' (.int 3)))) nilA) intD) (kD' (.int 2001)))))
  (setS 8 (liftQ (op2 modD (apA (consA (op2 ixD (getV 4) (kD' (.int 5))) nilA) intD) (kD' (.int 7)))))))
  nilS)
  (seqS (setS 9 (liftQ (lstD nilA)))
  (seqS (forS (rnF (consA (getV 8) nilA) rng1) (gSet 10)
  lp1__law_layer)
  (seqS (setS 11 (liftQ (lcD (rnF (consA (getV 5) nilA) rng1) (gSet 10) trueT (op2 ixD (getV 1) (op2 modD (apA (consA (op2 ixD (getV 4) (op2 addD (kD' (.int 6)) (getV 10))) nilA) intD) (apA (consA (getV 1) nilA) lenD))))))
  (retS (liftQ (tupD (consA (apA (consA (getV 11) nilA) tupleD) (consA (getV 6) (consA (getV 7) (consA (apA (consA (getV 9) nilA) tupleD) nilA))))))))))))))))
def m__law_layer : List D → Option D := runF 13 false b__law_layer
theorem ok__law_layer (G : Facts K mg) : Fx PW w K mg base 2 "_law_layer" [.rd, .fr, .rd, .rd] .fr m__law_layer :=
  fx_of (N := N__law_layer) (falls := false) (fb := b__law_layer) (Γe := [.any, .any, .any, .any, .any, .any, .any, .any, .any, .any, .any, .any, .any]) G.d__law_layer sc__law_layer rfl (.inl rfl) .fr (fun _ _ _ _ _ _ us hl => match us, hl with | [_, _, _, _], _ => rfl)
  (sss_cons (Γ1 := [.rd, .fr, .rd, .rd, (.lst .fr), .any, .any, .any, .any, .any, .any, .any, .any]) (ss_set (i := 4) (Γ1 := [.rd, .fr, .rd, .rd, .any, .any, .any, .any, .any, .any, .any, .any, .any]) (ee_q (qe_fx (ok__law_draws G) (Nat.le_of_ble_eq_true rfl) rfl (qa_cons (vR (i := 0) rfl (.inl rfl) rfl) (qa_cons cI qa_nil)) (.rd (.rd .nil)))) rfl (.inr rfl) (.inl rfl) (by decide) (by decide))
  (sss_cons (Γ1 := [.rd, .fr, .rd, .rd, (.lst .fr), .fr, .any, .any, .any, .any, .any, .any, .any]) (ss_set (i := 5) (Γ1 := [.rd, .fr, .rd, .rd, (.lst .fr), .any, .any, .any, .any, .any, .any, .any, .any]) (ee_q (oP os_add cI (oP os_mod (qe_callTy cg_int rfl G.b_int bt_int (qa_cons (qe_ix (t' := .fr) (m := true) rfl (vO (i := 4) rfl (.inr (.inl rfl)) rfl (fun z => nomatch z)) cI (fun _ => .inl rfl)) qa_nil)) cI))) rfl (.inl rfl) (.inl rfl) (by decide) (by decide))
  (sss_cons (Γ1 := [.rd, .fr, .rd, .rd, (.lst .fr), .fr, .fr, .any, .any, .any, .any, .any, .any]) (ss_set (i := 6) (Γ1 := [.rd, .fr, .rd, .rd, (.lst .fr), .fr, .any, .any, .any, .any, .any, .any, .any]) (ee_q (oP os_mod (qe_callTy cg_int rfl G.b_int bt_int (qa_cons (qe_ix (t' := .fr) (m := true) rfl (vO (i := 4) rfl (.inr (.inl rfl)) rfl (fun z => nomatch z)) cI (fun _ => .inl rfl)) qa_nil)) cI)) rfl (.inl rfl) (.inl rfl) (by decide) (by decide))
  (sss_cons (Γ1 := [.rd, .fr, .rd, .rd, (.lst .fr), .fr, .fr, .fr, .any, .any, .any, .any, .any]) (ss_set (i := 7) (Γ1 := [.rd, .fr, .rd, .rd, (.lst .fr), .fr, .fr, .any, .any, .any, .any, .any, .any]) (ee_q (oP os_add cI (oP os_mod (qe_callTy cg_int rfl G.b_int bt_int (qa_cons (qe_ix (t' := .fr) (m := true) rfl (vO (i := 4) rfl (.inr (.inl rfl)) rfl (fun z => nomatch z)) cI (fun _ => .inl rfl)) qa_nil)) (qe_ix (t' := .fr) (m := true) rfl (qe_lst (n := 3) (t := .fr) (m := true) (qa_cons cI (qa_cons cI (qa_cons cI qa_nil)))) (vR (i := 3) rfl (.inl rfl) rfl) (fun _ => .inl rfl))))) rfl (.inl rfl) (.inl rfl) (by decide) (by decide))
  (sss_cons (Γ1 := [.rd, .fr, .rd, .rd, (.lst .fr), .fr, .fr, .fr, .fr, .any, .any, .any, .any]) (ss_set (i := 8) (Γ1 := [.rd, .fr, .rd, .rd, (.lst .fr), .fr, .fr, .fr, .any, .any, .any, .any, .any]) (ee_q (oP os_mod (qe_callTy cg_int rfl G.b_int bt_int (qa_cons (qe_ix (t' := .fr) (m := true) rfl (vO (i := 4) rfl (.inr (.inl rfl)) rfl (fun z => nomatch z)) cI (fun _ => .inl rfl)) qa_nil)) cI)) rfl (.inl rfl) (.inl rfl) (by decide) (by decide))
  (sss_cons (Γ1 := [.rd, .fr, .rd, .rd, (.lst .fr), .fr, .fr, .fr, .fr, .any, .any, .any, .any]) (ss_if (qt_cmp os_eq (vR (i := 3) rfl (.inl rfl) rfl) cI)
  (sss_cons (Γ1 := [.rd, .fr, .rd, .rd, (.lst .fr), .fr, .fr, .fr, .fr, .any, .any, .any, .any]) (ss_set (i := 5) (Γ1 := [.rd, .fr, .rd, .rd, (.lst .fr), .fr, .fr, .fr, .fr, .any, .any, .any, .any]) (ee_q (oP os_add cI (oP os_mod (qe_callTy cg_int rfl G.b_int bt_int (qa_cons (qe_ix (t' := .fr) (m := true) rfl (vO (i := 4) rfl (.inr (.inl rfl)) rfl (fun z => nomatch z)) cI (fun _ => .inl rfl)) qa_nil)) cI))) rfl (.inl rfl) (.inl rfl) (by decide) (by decide))
  (sss_cons (Γ1 := [.rd, .fr, .rd, .rd, (.lst .fr), .fr, .fr, .fr, .fr, .any, .any, .any, .any]) (ss_set (i := 6) (Γ1 := [.rd, .fr, .rd, .rd, (.lst .fr), .fr, .fr, .fr, .fr, .any, .any, .any, .any]) (ee_q (oP os_mod (qe_callTy cg_int rfl G.b_int bt_int (qa_cons (oP os_add (oP os_mul (qe_ix (t' := .fr) (m := true) rfl (vO (i := 4) rfl (.inr (.inl rfl)) rfl (fun z => nomatch z)) cI (fun _ => .inl rfl)) cI) (qe_ix (t' := .fr) (m := true) rfl (vO (i := 4) rfl (.inr (.inl rfl)) rfl (fun z => nomatch z)) cI (fun _ => .inl rfl))) qa_nil)) cI)) rfl (.inl rfl) (.inl rfl) (by decide) (by decide))
  (sss_one (ss_set (i := 8) (Γ1 := [.rd, .fr, .rd, .rd, (.lst .fr), .fr, .fr, .fr, .fr, .any, .any, .any, .any]) (ee_q (oP os_mod (qe_callTy cg_int rfl G.b_int bt_int (qa_cons (qe_ix (t' := .fr) (m := true) rfl (vO (i := 4) rfl (.inr (.inl rfl)) rfl (fun z => nomatch z)) cI (fun _ => .inl rfl)) qa_nil)) cI)) rfl (.inl rfl) (.inl rfl) (by decide) (by decide)))))
  sss_nil)
  (sss_cons (Γ1 := [.rd, .fr, .rd, .rd, (.lst .fr), .fr, .fr, .fr, .fr, (.lst .fr), .any, .any, .any]) (ss_set (i := 9) (Γ1 := [.rd, .fr, .rd, .rd, (.lst .fr), .fr, .fr, .fr, .fr, .any, .any, .any, .any]) (ee_q (qe_lst (n := 0) (t := .fr) (m := true) qa_nil)) rfl (.inl rfl) (.inl rfl) (by decide) (by decide))
  (sss_cons (Γ1 := [.rd, .fr, .rd, .rd, (.lst .fr), .fr, .fr, .fr, .fr, (.lst .fr), .any, .any, .any]) (ss_for (Γ1 := [.rd, .fr, .rd, .rd, (.lst .fr), .fr, .fr, .fr, .fr, (.lst .fr), .fr, .any, .any]) (qi_range1 rfl G.b_range (qa_cons (vF (i := 8) rfl (.inl rfl) rfl) qa_nil)) (qg_name (i := 10) rfl (.inl rfl) (.inl rfl) (by decide) (.inl rfl)) (by decide)
  (sss_end (Γ1 := [.rd, .fr, .rd, .rd, (.lst .fr), .fr, .fr, .fr, .fr, (.lst .fr), .fr, .any, .fr]) (sss_cons (Γ1 := [.rd, .fr, .rd, .rd, (.lst .fr), .fr, .fr, .fr, .fr, (.lst .fr), .fr, .any, .fr]) (ss_set (i := 12) (Γ1 := [.rd, .fr, .rd, .rd, (.lst .fr), .fr, .fr, .fr, .fr, (.lst .fr), .fr, .any, .any]) (ee_q (oP os_mod (qe_callTy cg_int rfl G.b_int bt_int (qa_cons (oP os_add (oP os_mul (qe_ix (t' := .fr) (m := true) rfl (vO (i := 4) rfl (.inr (.inl rfl)) rfl (fun z => nomatch z)) (oP os_add cI (oP os_mul cI (vF (i := 10) rfl (.inl rfl) rfl))) (fun _ => .inl rfl)) cI) (qe_ix (t' := .fr) (m := true) rfl (vO (i := 4) rfl (.inr (.inl rfl)) rfl (fun z => nomatch z)) (oP os_add cI (oP os_mul cI (vF (i := 10) rfl (.inl rfl) rfl))) (fun _ => .inl rfl))) qa_nil)) (vR (i := 2) rfl (.inl rfl) rfl))) rfl (.inl rfl) (.inl rfl) (by decide) (by decide))
  (sss_one (ss_expr (ee_append (i := 9) (t0 := .fr) (t := .fr) rfl (.inl rfl) rfl (ee_q (qe_tup (n := 2) (m := true) (mm := true) (qa_cons (vF (i := 12) rfl (.inl rfl) rfl) (qa_cons (oP os_add (oP os_add (vF (i := 12) rfl (.inl rfl) rfl) cI) (oP os_mod (qe_callTy cg_int rfl G.b_int bt_int (qa_cons (oP os_add (oP os_mul (qe_ix (t' := .fr) (m := true) rfl (vO (i := 4) rfl (.inr (.inl rfl)) rfl (fun z => nomatch z)) (oP os_add cI (oP os_mul cI (vF (i := 10) rfl (.inl rfl) rfl))) (fun _ => .inl rfl)) cI) (qe_ix (t' := .fr) (m := true) rfl (vO (i := 4) rfl (.inr (.inl rfl)) rfl (fun z => nomatch z)) (oP os_add cI (oP os_mul cI (vF (i := 10) rfl (.inl rfl) rfl))) (fun _ => .inl rfl))) qa_nil)) (oP os_sub (vR (i := 2) rfl (.inl rfl) rfl) (vF (i := 12) rfl (.inl rfl) rfl)))) qa_nil)))) rfl)))) (.keep (.keep (.keep (.keep (.keep (.keep (.keep (.keep (.keep (.keep (.any (.keep (.any .nil)))))))))))))))
  (sss_cons (Γ1 := [.rd, .fr, .rd, .rd, (.lst .fr), .fr, .fr, .fr, .fr, (.lst .fr), .any, (.lst .fr), .any]) (ss_setLc (i := 11) (own := [("_law_k", 10)]) (qi_range1 rfl G.b_range (qa_cons (vF (i := 5) rfl (.inl rfl) rfl) qa_nil)) rfl (by decide) (by decide) (qg_name (i := 10) rfl (.inl rfl) (.inr rfl) (by decide) (.inl rfl)) qts_nil (qe_ix (t' := .fr) (m := true) rfl (vF (i := 1) rfl (.inr (.inl rfl)) rfl) (oP os_mod (qe_callTy cg_int rfl G.b_int bt_int (qa_cons (qe_ix (t' := .fr) (m := true) rfl (vO (i := 4) rfl (.inr (.inl rfl)) rfl (fun z => nomatch z)) (oP os_add cI (vF (i := 10) rfl (.inl rfl) rfl)) (fun _ => .inl rfl)) qa_nil)) (qe_callB cg_len rfl G.b_len bt_len (qa_cons (vF (i := 1) rfl (.inr (.inl rfl)) rfl) qa_nil))) (fun _ => .inl rfl)) rfl rfl (by decide) (by decide) rfl rfl (by decide +kernel))
  (sss_one (ss_ret (Γ1 := [.rd, .fr, .rd, .rd, (.lst .fr), .fr, .fr, .fr, .fr, (.lst .fr), .any, (.lst .fr), .any]) (ee_q (qe_tup (n := 4) (m := true) (mm := true) (qa_cons (qe_callTy (cg_tupleOf (.inr rfl)) rfl G.b_tuple bt_tuple (qa_cons (vO (i := 11) rfl (.inl rfl) rfl (fun z => nomatch z)) qa_nil)) (qa_cons (vF (i := 6) rfl (.inl rfl) rfl) (qa_cons (vF (i := 7) rfl (.inl rfl) rfl) (qa_cons (qe_callTy (cg_tupleOf (.inr rfl)) rfl G.b_tuple bt_tuple (qa_cons (vO (i := 9) rfl (.inl rfl) rfl (fun z => nomatch z)) qa_nil)) qa_nil)))))) (Wk.an rfl))))))))))))
/-! _law_rota -/
abbrev N__law_rota : List Str := ["_law_script", "_law_at", "_law_name", "_law_crew", "_law_days", "_law_size", "_law_draws_here", "_law_many", "_law_some", "_law_layers", "_law_standins", "_law_k", "_law_first"]
theorem sc__law_rota : FnScope N__law_rota ["_law_script", "_law_at", "_law_name", "_law_crew", "_law_days", "_law_size"] (defScope (top 14)) := ⟨rfl, rfl, rfl, by decide +kernel, rfl, by decide +kernel, by decide +kernel⟩
def lp1__law_rota : Env' → Option (Out × Env') :=
  (seqS (setS 12 (liftQ (op2 modD (apA (consA (op2 ixD (getV 6) (op2 addD (kD' (.int 2)) (op2 mulD (kD' (.int 3)) (getV 11)))) nilA) intD) (kD' (.int 30)))))
  (seqS (ifS (tB (op2 eqD (getV 5) (kD' (.int 2))))
  (setS 12 (liftQ (op2 mulD (kD' (.int 3)) (apA (consA (op2 ixD (getV 6) (op2 addD (kD' (.int 2)) (op2 mulD (kD' (.int 3)) (getV 11)))) nilA) intD))))
  nilS)
  (expS (appS 10 (liftQ (tupD (consA (getV 12) (consA (op2 addD (op2 addD (getV 12) (kD' (.int 1))) (op2 modD (apA (consA (op2 ixD (getV 6) (op2 addD (kD' (.int 3)) (op2 mulD (kD' (.int 3)) (getV 11)))) nilA) intD) (kD' (.int 12)))) (consA (op2 ixD (getV 3) (op2 modD (apA (consA (op2 ixD (getV 6) (op2 addD (kD' (.int 4)) (op2 mulD (kD' (.int 3)) (getV 11)))) nilA) intD) (apA (consA (getV 3) nilA) lenD))) nilA)))))))))
def b__law_rota : Env' → Option (Out × Env') :=
  (seqS (setS 6 (liftQ (apA (consA (apA (consA (getV 0) (consA (getV 1) nilA)) m__law_cell) (consA (kD' (.int 62)) nilA)) m__law_draws)))
  (seqS (setS 7 (liftQ (op2 ixD (lstD (consA (kD' (.int 0)) (consA (kD' (.int 1)) (consA (kD' (.int 1)) (consA (kD' (.int 1)) (consA (kD' (.int 2)) (consA (kD' (.int 2)) (consA (kD' (.int 2)) (consA (kD' (.int 3)) nilA))))))))) (op2 modD (apA (consA (op2 ixD (getV 6) (kD' (.int 0))) nilA) intD) (kD' (.int 8))))))
  (seqS (setS 8 (liftQ (op2 modD (apA (consA (op2 ixD (getV 6) (kD' (.int 1))) nilA) intD) (kD' (.int 4)))))
  (seqS (ifS (tB (op2 eqD (getV 5) (kD' (.int 2))))
  (seqS (setS 7 (liftQ (op2 modD (apA (consA (op2 ixD (getV 6) (kD' (.int 0))) nilA) intD) (kD' (.int 7)))))
  (setS 8 (liftQ (op2 modD (apA (consA (op2 ixD (getV 6) (kD' (.int 1))) nilA) intD) (kD' (.int 21))))))
  nilS)
  (seqS (setS 9 (liftQ (lcD (rnF (consA (getV 7) nilA) rng1) (gSet 11) trueT (apA (consA (apA (consA (getV 0) (consA (op2 addD (op2 addD (getV 1) (kD' (.int 1))) (getV 11)) nilA)) m__law_cell) (consA (getV 3) (consA (getV 4) (consA (getV 5) nilA)))) m__law_layer))))
  (seqS (setS 10 (liftQ (lstD nilA)))
  (seqS (forS (rnF (consA (getV 8) nilA) rng1) (gSet 11)
  lp1__law_rota)
  (retS (liftQ (tupD (consA (getV 2) (consA (apA (consA (getV 9) nilA) tupleD) (consA (apA (consA (getV 10) nilA) tupleD) nilA)))))))))))))
def m__law_rota : List D → Option D := runF 13 false b__law_rota
theorem ok__law_rota (G : Facts K mg) : Fx PW w K mg base 3 "_law_rota" [.rd, .rd, .fr, .fr, .rd, .rd] .fr m__law_rota :=
  fx_of (N := N__law_rota) (falls := false) (fb := b__law_rota) (Γe := [.any, .any, .any, .any, .any, .any, .any, .any, .any, .any, .any, .any, .any]) G.d__law_rota sc__law_rota rfl (.inl rfl) .fr (fun _ _ _ _ _ _ us hl => match us, hl with | [_, _, _, _, _, _], _ => rfl)
  (sss_cons (Γ1 := [.rd, .rd, .fr, .fr, .rd, .rd, (.lst .fr), .any, .any, .any, .any, .any, .any]) (ss_set (i := 6) (Γ1 := [.rd, .rd, .fr, .fr, .rd, .rd, .any, .any, .any, .any, .any, .any, .any]) (ee_q (qe_fx (ok__law_draws G) (Nat.le_of_ble_eq_true rfl) rfl (qa_cons (qe_fx (ok__law_cell G) (Nat.le_of_ble_eq_true rfl) rfl (qa_cons (vR (i := 0) rfl (.inr (.inl rfl)) rfl) (qa_cons (vR (i := 1) rfl (.inr (.inl rfl)) rfl) qa_nil)) (.rd (.rd .nil))) (qa_cons cI qa_nil)) (.rd (.rd .nil)))) rfl (.inl rfl) (.inl rfl) (by decide) (by decide))
  (sss_cons (Γ1 := [.rd, .rd, .fr, .fr, .rd, .rd, (.lst .fr), .fr, .any, .any, .any, .any, .any]) (ss_set (i := 7) (Γ1 := [.rd, .rd, .fr, .fr, .rd, .rd, (.lst .fr), .any, .any, .any, .any, .any, .any]) (ee_q (qe_ix (t' := .fr) (m := true) rfl (qe_lst (n := 8) (t := .fr) (m := true) (qa_cons cI (qa_cons cI (qa_cons cI (qa_cons cI (qa_cons cI (qa_cons cI (qa_cons cI (qa_cons cI qa_nil))))))))) (oP os_mod (qe_callTy cg_int rfl G.b_int bt_int (qa_cons (qe_ix (t' := .fr) (m := true) rfl (vO (i := 6) rfl (.inl rfl) rfl (fun z => nomatch z)) cI (fun _ => .inl rfl)) qa_nil)) cI) (fun _ => .inl rfl))) rfl (.inl rfl) (.inl rfl) (by decide) (by decide))
  (sss_cons (Γ1 := [.rd, .rd, .fr, .fr, .rd, .rd, (.lst .fr), .fr, .fr, .any, .any, .any, .any]) (ss_set (i := 8) (Γ1 := [.rd, .rd, .fr, .fr, .rd, .rd, (.lst .fr), .fr, .any, .any, .any, .any, .any]) (ee_q (oP os_mod (qe_callTy cg_int rfl G.b_int bt_int (qa_cons (qe_ix (t' := .fr) (m := true) rfl (vO (i := 6) rfl (.inl rfl) rfl (fun z => nomatch z)) cI (fun _ => .inl rfl)) qa_nil)) cI)) rfl (.inl rfl) (.inl rfl) (by decide) (by decide))
  (sss_cons (Γ1 := [.rd, .rd, .fr, .fr, .rd, .rd, (.lst .fr), .fr, .fr, .any, .any, .any, .any]) (ss_if (qt_cmp os_eq (vR (i := 5) rfl (.inr (.inl rfl)) rfl) cI)
  (sss_cons (Γ1 := [.rd, .rd, .fr, .fr, .rd, .rd, (.lst .fr), .fr, .fr, .any, .any, .any, .any]) (ss_set (i := 7) (Γ1 := [.rd, .rd, .fr, .fr, .rd, .rd, (.lst .fr), .fr, .fr, .any, .any, .any, .any]) (ee_q (oP os_mod (qe_callTy cg_int rfl G.b_int bt_int (qa_cons (qe_ix (t' := .fr) (m := true) rfl (vO (i := 6) rfl (.inl rfl) rfl (fun z => nomatch z)) cI (fun _ => .inl rfl)) qa_nil)) cI)) rfl (.inl rfl) (.inl rfl) (by decide) (by decide))
  (sss_one (ss_set (i := 8) (Γ1 := [.rd, .rd, .fr, .fr, .rd, .rd, (.lst .fr), .fr, .fr, .any, .any, .any, .any]) (ee_q (oP os_mod (qe_callTy cg_int rfl G.b_int bt_int (qa_cons (qe_ix (t' := .fr) (m := true) rfl (vO (i := 6) rfl (.inl rfl) rfl (fun z => nomatch z)) cI (fun _ => .inl rfl)) qa_nil)) cI)) rfl (.inl rfl) (.inl rfl) (by decide) (by decide))))
  sss_nil)
  (sss_cons (Γ1 := [.rd, .rd, .fr, .fr, .rd, .rd, (.lst .fr), .fr, .fr, (.lst .fr), .any, .any, .any]) (ss_setLc (i := 9) (own := [("_law_k", 11)]) (qi_range1 rfl G.b_range (qa_cons (vF (i := 7) rfl (.inl rfl) rfl) qa_nil)) rfl (by decide) (by decide) (qg_name (i := 11) rfl (.inl rfl) (.inr rfl) (by decide) (.inl rfl)) qts_nil (qe_fx (ok__law_layer G) (Nat.le_of_ble_eq_true rfl) rfl (qa_cons (qe_fx (ok__law_cell G) (Nat.le_of_ble_eq_true rfl) rfl (qa_cons (vR (i := 0) rfl (.inr (.inl rfl)) rfl) (qa_cons (oP os_add (oP os_add (vR (i := 1) rfl (.inr (.inl rfl)) rfl) cI) (vF (i := 11) rfl (.inl rfl) rfl)) qa_nil)) (.rd (.rd .nil))) (qa_cons (vF (i := 3) rfl (.inr (.inl rfl)) rfl) (qa_cons (vR (i := 4) rfl (.inr (.inl rfl)) rfl) (qa_cons (vR (i := 5) rfl (.inr (.inl rfl)) rfl) qa_nil)))) (.rd (.fr (.rd (.rd .nil))))) rfl rfl (by decide) (by decide) rfl rfl (by decide +kernel))
  (sss_cons (Γ1 := [.rd, .rd, .fr, .fr, .rd, .rd, (.lst .fr), .fr, .fr, (.lst .fr), (.lst .fr), .any, .any]) (ss_set (i := 10) (Γ1 := [.rd, .rd, .fr, .fr, .rd, .rd, (.lst .fr), .fr, .fr, (.lst .fr), .any, .any, .any]) (ee_q (qe_lst (n := 0) (t := .fr) (m := true) qa_nil)) rfl (.inl rfl) (.inl rfl) (by decide) (by decide))
  (sss_cons (Γ1 := [.rd, .rd, .fr, .fr, .rd, .rd, (.lst .fr), .fr, .fr, (.lst .fr), (.lst .fr), .any, .any]) (ss_for (Γ1 := [.rd, .rd, .fr, .fr, .rd, .rd, (.lst .fr), .fr, .fr, (.lst .fr), (.lst .fr), .fr, .any]) (qi_range1 rfl G.b_range (qa_cons (vF (i := 8) rfl (.inl rfl) rfl) qa_nil)) (qg_name (i := 11) rfl (.inl rfl) (.inl rfl) (by decide) (.inl rfl)) (by decide)
  (sss_end (Γ1 := [.rd, .rd, .fr, .fr, .rd, .rd, (.lst .fr), .fr, .fr, (.lst .fr), (.lst .fr), .fr, .fr]) (sss_cons (Γ1 := [.rd, .rd, .fr, .fr, .rd, .rd, (.lst .fr), .fr, .fr, (.lst .fr), (.lst .fr), .fr, .fr]) (ss_set (i := 12) (Γ1 := [.rd, .rd, .fr, .fr, .rd, .rd, (.lst .fr), .fr, .fr, (.lst .fr), (.lst .fr), .fr, .any]) (ee_q (oP os_mod (qe_callTy cg_int rfl G.b_int bt_int (qa_cons (qe_ix (t' := .fr) (m := true) rfl (vO (i := 6) rfl (.inl rfl) rfl (fun z => nomatch z)) (oP os_add cI (oP os_mul cI (vF (i := 11) rfl (.inl rfl) rfl))) (fun _ => .inl rfl)) qa_nil)) cI)) rfl (.inl rfl) (.inl rfl) (by decide) (by decide))
  (sss_cons (Γ1 := [.rd, .rd, .fr, .fr, .rd, .rd, (.lst .fr), .fr, .fr, (.lst .fr), (.lst .fr), .fr, .fr]) (ss_if (qt_cmp os_eq (vR (i := 5) rfl (.inr (.inl rfl)) rfl) cI)
  (sss_one (ss_set (i := 12) (Γ1 := [.rd, .rd, .fr, .fr, .rd, .rd, (.lst .fr), .fr, .fr, (.lst .fr), (.lst .fr), .fr, .fr]) (ee_q (oP os_mul cI (qe_callTy cg_int rfl G.b_int bt_int (qa_cons (qe_ix (t' := .fr) (m := true) rfl (vO (i := 6) rfl (.inl rfl) rfl (fun z => nomatch z)) (oP os_add cI (oP os_mul cI (vF (i := 11) rfl (.inl rfl) rfl))) (fun _ => .inl rfl)) qa_nil)))) rfl (.inl rfl) (.inl rfl) (by decide) (by decide)))
  sss_nil)
  (sss_one (ss_expr (ee_append (i := 10) (t0 := .fr) (t := .fr) rfl (.inl rfl) rfl (ee_q (qe_tup (n := 3) (m := true) (mm := true) (qa_cons (vF (i := 12) rfl (.inl rfl) rfl) (qa_cons (oP os_add (oP os_add (vF (i := 12) rfl (.inl rfl) rfl) cI) (oP os_mod (qe_callTy cg_int rfl G.b_int bt_int (qa_cons (qe_ix (t' := .fr) (m := true) rfl (vO (i := 6) rfl (.inl rfl) rfl (fun z => nomatch z)) (oP os_add cI (oP os_mul cI (vF (i := 11) rfl (.inl rfl) rfl))) (fun _ => .inl rfl)) qa_nil)) cI)) (qa_cons (qe_ix (t' := .fr) (m := true) rfl (vF (i := 3) rfl (.inr (.inl rfl)) rfl) (oP os_mod (qe_callTy cg_int rfl G.b_int bt_int (qa_cons (qe_ix (t' := .fr) (m := true) rfl (vO (i := 6) rfl (.inl rfl) rfl (fun z => nomatch z)) (oP os_add cI (oP os_mul cI (vF (i := 11) rfl (.inl rfl) rfl))) (fun _ => .inl rfl)) qa_nil)) (qe_callB cg_len rfl G.b_len bt_len (qa_cons (vF (i := 3) rfl (.inr (.inl rfl)) rfl) qa_nil))) (fun _ => .inl rfl)) qa_nil))))) rfl))))) (.keep (.keep (.keep (.keep (.keep (.keep (.keep (.keep (.keep (.keep (.keep (.any (.any .nil)))))))))))))))
  (sss_one (ss_ret (Γ1 := [.rd, .rd, .fr, .fr, .rd, .rd, (.lst .fr), .fr, .fr, (.lst .fr), (.lst .fr), .any, .any]) (ee_q (qe_tup (n := 3) (m := true) (mm := true) (qa_cons (vF (i := 2) rfl (.inl rfl) rfl) (qa_cons (qe_callTy (cg_tupleOf (.inr rfl)) rfl G.b_tuple bt_tuple (qa_cons (vO (i := 9) rfl (.inl rfl) rfl (fun z => nomatch z)) qa_nil)) (qa_cons (qe_callTy (cg_tupleOf (.inr rfl)) rfl G.b_tuple bt_tuple (qa_cons (vO (i := 10) rfl (.inl rfl) rfl (fun z => nomatch z)) qa_nil)) qa_nil))))) (Wk.an rfl))))))))))
/-! _law_range -/
abbrev N__law_range : List Str := ["_law_cell_here", "_law_size", "_law_draws_here", "_law_first", "_law_many"]
theorem sc__law_range : FnScope N__law_range ["_law_cell_here", "_law_size"] (defScope (top 18)) := ⟨rfl, rfl, rfl, by decide +kernel, rfl, by decide +kernel, by decide +kernel⟩
def b__law_range : Env' → Option (Out × Env') :=
  (seqS (setS 2 (liftQ (apA (consA (getV 0) (consA (kD' (.int 5)) nilA)) m__law_draws)))
  (seqS (setS 3 (liftQ (op2 modD (apA (consA (op2 ixD (getV 2) (kD' (.int 0))) nilA) intD) (kD' (.int 51)))))
  (seqS (setS 4 (liftQ (op2 modD (apA (consA (op2 ixD (getV 2) (kD' (.int 4))) nilA) intD) (kD' (.int 64)))))
  (seqS (ifS (tB (op2 eqD (getV 1) (kD' (.int 2))))
  (seqS (setS 3 (liftQ (op2 modD (apA (consA (op2 addD (op2 mulD (op2 ixD (getV 2) (kD' (.int 0))) (kD' (.int 1000))) (op2 ixD (getV 2) (kD' (.int 1)))) nilA) intD) (kD' (.int 4001)))))
  (setS 4 (liftQ (op2 modD (apA (consA (op2 ixD (getV 2) (kD' (.int 4))) nilA) intD) (kD' (.int 301))))))
  (ifS (tB (op2 eqD (op2 modD (apA (consA (op2 ixD (getV 2) (kD' (.int 3))) nilA) intD) (kD' (.int 5))) (kD' (.int 0))))
  (setS 3 (liftQ (op2 addD (op2 addD (op2 mulD (op2 ixD (getV 2) (kD' (.int 0))) (op2 powD (kD' (.int 10)) (kD' (.int 6)))) (op2 mulD (op2 ixD (getV 2) (kD' (.int 1))) (kD' (.int 1000)))) (op2 ixD (getV 2) (kD' (.int 2))))))
  nilS))
  (retS (liftQ (lstD (consA (getV 3) (consA (apA (consA (kD' (.int 0)) (consA (op2 subD (op2 addD (getV 3) (getV 4)) (kD' (.int 3))) nilA)) max2D) nilA)))))))))
def m__law_range : List D → Option D := runF 5 false b__law_range
theorem ok__law_range (G : Facts K mg) : Fx PW w K mg base 2 "_law_range" [.rd, .rd] (.lst .fr) m__law_range :=
  fx_of (N := N__law_range) (falls := false) (fb := b__law_range) (Γe := [.any, .any, .any, .any, .any]) G.d__law_range sc__law_range rfl (.inl rfl) (.lst .fr) (fun _ _ _ _ _ _ us hl => match us, hl with | [_, _], _ => rfl)
  (sss_cons (Γ1 := [.rd, .rd, (.lst .fr), .any, .any]) (ss_set (i := 2) (Γ1 := [.rd, .rd, .any, .any, .any]) (ee_q (qe_fx (ok__law_draws G) (Nat.le_of_ble_eq_true rfl) rfl (qa_cons (vR (i := 0) rfl (.inl rfl) rfl) (qa_cons cI qa_nil)) (.rd (.rd .nil)))) rfl (.inl rfl) (.inl rfl) (by decide) (by decide))
  (sss_cons (Γ1 := [.rd, .rd, (.lst .fr), .fr, .any]) (ss_set (i := 3) (Γ1 := [.rd, .rd, (.lst .fr), .any, .any]) (ee_q (oP os_mod (qe_callTy cg_int rfl G.b_int bt_int (qa_cons (qe_ix (t' := .fr) (m := true) rfl (vO (i := 2) rfl (.inl rfl) rfl (fun z => nomatch z)) cI (fun _ => .inl rfl)) qa_nil)) cI)) rfl (.inl rfl) (.inl rfl) (by decide) (by decide))
  (sss_cons (Γ1 := [.rd, .rd, (.lst .fr), .fr, .fr]) (ss_set (i := 4) (Γ1 := [.rd, .rd, (.lst .fr), .fr, .any]) (ee_q (oP os_mod (qe_callTy cg_int rfl G.b_int bt_int (qa_cons (qe_ix (t' := .fr) (m := true) rfl (vO (i := 2) rfl (.inl rfl) rfl (fun z => nomatch z)) cI (fun _ => .inl rfl)) qa_nil)) cI)) rfl (.inl rfl) (.inl rfl) (by decide) (by decide))
  (sss_cons (Γ1 := [.rd, .rd, (.lst .fr), .fr, .fr]) (ss_if (qt_cmp os_eq (vR (i := 1) rfl (.inl rfl) rfl) cI)
  (sss_cons (Γ1 := [.rd, .rd, (.lst .fr), .fr, .fr]) (ss_set (i := 3) (Γ1 := [.rd, .rd, (.lst .fr), .fr, .fr]) (ee_q (oP os_mod (qe_callTy cg_int rfl G.b_int bt_int (qa_cons (oP os_add (oP os_mul (qe_ix (t' := .fr) (m := true) rfl (vO (i := 2) rfl (.inl rfl) rfl (fun z => nomatch z)) cI (fun _ => .inl rfl)) cI) (qe_ix (t' := .fr) (m := true) rfl (vO (i := 2) rfl (.inl rfl) rfl (fun z => nomatch z)) cI (fun _ => .inl rfl))) qa_nil)) cI)) rfl (.inl rfl) (.inl rfl) (by decide) (by decide))
  (sss_one (ss_set (i := 4) (Γ1 := [.rd, .rd, (.lst .fr), .fr, .fr]) (ee_q (oP os_mod (qe_callTy cg_int rfl G.b_int bt_int (qa_cons (qe_ix (t' := .fr) (m := true) rfl (vO (i := 2) rfl (.inl rfl) rfl (fun z => nomatch z)) cI (fun _ => .inl rfl)) qa_nil)) cI)) rfl (.inl rfl) (.inl rfl) (by decide) (by decide))))
  (sss_one (ss_if (qt_cmp os_eq (oP os_mod (qe_callTy cg_int rfl G.b_int bt_int (qa_cons (qe_ix (t' := .fr) (m := true) rfl (vO (i := 2) rfl (.inl rfl) rfl (fun z => nomatch z)) cI (fun _ => .inl rfl)) qa_nil)) cI) cI)
  (sss_one (ss_set (i := 3) (Γ1 := [.rd, .rd, (.lst .fr), .fr, .fr]) (ee_q (oP os_add (oP os_add (oP os_mul (qe_ix (t' := .fr) (m := true) rfl (vO (i := 2) rfl (.inl rfl) rfl (fun z => nomatch z)) cI (fun _ => .inl rfl)) (oP os_pow cI cI)) (oP os_mul (qe_ix (t' := .fr) (m := true) rfl (vO (i := 2) rfl (.inl rfl) rfl (fun z => nomatch z)) cI (fun _ => .inl rfl)) cI)) (qe_ix (t' := .fr) (m := true) rfl (vO (i := 2) rfl (.inl rfl) rfl (fun z => nomatch z)) cI (fun _ => .inl rfl)))) rfl (.inl rfl) (.inl rfl) (by decide) (by decide)))
  sss_nil)))
  (sss_one (ss_ret (Γ1 := [.rd, .rd, (.lst .fr), .fr, .fr]) (ee_q (qe_lst (n := 2) (t := .fr) (m := true) (qa_cons (vF (i := 3) rfl (.inl rfl) rfl) (qa_cons (qe_callB cg_max2 rfl G.b_max bt_max (qa_cons cI (qa_cons (oP os_sub (oP os_add (vF (i := 3) rfl (.inl rfl) rfl) (vF (i := 4) rfl (.inl rfl) rfl)) cI) qa_nil))) qa_nil)))) (Wk.an rfl)))))))
/-! _law_inside -/
abbrev N__law_inside : List Str := ["_law_days", "_law_spans", "_law_time", "_law_first", "_law_last"]
theorem sc__law_inside : FnScope N__law_inside ["_law_days", "_law_spans", "_law_time"] (defScope (top 15)) := ⟨rfl, rfl, rfl, by decide +kernel, rfl, by decide +kernel, by decide +kernel⟩
def lp1__law_inside : Env' → Option (Out × Env') :=
  (ifS (ch3 leD ltD (getV 3) (op2 modD (apA (consA (getV 2) nilA) intD) (getV 0)) (getV 4))
  (retS (liftQ (kD' (.bl true))))
  nilS)
def b__law_inside : Env' → Option (Out × Env') :=
  (seqS (forS (itF (getV 1)) (gUnp 2 (gsCons (gSet 3) (gsCons (gSet 4) gsNil)))
  lp1__law_inside)
  (retS (liftQ (kD' (.bl false)))))
def m__law_inside : List D → Option D := runF 5 false b__law_inside
theorem ok__law_inside (G : Facts K mg) : Fx PW w K mg base 1 "_law_inside" [.rd, .rd, .rd] .fr m__law_inside :=
  fx_of (N := N__law_inside) (falls := false) (fb := b__law_inside) (Γe := [.any, .any, .any, .any, .any]) G.d__law_inside sc__law_inside rfl (.inl rfl) .fr (fun _ _ _ _ _ _ us hl => match us, hl with | [_, _, _], _ => rfl)
  (sss_cons (Γ1 := [.rd, .rd, .rd, .any, .any]) (ss_for (Γ1 := [.rd, .rd, .rd, .rd, .rd]) (qi_seq (.inr rfl) (vR (i := 1) rfl (.inl rfl) rfl)) (qg_tup (.inr rfl) (qgs_cons (qg_name (i := 3) rfl (.inl rfl) (.inl rfl) (by decide) (.inr rfl)) (qgs_cons (qg_name (i := 4) rfl (.inl rfl) (.inl rfl) (by decide) (.inr rfl)) qgs_nil))) (by decide)
  (sss_end (Γ1 := [.rd, .rd, .rd, .rd, .rd]) (sss_one (ss_if (qt_chain os_le os_lt (vR (i := 3) rfl (.inl rfl) rfl) (oP os_mod (qe_callTy cg_int rfl G.b_int bt_int (qa_cons (vR (i := 2) rfl (.inl rfl) rfl) qa_nil)) (vR (i := 0) rfl (.inl rfl) rfl)) (vR (i := 4) rfl (.inl rfl) rfl))
  (sss_one (ss_ret (Γ1 := [.rd, .rd, .rd, .rd, .rd]) (ee_q cB) (Wk.an rfl)))
  sss_nil)) (.keep (.keep (.keep (.any (.any .nil)))))))
  (sss_one (ss_ret (Γ1 := [.rd, .rd, .rd, .any, .any]) (ee_q cB) (Wk.an rfl))))
/-! _law_member -/
abbrev N__law_member : List Str := ["_law_days", "_law_layer_here", "_law_time", "_law_members", "_law_start", "_law_shift", "_law_spans"]
theorem sc__law_member : FnScope N__law_member ["_law_days", "_law_layer_here", "_law_time"] (defScope (top 16)) := ⟨rfl, rfl, rfl, by decide +kernel, rfl, by decide +kernel, by decide +kernel⟩
def b__law_member : Env' → Option (Out × Env') :=
  (seqS (asgS (gUnp 4 (gsCons (gSet 3) (gsCons (gSet 4) (gsCons (gSet 5) (gsCons (gSet 6) gsNil))))) (liftQ (getV 1)))
  (seqS (ifS (tB (op2 ltD (getV 2) (getV 4)))
  (retS (liftQ (kD' .non)))
  nilS)
  (seqS (ifS (andB (tB (op2 gtD (apA (consA (getV 6) nilA) lenD) (kD' (.int 0)))) (tN (tV (apA (consA (getV 0) (consA (getV 6) (consA (getV 2) nilA))) m__law_inside))))
  (retS (liftQ (kD' .non)))
  nilS)
  (retS (liftQ (op2 ixD (getV 3) (op2 modD (apA (consA (op2 fdivD (op2 subD (getV 2) (getV 4)) (getV 5)) nilA) intD) (apA (consA (getV 3) nilA) lenD))))))))
def m__law_member : List D → Option D := runF 7 false b__law_member
theorem ok__law_member (G : Facts K mg) : Fx PW w K mg base 2 "_law_member" [.rd, .fr, .rd] .fr m__law_member :=
  fx_of (N := N__law_member) (falls := false) (fb := b__law_member) (Γe := [.any, .any, .any, .any, .any, .any, .any]) G.d__law_member sc__law_member rfl (.inl rfl) .fr (fun _ _ _ _ _ _ us hl => match us, hl with | [_, _, _], _ => rfl)
  (sss_cons (Γ1 := [.rd, .fr, .rd, .fr, .fr, .fr, .fr]) (ss_asg (Γ1 := [.rd, .fr, .rd, .any, .any, .any, .any]) (ee_q (vF (i := 1) rfl (.inl rfl) rfl)) (.inl rfl) (qg_tup (.inl rfl) (qgs_cons (qg_name (i := 3) rfl (.inl rfl) (.inl rfl) (by decide) (.inl rfl)) (qgs_cons (qg_name (i := 4) rfl (.inl rfl) (.inl rfl) (by decide) (.inl rfl)) (qgs_cons (qg_name (i := 5) rfl (.inl rfl) (.inl rfl) (by decide) (.inl rfl)) (qgs_cons (qg_name (i := 6) rfl (.inl rfl) (.inl rfl) (by decide) (.inl rfl)) qgs_nil))))) (by decide))
  (sss_cons (Γ1 := [.rd, .fr, .rd, .fr, .fr, .fr, .fr]) (ss_if (qt_cmp os_lt (vR (i := 2) rfl (.inl rfl) rfl) (vF (i := 4) rfl (.inl rfl) rfl))
  (sss_one (ss_ret (Γ1 := [.rd, .fr, .rd, .fr, .fr, .fr, .fr]) (ee_q cN) (Wk.an rfl)))
  sss_nil)
  (sss_cons (Γ1 := [.rd, .fr, .rd, .fr, .fr, .fr, .fr]) (ss_if (QW.qt (qw_and (qt_cmp os_gt (qe_callB cg_len rfl G.b_len bt_len (qa_cons (vF (i := 6) rfl (.inl rfl) rfl) qa_nil)) cI) (qw_and1 (qt_not (qt_val (qe_fx (ok__law_inside G) (Nat.le_of_ble_eq_true rfl) rfl (qa_cons (vR (i := 0) rfl (.inl rfl) rfl) (qa_cons (vF (i := 6) rfl (.inl rfl) rfl) (qa_cons (vR (i := 2) rfl (.inl rfl) rfl) qa_nil))) (.rd (.rd (.rd .nil)))))))))
  (sss_one (ss_ret (Γ1 := [.rd, .fr, .rd, .fr, .fr, .fr, .fr]) (ee_q cN) (Wk.an rfl)))
  sss_nil)
  (sss_one (ss_ret (Γ1 := [.rd, .fr, .rd, .fr, .fr, .fr, .fr]) (ee_q (qe_ix (t' := .fr) (m := true) rfl (vF (i := 3) rfl (.inl rfl) rfl) (oP os_mod (qe_callTy cg_int rfl G.b_int bt_int (qa_cons (oP os_fdiv (oP os_sub (vR (i := 2) rfl (.inl rfl) rfl) (vF (i := 4) rfl (.inl rfl) rfl)) (vF (i := 5) rfl (.inl rfl) rfl)) qa_nil)) (qe_callB cg_len rfl G.b_len bt_len (qa_cons (vF (i := 3) rfl (.inl rfl) rfl) qa_nil))) (fun _ => .inl rfl))) (Wk.an rfl))))))
/-! _law_on -/
abbrev N__law_on : List Str := ["_law_days", "_law_rota_here", "_law_time", "_law_person", "_law_layer_here", "_law_who", "_law_first", "_law_last"]
theorem sc__law_on : FnScope N__law_on ["_law_days", "_law_rota_here", "_law_time"] (defScope (top 17)) := ⟨rfl, rfl, rfl, by decide +kernel, rfl, by decide +kernel, by decide +kernel⟩
def lp1__law_on : Env' → Option (Out × Env') :=
  (seqS (setS 5 (liftQ (apA (consA (getV 0) (consA (getV 4) (consA (getV 2) nilA))) m__law_member)))
  (ifS (tB (op2 isntD (getV 5) (kD' .non)))
  (setS 3 (liftQ (getV 5)))
  nilS))
def lp2__law_on : Env' → Option (Out × Env') :=
  (ifS (ch3 leD ltD (getV 6) (getV 2) (getV 7))
  (setS 3 (liftQ (getV 5)))
  nilS)
def b__law_on : Env' → Option (Out × Env') :=
  (seqS (setS 3 (liftQ (kD' .non)))
  (seqS (forS (itF (op2 ixD (getV 1) (kD' (.int 1)))) (gSet 4)
  lp1__law_on)
  (seqS (forS (itF (op2 ixD (getV 1) (kD' (.int 2)))) (gUnp 3 (gsCons (gSet 6) (gsCons (gSet 7) (gsCons (gSet 5) gsNil))))
  lp2__law_on)
  (retS (liftQ (getV 3))))))
def m__law_on : List D → Option D := runF 8 false b__law_on
theorem ok__law_on (G : Facts K mg) : Fx PW w K mg base 3 "_law_on" [.rd, .fr, .rd] .fr m__law_on :=
  fx_of (N := N__law_on) (falls := false) (fb := b__law_on) (Γe := [.any, .any, .any, .any, .any, .any, .any, .any]) G.d__law_on sc__law_on rfl (.inl rfl) .fr (fun _ _ _ _ _ _ us hl => match us, hl with | [_, _, _], _ => rfl)
  (sss_cons (Γ1 := [.rd, .fr, .rd, .fr, .any, .any, .any, .any]) (ss_set (i := 3) (Γ1 := [.rd, .fr, .rd, .any, .any, .any, .any, .any]) (ee_q cN) rfl (.inl rfl) (.inl rfl) (by decide) (by decide))
  (sss_cons (Γ1 := [.rd, .fr, .rd, .fr, .any, .any, .any, .any]) (ss_for (Γ1 := [.rd, .fr, .rd, .fr, .fr, .any, .any, .any]) (qi_seq (.inl rfl) (qe_ix (t' := .fr) (m := true) rfl (vF (i := 1) rfl (.inl rfl) rfl) cI (fun _ => .inl rfl))) (qg_name (i := 4) rfl (.inl rfl) (.inl rfl) (by decide) (.inl rfl)) (by decide)
  (sss_end (Γ1 := [.rd, .fr, .rd, .fr, .fr, .fr, .any, .any]) (sss_cons (Γ1 := [.rd, .fr, .rd, .fr, .fr, .fr, .any, .any]) (ss_set (i := 5) (Γ1 := [.rd, .fr, .rd, .fr, .fr, .any, .any, .any]) (ee_q (qe_fx (ok__law_member G) (Nat.le_of_ble_eq_true rfl) rfl (qa_cons (vR (i := 0) rfl (.inl rfl) rfl) (qa_cons (vF (i := 4) rfl (.inl rfl) rfl) (qa_cons (vR (i := 2) rfl (.inl rfl) rfl) qa_nil))) (.rd (.fr (.rd .nil))))) rfl (.inl rfl) (.inl rfl) (by decide) (by decide))
  (sss_one (ss_if (qt_cmp os_isnt (vF (i := 5) rfl (.inl rfl) rfl) cN)
  (sss_one (ss_set (i := 3) (Γ1 := [.rd, .fr, .rd, .fr, .fr, .fr, .any, .any]) (ee_q (vF (i := 5) rfl (.inl rfl) rfl)) rfl (.inl rfl) (.inl rfl) (by decide) (by decide)))
  sss_nil))) (.keep (.keep (.keep (.keep (.any (.any (.keep (.keep .nil))))))))))
  (sss_cons (Γ1 := [.rd, .fr, .rd, .fr, .any, .any, .any, .any]) (ss_for (Γ1 := [.rd, .fr, .rd, .fr, .any, .fr, .fr, .fr]) (qi_seq (.inl rfl) (qe_ix (t' := .fr) (m := true) rfl (vF (i := 1) rfl (.inl rfl) rfl) cI (fun _ => .inl rfl))) (qg_tup (.inl rfl) (qgs_cons (qg_name (i := 6) rfl (.inl rfl) (.inl rfl) (by decide) (.inl rfl)) (qgs_cons (qg_name (i := 7) rfl (.inl rfl) (.inl rfl) (by decide) (.inl rfl)) (qgs_cons (qg_name (i := 5) rfl (.inl rfl) (.inl rfl) (by decide) (.inl rfl)) qgs_nil)))) (by decide)
  (sss_end (Γ1 := [.rd, .fr, .rd, .fr, .any, .fr, .fr, .fr]) (sss_one (ss_if (qt_chain os_le os_lt (vF (i := 6) rfl (.inl rfl) rfl) (vR (i := 2) rfl (.inl rfl) rfl) (vF (i := 7) rfl (.inl rfl) rfl))
  (sss_one (ss_set (i := 3) (Γ1 := [.rd, .fr, .rd, .fr, .any, .fr, .fr, .fr]) (ee_q (vF (i := 5) rfl (.inl rfl) rfl)) rfl (.inl rfl) (.inl rfl) (by decide) (by decide)))
  sss_nil)) (.keep (.keep (.keep (.keep (.keep (.any (.any (.any .nil))))))))))
  (sss_one (ss_ret (Γ1 := [.rd, .fr, .rd, .fr, .any, .any, .any, .any]) (ee_q (vF (i := 3) rfl (.inl rfl) rfl)) (Wk.an rfl))))))
/-! _law_counts -/
abbrev N__law_counts : List Str := ["_law_days", "_law_rota_here", "_law_first", "_law_last", "_law_order", "_law_counts_here", "_law_nobody", "_law_time", "_law_person"]
theorem sc__law_counts : FnScope N__law_counts ["_law_days", "_law_rota_here", "_law_first", "_law_last"] (defScope (top 20)) := ⟨rfl, rfl, rfl, by decide +kernel, rfl, by decide +kernel, by decide +kernel⟩
def lp1__law_counts : Env' → Option (Out × Env') :=
  (seqS (setS 8 (liftQ (apA (consA (getV 0) (consA (getV 1) (consA (getV 7) nilA))) m__law_on)))
  (ifS (tB (op2 isD (getV 8) (kD' .non)))
  (setS 6 (liftQ (op2 addD (getV 6) (kD' (.int 1)))))
  (ifS (tB (op2 inD (getV 8) (getV 4)))
  (dputS 5 (liftQ (op2 addD (op2 dgetD (getV 5) (getV 8)) (kD' (.int 1)))) (getV 8))
  (seqS (expS (appS 4 (liftQ (getV 8))))
  (dputS 5 (liftQ (kD' (.int 1))) (getV 8))))))
def b__law_counts : Env' → Option (Out × Env') :=
  (seqS (setS 4 (liftQ (lstD nilA)))
  (seqS (setS 5 (liftQ newDct))
  (seqS (setS 6 (liftQ (kD' (.int 0))))
  (seqS (forS (rnF (consA (getV 2) (consA (getV 3) nilA)) rng2) (gSet 7)
  lp1__law_counts)
  (retS (liftQ (tupD (consA (lcD (itF (getV 4)) (gSet 8) trueT (tupD (consA (getV 8) (consA (op2 dgetD (getV 5) (getV 8)) nilA)))) (consA (getV 6) nilA)))))))))
def m__law_counts : List D → Option D := runF 9 false b__law_counts
theorem ok__law_counts (G : Facts K mg) : Fx PW w K mg base 4 "_law_counts" [.rd, .fr, .rd, .rd] (.tup [(.lst .fr), .fr]) m__law_counts :=
  fx_of (N := N__law_counts) (falls := false) (fb := b__law_counts) (Γe := [.any, .any, .any, .any, .any, .any, .any, .any, .any]) G.d__law_counts sc__law_counts rfl (.inl rfl) (.tup (fzc (.lst .fr) (fzc .fr fzn))) (fun _ _ _ _ _ _ us hl => match us, hl with | [_, _, _, _], _ => rfl)
  (sss_cons (Γ1 := [.rd, .fr, .rd, .rd, (.lst .fr), .any, .any, .any, .any]) (ss_set (i := 4) (Γ1 := [.rd, .fr, .rd, .rd, .any, .any, .any, .any, .any]) (ee_q (qe_lst (n := 0) (t := .fr) (m := true) qa_nil)) rfl (.inl rfl) (.inl rfl) (by decide) (by decide))
  (sss_cons (Γ1 := [.rd, .fr, .rd, .rd, (.lst .fr), (.dct .fr), .any, .any, .any]) (ss_set (i := 5) (Γ1 := [.rd, .fr, .rd, .rd, (.lst .fr), .any, .any, .any, .any]) (ee_q (qe_dnew (t := .fr))) rfl (.inr rfl) (.inl rfl) (by decide) (by decide))
  (sss_cons (Γ1 := [.rd, .fr, .rd, .rd, (.lst .fr), (.dct .fr), .fr, .any, .any]) (ss_set (i := 6) (Γ1 := [.rd, .fr, .rd, .rd, (.lst .fr), (.dct .fr), .any, .any, .any]) (ee_q cI) rfl (.inl rfl) (.inl rfl) (by decide) (by decide))
  (sss_cons (Γ1 := [.rd, .fr, .rd, .rd, (.lst .fr), (.dct .fr), .fr, .any, .any]) (ss_for (Γ1 := [.rd, .fr, .rd, .rd, (.lst .fr), (.dct .fr), .fr, .fr, .any]) (qi_range2 rfl G.b_range (qa_cons (vR (i := 2) rfl (.inl rfl) rfl) (qa_cons (vR (i := 3) rfl (.inl rfl) rfl) qa_nil))) (qg_name (i := 7) rfl (.inl rfl) (.inl rfl) (by decide) (.inl rfl)) (by decide)
  (sss_end (Γ1 := [.rd, .fr, .rd, .rd, (.lst .fr), (.dct .fr), .fr, .fr, .fr]) (sss_cons (Γ1 := [.rd, .fr, .rd, .rd, (.lst .fr), (.dct .fr), .fr, .fr, .fr]) (ss_set (i := 8) (Γ1 := [.rd, .fr, .rd, .rd, (.lst .fr), (.dct .fr), .fr, .fr, .any]) (ee_q (qe_fx (ok__law_on G) (Nat.le_of_ble_eq_true rfl) rfl (qa_cons (vR (i := 0) rfl (.inl rfl) rfl) (qa_cons (vF (i := 1) rfl (.inl rfl) rfl) (qa_cons (vF (i := 7) rfl (.inl rfl) rfl) qa_nil))) (.rd (.fr (.rd .nil))))) rfl (.inl rfl) (.inl rfl) (by decide) (by decide))
  (sss_one (ss_if (qt_cmp os_is (vF (i := 8) rfl (.inl rfl) rfl) cN)
  (sss_one (ss_set (i := 6) (Γ1 := [.rd, .fr, .rd, .rd, (.lst .fr), (.dct .fr), .fr, .fr, .fr]) (ee_q (oP os_add (vF (i := 6) rfl (.inl rfl) rfl) cI)) rfl (.inl rfl) (.inl rfl) (by decide) (by decide)))
  (sss_one (ss_if (qt_cmp os_in (vF (i := 8) rfl (.inl rfl) rfl) (vO (i := 4) rfl (.inl rfl) rfl (fun z => nomatch z)))
  (sss_one (ss_dput (i := 5) rfl (.inr (.inl rfl)) (ee_q (oP os_add (qe_dget (m := true) (.inr (.inr ⟨rfl, rfl⟩)) (vO (i := 5) rfl (.inr (.inl rfl)) rfl (fun z => nomatch z)) (vF (i := 8) rfl (.inl rfl) rfl)) cI)) rfl (vF (i := 8) rfl (.inl rfl) rfl)))
  (sss_cons (Γ1 := [.rd, .fr, .rd, .rd, (.lst .fr), (.dct .fr), .fr, .fr, .fr]) (ss_expr (ee_append (i := 4) (t0 := .fr) (t := .fr) rfl (.inl rfl) rfl (ee_q (vF (i := 8) rfl (.inl rfl) rfl)) rfl))
  (sss_one (ss_dput (i := 5) rfl (.inr (.inl rfl)) (ee_q cI) rfl (vF (i := 8) rfl (.inl rfl) rfl))))))))) (.keep (.keep (.keep (.keep (.keep (.keep (.keep (.any (.any .nil)))))))))))
  (sss_fz (i := 4) (t := (.lst .fr)) rfl (.lst .fr) (sss_one (ss_ret (Γ1 := [.rd, .fr, .rd, .rd, .fr, (.dct .fr), .fr, .any, .any]) (ee_q (qe_tupO (qa_cons (qe_lc (own := [("_law_person", 8)]) (qi_seq (.inl rfl) (vF (i := 4) rfl (.inl rfl) rfl)) rfl (by decide) (by decide) (qg_name (i := 8) rfl (.inl rfl) (.inr rfl) (by decide) (.inl rfl)) qts_nil (qe_tup (n := 2) (m := true) (mm := true) (qa_cons (vF (i := 8) rfl (.inl rfl) rfl) (qa_cons (qe_dget (m := true) (.inr (.inr ⟨rfl, rfl⟩)) (vO (i := 5) rfl (.inr (.inl rfl)) rfl (fun z => nomatch z)) (vF (i := 8) rfl (.inl rfl) rfl)) qa_nil)))) (qa_cons (vF (i := 6) rfl (.inl rfl) rfl) qa_nil)))) (Wk.an rfl))))))))
/-! in_spans -/
abbrev N_in_spans : List Str := ["week", "spans", "time", "first", "last"]
theorem sc_in_spans : FnScope N_in_spans ["week", "spans", "time"] (defScope (top 1)) := ⟨rfl, rfl, rfl, by decide +kernel, rfl, by decide +kernel, by decide +kernel⟩
def b_in_spans : Env' → Option (Out × Env') :=
  (retS (liftQ (apA (consA (lcD (itF (getV 1)) (gUnp 2 (gsCons (gSet 3) (gsCons (gSet 4) gsNil))) trueT (ch3V leD ltD (getV 3) (op2 modD (getV 2) (getV 0)) (getV 4))) nilA) anyD)))
def m_in_spans : List D → Option D := runF 5 false b_in_spans
theorem ok_in_spans (G : Facts K mg) : Fx PW w K mg base 1 "in_spans" [.rd, .rd, .rd] .fr m_in_spans :=
  fx_of (N := N_in_spans) (falls := false) (fb := b_in_spans) (Γe := [.any, .any, .any, .any, .any]) G.d_in_spans sc_in_spans rfl (.inl rfl) .fr (fun _ _ _ _ _ _ us hl => match us, hl with | [_, _, _], _ => rfl)
  (sss_one (ss_ret (Γ1 := [.rd, .rd, .rd, .any, .any]) (ee_q (qe_callB cg_any rfl G.b_any bt_any (qa_cons (qe_lc (own := [("first", 3), ("last", 4)]) (qi_seq (.inr rfl) (vR (i := 1) rfl (.inl rfl) rfl)) rfl (by decide) (by decide) (qg_tup (.inr rfl) (qgs_cons (qg_name (i := 3) rfl (.inl rfl) (.inr rfl) (by decide) (.inr rfl)) (qgs_cons (qg_name (i := 4) rfl (.inl rfl) (.inr rfl) (by decide) (.inr rfl)) qgs_nil))) qts_nil (qe_chain (m := true) os_le os_lt (vR (i := 3) rfl (.inl rfl) rfl) (oP os_mod (vR (i := 2) rfl (.inr (.inl rfl)) rfl) (vR (i := 0) rfl (.inr (.inl rfl)) rfl)) (vR (i := 4) rfl (.inl rfl) rfl))) qa_nil))) (Wk.an rfl)))
/-! on_layer -/
abbrev N_on_layer : List Str := ["week", "layer", "time", "members", "start", "shift", "spans"]
theorem sc_on_layer : FnScope N_on_layer ["week", "layer", "time"] (defScope (top 2)) := ⟨rfl, rfl, rfl, by decide +kernel, rfl, by decide +kernel, by decide +kernel⟩
def b_on_layer : Env' → Option (Out × Env') :=
  (seqS (asgS (gUnp 4 (gsCons (gSet 3) (gsCons (gSet 4) (gsCons (gSet 5) (gsCons (gSet 6) gsNil))))) (liftQ (getV 1)))
  (seqS (ifS (tB (op2 ltD (getV 2) (getV 4)))
  (retS (liftQ (kD' .non)))
  nilS)
  (seqS (ifS (andB (tV (getV 6)) (tN (tV (apA (consA (getV 0) (consA (getV 6) (consA (getV 2) nilA))) m_in_spans))))
  (retS (liftQ (kD' .non)))
  nilS)
  (retS (liftQ (op2 ixD (getV 3) (op2 modD (op2 fdivD (op2 subD (getV 2) (getV 4)) (getV 5)) (apA (consA (getV 3) nilA) lenD))))))))
def m_on_layer : List D → Option D := runF 7 false b_on_layer
theorem ok_on_layer (G : Facts K mg) : Fx PW w K mg base 2 "on_layer" [.rd, .fr, .rd] .fr m_on_layer :=
  fx_of (N := N_on_layer) (falls := false) (fb := b_on_layer) (Γe := [.any, .any, .any, .any, .any, .any, .any]) G.d_on_layer sc_on_layer rfl (.inl rfl) .fr (fun _ _ _ _ _ _ us hl => match us, hl with | [_, _, _], _ => rfl)
  (sss_cons (Γ1 := [.rd, .fr, .rd, .fr, .fr, .fr, .fr]) (ss_asg (Γ1 := [.rd, .fr, .rd, .any, .any, .any, .any]) (ee_q (vF (i := 1) rfl (.inl rfl) rfl)) (.inl rfl) (qg_tup (.inl rfl) (qgs_cons (qg_name (i := 3) rfl (.inl rfl) (.inl rfl) (by decide) (.inl rfl)) (qgs_cons (qg_name (i := 4) rfl (.inl rfl) (.inl rfl) (by decide) (.inl rfl)) (qgs_cons (qg_name (i := 5) rfl (.inl rfl) (.inl rfl) (by decide) (.inl rfl)) (qgs_cons (qg_name (i := 6) rfl (.inl rfl) (.inl rfl) (by decide) (.inl rfl)) qgs_nil))))) (by decide))
  (sss_cons (Γ1 := [.rd, .fr, .rd, .fr, .fr, .fr, .fr]) (ss_if (qt_cmp os_lt (vR (i := 2) rfl (.inl rfl) rfl) (vF (i := 4) rfl (.inl rfl) rfl))
  (sss_one (ss_ret (Γ1 := [.rd, .fr, .rd, .fr, .fr, .fr, .fr]) (ee_q cN) (Wk.an rfl)))
  sss_nil)
  (sss_cons (Γ1 := [.rd, .fr, .rd, .fr, .fr, .fr, .fr]) (ss_if (QW.qt (qw_and (qt_val (vF (i := 6) rfl (.inl rfl) rfl)) (qw_and1 (qt_not (qt_val (qe_fx (ok_in_spans G) (Nat.le_of_ble_eq_true rfl) rfl (qa_cons (vR (i := 0) rfl (.inl rfl) rfl) (qa_cons (vF (i := 6) rfl (.inl rfl) rfl) (qa_cons (vR (i := 2) rfl (.inl rfl) rfl) qa_nil))) (.rd (.rd (.rd .nil)))))))))
  (sss_one (ss_ret (Γ1 := [.rd, .fr, .rd, .fr, .fr, .fr, .fr]) (ee_q cN) (Wk.an rfl)))
  sss_nil)
  (sss_one (ss_ret (Γ1 := [.rd, .fr, .rd, .fr, .fr, .fr, .fr]) (ee_q (qe_ix (t' := .fr) (m := true) rfl (vF (i := 3) rfl (.inl rfl) rfl) (oP os_mod (oP os_fdiv (oP os_sub (vR (i := 2) rfl (.inl rfl) rfl) (vF (i := 4) rfl (.inl rfl) rfl)) (vF (i := 5) rfl (.inl rfl) rfl)) (qe_callB cg_len rfl G.b_len bt_len (qa_cons (vF (i := 3) rfl (.inl rfl) rfl) qa_nil))) (fun _ => .inl rfl))) (Wk.an rfl))))))
/-! on_call -/
abbrev N_on_call : List Str := ["week", "schedule", "time", "layer", "first", "last", "person"]
theorem sc_on_call : FnScope N_on_call ["week", "schedule", "time"] (defScope (top 3)) := ⟨rfl, rfl, rfl, by decide +kernel, rfl, by decide +kernel, by decide +kernel⟩
def lp1_on_call : Env' → Option (Out × Env') :=
  (ifS (ch3 leD ltD (getV 4) (getV 2) (getV 5))
  (retS (liftQ (getV 6)))
  nilS)
def lp2_on_call : Env' → Option (Out × Env') :=
  (seqS (setS 6 (liftQ (apA (consA (getV 0) (consA (getV 3) (consA (getV 2) nilA))) m_on_layer)))
  (ifS (tB (op2 isntD (getV 6) (kD' .non)))
  (retS (liftQ (getV 6)))
  nilS))
def b_on_call : Env' → Option (Out × Env') :=
  (seqS (forS (itF (revD (apA (consA (op2 ixD (getV 1) (kD' (.int 2))) nilA) listD))) (gUnp 3 (gsCons (gSet 4) (gsCons (gSet 5) (gsCons (gSet 6) gsNil))))
  lp1_on_call)
  (seqS (forS (itF (revD (apA (consA (op2 ixD (getV 1) (kD' (.int 1))) nilA) listD))) (gSet 3)
  lp2_on_call)
  (retS (liftQ (kD' .non)))))
def m_on_call : List D → Option D := runF 7 false b_on_call
theorem ok_on_call (G : Facts K mg) : Fx PW w K mg base 3 "on_call" [.rd, .fr, .rd] .fr m_on_call :=
  fx_of (N := N_on_call) (falls := false) (fb := b_on_call) (Γe := [.any, .any, .any, .any, .any, .any, .any]) G.d_on_call sc_on_call rfl (.inl rfl) .fr (fun _ _ _ _ _ _ us hl => match us, hl with | [_, _, _], _ => rfl)
  (sss_cons (Γ1 := [.rd, .fr, .rd, .any, .any, .any, .any]) (ss_for (Γ1 := [.rd, .fr, .rd, .any, .fr, .fr, .fr]) (qi_seq (.inl rfl) (qe_fz (m := true) (qe_rev (.inr rfl) (qe_callTy (cg_listOf (.inl rfl)) rfl G.b_list bt_list (qa_cons (qe_ix (t' := .fr) (m := true) rfl (vF (i := 1) rfl (.inl rfl) rfl) cI (fun _ => .inl rfl)) qa_nil))) (.lst .fr))) (qg_tup (.inl rfl) (qgs_cons (qg_name (i := 4) rfl (.inl rfl) (.inl rfl) (by decide) (.inl rfl)) (qgs_cons (qg_name (i := 5) rfl (.inl rfl) (.inl rfl) (by decide) (.inl rfl)) (qgs_cons (qg_name (i := 6) rfl (.inl rfl) (.inl rfl) (by decide) (.inl rfl)) qgs_nil)))) (by decide)
  (sss_end (Γ1 := [.rd, .fr, .rd, .any, .fr, .fr, .fr]) (sss_one (ss_if (qt_chain os_le os_lt (vF (i := 4) rfl (.inl rfl) rfl) (vR (i := 2) rfl (.inl rfl) rfl) (vF (i := 5) rfl (.inl rfl) rfl))
  (sss_one (ss_ret (Γ1 := [.rd, .fr, .rd, .any, .fr, .fr, .fr]) (ee_q (vF (i := 6) rfl (.inl rfl) rfl)) (Wk.an rfl)))
  sss_nil)) (.keep (.keep (.keep (.keep (.any (.any (.any .nil)))))))))
  (sss_cons (Γ1 := [.rd, .fr, .rd, .any, .any, .any, .any]) (ss_for (Γ1 := [.rd, .fr, .rd, .fr, .any, .any, .any]) (qi_seq (.inl rfl) (qe_fz (m := true) (qe_rev (.inr rfl) (qe_callTy (cg_listOf (.inl rfl)) rfl G.b_list bt_list (qa_cons (qe_ix (t' := .fr) (m := true) rfl (vF (i := 1) rfl (.inl rfl) rfl) cI (fun _ => .inl rfl)) qa_nil))) (.lst .fr))) (qg_name (i := 3) rfl (.inl rfl) (.inl rfl) (by decide) (.inl rfl)) (by decide)
  (sss_end (Γ1 := [.rd, .fr, .rd, .fr, .any, .any, .fr]) (sss_cons (Γ1 := [.rd, .fr, .rd, .fr, .any, .any, .fr]) (ss_set (i := 6) (Γ1 := [.rd, .fr, .rd, .fr, .any, .any, .any]) (ee_q (qe_fx (ok_on_layer G) (Nat.le_of_ble_eq_true rfl) rfl (qa_cons (vR (i := 0) rfl (.inl rfl) rfl) (qa_cons (vF (i := 3) rfl (.inl rfl) rfl) (qa_cons (vR (i := 2) rfl (.inl rfl) rfl) qa_nil))) (.rd (.fr (.rd .nil))))) rfl (.inl rfl) (.inl rfl) (by decide) (by decide))
  (sss_one (ss_if (qt_cmp os_isnt (vF (i := 6) rfl (.inl rfl) rfl) cN)
  (sss_one (ss_ret (Γ1 := [.rd, .fr, .rd, .fr, .any, .any, .fr]) (ee_q (vF (i := 6) rfl (.inl rfl) rfl)) (Wk.an rfl)))
  sss_nil))) (.keep (.keep (.keep (.any (.keep (.keep (.any .nil)))))))))
  (sss_one (ss_ret (Γ1 := [.rd, .fr, .rd, .any, .any, .any, .any]) (ee_q cN) (Wk.an rfl)))))
/-! _layer_breaks -/
abbrev N__layer_breaks : List Str := ["week", "layer", "time", "found", "base", "span", "members", "start", "shift", "spans", "turns", "end"]
theorem sc__layer_breaks : FnScope N__layer_breaks ["week", "layer", "time"] (defScope (top 4)) := ⟨rfl, rfl, rfl, by decide +kernel, rfl, by decide +kernel, by decide +kernel⟩
def lp1__layer_breaks : Env' → Option (Out × Env') :=
  (expS (appS 3 (liftQ (op2 addD (getV 4) (op2 modD (op2 subD (getV 11) (getV 4)) (getV 0))))))
def lp2__layer_breaks : Env' → Option (Out × Env') :=
  (forS (itF (getV 5)) (gSet 11)
  lp1__layer_breaks)
def b__layer_breaks : Env' → Option (Out × Env') :=
  (seqS (asgS (gUnp 4 (gsCons (gSet 6) (gsCons (gSet 7) (gsCons (gSet 8) (gsCons (gSet 9) gsNil))))) (liftQ (getV 1)))
  (seqS (setS 3 (liftQ (lstD nilA)))
  (seqS (ifS (tB (op2 gtD (getV 7) (getV 2)))
  (expS (appS 3 (liftQ (getV 7))))
  nilS)
  (seqS (setS 4 (liftQ (apA (consA (op2 addD (getV 2) (kD' (.int 1))) (consA (getV 7) nilA)) max2D)))
  (seqS (ifS (tB (op2 gtD (apA (consA (getV 6) nilA) lenD) (kD' (.int 1))))
  (seqS (setS 10 (liftQ (op2 fdivD (op2 subD (op2 addD (op2 subD (getV 4) (getV 7)) (getV 8)) (kD' (.int 1))) (getV 8))))
  (expS (appS 3 (liftQ (op2 addD (getV 7) (op2 mulD (getV 10) (getV 8)))))))
  nilS)
  (seqS (forS (itF (getV 9)) (gSet 5)
  lp2__layer_breaks)
  (retS (mvV 3))))))))
def m__layer_breaks : List D → Option D := runF 12 false b__layer_breaks
theorem ok__layer_breaks (G : Facts K mg) : Fx PW w K mg base 1 "_layer_breaks" [.rd, .fr, .rd] (.lst .fr) m__layer_breaks :=
  fx_of (N := N__layer_breaks) (falls := false) (fb := b__layer_breaks) (Γe := [.any, .any, .any, .any, .any, .any, .any, .any, .any, .any, .any, .any]) G.d__layer_breaks sc__layer_breaks rfl (.inl rfl) (.lst .fr) (fun _ _ _ _ _ _ us hl => match us, hl with | [_, _, _], _ => rfl)
  (sss_cons (Γ1 := [.rd, .fr, .rd, .any, .any, .any, .fr, .fr, .fr, .fr, .any, .any]) (ss_asg (Γ1 := [.rd, .fr, .rd, .any, .any, .any, .any, .any, .any, .any, .any, .any]) (ee_q (vF (i := 1) rfl (.inl rfl) rfl)) (.inl rfl) (qg_tup (.inl rfl) (qgs_cons (qg_name (i := 6) rfl (.inl rfl) (.inl rfl) (by decide) (.inl rfl)) (qgs_cons (qg_name (i := 7) rfl (.inl rfl) (.inl rfl) (by decide) (.inl rfl)) (qgs_cons (qg_name (i := 8) rfl (.inl rfl) (.inl rfl) (by decide) (.inl rfl)) (qgs_cons (qg_name (i := 9) rfl (.inl rfl) (.inl rfl) (by decide) (.inl rfl)) qgs_nil))))) (by decide))
  (sss_cons (Γ1 := [.rd, .fr, .rd, (.lst .fr), .any, .any, .fr, .fr, .fr, .fr, .any, .any]) (ss_set (i := 3) (Γ1 := [.rd, .fr, .rd, .any, .any, .any, .fr, .fr, .fr, .fr, .any, .any]) (ee_q (qe_lst (n := 0) (t := .fr) (m := true) qa_nil)) rfl (.inl rfl) (.inl rfl) (by decide) (by decide))
  (sss_cons (Γ1 := [.rd, .fr, .rd, (.lst .fr), .any, .any, .fr, .fr, .fr, .fr, .any, .any]) (ss_if (qt_cmp os_gt (vF (i := 7) rfl (.inl rfl) rfl) (vR (i := 2) rfl (.inl rfl) rfl))
  (sss_one (ss_expr (ee_append (i := 3) (t0 := .fr) (t := .fr) rfl (.inl rfl) rfl (ee_q (vF (i := 7) rfl (.inl rfl) rfl)) rfl)))
  sss_nil)
  (sss_cons (Γ1 := [.rd, .fr, .rd, (.lst .fr), .fr, .any, .fr, .fr, .fr, .fr, .any, .any]) (ss_set (i := 4) (Γ1 := [.rd, .fr, .rd, (.lst .fr), .any, .any, .fr, .fr, .fr, .fr, .any, .any]) (ee_q (qe_callB cg_max2 rfl G.b_max bt_max (qa_cons (oP os_add (vR (i := 2) rfl (.inl rfl) rfl) cI) (qa_cons (vF (i := 7) rfl (.inl rfl) rfl) qa_nil)))) rfl (.inl rfl) (.inl rfl) (by decide) (by decide))
  (sss_cons (Γ1 := [.rd, .fr, .rd, (.lst .fr), .fr, .any, .fr, .fr, .fr, .fr, .any, .any]) (ss_if (qt_cmp os_gt (qe_callB cg_len rfl G.b_len bt_len (qa_cons (vF (i := 6) rfl (.inl rfl) rfl) qa_nil)) cI)
  (sss_end (Γ1 := [.rd, .fr, .rd, (.lst .fr), .fr, .any, .fr, .fr, .fr, .fr, .fr, .any]) (sss_cons (Γ1 := [.rd, .fr, .rd, (.lst .fr), .fr, .any, .fr, .fr, .fr, .fr, .fr, .any]) (ss_set (i := 10) (Γ1 := [.rd, .fr, .rd, (.lst .fr), .fr, .any, .fr, .fr, .fr, .fr, .any, .any]) (ee_q (oP os_fdiv (oP os_sub (oP os_add (oP os_sub (vF (i := 4) rfl (.inl rfl) rfl) (vF (i := 7) rfl (.inl rfl) rfl)) (vF (i := 8) rfl (.inl rfl) rfl)) cI) (vF (i := 8) rfl (.inl rfl) rfl))) rfl (.inl rfl) (.inl rfl) (by decide) (by decide))
  (sss_one (ss_expr (ee_append (i := 3) (t0 := .fr) (t := .fr) rfl (.inl rfl) rfl (ee_q (oP os_add (vF (i := 7) rfl (.inl rfl) rfl) (oP os_mul (vF (i := 10) rfl (.inl rfl) rfl) (vF (i := 8) rfl (.inl rfl) rfl)))) rfl)))) (.keep (.keep (.keep (.keep (.keep (.keep (.keep (.keep (.keep (.keep (.any (.keep .nil)))))))))))))
  sss_nil)
  (sss_cons (Γ1 := [.rd, .fr, .rd, (.lst .fr), .fr, .any, .fr, .fr, .fr, .fr, .any, .any]) (ss_for (Γ1 := [.rd, .fr, .rd, (.lst .fr), .fr, .fr, .fr, .fr, .fr, .fr, .any, .any]) (qi_seq (.inl rfl) (vF (i := 9) rfl (.inl rfl) rfl)) (qg_name (i := 5) rfl (.inl rfl) (.inl rfl) (by decide) (.inl rfl)) (by decide)
  (sss_end (Γ1 := [.rd, .fr, .rd, (.lst .fr), .fr, .fr, .fr, .fr, .fr, .fr, .any, .any]) (sss_one (ss_for (Γ1 := [.rd, .fr, .rd, (.lst .fr), .fr, .fr, .fr, .fr, .fr, .fr, .any, .fr]) (qi_seq (.inl rfl) (vF (i := 5) rfl (.inl rfl) rfl)) (qg_name (i := 11) rfl (.inl rfl) (.inl rfl) (by decide) (.inl rfl)) (by decide)
  (sss_end (Γ1 := [.rd, .fr, .rd, (.lst .fr), .fr, .fr, .fr, .fr, .fr, .fr, .any, .fr]) (sss_one (ss_expr (ee_append (i := 3) (t0 := .fr) (t := .fr) rfl (.inl rfl) rfl (ee_q (oP os_add (vF (i := 4) rfl (.inl rfl) rfl) (oP os_mod (oP os_sub (vF (i := 11) rfl (.inl rfl) rfl) (vF (i := 4) rfl (.inl rfl) rfl)) (vR (i := 0) rfl (.inl rfl) rfl)))) rfl))) (.keep (.keep (.keep (.keep (.keep (.keep (.keep (.keep (.keep (.keep (.keep (.any .nil))))))))))))))) (.keep (.keep (.keep (.keep (.keep (.any (.keep (.keep (.keep (.keep (.keep (.keep .nil))))))))))))))
  (sss_one (ss_ret (Γ1 := [.rd, .fr, .rd, .any, .fr, .any, .fr, .fr, .fr, .fr, .any, .any]) (ee_mv (i := 3) (t := (.lst .fr)) rfl (.inl rfl) rfl (fun z => nomatch z)) (Wk.an rfl)))))))))
/-! next_break -/
abbrev N_next_break : List Str := ["week", "schedule", "time", "found", "layer", "first", "last", "person", "end"]
theorem sc_next_break : FnScope N_next_break ["week", "schedule", "time"] (defScope (top 5)) := ⟨rfl, rfl, rfl, by decide +kernel, rfl, by decide +kernel, by decide +kernel⟩
def lp1_next_break : Env' → Option (Out × Env') :=
  (ifS (tB (op2 gtD (getV 8) (getV 2)))
  (expS (appS 3 (liftQ (getV 8))))
  nilS)
def lp2_next_break : Env' → Option (Out × Env') :=
  (forS (itF (tupD (consA (getV 5) (consA (getV 6) nilA)))) (gSet 8)
  lp1_next_break)
def lp3_next_break : Env' → Option (Out × Env') :=
  (expS (extS 3 (liftQ (apA (consA (getV 0) (consA (getV 4) (consA (getV 2) nilA))) m__layer_breaks))))
def b_next_break : Env' → Option (Out × Env') :=
  (seqS (setS 3 (liftQ (lstD nilA)))
  (seqS (forS (itF (op2 ixD (getV 1) (kD' (.int 2)))) (gUnp 3 (gsCons (gSet 5) (gsCons (gSet 6) (gsCons (gSet 7) gsNil))))
  lp2_next_break)
  (seqS (forS (itF (op2 ixD (getV 1) (kD' (.int 1)))) (gSet 4)
  lp3_next_break)
  (seqS (ifS (tN (tV (getV 3)))
  (retS (liftQ (kD' .non)))
  nilS)
  (retS (liftQ (apA (consA (getV 3) nilA) minD)))))))
def m_next_break : List D → Option D := runF 9 false b_next_break
theorem ok_next_break (G : Facts K mg) : Fx PW w K mg base 2 "next_break" [.rd, .fr, .rd] .fr m_next_break :=
  fx_of (N := N_next_break) (falls := false) (fb := b_next_break) (Γe := [.any, .any, .any, .any, .any, .any, .any, .any, .any]) G.d_next_break sc_next_break rfl (.inl rfl) .fr (fun _ _ _ _ _ _ us hl => match us, hl with | [_, _, _], _ => rfl)
  (sss_cons (Γ1 := [.rd, .fr, .rd, (.lst .fr), .any, .any, .any, .any, .any]) (ss_set (i := 3) (Γ1 := [.rd, .fr, .rd, .any, .any, .any, .any, .any, .any]) (ee_q (qe_lst (n := 0) (t := .fr) (m := true) qa_nil)) rfl (.inl rfl) (.inl rfl) (by decide) (by decide))
  (sss_cons (Γ1 := [.rd, .fr, .rd, (.lst .fr), .any, .any, .any, .any, .any]) (ss_for (Γ1 := [.rd, .fr, .rd, (.lst .fr), .any, .fr, .fr, .fr, .any]) (qi_seq (.inl rfl) (qe_ix (t' := .fr) (m := true) rfl (vF (i := 1) rfl (.inl rfl) rfl) cI (fun _ => .inl rfl))) (qg_tup (.inl rfl) (qgs_cons (qg_name (i := 5) rfl (.inl rfl) (.inl rfl) (by decide) (.inl rfl)) (qgs_cons (qg_name (i := 6) rfl (.inl rfl) (.inl rfl) (by decide) (.inl rfl)) (qgs_cons (qg_name (i := 7) rfl (.inl rfl) (.inl rfl) (by decide) (.inl rfl)) qgs_nil)))) (by decide)
  (sss_end (Γ1 := [.rd, .fr, .rd, (.lst .fr), .any, .fr, .fr, .fr, .any]) (sss_one (ss_for (Γ1 := [.rd, .fr, .rd, (.lst .fr), .any, .fr, .fr, .fr, .fr]) (qi_seq (.inl rfl) (qe_tup (n := 2) (m := true) (mm := true) (qa_cons (vF (i := 5) rfl (.inl rfl) rfl) (qa_cons (vF (i := 6) rfl (.inl rfl) rfl) qa_nil)))) (qg_name (i := 8) rfl (.inl rfl) (.inl rfl) (by decide) (.inl rfl)) (by decide)
  (sss_end (Γ1 := [.rd, .fr, .rd, (.lst .fr), .any, .fr, .fr, .fr, .fr]) (sss_one (ss_if (qt_cmp os_gt (vF (i := 8) rfl (.inl rfl) rfl) (vR (i := 2) rfl (.inl rfl) rfl))
  (sss_one (ss_expr (ee_append (i := 3) (t0 := .fr) (t := .fr) rfl (.inl rfl) rfl (ee_q (vF (i := 8) rfl (.inl rfl) rfl)) rfl)))
  sss_nil)) (.keep (.keep (.keep (.keep (.keep (.keep (.keep (.keep (.any .nil)))))))))))) (.keep (.keep (.keep (.keep (.keep (.any (.any (.any (.keep .nil)))))))))))
  (sss_cons (Γ1 := [.rd, .fr, .rd, (.lst .fr), .any, .any, .any, .any, .any]) (ss_for (Γ1 := [.rd, .fr, .rd, (.lst .fr), .fr, .any, .any, .any, .any]) (qi_seq (.inl rfl) (qe_ix (t' := .fr) (m := true) rfl (vF (i := 1) rfl (.inl rfl) rfl) cI (fun _ => .inl rfl))) (qg_name (i := 4) rfl (.inl rfl) (.inl rfl) (by decide) (.inl rfl)) (by decide)
  (sss_end (Γ1 := [.rd, .fr, .rd, (.lst .fr), .fr, .any, .any, .any, .any]) (sss_one (ss_expr (ee_extend (i := 3) (t0 := .fr) (t := .fr) rfl (.inl rfl) rfl (ee_q (qe_fx (ok__layer_breaks G) (Nat.le_of_ble_eq_true rfl) rfl (qa_cons (vR (i := 0) rfl (.inl rfl) rfl) (qa_cons (vF (i := 4) rfl (.inl rfl) rfl) (qa_cons (vR (i := 2) rfl (.inl rfl) rfl) qa_nil))) (.rd (.fr (.rd .nil))))) rfl))) (.keep (.keep (.keep (.keep (.any (.keep (.keep (.keep (.keep .nil)))))))))))
  (sss_cons (Γ1 := [.rd, .fr, .rd, (.lst .fr), .any, .any, .any, .any, .any]) (ss_if (qt_not (qt_val (vO (i := 3) rfl (.inl rfl) rfl (fun z => nomatch z))))
  (sss_one (ss_ret (Γ1 := [.rd, .fr, .rd, (.lst .fr), .any, .any, .any, .any, .any]) (ee_q cN) (Wk.an rfl)))
  sss_nil)
  (sss_one (ss_ret (Γ1 := [.rd, .fr, .rd, (.lst .fr), .any, .any, .any, .any, .any]) (ee_q (qe_callB cg_min rfl G.b_min bt_min (qa_cons (vO (i := 3) rfl (.inl rfl) rfl (fun z => nomatch z)) qa_nil))) (Wk.an rfl)))))))
/-! stretches -/
abbrev N_stretches : List Str := ["week", "schedule", "first", "last", "rows", "time", "person", "later"]
theorem sc_stretches : FnScope N_stretches ["week", "schedule", "first", "last"] (defScope (top 6)) := ⟨rfl, rfl, rfl, by decide +kernel, rfl, by decide +kernel, by decide +kernel⟩
noncomputable def lp1_stretches : Env' → Option (Out × Env') :=
  (seqS (setS 6 (liftQ (apA (consA (getV 0) (consA (getV 1) (consA (getV 5) nilA))) m_on_call)))
  (seqS (setS 7 (liftQ (apA (consA (getV 0) (consA (getV 1) (consA (getV 5) nilA))) m_next_break)))
  (seqS (ifS (orB (tB (op2 isD (getV 7) (kD' .non))) (tB (op2 gtD (getV 7) (getV 3))))
  (setS 7 (liftQ (getV 3)))
  nilS)
  (seqS (ifS (andB (tV (getV 4)) (tB (op2 eqD (op2 ixD (op2 ixD (getV 4) (negD (kD' (.int 1)))) (kD' (.int 2))) (getV 6))))
  (putS 4 (liftQ (tupD (consA (op2 ixD (op2 ixD (getV 4) (negD (kD' (.int 1)))) (kD' (.int 0))) (consA (getV 7) (consA (getV 6) nilA))))) (negD (kD' (.int 1))))
  (expS (appS 4 (liftQ (tupD (consA (getV 5) (consA (getV 7) (consA (getV 6) nilA))))))))
  (setS 5 (liftQ (getV 7)))))))
noncomputable def b_stretches : Env' → Option (Out × Env') :=
  (seqS (setS 4 (liftQ (lstD nilA)))
  (seqS (setS 5 (liftQ (getV 2)))
  (seqS (whS (tB (op2 ltD (getV 5) (getV 3)))
  lp1_stretches)
  (retS (mvV 4)))))
noncomputable def m_stretches : List D → Option D := runF 8 false b_stretches
theorem ok_stretches (G : Facts K mg) : Fx PW w K mg base 4 "stretches" [.rd, .fr, .fr, .fr] (.lst .fr) m_stretches :=
  fx_of (N := N_stretches) (falls := false) (fb := b_stretches) (Γe := [.any, .any, .any, .any, .any, .any, .any, .any]) G.d_stretches sc_stretches rfl (.inl rfl) (.lst .fr) (fun _ _ _ _ _ _ us hl => match us, hl with | [_, _, _, _], _ => rfl)
  (sss_cons (Γ1 := [.rd, .fr, .fr, .fr, (.lst .fr), .any, .any, .any]) (ss_set (i := 4) (Γ1 := [.rd, .fr, .fr, .fr, .any, .any, .any, .any]) (ee_q (qe_lst (n := 0) (t := .fr) (m := true) qa_nil)) rfl (.inl rfl) (.inl rfl) (by decide) (by decide))
  (sss_cons (Γ1 := [.rd, .fr, .fr, .fr, (.lst .fr), .fr, .any, .any]) (ss_set (i := 5) (Γ1 := [.rd, .fr, .fr, .fr, (.lst .fr), .any, .any, .any]) (ee_q (vF (i := 2) rfl (.inl rfl) rfl)) rfl (.inl rfl) (.inl rfl) (by decide) (by decide))
  (sss_cons (Γ1 := [.rd, .fr, .fr, .fr, (.lst .fr), .fr, .any, .any]) (ss_while (qt_cmp os_lt (vF (i := 5) rfl (.inl rfl) rfl) (vF (i := 3) rfl (.inl rfl) rfl))
  (sss_end (Γ1 := [.rd, .fr, .fr, .fr, (.lst .fr), .fr, .fr, .fr]) (sss_cons (Γ1 := [.rd, .fr, .fr, .fr, (.lst .fr), .fr, .fr, .any]) (ss_set (i := 6) (Γ1 := [.rd, .fr, .fr, .fr, (.lst .fr), .fr, .any, .any]) (ee_q (qe_fx (ok_on_call G) (Nat.le_of_ble_eq_true rfl) rfl (qa_cons (vR (i := 0) rfl (.inl rfl) rfl) (qa_cons (vF (i := 1) rfl (.inl rfl) rfl) (qa_cons (vF (i := 5) rfl (.inl rfl) rfl) qa_nil))) (.rd (.fr (.rd .nil))))) rfl (.inl rfl) (.inl rfl) (by decide) (by decide))
  (sss_cons (Γ1 := [.rd, .fr, .fr, .fr, (.lst .fr), .fr, .fr, .fr]) (ss_set (i := 7) (Γ1 := [.rd, .fr, .fr, .fr, (.lst .fr), .fr, .fr, .any]) (ee_q (qe_fx (ok_next_break G) (Nat.le_of_ble_eq_true rfl) rfl (qa_cons (vR (i := 0) rfl (.inl rfl) rfl) (qa_cons (vF (i := 1) rfl (.inl rfl) rfl) (qa_cons (vF (i := 5) rfl (.inl rfl) rfl) qa_nil))) (.rd (.fr (.rd .nil))))) rfl (.inl rfl) (.inl rfl) (by decide) (by decide))
  (sss_cons (Γ1 := [.rd, .fr, .fr, .fr, (.lst .fr), .fr, .fr, .fr]) (ss_if (QW.qt (qw_or (qt_cmp os_is (vF (i := 7) rfl (.inl rfl) rfl) cN) (qw_or1 (qt_cmp os_gt (vF (i := 7) rfl (.inl rfl) rfl) (vF (i := 3) rfl (.inl rfl) rfl)))))
  (sss_one (ss_set (i := 7) (Γ1 := [.rd, .fr, .fr, .fr, (.lst .fr), .fr, .fr, .fr]) (ee_q (vF (i := 3) rfl (.inl rfl) rfl)) rfl (.inl rfl) (.inl rfl) (by decide) (by decide)))
  sss_nil)
  (sss_cons (Γ1 := [.rd, .fr, .fr, .fr, (.lst .fr), .fr, .fr, .fr]) (ss_if (QW.qt (qw_and (qt_val (vO (i := 4) rfl (.inl rfl) rfl (fun z => nomatch z))) (qw_and1 (qt_cmp os_eq (qe_ix (t' := .fr) (m := true) rfl (qe_ix (t' := .fr) (m := true) rfl (vO (i := 4) rfl (.inl rfl) rfl (fun z => nomatch z)) (qe_neg (m := true) cI) (fun _ => .inl rfl)) cI (fun _ => .inl rfl)) (vF (i := 6) rfl (.inl rfl) rfl)))))
  (sss_one (ss_put (i := 4) rfl (.inl rfl) (ee_q (qe_tup (n := 3) (m := true) (mm := true) (qa_cons (qe_ix (t' := .fr) (m := true) rfl (qe_ix (t' := .fr) (m := true) rfl (vO (i := 4) rfl (.inl rfl) rfl (fun z => nomatch z)) (qe_neg (m := true) cI) (fun _ => .inl rfl)) cI (fun _ => .inl rfl)) (qa_cons (vF (i := 7) rfl (.inl rfl) rfl) (qa_cons (vF (i := 6) rfl (.inl rfl) rfl) qa_nil))))) rfl (qe_neg (m := true) cI)))
  (sss_one (ss_expr (ee_append (i := 4) (t0 := .fr) (t := .fr) rfl (.inl rfl) rfl (ee_q (qe_tup (n := 3) (m := true) (mm := true) (qa_cons (vF (i := 5) rfl (.inl rfl) rfl) (qa_cons (vF (i := 7) rfl (.inl rfl) rfl) (qa_cons (vF (i := 6) rfl (.inl rfl) rfl) qa_nil))))) rfl))))
  (sss_one (ss_set (i := 5) (Γ1 := [.rd, .fr, .fr, .fr, (.lst .fr), .fr, .fr, .fr]) (ee_q (vF (i := 7) rfl (.inl rfl) rfl)) rfl (.inl rfl) (.inl rfl) (by decide) (by decide))))))) (.keep (.keep (.keep (.keep (.keep (.keep (.any (.any .nil))))))))))
  (sss_one (ss_ret (Γ1 := [.rd, .fr, .fr, .fr, .any, .fr, .any, .any]) (ee_mv (i := 4) (t := (.lst .fr)) rfl (.inl rfl) rfl (fun z => nomatch z)) (Wk.an rfl))))))
/-! duties -/
abbrev N_duties : List Str := ["week", "schedule", "first", "last", "counts", "nobody", "begun", "ended", "person"]
theorem sc_duties : FnScope N_duties ["week", "schedule", "first", "last"] (defScope (top 7)) := ⟨rfl, rfl, rfl, by decide +kernel, rfl, by decide +kernel, by decide +kernel⟩
noncomputable def lp1_duties : Env' → Option (Out × Env') :=
  (ifS (tB (op2 isD (getV 8) (kD' .non)))
  (setS 5 (liftQ (op2 subD (op2 addD (getV 5) (getV 7)) (getV 6))))
  (dputS 4 (liftQ (op2 subD (op2 addD (dgetOrD (getV 4) (getV 8) (kD' (.int 0))) (getV 7)) (getV 6))) (getV 8)))
noncomputable def b_duties : Env' → Option (Out × Env') :=
  (seqS (setS 4 (liftQ newDct))
  (seqS (setS 5 (liftQ (kD' (.int 0))))
  (seqS (forS (itF (apA (consA (getV 0) (consA (getV 1) (consA (getV 2) (consA (getV 3) nilA)))) m_stretches)) (gUnp 3 (gsCons (gSet 6) (gsCons (gSet 7) (gsCons (gSet 8) gsNil))))
  lp1_duties)
  (retS (liftQ (tupD (consA (lcD (kyF (getV 4)) (gSet 8) trueT (tupD (consA (getV 8) (consA (op2 dgetD (getV 4) (getV 8)) nilA)))) (consA (getV 5) nilA))))))))
noncomputable def m_duties : List D → Option D := runF 9 false b_duties
theorem ok_duties (G : Facts K mg) : Fx PW w K mg base 5 "duties" [.rd, .fr, .fr, .fr] (.tup [(.lst .fr), .fr]) m_duties :=
  fx_of (N := N_duties) (falls := false) (fb := b_duties) (Γe := [.any, .any, .any, .any, .any, .any, .any, .any, .any]) G.d_duties sc_duties rfl (.inl rfl) (.tup (fzc (.lst .fr) (fzc .fr fzn))) (fun _ _ _ _ _ _ us hl => match us, hl with | [_, _, _, _], _ => rfl)
  (sss_cons (Γ1 := [.rd, .fr, .fr, .fr, (.dct .fr), .any, .any, .any, .any]) (ss_set (i := 4) (Γ1 := [.rd, .fr, .fr, .fr, .any, .any, .any, .any, .any]) (ee_q (qe_dnew (t := .fr))) rfl (.inr rfl) (.inl rfl) (by decide) (by decide))
  (sss_cons (Γ1 := [.rd, .fr, .fr, .fr, (.dct .fr), .fr, .any, .any, .any]) (ss_set (i := 5) (Γ1 := [.rd, .fr, .fr, .fr, (.dct .fr), .any, .any, .any, .any]) (ee_q cI) rfl (.inl rfl) (.inl rfl) (by decide) (by decide))
  (sss_cons (Γ1 := [.rd, .fr, .fr, .fr, (.dct .fr), .fr, .any, .any, .any]) (ss_for (Γ1 := [.rd, .fr, .fr, .fr, (.dct .fr), .fr, .fr, .fr, .fr]) (qi_seq (.inl rfl) (qe_fz (m := true) (qe_fx (ok_stretches G) (Nat.le_of_ble_eq_true rfl) rfl (qa_cons (vR (i := 0) rfl (.inl rfl) rfl) (qa_cons (vF (i := 1) rfl (.inl rfl) rfl) (qa_cons (vF (i := 2) rfl (.inl rfl) rfl) (qa_cons (vF (i := 3) rfl (.inl rfl) rfl) qa_nil)))) (.rd (.fr (.fr (.fr .nil))))) (.lst .fr))) (qg_tup (.inl rfl) (qgs_cons (qg_name (i := 6) rfl (.inl rfl) (.inl rfl) (by decide) (.inl rfl)) (qgs_cons (qg_name (i := 7) rfl (.inl rfl) (.inl rfl) (by decide) (.inl rfl)) (qgs_cons (qg_name (i := 8) rfl (.inl rfl) (.inl rfl) (by decide) (.inl rfl)) qgs_nil)))) (by decide)
  (sss_end (Γ1 := [.rd, .fr, .fr, .fr, (.dct .fr), .fr, .fr, .fr, .fr]) (sss_one (ss_if (qt_cmp os_is (vF (i := 8) rfl (.inl rfl) rfl) cN)
  (sss_one (ss_set (i := 5) (Γ1 := [.rd, .fr, .fr, .fr, (.dct .fr), .fr, .fr, .fr, .fr]) (ee_q (oP os_sub (oP os_add (vF (i := 5) rfl (.inl rfl) rfl) (vF (i := 7) rfl (.inl rfl) rfl)) (vF (i := 6) rfl (.inl rfl) rfl))) rfl (.inl rfl) (.inl rfl) (by decide) (by decide)))
  (sss_one (ss_dput (i := 4) rfl (.inr (.inl rfl)) (ee_q (oP os_sub (oP os_add (qe_dgetOr (m := true) (.inr (.inr ⟨rfl, rfl⟩)) (vO (i := 4) rfl (.inr (.inl rfl)) rfl (fun z => nomatch z)) (vF (i := 8) rfl (.inl rfl) rfl) cI) (vF (i := 7) rfl (.inl rfl) rfl)) (vF (i := 6) rfl (.inl rfl) rfl))) rfl (vF (i := 8) rfl (.inl rfl) rfl))))) (.keep (.keep (.keep (.keep (.keep (.keep (.any (.any (.any .nil)))))))))))
  (sss_lock (i := 4) rfl (sss_one (ss_ret (Γ1 := [.rd, .fr, .fr, .fr, .fr, .fr, .any, .any, .any]) (ee_q (qe_tupO (qa_cons (qe_lc (own := [("person", 8)]) (qi_keys (vF (i := 4) rfl (.inr (.inl rfl)) rfl)) rfl (by decide) (by decide) (qg_name (i := 8) rfl (.inl rfl) (.inr rfl) (by decide) (.inl rfl)) qts_nil (qe_tup (n := 2) (m := true) (mm := true) (qa_cons (vF (i := 8) rfl (.inl rfl) rfl) (qa_cons (qe_dget (m := true) (.inl ⟨rfl, rfl⟩) (vF (i := 4) rfl (.inr (.inl rfl)) rfl) (vF (i := 8) rfl (.inl rfl) rfl)) qa_nil)))) (qa_cons (vF (i := 5) rfl (.inl rfl) rfl) qa_nil)))) (Wk.an rfl)))))))
/-! _law_same -/
abbrev N__law_same : List Str := ["_law_told", "_law_wanted", "_law_k"]
theorem sc__law_same : FnScope N__law_same ["_law_told", "_law_wanted"] (defScope (top 11)) := ⟨rfl, rfl, rfl, by decide +kernel, rfl, by decide +kernel, by decide +kernel⟩
def lp1__law_same (rec : List D → Option D) : Env' → Option (Out × Env') :=
  (ifS (tN (tV (apA (consA (op2 ixD (getV 0) (getV 2)) (consA (op2 ixD (getV 1) (getV 2)) nilA)) rec)))
  (retS (liftQ (kD' (.bl false))))
  nilS)
def b__law_same (rec : List D → Option D) : Env' → Option (Out × Env') :=
  (seqS (ifS (tB (op2 isD (getV 1) (kD' .non)))
  (retS (liftQ (op2 isD (getV 0) (kD' .non))))
  nilS)
  (seqS (ifS (tV (isiD "bool" (getV 1)))
  (retS (liftQ (andV (isiD "bool" (getV 0)) (op2 eqD (getV 0) (getV 1)))))
  nilS)
  (seqS (ifS (tV (isiD "int" (getV 1)))
  (retS (liftQ (andV (isiD "int" (getV 0)) (andV (notV (isiD "bool" (getV 0))) (op2 eqD (getV 0) (getV 1))))))
  nilS)
  (seqS (ifS (tV (isiD "str" (getV 1)))
  (retS (liftQ (andV (isiD "str" (getV 0)) (op2 eqD (getV 0) (getV 1)))))
  nilS)
  (seqS (ifS (andB (tV (isiD "tuple" (getV 1))) (tN (tV (isiD "tuple" (getV 0)))))
  (retS (liftQ (kD' (.bl false))))
  nilS)
  (seqS (ifS (andB (tV (isiD "list" (getV 1))) (tN (tV (isiD "list" (getV 0)))))
  (retS (liftQ (kD' (.bl false))))
  nilS)
  (seqS (ifS (tB (op2 neD (apA (consA (getV 0) nilA) lenD) (apA (consA (getV 1) nilA) lenD)))
  (retS (liftQ (kD' (.bl false))))
  nilS)
  (seqS (forS (rnF (consA (apA (consA (getV 1) nilA) lenD) nilA) rng1) (gSet 2)
  (lp1__law_same rec))
  (retS (liftQ (kD' (.bl true))))))))))))
def m__law_same : Nat → List D → Option D
  | 0 => fun _ => none
  | n + 1 => runF 3 false (b__law_same (m__law_same n))
theorem ok__law_same (G : Facts K mg) : ∀ n, Fx PW w K mg base (1 + n) "_law_same" [.rd, .rd] .fr (m__law_same n)
  | 0 => fx_none (ps := ["_law_told", "_law_wanted"]) G.d__law_same .fr (fun _ _ _ _ _ _ us hl => match us, hl with | [_, _], _ => rfl)
  | n + 1 => by
    have ih := ok__law_same G n
    exact fx_of (k := 1 + n) (N := N__law_same) (falls := false) (fb := b__law_same (m__law_same n)) (Γe := [.any, .any, .any]) G.d__law_same sc__law_same rfl (.inl rfl) .fr (fun _ _ _ _ _ _ us hl => match us, hl with | [_, _], _ => rfl)
      (sss_cons (Γ1 := [.rd, .rd, .any]) (ss_if (qt_cmp os_is (vR (i := 1) rfl (.inl rfl) rfl) cN)
  (sss_one (ss_ret (Γ1 := [.rd, .rd, .any]) (ee_q (cP os_is (vR (i := 0) rfl (.inl rfl) rfl) cN)) (Wk.an rfl)))
  sss_nil)
  (sss_cons (Γ1 := [.rd, .rd, .any]) (ss_if (qt_val (qe_isi (m := true) (mm := true) rfl G.b_isinstance rfl G.b_bool bt_bool (vR (i := 1) rfl (.inl rfl) rfl)))
  (sss_one (ss_ret (Γ1 := [.rd, .rd, .any]) (ee_q (qe_and (qe_isi (m := true) (mm := true) rfl G.b_isinstance rfl G.b_bool bt_bool (vR (i := 0) rfl (.inl rfl) rfl)) (qe_one (cP os_eq (vR (i := 0) rfl (.inl rfl) rfl) (vR (i := 1) rfl (.inl rfl) rfl))))) (Wk.an rfl)))
  sss_nil)
  (sss_cons (Γ1 := [.rd, .rd, .any]) (ss_if (qt_val (qe_isi (m := true) (mm := true) rfl G.b_isinstance rfl G.b_int bt_int (vR (i := 1) rfl (.inl rfl) rfl)))
  (sss_one (ss_ret (Γ1 := [.rd, .rd, .any]) (ee_q (qe_and (qe_isi (m := true) (mm := true) rfl G.b_isinstance rfl G.b_int bt_int (vR (i := 0) rfl (.inl rfl) rfl)) (qe_and (qe_not (m := true) (qe_isi (m := true) (mm := true) rfl G.b_isinstance rfl G.b_bool bt_bool (vR (i := 0) rfl (.inl rfl) rfl))) (qe_one (cP os_eq (vR (i := 0) rfl (.inl rfl) rfl) (vR (i := 1) rfl (.inl rfl) rfl)))))) (Wk.an rfl)))
  sss_nil)
  (sss_cons (Γ1 := [.rd, .rd, .any]) (ss_if (qt_val (qe_isi (m := true) (mm := true) rfl G.b_isinstance rfl G.b_str bt_str (vR (i := 1) rfl (.inl rfl) rfl)))
  (sss_one (ss_ret (Γ1 := [.rd, .rd, .any]) (ee_q (qe_and (qe_isi (m := true) (mm := true) rfl G.b_isinstance rfl G.b_str bt_str (vR (i := 0) rfl (.inl rfl) rfl)) (qe_one (cP os_eq (vR (i := 0) rfl (.inl rfl) rfl) (vR (i := 1) rfl (.inl rfl) rfl))))) (Wk.an rfl)))
  sss_nil)
  (sss_cons (Γ1 := [.rd, .rd, .any]) (ss_if (QW.qt (qw_and (qt_val (qe_isi (m := true) (mm := true) rfl G.b_isinstance rfl G.b_tuple bt_tuple (vR (i := 1) rfl (.inl rfl) rfl))) (qw_and1 (qt_not (qt_val (qe_isi (m := true) (mm := true) rfl G.b_isinstance rfl G.b_tuple bt_tuple (vR (i := 0) rfl (.inl rfl) rfl)))))))
  (sss_one (ss_ret (Γ1 := [.rd, .rd, .any]) (ee_q cB) (Wk.an rfl)))
  sss_nil)
  (sss_cons (Γ1 := [.rd, .rd, .any]) (ss_if (QW.qt (qw_and (qt_val (qe_isi (m := true) (mm := true) rfl G.b_isinstance rfl G.b_list bt_list (vR (i := 1) rfl (.inl rfl) rfl))) (qw_and1 (qt_not (qt_val (qe_isi (m := true) (mm := true) rfl G.b_isinstance rfl G.b_list bt_list (vR (i := 0) rfl (.inl rfl) rfl)))))))
  (sss_one (ss_ret (Γ1 := [.rd, .rd, .any]) (ee_q cB) (Wk.an rfl)))
  sss_nil)
  (sss_cons (Γ1 := [.rd, .rd, .any]) (ss_if (qt_cmp os_ne (qe_callB cg_len rfl G.b_len bt_len (qa_cons (vR (i := 0) rfl (.inl rfl) rfl) qa_nil)) (qe_callB cg_len rfl G.b_len bt_len (qa_cons (vR (i := 1) rfl (.inl rfl) rfl) qa_nil)))
  (sss_one (ss_ret (Γ1 := [.rd, .rd, .any]) (ee_q cB) (Wk.an rfl)))
  sss_nil)
  (sss_cons (Γ1 := [.rd, .rd, .any]) (ss_for (Γ1 := [.rd, .rd, .fr]) (qi_range1 rfl G.b_range (qa_cons (qe_callB cg_len rfl G.b_len bt_len (qa_cons (vR (i := 1) rfl (.inl rfl) rfl) qa_nil)) qa_nil)) (qg_name (i := 2) rfl (.inl rfl) (.inl rfl) (by decide) (.inl rfl)) (by decide)
  (sss_end (Γ1 := [.rd, .rd, .fr]) (sss_one (ss_if (qt_not (qt_val (qe_fx ih (Nat.le_refl _) rfl (qa_cons (qe_ix (t' := .rd) (m := true) rfl (vR (i := 0) rfl (.inl rfl) rfl) (vF (i := 2) rfl (.inl rfl) rfl) (fun _ => .inr (.inl rfl))) (qa_cons (qe_ix (t' := .rd) (m := true) rfl (vR (i := 1) rfl (.inl rfl) rfl) (vF (i := 2) rfl (.inl rfl) rfl) (fun _ => .inr (.inl rfl))) qa_nil)) (.rd (.rd .nil)))))
  (sss_one (ss_ret (Γ1 := [.rd, .rd, .fr]) (ee_q cB) (Wk.an rfl)))
  sss_nil)) (.keep (.keep (.any .nil)))))
  (sss_one (ss_ret (Γ1 := [.rd, .rd, .any]) (ee_q cB) (Wk.an rfl)))))))))))
/-! law -/
abbrev N_law : List Str := ["_law_script", "_law_rota_here", "_law_k", "_law_days", "_law_crew", "_law_size", "_law_wanted", "_law_told", "_law_rows", "_law_first", "_law_last"]
theorem sc_law : FnScope N_law ["_law_script"] (defScope (top 21)) := ⟨rfl, rfl, rfl, by decide +kernel, rfl, by decide +kernel, by decide +kernel⟩
noncomputable def lp1_law : Env' → Option (Out × Env') :=
  (seqS (asgS (gUnp 2 (gsCons (gSet 9) (gsCons (gSet 10) gsNil))) (liftQ (apA (consA (apA (consA (getV 0) (consA (op2 addD (kD' (.int 9)) (getV 2)) nilA)) m__law_cell) (consA (getV 5) nilA)) m__law_range)))
  (seqS (setS 6 (liftQ (apA (consA (getV 3) (consA (getV 1) (consA (getV 9) (consA (getV 10) nilA)))) m__law_counts)))
  (seqS (setS 7 (liftQ (apA (consA (getV 3) (consA (getV 1) (consA (getV 9) (consA (getV 10) nilA)))) m_duties)))
  (seqS (ifS (tN (tV (apA (consA (getV 7) (consA (getV 6) nilA)) (m__law_same 20))))
  (retS (liftQ (kD' (.bl false))))
  nilS)
  (seqS (setS 8 (mvT 7 0))
  (seqS (expS (appS 8 (liftQ (tupD (consA (op2 ixD (getV 4) (kD' (.int 0))) (consA (kD' (.int 1)) nilA))))))
  (ifS (tN (tV (apA (consA (apA (consA (getV 3) (consA (getV 1) (consA (getV 9) (consA (getV 10) nilA)))) m_duties) (consA (getV 6) nilA)) (m__law_same 20))))
  (retS (liftQ (kD' (.bl false))))
  nilS)))))))
noncomputable def b_law : Env' → Option (Out × Env') :=
  (seqS (asgS (gUnp 3 (gsCons (gSet 3) (gsCons (gSet 4) (gsCons (gSet 5) gsNil)))) (liftQ (apA (consA (getV 0) nilA) m__law_world)))
  (seqS (setS 1 (liftQ (apA (consA (getV 0) (consA (kD' (.int 2)) (consA (op2 addD (kD' (.str "r")) (op2 ixD (getV 4) (kD' (.int 0)))) (consA (getV 4) (consA (getV 3) (consA (getV 5) nilA)))))) m__law_rota)))
  (seqS (forS (rnF (consA (kD' (.int 3)) nilA) rng1) (gSet 2)
  lp1_law)
  (retS (liftQ (kD' (.bl true)))))))
noncomputable def m_law : List D → Option D := runF 11 false b_law
theorem ok_law {f : Addr} {fd : FuncData} (F : FnP K "law" (top 21) f fd) (G : Facts K mg) : FnOk PW w K mg base CX0 22 f fd ["_law_script"] (spF K [.fr] .fr m_law) :=
  fn_core (N := N_law) (falls := false) (fb := b_law) (Γe := [.any, .any, .any, .any, .any, .any, .any, .any, .any, .any, .any]) F sc_law rfl (.inl rfl)
  (sss_cons (Γ1 := [.fr, .any, .any, .fr, .fr, .fr, .any, .any, .any, .any, .any]) (ss_asg (Γ1 := [.fr, .any, .any, .any, .any, .any, .any, .any, .any, .any, .any]) (ee_fz (ee_q (qe_fx (ok__law_world G) (Nat.le_of_ble_eq_true rfl) rfl (qa_cons (vF (i := 0) rfl (.inl rfl) rfl) qa_nil) (.rd .nil))) (.lst .fr)) (.inl rfl) (qg_tup (.inl rfl) (qgs_cons (qg_name (i := 3) rfl (.inl rfl) (.inl rfl) (by decide) (.inl rfl)) (qgs_cons (qg_name (i := 4) rfl (.inl rfl) (.inl rfl) (by decide) (.inl rfl)) (qgs_cons (qg_name (i := 5) rfl (.inl rfl) (.inl rfl) (by decide) (.inl rfl)) qgs_nil)))) (by decide))
  (sss_cons (Γ1 := [.fr, .fr, .any, .fr, .fr, .fr, .any, .any, .any, .any, .any]) (ss_set (i := 1) (Γ1 := [.fr, .any, .any, .fr, .fr, .fr, .any, .any, .any, .any, .any]) (ee_q (qe_fx (ok__law_rota G) (Nat.le_of_ble_eq_true rfl) rfl (qa_cons (vF (i := 0) rfl (.inl rfl) rfl) (qa_cons cI (qa_cons (oP os_add cS (qe_ix (t' := .fr) (m := true) rfl (vF (i := 4) rfl (.inl rfl) rfl) cI (fun _ => .inl rfl))) (qa_cons (vF (i := 4) rfl (.inl rfl) rfl) (qa_cons (vF (i := 3) rfl (.inl rfl) rfl) (qa_cons (vF (i := 5) rfl (.inl rfl) rfl) qa_nil)))))) (.rd (.rd (.fr (.fr (.rd (.rd .nil)))))))) rfl (.inl rfl) (.inl rfl) (by decide) (by decide))
  (sss_cons (Γ1 := [.fr, .fr, .any, .fr, .fr, .fr, .any, .any, .any, .any, .any]) (ss_for (Γ1 := [.fr, .fr, .fr, .fr, .fr, .fr, .any, .any, .any, .any, .any]) (qi_range1 rfl G.b_range (qa_cons cI qa_nil)) (qg_name (i := 2) rfl (.inl rfl) (.inl rfl) (by decide) (.inl rfl)) (by decide)
  (sss_end (Γ1 := [.fr, .fr, .fr, .fr, .fr, .fr, (.tup [(.lst .fr), .fr]), .any, (.lst .fr), .fr, .fr]) (sss_cons (Γ1 := [.fr, .fr, .fr, .fr, .fr, .fr, .any, .any, .any, .fr, .fr]) (ss_asg (Γ1 := [.fr, .fr, .fr, .fr, .fr, .fr, .any, .any, .any, .any, .any]) (ee_fz (ee_q (qe_fx (ok__law_range G) (Nat.le_of_ble_eq_true rfl) rfl (qa_cons (qe_fx (ok__law_cell G) (Nat.le_of_ble_eq_true rfl) rfl (qa_cons (vF (i := 0) rfl (.inl rfl) rfl) (qa_cons (oP os_add cI (vF (i := 2) rfl (.inl rfl) rfl)) qa_nil)) (.rd (.rd .nil))) (qa_cons (vF (i := 5) rfl (.inl rfl) rfl) qa_nil)) (.rd (.rd .nil)))) (.lst .fr)) (.inl rfl) (qg_tup (.inl rfl) (qgs_cons (qg_name (i := 9) rfl (.inl rfl) (.inl rfl) (by decide) (.inl rfl)) (qgs_cons (qg_name (i := 10) rfl (.inl rfl) (.inl rfl) (by decide) (.inl rfl)) qgs_nil))) (by decide))
  (sss_cons (Γ1 := [.fr, .fr, .fr, .fr, .fr, .fr, (.tup [(.lst .fr), .fr]), .any, .any, .fr, .fr]) (ss_set (i := 6) (Γ1 := [.fr, .fr, .fr, .fr, .fr, .fr, .any, .any, .any, .fr, .fr]) (ee_q (qe_fx (ok__law_counts G) (Nat.le_of_ble_eq_true rfl) rfl (qa_cons (vF (i := 3) rfl (.inl rfl) rfl) (qa_cons (vF (i := 1) rfl (.inl rfl) rfl) (qa_cons (vF (i := 9) rfl (.inl rfl) rfl) (qa_cons (vF (i := 10) rfl (.inl rfl) rfl) qa_nil)))) (.rd (.fr (.rd (.rd .nil)))))) rfl (.inl rfl) (.inl rfl) (by decide) (by decide))
  (sss_cons (Γ1 := [.fr, .fr, .fr, .fr, .fr, .fr, (.tup [(.lst .fr), .fr]), (.tup [(.lst .fr), .fr]), .any, .fr, .fr]) (ss_set (i := 7) (Γ1 := [.fr, .fr, .fr, .fr, .fr, .fr, (.tup [(.lst .fr), .fr]), .any, .any, .fr, .fr]) (ee_q (qe_fx (ok_duties G) (Nat.le_of_ble_eq_true rfl) rfl (qa_cons (vF (i := 3) rfl (.inl rfl) rfl) (qa_cons (vF (i := 1) rfl (.inl rfl) rfl) (qa_cons (vF (i := 9) rfl (.inl rfl) rfl) (qa_cons (vF (i := 10) rfl (.inl rfl) rfl) qa_nil)))) (.rd (.fr (.fr (.fr .nil)))))) rfl (.inl rfl) (.inl rfl) (by decide) (by decide))
  (sss_cons (Γ1 := [.fr, .fr, .fr, .fr, .fr, .fr, (.tup [(.lst .fr), .fr]), (.tup [(.lst .fr), .fr]), .any, .fr, .fr]) (ss_if (qt_not (qt_val (qe_fxO (ok__law_same G 20) (Nat.le_of_ble_eq_true rfl) rfl (qa_cons (vO (i := 7) rfl (.inl rfl) rfl (fun z => nomatch z)) (qa_cons (vO (i := 6) rfl (.inl rfl) rfl (fun z => nomatch z)) qa_nil)) (.rd (.rd .nil)))))
  (sss_one (ss_ret (Γ1 := [.fr, .fr, .fr, .fr, .fr, .fr, (.tup [(.lst .fr), .fr]), (.tup [(.lst .fr), .fr]), .any, .fr, .fr]) (ee_q cB) (Wk.an rfl)))
  sss_nil)
  (sss_cons (Γ1 := [.fr, .fr, .fr, .fr, .fr, .fr, (.tup [(.lst .fr), .fr]), .any, (.lst .fr), .fr, .fr]) (ss_set (i := 8) (Γ1 := [.fr, .fr, .fr, .fr, .fr, .fr, (.tup [(.lst .fr), .fr]), .any, .any, .fr, .fr]) (ee_mvT (i := 7) (n := 0) rfl (.inl rfl) rfl rfl) rfl (.inl rfl) (.inl rfl) (by decide) (by decide))
  (sss_cons (Γ1 := [.fr, .fr, .fr, .fr, .fr, .fr, (.tup [(.lst .fr), .fr]), .any, (.lst .fr), .fr, .fr]) (ss_expr (ee_append (i := 8) (t0 := .fr) (t := .fr) rfl (.inl rfl) rfl (ee_q (qe_tup (n := 2) (m := true) (mm := true) (qa_cons (qe_ix (t' := .fr) (m := true) rfl (vF (i := 4) rfl (.inl rfl) rfl) cI (fun _ => .inl rfl)) (qa_cons cI qa_nil)))) rfl))
  (sss_one (ss_if (qt_not (qt_val (qe_fxO (ok__law_same G 20) (Nat.le_of_ble_eq_true rfl) rfl (qa_cons (qe_old (qe_fx (ok_duties G) (Nat.le_of_ble_eq_true rfl) rfl (qa_cons (vF (i := 3) rfl (.inl rfl) rfl) (qa_cons (vF (i := 1) rfl (.inl rfl) rfl) (qa_cons (vF (i := 9) rfl (.inl rfl) rfl) (qa_cons (vF (i := 10) rfl (.inl rfl) rfl) qa_nil)))) (.rd (.fr (.fr (.fr .nil)))))) (qa_cons (vO (i := 6) rfl (.inl rfl) rfl (fun z => nomatch z)) qa_nil)) (.rd (.rd .nil)))))
  (sss_one (ss_ret (Γ1 := [.fr, .fr, .fr, .fr, .fr, .fr, (.tup [(.lst .fr), .fr]), .any, (.lst .fr), .fr, .fr]) (ee_q cB) (Wk.an rfl)))
  sss_nil)))))))) (.keep (.keep (.any (.keep (.keep (.keep (.any (.keep (.any (.any (.any .nil)))))))))))))
  (sss_one (ss_ret (Γ1 := [.fr, .fr, .any, .fr, .fr, .fr, .any, .any, .any, .any, .any]) (ee_q cB) (Wk.an rfl))))))
end
end K51

namespace K51
open PySem PySem.Spec PyProof.Rows L2 Vm
theorem cell_spec (ns : List Int) (k : Nat) (hk : k < 1000) : ∃ r : Int, m__law_cell [.lst (ns.map .int), .int k] = some (.int r) := by
  by_cases h : k < ns.length
  · refine ⟨ns[k], run_rt (ρ := [some (.lst (ns.map .int)), some (.int k)]) ?_⟩
    unfold b__law_cell
    have e1 : decide ((k : Int) < (ns.length : Int)) = true := decide_eq_true (by omega)
    have e2 : atI (ns.map D.int) (k : Int) = some (.int ns[k]) := atI_nn (by simp [h])
    simp [e1, e2, h]
  · have e1 : ¬ ((k : Int) < (ns.length : Int)) := by omega
    by_cases h2 : 0 < ns.length
    · have hl : (0 : Int) < (ns.length : Int) := by omega
      have hm : ((k : Int) % (ns.length : Int)).toNat < ns.length := by
        have a := Int.emod_nonneg (k : Int) (show (ns.length : Int) ≠ 0 by omega)
        have b := Int.emod_lt_of_pos (k : Int) hl
        omega
      have e2 : atI (ns.map D.int) ((k : Int) % (ns.length : Int)) = some (.int (ns[((k : Int) % (ns.length : Int)).toNat])) := atI_int (Int.emod_nonneg _ (by omega)) (by simp [hm])
      refine ⟨ns[((k : Int) % (ns.length : Int)).toNat] + 104729 * k, run_rt (ρ := [some (.lst (ns.map .int)), some (.int k)]) ?_⟩
      unfold b__law_cell
      simp [e1, e2, h2, hl, p_mod _ _ hl, p_mulL 104729 (k : Int) (by omega) (by omega)]
    · refine ⟨104729 * k, run_rt (ρ := [some (.lst (ns.map .int)), some (.int k)]) ?_⟩
      unfold b__law_cell
      have hl : ns = [] := List.eq_nil_of_length_eq_zero (by omega)
      subst hl
      have e1 : ¬ ((k : Int) < 0) := by omega
      simp [e1, p_mulL 104729 (k : Int) (by omega) (by omega)]
/-! draws -/
theorem smod {a : Int} : 0 ≤ a % 1000 ∧ a % 1000 < 1000 := ⟨Int.emod_nonneg _ (by decide), Int.emod_lt_of_pos _ (by decide)⟩
def Dr (xs : List Int) : Prop := ∀ x ∈ xs, 0 ≤ x ∧ x < 1000
theorem Dr.snoc {xs : List Int} {a : Int} (h : Dr xs) : Dr (xs ++ [a % 1000]) := fun x hx => by
  rcases List.mem_append.mp hx with h1 | h1
  · exact h x h1
  · rw [List.mem_singleton] at h1
    subst h1
    exact smod
theorem draws_lp1 {c0 m0 : Option D} {m : Nat} (hm : m < 1000) {xs : List Int} {a : Int} {r b : Option D} (h0 : Dr xs) (h1 : xs.length = 0) : ∃ (ys : List Int) (a' b' : Option D), Dr ys ∧ ys.length ≤ m ∧
    forM (gSet 5) lp1__law_draws (ups 0 m) [c0, m0, some (.lst (xs.map .int)), some (.int a), r, b] = some (.nx, [c0, m0, some (.lst (ys.map .int)), a', r, b']) := by
  obtain ⟨ρ', e, ys, d1, d2, a, b, rfl⟩ := forM_inv (ds := ups 0 m) (g := gSet 5) (b := lp1__law_draws) (fun i ρ => ∃ xs : List Int, Dr xs ∧ xs.length ≤ i ∧ ∃ (a : Int) (b : Option D), ρ = [c0, m0, some (.lst (xs.map .int)), some (.int a), r, b]) (fun i d ρ hd hI => by
    obtain ⟨xs, d1, d2, a, b, rfl⟩ := hI
    obtain ⟨hi, rfl⟩ := ups_get hd
    by_cases ha : 0 < a
    · refine ⟨[c0, m0, some (.lst (xs.map .int)), some (.int a), r, some (.int (0 + (i : Int)))], .nx, [c0, m0, some (.lst ((xs ++ [a % 1000]).map .int)), some (.int (a / 1000)), r, some (.int (0 + (i : Int)))], rfl, ?_, .inl rfl, xs ++ [a % 1000], d1.snoc, by simp; omega, _, _, rfl⟩
      have hl : xs.length < 16777216 := by omega
      simp [lp1__law_draws, ha, p_mod a 1000 (by decide), p_fdiv a 1000 (by decide) (by decide), hl]
    · refine ⟨[c0, m0, some (.lst (xs.map .int)), some (.int a), r, some (.int (0 + (i : Int)))], .nx, [c0, m0, some (.lst (xs.map .int)), some (.int a), r, some (.int (0 + (i : Int)))], rfl, ?_, .inl rfl, xs, d1, by omega, _, _, rfl⟩
      simp [lp1__law_draws, ha]) (ρ := [c0, m0, some (.lst (xs.map .int)), some (.int a), r, b]) ⟨xs, h0, by omega, a, b, rfl⟩
  rw [ups_len] at d2
  exact ⟨ys, some (.int a), b, d1, d2, e⟩
theorem draws_lp2 {c0 : Option D} {m : Nat} (hm : m < 1000) {xs : List Int} {a : Int} {r b : Option D} (h0 : Dr xs) (h1 : xs.length ≤ m) : ∃ (ys : List Int) (a' b' : Option D), Dr ys ∧ ys.length = m ∧
    forM (gSet 5) lp2__law_draws (ups 0 m) [c0, some (.int m), some (.lst (xs.map .int)), r, some (.int a), b] = some (.nx, [c0, some (.int m), some (.lst (ys.map .int)), r, a', b']) := by
  obtain ⟨ρ', e, ys, d1, d2, d3, a, b, rfl⟩ := forM_inv (ds := ups 0 m) (g := gSet 5) (b := lp2__law_draws) (fun i ρ => ∃ xs : List Int, Dr xs ∧ xs.length ≤ m ∧ min i m ≤ xs.length ∧ ∃ (a : Int) (b : Option D), ρ = [c0, some (.int m), some (.lst (xs.map .int)), r, some (.int a), b]) (fun i d ρ hd hI => by
    obtain ⟨xs, d1, d2, d3, a, b, rfl⟩ := hI
    obtain ⟨hi, rfl⟩ := ups_get hd
    have hl : xs.length < 16777216 := by omega
    have hi2 : (i : Int) < 1000 := by omega
    have e1 : mulD (.int (i : Int)) (.int 69621) = some (.int (i * 69621)) := p_mulR _ _ (by omega) (by omega)
    have e2 : ∀ z : Int, mulD (.int z) (.int 48271) = some (.int (z * 48271)) := fun z => p_mulR _ _ (by omega) (by omega)
    have e3 : ∀ z : Int, mulD (.int z) (.int 69621) = some (.int (z * 69621)) := fun z => p_mulR _ _ (by omega) (by omega)
    have e4 : ∀ z : Int, modD (.int z) (.int 2147483647) = some (.int (z % 2147483647)) := fun z => p_mod _ _ (by decide)
    have e5 : ∀ z : Int, modD (.int z) (.int 2147483629) = some (.int (z % 2147483629)) := fun z => p_mod _ _ (by decide)
    have e6 : ∀ z : Int, modD (.int z) (.int 1000) = some (.int (z % 1000)) := fun z => p_mod _ _ (by decide)
    by_cases ha : xs.length < m
    · refine ⟨[c0, some (.int m), some (.lst (xs.map .int)), r, some (.int a), some (.int (0 + (i : Int)))], .nx, [c0, some (.int m), some (.lst ((xs ++ [((a * 48271 + i * 69621 + 7) % 2147483647 * 69621 + 5) % 2147483629 % 1000]).map .int)), r, some (.int ((a * 48271 + i * 69621 + 7) % 2147483647)), some (.int (0 + (i : Int)))], rfl, ?_, .inl rfl, _, d1.snoc, by simp; omega, by simp; omega, _, _, rfl⟩
      simp [lp2__law_draws, ha, hl, e2, e3, e4, e5, e6]
    · refine ⟨[c0, some (.int m), some (.lst (xs.map .int)), r, some (.int a), some (.int (0 + (i : Int)))], .nx, [c0, some (.int m), some (.lst (xs.map .int)), r, some (.int ((a * 48271 + i * 69621 + 7) % 2147483647)), some (.int (0 + (i : Int)))], rfl, ?_, .inl rfl, xs, d1, by omega, by omega, _, _, rfl⟩
      simp [lp2__law_draws, ha, hl, e2, e3, e4, e5, e6]) (ρ := [c0, some (.int m), some (.lst (xs.map .int)), r, some (.int a), b]) ⟨xs, h0, h1, by omega, a, b, rfl⟩
  rw [ups_len] at d3
  exact ⟨ys, some (.int a), b, d1, by omega, e⟩
theorem draws_spec (cell : Int) (m : Nat) (hm : m < 1000) : ∃ xs : List Int, m__law_draws [.int cell, .int m] = some (.lst (xs.map .int)) ∧ xs.length = m ∧ Dr xs := by
  have hb : rng1 [.int (m : Int)] = some (ups 0 m) := p_rng1 _ (b62_of _ (by omega) (by omega))
  have e2 : mulD (.int cell) (.int 48271) = some (.int (cell * 48271)) := p_mulR _ _ (by omega) (by omega)
  have e4 : modD (.int (cell * 48271 + 11)) (.int 2147483647) = some (.int ((cell * 48271 + 11) % 2147483647)) := p_mod _ _ (by decide)
  have ep : powD (.int 10) (.int 18) = some (.int (10 ^ 18)) := rfl
  have nil0 : Dr [] := fun x hx => by simp at hx
  by_cases hc : (1000000000000000000 : Int) ≤ cell
  · obtain ⟨ys, a', b', d1, d2, e⟩ := draws_lp1 (c0 := some (.int cell)) (m0 := some (.int m)) (r := none) (b := none) (a := cell) hm nil0 rfl
    obtain ⟨zs, a2, b2, d3, d4, e'⟩ := draws_lp2 (c0 := some (.int cell)) (r := a') (b := b') (a := (cell * 48271 + 11) % 2147483647) hm d1 d2
    refine ⟨zs, run_rt (ρ := [some (.int cell), some (.int m), some (.lst (zs.map .int)), a', a2, b2]) ?_, d4, d3⟩
    simp at e
    simp [b__law_draws, hb, e2, e4, ep, hc, e, e']
  · obtain ⟨zs, a2, b2, d3, d4, e'⟩ := draws_lp2 (c0 := some (.int cell)) (r := some (.int cell)) (b := none) (a := (cell * 48271 + 11) % 2147483647) hm nil0 (Nat.zero_le m)
    refine ⟨zs, run_rt (ρ := [some (.int cell), some (.int m), some (.lst (zs.map .int)), some (.int cell), a2, b2]) ?_, d4, d3⟩
    simp at e'
    simp [b__law_draws, hb, e2, e4, ep, hc, e']
end K51

namespace K51
open PySem PySem.Spec PyProof.Rows L2 Vm
/-! ### the plain things -/
def spD (s : Int × Int) : D := .tup [.int s.1, .int s.2]
def oD : Option Str → D
  | none => .non
  | some p => .str p
structure Ly where
  mem : List Str
  st : Int
  sh : Int
  sp : List (Int × Int)
def Ly.d (l : Ly) : D := .tup [.tup (l.mem.map .str), .int l.st, .int l.sh, .tup (l.sp.map spD)]
structure Ly.Ok (w : Int) (l : Ly) : Prop where
  m0 : 0 < l.mem.length
  m1 : l.mem.length ≤ 100
  s0 : 0 < l.sh
  s1 : l.sh ≤ 1000
  n : l.sp.length ≤ 100
  sp : ∀ s ∈ l.sp, 0 ≤ s.1 ∧ s.1 < s.2 ∧ s.2 ≤ w
structure Si where
  a : Int
  b : Int
  p : Str
def Si.d (s : Si) : D := .tup [.int s.a, .int s.b, .str s.p]
structure Sc where
  nm : Str
  ly : List Ly
  si : List Si
def Sc.d (s : Sc) : D := .tup [.str s.nm, .tup (s.ly.map Ly.d), .tup (s.si.map Si.d)]
structure Sc.Ok (w : Int) (s : Sc) : Prop where
  w0 : 0 < w
  nl : s.ly.length ≤ 100
  ns : s.si.length ≤ 100
  ok : ∀ l ∈ s.ly, l.Ok w
def inS (w : Int) (sp : List (Int × Int)) (t : Int) : Bool := sp.any fun s => decide (s.1 ≤ t % w) && decide (t % w < s.2)
def layerAt (w : Int) (l : Ly) (t : Int) : Option Str := if t < l.st then none else if (!l.sp.isEmpty && !inS w l.sp t) = true then none else l.mem[((t - l.st) / l.sh % (l.mem.length : Int)).toNat]?
def stand (t : Int) (s : Si) : Option Str := if s.a ≤ t ∧ t < s.b then some s.p else none
def onC (w : Int) (s : Sc) (t : Int) : Option Str := (s.si.reverse.findSome? (stand t)).or (s.ly.reverse.findSome? fun l => layerAt w l t)
/-! ### the package's on_call -/
theorem in_spans_ev {w : Int} (hw : 0 < w) {sp : List (Int × Int)} (hs : sp.length ≤ 100) (t : Int) : m_in_spans [.int w, .tup (sp.map spD), .int t] = some (.bl (inS w sp t)) := by
  have e1 : fmM (turn1 (gUnp 2 (gsCons (gSet 3) (gsCons (gSet 4) gsNil))) trueT (ch3V leD ltD (getV 3) (op2 modD (getV 2) (getV 0)) (getV 4)) [some (.int w), some (.tup (sp.map spD)), some (.int t), none, none]) (sp.map spD) = some (sp.map fun s => .bl (decide (s.1 ≤ t % w) && decide (t % w < s.2))) := by
    refine fmM_map fun s _ => ?_
    by_cases h : s.1 ≤ t % w <;> simp [spD, p_mod _ _ hw, h]
  refine run_rt (ρ := [some (.int w), some (.tup (sp.map spD)), some (.int t), none, none]) ?_
  have e2 := p_lcV (t := trueT) (hl := by simp; omega) (hf := e1)
  have e3 := p_any (fun s : Int × Int => decide (s.1 ≤ t % w) && decide (t % w < s.2)) sp
  simp [b_in_spans, e2]
  rw [e3]
  rfl
theorem mem_at {l : Ly} {w : Int} (h : l.Ok w) (z : Int) : ∃ p, l.mem[(z % (l.mem.length : Int)).toNat]? = some p ∧ atI (l.mem.map D.str) (z % (l.mem.length : Int)) = some (.str p) := by
  have hl : (0 : Int) < (l.mem.length : Int) := by have := h.m0; omega
  have a := Int.emod_nonneg z (show (l.mem.length : Int) ≠ 0 by omega)
  have b := Int.emod_lt_of_pos z hl
  have c : (z % (l.mem.length : Int)).toNat < l.mem.length := by omega
  exact ⟨_, List.getElem?_eq_getElem c, atI_int a (by simp [c])⟩
theorem on_layer_ev {w : Int} (hw : 0 < w) {l : Ly} (h : l.Ok w) (t : Int) : m_on_layer [.int w, l.d, .int t] = some (oD (layerAt w l t)) := by
  obtain ⟨p, e1, e2⟩ := mem_at h ((t - l.st) / l.sh)
  have hl : (0 : Int) < (l.mem.length : Int) := by have := h.m0; omega
  have e3 := in_spans_ev hw h.n t
  have e4 := p_fdiv (t - l.st) l.sh h.s0 (by have := h.s1; omega)
  have e5 := p_mod ((t - l.st) / l.sh) (l.mem.length : Int) hl
  unfold layerAt
  by_cases h1 : t < l.st
  · refine run_rt (ρ := [some (.int w), some l.d, some (.int t), some (.tup (l.mem.map .str)), some (.int l.st), some (.int l.sh), some (.tup (l.sp.map spD))]) ?_
    simp [b_on_layer, Ly.d, h1, oD]
  · refine run_rt (ρ := [some (.int w), some l.d, some (.int t), some (.tup (l.mem.map .str)), some (.int l.st), some (.int l.sh), some (.tup (l.sp.map spD))]) ?_
    by_cases h2 : l.sp = []
    · simp [b_on_layer, Ly.d, h1, h2, oD, e1, e2, e4, e5]
    · have h2' : l.sp.isEmpty = false := by simp [h2]
      cases h3 : inS w l.sp t
      · simp [b_on_layer, Ly.d, h1, h2, h2', oD, e3, h3]
      · simp [b_on_layer, Ly.d, h1, h2, h2', oD, e3, h3, e1, e2, e4, e5]
theorem on_call_ev {w : Int} {s : Sc} (h : s.Ok w) (t : Int) : m_on_call [.int w, s.d, .int t] = some (oD (onC w s t)) := by
  have r1 := forM_find (g := gUnp 3 (gsCons (gSet 4) (gsCons (gSet 5) (gsCons (gSet 6) gsNil)))) (b := lp1_on_call) Si.d (stand t) .str (fun ρ => ∃ a b e : Option D, ρ = [some (.int w), some s.d, some (.int t), none, a, b, e]) s.si.reverse (fun x _ ρ hI => by
    obtain ⟨a, b, e, rfl⟩ := hI
    refine ⟨[some (.int w), some s.d, some (.int t), none, some (.int x.a), some (.int x.b), some (.str x.p)], by simp [Si.d], ?_⟩
    unfold stand
    by_cases h1 : x.a ≤ t
    · by_cases h2 : t < x.b
      · exact .inl ⟨x.p, _, if_pos ⟨h1, h2⟩, by simp [lp1_on_call, h1, h2]; rfl⟩
      · exact .inr ⟨if_neg (by omega), [some (.int w), some s.d, some (.int t), none, some (.int x.a), some (.int x.b), some (.str x.p)], by simp [lp1_on_call, h1, h2], _, _, _, rfl⟩
    · exact .inr ⟨if_neg (by omega), [some (.int w), some s.d, some (.int t), none, some (.int x.a), some (.int x.b), some (.str x.p)], by simp [lp1_on_call, h1], _, _, _, rfl⟩) [some (.int w), some s.d, some (.int t), none, none, none, none] ⟨_, _, _, rfl⟩
  unfold onC
  have ed : (s.si.map Si.d).reverse = s.si.reverse.map Si.d := by simp
  have el : (s.ly.map Ly.d).reverse = s.ly.reverse.map Ly.d := by simp
  have x2 : ixD s.d (.int 2) = some (.tup (s.si.map Si.d)) := by simp [Sc.d]
  have x1 : ixD s.d (.int 1) = some (.tup (s.ly.map Ly.d)) := by simp [Sc.d]
  rcases r1 with ⟨r, ρ', f1, f2⟩ | ⟨f1, ρ', f2, a, b, e, rfl⟩
  · refine run_rt (ρ := ρ') ?_
    rw [f1]
    simp only [b_on_call]
    simp [x2, ed, f2, oD, -List.map_reverse]
  · have r2 := forM_find (g := gSet 3) (b := lp2_on_call) Ly.d (fun l => layerAt w l t) .str (fun ρ => ∃ a b e f : Option D, ρ = [some (.int w), some s.d, some (.int t), a, b, e, f]) s.ly.reverse (fun x hx ρ hI => by
      obtain ⟨a, b, e, f, rfl⟩ := hI
      have ev := on_layer_ev h.w0 (h.ok x (by simpa using hx)) t
      refine ⟨[some (.int w), some s.d, some (.int t), some x.d, b, e, f], rfl, ?_⟩
      cases hl : layerAt w x t with
      | none => exact .inr ⟨rfl, [some (.int w), some s.d, some (.int t), some x.d, b, e, some .non], by simp [lp2_on_call, ev, hl, oD], _, _, _, _, rfl⟩
      | some p => exact .inl ⟨p, [some (.int w), some s.d, some (.int t), some x.d, b, e, some (.str p)], rfl, by simp [lp2_on_call, ev, hl, oD]⟩) [some (.int w), some s.d, some (.int t), none, a, b, e] ⟨_, _, _, _, rfl⟩
    rw [f1, Option.none_or]
    rcases r2 with ⟨r, ρ', g1, g2⟩ | ⟨g1, ρ', g2, a, b, e, f, rfl⟩
    · refine run_rt (ρ := ρ') ?_
      rw [g1]
      simp only [b_on_call]
      simp [x2, x1, ed, el, f2, g2, oD, -List.map_reverse]
    · refine run_rt (ρ := [some (.int w), some s.d, some (.int t), a, b, e, f]) ?_
      rw [g1]
      simp only [b_on_call]
      simp [x2, x1, ed, el, f2, g2, oD, -List.map_reverse]
/-! ### the law's on_call -/
theorem inside_ev {w : Int} (hw : 0 < w) {sp : List (Int × Int)} (t : Int) : m__law_inside [.int w, .tup (sp.map spD), .int t] = some (.bl (inS w sp t)) := by
  have r1 := forM_find (g := gUnp 2 (gsCons (gSet 3) (gsCons (gSet 4) gsNil))) (b := lp1__law_inside) spD (fun s : Int × Int => if s.1 ≤ t % w ∧ t % w < s.2 then some () else none) (fun _ => .bl true) (fun ρ => ∃ a b : Option D, ρ = [some (.int w), some (.tup (sp.map spD)), some (.int t), a, b]) sp (fun x _ ρ hI => by
    obtain ⟨a, b, rfl⟩ := hI
    refine ⟨[some (.int w), some (.tup (sp.map spD)), some (.int t), some (.int x.1), some (.int x.2)], by simp [spD], ?_⟩
    by_cases h1 : x.1 ≤ t % w
    · by_cases h2 : t % w < x.2
      · exact .inl ⟨(), _, if_pos ⟨h1, h2⟩, by simp [lp1__law_inside, p_mod _ _ hw, h1, h2]; rfl⟩
      · exact .inr ⟨if_neg (by omega), [some (.int w), some (.tup (sp.map spD)), some (.int t), some (.int x.1), some (.int x.2)], by simp [lp1__law_inside, p_mod _ _ hw, h1, h2], _, _, rfl⟩
    · exact .inr ⟨if_neg (by omega), [some (.int w), some (.tup (sp.map spD)), some (.int t), some (.int x.1), some (.int x.2)], by simp [lp1__law_inside, p_mod _ _ hw, h1], _, _, rfl⟩) [some (.int w), some (.tup (sp.map spD)), some (.int t), none, none] ⟨_, _, rfl⟩
  rcases r1 with ⟨r, ρ', f1, f2⟩ | ⟨f1, ρ', f2, a, b, rfl⟩
  · refine run_rt (ρ := ρ') ?_
    have : inS w sp t = true := by
      obtain ⟨x, hx, hf⟩ := List.exists_of_findSome?_eq_some f1
      unfold inS
      rw [List.any_eq_true]
      refine ⟨x, hx, ?_⟩
      by_cases hc : x.1 ≤ t % w ∧ t % w < x.2
      · simp [hc]
      · rw [if_neg hc] at hf; cases hf
    simp [b__law_inside, f2, this]
  · refine run_rt (ρ := [some (.int w), some (.tup (sp.map spD)), some (.int t), a, b]) ?_
    have : inS w sp t = false := by
      rw [List.findSome?_eq_none_iff] at f1
      unfold inS
      rw [List.any_eq_false]
      intro x hx
      have hf := f1 x hx
      by_cases hc : x.1 ≤ t % w ∧ t % w < x.2
      · rw [if_pos hc] at hf; cases hf
      · simp; omega
    simp [b__law_inside, f2, this]
theorem member_ev {w : Int} (hw : 0 < w) {l : Ly} (h : l.Ok w) (t : Int) : m__law_member [.int w, l.d, .int t] = some (oD (layerAt w l t)) := by
  obtain ⟨p, e1, e2⟩ := mem_at h ((t - l.st) / l.sh)
  have hl : (0 : Int) < (l.mem.length : Int) := by have := h.m0; omega
  have e3 := inside_ev hw (sp := l.sp) t
  have e4 := p_fdiv (t - l.st) l.sh h.s0 (by have := h.s1; omega)
  have e5 := p_mod ((t - l.st) / l.sh) (l.mem.length : Int) hl
  unfold layerAt
  by_cases h1 : t < l.st
  · refine run_rt (ρ := [some (.int w), some l.d, some (.int t), some (.tup (l.mem.map .str)), some (.int l.st), some (.int l.sh), some (.tup (l.sp.map spD))]) ?_
    simp [b__law_member, Ly.d, h1, oD]
  · refine run_rt (ρ := [some (.int w), some l.d, some (.int t), some (.tup (l.mem.map .str)), some (.int l.st), some (.int l.sh), some (.tup (l.sp.map spD))]) ?_
    by_cases h2 : l.sp = []
    · simp [b__law_member, Ly.d, h1, h2, oD, e1, e2, e4, e5]
    · have h2' : l.sp.isEmpty = false := by simp [h2]
      have h2l : 0 < l.sp.length := List.length_pos_iff.mpr h2
      cases h3 : inS w l.sp t
      · simp [b__law_member, Ly.d, h1, h2, h2', h2l, oD, e3, h3]
      · simp [b__law_member, Ly.d, h1, h2, h2', h2l, oD, e3, h3, e1, e2, e4, e5]
theorem on_ev {w : Int} {s : Sc} (h : s.Ok w) (t : Int) : m__law_on [.int w, s.d, .int t] = some (oD (onC w s t)) := by
  have x2 : ixD s.d (.int 2) = some (.tup (s.si.map Si.d)) := by simp [Sc.d]
  have x1 : ixD s.d (.int 1) = some (.tup (s.ly.map Ly.d)) := by simp [Sc.d]
  obtain ⟨ρ1, f1, a, b, rfl⟩ := forM_fold (g := gSet 4) (b := lp1__law_on) Ly.d (fun acc l => (layerAt w l t).or acc) (fun acc ρ => ∃ a b : Option D, ρ = [some (.int w), some s.d, some (.int t), some (oD acc), a, b, none, none]) s.ly (fun x hx acc ρ hI => by
    obtain ⟨a, b, rfl⟩ := hI
    have ev := member_ev h.w0 (h.ok x hx) t
    refine ⟨[some (.int w), some s.d, some (.int t), some (oD acc), some x.d, b, none, none], [some (.int w), some s.d, some (.int t), some (oD ((layerAt w x t).or acc)), some x.d, some (oD (layerAt w x t)), none, none], rfl, ?_, _, _, rfl⟩
    cases hl : layerAt w x t with
    | none => simp [lp1__law_on, ev, hl, oD]
    | some p => simp [lp1__law_on, ev, hl, oD]) none [some (.int w), some s.d, some (.int t), some .non, none, none, none, none] ⟨_, _, rfl⟩
  obtain ⟨ρ2, f2, a2, b2, c2, d2, rfl⟩ := forM_fold (g := gUnp 3 (gsCons (gSet 6) (gsCons (gSet 7) (gsCons (gSet 5) gsNil)))) (b := lp2__law_on) Si.d (fun acc x => (stand t x).or acc) (fun acc ρ => ∃ a b e f : Option D, ρ = [some (.int w), some s.d, some (.int t), some (oD acc), a, b, e, f]) s.si (fun x hx acc ρ hI => by
    obtain ⟨a, b, e, f, rfl⟩ := hI
    refine ⟨[some (.int w), some s.d, some (.int t), some (oD acc), a, some (.str x.p), some (.int x.a), some (.int x.b)], [some (.int w), some s.d, some (.int t), some (oD ((stand t x).or acc)), a, some (.str x.p), some (.int x.a), some (.int x.b)], by simp [Si.d], ?_, _, _, _, _, rfl⟩
    unfold stand
    by_cases h1 : x.a ≤ t
    · by_cases h2 : t < x.b
      · simp [lp2__law_on, h1, h2, oD]
      · simp [lp2__law_on, h1, h2, oD]
    · simp [lp2__law_on, h1, oD]) (s.ly.foldl (fun acc l => (layerAt w l t).or acc) none) [some (.int w), some s.d, some (.int t), some (oD (s.ly.foldl (fun acc l => (layerAt w l t).or acc) none)), a, b, none, none] ⟨_, _, _, _, rfl⟩
  rw [foldl_last, Option.or_none] at f2
  rw [foldl_last, Option.or_none] at f1
  rw [foldl_last (stand t)] at f2
  refine run_rt (ρ := [some (.int w), some s.d, some (.int t), some (oD (onC w s t)), a2, b2, c2, d2]) ?_
  simp only [b__law_on]
  simp [x1, x2, f1, f2]
  rfl
end K51

namespace K51
open PySem PySem.Spec PyProof.Rows L2 Vm
/-! ### breaks -/
def bs (l : Ly) (t : Int) : Int := max (t + 1) l.st
def brk (w : Int) (l : Ly) (t : Int) : List Int :=
  (if t < l.st then [l.st] else []) ++ (if 1 < l.mem.length then [l.st + (bs l t - l.st + l.sh - 1) / l.sh * l.sh] else []) ++ l.sp.flatMap fun s => [bs l t + (s.1 - bs l t) % w, bs l t + (s.2 - bs l t) % w]
def stB (t : Int) (s : Si) : List Int := [s.a, s.b].filter fun e => decide (t < e)
def found (w : Int) (s : Sc) (t : Int) : List Int := s.si.flatMap (stB t) ++ s.ly.flatMap fun l => brk w l t
theorem foldl_app {α β : Type} (f : α → List β) : ∀ (xs : List α) (z : List β), xs.foldl (fun acc x => acc ++ f x) z = z ++ xs.flatMap f
  | [], z => by simp
  | x :: xs, z => by rw [List.foldl_cons, foldl_app f xs, List.flatMap_cons, List.append_assoc]
theorem flat_len {α β : Type} (f : α → List β) (n : Nat) : ∀ xs : List α, (∀ x ∈ xs, (f x).length ≤ n) → (xs.flatMap f).length ≤ xs.length * n
  | [], _ => by simp
  | x :: xs, h => by
    have a := flat_len f n xs fun y hy => h y (List.mem_cons_of_mem _ hy)
    have b := h x List.mem_cons_self
    rw [List.flatMap_cons, List.length_append, List.length_cons, Nat.add_mul]
    omega
theorem brk_len (w : Int) {l : Ly} (h : l.sp.length ≤ 100) (t : Int) : (brk w l t).length ≤ 202 := by
  have a := flat_len (fun s : Int × Int => [bs l t + (s.1 - bs l t) % w, bs l t + (s.2 - bs l t) % w]) 2 l.sp fun x _ => by simp
  unfold brk
  rw [List.length_append, List.length_append]
  have b : (if t < l.st then [l.st] else []).length ≤ 1 := by split <;> simp
  have c : (if 1 < l.mem.length then [l.st + (bs l t - l.st + l.sh - 1) / l.sh * l.sh] else []).length ≤ 1 := by split <;> simp
  omega
abbrev F2 (w base : Int) (s : Int × Int) : List Int := [base + (s.1 - base) % w, base + (s.2 - base) % w]
theorem breaks_lp {w : Int} (hw : 0 < w) {a b e f g h i : Option D} {base : Int} (sp : List (Int × Int)) (n0 : sp.length ≤ 100) (ns : List Int) (hn : ns.length ≤ 2) (p q : Option D) :
    ∃ p' q' : Option D, forM (gSet 5) lp2__layer_breaks (sp.map spD) [some (.int w), a, b, some (.lst (ns.map .int)), some (.int base), p, e, f, g, h, i, q] = some (.nx, [some (.int w), a, b, some (.lst ((ns ++ sp.flatMap (F2 w base)).map .int)), some (.int base), p', e, f, g, h, i, q']) := by
  obtain ⟨ρ', e1, ⟨hl, p', q', rfl⟩⟩ := forM_foldN (g := gSet 5) (b := lp2__layer_breaks) spD (fun (acc : List Int) s => acc ++ F2 w base s) sp (fun k acc ρ => acc.length ≤ 2 + 2 * k ∧ ∃ p q : Option D, ρ = [some (.int w), a, b, some (.lst (acc.map .int)), some (.int base), p, e, f, g, h, i, q]) (fun k x acc ρ hx hk hI => by
    obtain ⟨hl, p, q, rfl⟩ := hI
    refine ⟨_, [some (.int w), a, b, some (.lst ((acc ++ F2 w base x).map .int)), some (.int base), some (spD x), e, f, g, h, i, some (.int x.2)], rfl, ?_, by simp; omega, _, _, rfl⟩
    have h1 : acc.length < 16777216 := by omega
    have h2 : acc.length + 1 < 16777216 := by omega
    simp [lp2__layer_breaks, spD, lp1__layer_breaks, p_mod _ _ hw, h1, h2, F2]) ns [some (.int w), a, b, some (.lst (ns.map .int)), some (.int base), p, e, f, g, h, i, q] ⟨by omega, p, q, rfl⟩
  rw [foldl_app] at e1
  exact ⟨p', q', e1⟩
theorem layer_breaks_ev {w : Int} (hw : 0 < w) {l : Ly} (h : l.Ok w) (t : Int) : m__layer_breaks [.int w, l.d, .int t] = some (.lst ((brk w l t).map .int)) := by
  have e4 := fun z : Int => p_fdiv z l.sh h.s0 (by have := h.s1; omega)
  have e5 := fun z : Int => p_mulR z l.sh (by have := h.s0; omega) (by have := h.s1; omega)
  have hmx : max (t + 1) l.st = bs l t := rfl
  have eL : (1 : Int) < (l.mem.length : Int) ↔ 1 < l.mem.length := by omega
  have go : ∀ (c1 : t < l.st ∨ ¬ t < l.st) (c2 : 1 < l.mem.length ∨ ¬ 1 < l.mem.length), m__layer_breaks [.int w, l.d, .int t] = some (.lst ((brk w l t).map .int)) := by
    intro c1 c2
    rcases c1 with c1 | c1 <;> rcases c2 with c2 | c2
    · obtain ⟨p', q', e⟩ := breaks_lp hw (a := some l.d) (b := some (.int t)) (e := some (.tup (l.mem.map .str))) (f := some (.int l.st)) (g := some (.int l.sh)) (h := some (.tup (l.sp.map spD))) (i := some (.int ((bs l t - l.st + l.sh - 1) / l.sh))) (base := bs l t) l.sp h.n [l.st, l.st + (bs l t - l.st + l.sh - 1) / l.sh * l.sh] (by simp) none none
      refine run_rt (ρ := [some (.int w), some l.d, some (.int t), some (.lst ((brk w l t).map .int)), some (.int (bs l t)), p', some (.tup (l.mem.map .str)), some (.int l.st), some (.int l.sh), some (.tup (l.sp.map spD)), some (.int ((bs l t - l.st + l.sh - 1) / l.sh)), q']) ?_
      simp at e
      simp [b__layer_breaks, Ly.d, c1, c2, eL, e4, e5, hmx]
      simp [Ly.d] at e
      rw [e]
      simp [brk, c1, c2, F2]
    · obtain ⟨p', q', e⟩ := breaks_lp hw (a := some l.d) (b := some (.int t)) (e := some (.tup (l.mem.map .str))) (f := some (.int l.st)) (g := some (.int l.sh)) (h := some (.tup (l.sp.map spD))) (i := none) (base := bs l t) l.sp h.n [l.st] (by simp) none none
      refine run_rt (ρ := [some (.int w), some l.d, some (.int t), some (.lst ((brk w l t).map .int)), some (.int (bs l t)), p', some (.tup (l.mem.map .str)), some (.int l.st), some (.int l.sh), some (.tup (l.sp.map spD)), none, q']) ?_
      simp at e
      simp [b__layer_breaks, Ly.d, c1, c2, eL, e4, e5, hmx]
      simp [Ly.d] at e
      rw [e]
      simp [brk, c1, c2, F2]
    · obtain ⟨p', q', e⟩ := breaks_lp hw (a := some l.d) (b := some (.int t)) (e := some (.tup (l.mem.map .str))) (f := some (.int l.st)) (g := some (.int l.sh)) (h := some (.tup (l.sp.map spD))) (i := some (.int ((bs l t - l.st + l.sh - 1) / l.sh))) (base := bs l t) l.sp h.n [l.st + (bs l t - l.st + l.sh - 1) / l.sh * l.sh] (by simp) none none
      refine run_rt (ρ := [some (.int w), some l.d, some (.int t), some (.lst ((brk w l t).map .int)), some (.int (bs l t)), p', some (.tup (l.mem.map .str)), some (.int l.st), some (.int l.sh), some (.tup (l.sp.map spD)), some (.int ((bs l t - l.st + l.sh - 1) / l.sh)), q']) ?_
      simp at e
      simp [b__layer_breaks, Ly.d, c1, c2, eL, e4, e5, hmx]
      simp [Ly.d] at e
      rw [e]
      simp [brk, c1, c2, F2]
    · obtain ⟨p', q', e⟩ := breaks_lp hw (a := some l.d) (b := some (.int t)) (e := some (.tup (l.mem.map .str))) (f := some (.int l.st)) (g := some (.int l.sh)) (h := some (.tup (l.sp.map spD))) (i := none) (base := bs l t) l.sp h.n [] (by simp) none none
      refine run_rt (ρ := [some (.int w), some l.d, some (.int t), some (.lst ((brk w l t).map .int)), some (.int (bs l t)), p', some (.tup (l.mem.map .str)), some (.int l.st), some (.int l.sh), some (.tup (l.sp.map spD)), none, q']) ?_
      simp at e
      simp [b__layer_breaks, Ly.d, c1, c2, eL, e4, e5, hmx]
      simp [Ly.d] at e
      rw [e]
      simp [brk, c1, c2, F2]
  exact go (Decidable.em _) (Decidable.em _)
end K51

namespace K51
open PySem PySem.Spec PyProof.Rows L2 Vm
def oI : Option Int → D
  | none => .non
  | some n => .int n
def nextB (w : Int) (s : Sc) (t : Int) : Option Int := if found w s t = [] then none else some (minI (found w s t))
theorem stB_len (t : Int) (x : Si) : (stB t x).length ≤ 2 := List.length_filter_le _ _
theorem next_break_ev {w : Int} {s : Sc} (h : s.Ok w) (t : Int) : m_next_break [.int w, s.d, .int t] = some (oI (nextB w s t)) := by
  have x2 : ixD s.d (.int 2) = some (.tup (s.si.map Si.d)) := by simp [Sc.d]
  have x1 : ixD s.d (.int 1) = some (.tup (s.ly.map Ly.d)) := by simp [Sc.d]
  obtain ⟨ρ1, f1, h1, a, b, c, d, rfl⟩ := forM_foldN (g := gUnp 3 (gsCons (gSet 5) (gsCons (gSet 6) (gsCons (gSet 7) gsNil)))) (b := lp2_next_break) Si.d (fun (acc : List Int) x => acc ++ stB t x) s.si
    (fun k acc ρ => acc.length ≤ 2 * k ∧ ∃ a b c d : Option D, ρ = [some (.int w), some s.d, some (.int t), some (.lst (acc.map .int)), none, a, b, c, d]) (fun k x acc ρ hx hk hI => by
    obtain ⟨hl, a, b, c, d, rfl⟩ := hI
    have := h.ns
    have l1 : acc.length < 16777216 := by omega
    have l2 : acc.length + 1 < 16777216 := by omega
    refine ⟨[some (.int w), some s.d, some (.int t), some (.lst (acc.map .int)), none, some (.int x.a), some (.int x.b), some (.str x.p), d], [some (.int w), some s.d, some (.int t), some (.lst ((acc ++ stB t x).map .int)), none, some (.int x.a), some (.int x.b), some (.str x.p), some (.int x.b)], by simp [Si.d], ?_, by rw [List.length_append]; have := stB_len t x; omega, _, _, _, _, rfl⟩
    unfold stB
    by_cases c1 : t < x.a <;> by_cases c2 : t < x.b <;> simp [lp2_next_break, lp1_next_break, c1, c2, l1, l2]) [] [some (.int w), some s.d, some (.int t), some (.lst []), none, none, none, none, none] ⟨by simp, _, _, _, _, rfl⟩
  rw [foldl_app, List.nil_append] at f1 h1
  obtain ⟨ρ2, f2, h2, a2, rfl⟩ := forM_foldN (g := gSet 4) (b := lp3_next_break) Ly.d (fun (acc : List Int) l => acc ++ brk w l t) s.ly
    (fun k acc ρ => acc.length ≤ 200 + 202 * k ∧ ∃ a' : Option D, ρ = [some (.int w), some s.d, some (.int t), some (.lst (acc.map .int)), a', a, b, c, d]) (fun k x acc ρ hx hk hI => by
    obtain ⟨hl, a', rfl⟩ := hI
    have := h.nl
    have bl := brk_len w (h.ok x hx).n t
    have l1 : acc.length + (brk w x t).length ≤ 16777216 := by omega
    refine ⟨[some (.int w), some s.d, some (.int t), some (.lst (acc.map .int)), some x.d, a, b, c, d], [some (.int w), some s.d, some (.int t), some (.lst ((acc ++ brk w x t).map .int)), some x.d, a, b, c, d], rfl, ?_, by rw [List.length_append]; omega, _, rfl⟩
    simp [lp3_next_break, layer_breaks_ev h.w0 (h.ok x hx) t, l1]) (s.si.flatMap (stB t)) [some (.int w), some s.d, some (.int t), some (.lst ((s.si.flatMap (stB t)).map .int)), none, a, b, c, d] ⟨by have := h.ns; omega, _, rfl⟩
  rw [foldl_app] at f2 h2
  have ef : s.si.flatMap (stB t) ++ s.ly.flatMap (fun l => brk w l t) = found w s t := rfl
  rw [ef] at f2
  refine run_rt (ρ := [some (.int w), some s.d, some (.int t), some (.lst ((found w s t).map .int)), a2, a, b, c, d]) ?_
  unfold nextB
  by_cases hf : found w s t = []
  · rw [hf] at f2 ⊢
    simp at f1 f2
    simp [b_next_break, x1, x2, f1, f2, oI]
  · have hm := p_min hf
    have hfe : (found w s t).isEmpty = false := by simp [hf]
    simp [b_next_break, x1, x2, f1, f2, hf, hfe, hm, oI]
/-! ### constancy -/
theorem mod_step {w u : Int} (hw : 0 < w) : (u + 1) % w = if u % w + 1 = w then 0 else u % w + 1 := by
  have a := Int.emod_nonneg u (show w ≠ 0 by omega)
  have b := Int.emod_lt_of_pos u hw
  have e : (u + 1) % w = (u % w + 1) % w := (Int.emod_add_emod u w 1).symm
  rw [e]
  split
  · rename_i h; rw [h, Int.emod_self]
  · exact Int.emod_eq_of_lt (by omega) (by omega)
/-- the least time from base on that is end by the week -/
theorem nxt_le {w base e v : Int} (hw : 0 < w) (hv : base ≤ v) (h : (v - e) % w = 0) : base + (e - base) % w ≤ v := by
  obtain ⟨q, hq⟩ := Int.dvd_of_emod_eq_zero h
  have e1 : (e - base) % w = (v - base) % w := by
    have : e - base = (v - base) + w * (-q) := by rw [Int.mul_neg, ← hq]; omega
    rw [this, Int.add_mul_emod_self_left]
  rw [e1]
  have h1 := Int.mul_ediv_add_emod (v - base) w
  have h2 := Int.mul_nonneg (Int.le_of_lt hw) (Int.ediv_nonneg (a := v - base) (b := w) (by omega) (Int.le_of_lt hw))
  omega
theorem mod_zero {w u e : Int} (hw : 0 < w) (h : (u - e) % w = 0) : u % w = e % w := by
  obtain ⟨q, hq⟩ := Int.dvd_of_emod_eq_zero h
  have : u = e + w * q := by omega
  rw [this, Int.add_mul_emod_self_left]
theorem mod_eq {w u e : Int} (h : u % w = e % w) : (u - e) % w = 0 := Int.emod_eq_emod_iff_emod_sub_eq_zero.mp h
/-- within a span or not: unchanged from t to v if neither end lies between -/
theorem span_step {w a b u : Int} (hw : 0 < w) (h0 : 0 ≤ a) (h1 : a < b) (h2 : b ≤ w) (ha : (u + 1 - a) % w ≠ 0) (hb : (u + 1 - b) % w ≠ 0) : (a ≤ (u + 1) % w ∧ (u + 1) % w < b) ↔ (a ≤ u % w ∧ u % w < b) := by
  have m := mod_step (u := u) hw
  have x := Int.emod_nonneg u (show w ≠ 0 by omega)
  have y := Int.emod_lt_of_pos u hw
  have na : (u + 1) % w ≠ a := fun e => ha (mod_eq (by rw [e, Int.emod_eq_of_lt h0 (by omega)]))
  have nb : (u + 1) % w ≠ b % w := fun e => hb (mod_eq e)
  by_cases hbw : b = w
  · subst hbw
    rw [Int.emod_self] at nb
    split at m <;> omega
  · rw [Int.emod_eq_of_lt (a := b) (by omega) (by omega)] at nb
    split at m <;> omega
theorem span_const {w a b t : Int} (hw : 0 < w) (h0 : 0 ≤ a) (h1 : a < b) (h2 : b ≤ w) : ∀ n : Nat, (∀ u, t < u → u ≤ t + n → (u - a) % w ≠ 0 ∧ (u - b) % w ≠ 0) → ((a ≤ (t + n) % w ∧ (t + n) % w < b) ↔ (a ≤ t % w ∧ t % w < b))
  | 0, _ => by simp
  | n + 1, h => by
    have ih := span_const hw h0 h1 h2 n fun u x y => h u x (by omega)
    have st := span_step (u := t + n) hw h0 h1 h2 (h _ (by omega) (by omega)).1 (h _ (by omega) (by omega)).2
    have e : t + ((n + 1 : Nat) : Int) = t + n + 1 := by omega
    rw [e, st, ih]
theorem inS_const {w t v : Int} {sp : List (Int × Int)} (hw : 0 < w) (hs : ∀ s ∈ sp, 0 ≤ s.1 ∧ s.1 < s.2 ∧ s.2 ≤ w) (htv : t ≤ v) (h : ∀ s ∈ sp, ∀ e ∈ F2 w (t + 1) s, ¬ e ≤ v) : inS w sp v = inS w sp t := by
  unfold inS
  have go : ∀ s ∈ sp, (decide (s.1 ≤ v % w) && decide (v % w < s.2)) = (decide (s.1 ≤ t % w) && decide (t % w < s.2)) := by
    intro s hx
    obtain ⟨a, b, c⟩ := hs s hx
    have k := span_const (t := t) hw a b c (v - t).toNat (fun u x y => ⟨fun z => ?_, fun z => ?_⟩)
    · rw [show t + ((v - t).toNat : Int) = v by omega] at k
      rw [Bool.eq_iff_iff]
      simpa using k
    · have l := nxt_le (base := t + 1) hw (by omega) z
      exact h s hx _ (List.mem_cons_self) (by omega)
    · have l := nxt_le (base := t + 1) hw (by omega) z
      exact h s hx _ (List.mem_cons_of_mem _ List.mem_cons_self) (by omega)
  rw [Bool.eq_iff_iff, List.any_eq_true, List.any_eq_true]
  constructor
  · rintro ⟨x, hx, e⟩
    exact ⟨x, hx, by rw [← go x hx]; exact e⟩
  · rintro ⟨x, hx, e⟩
    exact ⟨x, hx, by rw [go x hx]; exact e⟩
/-- the turn is unchanged ahead of the next multiple -/
theorem turn_const {st sh t v : Int} (hs : 0 < sh) (h0 : st ≤ t) (htv : t ≤ v) (h : ¬ st + (t + 1 - st + sh - 1) / sh * sh ≤ v) : (v - st) / sh = (t - st) / sh := by
  have e1 : t + 1 - st + sh - 1 = (t - st) + sh := by omega
  have e2 : ((t - st) + sh) / sh = (t - st) / sh + 1 := by rw [Int.add_ediv_of_dvd_right (Int.dvd_refl sh), Int.ediv_self (by omega)]
  rw [e1, e2] at h
  have d1 := Int.mul_ediv_add_emod (t - st) sh
  have d2 := Int.emod_nonneg (t - st) (show sh ≠ 0 by omega)
  have e3 : ((t - st) / sh + 1) * sh = sh * ((t - st) / sh) + sh := by rw [Int.add_mul, Int.one_mul, Int.mul_comm]
  rw [e3] at h
  refine Int.le_antisymm (Int.le_of_lt_add_one (Int.ediv_lt_of_lt_mul hs ?_)) (Int.le_ediv_of_mul_le hs ?_)
  · rw [e3]; omega
  · rw [Int.mul_comm]; omega
theorem layer_const {w : Int} (hw : 0 < w) {l : Ly} (h : l.Ok w) {t v : Int} (htv : t ≤ v) (hb : ∀ e ∈ brk w l t, ¬ e ≤ v) : layerAt w l v = layerAt w l t := by
  unfold layerAt
  by_cases c1 : t < l.st
  · have : ¬ l.st ≤ v := hb l.st (by simp [brk, c1])
    rw [if_pos c1, if_pos (by omega)]
  · have eb : bs l t = t + 1 := by unfold bs; omega
    rw [if_neg c1, if_neg (by omega), inS_const hw h.sp htv (fun s hs e he => hb e (by
      unfold brk
      rw [eb]
      exact List.mem_append_right _ (List.mem_flatMap.mpr ⟨s, hs, he⟩)))]
    split
    · rfl
    · by_cases c2 : 1 < l.mem.length
      · rw [turn_const h.s0 (by omega) htv (hb _ (by simp [brk, c1, c2, eb]))]
      · have e1 : (l.mem.length : Int) = 1 := by have := h.m0; omega
        rw [e1, Int.emod_one, Int.emod_one]
theorem onC_const {w : Int} {s : Sc} (h : s.Ok w) {t v : Int} (htv : t ≤ v) (hb : ∀ e ∈ found w s t, ¬ e ≤ v) : onC w s v = onC w s t := by
  unfold onC
  have e1 : ∀ x ∈ s.si, stand v x = stand t x := by
    intro x hx
    have a : ∀ e ∈ stB t x, ¬ e ≤ v := fun e he => hb e (List.mem_append_left _ (List.mem_flatMap.mpr ⟨x, hx, he⟩))
    have a1 : t < x.a → ¬ x.a ≤ v := fun z => a _ (by simp [stB, z])
    have a2 : t < x.b → ¬ x.b ≤ v := fun z => a _ (by simp [stB, z])
    unfold stand
    by_cases c : x.a ≤ t ∧ t < x.b
    · rw [if_pos c, if_pos (by omega)]
    · rw [if_neg c, if_neg (by omega)]
  have e2 : ∀ l ∈ s.ly, layerAt w l v = layerAt w l t := fun l hl => layer_const h.w0 (h.ok l hl) htv fun e he => hb e (List.mem_append_right _ (List.mem_flatMap.mpr ⟨l, hl, he⟩))
  have fs : ∀ {α : Type} (f g : α → Option Str) (xs : List α), (∀ x ∈ xs, f x = g x) → xs.findSome? f = xs.findSome? g := by
    intro α f g xs hx
    induction xs with
    | nil => rfl
    | cons x xs ih => rw [List.findSome?_cons, List.findSome?_cons, hx x List.mem_cons_self, ih fun y hy => hx y (List.mem_cons_of_mem _ hy)]
  rw [fs _ _ s.si.reverse fun x hx => e1 x (by simpa using hx), fs _ _ s.ly.reverse fun x hx => e2 x (by simpa using hx)]
theorem brk_gt {w : Int} (hw : 0 < w) {l : Ly} (h : l.Ok w) {t e : Int} (he : e ∈ brk w l t) : t < e := by
  have hb : t < bs l t := by unfold bs; omega
  have hs : l.st ≤ bs l t := by unfold bs; omega
  unfold brk at he
  rcases List.mem_append.mp he with he | he
  · rcases List.mem_append.mp he with he | he
    · split at he
      · simp at he; omega
      · simp at he
    · split at he
      · simp at he
        have h0 := h.s0
        have d1 := Int.mul_ediv_add_emod (bs l t - l.st + l.sh - 1) l.sh
        have d2 := Int.emod_lt_of_pos (bs l t - l.st + l.sh - 1) h0
        rw [Int.mul_comm] at d1
        omega
      · simp at he
  · obtain ⟨s, _, he⟩ := List.mem_flatMap.mp he
    have a := Int.emod_nonneg (s.1 - bs l t) (show w ≠ 0 by omega)
    have b := Int.emod_nonneg (s.2 - bs l t) (show w ≠ 0 by omega)
    simp at he
    omega
theorem found_gt {w : Int} {s : Sc} (h : s.Ok w) {t e : Int} (he : e ∈ found w s t) : t < e := by
  rcases List.mem_append.mp he with he | he
  · obtain ⟨x, _, hx⟩ := List.mem_flatMap.mp he
    unfold stB at hx
    have := (List.mem_filter.mp hx).2
    simpa using this
  · obtain ⟨l, hl, hx⟩ := List.mem_flatMap.mp he
    exact brk_gt h.w0 (h.ok l hl) hx
/-- what next_break tells -/
theorem nextB_none {w : Int} {s : Sc} (h : s.Ok w) {t v : Int} (htv : t ≤ v) (hn : nextB w s t = none) : onC w s v = onC w s t := by
  unfold nextB at hn
  split at hn
  · rename_i hf
    exact onC_const h htv (by rw [hf]; intro e he; simp at he)
  · cases hn
theorem nextB_some {w : Int} {s : Sc} (h : s.Ok w) {t b : Int} (hn : nextB w s t = some b) : t < b ∧ ∀ v, t ≤ v → v < b → onC w s v = onC w s t := by
  unfold nextB at hn
  split at hn
  · cases hn
  · rename_i hf
    cases hn
    obtain ⟨a1, a2⟩ := minI_mem hf
    exact ⟨found_gt h a1, fun v htv hv => onC_const h htv fun e he => by have := a2 e he; omega⟩
end K51

namespace K51
open PySem PySem.Spec PyProof.Rows L2 Vm
abbrev Row := Int × Int × Option Str
def rD (r : Row) : D := .tup [.int r.1, .int r.2.1, oD r.2.2]
def ticks (w : Int) (s : Sc) (a : Int) (n : Nat) : List (Option Str) := (List.range n).map fun (i : Nat) => onC w s (a + (i : Int))
def ex (rs : List Row) : List (Option Str) := rs.flatMap fun r => List.replicate (r.2.1 - r.1).toNat r.2.2
theorem ticks_add {w : Int} {s : Sc} {a : Int} {n : Nat} {p : Option Str} : ∀ m : Nat, (∀ v : Int, a + n ≤ v → v < a + n + m → onC w s v = p) → ticks w s a (n + m) = ticks w s a n ++ List.replicate m p
  | 0, _ => by simp
  | m + 1, h => by
    have ih := ticks_add m fun v x y => h v x (by omega)
    have e : ticks w s a (n + (m + 1)) = ticks w s a (n + m) ++ [onC w s (a + ((n + m : Nat) : Int))] := by
      unfold ticks
      rw [← Nat.add_assoc, List.range_succ, List.map_append]
      rfl
    rw [e, ih, h _ (by omega) (by omega), List.replicate_succ', List.append_assoc]
theorem eq_oD (p q : Option Str) : eqD (oD p) (oD q) = some (.bl (decide (p = q))) := by
  cases p <;> cases q <;> simp [oD]
structure Inv (w : Int) (s : Sc) (f l : Int) (rs : List Row) (t : Int) : Prop where
  a : f ≤ t
  b : t ≤ max f l
  e : ex rs = ticks w s f (t - f).toNat
  n : rs.length ≤ (t - f).toNat
  p : ∀ r ∈ rs, r.1 < r.2.1
  z : rs = [] ∨ ∃ i r, rs = i ++ [r] ∧ r.2.1 = t
theorem ex_app (a b : List Row) : ex (a ++ b) = ex a ++ ex b := by unfold ex; rw [List.flatMap_append]
theorem ex_one (r : Row) : ex [r] = List.replicate (r.2.1 - r.1).toNat r.2.2 := by unfold ex; simp
theorem Inv.new {w : Int} {s : Sc} {f l : Int} {rs : List Row} {t k : Int} {p : Option Str} (I : Inv w s f l rs t) (h1 : t < k) (h2 : k ≤ l) (hc : ∀ v, t ≤ v → v < k → onC w s v = p) : Inv w s f l (rs ++ [(t, k, p)]) k := by
  have ia := I.a
  refine ⟨by omega, by omega, ?_, ?_, fun r hr => ?_, .inr ⟨rs, _, rfl, rfl⟩⟩
  · rw [ex_app, I.e, ex_one, show (k - f).toNat = (t - f).toNat + (k - t).toNat by omega, ticks_add (p := p) (k - t).toNat fun v x y => hc v (by omega) (by omega)]
  · have := I.n
    rw [List.length_append, List.length_singleton]
    omega
  · rcases List.mem_append.mp hr with hr | hr
    · exact I.p r hr
    · rw [List.mem_singleton] at hr; subst hr; exact h1
theorem Inv.more {w : Int} {s : Sc} {f l : Int} {i : List Row} {b t k : Int} {p : Option Str} (I : Inv w s f l (i ++ [(b, t, p)]) t) (h1 : t < k) (h2 : k ≤ l) (hc : ∀ v, t ≤ v → v < k → onC w s v = p) : Inv w s f l (i ++ [(b, k, p)]) k := by
  have ia := I.a
  have ip : b < t := I.p (b, t, p) (by simp)
  refine ⟨by omega, by omega, ?_, ?_, fun r hr => ?_, .inr ⟨i, _, rfl, rfl⟩⟩
  · have e := I.e
    rw [ex_app, ex_one] at e
    rw [ex_app, ex_one, show (k - f).toNat = (t - f).toNat + (k - t).toNat by omega, ticks_add (p := p) (k - t).toNat fun v x y => hc v (by omega) (by omega), ← e, List.append_assoc]
    show ex i ++ List.replicate (k - b).toNat p = ex i ++ (List.replicate (t - b).toNat p ++ List.replicate (k - t).toNat p)
    rw [List.replicate_append_replicate, show (t - b).toNat + (k - t).toNat = (k - b).toNat by omega]
  · have := I.n
    rw [List.length_append, List.length_singleton] at this ⊢
    omega
  · rcases List.mem_append.mp hr with hr | hr
    · exact I.p r (List.mem_append_left _ hr)
    · rw [List.mem_singleton] at hr
      subst hr
      show b < k
      omega
/-- the end of the stretch that begins at t -/
def later (w : Int) (s : Sc) (l t : Int) : Int := match nextB w s t with
  | none => l
  | some b => if b > l then l else b
theorem later_ok {w : Int} {s : Sc} (h : s.Ok w) {l t : Int} (ht : t < l) : t < later w s l t ∧ later w s l t ≤ l ∧ ∀ v, t ≤ v → v < later w s l t → onC w s v = onC w s t := by
  unfold later
  cases hn : nextB w s t with
  | none => exact ⟨ht, Int.le_refl _, fun v a _ => nextB_none h a hn⟩
  | some b =>
    obtain ⟨h1, h2⟩ := nextB_some h hn
    show t < (if b > l then l else b) ∧ (if b > l then l else b) ≤ l ∧ ∀ v, t ≤ v → v < (if b > l then l else b) → onC w s v = onC w s t
    by_cases hb : b > l
    · rw [if_pos hb]; exact ⟨ht, Int.le_refl _, fun v a c => h2 v a (by omega)⟩
    · rw [if_neg hb]; exact ⟨h1, by omega, fun v a c => h2 v a c⟩
theorem lp_ev {w : Int} {s : Sc} (h : s.Ok w) {f l t : Int} {rs : List Row} (ht : t < l) (hl : l - f ≤ 1000) (I : Inv w s f l rs t) (a b : Option D) :
    ∃ rs', lp1_stretches [some (.int w), some s.d, some (.int f), some (.int l), some (.lst (rs.map rD)), some (.int t), a, b] =
      some (.nx, [some (.int w), some s.d, some (.int f), some (.int l), some (.lst (rs'.map rD)), some (.int (later w s l t)), some (oD (onC w s t)), some (.int (later w s l t))]) ∧ Inv w s f l rs' (later w s l t) := by
  obtain ⟨k1, k2, k3⟩ := later_ok h ht
  have e1 := on_call_ev h t
  have e2 := next_break_ev h t
  -- the end
  have e3 : ∀ x0 x1 x2 x4 x5 x6 : Option D, ifS (orB (tB (op2 isD (getV 7) (kD' .non))) (tB (op2 gtD (getV 7) (getV 3)))) (setS 7 (liftQ (getV 3))) nilS [x0, x1, x2, some (.int l), x4, x5, x6, some (oI (nextB w s t))] = some (.nx, [x0, x1, x2, some (.int l), x4, x5, x6, some (.int (later w s l t))]) := by
    intro x0 x1 x2 x4 x5 x6
    unfold later
    cases nextB w s t with
    | none => simp [oI]
    | some b =>
      by_cases hb : l < b
      · simp [oI, hb]
      · simp [oI, hb]
  have nl : rs.length < 16777216 := by have := I.n; have := I.a; have := I.b; omega
  rcases I.z with rfl | ⟨i, ⟨b0, t0, p0⟩, rfl, et⟩
  · refine ⟨[(t, later w s l t, onC w s t)], ?_, Inv.new I k1 k2 k3⟩
    unfold lp1_stretches
    rw [p_seqS, p_setS, p_liftQ, p_apA]
    simp [-p_ifS, e1, e2, e3, -p_orB]
    simp [rD]
  · have et : t0 = t := et
    subst et
    have ne : (i.map rD ++ [rD (b0, t0, p0)]).isEmpty = false := by simp
    have nl2 : i.length + 1 < 16777216 := by simpa using nl
    have q0 : ixD (rD (b0, t0, p0)) (.int 0) = some (.int b0) := by simp [rD]
    have q2 : ixD (rD (b0, t0, p0)) (.int 2) = some (oD p0) := by simp [rD]
    have hx : ixN (i.map rD ++ [rD (b0, t0, p0)]).length (-1) = some i.length := by rw [List.length_append, List.length_map]; exact ixN_last
    by_cases hp : p0 = onC w s t0
    · subst hp
      refine ⟨i ++ [(b0, later w s l t0, onC w s t0)], ?_, Inv.more I k1 k2 k3⟩
      unfold lp1_stretches
      rw [p_seqS, p_setS, p_liftQ, p_apA]
      simp [-p_ifS, e1, e2, e3, -p_orB]
      rw [p_ifS]
      simp [ne, q0, q2, atI_lst, eq_oD, p_putW _ _ _ _ _ _ hx]
      simp [rD]
    · refine ⟨(i ++ [(b0, t0, p0)]) ++ [(t0, later w s l t0, onC w s t0)], ?_, Inv.new I k1 k2 k3⟩
      unfold lp1_stretches
      rw [p_seqS, p_setS, p_liftQ, p_apA]
      simp [-p_ifS, e1, e2, e3, -p_orB]
      rw [p_ifS]
      simp [ne, q0, q2, atI_lst, eq_oD, hp, nl2]
      simp [rD]
theorem stretches_ev {w : Int} {s : Sc} (h : s.Ok w) (f l : Int) (hl : l - f ≤ 1000) : ∃ rs : List Row, m_stretches [.int w, s.d, .int f, .int l] = some (.lst (rs.map rD)) ∧ ex rs = ticks w s f (l - f).toNat ∧ rs.length ≤ 1000 ∧ ∀ r ∈ rs, r.1 < r.2.1 := by
  obtain ⟨⟨rs, t⟩, ρ', e1, ⟨I, a, b, rfl⟩, e2⟩ := whS_run (f := tB (op2 ltD (getV 5) (getV 3))) (b := lp1_stretches) (fun (rt : List Row × Int) ρ => Inv w s f l rt.1 rt.2 ∧ ∃ a b : Option D, ρ = [some (.int w), some s.d, some (.int f), some (.int l), some (.lst (rt.1.map rD)), some (.int rt.2), a, b]) (fun rt => (l - rt.2).toNat) (fun rt ρ hI => by
    obtain ⟨rs, t⟩ := rt
    obtain ⟨I, a, b, rfl⟩ := hI
    by_cases ht : t < l
    · obtain ⟨rs', e, I'⟩ := lp_ev h ht hl I a b
      refine .inr ⟨by simp [ht], (rs', later w s l t), _, e, ⟨I', _, _, rfl⟩, ?_⟩
      have := (later_ok h ht).1
      show (l - later w s l t).toNat < (l - t).toNat
      omega
    · exact .inl (by simp [ht])) ([], f) [some (.int w), some s.d, some (.int f), some (.int l), some (.lst []), some (.int f), none, none] ⟨⟨Int.le_refl _, by omega, by simp [ex, ticks], by simp, by intro r hr; simp at hr, .inl rfl⟩, none, none, rfl⟩
  have hx : ¬ t < l := by simpa using e2
  have ia := I.a
  have ib := I.b
  have ie := I.e
  have iN := I.n
  simp only at ia ib ie iN
  refine ⟨rs, run_rt (ρ := [some (.int w), some s.d, some (.int f), some (.int l), some (.lst (rs.map rD)), some (.int t), a, b]) ?_, ?_, by omega, I.p⟩
  · simp only [List.map_nil] at e1
    rw [b_stretches, p_seqS, p_setS, p_liftQ]
    simp [e1]
  · rw [ie]
    congr 1
    omega
end K51

namespace K51
open PySem PySem.Spec PyProof.Rows L2 Vm
abbrev CS := List (Str × Int) × Int
def lk (l : List (Str × Int)) (x : Str) : Option Int := (l.find? fun q => decide (q.1 = x)).map (·.2)
def puts (l : List (Str × Int)) (x : Str) (v : Int) : List (Str × Int) := if (l.any fun q => decide (q.1 = x)) = true then l.map (fun q => if q.1 = x then (q.1, v) else q) else l ++ [(x, v)]
def bump (c : CS) (p : Option Str) (n : Int) : CS := match p with
  | none => (c.1, c.2 + n)
  | some x => (puts c.1 x ((lk c.1 x).getD 0 + n), c.2)
def kvD (l : List (Str × Int)) : List (D × D) := l.map fun q => (.str q.1, .int q.2)
theorem dfind_kv (x : Str) : ∀ l : List (Str × Int), dfind (kvD l) (.str x) = (lk l x).map .int
  | [] => rfl
  | q :: l => by
    have ih := dfind_kv x l
    unfold dfind lk kvD at ih ⊢
    rw [List.map_cons, List.find?_cons, List.find?_cons]
    have e := eqP_S q.1 x
    by_cases h : q.1 = x
    · subst h
      have e : eqP (.str q.1) (.str q.1) = true := by rw [eqP_S]; simp
      simp [e]
    · simp only [h, decide_false] at e ⊢
      rw [e]
      exact ih
theorem dput_kv (x : Str) (v : Int) (l : List (Str × Int)) : dput (kvD l) (.str x) (.int v) = kvD (puts l x v) := by
  unfold dput puts kvD
  rw [List.any_map]
  have e : ((fun p : D × D => eqP p.1 (.str x)) ∘ fun q : Str × Int => (D.str q.1, D.int q.2)) = fun q : Str × Int => decide (q.1 = x) := by
    funext q
    exact eqP_S q.1 x
  rw [e]
  by_cases h : (l.any fun q => decide (q.1 = x)) = true
  · rw [if_pos h, if_pos h, List.map_map, List.map_map]
    apply List.map_congr_left
    intro q _
    show (if eqP (.str q.1) (.str x) = true then _ else _) = _
    rw [eqP_S]
    by_cases hq : q.1 = x <;> simp [hq]
  · rw [if_neg h, if_neg h, List.map_append]
    rfl
theorem lk_puts (x : Str) (v : Int) (l : List (Str × Int)) : lk (puts l x v) x = some v := by
  unfold lk puts
  by_cases h : (l.any fun q => decide (q.1 = x)) = true
  · rw [if_pos h]
    induction l with
    | nil => simp at h
    | cons q l ih =>
      rw [List.map_cons, List.find?_cons]
      by_cases hq : q.1 = x
      · simp [hq]
      · have h' : (l.any fun q => decide (q.1 = x)) = true := by simpa [hq] using h
        simp only [hq, if_false, decide_false]
        exact ih h'
  · rw [if_neg h, List.find?_append]
    have : l.find? (fun q => decide (q.1 = x)) = none := by
      rw [List.find?_eq_none]
      intro q hq hx
      exact h (List.any_eq_true.mpr ⟨q, hq, hx⟩)
    simp [this]
theorem puts_any (x : Str) (v : Int) (l : List (Str × Int)) : ((puts l x v).any fun q => decide (q.1 = x)) = true := by
  unfold puts
  by_cases h : (l.any fun q => decide (q.1 = x)) = true
  · rw [if_pos h, List.any_map, List.any_eq_true]
    obtain ⟨q, hq, hx⟩ := List.any_eq_true.mp h
    refine ⟨q, hq, ?_⟩
    have hx : q.1 = x := by simpa using hx
    simp [hx]
  · rw [if_neg h]
    simp
theorem puts_puts (x : Str) (v u : Int) (l : List (Str × Int)) : puts (puts l x v) x u = puts l x u := by
  rw [show puts (puts l x v) x u = (puts l x v).map (fun q => if q.1 = x then (q.1, u) else q) from if_pos (puts_any x v l)]
  unfold puts
  by_cases h : (l.any fun q => decide (q.1 = x)) = true
  · rw [if_pos h, if_pos h, List.map_map]
    apply List.map_congr_left
    intro q _
    by_cases hq : q.1 = x <;> simp [hq]
  · rw [if_neg h, if_neg h, List.map_append]
    have : l.map (fun q => if q.1 = x then (q.1, u) else q) = l := by
      conv => rhs; rw [← List.map_id l]
      apply List.map_congr_left
      intro q hq
      have : ¬ q.1 = x := fun e => h (List.any_eq_true.mpr ⟨q, hq, by simpa using e⟩)
      simp [this]
    rw [this]
    simp
theorem bump_add (c : CS) (p : Option Str) (a b : Int) : bump (bump c p a) p b = bump c p (a + b) := by
  cases p with
  | none => simp [bump, Int.add_assoc]
  | some x =>
    show (puts (puts c.1 x ((lk c.1 x).getD 0 + a)) x ((lk (puts c.1 x ((lk c.1 x).getD 0 + a)) x).getD 0 + b), c.2) = (puts c.1 x ((lk c.1 x).getD 0 + (a + b)), c.2)
    rw [puts_puts, lk_puts, Option.getD_some, Int.add_assoc]
def tick (c : CS) (p : Option Str) : CS := bump c p 1
theorem fold_rep (p : Option Str) : ∀ (n : Nat) (c : CS), (List.replicate (n + 1) p).foldl tick c = bump c p ((n + 1 : Nat) : Int)
  | 0, c => rfl
  | n + 1, c => by
    rw [List.replicate_succ, List.foldl_cons, fold_rep p n]
    show bump (bump c p 1) p _ = _
    rw [bump_add]
    congr 1
    omega
theorem fold_rows : ∀ (rs : List Row) (c : CS), (∀ r ∈ rs, r.1 < r.2.1) → rs.foldl (fun c r => bump c r.2.2 (r.2.1 - r.1)) c = (ex rs).foldl tick c
  | [], c, _ => rfl
  | r :: rs, c, h => by
    have h1 := h r List.mem_cons_self
    rw [List.foldl_cons, fold_rows rs _ fun q hq => h q (List.mem_cons_of_mem _ hq)]
    show _ = ((List.replicate (r.2.1 - r.1).toNat r.2.2) ++ ex rs).foldl tick c
    rw [List.foldl_append]
    have e : (r.2.1 - r.1).toNat = ((r.2.1 - r.1).toNat - 1) + 1 := by omega
    rw [e, fold_rep]
    congr 2
    omega
theorem puts_len (x : Str) (v : Int) (l : List (Str × Int)) : (puts l x v).length ≤ l.length + 1 := by
  unfold puts
  split <;> simp
theorem bump_len (c : CS) (p : Option Str) (n : Int) : (bump c p n).1.length ≤ c.1.length + 1 := by
  cases p with
  | none => exact Nat.le_succ _
  | some x => exact puts_len x _ _
/-- the answer's list -/
def resD (c : CS) : D := .tup [.lst (c.1.map fun q => .tup [.str q.1, .int ((lk c.1 q.1).getD 0)]), .int c.2]
theorem lk_some {l : List (Str × Int)} {q : Str × Int} (h : q ∈ l) : ∃ v, lk l q.1 = some v := by
  unfold lk
  cases e : l.find? (fun r => decide (r.1 = q.1)) with
  | none =>
    rw [List.find?_eq_none] at e
    exact absurd (decide_eq_true rfl) (e q h)
  | some r => exact ⟨_, rfl⟩
theorem duties_ev {w : Int} {s : Sc} (h : s.Ok w) (f l : Int) (hl : l - f ≤ 1000) : m_duties [.int w, s.d, .int f, .int l] = some (resD ((ticks w s f (l - f).toNat).foldl tick ([], 0))) := by
  obtain ⟨rs, e1, e2, e3, e4⟩ := stretches_ev h f l hl
  rw [← e2, ← fold_rows rs _ e4]
  obtain ⟨ρ', f1, hn, a, b, d, rfl⟩ := forM_foldN (g := gUnp 3 (gsCons (gSet 6) (gsCons (gSet 7) (gsCons (gSet 8) gsNil)))) (b := lp1_duties) rD (fun (c : CS) r => bump c r.2.2 (r.2.1 - r.1)) rs
    (fun k c ρ => c.1.length ≤ k ∧ ∃ a b d : Option D, ρ = [some (.int w), some s.d, some (.int f), some (.int l), some (.dct (kvD c.1)), some (.int c.2), a, b, d]) (fun k r c ρ hr hk hI => by
    obtain ⟨hn, a, b, d, rfl⟩ := hI
    refine ⟨[some (.int w), some s.d, some (.int f), some (.int l), some (.dct (kvD c.1)), some (.int c.2), some (.int r.1), some (.int r.2.1), some (oD r.2.2)], [some (.int w), some s.d, some (.int f), some (.int l), some (.dct (kvD (bump c r.2.2 (r.2.1 - r.1)).1)), some (.int (bump c r.2.2 (r.2.1 - r.1)).2), some (.int r.1), some (.int r.2.1), some (oD r.2.2)], by simp [rD], ?_, Nat.le_trans (bump_len ..) (by omega), _, _, _, rfl⟩
    have l1 : (kvD c.1).length < 16777216 := by rw [kvD, List.length_map]; omega
    cases hp : r.2.2 with
    | none => simp [lp1_duties, oD, bump, Int.add_sub_assoc]
    | some x =>
      have g1 : gOrD (.dct (kvD c.1)) (.str x) (.int 0) = some (.int ((lk c.1 x).getD 0)) := by
        show some ((dfind (kvD c.1) (.str x)).getD (.int 0)) = _
        rw [dfind_kv]
        cases lk c.1 x <;> rfl
      simp [lp1_duties, oD, g1, l1, dput_kv, bump, Int.add_sub_assoc]) ([], 0) [some (.int w), some s.d, some (.int f), some (.int l), some (.dct []), some (.int 0), none, none, none] ⟨Nat.le_refl _, _, _, _, rfl⟩
  generalize rs.foldl (fun (c : CS) r => bump c r.2.2 (r.2.1 - r.1)) ([], 0) = c at *
  refine run_rt (ρ := [some (.int w), some s.d, some (.int f), some (.int l), some (.dct (kvD c.1)), some (.int c.2), a, b, d]) ?_
  have k1 : keysD (.dct (kvD c.1)) = some (c.1.map fun q => .str q.1) := by
    show some ((kvD c.1).map (·.1)) = _
    rw [kvD, List.map_map]
    rfl
  have k2 : fmM (turn1 (gSet 8) trueT (tupD (consA (getV 8) (consA (op2 dgetD (getV 4) (getV 8)) nilA))) [some (.int w), some s.d, some (.int f), some (.int l), some (.dct (kvD c.1)), some (.int c.2), a, b, d]) (c.1.map fun q => .str q.1) = some (c.1.map fun q => .tup [.str q.1, .int ((lk c.1 q.1).getD 0)]) := by
    refine fmM_map fun q hq => ?_
    obtain ⟨v, hv⟩ := lk_some hq
    have g1 : dgetD (.dct (kvD c.1)) (.str q.1) = some (.int v) := by
      show (dfind (kvD c.1) (.str q.1)) = _
      rw [dfind_kv, hv]
      rfl
    simp [g1, hv]
  have k3 := p_lcV (hl := by simp; omega) (hf := k2)
  rw [b_duties, p_seqS, p_setS, p_liftQ]
  simp [e1, f1, k1, k3, resD]
end K51

namespace K51
open PySem PySem.Spec PyProof.Rows L2 Vm
/-! ### the law's count -/
theorem p_rng2' {f l : Int} (h1 : b62 f = true) (h2 : b62 l = true) : rng2 [.int f, .int l] = some ((List.range (l - f).toNat).map fun (i : Nat) => D.int (f + (i : Int))) := p_rng2 f l h1 h2
theorem counts_ev {w : Int} {s : Sc} (h : s.Ok w) (f l : Int) (hl : l - f ≤ 1000) (h1 : b62 f = true) (h2 : b62 l = true) : m__law_counts [.int w, s.d, .int f, .int l] = some (resD ((ticks w s f (l - f).toNat).foldl tick ([], 0))) := by
  obtain ⟨ρ', f1, hn, a, b, rfl⟩ := forM_foldN (g := gSet 7) (b := lp1__law_counts) (fun (i : Nat) => D.int (f + (i : Int))) (fun (c : CS) i => tick c (onC w s (f + (i : Int)))) (List.range (l - f).toNat)
    (fun k c ρ => c.1.length ≤ k ∧ ∃ a b : Option D, ρ = [some (.int w), some s.d, some (.int f), some (.int l), some (.lst (c.1.map fun q => .str q.1)), some (.dct (kvD c.1)), some (.int c.2), a, b]) (fun k i c ρ hr hk hI => by
    obtain ⟨hn, a, b, rfl⟩ := hI
    rw [List.length_range] at hk
    refine ⟨[some (.int w), some s.d, some (.int f), some (.int l), some (.lst (c.1.map fun q => .str q.1)), some (.dct (kvD c.1)), some (.int c.2), some (.int (f + i)), b], [some (.int w), some s.d, some (.int f), some (.int l), some (.lst ((tick c (onC w s (f + (i : Int)))).1.map fun q => .str q.1)), some (.dct (kvD (tick c (onC w s (f + (i : Int)))).1)), some (.int (tick c (onC w s (f + (i : Int)))).2), some (.int (f + i)), some (oD (onC w s (f + i)))], rfl, ?_, Nat.le_trans (bump_len ..) (by omega), _, _, rfl⟩
    have l1 : (kvD c.1).length < 16777216 := by rw [kvD, List.length_map]; omega
    have l2 : c.1.length < 16777216 := by omega
    have e1 := on_ev h (f + i)
    have ek : (c.1.map fun q => D.str q.1) = (c.1.map (·.1)).map .str := by rw [List.map_map]; rfl
    cases hp : onC w s (f + i) with
    | none => simp [lp1__law_counts, e1, hp, oD, tick, bump]
    | some x =>
      have ei := p_inS x (c.1.map (·.1))
      rw [← ek] at ei
      by_cases hx : x ∈ c.1.map (·.1)
      · obtain ⟨q, hq, rfl⟩ := List.mem_map.mp hx
        obtain ⟨v, hv⟩ := lk_some hq
        have g1 : dgetD (.dct (kvD c.1)) (.str q.1) = some (.int v) := by
          show (dfind (kvD c.1) (.str q.1)) = _
          rw [dfind_kv, hv]
          rfl
        have ha : (c.1.any fun r => decide (r.1 = q.1)) = true := List.any_eq_true.mpr ⟨q, hq, by simp⟩
        have hm : (puts c.1 q.1 (v + 1)).map (fun r => D.str r.1) = c.1.map fun r => D.str r.1 := by
          unfold puts
          rw [if_pos ha, List.map_map]
          apply List.map_congr_left
          intro r _
          by_cases hr : r.1 = q.1 <;> simp [hr]
        rw [decide_eq_true hx] at ei
        simp [lp1__law_counts, e1, hp, oD, ei, g1, l1, dput_kv, tick, bump, hv, hm]
      · have hn0 : lk c.1 x = none := by
          unfold lk
          rw [Option.map_eq_none_iff, List.find?_eq_none]
          intro q hq hx'
          exact hx (List.mem_map.mpr ⟨q, hq, by simpa using hx'⟩)
        have ha : ¬ (c.1.any fun r => decide (r.1 = x)) = true := fun z => by
          obtain ⟨q, hq, hx'⟩ := List.any_eq_true.mp z
          exact hx (List.mem_map.mpr ⟨q, hq, by simpa using hx'⟩)
        have hm : (puts c.1 x 1).map (fun r => D.str r.1) = (c.1.map fun r => D.str r.1) ++ [.str x] := by
          unfold puts
          rw [if_neg ha, List.map_append]
          rfl
        rw [decide_eq_false hx] at ei
        simp [lp1__law_counts, e1, hp, oD, ei, l1, l2, dput_kv, tick, bump, hn0, hm]) ([], 0) [some (.int w), some s.d, some (.int f), some (.int l), some (.lst []), some (.dct []), some (.int 0), none, none] ⟨Nat.le_refl _, _, _, rfl⟩
  have et : (List.range (l - f).toNat).foldl (fun (c : CS) (i : Nat) => tick c (onC w s (f + (i : Int)))) ([], 0) = (ticks w s f (l - f).toNat).foldl tick ([], 0) := by
    unfold ticks
    rw [List.foldl_map]
  rw [et] at f1 hn
  rw [List.length_range] at hn
  generalize (ticks w s f (l - f).toNat).foldl tick ([], 0) = c at *
  refine run_rt (ρ := [some (.int w), some s.d, some (.int f), some (.int l), some (.lst (c.1.map fun q => .str q.1)), some (.dct (kvD c.1)), some (.int c.2), a, b]) ?_
  have k2 : fmM (turn1 (gSet 8) trueT (tupD (consA (getV 8) (consA (op2 dgetD (getV 5) (getV 8)) nilA))) [some (.int w), some s.d, some (.int f), some (.int l), some (.lst (c.1.map fun q => .str q.1)), some (.dct (kvD c.1)), some (.int c.2), a, b]) (c.1.map fun q => .str q.1) = some (c.1.map fun q => .tup [.str q.1, .int ((lk c.1 q.1).getD 0)]) := by
    refine fmM_map fun q hq => ?_
    obtain ⟨v, hv⟩ := lk_some hq
    have g1 : dgetD (.dct (kvD c.1)) (.str q.1) = some (.int v) := by
      show (dfind (kvD c.1) (.str q.1)) = _
      rw [dfind_kv, hv]
      rfl
    simp [g1, hv]
  have k3 := p_lcV (hl := by simp; omega) (hf := k2)
  have k1 := p_rng2' h1 h2
  rw [b__law_counts, p_seqS, p_setS, p_liftQ]
  simp [k1, f1, k3, resD]
/-! ### same -/
def Flat1 : D → Prop
  | .int _ => True
  | .str _ => True
  | _ => False
end K51

namespace K51
open PySem PySem.Spec PyProof.Rows L2 Vm
/-! ### same -/
def Sm : Nat → D → Prop
  | _, .int _ => True
  | _, .str _ => True
  | _, .non => True
  | n + 1, .tup ds => ds.length < 1048576 ∧ ∀ d ∈ ds, Sm n d
  | n + 1, .lst ds => ds.length < 1048576 ∧ ∀ d ∈ ds, Sm n d
  | _, _ => False
theorem same_lp {rec : List D → Option D} {ds : List D} {d : D} (hd : d = .lst ds ∨ d = .tup ds) (hr : ∀ e ∈ ds, rec [e, e] = some (.bl true)) (a : Option D) : ∃ a', forM (gSet 2) (lp1__law_same rec) (ups 0 ds.length) [some d, some d, a] = some (.nx, [some d, some d, a']) := by
  obtain ⟨ρ', e1, a', rfl⟩ := forM_inv (g := gSet 2) (b := lp1__law_same rec) (ds := ups 0 ds.length) (fun i ρ => ∃ a : Option D, ρ = [some d, some d, a]) (fun i x ρ hx hI => by
    obtain ⟨a, rfl⟩ := hI
    obtain ⟨hi, rfl⟩ := ups_get hx
    have e0 : ixD d (.int (i : Int)) = some ds[i] := by
      rcases hd with rfl | rfl
      · exact atI_nn (by simp [hi])
      · exact atI_nn (by simp [hi])
    refine ⟨[some d, some d, some (.int (0 + (i : Int)))], .nx, [some d, some d, some (.int (0 + (i : Int)))], rfl, ?_, .inl rfl, _, rfl⟩
    simp [lp1__law_same, e0, hr ds[i] (List.getElem_mem hi)]) ⟨a, rfl⟩
  exact ⟨a', e1⟩
theorem same_refl : ∀ (n : Nat) (d : D), Sm n d → m__law_same (n + 1) [d, d] = some (.bl true) := by
  intro n
  induction n with
  | zero =>
    intro d h
    unfold m__law_same
    cases d with
    | int i => exact run_rt (ρ := [some (.int i), some (.int i), none]) (by simp [b__law_same])
    | str i => exact run_rt (ρ := [some (.str i), some (.str i), none]) (by simp [b__law_same])
    | non => exact run_rt (ρ := [some .non, some .non, none]) (by simp [b__law_same])
    | tup ds => exact h.elim
    | lst ds => exact h.elim
    | bl _ => exact h.elim
    | dct _ => exact h.elim
    | obj _ _ => exact h.elim
  | succ n ih =>
    intro d h
    unfold m__law_same
    cases d with
    | int i => exact run_rt (ρ := [some (.int i), some (.int i), none]) (by simp [b__law_same])
    | str i => exact run_rt (ρ := [some (.str i), some (.str i), none]) (by simp [b__law_same])
    | non => exact run_rt (ρ := [some .non, some .non, none]) (by simp [b__law_same])
    | tup ds =>
      obtain ⟨h1, h2⟩ := (show ds.length < 1048576 ∧ ∀ d ∈ ds, Sm n d from h)
      obtain ⟨a', e⟩ := same_lp (rec := m__law_same (n + 1)) (.inr rfl) (fun e he => ih e (h2 e he)) none
      have hb : rng1 [.int (ds.length : Int)] = some (ups 0 ds.length) := p_rng1 _ (b62_of _ (by omega) (by omega))
      exact run_rt (ρ := [some (.tup ds), some (.tup ds), a']) (by simp [b__law_same, hb, e])
    | lst ds =>
      obtain ⟨h1, h2⟩ := (show ds.length < 1048576 ∧ ∀ d ∈ ds, Sm n d from h)
      obtain ⟨a', e⟩ := same_lp (rec := m__law_same (n + 1)) (.inl rfl) (fun e he => ih e (h2 e he)) none
      have hb : rng1 [.int (ds.length : Int)] = some (ups 0 ds.length) := p_rng1 _ (b62_of _ (by omega) (by omega))
      exact run_rt (ρ := [some (.lst ds), some (.lst ds), a']) (by simp [b__law_same, hb, e])
    | bl _ => exact h.elim
    | dct _ => exact h.elim
    | obj _ _ => exact h.elim
end K51

namespace K51
open PySem PySem.Spec PyProof.Rows L2 Vm
theorem draws_at (cell : Int) (m : Nat) (hm : m < 1000) : ∃ (L : List D) (g : Int → Int), m__law_draws [.int cell, .int m] = some (.lst L) ∧ (∀ z : Int, 0 ≤ z → z < m → atI L z = some (.int (g z))) ∧ ∀ z : Int, 0 ≤ g z ∧ g z < 1000 := by
  obtain ⟨xs, e, hl, hd⟩ := draws_spec cell m hm
  refine ⟨xs.map .int, fun z : Int => xs.getD z.toNat 0, e, fun z h0 h1 => ?_, fun z => ?_⟩
  · have hz : z.toNat < xs.length := by omega
    refine atI_int h0 ?_
    rw [List.getElem?_map, List.getElem?_eq_getElem hz]
    show some (D.int xs[z.toNat]) = some (D.int (xs.getD z.toNat 0))
    rw [List.getD_eq_getElem?_getD, List.getElem?_eq_getElem hz]
    rfl
  · by_cases hz : z.toNat < xs.length
    · have e : xs.getD z.toNat 0 = xs[z.toNat] := by rw [List.getD_eq_getElem?_getD, List.getElem?_eq_getElem hz]; rfl
      show 0 ≤ xs.getD z.toNat 0 ∧ xs.getD z.toNat 0 < 1000
      rw [e]
      exact hd _ (List.getElem_mem hz)
    · have e : xs.getD z.toNat 0 = 0 := by rw [List.getD_eq_getElem?_getD, List.getElem?_eq_none (by omega)]; rfl
      show 0 ≤ xs.getD z.toNat 0 ∧ xs.getD z.toNat 0 < 1000
      rw [e]
      omega
theorem p_addS {x y : Str} (h : x.length + y.length ≤ 16777216) : addD (.str x) (.str y) = some (.str (x ++ y)) := if_pos h
theorem len_app (x y : Str) : (x ++ y).length = x.length + y.length := Array.size_append
theorem crew_at {crew : List Str} (h : 0 < crew.length) (z : Int) : ∃ x, atI (crew.map D.str) (z % (crew.length : Int)) = some (.str x) := by
  have hl : (0 : Int) < (crew.length : Int) := by omega
  have a := Int.emod_nonneg z (show (crew.length : Int) ≠ 0 by omega)
  have b := Int.emod_lt_of_pos z hl
  have c : (z % (crew.length : Int)).toNat < crew.length := by omega
  exact ⟨_, atI_int a (by simp [c]; rfl)⟩
theorem letter_at (z : Int) : ∃ q : Nat, ixD (.str "abcdefghijklmnopqrstuvwxyz") (.int (z % 26)) = some (.str ⟨#[q]⟩) := by
  have a := Int.emod_nonneg z (show (26 : Int) ≠ 0 by decide)
  have b := Int.emod_lt_of_pos z (show (0 : Int) < 26 by decide)
  have hl : ("abcdefghijklmnopqrstuvwxyz" : Str).cps.toList.length = 26 := by decide +kernel
  have c : (z % 26).toNat < ("abcdefghijklmnopqrstuvwxyz" : Str).cps.toList.length := by omega
  refine ⟨("abcdefghijklmnopqrstuvwxyz" : Str).cps.toList[(z % 26).toNat], ?_⟩
  have e := atI_int (xs := ("abcdefghijklmnopqrstuvwxyz" : Str).cps.toList) a (List.getElem?_eq_getElem c)
  have hs : ("abcdefghijklmnopqrstuvwxyz" : Str).length ≤ sL := by decide +kernel
  show (if ("abcdefghijklmnopqrstuvwxyz" : Str).length ≤ sL then _ else none) = _
  rw [if_pos hs, e]
  rfl
theorem cut_xyz (z : Int) : ∃ u v : Str, slcF (.str "xyz") none (some (z % 4)) = some (.str u) ∧ u.length ≤ 10 ∧ slcF (.str "xyzw") (some (z % 4)) none = some (.str v) ∧ v.length ≤ 10 := by
  have a := Int.emod_nonneg z (show (4 : Int) ≠ 0 by decide)
  have b := Int.emod_lt_of_pos z (show (0 : Int) < 4 by decide)
  have h : z % 4 = 0 ∨ z % 4 = 1 ∨ z % 4 = 2 ∨ z % 4 = 3 := by omega
  have hs : ("xyz" : Str).length ≤ sL := by decide +kernel
  have hs2 : ("xyzw" : Str).length ≤ sL := by decide +kernel
  rcases h with h | h | h | h <;> rw [h] <;> exact ⟨_, _, (if_pos hs : (if ("xyz" : Str).length ≤ sL then _ else none) = _), by decide +kernel, (if_pos hs2 : (if ("xyzw" : Str).length ≤ sL then _ else none) = _), by decide +kernel⟩
theorem words_ev (cell : Int) (n : Nat) (hn : n ≤ 1000) : ∃ ws : List Str, m__law_words [.int cell, .int n] = some (.lst (ws.map .str)) ∧ ws.length = n ∧ ∀ x ∈ ws, x.length ≤ 100 := by
  obtain ⟨u, v, c1, c2, c3, c4⟩ := cut_xyz (cell / 26)
  have hb : rng1 [.int (n : Int)] = some (ups 0 n) := p_rng1 _ (b62_of _ (by omega) (by omega))
  have hf : ∃ q : Nat → Nat, ∀ k : Nat, ixD (.str "abcdefghijklmnopqrstuvwxyz") (.int ((cell + 3 * (k : Int)) % 26)) = some (.str ⟨#[q k]⟩) := ⟨fun k => (letter_at _).choose, fun k => (letter_at _).choose_spec⟩
  obtain ⟨q, hq⟩ := hf
  have e1 := p_fdiv cell 26 (by decide) (by decide)
  have e2 := p_mod (cell / 26) 4 (by decide)
  have k2 : fmM (turn1 (gSet 4) trueT (op2 addD (op2 addD (sl3 slcF (kD' (.str "xyz")) noI (soI (getV 3))) (op2 ixD (getV 2) (op2 modD (apA (consA (op2 addD (apA (consA (getV 0) nilA) intD) (op2 mulD (kD' (.int 3)) (getV 4))) nilA) intD) (kD' (.int 26))))) (sl3 slcF (kD' (.str "xyzw")) (soI (getV 3)) noI))
     [some (.int cell), some (.int n), some (.str "abcdefghijklmnopqrstuvwxyz"), some (.int (cell / 26 % 4)), none]) (ups 0 n) = some ((List.range n).map fun (k : Nat) => .str (u ++ ⟨#[q k]⟩ ++ v)) := by
    refine fmM_map fun k hk => ?_
    have hk : k < n := List.mem_range.mp hk
    have e3 := p_mulL 3 (0 + (k : Int)) (by decide) (by decide)
    have e4 := p_mod (cell + 3 * (0 + (k : Int))) 26 (by decide)
    have e5 := hq k
    rw [show (k : Int) = 0 + (k : Int) by omega] at e5
    have l1 : (⟨#[q k]⟩ : Str).length = 1 := rfl
    have e6 : addD (.str u) (.str ⟨#[q k]⟩) = some (.str (u ++ ⟨#[q k]⟩)) := p_addS (by omega)
    have e7 : addD (.str (u ++ ⟨#[q k]⟩)) (.str v) = some (.str (u ++ ⟨#[q k]⟩ ++ v)) := p_addS (by rw [len_app]; omega)
    simp only [p_turn1, p_gSet, p_t1V, p_trueT, p_t1WT, p_setVs, p_setV0, p_op2, p_sl3, p_kD, p_noI, p_soI, p_getV0, p_getVs, p_apA, p_consA, p_nilA, p_consV, p_apV, p_int1, p_soV, p_slV, c1, c3, e3, e4, p_op2V, p_addI, e5, e6, e7, p_smV]
  have k3 := p_lcV (hl := by simp; omega) (hf := k2)
  refine ⟨(List.range n).map fun (k : Nat) => u ++ ⟨#[q k]⟩ ++ v, run_rt (ρ := [some (.int cell), some (.int n), some (.str "abcdefghijklmnopqrstuvwxyz"), some (.int (cell / 26 % 4)), none]) ?_, by simp, fun x hx => ?_⟩
  · simp [b__law_words, e1, e2, hb, k3]
  · obtain ⟨k, _, rfl⟩ := List.mem_map.mp hx
    have l1 : (⟨#[q k]⟩ : Str).length = 1 := rfl
    rw [len_app, len_app]
    omega
end K51

namespace K51
open PySem PySem.Spec PyProof.Rows L2 Vm
theorem md (z : Int) {m : Int} (h : 0 < m) : 0 ≤ z % m ∧ z % m < m := ⟨Int.emod_nonneg _ (by omega), Int.emod_lt_of_pos _ h⟩
theorem world_ev (ns : List Int) : ∃ (days : Int) (crew : List Str) (size : Int), m__law_world [.lst (ns.map .int)] = some (.lst [.int days, .lst (crew.map .str), .int size]) ∧ 1 ≤ days ∧ days ≤ 2000 ∧ 0 < crew.length ∧ crew.length ≤ 5 ∧ (size = 1 ∨ size = 2) ∧ ∀ x ∈ crew, x.length ≤ 100 := by
  obtain ⟨c0, e0⟩ := cell_spec ns 0 (by omega)
  obtain ⟨c1, e1⟩ := cell_spec ns 1 (by omega)
  obtain ⟨L, g, e2, e3, e4⟩ := draws_at c0 8 (by omega)
  obtain ⟨ws, e5, e6, e7⟩ := words_ev c1 (1 + g 3 % 5).toNat (by have := md (g 3) (m := 5) (by decide); omega)
  have m3 := md (g 3) (m := 5) (by decide)
  have m1 := md (g 1) (m := 24) (by decide)
  have mb := md (g 1 * 1000 + g 2) (m := 2000) (by decide)
  rw [show (((1 + g 3 % 5).toNat : Nat) : Int) = 1 + g 3 % 5 by omega] at e5
  have a0 := e3 0 (by decide) (by decide)
  have a1 := e3 1 (by decide) (by decide)
  have a2 := e3 2 (by decide) (by decide)
  have a3 := e3 3 (by decide) (by decide)
  have p1 := p_mod (g 1) 24 (by decide)
  have p2 := p_mod (g 0) 8 (by decide)
  have p3 := p_mod (g 1 * 1000 + g 2) 2000 (by decide)
  have p4 := p_mod (g 3) 5 (by decide)
  have p5 := p_mulR (g 1) 1000 (by decide) (by decide)
  have e0' : m__law_cell [.lst (ns.map .int), .int 0] = some (.int c0) := e0
  have e1' : m__law_cell [.lst (ns.map .int), .int 1] = some (.int c1) := e1
  have e2' : m__law_draws [.int c0, .int 8] = some (.lst L) := e2
  by_cases h : g 0 % 8 = 0
  · refine ⟨1 + (g 1 * 1000 + g 2) % 2000, ws, 2, run_rt (ρ := [some (.lst (ns.map .int)), some (.lst L), some (.int 2), some (.int (1 + (g 1 * 1000 + g 2) % 2000)), some (.lst (ws.map .str))]) ?_, by omega, by omega, by omega, by omega, .inr rfl, e7⟩
    simp [b__law_world, e0', e1', e2', a0, a1, a2, a3, p1, p2, p3, p4, p5, h, e5]
  · refine ⟨1 + g 1 % 24, ws, 1, run_rt (ρ := [some (.lst (ns.map .int)), some (.lst L), some (.int 1), some (.int (1 + g 1 % 24)), some (.lst (ws.map .str))]) ?_, by omega, by omega, by omega, by omega, .inl rfl, e7⟩
    simp [b__law_world, e0', e1', e2', a0, a1, a2, a3, p1, p2, p3, p4, p5, h, e5]
theorem range_ev (cell size : Int) : ∃ f l : Int, m__law_range [.int cell, .int size] = some (.lst [.int f, .int l]) ∧ l - f ≤ 1000 ∧ b62 f = true ∧ b62 l = true := by
  obtain ⟨L, g, e2, e3, e4⟩ := draws_at cell 5 (by omega)
  have e2' : m__law_draws [.int cell, .int 5] = some (.lst L) := e2
  have a0 := e3 0 (by decide) (by decide)
  have a1 := e3 1 (by decide) (by decide)
  have a2 := e3 2 (by decide) (by decide)
  have a3 := e3 3 (by decide) (by decide)
  have a4 := e3 4 (by decide) (by decide)
  have g0 := e4 0
  have g1 := e4 1
  have g2 := e4 2
  have m1 := md (g 0) (m := 51) (by decide)
  have m2 := md (g 4) (m := 64) (by decide)
  have m3 := md (g 0 * 1000 + g 1) (m := 4001) (by decide)
  have m4 := md (g 4) (m := 301) (by decide)
  have p1 := p_mod (g 0) 51 (by decide)
  have p2 := p_mod (g 4) 64 (by decide)
  have p3 := p_mod (g 0 * 1000 + g 1) 4001 (by decide)
  have p4 := p_mod (g 4) 301 (by decide)
  have p5 := p_mod (g 3) 5 (by decide)
  have p6 := p_mulR (g 0) 1000 (by decide) (by decide)
  have p7 := p_mulR (g 1) 1000 (by decide) (by decide)
  have p8 := p_mulR (g 0) 1000000 (by decide) (by decide)
  have p9 : powD (.int 10) (.int 6) = some (.int 1000000) := rfl
  have fin : ∀ f m : Int, 0 ≤ f → f < 2 ^ 60 → 0 ≤ m → m ≤ 300 → max 0 (f + m - 3) - f ≤ 1000 ∧ b62 f = true ∧ b62 (max 0 (f + m - 3)) = true := fun f m h1 h2 h3 h4 => ⟨by omega, b62_of _ (by omega) (by omega), b62_of _ (by omega) (by omega)⟩
  by_cases h : size = 2
  · refine ⟨(g 0 * 1000 + g 1) % 4001, max 0 ((g 0 * 1000 + g 1) % 4001 + g 4 % 301 - 3), run_rt (ρ := [some (.int cell), some (.int size), some (.lst L), some (.int ((g 0 * 1000 + g 1) % 4001)), some (.int (g 4 % 301))]) ?_, fin _ _ (by omega) (by omega) (by omega) (by omega)⟩
    simp [b__law_range, e2', a0, a1, a2, a3, a4, p1, p2, p3, p4, p5, p6, p7, p8, p9, h]
  · by_cases h5 : g 3 % 5 = 0
    · refine ⟨g 0 * 1000000 + g 1 * 1000 + g 2, max 0 (g 0 * 1000000 + g 1 * 1000 + g 2 + g 4 % 64 - 3), run_rt (ρ := [some (.int cell), some (.int size), some (.lst L), some (.int (g 0 * 1000000 + g 1 * 1000 + g 2)), some (.int (g 4 % 64))]) ?_, fin _ _ (by omega) (by omega) (by omega) (by omega)⟩
      simp [b__law_range, e2', a0, a1, a2, a3, a4, p1, p2, p3, p4, p5, p6, p7, p8, p9, h, h5]
    · refine ⟨g 0 % 51, max 0 (g 0 % 51 + g 4 % 64 - 3), run_rt (ρ := [some (.int cell), some (.int size), some (.lst L), some (.int (g 0 % 51)), some (.int (g 4 % 64))]) ?_, fin _ _ (by omega) (by omega) (by omega) (by omega)⟩
      simp [b__law_range, e2', a0, a1, a2, a3, a4, p1, p2, p3, p4, p5, p6, p7, p8, p9, h, h5]
end K51

namespace K51
open PySem PySem.Spec PyProof.Rows L2 Vm
/-- the spans of a layer -/
theorem layer_lp {x0 x1 x3 x5 x6 x7 x8 x11 : Option D} {days : Int} (hd : 1 ≤ days) {L : List D} {g : Int → Int} (e3 : ∀ z : Int, 0 ≤ z → z < 40 → atI L z = some (.int (g z))) (n : Nat) (hn : n ≤ 6) :
    ∃ (sp : List (Int × Int)) (a b : Option D), sp.length = n ∧ (∀ s ∈ sp, 0 ≤ s.1 ∧ s.1 < s.2 ∧ s.2 ≤ days) ∧
      forM (gSet 10) lp1__law_layer (ups 0 n) [x0, x1, some (.int days), x3, some (.lst L), x5, x6, x7, x8, some (.lst []), none, x11, none] = some (.nx, [x0, x1, some (.int days), x3, some (.lst L), x5, x6, x7, x8, some (.lst (sp.map spD)), a, x11, b]) := by
  obtain ⟨ρ', e1, sp, h1, h2, a, b, rfl⟩ := forM_inv (g := gSet 10) (b := lp1__law_layer) (ds := ups 0 n) (fun i ρ => ∃ sp : List (Int × Int), sp.length = i ∧ (∀ s ∈ sp, 0 ≤ s.1 ∧ s.1 < s.2 ∧ s.2 ≤ days) ∧ ∃ a b : Option D, ρ = [x0, x1, some (.int days), x3, some (.lst L), x5, x6, x7, x8, some (.lst (sp.map spD)), a, x11, b]) (fun i x ρ hx hI => by
    obtain ⟨sp, h1, h2, a, b, rfl⟩ := hI
    obtain ⟨hi, rfl⟩ := ups_get hx
    have i0 : (0 : Int) ≤ (i : Int) := by omega
    have i1 : (i : Int) < 6 := by omega
    have q1 := p_mulL 4 (i : Int) (by omega) (by omega)
    have a1 := e3 (16 + 4 * i) (by omega) (by omega)
    have a2 := e3 (17 + 4 * i) (by omega) (by omega)
    have a3 := e3 (18 + 4 * i) (by omega) (by omega)
    have a4 := e3 (19 + 4 * i) (by omega) (by omega)
    have q2 := p_mulR (g (16 + 4 * i)) 1000 (by decide) (by decide)
    have q3 := p_mulR (g (18 + 4 * i)) 1000 (by decide) (by decide)
    have hdp : 0 < days := by omega
    have m1 := md (g (16 + 4 * i) * 1000 + g (17 + 4 * i)) hdp
    have q4 := p_mod (g (16 + 4 * i) * 1000 + g (17 + 4 * i)) days hdp
    generalize hF : (g (16 + 4 * i) * 1000 + g (17 + 4 * i)) % days = F at *
    have hd2 : 0 < days - F := by omega
    have m2 := md (g (18 + 4 * i) * 1000 + g (19 + 4 * i)) hd2
    have q5 := p_mod (g (18 + 4 * i) * 1000 + g (19 + 4 * i)) (days - F) hd2
    generalize hG : (g (18 + 4 * i) * 1000 + g (19 + 4 * i)) % (days - F) = E at *
    have l1 : sp.length < 16777216 := by omega
    refine ⟨[x0, x1, some (.int days), x3, some (.lst L), x5, x6, x7, x8, some (.lst (sp.map spD)), some (.int (0 + (i : Int))), x11, b], .nx, [x0, x1, some (.int days), x3, some (.lst L), x5, x6, x7, x8, some (.lst ((sp ++ [(F, F + 1 + E)]).map spD)), some (.int (0 + (i : Int))), x11, some (.int F)], rfl, ?_, .inl rfl, sp ++ [(F, F + 1 + E)], by simp; omega, fun s hs => ?_, _, _, rfl⟩
    · simp [lp1__law_layer, q1, a1, a2, a3, a4, q2, q3, q4, q5, l1, spD]
    · rcases List.mem_append.mp hs with hs | hs
      · exact h2 s hs
      · rw [List.mem_singleton] at hs
        subst hs
        show 0 ≤ F ∧ F < F + 1 + E ∧ F + 1 + E ≤ days
        omega) (ρ := [x0, x1, some (.int days), x3, some (.lst L), x5, x6, x7, x8, some (.lst []), none, x11, none]) ⟨[], rfl, by intro s hs; simp at hs, none, none, rfl⟩
  rw [ups_len] at h1
  exact ⟨sp, a, b, h1, h2, e1⟩
theorem layer_ev (cell : Int) {crew : List Str} (hc : 0 < crew.length) {days : Int} (hd : 1 ≤ days) {size : Int} (hs : size = 1 ∨ size = 2) :
    ∃ l : Ly, l.Ok days ∧ m__law_layer [.int cell, .lst (crew.map .str), .int days, .int size] = some l.d := by
  obtain ⟨L, g, e2, e3, e4⟩ := draws_at cell 40 (by omega)
  have e2' : m__law_draws [.int cell, .int 40] = some (.lst L) := e2
  have a0 := e3 0 (by decide) (by decide)
  have a1 := e3 1 (by decide) (by decide)
  have a2 := e3 2 (by decide) (by decide)
  have a3 := e3 3 (by decide) (by decide)
  have a5 := e3 5 (by decide) (by decide)
  have m1 := md (g 0) (m := 3) (by decide)
  have m2 := md (g 2) (m := 9) (by decide)
  have m3 := md (g 2) (m := 1000) (by decide)
  have m4 := md (g 5) (m := 3) (by decide)
  have m5 := md (g 5) (m := 7) (by decide)
  have m6 := md (g 0) (m := 10) (by decide)
  have p1 := p_mod (g 0) 3 (by decide)
  have p2 := p_mod (g 2) 9 (by decide)
  have p3 := p_mod (g 2) 1000 (by decide)
  have p4 := p_mod (g 5) 3 (by decide)
  have p5 := p_mod (g 5) 7 (by decide)
  have p6 := p_mod (g 0) 10 (by decide)
  have p7 := p_mod (g 1) 13 (by decide)
  have p8 := p_mod (g 1 * 1000 + g 3) 2001 (by decide)
  have p9 := p_mulR (g 1) 1000 (by decide) (by decide)
  have hl : (0 : Int) < (crew.length : Int) := by omega
  -- the members
  have hm : ∃ q : Int → Str, ∀ z : Int, atI (crew.map D.str) (z % (crew.length : Int)) = some (.str (q z)) := ⟨fun z => (crew_at hc z).choose, fun z => (crew_at hc z).choose_spec⟩
  obtain ⟨q, hq⟩ := hm
  have mem : ∀ (n : Nat) (x0 x5 x6 x7 x8 x9 x10 x11 x12 : Option D), n ≤ 10 → lcV (some (ups 0 n)) (gSet 10) trueT (op2 ixD (getV 1) (op2 modD (apA (consA (op2 ixD (getV 4) (op2 addD (kD' (.int 6)) (getV 10))) nilA) intD) (apA (consA (getV 1) nilA) lenD)))
      [x0, some (.lst (crew.map .str)), some (.int days), some (.int size), some (.lst L), x5, x6, x7, x8, x9, x10, x11, x12] = some (.lst (((List.range n).map fun (k : Nat) => q (g (6 + (k : Int)))).map .str)) := by
    intro n x0 x5 x6 x7 x8 x9 x10 x11 x12 hn
    refine p_lcV (hl := by simp; omega) (hf := ?_)
    rw [List.map_map]
    refine fmM_map fun k hk => ?_
    have hk : k < n := List.mem_range.mp hk
    have i0 : (0 : Int) ≤ (k : Int) := by omega
    have b1 := e3 (6 + k) (by omega) (by omega)
    have b2 := p_mod (g (6 + k)) (crew.length : Int) hl
    simp [b1, b2, hq]
  have key : ∀ (many : Nat) (start shift : Int) (some_ : Nat), 1 ≤ many → many ≤ 10 → 1 ≤ shift → shift ≤ 1000 → some_ ≤ 6 →
      ∃ (l : Ly) (a9 : D) (a10 a12 : Option D), l.Ok days ∧ ((seqS (forS (rnF (consA (getV 8) nilA) rng1) (gSet 10)
  lp1__law_layer)
  (seqS (setS 11 (liftQ (lcD (rnF (consA (getV 5) nilA) rng1) (gSet 10) trueT (op2 ixD (getV 1) (op2 modD (apA (consA (op2 ixD (getV 4) (op2 addD (kD' (.int 6)) (getV 10))) nilA) intD) (apA (consA (getV 1) nilA) lenD))))))
  (retS (liftQ (tupD (consA (apA (consA (getV 11) nilA) tupleD) (consA (getV 6) (consA (getV 7) (consA (apA (consA (getV 9) nilA) tupleD) nilA))))))))) [some (.int cell), some (.lst (crew.map .str)), some (.int days), some (.int size), some (.lst L), some (.int many), some (.int start), some (.int shift), some (.int some_), some (.lst []), none, none, none]
        = some (.rt l.d, [some (.int cell), some (.lst (crew.map .str)), some (.int days), some (.int size), some (.lst L), some (.int many), some (.int start), some (.int shift), some (.int some_), some a9, a10, some (.lst (((List.range many).map fun (k : Nat) => q (g (6 + (k : Int)))).map .str)), a12])) := by
    intro many start shift some_ h1 h2 h3 h4 h5
    obtain ⟨sp, a, b, s1, s2, s3⟩ := layer_lp (x0 := some (.int cell)) (x1 := some (.lst (crew.map .str))) (x3 := some (.int size)) (x5 := some (.int many)) (x6 := some (.int start)) (x7 := some (.int shift)) (x8 := some (.int some_)) (x11 := none) hd e3 some_ h5
    have hb : rng1 [.int (many : Int)] = some (ups 0 many) := p_rng1 _ (b62_of _ (by omega) (by omega))
    have hb2 : rng1 [.int (some_ : Int)] = some (ups 0 some_) := p_rng1 _ (b62_of _ (by omega) (by omega))
    refine ⟨⟨(List.range many).map fun (k : Nat) => q (g (6 + (k : Int))), start, shift, sp⟩, .lst (sp.map spD), a, b, ⟨by simp; omega, by simp; omega, by show 0 < shift; omega, h4, by show sp.length ≤ 100; omega, s2⟩, ?_⟩
    have k3 := mem many (some (.int cell)) (some (.int many)) (some (.int start)) (some (.int shift)) (some (.int some_)) (some (.lst (sp.map spD))) a none b h2
    simp only [p_seqS, p_forS, p_rnF, p_consA, p_nilA, p_getVs, p_getV0, p_consV, p_apV, hb, hb2, p_forSV, s3, p_bindS1, p_setS, p_liftQ, p_lcD, k3, p_liftV, p_setSV, p_setVs, p_setV0, p_retS, p_tupD, p_apA, p_tuple1]
    simp [Ly.d]
  rcases hs with rfl | rfl
  · obtain ⟨l, a9, a10, a12, hok, hk⟩ := key (1 + g 0 % 3).toNat (g 1 % 13) (1 + g 2 % 9) (g 5 % 3).toNat (by omega) (by omega) (by omega) (by omega) (by omega)
    rw [show (((1 + g 0 % 3).toNat : Nat) : Int) = 1 + g 0 % 3 by omega, show (((g 5 % 3).toNat : Nat) : Int) = g 5 % 3 by omega] at hk
    refine ⟨l, hok, run_rt (Eq.trans ?_ hk)⟩
    unfold b__law_layer
    generalize hR : (seqS (forS (rnF (consA (getV 8) nilA) rng1) (gSet 10) lp1__law_layer) _) = R at *
    simp [e2', a0, a1, a2, a3, a5, p1, p2, p3, p4, p5, p6, p7, p8, p9]
  · obtain ⟨l, a9, a10, a12, hok, hk⟩ := key (1 + g 0 % 10).toNat ((g 1 * 1000 + g 3) % 2001) (1 + g 2 % 1000) (g 5 % 7).toNat (by omega) (by omega) (by omega) (by omega) (by omega)
    rw [show (((1 + g 0 % 10).toNat : Nat) : Int) = 1 + g 0 % 10 by omega, show (((g 5 % 7).toNat : Nat) : Int) = g 5 % 7 by omega] at hk
    refine ⟨l, hok, run_rt (Eq.trans ?_ hk)⟩
    unfold b__law_layer
    generalize hR : (seqS (forS (rnF (consA (getV 8) nilA) rng1) (gSet 10) lp1__law_layer) _) = R at *
    simp [e2', a0, a1, a2, a3, a5, p1, p2, p3, p4, p5, p6, p7, p8, p9]
end K51

namespace K51
open PySem PySem.Spec PyProof.Rows L2 Vm
theorem rota_lp {x0 x1 x2 x4 x7 x8 x9 : Option D} {crew : List Str} (hc : 0 < crew.length) {size : Int} (hs : size = 1 ∨ size = 2) {L : List D} {g : Int → Int} (e3 : ∀ z : Int, 0 ≤ z → z < 62 → atI L z = some (.int (g z))) (n : Nat) (hn : n ≤ 20) :
    ∃ (si : List Si) (a b : Option D), si.length = n ∧
      forM (gSet 11) lp1__law_rota (ups 0 n) [x0, x1, x2, some (.lst (crew.map .str)), x4, some (.int size), some (.lst L), x7, x8, x9, some (.lst []), none, none] = some (.nx, [x0, x1, x2, some (.lst (crew.map .str)), x4, some (.int size), some (.lst L), x7, x8, x9, some (.lst (si.map Si.d)), a, b]) := by
  have hl : (0 : Int) < (crew.length : Int) := by omega
  obtain ⟨ρ', e1, si, h1, a, b, rfl⟩ := forM_inv (g := gSet 11) (b := lp1__law_rota) (ds := ups 0 n) (fun i ρ => ∃ si : List Si, si.length = i ∧ ∃ a b : Option D, ρ = [x0, x1, x2, some (.lst (crew.map .str)), x4, some (.int size), some (.lst L), x7, x8, x9, some (.lst (si.map Si.d)), a, b]) (fun i x ρ hx hI => by
    obtain ⟨si, h1, a, b, rfl⟩ := hI
    obtain ⟨hi, rfl⟩ := ups_get hx
    have i0 : (0 : Int) ≤ (i : Int) := by omega
    have i1 : (i : Int) < 20 := by omega
    have q1 := p_mulL 3 (i : Int) (by omega) (by omega)
    have a1 := e3 (2 + 3 * i) (by omega) (by omega)
    have a2 := e3 (3 + 3 * i) (by omega) (by omega)
    have a3 := e3 (4 + 3 * i) (by omega) (by omega)
    have q2 := p_mod (g (2 + 3 * i)) 30 (by decide)
    have q3 := p_mod (g (3 + 3 * i)) 12 (by decide)
    have q4 := p_mulL 3 (g (2 + 3 * i)) (by decide) (by decide)
    have q5 := p_mod (g (4 + 3 * i)) (crew.length : Int) hl
    obtain ⟨p, hp⟩ := crew_at hc (g (4 + 3 * i))
    have l1 : si.length < 16777216 := by omega
    rcases hs with rfl | rfl
    · refine ⟨[x0, x1, x2, some (.lst (crew.map .str)), x4, some (.int 1), some (.lst L), x7, x8, x9, some (.lst (si.map Si.d)), some (.int (0 + (i : Int))), b], .nx, [x0, x1, x2, some (.lst (crew.map .str)), x4, some (.int 1), some (.lst L), x7, x8, x9, some (.lst ((si ++ [Si.mk (g (2 + 3 * i) % 30) (g (2 + 3 * i) % 30 + 1 + g (3 + 3 * i) % 12) p]).map Si.d)), some (.int (0 + (i : Int))), some (.int (g (2 + 3 * i) % 30))], rfl, ?_, .inl rfl, _, by simp; omega, _, _, rfl⟩
      simp [lp1__law_rota, q1, a1, a2, a3, q2, q3, q4, q5, hp, l1, Si.d]
    · refine ⟨[x0, x1, x2, some (.lst (crew.map .str)), x4, some (.int 2), some (.lst L), x7, x8, x9, some (.lst (si.map Si.d)), some (.int (0 + (i : Int))), b], .nx, [x0, x1, x2, some (.lst (crew.map .str)), x4, some (.int 2), some (.lst L), x7, x8, x9, some (.lst ((si ++ [Si.mk (3 * g (2 + 3 * i)) (3 * g (2 + 3 * i) + 1 + g (3 + 3 * i) % 12) p]).map Si.d)), some (.int (0 + (i : Int))), some (.int (3 * g (2 + 3 * i)))], rfl, ?_, .inl rfl, _, by simp; omega, _, _, rfl⟩
      simp [lp1__law_rota, q1, a1, a2, a3, q2, q3, q4, q5, hp, l1, Si.d]) (ρ := [x0, x1, x2, some (.lst (crew.map .str)), x4, some (.int size), some (.lst L), x7, x8, x9, some (.lst []), none, none]) ⟨[], rfl, none, none, rfl⟩
  rw [ups_len] at h1
  exact ⟨si, a, b, h1, e1⟩
theorem rota_ev (ns : List Int) (nm : Str) {crew : List Str} (hc : 0 < crew.length) {days : Int} (hd : 1 ≤ days) {size : Int} (hs : size = 1 ∨ size = 2) :
    ∃ s : Sc, s.Ok days ∧ m__law_rota [.lst (ns.map .int), .int 2, .str nm, .lst (crew.map .str), .int days, .int size] = some s.d := by
  obtain ⟨c2, e0⟩ := cell_spec ns 2 (by omega)
  have e0' : m__law_cell [.lst (ns.map .int), .int 2] = some (.int c2) := e0
  obtain ⟨L, g, e2, e3, e4⟩ := draws_at c2 62 (by omega)
  have e2' : m__law_draws [.int c2, .int 62] = some (.lst L) := e2
  have a0 := e3 0 (by decide) (by decide)
  have a1 := e3 1 (by decide) (by decide)
  have m0 := md (g 0) (m := 8) (by decide)
  have m1 := md (g 1) (m := 4) (by decide)
  have m2 := md (g 0) (m := 7) (by decide)
  have m3 := md (g 1) (m := 21) (by decide)
  have p1 := p_mod (g 0) 8 (by decide)
  have p2 := p_mod (g 1) 4 (by decide)
  have p3 := p_mod (g 0) 7 (by decide)
  have p4 := p_mod (g 1) 21 (by decide)
  have hpick : ∃ n : Nat, n ≤ 3 ∧ atI [D.int 0, D.int 1, D.int 1, D.int 1, D.int 2, D.int 2, D.int 2, D.int 3] (g 0 % 8) = some (.int (n : Int)) := by
    have h : g 0 % 8 = 0 ∨ g 0 % 8 = 1 ∨ g 0 % 8 = 2 ∨ g 0 % 8 = 3 ∨ g 0 % 8 = 4 ∨ g 0 % 8 = 5 ∨ g 0 % 8 = 6 ∨ g 0 % 8 = 7 := by omega
    rcases h with h | h | h | h | h | h | h | h <;> rw [h]
    · exact ⟨0, by omega, rfl⟩
    · exact ⟨1, by omega, rfl⟩
    · exact ⟨1, by omega, rfl⟩
    · exact ⟨1, by omega, rfl⟩
    · exact ⟨2, by omega, rfl⟩
    · exact ⟨2, by omega, rfl⟩
    · exact ⟨2, by omega, rfl⟩
    · exact ⟨3, by omega, rfl⟩
  obtain ⟨pk, hpk, hpe⟩ := hpick
  -- the layers
  have hlay : ∃ q : Nat → Ly, ∀ k : Nat, k < 10 → (q k).Ok days ∧ ∃ c, m__law_cell [.lst (ns.map .int), .int (2 + 1 + (k : Int))] = some (.int c) ∧ m__law_layer [.int c, .lst (crew.map .str), .int days, .int size] = some (q k).d := by
    have h : ∀ k : Nat, ∃ l : Ly, k < 10 → l.Ok days ∧ ∃ c, m__law_cell [.lst (ns.map .int), .int (2 + 1 + (k : Int))] = some (.int c) ∧ m__law_layer [.int c, .lst (crew.map .str), .int days, .int size] = some l.d := by
      intro k
      by_cases hk : k < 10
      · obtain ⟨c, e⟩ := cell_spec ns (3 + k) (by omega)
        obtain ⟨l, h1, h2⟩ := layer_ev c hc hd hs
        refine ⟨l, fun _ => ⟨h1, c, ?_, h2⟩⟩
        rw [show (2 + 1 + (k : Int)) = ((3 + k : Nat) : Int) by omega]
        exact e
      · exact ⟨⟨[], 0, 0, []⟩, fun z => absurd z hk⟩
    exact ⟨fun k => (h k).choose, fun k hk => (h k).choose_spec hk⟩
  obtain ⟨q, hq⟩ := hlay
  have key : ∀ many some_ : Nat, many ≤ 6 → some_ ≤ 20 → ∃ (s : Sc) (ρ : Env'), s.Ok days ∧ ((seqS (setS 9 (liftQ (lcD (rnF (consA (getV 7) nilA) rng1) (gSet 11) trueT (apA (consA (apA (consA (getV 0) (consA (op2 addD (op2 addD (getV 1) (kD' (.int 1))) (getV 11)) nilA)) m__law_cell) (consA (getV 3) (consA (getV 4) (consA (getV 5) nilA)))) m__law_layer))))
  (seqS (setS 10 (liftQ (lstD nilA)))
  (seqS (forS (rnF (consA (getV 8) nilA) rng1) (gSet 11)
  lp1__law_rota)
  (retS (liftQ (tupD (consA (getV 2) (consA (apA (consA (getV 9) nilA) tupleD) (consA (apA (consA (getV 10) nilA) tupleD) nilA))))))))) [some (.lst (ns.map .int)), some (.int 2), some (.str nm), some (.lst (crew.map .str)), some (.int days), some (.int size), some (.lst L), some (.int many), some (.int some_), none, none, none, none] = some (.rt s.d, ρ)) := by
    intro many some_ h1 h2
    have hb : rng1 [.int (many : Int)] = some (ups 0 many) := p_rng1 _ (b62_of _ (by omega) (by omega))
    have hb2 : rng1 [.int (some_ : Int)] = some (ups 0 some_) := p_rng1 _ (b62_of _ (by omega) (by omega))
    obtain ⟨si, a, b, s1, s2⟩ := rota_lp (x0 := some (.lst (ns.map .int))) (x1 := some (.int 2)) (x2 := some (.str nm)) (x4 := some (.int days)) (x7 := some (.int many)) (x8 := some (.int some_)) (x9 := some (.lst (((List.range many).map q).map Ly.d))) hc hs e3 some_ h2
    have k2 : fmM (turn1 (gSet 11) trueT (apA (consA (apA (consA (getV 0) (consA (op2 addD (op2 addD (getV 1) (kD' (.int 1))) (getV 11)) nilA)) m__law_cell) (consA (getV 3) (consA (getV 4) (consA (getV 5) nilA)))) m__law_layer)
        [some (.lst (ns.map .int)), some (.int 2), some (.str nm), some (.lst (crew.map .str)), some (.int days), some (.int size), some (.lst L), some (.int many), some (.int some_), none, none, none, none]) (ups 0 many) = some (((List.range many).map q).map Ly.d) := by
      rw [List.map_map]
      refine fmM_map fun k hk => ?_
      have hk : k < many := List.mem_range.mp hk
      obtain ⟨_, c, c1, c2⟩ := hq k (by omega)
      rw [show (k : Int) = 0 + (k : Int) by omega] at c1
      simp only [p_turn1, p_gSet, p_t1V, p_trueT, p_t1WT, p_setVs, p_setV0, p_op2, p_kD, p_getV0, p_getVs, p_apA, p_consA, p_nilA, p_consV, p_apV, p_op2V, p_addI, c1, c2, p_smV]
      rfl
    have k3 := p_lcV (hl := by simp; omega) (hf := k2)
    refine ⟨⟨nm, (List.range many).map q, si⟩, [some (.lst (ns.map .int)), some (.int 2), some (.str nm), some (.lst (crew.map .str)), some (.int days), some (.int size), some (.lst L), some (.int many), some (.int some_), some (.lst (((List.range many).map q).map Ly.d)), some (.lst (si.map Si.d)), a, b], ⟨by omega, by simp; omega, by show si.length ≤ 100; omega, fun l hl => ?_⟩, ?_⟩
    · obtain ⟨k, hk, rfl⟩ := List.mem_map.mp hl
      exact (hq k (by have := List.mem_range.mp hk; omega)).1
    · simp only [p_seqS, p_forS, p_rnF, p_consA, p_nilA, p_getVs, p_getV0, p_consV, p_apV, hb, hb2, p_forSV, p_bindS1, p_setS, p_liftQ, p_lcD, k3, p_liftV, p_setSV, p_setVs, p_setV0]
      rw [p_lstD, p_nilA, p_lstVV [] (Nat.zero_le _)]
      simp only [p_liftV, p_setSV, p_setVs, p_setV0, p_bindS1, p_seqS, p_forS, p_rnF, p_consA, p_nilA, p_getVs, p_getV0, p_consV, p_apV, hb2, p_forSV, s2, p_retS, p_liftQ, p_tupD, p_apA, p_tuple1]
      simp [Sc.d]
  rcases hs with rfl | rfl
  · obtain ⟨s, ρ, hok, hk⟩ := key pk (g 1 % 4).toNat (by omega) (by omega)
    rw [show (((g 1 % 4).toNat : Nat) : Int) = g 1 % 4 by omega] at hk
    refine ⟨s, hok, run_rt (Eq.trans ?_ hk)⟩
    unfold b__law_rota
    generalize hR : (seqS (setS 9 _) _) = R at *
    simp [e0', e2', a0, a1, p1, p2, p3, p4, hpe]
  · obtain ⟨s, ρ, hok, hk⟩ := key (g 0 % 7).toNat (g 1 % 21).toNat (by omega) (by omega)
    rw [show (((g 0 % 7).toNat : Nat) : Int) = g 0 % 7 by omega, show (((g 1 % 21).toNat : Nat) : Int) = g 1 % 21 by omega] at hk
    refine ⟨s, hok, run_rt (Eq.trans ?_ hk)⟩
    unfold b__law_rota
    generalize hR : (seqS (setS 9 _) _) = R at *
    simp [e0', e2', a0, a1, p1, p2, p3, p4, hpe]
end K51

namespace K51
open PySem PySem.Spec PyProof.Rows L2 Vm
theorem res_sm (c : CS) (h : c.1.length < 1048576) : Sm 19 (resD c) := by
  refine ⟨(by decide : 2 < 1048576), fun d hd => ?_⟩
  rcases List.mem_cons.mp hd with rfl | hd
  · refine ⟨by rw [List.length_map]; exact h, fun e he => ?_⟩
    obtain ⟨q, _, rfl⟩ := List.mem_map.mp he
    refine ⟨(by decide : 2 < 1048576), fun x hx => ?_⟩
    rcases List.mem_cons.mp hx with rfl | hx
    · exact True.intro
    · rw [List.mem_singleton] at hx
      subst hx
      exact True.intro
  · rw [List.mem_singleton] at hd
    subst hd
    exact True.intro
theorem fold_len : ∀ (ts : List (Option Str)) (c : CS), (ts.foldl tick c).1.length ≤ c.1.length + ts.length
  | [], c => Nat.le_refl _
  | t :: ts, c => by
    have a := fold_len ts (tick c t)
    have b := bump_len c t 1
    rw [List.foldl_cons, List.length_cons]
    have : (tick c t).1.length ≤ c.1.length + 1 := b
    omega
theorem law_lp {ns : List Int} {days size : Int} {crew : List Str} {s : Sc} (hs : s.Ok days) (hc : 0 < crew.length) (ρ : Env')
    (hρ : ∃ a b d e f g : Option D, ρ = [some (.lst (ns.map .int)), some s.d, a, some (.int days), some (.lst (crew.map .str)), some (.int size), b, d, e, f, g]) (i : Nat) (hi : i < 3) :
    ∃ ρ2, lp1_law (setV 2 (.int (0 + (i : Int))) ρ) = some (.nx, ρ2) ∧ ∃ a b d e f g : Option D, ρ2 = [some (.lst (ns.map .int)), some s.d, a, some (.int days), some (.lst (crew.map .str)), some (.int size), b, d, e, f, g] := by
  obtain ⟨a, b, d, e, f, g, rfl⟩ := hρ
  obtain ⟨c, e1⟩ := cell_spec ns (9 + i) (by omega)
  obtain ⟨lo, hi', e2, h1, h2, h3⟩ := range_ev c size
  have e3 := counts_ev hs lo hi' h1 h2 h3
  have e4 := duties_ev hs lo hi' h1
  have hl : ((ticks days s lo (hi' - lo).toNat).foldl tick ([], 0)).1.length < 1048576 := by
    have a := fold_len (ticks days s lo (hi' - lo).toNat) ([], 0)
    have b : (ticks days s lo (hi' - lo).toNat).length = (hi' - lo).toNat := by unfold ticks; simp
    rw [b] at a
    have : (([] : List (Str × Int)), (0 : Int)).1.length = 0 := rfl
    omega
  have e5 := same_refl 19 _ (res_sm _ hl)
  generalize hR : (ticks days s lo (hi' - lo).toNat).foldl tick ([], 0) = C at *
  have e6 : atI (crew.map D.str) 0 = some (.str crew[0]) := atI_nn (n := 0) (by simp [hc])
  rw [show (((9 + i : Nat)) : Int) = 9 + (0 + (i : Int)) by omega] at e1
  have l1 : C.1.length < 16777216 := by omega
  refine ⟨[some (.lst (ns.map .int)), some s.d, some (.int (0 + (i : Int))), some (.int days), some (.lst (crew.map .str)), some (.int size), some (resD C), some (resD C), some (.lst ((C.1.map fun q => .tup [.str q.1, .int ((lk C.1 q.1).getD 0)]) ++ [.tup [.str crew[0], .int 1]])), some (.int lo), some (.int hi')], ?_, _, _, _, _, _, _, rfl⟩
  have e1' : m__law_cell [.lst (ns.map .int), .int (9 + (i : Int))] = some (.int c) := by rw [show (9 : Int) + (i : Int) = 9 + (0 + (i : Int)) by omega]; exact e1
  have e7 : mvTV (some (resD C)) 0 = fun ρ => some (.lst (C.1.map fun q => .tup [.str q.1, .int ((lk C.1 q.1).getD 0)]), ρ) := rfl
  simp [lp1_law, e1', e2, e3, e4, e5, e6, e7, l1]
theorem law_ev (ns : List Int) (hn : ns.length ≤ 63) : m_law [.lst (ns.map .int)] = some (.bl true) := by
  obtain ⟨days, crew, size, e1, h1, h2, h3, h4, h5, h6⟩ := world_ev ns
  have e6 : atI (crew.map D.str) 0 = some (.str crew[0]) := atI_nn (n := 0) (by simp [h3])
  have e8 : ∃ x, addD (.str "r") (.str crew[0]) = some (.str x) := by
    have a := h6 crew[0] (List.getElem_mem h3)
    have b : ("r" : Str).length = 1 := by decide +kernel
    exact ⟨_, p_addS (by omega)⟩
  obtain ⟨x, e8⟩ := e8
  obtain ⟨s, hs, e2⟩ := rota_ev ns x h3 h1 h5
  obtain ⟨ρ', e3, a, b, d, e, f, g, rfl⟩ := forM_inv (g := gSet 2) (b := lp1_law) (ds := ups 0 3) (fun i ρ => ∃ a b d e f g : Option D, ρ = [some (.lst (ns.map .int)), some s.d, a, some (.int days), some (.lst (crew.map .str)), some (.int size), b, d, e, f, g]) (fun i x ρ hx hI => by
    obtain ⟨hi, rfl⟩ := ups_get hx
    obtain ⟨ρ2, f1, f2⟩ := law_lp (ns := ns) (size := size) hs h3 ρ hI i hi
    exact ⟨_, .nx, ρ2, rfl, f1, .inl rfl, f2⟩) (ρ := [some (.lst (ns.map .int)), some s.d, none, some (.int days), some (.lst (crew.map .str)), some (.int size), none, none, none, none, none]) ⟨none, none, none, none, none, none, rfl⟩
  have hb : rng1 [.int 3] = some (ups 0 3) := rfl
  refine run_rt (ρ := [some (.lst (ns.map .int)), some s.d, a, some (.int days), some (.lst (crew.map .str)), some (.int size), b, d, e, f, g]) ?_
  simp [b_law, e1, e6, e8, e2, hb, e3]
end K51

namespace K51
open PySem PySem.Spec PyProof.Rows L2 Vm
def dd__law_draws : He.DefD := ⟨("_law_draws", none), "_law_draws", "_law_draws", defArgs (top 10), defBody (top 10), defScope (top 10), [], []⟩
def dd__law_words : He.DefD := ⟨("_law_words", none), "_law_words", "_law_words", defArgs (top 12), defBody (top 12), defScope (top 12), [], []⟩
def dd__law_cell : He.DefD := ⟨("_law_cell", none), "_law_cell", "_law_cell", defArgs (top 9), defBody (top 9), defScope (top 9), [], []⟩
def dd__law_world : He.DefD := ⟨("_law_world", none), "_law_world", "_law_world", defArgs (top 19), defBody (top 19), defScope (top 19), [], []⟩
def dd__law_layer : He.DefD := ⟨("_law_layer", none), "_law_layer", "_law_layer", defArgs (top 13), defBody (top 13), defScope (top 13), [], []⟩
def dd__law_rota : He.DefD := ⟨("_law_rota", none), "_law_rota", "_law_rota", defArgs (top 14), defBody (top 14), defScope (top 14), [], []⟩
def dd__law_range : He.DefD := ⟨("_law_range", none), "_law_range", "_law_range", defArgs (top 18), defBody (top 18), defScope (top 18), [], []⟩
def dd__law_inside : He.DefD := ⟨("_law_inside", none), "_law_inside", "_law_inside", defArgs (top 15), defBody (top 15), defScope (top 15), [], []⟩
def dd__law_member : He.DefD := ⟨("_law_member", none), "_law_member", "_law_member", defArgs (top 16), defBody (top 16), defScope (top 16), [], []⟩
def dd__law_on : He.DefD := ⟨("_law_on", none), "_law_on", "_law_on", defArgs (top 17), defBody (top 17), defScope (top 17), [], []⟩
def dd__law_counts : He.DefD := ⟨("_law_counts", none), "_law_counts", "_law_counts", defArgs (top 20), defBody (top 20), defScope (top 20), [], []⟩
def dd_in_spans : He.DefD := ⟨("in_spans", none), "in_spans", "in_spans", defArgs (top 1), defBody (top 1), defScope (top 1), [], []⟩
def dd_on_layer : He.DefD := ⟨("on_layer", none), "on_layer", "on_layer", defArgs (top 2), defBody (top 2), defScope (top 2), [], []⟩
def dd_on_call : He.DefD := ⟨("on_call", none), "on_call", "on_call", defArgs (top 3), defBody (top 3), defScope (top 3), [], []⟩
def dd__layer_breaks : He.DefD := ⟨("_layer_breaks", none), "_layer_breaks", "_layer_breaks", defArgs (top 4), defBody (top 4), defScope (top 4), [], []⟩
def dd_next_break : He.DefD := ⟨("next_break", none), "next_break", "next_break", defArgs (top 5), defBody (top 5), defScope (top 5), [], []⟩
def dd_stretches : He.DefD := ⟨("stretches", none), "stretches", "stretches", defArgs (top 6), defBody (top 6), defScope (top 6), [], []⟩
def dd_duties : He.DefD := ⟨("duties", none), "duties", "duties", defArgs (top 7), defBody (top 7), defScope (top 7), [], []⟩
def dd__law_same : He.DefD := ⟨("_law_same", none), "_law_same", "_law_same", defArgs (top 11), defBody (top 11), defScope (top 11), [], []⟩
def dd_law : He.DefD := ⟨("law", none), "law", "law", defArgs (top 21), defBody (top 21), defScope (top 21), [], []⟩
def fnL : List He.DefD := [dd__law_draws, dd__law_words, dd__law_cell, dd__law_world, dd__law_layer, dd__law_rota, dd__law_range, dd__law_inside, dd__law_member, dd__law_on, dd__law_counts, dd_in_spans, dd_on_layer, dd_on_call, dd__layer_breaks, dd_next_break, dd_stretches, dd_duties, dd__law_same, dd_law]
def faL : List He.Fa := [.glo "_law_draws", .glo "_law_words", .glo "_law_cell", .glo "_law_world", .glo "_law_layer", .glo "_law_rota", .glo "_law_range", .glo "_law_inside", .glo "_law_member", .glo "_law_on", .glo "_law_counts", .glo "in_spans", .glo "on_layer", .glo "on_call", .glo "_layer_breaks", .glo "next_break", .glo "stretches", .glo "duties", .glo "_law_same", .glo "law", .free "any", .free "bool", .free "int", .free "isinstance", .free "len", .free "list", .free "max", .free "min", .free "range", .free "str", .free "tuple"]
abbrev RW0 : PySem.W.OpenRow := PySem.W.OpenLaw.row PySem.Challenge.rw_watchfloor_k51_calendars_duties_count_ti
abbrev hk : PySem.W.Hook := He.hookD 4 faL fnL
def ob (s : PySem.W.SharedT) : He.AlD := He.obsDG 4 faL fnL (HandSHeadRun.getT s)
theorem ob_eq (s : PySem.W.SharedT) : ob s = hk.obs s.abs := He.obsDG_eq (HandSHeadRun.getT_eq s)
def looseL : List PySem.Str := ["in_spans", "on_layer", "on_call", "_layer_breaks", "next_break", "stretches", "duties", "_law_cell", "_law_draws", "_law_same", "_law_words", "_law_layer", "_law_rota", "_law_inside", "_law_member", "_law_on", "_law_range", "_law_world", "_law_counts"]
theorem run (w : World) : HandSHeadRun.RunEq RW0 (PySem.W.view RW0.prog [21]) hk ob 4000 looseL w := by
  intro os
  kernel_rfl
theorem facts_of {K : PySem.W.Frag} {h : Heap} {mg : Str → Option Value} (X : K.In h) (G : h.Ns mainGlobals mg) (c : He.SaysD faL fnL K) : Facts K mg where
  d__law_draws := by
    obtain ⟨fd, F⟩ := c.def_ 0 (d := dd__law_draws) rfl
    exact ⟨_, fd, F, He.glo_ok X G (c.fact 0 (f := .glo "_law_draws") rfl)⟩
  d__law_words := by
    obtain ⟨fd, F⟩ := c.def_ 1 (d := dd__law_words) rfl
    exact ⟨_, fd, F, He.glo_ok X G (c.fact 1 (f := .glo "_law_words") rfl)⟩
  d__law_cell := by
    obtain ⟨fd, F⟩ := c.def_ 2 (d := dd__law_cell) rfl
    exact ⟨_, fd, F, He.glo_ok X G (c.fact 2 (f := .glo "_law_cell") rfl)⟩
  d__law_world := by
    obtain ⟨fd, F⟩ := c.def_ 3 (d := dd__law_world) rfl
    exact ⟨_, fd, F, He.glo_ok X G (c.fact 3 (f := .glo "_law_world") rfl)⟩
  d__law_layer := by
    obtain ⟨fd, F⟩ := c.def_ 4 (d := dd__law_layer) rfl
    exact ⟨_, fd, F, He.glo_ok X G (c.fact 4 (f := .glo "_law_layer") rfl)⟩
  d__law_rota := by
    obtain ⟨fd, F⟩ := c.def_ 5 (d := dd__law_rota) rfl
    exact ⟨_, fd, F, He.glo_ok X G (c.fact 5 (f := .glo "_law_rota") rfl)⟩
  d__law_range := by
    obtain ⟨fd, F⟩ := c.def_ 6 (d := dd__law_range) rfl
    exact ⟨_, fd, F, He.glo_ok X G (c.fact 6 (f := .glo "_law_range") rfl)⟩
  d__law_inside := by
    obtain ⟨fd, F⟩ := c.def_ 7 (d := dd__law_inside) rfl
    exact ⟨_, fd, F, He.glo_ok X G (c.fact 7 (f := .glo "_law_inside") rfl)⟩
  d__law_member := by
    obtain ⟨fd, F⟩ := c.def_ 8 (d := dd__law_member) rfl
    exact ⟨_, fd, F, He.glo_ok X G (c.fact 8 (f := .glo "_law_member") rfl)⟩
  d__law_on := by
    obtain ⟨fd, F⟩ := c.def_ 9 (d := dd__law_on) rfl
    exact ⟨_, fd, F, He.glo_ok X G (c.fact 9 (f := .glo "_law_on") rfl)⟩
  d__law_counts := by
    obtain ⟨fd, F⟩ := c.def_ 10 (d := dd__law_counts) rfl
    exact ⟨_, fd, F, He.glo_ok X G (c.fact 10 (f := .glo "_law_counts") rfl)⟩
  d_in_spans := by
    obtain ⟨fd, F⟩ := c.def_ 11 (d := dd_in_spans) rfl
    exact ⟨_, fd, F, He.glo_ok X G (c.fact 11 (f := .glo "in_spans") rfl)⟩
  d_on_layer := by
    obtain ⟨fd, F⟩ := c.def_ 12 (d := dd_on_layer) rfl
    exact ⟨_, fd, F, He.glo_ok X G (c.fact 12 (f := .glo "on_layer") rfl)⟩
  d_on_call := by
    obtain ⟨fd, F⟩ := c.def_ 13 (d := dd_on_call) rfl
    exact ⟨_, fd, F, He.glo_ok X G (c.fact 13 (f := .glo "on_call") rfl)⟩
  d__layer_breaks := by
    obtain ⟨fd, F⟩ := c.def_ 14 (d := dd__layer_breaks) rfl
    exact ⟨_, fd, F, He.glo_ok X G (c.fact 14 (f := .glo "_layer_breaks") rfl)⟩
  d_next_break := by
    obtain ⟨fd, F⟩ := c.def_ 15 (d := dd_next_break) rfl
    exact ⟨_, fd, F, He.glo_ok X G (c.fact 15 (f := .glo "next_break") rfl)⟩
  d_stretches := by
    obtain ⟨fd, F⟩ := c.def_ 16 (d := dd_stretches) rfl
    exact ⟨_, fd, F, He.glo_ok X G (c.fact 16 (f := .glo "stretches") rfl)⟩
  d_duties := by
    obtain ⟨fd, F⟩ := c.def_ 17 (d := dd_duties) rfl
    exact ⟨_, fd, F, He.glo_ok X G (c.fact 17 (f := .glo "duties") rfl)⟩
  d__law_same := by
    obtain ⟨fd, F⟩ := c.def_ 18 (d := dd__law_same) rfl
    exact ⟨_, fd, F, He.glo_ok X G (c.fact 18 (f := .glo "_law_same") rfl)⟩
  d_law := by
    obtain ⟨fd, F⟩ := c.def_ 19 (d := dd_law) rfl
    exact ⟨_, fd, F, He.glo_ok X G (c.fact 19 (f := .glo "law") rfl)⟩
  b_any := He.free_ok X G (c.fact 20 (f := .free "any") rfl)
  b_bool := He.free_ok X G (c.fact 21 (f := .free "bool") rfl)
  b_int := He.free_ok X G (c.fact 22 (f := .free "int") rfl)
  b_isinstance := He.free_ok X G (c.fact 23 (f := .free "isinstance") rfl)
  b_len := He.free_ok X G (c.fact 24 (f := .free "len") rfl)
  b_list := He.free_ok X G (c.fact 25 (f := .free "list") rfl)
  b_max := He.free_ok X G (c.fact 26 (f := .free "max") rfl)
  b_min := He.free_ok X G (c.fact 27 (f := .free "min") rfl)
  b_range := He.free_ok X G (c.fact 28 (f := .free "range") rfl)
  b_str := He.free_ok X G (c.fact 29 (f := .free "str") rfl)
  b_tuple := He.free_ok X G (c.fact 30 (f := .free "tuple") rfl)
theorem facts {P : Program} {w : World} {K : PySem.W.Frag} {h : Heap} {mg : Str → Option Value} {f : Addr} (X : K.In h) (G : h.Ns mainGlobals mg) (hfa : mg ("law" : Str) = some (.ref f)) (c : He.SaysD faL fnL K) :
    ∃ fd : FuncData, (∀ (s : Shared) (v : Value), BindsTo s fd ⟨[v], []⟩ [("_law_script", v)]) ∧ ∀ base : Heap, FnOk PW w K mg base CX0 22 f fd ["_law_script"] (spF K [.fr] .fr m_law) := by
  obtain ⟨fd, F⟩ := c.def_ 19 (d := dd_law) rfl
  have e := hfa.symm.trans (He.glo_ok X G (c.fact 19 (f := .glo "law") rfl))
  cases e
  have b := FunD.bindsA (ps := ["_law_script"]) F fun _ _ _ _ _ _ us hl => match us, hl with | [_], _ => rfl
  exact ⟨fd, fun s v => b s [v] rfl, fun base => ok_law F (facts_of X G c)⟩
end K51
open PySem PySem.W PySem.Calls PyProof.Rows
theorem K51.holds_of (hlaw : ∀ ns : List Int, ns.length ≤ 63 → K51.m_law [.lst (ns.map .int)] = some (.bl true)) : PySem.Challenge.rw_watchfloor_k51_calendars_duties_count_ti.Holds := by
  w_on; o_law
  refine HandSHeadRun.head_any (r := OpenLaw.row PySem.Challenge.rw_watchfloor_k51_calendars_duties_count_ti) (q := view (OpenLaw.row PySem.Challenge.rw_watchfloor_k51_calendars_duties_count_ti).prog [21]) (H := K51.hk) (ob := K51.ob) (M := 4000) (loose := K51.looseL) (d := HandSHeadRun.topDef (OpenLaw.row PySem.Challenge.rw_watchfloor_k51_calendars_duties_count_ti).prog 21) (kwd := []) K51.ob_eq
    (by kernel_rfl) (fun s => by kernel_rfl) K51.run (by kernel_rfl) (by kernel_rfl) (by kernel_rfl) (by rfl) (by first | assumption | decide +kernel) (by decide +kernel) ⟨rfl, rfl, rfl, rfl, rfl, by decide +kernel⟩ ?hw ?hc
  case hw => w_witness2
  case hc =>
    refine L2.walk_ofE (l := PySem.Challenge.rw_watchfloor_k51_calendars_duties_count_ti) (n := 63) (k := 22) (x := "_law_script") (CX := L2.CX0) rfl (by decide) (by kernel_rfl) ⟨rfl, by decide, by decide⟩ ?F (fun _ _ _ _ z => z)
    intro w mg fa h Y G hmg0
    obtain ⟨K, KX, c⟩ := Y
    have hmg : mg ("law" : PySem.Str) = some (.ref fa) := by
      have e : (HandSHeadRun.topDef (OpenLaw.row PySem.Challenge.rw_watchfloor_k51_calendars_duties_count_ti).prog 21).name = ("law" : PySem.Str) := by kernel_rfl
      rw [← e]
      exact hmg0
    obtain ⟨fd, hb, hF⟩ := K51.facts (P := (PySem.Challenge.rw_watchfloor_k51_calendars_duties_count_ti).prog) (w := w) KX G hmg c
    exact ⟨K, fd, Vm.spF K [.fr] .fr K51.m_law, KX, hb, fun H a ns hl ho hS => Vm.law_sp ho hS (hlaw ns hl), fun base _ _ => hF base⟩

theorem PySem.Challenge.cw_watchfloor_k51_calendars_duties_count_ti_holds : PySem.Challenge.rw_watchfloor_k51_calendars_duties_count_ti.Holds :=
  K51.holds_of K51.law_ev
