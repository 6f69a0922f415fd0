import PyProof.Rows.All
import Wide.All
import OpenK.AllK
import Wide.FinOn
import HandS.ForMost
import HandS.Exc
import HandS.TryOnly
import HandS.ExcOwn
import HandS.Flow
import HandS.IsInst
import HandS.Lambda
import HandS.WordsExc
import HandS.TupAny
import HandS.Wide
import HandS.Deep
import KE.DataCmp
import KE.DataEq
import KE.SortData
import KE.DataMinMax
import KE.DataAny
import HandS.ExcInit
import HandS.ExcIs
import HandS.ExcField
import KE.KExcSuper
import HandS.Zip
import KE.SortLaws
import HandS.TupMul
import HandS.Text
import KE.KExcIs
import PySem.Challenge.RW_waysretraced_k58_whole_errors
set_option Elab.async false
set_option linter.all false
set_option maxRecDepth 100000
set_option maxHeartbeats 2000000
namespace G
open PySem PySem.Spec PyProof.Rows L2

/-! values -/
inductive D where
  | non | bl (b : Bool) | int (i : Int) | str (x : Str)
  | tup (xs : List D) | lst (xs : List D) | dic (ks vs : List D) | set (xs : List D)
  | fn (x : Str) | ty (n : Nat) | scr (xs : List D) | exo (c f : Str) (xs : List D)
  deriving Inhabited
/-- built-in classes by number -/
def tyStr : Nat → String
  | 0 => "int"
  | 1 => "bool"
  | 2 => "str"
  | 3 => "tuple"
  | 4 => "list"
  | 5 => "dict"
  | 6 => "ValueError"
  | _ => "object"
inductive U where
  | d (x : D) | ref (n : Nat)
  deriving Inhabited
inductive Cell where
  | lst (xs : List D) | dic (ks vs : List D) | set (xs : List D) | lsr (ns : List Nat) | dir (ks : List D) (ns : List Nat)
  deriving Inhabited
inductive Val where
  | u (x : U) | box (c : Cell)
  deriving Inhabited
/-- an error: its class, its one field -/
structure Exc where
  cls : Str
  arg : Option (Str × D)
abbrev Store := List Cell
abbrev Sl := List (Option U)
inductive Res (α : Type) where
  | ok (a : α) (st : Store) | exc (x : Exc) (st : Store) | stuck
namespace Res
variable {α β : Type}
@[inline] def bind (r : Res α) (k : α → Store → Res β) : Res β := match r with
  | .ok a st => k a st
  | .exc x st => .exc x st
  | .stuck => .stuck
@[simp] theorem bind_ok (a : α) (st : Store) (k : α → Store → Res β) : (Res.ok a st).bind k = k a st := rfl
@[simp] theorem bind_exc (x : Exc) (st : Store) (k : α → Store → Res β) : (Res.exc x st : Res α).bind k = .exc x st := rfl
@[simp] theorem bind_stuck (k : α → Store → Res β) : (Res.stuck : Res α).bind k = .stuck := rfl
end Res
def lift {α : Type} (o : Option α) (st : Store) : Res α := match o with
  | some a => .ok a st
  | none => .stuck
@[simp] theorem lift_some {α : Type} (a : α) (st : Store) : lift (some a) st = .ok a st := rfl
@[simp] theorem lift_none {α : Type} (st : Store) : lift (none : Option α) st = .stuck := rfl
abbrev FE := Sl → Store → Res Val
abbrev FU := Sl → Store → Res U
abbrev FA := Sl → Store → Res (List U)
abbrev FT := Sl → Store → Res Bool
inductive Fl where
  | nx (σ : Sl) | rt (x : Val) | bk (σ : Sl) | ct (σ : Sl)
abbrev FS := Sl → Store → Res Fl

def Cell.frz : Cell → Option D
  | .lst xs => some (.lst xs)
  | .dic ks vs => some (.dic ks vs)
  | .set xs => some (.set xs)
  | _ => none
def Val.settle : Val → Option U
  | .u x => some x
  | .box c => c.frz.map U.d
/-- what a value reads as -/
def U.frz (st : Store) : U → Option D
  | .d x => some x
  | .ref n => st[n]?.bind Cell.frz
def Val.of (x : D) : Val := .u (.d x)
/-- to the library's data -/
def D.toPy : D → Option PyData
  | .non => some .none
  | .bl b => some (.bool b)
  | .int i => some (.int i)
  | .str x => some (.str x)
  | .tup xs => (toPys xs).map .tuple
  | .lst xs => (toPys xs).map .list
  | _ => none
where toPys : List D → Option (List PyData)
  | [] => some []
  | x :: xs => match toPy x, toPys xs with
    | some a, some b => some (a :: b)
    | _, _ => none
end G

set_option maxHeartbeats 2000000
namespace G
open PySem PySem.Spec PyProof.Rows L2

/-- the text's written part and its module's names -/
structure Tx where
  K : PySem.W.Frag
  mg : Str → Option Value
/-- where the cells stand; what else is kept as it stands -/
structure Wd where
  c : List Addr
  e : List (Addr × HO)
def Wd.all (w : Wd) : List Addr := w.c ++ w.e.map (·.1)
def Wd.push (w : Wd) (p : Addr) : Wd := ⟨w.c ++ [p], w.e⟩
theorem Wd.all_push {w : Wd} {p a : Addr} : a ∈ (w.push p).all ↔ a ∈ w.all ∨ a = p := by
  simp only [Wd.all, Wd.push, List.mem_append, List.mem_singleton]
  constructor
  · rintro ((h | h) | h)
    · exact .inl (.inl h)
    · exact .inr h
    · exact .inl (.inr h)
  · rintro ((h | h) | h)
    · exact .inl (.inl h)
    · exact .inr h
    · exact .inl (.inr h)
/-- the abstract heap without these -/
def hide (H : Hp) (ρ : Wd) : Hp := fun a => if a ∈ ρ.all then none else H a
theorem hide_out {H : Hp} {ρ : Wd} {a : Addr} (h : a ∉ ρ.all) : hide H ρ a = H a := by unfold hide; rw [if_neg h]
theorem hide_some {H : Hp} {ρ : Wd} {a : Addr} {o : HO} (h : hide H ρ a = some o) : a ∉ ρ.all ∧ H a = some o := by
  unfold hide at h
  by_cases q : a ∈ ρ.all
  · rw [if_pos q] at h; cases h
  · rw [if_neg q] at h; exact ⟨q, h⟩
theorem hide_of {H : Hp} {ρ : Wd} {a : Addr} {o : HO} (h : H a = some o) (q : a ∉ ρ.all) : hide H ρ a = some o := by rw [hide_out q]; exact h

mutual
def DV (T : Tx) (S : Hp) : D → V → Prop
  | .non, v => v = .non
  | .bl b, v => v = .bl b
  | .int i, v => v = .int i
  | .str x, v => v = .str x
  | .tup ds, v => ∃ a vs, v = .ref a ∧ SqT T.K S a vs ∧ DVs T S ds vs
  | .lst ds, v => ∃ a vs, v = .ref a ∧ S a = some (.lst vs) ∧ DVs T S ds vs
  | .fn x, v => ∃ a, v = .ref a ∧ T.mg x = some (.ref a)
  | .ty n, v => v = .ty (tyStr n)
  | .scr ds, v => ∃ a vs, v = .ref a ∧ SqL T.K S a vs ∧ DVs T S ds vs
  | .exo c f xs, v => ∃ a C, v = .ref a ∧ T.mg c = some (.ref C) ∧ ((xs = [] ∧ S a = some (exo a C none)) ∨ ∃ dx vs, S a = some (exo a C (some dx)) ∧ S dx = some (exd dx (vs.map fun y => (f, y))) ∧ DVs T S xs vs)
  | .dic _ _, _ => False
  | .set _, _ => False
def DVs (T : Tx) (S : Hp) : List D → List V → Prop
  | [], vs => vs = []
  | d :: ds, vs => ∃ v r, vs = v :: r ∧ DV T S d v ∧ DVs T S ds r
end
variable {T : Tx} {S S' : Hp}
theorem SqT.same {K : PySem.W.Frag} {H H' : Hp} {a : Addr} {xs : List V} (e : Same H H') (h : SqT K H a xs) : SqT K H' a xs := by
  rcases h with (h | ⟨o, h⟩) | h
  · exact .inl (.inl (e _ _ h))
  · exact .inl (.inr ⟨o, e _ _ h⟩)
  · exact .inr h
mutual
theorem DV.mono (e : Same S S') : ∀ (d : D) (v : V), DV T S d v → DV T S' d v
  | .non, v, h => by simpa [DV] using h
  | .bl b, v, h => by simpa [DV] using h
  | .int i, v, h => by simpa [DV] using h
  | .str x, v, h => by simpa [DV] using h
  | .tup ds, v, h => by
    simp only [DV] at h ⊢
    obtain ⟨a, vs, e1, h1, h2⟩ := h
    exact ⟨a, vs, e1, SqT.same e h1, DVs.mono e ds vs h2⟩
  | .lst ds, v, h => by
    simp only [DV] at h ⊢
    obtain ⟨a, vs, e1, h1, h2⟩ := h
    exact ⟨a, vs, e1, e _ _ h1, DVs.mono e ds vs h2⟩
  | .fn x, v, h => by simpa [DV] using h
  | .ty n, v, h => by simpa [DV] using h
  | .scr ds, v, h => by
    simp only [DV] at h ⊢
    obtain ⟨a, vs, e1, h1, h2⟩ := h
    exact ⟨a, vs, e1, e.seq h1, DVs.mono e ds vs h2⟩
  | .exo c f xs, v, h => by
    simp only [DV] at h ⊢
    obtain ⟨a, C, e1, h1, h2⟩ := h
    refine ⟨a, C, e1, h1, ?_⟩
    rcases h2 with ⟨h2, h3⟩ | ⟨dx, vs, h2, h3, h4⟩
    · exact .inl ⟨h2, e _ _ h3⟩
    · exact .inr ⟨dx, vs, e _ _ h2, e _ _ h3, DVs.mono e xs vs h4⟩
  | .dic _ _, v, h => by simp [DV] at h
  | .set _, v, h => by simp [DV] at h
theorem DVs.mono (e : Same S S') : ∀ (ds : List D) (vs : List V), DVs T S ds vs → DVs T S' ds vs
  | [], vs, h => by simpa [DVs] using h
  | d :: ds, vs, h => by
    simp only [DVs] at h ⊢
    obtain ⟨v, r, e1, h1, h2⟩ := h
    exact ⟨v, r, e1, DV.mono e d v h1, DVs.mono e ds r h2⟩
end
theorem DVs.length : ∀ {ds : List D} {vs : List V}, DVs T S ds vs → vs.length = ds.length
  | [], vs, h => by simp only [DVs] at h; subst h; rfl
  | d :: ds, vs, h => by
    simp only [DVs] at h
    obtain ⟨v, r, rfl, h1, h2⟩ := h
    simp [DVs.length h2]
theorem DVs.nil : DVs T S [] [] := by simp [DVs]
theorem DVs.cons {d : D} {v : V} {ds : List D} {vs : List V} (h : DV T S d v) (hs : DVs T S ds vs) : DVs T S (d :: ds) (v :: vs) := by
  simp only [DVs]; exact ⟨v, vs, rfl, h, hs⟩
theorem DVs.get : ∀ {ds : List D} {vs : List V} {i : Nat} {d : D}, DVs T S ds vs → ds[i]? = some d → ∃ v, vs[i]? = some v ∧ DV T S d v
  | [], _, _, _, _, e => by simp at e
  | x :: ds, vs, 0, d, h, e => by
    simp only [DVs] at h
    obtain ⟨v, r, rfl, h1, h2⟩ := h
    have e' : x = d := by simpa using e
    subst e'
    exact ⟨v, rfl, h1⟩
  | x :: ds, vs, i + 1, d, h, e => by
    simp only [DVs] at h
    obtain ⟨v, r, rfl, h1, h2⟩ := h
    obtain ⟨w, q1, q2⟩ := DVs.get (i := i) (d := d) h2 (by simpa using e)
    exact ⟨w, by simpa using q1, q2⟩
theorem DVs.append : ∀ {ds es : List D} {vs ws : List V}, DVs T S ds vs → DVs T S es ws → DVs T S (ds ++ es) (vs ++ ws)
  | [], es, vs, ws, h, k => by simp only [DVs] at h; subst h; exact k
  | d :: ds, es, vs, ws, h, k => by
    simp only [DVs] at h
    obtain ⟨v, r, rfl, h1, h2⟩ := h
    exact DVs.cons h1 (DVs.append h2 k)
theorem DVs.take : ∀ {ds : List D} {vs : List V} (n : Nat), DVs T S ds vs → DVs T S (ds.take n) (vs.take n)
  | _, _, 0, _ => by simp [DVs.nil]
  | [], vs, n + 1, h => by simp only [DVs] at h; subst h; exact DVs.nil
  | d :: ds, vs, n + 1, h => by
    simp only [DVs] at h
    obtain ⟨v, r, rfl, h1, h2⟩ := h
    exact DVs.cons h1 (DVs.take n h2)
theorem DVs.drop : ∀ {ds : List D} {vs : List V} (n : Nat), DVs T S ds vs → DVs T S (ds.drop n) (vs.drop n)
  | _, _, 0, h => h
  | [], vs, n + 1, h => by simp only [DVs] at h; subst h; exact DVs.nil
  | d :: ds, vs, n + 1, h => by
    simp only [DVs] at h
    obtain ⟨v, r, rfl, h1, h2⟩ := h
    exact DVs.drop n h2
theorem DVs.set {x : D} {v : V} (hx : DV T S x v) : ∀ {ds : List D} {vs : List V} (i : Nat), DVs T S ds vs → DVs T S (ds.set i x) (vs.set i v)
  | [], vs, i, h => by simp only [DVs] at h; subst h; exact DVs.nil
  | d :: ds, vs, 0, h => by
    simp only [DVs] at h
    obtain ⟨w, r, rfl, h1, h2⟩ := h
    exact DVs.cons hx h2
  | d :: ds, vs, i + 1, h => by
    simp only [DVs] at h
    obtain ⟨w, r, rfl, h1, h2⟩ := h
    exact DVs.cons h1 (DVs.set hx i h2)
theorem DVs.reverse : ∀ {ds : List D} {vs : List V}, DVs T S ds vs → DVs T S ds.reverse vs.reverse
  | [], vs, h => by simp only [DVs] at h; subst h; exact DVs.nil
  | d :: ds, vs, h => by
    simp only [DVs] at h
    obtain ⟨v, r, rfl, h1, h2⟩ := h
    rw [List.reverse_cons, List.reverse_cons]
    exact DVs.append (DVs.reverse h2) (DVs.cons h1 DVs.nil)

/-- a usual value -/
def UV (T : Tx) (S : Hp) (ρ : Wd) : U → V → Prop
  | .d x, v => DV T S x v
  | .ref n, v => ∃ a, ρ.c[n]? = some a ∧ v = .ref a
def CellOk (T : Tx) (S : Hp) (ρ : Wd) (o : HO) : Cell → Prop
  | .lst xs => ∃ vs, o = .lst vs ∧ DVs T S xs vs
  | _ => False
theorem CellOk.mono {ρ ρ' : Wd} (e : Same S S') {o : HO} {c : Cell} (h : CellOk T S ρ o c) : CellOk T S' ρ' o c := by
  cases c with
  | lst xs =>
    obtain ⟨vs, e1, h1⟩ := h
    exact ⟨vs, e1, DVs.mono e _ _ h1⟩
  | _ => exact (show False from h).elim
/-- the cells st stand at ρ, the heap S apart from them -/
structure RelS (T : Tx) (S : Hp) (ρ : Wd) (st : Store) (H : Hp) : Prop where
  nd : ρ.all.Nodup
  len : ρ.c.length = st.length
  cell : ∀ (n : Nat) (a : Addr) (c : Cell), ρ.c[n]? = some a → st[n]? = some c → ∃ o, H a = some o ∧ CellOk T S ρ o c
  frm : ∀ p ∈ ρ.e, H p.1 = some p.2
abbrev Rel (T : Tx) (ρ : Wd) (st : Store) (H : Hp) : Prop := RelS T (hide H ρ) ρ st H
theorem RelS.some {ρ : Wd} {st : Store} {H : Hp} (r : RelS T S ρ st H) {a : Addr} (h : a ∈ ρ.all) : ∃ o, H a = some o := by
  rcases List.mem_append.mp h with h | h
  · obtain ⟨n, hn, e⟩ := List.getElem_of_mem h
    have h2 : n < st.length := by rw [← r.len]; exact hn
    obtain ⟨o, q, _⟩ := r.cell n a st[n] (by rw [List.getElem?_eq_getElem hn, e]) (List.getElem?_eq_getElem h2)
    exact ⟨o, q⟩
  · obtain ⟨p, hp, rfl⟩ := List.mem_map.mp h
    exact ⟨_, r.frm p hp⟩
theorem RelS.free {ρ : Wd} {st : Store} {H : Hp} (r : RelS T S ρ st H) {p : Addr} (h : H p = none) : p ∉ ρ.all := fun q => by
  obtain ⟨o, e⟩ := r.some q
  rw [h] at e; cases e
/-- what was apart from the cells is as it was; there may be more cells -/
structure Ext (ρ : Wd) (H : Hp) (ρ' : Wd) (H' : Hp) : Prop where
  pre : ∃ more, ρ' = ⟨ρ.c ++ more, ρ.e⟩
  same : Same (hide H ρ) (hide H' ρ')
theorem Ext.refl (ρ : Wd) (H : Hp) : Ext ρ H ρ H := ⟨⟨[], by simp⟩, Same.refl _⟩
theorem Ext.trans {ρ ρ1 ρ2 : Wd} {H H1 H2 : Hp} (a : Ext ρ H ρ1 H1) (b : Ext ρ1 H1 ρ2 H2) : Ext ρ H ρ2 H2 := by
  obtain ⟨⟨m1, e1⟩, s1⟩ := a
  obtain ⟨⟨m2, e2⟩, s2⟩ := b
  exact ⟨⟨m1 ++ m2, by rw [e2, e1, List.append_assoc]⟩, s1.trans s2⟩
theorem Ext.get {ρ ρ' : Wd} {H H' : Hp} (a : Ext ρ H ρ' H') {n : Nat} {x : Addr} (h : ρ.c[n]? = some x) : ρ'.c[n]? = some x := by
  obtain ⟨⟨m, e⟩, _⟩ := a
  rw [e, List.getElem?_append_left (List.getElem?_eq_some_iff.mp h).1]
  exact h
theorem UV.mono {ρ ρ' : Wd} {H H' : Hp} (e : Ext ρ H ρ' H') {u : U} {v : V} (h : UV T (hide H ρ) ρ u v) : UV T (hide H' ρ') ρ' u v := by
  cases u with
  | d x => exact DV.mono e.same x v h
  | ref n =>
    obtain ⟨a, q, ev⟩ := h
    exact ⟨a, e.get q, ev⟩
/-- the names' values -/
structure EnvOk (T : Tx) (S : Hp) (ρ : Wd) (σ : L2.St) (env : Sl) : Prop where
  len : env.length = σ.length
  get : ∀ (i : Nat) (u : U), env[i]? = some (some u) → ∃ v, σ[i]? = some (some v) ∧ UV T S ρ u v
theorem EnvOk.mono {ρ ρ' : Wd} {H H' : Hp} (e : Ext ρ H ρ' H') {σ : L2.St} {env : Sl} (h : EnvOk T (hide H ρ) ρ σ env) : EnvOk T (hide H' ρ') ρ' σ env := ⟨h.len, fun i u q => by
  obtain ⟨v, e1, h1⟩ := h.get i u q
  exact ⟨v, e1, h1.mono e⟩⟩

/-! results -/
def OkU (T : Tx) (ρ : Wd) (H : Hp) (u : U) (st' : Store) (ρ' : Wd) (H' : Hp) (v : V) : Prop := Ext ρ H ρ' H' ∧ Rel T ρ' st' H' ∧ UV T (hide H' ρ') ρ' u v
/-- a new object at p, kept by nobody -/
structure OkBox (T : Tx) (ρ : Wd) (H : Hp) (c : Cell) (st' : Store) (ρ' : Wd) (H' : Hp) (p : Addr) : Prop where
  ext : Ext ρ H (ρ'.push p) H'
  pre : ∃ more, ρ' = ⟨ρ.c ++ more, ρ.e⟩
  rel : RelS T (hide H' (ρ'.push p)) ρ' st' H'
  nin : p ∉ ρ'.all
  cell : ∃ o, H' p = some o ∧ CellOk T (hide H' (ρ'.push p)) ρ' o c
def OkVal (T : Tx) (ρ : Wd) (H : Hp) (x : Val) (st' : Store) (ρ' : Wd) (H' : Hp) (v : V) : Prop := match x with
  | .u u => OkU T ρ H u st' ρ' H' v
  | .box c => ∃ p, v = .ref p ∧ OkBox T ρ H c st' ρ' H' p
def OkUs (T : Tx) (ρ : Wd) (H : Hp) (us : List U) (st' : Store) (ρ' : Wd) (H' : Hp) (vs : List V) : Prop := Ext ρ H ρ' H' ∧ Rel T ρ' st' H' ∧ Paired (UV T (hide H' ρ') ρ') us vs
theorem hide_sub {H : Hp} {ρ : Wd} {p : Addr} : Same (hide H (ρ.push p)) (hide H ρ) := fun a o h => by
  obtain ⟨q, e⟩ := hide_some h
  exact hide_of e fun z => q (Wd.all_push.mpr (.inl z))
/-- the new object is never written again -/
theorem OkBox.settle {ρ ρ' : Wd} {H H' : Hp} {c : Cell} {st' : Store} {p : Addr} (h : OkBox T ρ H c st' ρ' H' p) {x : D} (e : c.frz = some x) : OkU T ρ H (.d x) st' ρ' H' (.ref p) := by
  obtain ⟨ext, pre, rel, nin, o, hp, hc⟩ := h
  refine ⟨⟨pre, ext.same.trans hide_sub⟩, ⟨rel.nd, rel.len, fun n a c h1 h2 => ?_, rel.frm⟩, ?_⟩
  · obtain ⟨o', q1, q2⟩ := rel.cell n a c h1 h2
    exact ⟨o', q1, q2.mono hide_sub⟩
  · cases c with
    | lst xs =>
      obtain ⟨vs, rfl, hv⟩ := hc
      cases e
      show DV T _ (D.lst xs) _
      simp only [DV]
      exact ⟨p, vs, rfl, hide_of hp nin, DVs.mono hide_sub _ _ hv⟩
    | _ => exact (show False from hc).elim
theorem nodup_push {w : Wd} {p : Addr} (h : w.all.Nodup) (q : p ∉ w.all) : (w.push p).all.Nodup := by
  have e : (w.push p).all.Perm (p :: w.all) := by
    show ((w.c ++ [p]) ++ w.e.map (·.1)).Perm (p :: (w.c ++ w.e.map (·.1)))
    rw [List.append_assoc]
    exact List.perm_middle
  exact e.nodup_iff.mpr (List.nodup_cons.mpr ⟨q, h⟩)
/-- .. is kept as a cell -/
theorem OkBox.alloc {ρ ρ' : Wd} {H H' : Hp} {c : Cell} {st' : Store} {p : Addr} (h : OkBox T ρ H c st' ρ' H' p) : OkU T ρ H (.ref st'.length) (st' ++ [c]) (ρ'.push p) H' (.ref p) := by
  obtain ⟨ext, pre, rel, nin, o, hp, hc⟩ := h
  refine ⟨ext, ⟨nodup_push rel.nd nin, by simp [Wd.push, rel.len], fun n a c' h1 h2 => ?_, rel.frm⟩, ⟨p, by rw [← rel.len]; simp [Wd.push], rfl⟩⟩
  have h1 : (ρ'.c ++ [p])[n]? = some a := h1
  by_cases hn : n < ρ'.c.length
  · rw [List.getElem?_append_left hn] at h1
    rw [List.getElem?_append_left (by rw [← rel.len]; exact hn)] at h2
    obtain ⟨o', q1, q2⟩ := rel.cell n a c' h1 h2
    exact ⟨o', q1, q2.mono (Same.refl _)⟩
  · have hn2 : n = ρ'.c.length := by
      have := (List.getElem?_eq_some_iff.mp h1).1
      simp at this; omega
    subst hn2
    have e1 : p = a := by simpa using h1
    have e2 : c = c' := by rw [rel.len] at h2; simpa using h2
    subst e1; subst e2
    exact ⟨o, hp, hc.mono (Same.refl _)⟩

/-! exceptions: X.xe is met by W -/
def XV (T : Tx) (S : Hp) (x : Exc) (cls : Value) (d : Option Addr) : Prop := T.mg x.cls = some cls ∧ match x.arg with
  | none => d = none
  | some (f, a) => ∃ dx v, d = some dx ∧ S dx = some (.xd [(f, v)]) ∧ DV T S a v
theorem XV.mono {x : Exc} {cls : Value} {d : Option Addr} (e : Same S S') (h : XV T S x cls d) : XV T S' x cls d := by
  obtain ⟨h1, h2⟩ := h
  refine ⟨h1, ?_⟩
  cases q : x.arg with
  | none => rw [q] at h2; exact h2
  | some p =>
    rw [q] at h2
    obtain ⟨f, a⟩ := p
    obtain ⟨dx, v, e1, e2, e3⟩ := h2
    exact ⟨dx, v, e1, e _ _ e2, DV.mono e _ _ e3⟩
def XPost (T : Tx) (W : WX) (σ : L2.St) (ρ : Wd) (H : Hp) (x : Exc) (st' : Store) : Prop := ∀ ρ' H' cls d, Ext ρ H ρ' H' → Rel T ρ' st' H' → XV T (hide H' ρ') x cls d → W cls d σ H'
theorem XPost.ext {W : WX} {σ : L2.St} {ρ ρ1 : Wd} {H H1 : Hp} {x : Exc} {st' : Store} (h : XPost T W σ ρ H x st') (e : Ext ρ H ρ1 H1) : XPost T W σ ρ1 H1 x st' := fun ρ' H' cls d e' => h ρ' H' cls d (e.trans e')
/-- what is wanted of a result -/
def PR {α : Type} (T : Tx) (W : WX) (σ : L2.St) (ρ : Wd) (H : Hp) (r : Res α) (K : α → Store → Prop) : Prop := match r with
  | .ok a st => K a st
  | .exc x st => XPost T W σ ρ H x st
  | .stuck => False
theorem PR.bind {α β : Type} {W : WX} {σ : L2.St} {ρ : Wd} {H : Hp} {r : Res α} {k : α → Store → Res β} {K : β → Store → Prop} (h : PR T W σ ρ H (r.bind k) K) : PR T W σ ρ H r fun a st => PR T W σ ρ H (k a st) K := by
  cases r <;> exact h
theorem PR.mono {α : Type} {W : WX} {σ : L2.St} {ρ : Wd} {H : Hp} {r : Res α} {K K' : α → Store → Prop} (h : PR T W σ ρ H r K) (hk : ∀ a st, K a st → K' a st) : PR T W σ ρ H r K' := by
  cases r with
  | ok a st => exact hk a st h
  | exc x st => exact h
  | stuck => exact h
theorem PR.ext {α : Type} {W : WX} {σ : L2.St} {ρ ρ1 : Wd} {H H1 : Hp} {r : Res α} {K K' : α → Store → Prop} (e : Ext ρ H ρ1 H1) (h : PR T W σ ρ H r K) (hk : ∀ a st, K a st → K' a st) : PR T W σ ρ1 H1 r K' := by
  cases r with
  | ok a st => exact hk a st h
  | exc x st => exact XPost.ext h e
  | stuck => exact h

/-! readings -/
/-- the reading of f: r is what f gives -/
def TG (T : Tx) (W : WX) (f : FE) : TE := fun σ H Q => ∃ ρ env st, Rel T ρ st H ∧ EnvOk T (hide H ρ) ρ σ env ∧ PR T W σ ρ H (f env st) fun x st' => ∀ ρ' H' v, OkVal T ρ H x st' ρ' H' v → Q v H'
def TGU (T : Tx) (W : WX) (f : FU) : TE := fun σ H Q => ∃ ρ env st, Rel T ρ st H ∧ EnvOk T (hide H ρ) ρ σ env ∧ PR T W σ ρ H (f env st) fun x st' => ∀ ρ' H' v, OkU T ρ H x st' ρ' H' v → Q v H'
def TGA (T : Tx) (W : WX) (f : FA) : TA := fun σ H Q => ∃ ρ env st, Rel T ρ st H ∧ EnvOk T (hide H ρ) ρ σ env ∧ PR T W σ ρ H (f env st) fun x st' => ∀ ρ' H' v, OkUs T ρ H x st' ρ' H' v → Q v H'
def TGT (T : Tx) (W : WX) (f : FT) : TT := fun σ H Q => ∃ ρ env st, Rel T ρ st H ∧ EnvOk T (hide H ρ) ρ σ env ∧ PR T W σ ρ H (f env st) fun b st' => ∀ ρ' H', Ext ρ H ρ' H' → Rel T ρ' st' H' → Q b H'
abbrev tx (X : Cx) : Tx := ⟨X.K, X.mg⟩
/-- e computes f -/
abbrev SE (X : Cx) (W : WX) (e : Expr) (f : FE) : Prop := PE X e (TG (tx X) W f)
abbrev SU (X : Cx) (W : WX) (e : Expr) (f : FU) : Prop := PE X e (TGU (tx X) W f)
abbrev SA (X : Cx) (W : WX) (es : List Expr) (f : FA) : Prop := PA X es (TGA (tx X) W f)
abbrev ST (X : Cx) (W : WX) (e : Expr) (f : FT) : Prop := PT X e (TGT (tx X) W f)
theorem PE.weak {X : Cx} {e : Expr} {t t' : TE} (h : PE X e t) (w : ∀ σ H Q, t' σ H Q → t σ H Q) : PE X e t' := ⟨fun pins s σ H Q I q => h.run pins s σ H Q I (w σ H Q q)⟩
theorem PT.weak {X : Cx} {e : Expr} {t t' : TT} (h : PT X e t) (w : ∀ σ H Q, t' σ H Q → t σ H Q) : PT X e t' := ⟨fun pins s σ H Q I q => h.run pins s σ H Q I (w σ H Q q)⟩
theorem PA.weak {X : Cx} {e : List Expr} {t t' : TA} (h : PA X e t) (w : ∀ σ H Q, t' σ H Q → t σ H Q) : PA X e t' := ⟨fun pos pins s σ H Q I q => h.run pos pins s σ H Q I (w σ H Q q)⟩
theorem PS.weak {X : Cx} {e : Stmt} {t t' : TS} (h : PS X e t) (w : ∀ σ H Q, t' σ H Q → t σ H Q) : PS X e t' := ⟨fun pins s σ H Q I q => h.run pins s σ H Q I (w Q σ H q)⟩
theorem PSs.weak {X : Cx} {e : List Stmt} {t t' : TS} (h : PSs X e t) (w : ∀ σ H Q, t' σ H Q → t σ H Q) : PSs X e t' := ⟨fun pins s σ H Q I q => h.run pins s σ H Q I (w Q σ H q)⟩
/-- the value settled -/
def uE (f : FE) : FU := fun env st => (f env st).bind fun x st => lift x.settle st
variable {X : Cx} {W : WX}
theorem OkVal.settle {ρ ρ' : Wd} {H H' : Hp} {x : Val} {u : U} {st' : Store} {v : V} (h : OkVal T ρ H x st' ρ' H' v) (e : x.settle = some u) : OkU T ρ H u st' ρ' H' v := by
  cases x with
  | u y => cases e; exact h
  | box c =>
    obtain ⟨p, rfl, hb⟩ := h
    cases q : c.frz with
    | none => simp [Val.settle, q] at e
    | some z =>
      have : u = .d z := by simpa [Val.settle, q] using e.symm
      subst this
      exact hb.settle q
theorem SE.u {e : Expr} {f : FE} (h : SE X W e f) : SU X W e (uE f) := by
  refine PE.weak h fun σ H Q ⟨ρ, env, st, rel, eo, q⟩ => ⟨ρ, env, st, rel, eo, ?_⟩
  refine (PR.bind q).mono fun x st' q ρ' H' v ok => ?_
  cases e : x.settle with
  | none => rw [e] at q; exact q.elim
  | some u =>
    rw [e] at q
    exact q ρ' H' v (ok.settle e)
end G

set_option maxHeartbeats 2000000
namespace G
open PySem PySem.Spec PyProof.Rows L2
variable {X : Cx} {W : WX} {T : Tx}

/-! names, constants -/
def fVar (i : Nat) : FE := fun env st => match env[i]? with
  | some (some u) => .ok (.u u) st
  | _ => .stuck
theorem se_var {i : Nat} {x : Str} {pos : Pos} (hN : X.N[i]? = some x := by rfl) (hv : Vis X.env.scope x := by first | exact Or.inl rfl | exact Or.inr (Or.inl rfl) | exact Or.inr (Or.inr rfl)) (hd : (x == ("__debug__" : Str)) = false := by decide)
    (hcd : (x == ("__classdict__" : Str)) = false := by decide) : SE X W (.Name x pos) (fVar i) := by
  refine PE.weak (pe_var hN hv hd hcd) fun σ H Q ⟨ρ, env, st, rel, eo, q⟩ => ?_
  unfold fVar at q
  cases e : env[i]? with
  | none => rw [e] at q; exact q.elim
  | some o =>
    cases o with
    | none => rw [e] at q; exact q.elim
    | some u =>
      rw [e] at q
      obtain ⟨v, e1, h1⟩ := eo.get i u e
      exact ⟨v, e1, q ρ H v ⟨Ext.refl _ _, rel, h1⟩⟩
def fC (x : D) : FE := fun _ st => .ok (.u (.d x)) st
theorem tg_c {x : D} {v : V} (hd : ∀ S, DV T S x v) : ∀ σ H Q, TG T W (fC x) σ H Q → tC v σ H Q := fun σ H Q ⟨ρ, env, st, rel, eo, q⟩ => q ρ H v ⟨Ext.refl _ _, rel, hd _⟩
theorem dv_int {S : Hp} {i : Int} : DV T S (.int i) (.int i) := by simp [DV]
theorem dv_bl {S : Hp} {i : Bool} : DV T S (.bl i) (.bl i) := by simp [DV]
theorem dv_non {S : Hp} : DV T S .non .non := by simp [DV]
theorem dv_str {S : Hp} {i : Str} : DV T S (.str i) (.str i) := by simp [DV]
theorem dv_ty {S : Hp} {i : Nat} : DV T S (.ty i) (.ty (tyStr i)) := by simp [DV]
theorem se_int {i j pos} : SE X W (.Constant (.int i) j pos) (fC (.int i)) := PE.weak pe_int (tg_c fun _ => dv_int)
theorem se_bl {i j pos} : SE X W (.Constant (.bool i) j pos) (fC (.bl i)) := PE.weak pe_bl (tg_c fun _ => dv_bl)
theorem se_non {j pos} : SE X W (.Constant .none j pos) (fC .non) := PE.weak pe_non (tg_c fun _ => dv_non)
theorem se_str {i j pos} : SE X W (.Constant (.str i) j pos) (fC (.str i)) := PE.weak pe_str (tg_c fun _ => dv_str)
/-- a module's constant -/
theorem se_glob {x : Str} {d : D} {v : V} {u : Value} {pos : Pos} (hg : Gl X x) (hm : X.mg x = some u) (r : RelV v u) (hv : ∀ S, DV (tx X) S d v) (hd : (x == ("__debug__" : Str)) = false := by decide) : SE X W (.Name x pos) (fC d) :=
  PE.weak (pe_glob hg hm r hd) (tg_c hv)
/-- a def as a value -/
theorem se_fn {x : Str} {a : Addr} {pos : Pos} (hg : Gl X x) (hm : X.mg x = some (.ref a)) (hd : (x == ("__debug__" : Str)) = false := by decide) : SE X W (.Name x pos) (fC (.fn x)) :=
  PE.weak (pe_glob (v := .ref a) hg hm rfl hd) (tg_c fun _ => by simp only [DV]; exact ⟨a, rfl, hm⟩)

/-! two operands -/
def fBin (op : Store → U → U → Option Val) (fa fb : FE) : FE := fun env st => (uE fa env st).bind fun x st => (uE fb env st).bind fun y st => lift (op st x y) st
def ROp (T : Tx) (op : Store → U → U → Option Val) : R2 := fun x y H Q => ∃ ρ st u w, Rel T ρ st H ∧ UV T (hide H ρ) ρ u x ∧ UV T (hide H ρ) ρ w y ∧ ∃ r, op st u w = some r ∧ ∀ ρ' H' v, OkVal T ρ H r st ρ' H' v → Q v H'
theorem OkVal.ext {ρ ρ1 ρ' : Wd} {H H1 H' : Hp} {x : Val} {st' : Store} {v : V} (e : Ext ρ H ρ1 H1) (h : OkVal T ρ1 H1 x st' ρ' H' v) : OkVal T ρ H x st' ρ' H' v := by
  cases x with
  | u y => exact ⟨e.trans h.1, h.2⟩
  | box c =>
    obtain ⟨p, rfl, ⟨ext, pre, rel, nin, cell⟩⟩ := h
    refine ⟨p, rfl, ⟨e.trans ext, ?_, rel, nin, cell⟩⟩
    obtain ⟨m, e1⟩ := pre
    obtain ⟨⟨m0, e0⟩, _⟩ := e
    exact ⟨m0 ++ m, by rw [e1, e0, List.append_assoc]⟩
theorem OkU.ext {ρ ρ1 ρ' : Wd} {H H1 H' : Hp} {x : U} {st' : Store} {v : V} (e : Ext ρ H ρ1 H1) (h : OkU T ρ1 H1 x st' ρ' H' v) : OkU T ρ H x st' ρ' H' v := ⟨e.trans h.1, h.2⟩
theorem two {op : Store → U → U → Option Val} {fa fb : FE} : ∀ σ H Q, TG T W (fBin op fa fb) σ H Q → tOp (ROp T op) (TGU T W (uE fa)) (TGU T W (uE fb)) σ H Q := fun σ H Q ⟨ρ, env, st, rel, eo, q⟩ => by
  refine ⟨ρ, env, st, rel, eo, (PR.bind q).mono fun x st1 q ρ1 H1 v1 ok1 => ?_⟩
  refine ⟨ρ1, env, st1, ok1.2.1, eo.mono ok1.1, PR.ext ok1.1 (PR.bind q) fun y st2 q ρ2 H2 v2 ok2 => ?_⟩
  cases e : op st2 x y with
  | none => rw [e] at q; exact q.elim
  | some r =>
    rw [e] at q
    exact ⟨ρ2, st2, x, y, ok2.2.1, ok1.2.2.mono ok2.1, ok2.2.2, r, e, fun ρ' H' v ok => q ρ' H' v (OkVal.ext (ok1.1.trans ok2.1) ok)⟩
theorem se_bin {o : Operator} {op : Store → U → U → Option Val} {a b : Expr} {fa fb : FE} {pos : Pos} (ho : OpR X (binaryOp o) (ROp (tx X) op)) (ha : SE X W a fa) (hb : SE X W b fb) : SE X W (.BinOp a o b pos) (fBin op fa fb) :=
  PE.weak (pe_op ho ha.u hb.u) two
theorem se_cmp {o : CmpOp} {op : Store → U → U → Option Val} {a b : Expr} {fa fb : FE} {pos : Pos} (ho : OpR X (compareOp o) (ROp (tx X) op)) (ha : SE X W a fa) (hb : SE X W b fb) (hm : behindInMarks o b = false) : SE X W (.Compare a [o] [b] pos) (fBin op fa fb) :=
  PE.weak (pe_cmpR ho ha.u hb.u hm) two
theorem se_ix {op : Store → U → U → Option Val} {a b : Expr} {fa fb : FE} {pos : Pos} (ho : IxR X (ROp (tx X) op)) (ha : SE X W a fa) (hb : SE X W b fb) (hm : PlainIx b := by intro _ _; rfl) : SE X W (.Subscript a b pos) (fBin op fa fb) :=
  PE.weak (pe_ix ho ha.u hb.u hm) two

/-! what an operand reads as -/
def TV (T : Tx) (ρ : Wd) (H : Hp) : D → V → Prop
  | .lst ds, v => ∃ a vs, v = .ref a ∧ H a = some (.lst vs) ∧ DVs T (hide H ρ) ds vs
  | .tup ds, v => ∃ a vs, v = .ref a ∧ SqT T.K H a vs ∧ DVs T (hide H ρ) ds vs ∧ SqT T.K (hide H ρ) a vs
  | d, v => DV T (hide H ρ) d v
theorem hide_le {H : Hp} {ρ : Wd} : Same (hide H ρ) H := fun a o h => (hide_some h).2
theorem view {ρ : Wd} {st : Store} {H : Hp} {u : U} {x : V} {d : D} (rel : Rel T ρ st H) (h : UV T (hide H ρ) ρ u x) (e : u.frz st = some d) : TV T ρ H d x := by
  cases u with
  | d y =>
    have : y = d := by simpa [U.frz] using e
    subst this
    have h' : DV T (hide H ρ) y x := h
    cases y with
    | lst ds =>
      simp only [DV] at h'
      obtain ⟨a, vs, rfl, h1, h2⟩ := h'
      exact ⟨a, vs, rfl, hide_le _ _ h1, h2⟩
    | tup ds =>
      simp only [DV] at h'
      obtain ⟨a, vs, rfl, h1, h2⟩ := h'
      exact ⟨a, vs, rfl, SqT.same hide_le h1, h2, h1⟩
    | _ => exact h'
  | ref n =>
    obtain ⟨a, ha, rfl⟩ := h
    have e' : st[n]?.bind Cell.frz = some d := e
    cases q : st[n]? with
    | none => rw [q] at e'; cases e'
    | some c =>
      rw [q] at e'
      obtain ⟨o, ho, hc⟩ := rel.cell n a c ha q
      cases c with
      | lst xs =>
        obtain ⟨vs, rfl, hv⟩ := hc
        cases e'
        exact ⟨a, vs, rfl, ho, hv⟩
      | _ => exact (show False from hc).elim
/-- by what the two read as -/
def opD (g : D → D → Option Val) : Store → U → U → Option Val := fun st u w => (u.frz st).bind fun x => (w.frz st).bind fun y => g x y
theorem opD_some {g : D → D → Option Val} {st : Store} {u w : U} {r : Val} (h : opD g st u w = some r) : ∃ x y, u.frz st = some x ∧ w.frz st = some y ∧ g x y = some r := by
  unfold opD at h
  cases e1 : u.frz st with
  | none => rw [e1] at h; cases h
  | some x =>
    cases e2 : w.frz st with
    | none => rw [e1, e2] at h; cases h
    | some y => exact ⟨x, y, rfl, rfl, by rw [e1, e2] at h; exact h⟩
/-- .. as a reading -/
def RD (T : Tx) (g : D → D → Option Val) : R2 := fun x y H Q => ∃ ρ st d e, Rel T ρ st H ∧ TV T ρ H d x ∧ TV T ρ H e y ∧ ∃ r, g d e = some r ∧ ∀ ρ' H' v, OkVal T ρ H r st ρ' H' v → Q v H'
theorem rd_of {g : D → D → Option Val} {x y : V} {H : Hp} {Q : VK} (h : ROp T (opD g) x y H Q) : RD T g x y H Q := by
  obtain ⟨ρ, st, u, w, rel, hu, hw, r, e, q⟩ := h
  obtain ⟨d, d', e1, e2, e3⟩ := opD_some e
  exact ⟨ρ, st, d, d', rel, view rel hu e1, view rel hw e2, r, e3, q⟩
theorem OpR.weak {f : Value → Value → Sem Value} {r r' : R2} (h : OpR X f r) (w : ∀ x y H Q, r' x y H Q → r x y H Q) : OpR X f r' := fun pins s σ H x y v u Q I rx ry q => h pins s σ H x y v u Q I rx ry (w x y H Q q)
theorem IxR.weak {r r' : R2} (h : IxR X r) (w : ∀ x y H Q, r' x y H Q → r x y H Q) : IxR X r' := fun a b pins s σ H x y v u Q I rx ry q => h a b pins s σ H x y v u Q I rx ry (w x y H Q q)

/-! new objects -/
theorem upd_hide {H : Hp} {ρ : Wd} {p : Addr} {o : HO} (h : p ∉ ρ.all) : hide (upd H p o) ρ = upd (hide H ρ) p o := by
  funext a
  unfold hide upd
  by_cases e : a = p
  · subst e
    rw [if_pos rfl, if_neg h, if_pos rfl]
  · rw [if_neg e, if_neg e]
theorem same_new {H : Hp} {p : Addr} {o : HO} (h : H p = none) : Same H (upd H p o) := fun b x e => by
  rw [upd_ne (ne_of_none e h)]
  exact e
theorem same_hide {ρ : Wd} {H H' : Hp} (s : Same H H') : Same (hide H ρ) (hide H' ρ) := fun a o e => by
  obtain ⟨q, e1⟩ := hide_some e
  exact hide_of (s _ _ e1) q
/-- the heap has grown -/
theorem rel_grow {ρ : Wd} {st : Store} {H H' : Hp} (rel : Rel T ρ st H) (s : Same H H') : Rel T ρ st H' ∧ Ext ρ H ρ H' := by
  have s' := same_hide (ρ := ρ) s
  refine ⟨⟨rel.nd, rel.len, fun n a c h1 h2 => ?_, fun p hp => s _ _ (rel.frm p hp)⟩, ⟨⟨[], by simp⟩, s'⟩⟩
  obtain ⟨o', q1, q2⟩ := rel.cell n a c h1 h2
  exact ⟨o', s _ _ q1, q2.mono s'⟩
theorem rel_new {ρ : Wd} {st : Store} {H : Hp} {p : Addr} {o : HO} (rel : Rel T ρ st H) (h : H p = none) : Rel T ρ st (upd H p o) ∧ Ext ρ H ρ (upd H p o) := rel_grow rel (same_new h)
theorem ok_d {ρ : Wd} {st : Store} {H : Hp} {d : D} {v : V} (rel : Rel T ρ st H) (h : DV T (hide H ρ) d v) : OkVal T ρ H (.u (.d d)) st ρ H v := ⟨Ext.refl _ _, rel, h⟩
theorem ok_tup {ρ : Wd} {st : Store} {H : Hp} {ds : List D} {vs : List V} {p : Addr} (rel : Rel T ρ st H) (h : H p = none) (hv : DVs T (hide H ρ) ds vs) : OkVal T ρ H (.u (.d (.tup ds))) st ρ (upd H p (.tup vs)) (.ref p) := by
  obtain ⟨r, e⟩ := rel_new (o := .tup vs) rel h
  refine ⟨e, r, ?_⟩
  show DV T _ (.tup ds) _
  simp only [DV]
  exact ⟨p, vs, rfl, .inl (.inl (hide_of upd_same (rel.free h))), DVs.mono e.same _ _ hv⟩
theorem ok_box {ρ : Wd} {st : Store} {H : Hp} {c : Cell} {o : HO} {p : Addr} (rel : Rel T ρ st H) (h : H p = none) (hc : CellOk T (hide H ρ) ρ o c) : OkVal T ρ H (.box c) st ρ (upd H p o) (.ref p) := by
  have hp : p ∉ ρ.all := rel.free h
  have s : Same (hide H ρ) (hide (upd H p o) (ρ.push p)) := fun a x e => by
    obtain ⟨q, e1⟩ := hide_some e
    have ne : a ≠ p := ne_of_none e1 h
    refine hide_of (by rw [upd_ne ne]; exact e1) fun z => ?_
    rcases Wd.all_push.mp z with z | z
    · exact q z
    · exact ne z
  refine ⟨p, rfl, ⟨⟨⟨[p], rfl⟩, s⟩, ⟨[], by simp⟩, ⟨rel.nd, rel.len, fun n a c h1 h2 => ?_, fun q hq => same_new h _ _ (rel.frm q hq)⟩, hp, o, upd_same, hc.mono s⟩⟩
  obtain ⟨o', q1, q2⟩ := rel.cell n a c h1 h2
  exact ⟨o', same_new h _ _ q1, q2.mono s⟩
theorem ok_lst {ρ : Wd} {st : Store} {H : Hp} {ds : List D} {vs : List V} {p : Addr} (rel : Rel T ρ st H) (h : H p = none) (hv : DVs T (hide H ρ) ds vs) : OkVal T ρ H (.box (.lst ds)) st ρ (upd H p (.lst vs)) (.ref p) := ok_box rel h ⟨vs, rfl, hv⟩

/-! + - * // % -/
abbrev LIM : Nat := 16777216
theorem lim_line : (LIM : Nat) ≤ sizeLine := by rw [sizeLine_eq]; decide
def gAdd : D → D → Option Val
  | .int i, .int j => some (.u (.d (.int (i + j))))
  | .str x, .str y => if x.length + y.length ≤ LIM then some (.u (.d (.str (x ++ y)))) else none
  | .tup xs, .tup ys => if xs.length + ys.length ≤ LIM then some (.u (.d (.tup (xs ++ ys)))) else none
  | .lst xs, .lst ys => if xs.length + ys.length ≤ LIM then some (.box (.lst (xs ++ ys))) else none
  | _, _ => none
theorem DVs.nil_iff {S : Hp} {ds : List D} {vs : List V} (h : DVs T S ds vs) : ds = [] ↔ vs = [] := by
  have := h.length
  constructor
  · rintro rfl; exact List.length_eq_zero_iff.mp (by simpa using this)
  · rintro rfl; exact List.length_eq_zero_iff.mp (by simpa using this.symm)
theorem r_add : OpR X (binaryOp .Add) (ROp (tx X) (opD gAdd)) := by
  refine OpR.weak (r := RD (tx X) gAdd) ?_ fun x y H Q => rd_of
  intro pins s σ H x y v u Q I rx ry h
  obtain ⟨ρ, st, d, e, rel, hd, he, r, g, q⟩ := h
  have ll := lim_line
  cases d with
  | int i =>
    cases e with
    | int j =>
      cases (show x = .int i by simpa [TV, DV] using hd); cases (show y = .int j by simpa [TV, DV] using he)
      cases g
      exact op_add pins s σ H _ _ v u Q I rx ry ⟨i, j, rfl, rfl, q ρ H _ (ok_d rel dv_int)⟩
    | _ => cases g
  | str i =>
    cases e with
    | str j =>
      cases (show x = .str i by simpa [TV, DV] using hd); cases (show y = .str j by simpa [TV, DV] using he)
      simp only [gAdd] at g
      split at g
      · rename_i hl
        cases g
        exact op_add_str pins s σ H _ _ v u Q I rx ry ⟨i, j, rfl, rfl, Nat.le_trans hl ll, q ρ H _ (ok_d rel dv_str)⟩
      · cases g
    | _ => cases g
  | tup xs =>
    cases e with
    | tup ys =>
      obtain ⟨a, vs, rfl, sa, va, ta⟩ := hd
      obtain ⟨b, ws, rfl, sb, vb, tb⟩ := he
      simp only [gAdd] at g
      split at g
      · rename_i hl
        cases g
        have l1 := va.length
        have l2 := vb.length
        refine op_catA pins s σ H _ _ v u Q I rx ry ⟨a, b, vs, ws, rfl, rfl, sa, sb, by omega, fun z => q ρ H _ (ok_d rel ?_), fun z1 z2 => q ρ H _ (ok_d rel ?_), fun _ _ p hp => q ρ _ _ (ok_tup rel hp (va.append vb))⟩
        · have : xs = [] := va.nil_iff.mpr z
          subst this
          simp only [DV, List.nil_append]
          exact ⟨b, ws, rfl, tb, vb⟩
        · have : ys = [] := vb.nil_iff.mpr z2
          subst this
          simp only [DV, List.append_nil]
          exact ⟨a, vs, rfl, ta, va⟩
      · cases g
    | _ => cases g
  | lst xs =>
    cases e with
    | lst ys =>
      obtain ⟨a, vs, rfl, sa, va⟩ := hd
      obtain ⟨b, ws, rfl, sb, vb⟩ := he
      simp only [gAdd] at g
      split at g
      · rename_i hl
        cases g
        have l1 := va.length
        have l2 := vb.length
        exact op_cat pins s σ H _ _ v u Q I rx ry ⟨a, b, vs, ws, rfl, rfl, sa, sb, by omega, fun p hp => q ρ _ _ (ok_lst rel hp (va.append vb))⟩
      · cases g
    | _ => cases g
  | _ => cases e <;> cases g
def gSub : D → D → Option Val
  | .int i, .int j => some (.u (.d (.int (i - j))))
  | _, _ => none
theorem r_sub : OpR X (binaryOp .Sub) (ROp (tx X) (opD gSub)) := by
  refine OpR.weak (r := RD (tx X) gSub) ?_ fun x y H Q => rd_of
  intro pins s σ H x y v u Q I rx ry h
  obtain ⟨ρ, st, d, e, rel, hd, he, r, g, q⟩ := h
  cases d with
  | int i =>
    cases e with
    | int j =>
      cases (show x = .int i by simpa [TV, DV] using hd); cases (show y = .int j by simpa [TV, DV] using he)
      cases g
      exact op_sub pins s σ H _ _ v u Q I rx ry ⟨i, j, rfl, rfl, q ρ H _ (ok_d rel dv_int)⟩
    | _ => cases g
  | _ => cases e <;> cases g
end G

set_option maxHeartbeats 2000000
namespace G
open PySem PySem.Spec PyProof.Rows L2
variable {X : Cx} {W : WX} {T : Tx}

/-! == of data -/
mutual
def eqD : D → D → Bool
  | .non, .non => true
  | .bl a, .bl b => a == b
  | .bl a, .int j => (if a then 1 else 0) == j
  | .int i, .bl b => i == (if b then 1 else 0)
  | .int i, .int j => i == j
  | .str x, .str y => x == y
  | .lst xs, .lst ys => eqDs xs ys
  | .tup xs, .tup ys => eqDs xs ys
  | _, _ => false
def eqDs : List D → List D → Bool
  | [], [] => true
  | x :: xs, y :: ys => eqD x y && eqDs xs ys
  | _, _ => false
end
mutual
/-- data to the depth n -/
def dok : D → Nat → Bool
  | .non, _ => true
  | .bl _, _ => true
  | .int _, _ => true
  | .str _, _ => true
  | .tup xs, n => match n with
    | 0 => false
    | m + 1 => doks xs m
  | .lst xs, n => match n with
    | 0 => false
    | m + 1 => doks xs m
  | _, _ => false
def doks : List D → Nat → Bool
  | [], _ => true
  | x :: xs, n => dok x n && doks xs n
end
mutual
def py : D → PyData
  | .bl b => .bool b
  | .int i => .int i
  | .str x => .str x
  | .tup xs => .tuple (pys xs)
  | .lst xs => .list (pys xs)
  | _ => .none
def pys : List D → List PyData
  | [] => []
  | x :: xs => py x :: pys xs
end
theorem doks_cons {x : D} {xs : List D} {n : Nat} (h : doks (x :: xs) n = true) : dok x n = true ∧ doks xs n = true := by
  simpa [doks] using h
theorem dok_tup {xs : List D} {n : Nat} (h : dok (.tup xs) n = true) : ∃ m, n = m + 1 ∧ doks xs m = true := by
  cases n with
  | zero => simp [dok] at h
  | succ m => exact ⟨m, rfl, by simpa [dok] using h⟩
theorem dok_lst {xs : List D} {n : Nat} (h : dok (.lst xs) n = true) : ∃ m, n = m + 1 ∧ doks xs m = true := by
  cases n with
  | zero => simp [dok] at h
  | succ m => exact ⟨m, rfl, by simpa [dok] using h⟩
mutual
theorem py_depth : ∀ (d : D) (n : Nat), dok d n = true → (py d).depth ≤ n
  | .non, n, h => by simp [py, PyData.depth]
  | .bl _, n, h => by simp [py, PyData.depth]
  | .int _, n, h => by simp [py, PyData.depth]
  | .str _, n, h => by simp [py, PyData.depth]
  | .tup xs, n, h => by
    obtain ⟨m, rfl, h⟩ := dok_tup h
    simp only [py, PyData.depth]
    have := pys_depth xs m h
    omega
  | .lst xs, n, h => by
    obtain ⟨m, rfl, h⟩ := dok_lst h
    simp only [py, PyData.depth]
    have := pys_depth xs m h
    omega
  | .dic _ _, n, h => by simp [dok] at h
  | .set _, n, h => by simp [dok] at h
  | .fn _, n, h => by simp [dok] at h
  | .ty _, n, h => by simp [dok] at h
  | .scr _, n, h => by simp [dok] at h
  | .exo _ _ _, n, h => by simp [dok] at h
theorem pys_depth : ∀ (ds : List D) (n : Nat), doks ds n = true → PyData.depthAll (pys ds) ≤ n
  | [], n, h => by simp [pys, PyData.depthAll]
  | d :: ds, n, h => by
    obtain ⟨h1, h2⟩ := doks_cons h
    simp only [pys, PyData.depthAll]
    have := py_depth d n h1
    have := pys_depth ds n h2
    omega
end
mutual
theorem py_plain : ∀ (d : D), (py d).plain = true
  | .non => by simp [py, PyData.plain]
  | .bl _ => by simp [py, PyData.plain]
  | .int _ => by simp [py, PyData.plain]
  | .str _ => by simp [py, PyData.plain]
  | .tup xs => by simp only [py, PyData.plain]; exact pys_plain xs
  | .lst xs => by simp only [py, PyData.plain]; exact pys_plain xs
  | .dic _ _ => by simp [py, PyData.plain]
  | .set _ => by simp [py, PyData.plain]
  | .fn _ => by simp [py, PyData.plain]
  | .ty _ => by simp [py, PyData.plain]
  | .scr _ => by simp [py, PyData.plain]
  | .exo _ _ _ => by simp [py, PyData.plain]
theorem pys_plain : ∀ (ds : List D), PyData.plainAll (pys ds) = true
  | [] => by simp [pys, PyData.plainAll]
  | d :: ds => by simp only [pys, PyData.plainAll, py_plain d, pys_plain ds, Bool.and_self]
end
mutual
theorem py_eqv : ∀ (a b : D) (n m : Nat), dok a n = true → dok b m = true → PyData.eqv (py a) (py b) = eqD a b
  | .non, b, n, m, h, k => by cases b <;> first | (simp [dok] at k; done) | simp [py, PyData.eqv, eqD]
  | .bl _, b, n, m, h, k => by cases b <;> first | (simp [dok] at k; done) | simp [py, PyData.eqv, eqD]
  | .int _, b, n, m, h, k => by cases b <;> first | (simp [dok] at k; done) | simp [py, PyData.eqv, eqD]
  | .str _, b, n, m, h, k => by cases b <;> first | (simp [dok] at k; done) | simp [py, PyData.eqv, eqD]
  | .tup xs, b, n, m, h, k => by
    obtain ⟨n', rfl, h⟩ := dok_tup h
    cases b with
    | tup ys =>
      obtain ⟨m', rfl, k⟩ := dok_tup k
      simp only [py, PyData.eqv, eqD]
      exact pys_eqv xs ys n' m' h k
    | _ => first | (simp [dok] at k; done) | simp [py, PyData.eqv, eqD]
  | .lst xs, b, n, m, h, k => by
    obtain ⟨n', rfl, h⟩ := dok_lst h
    cases b with
    | lst ys =>
      obtain ⟨m', rfl, k⟩ := dok_lst k
      simp only [py, PyData.eqv, eqD]
      exact pys_eqv xs ys n' m' h k
    | _ => first | (simp [dok] at k; done) | simp [py, PyData.eqv, eqD]
  | .dic _ _, b, n, m, h, k => by simp [dok] at h
  | .set _, b, n, m, h, k => by simp [dok] at h
  | .fn _, b, n, m, h, k => by simp [dok] at h
  | .ty _, b, n, m, h, k => by simp [dok] at h
  | .scr _, b, n, m, h, k => by simp [dok] at h
  | .exo _ _ _, b, n, m, h, k => by simp [dok] at h
theorem pys_eqv : ∀ (a b : List D) (n m : Nat), doks a n = true → doks b m = true → PyData.eqvAll (pys a) (pys b) = eqDs a b
  | [], [], n, m, h, k => by simp [pys, PyData.eqvAll, eqDs]
  | [], y :: ys, n, m, h, k => by simp [pys, PyData.eqvAll, eqDs]
  | x :: xs, [], n, m, h, k => by simp [pys, PyData.eqvAll, eqDs]
  | x :: xs, y :: ys, n, m, h, k => by
    obtain ⟨h1, h2⟩ := doks_cons h
    obtain ⟨k1, k2⟩ := doks_cons k
    simp only [pys, PyData.eqvAll, eqDs, py_eqv x y n m h1 k1, pys_eqv xs ys n m h2 k2]
end
mutual
theorem dp_of {H S : Hp} (e : Same S H) : ∀ (d : D) (v : V) (n : Nat), dok d n = true → DV T S d v → Dp T.K H v (py d)
  | .non, v, n, h, q => by
    have : v = .non := by simpa [DV] using q
    subst this; simp only [py]; exact .non
  | .bl b, v, n, h, q => by
    have : v = .bl b := by simpa [DV] using q
    subst this; simp only [py]; exact .bl b
  | .int b, v, n, h, q => by
    have : v = .int b := by simpa [DV] using q
    subst this; simp only [py]; exact .int b
  | .str b, v, n, h, q => by
    have : v = .str b := by simpa [DV] using q
    subst this; simp only [py]; exact .str b
  | .tup xs, v, n, h, q => by
    obtain ⟨m, rfl, h⟩ := dok_tup h
    simp only [DV] at q
    obtain ⟨a, vs, rfl, h1, h2⟩ := q
    simp only [py]
    exact .tup (SqT.same e h1) (dps_of e xs vs m h h2)
  | .lst xs, v, n, h, q => by
    obtain ⟨m, rfl, h⟩ := dok_lst h
    simp only [DV] at q
    obtain ⟨a, vs, rfl, h1, h2⟩ := q
    simp only [py]
    exact .lst (.inl (.inl (e _ _ h1))) (dps_of e xs vs m h h2)
  | .dic _ _, v, n, h, q => by simp [dok] at h
  | .set _, v, n, h, q => by simp [dok] at h
  | .fn _, v, n, h, q => by simp [dok] at h
  | .ty _, v, n, h, q => by simp [dok] at h
  | .scr _, v, n, h, q => by simp [dok] at h
  | .exo _ _ _, v, n, h, q => by simp [dok] at h
theorem dps_of {H S : Hp} (e : Same S H) : ∀ (ds : List D) (vs : List V) (n : Nat), doks ds n = true → DVs T S ds vs → DpAll T.K H vs (pys ds)
  | [], vs, n, h, q => by
    have : vs = [] := by simpa [DVs] using q
    subst this; simp only [pys]; exact .nil
  | d :: ds, vs, n, h, q => by
    obtain ⟨h1, h2⟩ := doks_cons h
    simp only [DVs] at q
    obtain ⟨v, r, rfl, q1, q2⟩ := q
    simp only [pys]
    exact .cons (dp_of e d v n h1 q1) (dps_of e ds r n h2 q2)
end
theorem tv_dp {ρ : Wd} {H : Hp} {d : D} {v : V} {n : Nat} (h : dok d n = true) (q : TV T ρ H d v) : Dp T.K H v (py d) := by
  cases d with
  | lst xs =>
    obtain ⟨m, rfl, h⟩ := dok_lst h
    obtain ⟨a, vs, rfl, h1, h2⟩ := q
    simp only [py]
    exact .lst (.inl (.inl h1)) (dps_of hide_le xs vs m h h2)
  | tup xs =>
    obtain ⟨m, rfl, h⟩ := dok_tup h
    obtain ⟨a, vs, rfl, h1, h2, _⟩ := q
    simp only [py]
    exact .tup h1 (dps_of hide_le xs vs m h h2)
  | _ => exact dp_of (hide_le (ρ := ρ)) _ v n h q
/-- how deep data may lie -/
abbrev DEEP : Nat := 40
def gEq (b : Bool) (d e : D) : Option Val := if dok d DEEP && dok e DEEP then some (.u (.d (.bl (if b then eqD d e else !eqD d e)))) else none
theorem r_eq {k : Nat} (hr : Room k X.A) : OpR X (compareOp .Eq) (ROp (tx X) (opD (gEq true))) := by
  refine OpR.weak (r := RD (tx X) (gEq true)) ?_ fun x y H Q => rd_of
  intro pins s σ H x y v u Q I rx ry h
  obtain ⟨ρ, st, d, e, rel, hd, he, r, g, q⟩ := h
  simp only [gEq] at g
  split at g
  · rename_i hk
    rw [Bool.and_eq_true] at hk
    cases g
    obtain ⟨as, r1⟩ := Dp.reads I _ x v (tv_dp hk.1 hd) rx
    obtain ⟨bs, r2⟩ := Dp.reads I _ y u (tv_dp hk.2 he) ry
    have d1 := py_depth d _ hk.1
    have hu := hr.units
    refine SeqAt.eq_plain r1 r2 (py_plain d) (py_plain e) ?_ ⟨.bl _, H, I, rfl, ?_⟩
    · have : min (py d).depth (py e).depth ≤ (py d).depth := Nat.min_le_left _ _
      have : DEEP = 40 := rfl
      omega
    · rw [py_eqv d e _ _ hk.1 hk.2]
      exact q ρ H _ (ok_d rel dv_bl)
  · cases g
theorem r_ne {k : Nat} (hr : Room k X.A) : OpR X (compareOp .NotEq) (ROp (tx X) (opD (gEq false))) := by
  refine OpR.weak (r := RD (tx X) (gEq false)) ?_ fun x y H Q => rd_of
  intro pins s σ H x y v u Q I rx ry h
  obtain ⟨ρ, st, d, e, rel, hd, he, r, g, q⟩ := h
  simp only [gEq] at g
  split at g
  · rename_i hk
    rw [Bool.and_eq_true] at hk
    cases g
    obtain ⟨as, r1⟩ := Dp.reads I _ x v (tv_dp hk.1 hd) rx
    obtain ⟨bs, r2⟩ := Dp.reads I _ y u (tv_dp hk.2 he) ry
    have d1 := py_depth d _ hk.1
    have hu := hr.units
    refine SeqAt.ne_plain r1 r2 (py_plain d) (py_plain e) ?_ ⟨.bl _, H, I, rfl, ?_⟩
    · have : min (py d).depth (py e).depth ≤ (py d).depth := Nat.min_le_left _ _
      have : DEEP = 40 := rfl
      omega
    · rw [py_eqv d e _ _ hk.1 hk.2]
      exact q ρ H _ (ok_d rel dv_bl)
  · cases g
/-- in, not in: of a list, of a tuple -/
def gIn (b : Bool) : D → D → Option Val
  | x, .lst ys => if dok x DEEP && doks ys DEEP then some (.u (.d (.bl (if b then ys.any fun y => eqD y x else !ys.any fun y => eqD y x)))) else none
  | x, .tup ys => if dok x DEEP && doks ys DEEP then some (.u (.d (.bl (if b then ys.any fun y => eqD y x else !ys.any fun y => eqD y x)))) else none
  | .str x, .str y => some (.u (.d (.bl (if b then !(Builtin.Str.occurrences y x 0 y.length 1).isEmpty else !(!(Builtin.Str.occurrences y x 0 y.length 1).isEmpty)))))
  | _, _ => none
theorem any_eqv {x : D} {n m : Nat} (hx : dok x n = true) : ∀ (ys : List D), doks ys m = true → ((pys ys).any fun y => PyData.eqv y (py x)) = ys.any fun y => eqD y x
  | [], _ => by simp [pys]
  | y :: ys, h => by
    obtain ⟨h1, h2⟩ := doks_cons h
    simp only [pys, List.any_cons, py_eqv y x _ _ h1 hx, any_eqv hx ys h2]
theorem r_in {k : Nat} (hr : Room k X.A) : OpR X (compareOp .In) (ROp (tx X) (opD (gIn true))) := by
  refine OpR.weak (r := RD (tx X) (gIn true)) ?_ fun x y H Q => rd_of
  intro pins s σ H x y v u Q I rx ry h
  obtain ⟨ρ, st, d, e, rel, hd, he, r, g, q⟩ := h
  have hu := hr.units
  have hD : DEEP = 40 := rfl
  cases e with
  | lst ys =>
    simp only [gIn] at g
    split at g
    · rename_i hk
      rw [Bool.and_eq_true] at hk
      cases g
      have hk2 : dok (.lst ys) (DEEP + 1) = true := by simpa [dok] using hk.2
      obtain ⟨as, r1⟩ := Dp.reads I _ x v (tv_dp hk.1 hd) rx
      obtain ⟨bs, r2⟩ := Dp.reads I _ y u (tv_dp hk2 he) ry
      have d1 := py_depth d _ hk.1
      have d2 := pys_depth ys _ hk.2
      simp only [py] at r2
      refine SeqAt.in_list_data r2 r1 (pys_plain ys) (py_plain d) ?_ ⟨.bl _, H, I, rfl, ?_⟩
      · have := Nat.min_le_right (PyData.depthAll (pys ys)) (py d).depth
        omega
      · rw [any_eqv hk.1 ys hk.2]
        exact q ρ H _ (ok_d rel dv_bl)
    · cases g
  | tup ys =>
    simp only [gIn] at g
    split at g
    · rename_i hk
      rw [Bool.and_eq_true] at hk
      cases g
      have hk2 : dok (.tup ys) (DEEP + 1) = true := by simpa [dok] using hk.2
      obtain ⟨as, r1⟩ := Dp.reads I _ x v (tv_dp hk.1 hd) rx
      obtain ⟨bs, r2⟩ := Dp.reads I _ y u (tv_dp hk2 he) ry
      have d1 := py_depth d _ hk.1
      have d2 := pys_depth ys _ hk.2
      simp only [py] at r2
      refine SeqAt.in_tuple_data r2 r1 (pys_plain ys) (py_plain d) ?_ ⟨.bl _, H, I, rfl, ?_⟩
      · have := Nat.min_le_right (PyData.depthAll (pys ys)) (py d).depth
        omega
      · rw [any_eqv hk.1 ys hk.2]
        exact q ρ H _ (ok_d rel dv_bl)
    · cases g
  | str yy =>
    cases d with
    | str xx =>
      cases (show x = .str xx by simpa [TV, DV] using hd); cases (show y = .str yy by simpa [TV, DV] using he)
      cases g
      exact op_in_str pins s σ H _ _ v u Q I rx ry ⟨xx, yy, rfl, rfl, q ρ H _ (ok_d rel dv_bl)⟩
    | _ => cases g
  | _ => cases d <;> cases g
theorem r_notin {k : Nat} (hr : Room k X.A) : OpR X (compareOp .NotIn) (ROp (tx X) (opD (gIn false))) := by
  refine OpR.weak (r := RD (tx X) (gIn false)) ?_ fun x y H Q => rd_of
  intro pins s σ H x y v u Q I rx ry h
  obtain ⟨ρ, st, d, e, rel, hd, he, r, g, q⟩ := h
  have hu := hr.units
  have hD : DEEP = 40 := rfl
  cases e with
  | lst ys =>
    simp only [gIn] at g
    split at g
    · rename_i hk
      rw [Bool.and_eq_true] at hk
      cases g
      have hk2 : dok (.lst ys) (DEEP + 1) = true := by simpa [dok] using hk.2
      obtain ⟨as, r1⟩ := Dp.reads I _ x v (tv_dp hk.1 hd) rx
      obtain ⟨bs, r2⟩ := Dp.reads I _ y u (tv_dp hk2 he) ry
      have d1 := py_depth d _ hk.1
      have d2 := pys_depth ys _ hk.2
      simp only [py] at r2
      refine SeqAt.notIn_list_data r2 r1 (pys_plain ys) (py_plain d) ?_ ⟨.bl _, H, I, rfl, ?_⟩
      · have := Nat.min_le_right (PyData.depthAll (pys ys)) (py d).depth
        omega
      · rw [any_eqv hk.1 ys hk.2]
        exact q ρ H _ (ok_d rel dv_bl)
    · cases g
  | tup ys =>
    simp only [gIn] at g
    split at g
    · rename_i hk
      rw [Bool.and_eq_true] at hk
      cases g
      have hk2 : dok (.tup ys) (DEEP + 1) = true := by simpa [dok] using hk.2
      obtain ⟨as, r1⟩ := Dp.reads I _ x v (tv_dp hk.1 hd) rx
      obtain ⟨bs, r2⟩ := Dp.reads I _ y u (tv_dp hk2 he) ry
      have d1 := py_depth d _ hk.1
      have d2 := pys_depth ys _ hk.2
      simp only [py] at r2
      refine SeqAt.notIn_tuple_data r2 r1 (pys_plain ys) (py_plain d) ?_ ⟨.bl _, H, I, rfl, ?_⟩
      · have := Nat.min_le_right (PyData.depthAll (pys ys)) (py d).depth
        omega
      · rw [any_eqv hk.1 ys hk.2]
        exact q ρ H _ (ok_d rel dv_bl)
    · cases g
  | str yy =>
    cases d with
    | str xx =>
      cases (show x = .str xx by simpa [TV, DV] using hd); cases (show y = .str yy by simpa [TV, DV] using he)
      cases g
      exact op_notin_str pins s σ H _ _ v u Q I rx ry ⟨xx, yy, rfl, rfl, q ρ H _ (ok_d rel dv_bl)⟩
    | _ => cases g
  | _ => cases d <;> cases g
end G

set_option maxHeartbeats 2000000
namespace G
open PySem PySem.Spec PyProof.Rows L2
variable {X : Cx} {W : WX} {T : Tx}

/-! ints -/
def gI (c : Int → Int → Bool) (h : Int → Int → D) : D → D → Option Val
  | .int i, .int j => if c i j then some (.u (.d (h i j))) else none
  | _, _ => none
theorem r_int {f : Value → Value → Sem Value} {C : Int → Int → Prop} {k : Int → Int → V} {c : Int → Int → Bool} {h : Int → Int → D} (hop : OpR X f (rI C k)) (hc : ∀ i j, c i j = true → C i j) (hd : ∀ S i j, DV (tx X) S (h i j) (k i j)) : OpR X f (ROp (tx X) (opD (gI c h))) := by
  refine OpR.weak hop fun x y H Q q => ?_
  obtain ⟨ρ, st, d, e, rel, hd1, he, r, g, q⟩ := rd_of q
  cases d with
  | int i =>
    cases e with
    | int j =>
      cases (show x = .int i by simpa [TV, DV] using hd1); cases (show y = .int j by simpa [TV, DV] using he)
      simp only [gI] at g
      split at g
      · rename_i hcc
        cases g
        exact ⟨i, j, rfl, rfl, hc i j hcc, q ρ H _ (ok_d rel (hd _ i j))⟩
      · cases g
    | _ => cases g
  | _ => cases e <;> cases g
abbrev B30 : Nat := 1073741824
abbrev B64 : Nat := 18446744073709551616
def gFdiv := gI (fun _ j => decide (0 < j) && decide (j < B30)) fun i j => .int (i / j)
theorem r_fdiv : OpR X (binaryOp .FloorDiv) (ROp (tx X) (opD gFdiv)) := r_int op_fdiv (fun i j h => by
  simp only [Bool.and_eq_true, decide_eq_true_eq] at h
  exact ⟨h.1, by have := h.2; omega⟩) fun _ _ _ => dv_int
def gMod := gI (fun _ j => decide (0 < j)) fun i j => .int (i % j)
theorem r_mod : OpR X (binaryOp .Mod) (ROp (tx X) (opD gMod)) := r_int op_mod (fun i j h => by simpa using h) fun _ _ _ => dv_int
def gPow := gI (fun i j => decide (0 ≤ j) && decide (j ≤ 1000000) && decide (i.natAbs < B64)) fun i j => .int (i ^ j.toNat)
theorem r_pow : OpR X (binaryOp .Pow) (ROp (tx X) (opD gPow)) := r_int op_pow (fun i j h => by
  simp only [Bool.and_eq_true, decide_eq_true_eq] at h
  exact ⟨h.1.1, h.1.2, by have := h.2; simpa using this⟩) fun _ _ _ => dv_int
def gMul : D → D → Option Val
  | .int i, .int j => if i.natAbs < B64 || j.natAbs < B64 then some (.u (.d (.int (i * j)))) else none
  | .lst xs, .int k => if -(LIM : Int) ≤ k ∧ k ≤ LIM ∧ xs.length * k.toNat ≤ LIM then some (.box (.lst (List.replicate k.toNat xs).flatten)) else none
  | .tup xs, .int k => if xs ≠ [] ∧ 2 ≤ k ∧ k ≤ 1000 ∧ xs.length ≤ 1000 then some (.u (.d (.tup (List.replicate k.toNat xs).flatten))) else none
  | _, _ => none
theorem DVs.rep {S : Hp} {ds : List D} {vs : List V} (h : DVs T S ds vs) : ∀ n, DVs T S (List.replicate n ds).flatten (List.replicate n vs).flatten
  | 0 => by simp [DVs.nil]
  | n + 1 => by rw [List.replicate_succ, List.replicate_succ, List.flatten_cons, List.flatten_cons]; exact h.append (h.rep n)
def gLt : D → D → Option Val
  | .int i, .int j => some (.u (.d (.bl (decide (i < j)))))
  | _, _ => none
theorem r_ii {f : Value → Value → Sem Value} {k : Int → Int → V} {h : Int → Int → D} (hop : OpR X f (rI0 k)) (hd : ∀ S i j, DV (tx X) S (h i j) (k i j)) : OpR X f (ROp (tx X) (opD (gI (fun _ _ => true) h))) :=
  r_int (C := fun _ _ => True) (OpR.weak hop fun x y H Q ⟨i, j, a, b, _, q⟩ => ⟨i, j, a, b, q⟩) (fun _ _ _ => trivial) hd
/-! unary -/
def fUn (g : D → Option Val) (fa : FE) : FE := fun env st => (uE fa env st).bind fun x st => lift ((x.frz st).bind g) st
def RU (T : Tx) (g : D → Option Val) : V → Hp → VK → Prop := fun x H Q => ∃ ρ st d, Rel T ρ st H ∧ TV T ρ H d x ∧ ∃ r, g d = some r ∧ ∀ ρ' H' v, OkVal T ρ H r st ρ' H' v → Q v H'
theorem one {g : D → Option Val} {fa : FE} : ∀ σ H Q, TG T W (fUn g fa) σ H Q → tUn (RU T g) (TGU T W (uE fa)) σ H Q := fun σ H Q ⟨ρ, env, st, rel, eo, q⟩ => by
  refine ⟨ρ, env, st, rel, eo, (PR.bind q).mono fun x st1 q ρ1 H1 v1 ok1 => ?_⟩
  cases e : x.frz st1 with
  | none => rw [e] at q; exact q.elim
  | some d =>
    rw [e] at q
    cases e2 : g d with
    | none => rw [Option.bind_some, e2] at q; exact q.elim
    | some r =>
      rw [Option.bind_some, e2] at q
      exact ⟨ρ1, st1, d, ok1.2.1, view ok1.2.1 ok1.2.2 e, r, e2, fun ρ' H' v ok => q ρ' H' v (OkVal.ext ok1.1 ok)⟩
theorem UnR.weak {f : Value → Sem Value} {r r' : V → Hp → VK → Prop} (h : UnR X f r) (w : ∀ x H Q, r' x H Q → r x H Q) : UnR X f r' := fun pins s σ H x v Q I rx q => h pins s σ H x v Q I rx (w x H Q q)
theorem se_un {o : UnaryOp} {g : D → Option Val} {a : Expr} {fa : FE} {pos : Pos} (ho : UnR X (unaryOp o) (RU (tx X) g)) (ha : SE X W a fa) : SE X W (.UnaryOp o a pos) (fUn g fa) :=
  PE.weak (pe_un ho ha.u) one
def gNeg : D → Option Val
  | .int i => some (.u (.d (.int (-i))))
  | _ => none
theorem r_neg : UnR X (unaryOp .USub) (RU (tx X) gNeg) := UnR.weak un_neg fun x H Q ⟨ρ, st, d, rel, hd, r, g, q⟩ => by
  cases d with
  | int i =>
    cases (show x = .int i by simpa [TV, DV] using hd)
    cases g
    exact ⟨i, rfl, q ρ H _ (ok_d rel dv_int)⟩
  | _ => cases g
/-! tests -/
def tTru (g : D → Option Bool) (fa : FE) : FT := fun env st => (uE fa env st).bind fun x st => lift ((x.frz st).bind g) st
/-- a value that is a bool, an int, a text, a list or a tuple, as a test -/
def gTru : D → Option Bool
  | .bl b => some b
  | .non => some false
  | .int i => some (i != 0)
  | .tup xs => some (!xs.isEmpty)
  | .lst xs => some (!xs.isEmpty)
  | _ => none
theorem st_tru {e : Expr} {f : FE} (h : SE X W e f) (he : ∀ whole, isTrue e X.env whole = (do let v ← whole; standAt e.pos; holding [v] (truthy v)) := by intro _; rfl) : ST X W e (tTru gTru f) := by
  refine PT.weak (pt_truth h.u he) fun σ H Q ⟨ρ, env, st, rel, eo, q⟩ => ?_
  refine ⟨ρ, env, st, rel, eo, (PR.bind q).mono fun x st1 q ρ1 H1 v1 ok1 => ?_⟩
  cases e : x.frz st1 with
  | none => rw [e] at q; exact q.elim
  | some d =>
    rw [e] at q
    cases e2 : gTru d with
    | none => rw [Option.bind_some, e2] at q; exact q.elim
    | some b =>
      rw [Option.bind_some, e2] at q
      refine ⟨b, ?_, q ρ1 H1 ok1.1 ok1.2.1⟩
      have hv := view ok1.2.1 ok1.2.2 e
      cases d with
      | bl c =>
        cases (show v1 = .bl c by simpa [TV, DV] using hv); cases e2
        exact rfl
      | non =>
        cases (show v1 = .non by simpa [TV, DV] using hv); cases e2
        exact rfl
      | int c =>
        cases (show v1 = .int c by simpa [TV, DV] using hv); cases e2
        exact rfl
      | tup xs =>
        obtain ⟨a, vs, rfl, h1, h2, _⟩ := hv
        cases e2
        refine .inr (.inl ⟨vs, h1, ?_⟩)
        cases xs with
        | nil => rw [h2.nil_iff.mp rfl] <;> rfl
        | cons x r => cases vs with
          | nil => exact absurd (h2.nil_iff.mpr rfl) (by simp)
          | cons _ _ => rfl
      | lst xs =>
        obtain ⟨a, vs, rfl, h1, h2⟩ := hv
        cases e2
        refine .inl ⟨vs, .inl (.inl h1), ?_⟩
        cases xs with
        | nil => rw [h2.nil_iff.mp rfl] <;> rfl
        | cons x r => cases vs with
          | nil => exact absurd (h2.nil_iff.mpr rfl) (by simp)
          | cons _ _ => rfl
      | _ => cases e2
/-- a comparison as a test -/
def tCmp (op : Store → U → U → Option Val) (fa fb : FE) : FT := fun env st => (fBin op fa fb env st).bind fun x st => match x with
  | .u (.d (.bl b)) => .ok b st
  | _ => .stuck
theorem st_cmp {o : CmpOp} {op : Store → U → U → Option Val} {a b : Expr} {fa fb : FE} {pos : Pos} (ho : OpR X (compareOp o) (ROp (tx X) op)) (ha : SE X W a fa) (hb : SE X W b fb) (hm : behindInMarks o b = false) : ST X W (.Compare a [o] [b] pos) (tCmp op fa fb) := by
  refine PT.weak (pt_cmpR ho ha.u hb.u hm) fun σ H Q ⟨ρ, env, st, rel, eo, q⟩ => ?_
  refine two (W := W) σ H _ ⟨ρ, env, st, rel, eo, (PR.bind q).mono fun x st1 q ρ1 H1 v1 ok1 => ?_⟩
  cases x with
  | box c => exact (show False from q).elim
  | u y =>
    cases y with
    | ref n => exact (show False from q).elim
    | d z =>
      cases z with
      | bl b =>
        have hv : v1 = .bl b := by simpa [UV, DV] using ok1.2.2
        exact ⟨b, hv, q ρ1 H1 ok1.1 ok1.2.1⟩
      | _ => exact (show False from q).elim
def tNot (t : FT) : FT := fun env st => (t env st).bind fun b st => .ok (!b) st
def tAnd (t u : FT) : FT := fun env st => (t env st).bind fun b st => if b = true then u env st else .ok false st
def tOr (t u : FT) : FT := fun env st => (t env st).bind fun b st => if b = true then .ok true st else u env st
theorem st_not {a : Expr} {t : FT} {pos : Pos} (ha : ST X W a t) : ST X W (.UnaryOp .Not a pos) (tNot t) := by
  refine PT.weak (pt_not ha) fun σ H Q ⟨ρ, env, st, rel, eo, q⟩ => ?_
  exact ⟨ρ, env, st, rel, eo, PR.bind q⟩
abbrev SW (X : Cx) (W : WX) (e : Expr) (f : FT) : Prop := PW X e (TGT (tx X) W f)
theorem PW.weak {e : Expr} {t t' : TT} (h : PW X e t) (w : ∀ σ H Q, t' σ H Q → t σ H Q) : PW X e t' := ⟨fun wh pins s σ H Q I q => h.run wh pins s σ H Q I (w σ H Q q)⟩
theorem sw_and1 {a : Expr} {t : FT} {pos : Pos} (ha : ST X W a t) : SW X W (.BoolOp .And [a] pos) t := pw_and1 ha
theorem sw_or1 {a : Expr} {t : FT} {pos : Pos} (ha : ST X W a t) : SW X W (.BoolOp .Or [a] pos) t := pw_or1 ha
theorem sw_and {a b : Expr} {r : List Expr} {t u : FT} {pos : Pos} (ha : ST X W a t) (hb : SW X W (.BoolOp .And (b :: r) pos) u) : SW X W (.BoolOp .And (a :: b :: r) pos) (tAnd t u) := by
  refine PW.weak (pw_and ha hb) fun σ H Q ⟨ρ, env, st, rel, eo, q⟩ => ⟨ρ, env, st, rel, eo, (PR.bind q).mono fun b st1 q ρ1 H1 e1 r1 => ?_⟩
  cases b with
  | true => exact ⟨ρ1, env, st1, r1, eo.mono e1, PR.ext e1 q fun b st2 q ρ2 H2 e2 r2 => q ρ2 H2 (e1.trans e2) r2⟩
  | false => exact q ρ1 H1 e1 r1
theorem sw_or {a b : Expr} {r : List Expr} {t u : FT} {pos : Pos} (ha : ST X W a t) (hb : SW X W (.BoolOp .Or (b :: r) pos) u) : SW X W (.BoolOp .Or (a :: b :: r) pos) (tOr t u) := by
  refine PW.weak (pw_or ha hb) fun σ H Q ⟨ρ, env, st, rel, eo, q⟩ => ⟨ρ, env, st, rel, eo, (PR.bind q).mono fun b st1 q ρ1 H1 e1 r1 => ?_⟩
  cases b with
  | false => exact ⟨ρ1, env, st1, r1, eo.mono e1, PR.ext e1 q fun b st2 q ρ2 H2 e2 r2 => q ρ2 H2 (e1.trans e2) r2⟩
  | true => exact q ρ1 H1 e1 r1
theorem st_w {e : Expr} {t : FT} (h : SW X W e t) : ST X W e t := PW.pt h
/-- a conditional value -/
def fIf (t : FT) (fa fb : FE) : FE := fun env st => (t env st).bind fun b st => if b = true then fa env st else fb env st
theorem se_if {c a b : Expr} {t : FT} {fa fb : FE} {pos : Pos} (hc : ST X W c t) (ha : SE X W a fa) (hb : SE X W b fb) : SE X W (.IfExp c a b pos) (fIf t fa fb) := by
  refine PE.weak (pe_ifExp hc ha hb) fun σ H Q ⟨ρ, env, st, rel, eo, q⟩ => ⟨ρ, env, st, rel, eo, (PR.bind q).mono fun b st1 q ρ1 H1 e1 r1 => ?_⟩
  cases b with
  | true => exact ⟨ρ1, env, st1, r1, eo.mono e1, PR.ext e1 q fun x st2 q ρ2 H2 v ok => q ρ2 H2 v (OkVal.ext e1 ok)⟩
  | false => exact ⟨ρ1, env, st1, r1, eo.mono e1, PR.ext e1 q fun x st2 q ρ2 H2 v ok => q ρ2 H2 v (OkVal.ext e1 ok)⟩
/-- and, or, not as values (of bools) -/
def asB (x : Val) : Option Bool := match x with
  | .u (.d (.bl b)) => some b
  | _ => none
def fAnd (fa fb : FE) : FE := fun env st => (fa env st).bind fun x st => match asB x with
  | some true => fb env st
  | some false => .ok (.u (.d (.bl false))) st
  | none => .stuck
def fOr (fa fb : FE) : FE := fun env st => (fa env st).bind fun x st => match asB x with
  | some false => fb env st
  | some true => .ok (.u (.d (.bl true))) st
  | none => .stuck
theorem okB {ρ ρ' : Wd} {H H' : Hp} {x : Val} {b : Bool} {st' : Store} {v : V} (h : OkVal T ρ H x st' ρ' H' v) (e : asB x = some b) : v = .bl b ∧ Ext ρ H ρ' H' ∧ Rel T ρ' st' H' := by
  unfold asB at e
  split at e
  · cases e
    exact ⟨by simpa [UV, DV] using h.2.2, h.1, h.2.1⟩
  · cases e
theorem se_one {o : BoolOp} {a : Expr} {fa : FE} {pos : Pos} (ha : SE X W a fa) : SE X W (.BoolOp o [a] pos) fa := pe_one ha
theorem se_and {a b : Expr} {r : List Expr} {fa fb : FE} {pos : Pos} (ha : SE X W a fa) (hb : SE X W (.BoolOp .And (b :: r) pos) fb) : SE X W (.BoolOp .And (a :: b :: r) pos) (fAnd fa fb) := by
  refine PE.weak (pe_and ha hb) fun σ H Q ⟨ρ, env, st, rel, eo, q⟩ => ⟨ρ, env, st, rel, eo, (PR.bind q).mono fun x st1 q ρ1 H1 v ok => ?_⟩
  cases e : asB x with
  | none => rw [e] at q; exact q.elim
  | some b =>
    rw [e] at q
    obtain ⟨rfl, e1, r1⟩ := okB ok e
    cases b with
    | true => exact ⟨true, rfl, ⟨ρ1, env, st1, r1, eo.mono e1, PR.ext e1 q fun x st2 q ρ2 H2 v ok => q ρ2 H2 v (OkVal.ext e1 ok)⟩⟩
    | false => exact ⟨false, rfl, q ρ1 H1 _ (OkVal.ext e1 (ok_d r1 dv_bl))⟩
theorem se_or {a b : Expr} {r : List Expr} {fa fb : FE} {pos : Pos} (ha : SE X W a fa) (hb : SE X W (.BoolOp .Or (b :: r) pos) fb) : SE X W (.BoolOp .Or (a :: b :: r) pos) (fOr fa fb) := by
  refine PE.weak (pe_or ha hb) fun σ H Q ⟨ρ, env, st, rel, eo, q⟩ => ⟨ρ, env, st, rel, eo, (PR.bind q).mono fun x st1 q ρ1 H1 v ok => ?_⟩
  cases e : asB x with
  | none => rw [e] at q; exact q.elim
  | some b =>
    rw [e] at q
    obtain ⟨rfl, e1, r1⟩ := okB ok e
    cases b with
    | false => exact ⟨false, rfl, ⟨ρ1, env, st1, r1, eo.mono e1, PR.ext e1 q fun x st2 q ρ2 H2 v ok => q ρ2 H2 v (OkVal.ext e1 ok)⟩⟩
    | true => exact ⟨true, rfl, q ρ1 H1 _ (OkVal.ext e1 (ok_d r1 dv_bl))⟩
def fNot (fa : FE) : FE := fun env st => (fa env st).bind fun x st => match asB x with
  | some b => .ok (.u (.d (.bl (!b)))) st
  | none => .stuck
theorem se_not {a : Expr} {fa : FE} {pos : Pos} (ha : SE X W a fa) : SE X W (.UnaryOp .Not a pos) (fNot fa) := by
  refine PE.weak (pe_not ha) fun σ H Q ⟨ρ, env, st, rel, eo, q⟩ => ⟨ρ, env, st, rel, eo, (PR.bind q).mono fun x st1 q ρ1 H1 v ok => ?_⟩
  cases e : asB x with
  | none => rw [e] at q; exact q.elim
  | some b =>
    rw [e] at q
    obtain ⟨rfl, e1, r1⟩ := okB ok e
    exact ⟨b, rfl, q ρ1 H1 _ (OkVal.ext e1 (ok_d r1 dv_bl))⟩
/-! is None -/
def gIs (b : Bool) : D → D → Option Val
  | x, .non => match x with
    | .non => some (.u (.d (.bl b)))
    | _ => some (.u (.d (.bl (!b))))
  | _, _ => none
def isNon : D → Bool
  | .non => true
  | _ => false
theorem tv_non {ρ : Wd} {H : Hp} {d : D} {v : V} (h : TV T ρ H d v) : decide (v = .non) = isNon d := by
  cases d with
  | non => cases (show v = .non by simpa [TV, DV] using h); rfl
  | bl b => cases (show v = .bl b by simpa [TV, DV] using h); rfl
  | int b => cases (show v = .int b by simpa [TV, DV] using h); rfl
  | str b => cases (show v = .str b by simpa [TV, DV] using h); rfl
  | ty b => cases (show v = .ty (tyStr b) by simpa [TV, DV] using h); rfl
  | scr xs =>
    have h' : DV T (hide H ρ) (.scr xs) v := h
    simp only [DV] at h'
    obtain ⟨a, vs, rfl, _⟩ := h'; rfl
  | tup xs => obtain ⟨a, vs, rfl, _⟩ := h; rfl
  | lst xs => obtain ⟨a, vs, rfl, _⟩ := h; rfl
  | fn x =>
    have h' : DV T (hide H ρ) (.fn x) v := h
    simp only [DV] at h'
    obtain ⟨a, rfl, _⟩ := h'; rfl
  | exo c f xs =>
    have h' : DV T (hide H ρ) (.exo c f xs) v := h
    simp only [DV] at h'
    obtain ⟨a, C, rfl, _⟩ := h'; rfl
  | dic ks ws => have h' : DV T (hide H ρ) (.dic ks ws) v := h; simp [DV] at h'
  | set ks => have h' : DV T (hide H ρ) (.set ks) v := h; simp [DV] at h'
def gIsN : D → D → Option Val
  | x, .non => some (.u (.d (.bl (isNon x))))
  | _, _ => none
def gNotN : D → D → Option Val
  | x, .non => some (.u (.d (.bl (!isNon x))))
  | _, _ => none
theorem r_isN : OpR X (compareOp .Is) (ROp (tx X) (opD gIsN)) := by
  refine OpR.weak op_isN fun x y H Q q => ?_
  obtain ⟨ρ, st, d, e, rel, hd1, he, r, g, q⟩ := rd_of q
  cases e with
  | non =>
    cases (show y = .non by simpa [TV, DV] using he)
    cases g
    refine ⟨rfl, ?_⟩
    rw [tv_non hd1]
    exact q ρ H _ (ok_d rel dv_bl)
  | _ => cases g
theorem r_notN : OpR X (compareOp .IsNot) (ROp (tx X) (opD gNotN)) := by
  refine OpR.weak op_notN fun x y H Q q => ?_
  obtain ⟨ρ, st, d, e, rel, hd1, he, r, g, q⟩ := rd_of q
  cases e with
  | non =>
    cases (show y = .non by simpa [TV, DV] using he)
    cases g
    refine ⟨rfl, ?_⟩
    rw [tv_non hd1]
    exact q ρ H _ (ok_d rel dv_bl)
  | _ => cases g
end G

set_option maxHeartbeats 2000000
namespace G
open PySem PySem.Spec PyProof.Rows L2
variable {X : Cx} {W : WX} {T : Tx}

/-! arguments -/
def aNil : FA := fun _ st => .ok [] st
def aCons (fa : FE) (r : FA) : FA := fun env st => (uE fa env st).bind fun x st => (r env st).bind fun xs st => .ok (x :: xs) st
theorem sa_nil : SA X W [] aNil := PA.weak pa_nil fun σ H Q ⟨ρ, env, st, rel, eo, q⟩ => q ρ H [] ⟨Ext.refl _ _, rel, .nil⟩
theorem uvs_mono {ρ ρ' : Wd} {H H' : Hp} (e : Ext ρ H ρ' H') : ∀ {us : List U} {vs : List V}, Paired (UV T (hide H ρ) ρ) us vs → Paired (UV T (hide H' ρ') ρ') us vs
  | _, _, .nil => .nil
  | _, _, .cons h t => .cons (h.mono e) (uvs_mono e t)
theorem sa_cons {e : Expr} {es : List Expr} {fa : FE} {r : FA} (ha : SE X W e fa) (hr : SA X W es r) (hs : starEach (e :: es) X.env = (false, eval e X.env) :: starEach es X.env := by rfl) : SA X W (e :: es) (aCons fa r) := by
  refine PA.weak (pa_cons ha.u hr hs) fun σ H Q ⟨ρ, env, st, rel, eo, q⟩ => ⟨ρ, env, st, rel, eo, (PR.bind q).mono fun x st1 q ρ1 H1 v ok1 => ?_⟩
  refine ⟨ρ1, env, st1, ok1.2.1, eo.mono ok1.1, PR.ext ok1.1 (PR.bind q) fun xs st2 q ρ2 H2 vs ok2 => ?_⟩
  exact q ρ2 H2 (v :: vs) ⟨ok1.1.trans ok2.1, ok2.2.1, .cons (ok1.2.2.mono ok2.1) ok2.2.2⟩
/-- all settled data -/
def allD : List U → Option (List D)
  | [] => some []
  | .d x :: r => (allD r).map (x :: ·)
  | .ref _ :: _ => none
theorem allD_dvs {ρ : Wd} {S : Hp} : ∀ {us : List U} {ds : List D} {vs : List V}, allD us = some ds → Paired (UV T S ρ) us vs → DVs T S ds vs
  | [], ds, _, e, .nil => by cases e; exact DVs.nil
  | .d x :: r, ds, _, e, .cons h t => by
    cases q : allD r with
    | none => simp [allD, q] at e
    | some es =>
      have : x :: es = ds := by simpa [allD, q] using e
      subst this
      exact DVs.cons h (allD_dvs q t)
  | .ref _ :: r, ds, _, e, _ => by cases e
def fTup (fa : FA) : FE := fun env st => (fa env st).bind fun us st => match allD us with
  | some ds => if ds.length ≤ LIM then .ok (.u (.d (.tup ds))) st else .stuck
  | none => .stuck
def fLst (fa : FA) : FE := fun env st => (fa env st).bind fun us st => match allD us with
  | some ds => if ds.length ≤ LIM then .ok (.box (.lst ds)) st else .stuck
  | none => .stuck
theorem se_tup {es : List Expr} {fa : FA} {k pos} (ha : SA X W es fa) : SE X W (.Tuple es k pos) (fTup fa) := by
  refine PE.weak (pe_tup ha) fun σ H Q ⟨ρ, env, st, rel, eo, q⟩ => ⟨ρ, env, st, rel, eo, (PR.bind q).mono fun us st1 q ρ1 H1 vs ok1 => ?_⟩
  cases e : allD us with
  | none => rw [e] at q; exact q.elim
  | some ds =>
    rw [e] at q
    have dv := allD_dvs e ok1.2.2
    dsimp only at q
    by_cases hl : ds.length ≤ LIM
    · rw [if_pos hl] at q
      have ll := lim_line
      have l1 := dv.length
      exact ⟨by omega, fun p hp => q ρ1 _ _ (OkVal.ext ok1.1 (ok_tup ok1.2.1 hp dv))⟩
    · rw [if_neg hl] at q; exact q.elim
theorem se_lst {es : List Expr} {fa : FA} {pos} (ha : SA X W es fa) : SE X W (.List es pos) (fLst fa) := by
  refine PE.weak (pe_lst ha) fun σ H Q ⟨ρ, env, st, rel, eo, q⟩ => ⟨ρ, env, st, rel, eo, (PR.bind q).mono fun us st1 q ρ1 H1 vs ok1 => ?_⟩
  cases e : allD us with
  | none => rw [e] at q; exact q.elim
  | some ds =>
    rw [e] at q
    have dv := allD_dvs e ok1.2.2
    dsimp only at q
    by_cases hl : ds.length ≤ LIM
    · rw [if_pos hl] at q
      have ll := lim_line
      have l1 := dv.length
      exact ⟨by omega, fun p hp => q ρ1 _ _ (OkVal.ext ok1.1 (ok_lst ok1.2.1 hp dv))⟩
    · rw [if_neg hl] at q; exact q.elim

/-! built-ins by what the arguments read as -/
def frzs (st : Store) : List U → Option (List D)
  | [] => some []
  | u :: r => (u.frz st).bind fun d => (frzs st r).map (d :: ·)
def fB (g : List D → Option Val) (fa : FA) : FE := fun env st => (fa env st).bind fun us st => lift ((frzs st us).bind g) st
inductive TVs (T : Tx) (ρ : Wd) (H : Hp) : List D → List V → Prop
  | nil : TVs T ρ H [] []
  | cons {d : D} {v : V} {ds : List D} {vs : List V} : TV T ρ H d v → TVs T ρ H ds vs → TVs T ρ H (d :: ds) (v :: vs)
theorem views {ρ : Wd} {st : Store} {H : Hp} (rel : Rel T ρ st H) : ∀ {us : List U} {ds : List D} {vs : List V}, frzs st us = some ds → Paired (UV T (hide H ρ) ρ) us vs → TVs T ρ H ds vs
  | [], ds, _, e, .nil => by cases e; exact .nil
  | u :: r, ds, _, e, .cons h t => by
    cases q : u.frz st with
    | none => simp [frzs, q] at e
    | some d =>
      cases q2 : frzs st r with
      | none => simp [frzs, q, q2] at e
      | some es =>
        have : d :: es = ds := by simpa [frzs, q, q2] using e
        subst this
        exact .cons (view rel h q) (views rel q2 t)
def RC (T : Tx) (g : List D → Option Val) : List V → Hp → VK → Prop := fun xs H Q => ∃ ρ st ds, Rel T ρ st H ∧ TVs T ρ H ds xs ∧ ∃ r, g ds = some r ∧ ∀ ρ' H' v, OkVal T ρ H r st ρ' H' v → Q v H'
theorem bi {g : List D → Option Val} {fa : FA} : ∀ σ H Q, TG T W (fB g fa) σ H Q → tCB (RC T g) (TGA T W fa) σ H Q := fun σ H Q ⟨ρ, env, st, rel, eo, q⟩ => by
  refine ⟨ρ, env, st, rel, eo, (PR.bind q).mono fun us st1 q ρ1 H1 vs ok1 => ?_⟩
  cases e : frzs st1 us with
  | none => rw [e] at q; exact q.elim
  | some ds =>
    rw [e, Option.bind_some] at q
    cases e2 : g ds with
    | none => rw [e2] at q; exact q.elim
    | some r =>
      rw [e2] at q
      exact ⟨ρ1, st1, ds, ok1.2.1, views ok1.2.1 e ok1.2.2, r, e2, fun ρ' H' v ok => q ρ' H' v (OkVal.ext ok1.1 ok)⟩
theorem CallR.weak {f : Value} {r r' : List V → Hp → VK → Prop} (h : CallR X f r) (w : ∀ xs H Q, r' xs H Q → r xs H Q) : CallR X f r' := fun pins s σ H xs us Q I rx q => h pins s σ H xs us Q I rx (w xs H Q q)
theorem se_callB {g : List D → Option Val} {x : Str} {id : String} {p pos : Pos} {e : Expr} {es : List Expr} {fa : FA} (hc : CallR X (.builtin id) (RC (tx X) g)) (hg : Gl X x) (hm : X.mg x = none) (hv : bootBuiltins x = some (.builtin id)) (ha : SA X W (e :: es) fa) (hn : x ≠ "__name__" := by decide) (hdb : (x == ("__debug__" : Str)) = false := by decide)
    (he : starEach (e :: es) X.env = (false, eval e X.env) :: starEach es X.env := by rfl) (hpl : (backTo pos (starEach es X.env)).any (·.1) = false := by rfl) : SE X W (.Call (.Name x p) (e :: es) [] pos) (fB g fa) :=
  PE.weak (pe_callB hc hg hm hv ha hn hdb he hpl) bi
theorem se_callTy {g : List D → Option Val} {x : Str} {id : String} {p pos : Pos} {e : Expr} {es : List Expr} {fa : FA} (hc : CallR X (.type id) (RC (tx X) g)) (hg : Gl X x) (hm : X.mg x = none) (hv : bootBuiltins x = some (.type id)) (ha : SA X W (e :: es) fa) (hn : x ≠ "__name__" := by decide) (hdb : (x == ("__debug__" : Str)) = false := by decide)
    (he : starEach (e :: es) X.env = (false, eval e X.env) :: starEach es X.env := by rfl) (hpl : (backTo pos (starEach es X.env)).any (·.1) = false := by rfl) : SE X W (.Call (.Name x p) (e :: es) [] pos) (fB g fa) :=
  PE.weak (pe_callTy hc hg hm hv ha hn hdb he hpl) bi
theorem tvs1 {ρ : Wd} {H : Hp} {d : D} {xs : List V} (h : TVs T ρ H [d] xs) : ∃ v, xs = [v] ∧ TV T ρ H d v := by
  cases h with
  | cons h t => cases t; exact ⟨_, rfl, h⟩
theorem tvs2 {ρ : Wd} {H : Hp} {d e : D} {xs : List V} (h : TVs T ρ H [d, e] xs) : ∃ v u, xs = [v, u] ∧ TV T ρ H d v ∧ TV T ρ H e u := by
  cases h with
  | cons h t => cases t with
    | cons h2 t => cases t; exact ⟨_, _, rfl, h, h2⟩
def gLen : List D → Option Val
  | [.tup xs] => some (.u (.d (.int xs.length)))
  | [.lst xs] => some (.u (.d (.int xs.length)))
  | [.str x] => if x.length ≤ LIM then some (.u (.d (.int x.length))) else none
  | _ => none
theorem r_len : CallR X (.builtin "len") (RC (tx X) gLen) := by
  refine CallR.weak (call_len_seq.or call_len_str) fun xs H Q ⟨ρ, st, ds, rel, tv, r, g, q⟩ => ?_
  unfold gLen at g
  split at g
  · cases g
    obtain ⟨v, rfl, a, vs, rfl, h1, h2, _⟩ := tvs1 tv
    refine .inl ⟨a, vs, rfl, .inr h1, ?_⟩
    rw [h2.length]; exact q ρ H _ (ok_d rel dv_int)
  · cases g
    obtain ⟨v, rfl, a, vs, rfl, h1, h2⟩ := tvs1 tv
    refine .inl ⟨a, vs, rfl, .inl (.inl (.inl h1)), ?_⟩
    rw [h2.length]; exact q ρ H _ (ok_d rel dv_int)
  · split at g
    · rename_i hl
      cases g
      obtain ⟨v, rfl, h1⟩ := tvs1 tv
      cases (show v = .str _ by simpa [TV, DV] using h1)
      exact .inr ⟨_, rfl, Nat.le_trans hl lim_line, q ρ H _ (ok_d rel dv_int)⟩
    · cases g
  · cases g
def gTuple : List D → Option Val
  | [.tup xs] => some (.u (.d (.tup xs)))
  | [.lst xs] => some (.u (.d (.tup xs)))
  | _ => none
theorem r_tuple : CallR X (.type "tuple") (RC (tx X) gTuple) := by
  refine CallR.weak call_tuple_of fun xs H Q ⟨ρ, st, ds, rel, tv, r, g, q⟩ => ?_
  unfold gTuple at g
  split at g
  · cases g
    obtain ⟨v, rfl, a, vs, rfl, h1, h2, h3⟩ := tvs1 tv
    exact ⟨a, vs, rfl, .inr ⟨h1, q ρ H _ (ok_d rel (by simp only [DV]; exact ⟨a, vs, rfl, h3, h2⟩))⟩⟩
  · cases g
    obtain ⟨v, rfl, a, vs, rfl, h1, h2⟩ := tvs1 tv
    exact ⟨a, vs, rfl, .inl ⟨.inl (.inl h1), fun l hl => q ρ _ _ (ok_tup rel hl h2)⟩⟩
  · cases g
def gList : List D → Option Val
  | [.tup xs] => some (.box (.lst xs))
  | [.lst xs] => some (.box (.lst xs))
  | [.scr xs] => some (.box (.lst xs))
  | _ => none
theorem r_list : CallR X (.type "list") (RC (tx X) gList) := by
  refine CallR.weak call_list_of fun xs H Q ⟨ρ, st, ds, rel, tv, r, g, q⟩ => ?_
  unfold gList at g
  split at g
  · cases g
    obtain ⟨v, rfl, a, vs, rfl, h1, h2, h3⟩ := tvs1 tv
    exact ⟨a, vs, rfl, .inr h1, fun l hl => q ρ _ _ (ok_lst rel hl h2)⟩
  · cases g
    obtain ⟨v, rfl, a, vs, rfl, h1, h2⟩ := tvs1 tv
    exact ⟨a, vs, rfl, .inl (.inl (.inl h1)), fun l hl => q ρ _ _ (ok_lst rel hl h2)⟩
  · cases g
    obtain ⟨v, rfl, hv⟩ := tvs1 tv
    simp only [TV, DV] at hv
    obtain ⟨a, vs, rfl, h1, h2⟩ := hv
    exact ⟨a, vs, rfl, .inl (hide_le.seq h1), fun l hl => q ρ _ _ (ok_lst rel hl h2)⟩
  · cases g
def gInt : List D → Option Val
  | [.int i] => some (.u (.d (.int i)))
  | [.bl b] => some (.u (.d (.int (if b then 1 else 0))))
  | _ => none
theorem r_int1 : CallR X (.type "int") (RC (tx X) gInt) := by
  refine CallR.weak call_int1 fun xs H Q ⟨ρ, st, ds, rel, tv, r, g, q⟩ => ?_
  unfold gInt at g
  split at g
  · cases g
    obtain ⟨v, rfl, h1⟩ := tvs1 tv
    cases (show v = .int _ by simpa [TV, DV] using h1)
    exact .inl ⟨_, rfl, q ρ H _ (ok_d rel dv_int)⟩
  · cases g
    obtain ⟨v, rfl, h1⟩ := tvs1 tv
    cases (show v = .bl _ by simpa [TV, DV] using h1)
    exact .inr ⟨_, rfl, q ρ H _ (ok_d rel dv_int)⟩
  · cases g
def gAbs : List D → Option Val
  | [.int i] => some (.u (.d (.int (if i < 0 then -i else i))))
  | _ => none
theorem r_abs : CallR X (.builtin "abs") (RC (tx X) gAbs) := by
  refine CallR.weak call_abs fun xs H Q ⟨ρ, st, ds, rel, tv, r, g, q⟩ => ?_
  unfold gAbs at g
  split at g
  · cases g
    obtain ⟨v, rfl, h1⟩ := tvs1 tv
    cases (show v = .int _ by simpa [TV, DV] using h1)
    exact ⟨_, rfl, q ρ H _ (ok_d rel dv_int)⟩
  · cases g
/-- a list of ints, of bools -/
def intsD : List D → Option (List Int)
  | [] => some []
  | .int i :: r => (intsD r).map (i :: ·)
  | _ :: _ => none
def boolsD : List D → Option (List Bool)
  | [] => some []
  | .bl i :: r => (boolsD r).map (i :: ·)
  | _ :: _ => none
theorem ints_vs {S : Hp} : ∀ {ds : List D} {ns : List Int} {vs : List V}, intsD ds = some ns → DVs T S ds vs → vs = ns.map V.int
  | [], ns, vs, e, h => by cases e; simpa [DVs] using h
  | d :: r, ns, vs, e, h => by
    cases d with
    | int i =>
      cases q : intsD r with
      | none => simp [intsD, q] at e
      | some es =>
        have : i :: es = ns := by simpa [intsD, q] using e
        subst this
        simp only [DVs] at h
        obtain ⟨v, w, rfl, h1, h2⟩ := h
        cases (show v = .int i by simpa [DV] using h1)
        rw [ints_vs q h2] <;> rfl
    | _ => simp [intsD] at e
theorem bools_vs {S : Hp} : ∀ {ds : List D} {ns : List Bool} {vs : List V}, boolsD ds = some ns → DVs T S ds vs → vs = ns.map V.bl
  | [], ns, vs, e, h => by cases e; simpa [DVs] using h
  | d :: r, ns, vs, e, h => by
    cases d with
    | bl i =>
      cases q : boolsD r with
      | none => simp [boolsD, q] at e
      | some es =>
        have : i :: es = ns := by simpa [boolsD, q] using e
        subst this
        simp only [DVs] at h
        obtain ⟨v, w, rfl, h1, h2⟩ := h
        cases (show v = .bl i by simpa [DV] using h1)
        rw [bools_vs q h2] <;> rfl
    | _ => simp [boolsD] at e
def gSum : List D → Option Val
  | [.lst xs] => (intsD xs).map fun ns => .u (.d (.int ns.sum))
  | _ => none
theorem r_sum (hc : X.calm = true := by rfl) : CallR X (.builtin "sum") (RC (tx X) gSum) := by
  refine CallR.weak (cr_sum hc) fun xs H Q ⟨ρ, st, ds, rel, tv, r, g, q⟩ => ?_
  unfold gSum at g
  split at g
  · rename_i xs
    cases e : intsD xs with
    | none => rw [e] at g; cases g
    | some ns =>
      rw [e] at g
      cases g
      obtain ⟨v, rfl, a, vs, rfl, h1, h2⟩ := tvs1 tv
      have := ints_vs e h2
      subst this
      exact ⟨a, ns, rfl, .inl (.inl h1), q ρ H _ (ok_d rel dv_int)⟩
  · cases g
def gAll : List D → Option Val
  | [.lst xs] => (boolsD xs).map fun ns => .u (.d (.bl (ns.all id)))
  | _ => none
def gAny : List D → Option Val
  | [.lst xs] => (boolsD xs).map fun ns => .u (.d (.bl (ns.any id)))
  | _ => none
theorem r_all (hc : X.calm = true := by rfl) : CallR X (.builtin "all") (RC (tx X) gAll) := by
  refine CallR.weak (cr_all hc) fun xs H Q ⟨ρ, st, ds, rel, tv, r, g, q⟩ => ?_
  unfold gAll at g
  split at g
  · rename_i xs
    cases e : boolsD xs with
    | none => rw [e] at g; cases g
    | some ns =>
      rw [e] at g
      cases g
      obtain ⟨v, rfl, a, vs, rfl, h1, h2⟩ := tvs1 tv
      have := bools_vs e h2
      subst this
      exact ⟨a, ns, rfl, .inl (.inl h1), q ρ H _ (ok_d rel dv_bl)⟩
  · cases g
theorem r_any (hc : X.calm = true := by rfl) : CallR X (.builtin "any") (RC (tx X) gAny) := by
  refine CallR.weak (cr_any hc) fun xs H Q ⟨ρ, st, ds, rel, tv, r, g, q⟩ => ?_
  unfold gAny at g
  split at g
  · rename_i xs
    cases e : boolsD xs with
    | none => rw [e] at g; cases g
    | some ns =>
      rw [e] at g
      cases g
      obtain ⟨v, rfl, a, vs, rfl, h1, h2⟩ := tvs1 tv
      have := bools_vs e h2
      subst this
      exact ⟨a, ns, rfl, .inl (.inl h1), q ρ H _ (ok_d rel dv_bl)⟩
  · cases g
/-! places -/
def gIx : D → D → Option Val
  | .tup xs, .int i => (atI xs i).map fun d => .u (.d d)
  | .lst xs, .int i => (atI xs i).map fun d => .u (.d d)
  | .str x, .int i => if x.length ≤ LIM then (atI x.cps.toList i).map fun c => .u (.d (.str ⟨#[c]⟩)) else none
  | _, _ => none
theorem atI_dvs {S : Hp} {ds : List D} {vs : List V} {i : Int} {d : D} (h : DVs T S ds vs) (e : atI ds i = some d) : ∃ v, atI vs i = some v ∧ DV T S d v := by
  unfold atI at e ⊢
  rw [h.length]
  cases q : ixN ds.length i with
  | none => rw [q] at e; cases e
  | some j =>
    rw [q] at e
    exact h.get e
theorem r_ix : IxR X (ROp (tx X) (opD gIx)) := by
  refine IxR.weak ix_seq fun x y H Q q => ?_
  obtain ⟨ρ, st, d, e, rel, hd, he, r, g, q⟩ := rd_of q
  cases e with
  | int i =>
    cases (show y = .int i by simpa [TV, DV] using he)
    cases d with
    | tup xs =>
      obtain ⟨a, vs, rfl, h1, h2, h3⟩ := hd
      cases e : atI xs i with
      | none => simp [gIx, e] at g
      | some d =>
        simp only [gIx, e, Option.map_some, Option.some.injEq] at g
        subst g
        obtain ⟨v, q1, q2⟩ := atI_dvs h2 e
        exact .inr (.inl ⟨a, vs, i, v, rfl, rfl, h1, q1, q ρ H _ (ok_d rel q2)⟩)
    | lst xs =>
      obtain ⟨a, vs, rfl, h1, h2⟩ := hd
      cases e : atI xs i with
      | none => simp [gIx, e] at g
      | some d =>
        simp only [gIx, e, Option.map_some, Option.some.injEq] at g
        subst g
        obtain ⟨v, q1, q2⟩ := atI_dvs h2 e
        exact .inl ⟨a, vs, i, v, rfl, rfl, .inl (.inl h1), q1, q ρ H _ (ok_d rel q2)⟩
    | str z =>
      cases (show x = .str z by simpa [TV, DV] using hd)
      simp only [gIx] at g
      split at g
      · rename_i hl
        cases e : atI z.cps.toList i with
        | none => simp [e] at g
        | some c =>
          simp only [e, Option.map_some, Option.some.injEq] at g
          subst g
          exact .inr (.inr ⟨z, i, c, rfl, rfl, Nat.le_trans hl lim_line, e, q ρ H _ (ok_d rel dv_str)⟩)
      · cases g
    | _ => cases g
  | _ => cases d <;> cases g
/-! slices -/
abbrev FO := Sl → Store → Res (Option Int)
def oNone : FO := fun _ st => .ok none st
def oSome (fa : FE) : FO := fun env st => (uE fa env st).bind fun x st => match x.frz st with
  | some (.int i) => .ok (some i) st
  | _ => .stuck
def TGO (T : Tx) (W : WX) (f : FO) : TO := fun σ H Q => ∃ ρ env st, Rel T ρ st H ∧ EnvOk T (hide H ρ) ρ σ env ∧ PR T W σ ρ H (f env st) fun o st' => ∀ ρ' H', Ext ρ H ρ' H' → Rel T ρ' st' H' → Q o H'
abbrev SO (X : Cx) (W : WX) (e : Option Expr) (f : FO) : Prop := PO X e (TGO (tx X) W f)
theorem PO.weak {e : Option Expr} {t t' : TO} (h : PO X e t) (w : ∀ σ H Q, t' σ H Q → t σ H Q) : PO X e t' := ⟨fun pins s σ H Q I q => h.run pins s σ H Q I (w σ H Q q)⟩
theorem so_none : SO X W none oNone := PO.weak po_none fun σ H Q ⟨ρ, env, st, rel, eo, q⟩ => q ρ H (Ext.refl _ _) rel
theorem so_some {e : Expr} {f : FE} (h : SE X W e f) : SO X W (some e) (oSome f) := PO.weak (po_some h.u) fun σ H Q ⟨ρ, env, st, rel, eo, q⟩ => ⟨ρ, env, st, rel, eo, (PR.bind q).mono fun x st1 q ρ1 H1 v ok1 => by
  cases e : x.frz st1 with
  | none => rw [e] at q; exact q.elim
  | some d =>
    rw [e] at q
    have hv := view ok1.2.1 ok1.2.2 e
    cases d with
    | int i =>
      cases (show v = .int i by simpa [TV, DV] using hv)
      exact ⟨i, rfl, q ρ1 H1 ok1.1 ok1.2.1⟩
    | _ => exact (show False from q).elim⟩
def cutD (xs : List D) (lo hi : Option Int) : List D := (xs.drop (HT.sIx xs.length 0 lo)).take (HT.sIx xs.length xs.length hi - HT.sIx xs.length 0 lo)
theorem cut_dvs {S : Hp} {ds : List D} {vs : List V} (h : DVs T S ds vs) (lo hi : Option Int) : DVs T S (cutD ds lo hi) (cutV vs lo hi) := by
  unfold cutD cutV
  rw [h.length]
  exact (h.drop _).take _
def gSl : D → Option Int → Option Int → Option Val
  | .tup xs, lo, hi => some (.u (.d (.tup (cutD xs lo hi))))
  | .lst xs, lo, hi => some (.box (.lst (cutD xs lo hi)))
  | .str x, lo, hi => if x.length ≤ LIM then some (.u (.d (.str (cutS x lo hi)))) else none
  | _, _, _ => none
def fSl (fa : FE) (fl fh : FO) : FE := fun env st => (uE fa env st).bind fun x st => (fl env st).bind fun lo st => (fh env st).bind fun hi st => lift ((x.frz st).bind fun d => gSl d lo hi) st
def RSl (T : Tx) : V → Option Int → Option Int → Hp → VK → Prop := fun x lo hi H Q => ∃ ρ st d, Rel T ρ st H ∧ TV T ρ H d x ∧ ∃ r, gSl d lo hi = some r ∧ ∀ ρ' H' v, OkVal T ρ H r st ρ' H' v → Q v H'
theorem r_sl : SlR X (RSl (tx X)) := by
  have h : SlR X _ := sl_tupA.or (sl_list.or sl_str)
  intro pins s σ H x v vl vu lo hi sl Q I rx hs pl pu q
  refine h pins s σ H x v vl vu lo hi sl Q I rx hs pl pu ?_
  obtain ⟨ρ, st, d, rel, hd, r, g, q⟩ := q
  cases d with
  | tup xs =>
    cases g
    obtain ⟨a, vs, rfl, h1, h2, h3⟩ := hd
    refine .inl ⟨a, vs, rfl, h1, fun ⟨z1, z2⟩ => q ρ H _ (ok_d rel ?_), fun _ p hp => q ρ _ _ (ok_tup rel hp (cut_dvs h2 lo hi))⟩
    have e : cutD xs lo hi = xs := by
      unfold cutD
      rw [← h2.length, z1, z2, List.drop_zero, Nat.sub_zero, h2.length]
      exact List.take_length
    rw [e]
    simp only [DV]
    exact ⟨a, vs, rfl, h3, h2⟩
  | lst xs =>
    cases g
    obtain ⟨a, vs, rfl, h1, h2⟩ := hd
    exact .inr (.inl ⟨a, vs, rfl, .inl (.inl h1), fun p hp => q ρ _ _ (ok_lst rel hp (cut_dvs h2 lo hi))⟩)
  | str z =>
    cases (show x = .str z by simpa [TV, DV] using hd)
    simp only [gSl] at g
    split at g
    · rename_i hl
      cases g
      exact .inr (.inr ⟨z, rfl, Nat.le_trans hl lim_line, q ρ H _ (ok_d rel dv_str)⟩)
    · cases g
  | _ => cases g
theorem se_sl {e : Expr} {lo hi : Option Expr} {f : FE} {fl fh : FO} {p2 pos : Pos} (he : SE X W e f) (hl : SO X W lo fl) (hh : SO X W hi fh) : SE X W (.Subscript e (.Slice lo hi none p2) pos) (fSl f fl fh) := by
  refine PE.weak (pe_slice r_sl he.u hl hh) fun σ H Q ⟨ρ, env, st, rel, eo, q⟩ => ⟨ρ, env, st, rel, eo, (PR.bind q).mono fun x st1 q ρ1 H1 v ok1 => ?_⟩
  refine ⟨ρ1, env, st1, ok1.2.1, eo.mono ok1.1, PR.ext ok1.1 (PR.bind q) fun lo st2 q ρ2 H2 e2 r2 => ?_⟩
  refine ⟨ρ2, env, st2, r2, (eo.mono ok1.1).mono e2, PR.ext (ok1.1.trans e2) (PR.bind q) fun hi st3 q ρ3 H3 e3 r3 => ?_⟩
  cases e : x.frz st3 with
  | none => rw [e] at q; exact q.elim
  | some d =>
    rw [e, Option.bind_some] at q
    cases e5 : gSl d lo hi with
    | none => rw [e5] at q; exact q.elim
    | some r =>
      rw [e5] at q
      exact ⟨ρ3, st3, d, r3, view r3 (ok1.2.2.mono (e2.trans e3)) e, r, e5, fun ρ' H' v ok => q ρ' H' v (OkVal.ext ((ok1.1.trans e2).trans e3) ok)⟩
end G

set_option maxHeartbeats 2000000
namespace G
open PySem PySem.Spec PyProof.Rows L2
variable {X : Cx} {W : WX} {T : Tx}

/-- the wish does not look at the slots -/
class Ind (W : WX) : Prop where
  ind : ∀ cls d σ σ' H, W cls d σ H → W cls d σ' H
instance (E : XK) : Ind (fun cls d _ H => E cls d H) := ⟨fun _ _ _ _ _ h => h⟩
/-- nothing leaves -/
abbrev W0 : WX := fun _ _ _ _ => False
/-- what is wanted behind a statement -/
def PF (T : Tx) (W : WX) (σ : L2.St) (ρ : Wd) (H : Hp) (D : Ends) (r : Res Fl) : Prop := PR T W σ ρ H r fun fl st' => match fl with
  | .nx env' => ∀ ρ' H' σ', Ext ρ H ρ' H' → Rel T ρ' st' H' → EnvOk T (hide H' ρ') ρ' σ' env' → D.nx σ' H'
  | .rt x => ∀ ρ' H' v, OkVal T ρ H x st' ρ' H' v → D.rt v H'
  | .bk env' => ∀ ρ' H' σ', Ext ρ H ρ' H' → Rel T ρ' st' H' → EnvOk T (hide H' ρ') ρ' σ' env' → D.bk σ' H'
  | .ct env' => ∀ ρ' H' σ', Ext ρ H ρ' H' → Rel T ρ' st' H' → EnvOk T (hide H' ρ') ρ' σ' env' → D.ct σ' H'
theorem XPost.ind [Ind W] {σ σ' : L2.St} {ρ : Wd} {H : Hp} {x : Exc} {st : Store} (h : XPost T W σ ρ H x st) : XPost T W σ' ρ H x st := fun ρ' H' cls d e r v => Ind.ind cls d σ σ' H' (h ρ' H' cls d e r v)
theorem PR.ind {α : Type} [Ind W] {σ σ' : L2.St} {ρ : Wd} {H : Hp} {r : Res α} {K : α → Store → Prop} (h : PR T W σ ρ H r K) : PR T W σ' ρ H r K := by
  cases r with
  | ok a st => exact h
  | exc x st => exact XPost.ind h
  | stuck => exact h
theorem PF.ext [Ind W] {σ σ1 : L2.St} {ρ ρ1 : Wd} {H H1 : Hp} {D : Ends} {r : Res Fl} (e : Ext ρ H ρ1 H1) (h : PF T W σ ρ H D r) : PF T W σ1 ρ1 H1 D r := by
  refine PR.ext e (PR.ind h) fun fl st h => ?_
  cases fl with
  | nx env => exact fun ρ' H' σ' e' => h ρ' H' σ' (e.trans e')
  | rt x => exact fun ρ' H' v ok => h ρ' H' v (OkVal.ext e ok)
  | bk env => exact fun ρ' H' σ' e' => h ρ' H' σ' (e.trans e')
  | ct env => exact fun ρ' H' σ' e' => h ρ' H' σ' (e.trans e')
def TGS (T : Tx) (W : WX) (f : FS) : TS := fun D σ H => ∃ ρ env st, Rel T ρ st H ∧ EnvOk T (hide H ρ) ρ σ env ∧ PF T W σ ρ H D (f env st)
abbrev SS (X : Cx) (W : WX) (s : Stmt) (f : FS) : Prop := PS X s (TGS (tx X) W f)
abbrev SSs (X : Cx) (W : WX) (s : List Stmt) (f : FS) : Prop := PSs X s (TGS (tx X) W f)
def sNil : FS := fun env st => .ok (.nx env) st
def sSeq (a b : FS) : FS := fun env st => (a env st).bind fun fl st => match fl with
  | .nx env => b env st
  | fl => .ok fl st
theorem ss_nil : SSs X W [] sNil := PSs.weak pss_nil fun D σ H ⟨ρ, env, st, rel, eo, q⟩ => q ρ H σ (Ext.refl _ _) rel eo
theorem ss_one {s : Stmt} {f : FS} (h : SS X W s f) : SSs X W [s] f := pss_one h
theorem ss_cons [Ind W] {s : Stmt} {r : List Stmt} {f g : FS} (h1 : SS X W s f) (h2 : SSs X W r g) : SSs X W (s :: r) (sSeq f g) := by
  refine PSs.weak (pss_cons h1 h2) fun D σ H ⟨ρ, env, st, rel, eo, q⟩ => ⟨ρ, env, st, rel, eo, (PR.bind q).mono fun fl st1 q => ?_⟩
  cases fl with
  | nx env' => exact fun ρ1 H1 σ1 e1 r1 eo1 => ⟨ρ1, env', st1, r1, eo1, PF.ext e1 q⟩
  | rt x => exact q
  | bk env' => exact q
  | ct env' => exact q
def sRet (fe : FE) : FS := fun env st => (fe env st).bind fun x st => .ok (.rt x) st
theorem ss_ret {e : Expr} {f : FE} {pos : Pos} (h : SE X W e f) : SS X W (.Return (some e) pos) (sRet f) :=
  PS.weak (ps_ret h) fun D σ H ⟨ρ, env, st, rel, eo, q⟩ => ⟨ρ, env, st, rel, eo, PR.bind q⟩
def sRetN : FS := fun env st => .ok (.rt (.u (.d .non))) st
theorem ss_retN {pos : Pos} : SS X W (.Return none pos) sRetN :=
  PS.weak ps_retN fun D σ H ⟨ρ, env, st, rel, eo, q⟩ => q ρ H _ (ok_d rel dv_non)
def sExpr (fe : FE) : FS := fun env st => (uE fe env st).bind fun _ st => .ok (.nx env) st
theorem ss_expr {e : Expr} {f : FE} {pos : Pos} (h : SE X W e f) (hs : swapsWith e none pos.line X.env = pure false := by rfl) : SS X W (.Expr e pos) (sExpr f) :=
  PS.weak (ps_expr h.u hs) fun D σ H ⟨ρ, env, st, rel, eo, q⟩ => ⟨ρ, env, st, rel, eo, (PR.bind q).mono fun x st1 q ρ1 H1 v ok => q ρ1 H1 σ ok.1 ok.2.1 (eo.mono ok.1)⟩
theorem ss_pass {pos : Pos} : SS X W (.Pass pos) sNil := PS.weak ps_pass fun D σ H ⟨ρ, env, st, rel, eo, q⟩ => q ρ H σ (Ext.refl _ _) rel eo
def sBrk : FS := fun env st => .ok (.bk env) st
theorem ss_brk {pos : Pos} : SS X W (.Break pos) sBrk := PS.weak ps_break fun D σ H ⟨ρ, env, st, rel, eo, q⟩ => q ρ H σ (Ext.refl _ _) rel eo
def sIf (t : FT) (a b : FS) : FS := fun env st => (t env st).bind fun c st => if c = true then a env st else b env st
theorem ss_if [Ind W] {c : Expr} {a b : List Stmt} {t : FT} {f g : FS} {pos : Pos} (hc : ST X W c t) (ha : SSs X W a f) (hb : SSs X W b g) : SS X W (.If c a b pos) (sIf t f g) := by
  refine PS.weak (ps_if hc ha hb) fun D σ H ⟨ρ, env, st, rel, eo, q⟩ => ⟨ρ, env, st, rel, eo, (PR.bind q).mono fun c st1 q ρ1 H1 e1 r1 => ?_⟩
  cases c with
  | true => exact ⟨ρ1, env, st1, r1, eo.mono e1, PF.ext e1 q⟩
  | false => exact ⟨ρ1, env, st1, r1, eo.mono e1, PF.ext e1 q⟩
/-! stores -/
/-- the value kept: as it is, a new object as a cell -/
def nE (f : FE) : FU := fun env st => (f env st).bind fun x st => match x with
  | .u u => .ok u st
  | .box c => .ok (.ref st.length) (st ++ [c])
theorem SE.n {e : Expr} {f : FE} (h : SE X W e f) : SU X W e (nE f) := by
  refine PE.weak h fun σ H Q ⟨ρ, env, st, rel, eo, q⟩ => ⟨ρ, env, st, rel, eo, ?_⟩
  refine (PR.bind q).mono fun x st' q ρ' H' v ok => ?_
  cases x with
  | u y => exact q ρ' H' v ok
  | box c =>
    obtain ⟨p, rfl, hb⟩ := ok
    exact q _ H' _ hb.alloc
theorem EnvOk.set {S : Hp} {ρ : Wd} {σ : L2.St} {env : Sl} {i : Nat} {u : U} {v : V} (h : EnvOk T S ρ σ env) (hv : UV T S ρ u v) : EnvOk T S ρ (σ.set i (some v)) (env.set i (some u)) := ⟨by simp [h.len], fun j w e => by
  by_cases hj : j = i
  · subst hj
    have hlt : j < env.length := by
      have := (List.getElem?_eq_some_iff.mp e).1
      simpa using this
    rw [List.getElem?_set_self hlt] at e
    cases e
    exact ⟨v, List.getElem?_set_self (by rw [← h.len]; exact hlt), hv⟩
  · rw [List.getElem?_set_ne (Ne.symm hj)] at e
    obtain ⟨x, e1, h1⟩ := h.get j w e
    exact ⟨x, by rw [List.getElem?_set_ne (Ne.symm hj)]; exact e1, h1⟩⟩
/-- name = value -/
def sSetU (i : Nat) (f : FU) : FS := fun env st => (f env st).bind fun u st => .ok (.nx (env.set i (some u))) st
def sSet (i : Nat) (f : FE) : FS := sSetU i (uE f)
def sNew (i : Nat) (f : FE) : FS := sSetU i (nE f)
theorem ss_setU {i : Nat} {x : Str} {e : Expr} {f : FU} {pos pos' : Pos} (hN : X.N.Nodup) (hi : X.N[i]? = some x) (hx : Loc X.env.scope x) (he : SU X W e f) (hs : swapsWith e (some (.Name x pos')) pos.line X.env = pure false := by rfl) (hf : X.fn x = true ∨ X.env.scope.names.lookup x = some .local := by first | exact .inl rfl | exact .inr rfl | assumption) :
    SS X W (.Assign [.Name x pos'] e pos) (sSetU i f) :=
  PS.weak (ps_set hN hi hx he hs hf) fun D σ H ⟨ρ, env, st, rel, eo, q⟩ => ⟨ρ, env, st, rel, eo, (PR.bind q).mono fun u st1 q ρ1 H1 v ok => q ρ1 H1 _ ok.1 ok.2.1 ((eo.mono ok.1).set ok.2.2)⟩
theorem ss_set {i : Nat} {x : Str} {e : Expr} {f : FE} {pos pos' : Pos} (hN : X.N.Nodup) (he : SE X W e f) (hi : X.N[i]? = some x := by rfl) (hx : Loc X.env.scope x := by first | exact Or.inl rfl | exact Or.inr rfl) (hs : swapsWith e (some (.Name x pos')) pos.line X.env = pure false := by rfl) (hf : X.fn x = true ∨ X.env.scope.names.lookup x = some .local := by first | exact .inl rfl | exact .inr rfl | assumption) :
    SS X W (.Assign [.Name x pos'] e pos) (sSet i f) := ss_setU hN hi hx he.u hs hf
theorem ss_new {i : Nat} {x : Str} {e : Expr} {f : FE} {pos pos' : Pos} (hN : X.N.Nodup) (he : SE X W e f) (hi : X.N[i]? = some x := by rfl) (hx : Loc X.env.scope x := by first | exact Or.inl rfl | exact Or.inr rfl) (hs : swapsWith e (some (.Name x pos')) pos.line X.env = pure false := by rfl) (hf : X.fn x = true ∨ X.env.scope.names.lookup x = some .local := by first | exact .inl rfl | exact .inr rfl | assumption) :
    SS X W (.Assign [.Name x pos'] e pos) (sNew i f) := ss_setU hN hi hx he.n hs hf
/-! arguments that may be kept as cells: g a settled value (uE f) or a kept one (nE f) -/
def aConsU (g : FU) (r : FA) : FA := fun env st => (g env st).bind fun x st => (r env st).bind fun xs st => .ok (x :: xs) st
theorem sa_consU {e : Expr} {es : List Expr} {g : FU} {r : FA} (ha : SU X W e g) (hr : SA X W es r) (hs : starEach (e :: es) X.env = (false, eval e X.env) :: starEach es X.env := by rfl) : SA X W (e :: es) (aConsU g r) := by
  refine PA.weak (pa_cons ha hr hs) fun σ H Q ⟨ρ, env, st, rel, eo, q⟩ => ⟨ρ, env, st, rel, eo, (PR.bind q).mono fun x st1 q ρ1 H1 v ok1 => ?_⟩
  refine ⟨ρ1, env, st1, ok1.2.1, eo.mono ok1.1, PR.ext ok1.1 (PR.bind q) fun xs st2 q ρ2 H2 vs ok2 => ?_⟩
  exact q ρ2 H2 (v :: vs) ⟨ok1.1.trans ok2.1, ok2.2.1, .cons (ok1.2.2.mono ok2.1) ok2.2.2⟩
/-- a, b = e1, e2 (plain locals) -/
def sPar (i j : Nat) (fa : FA) : FS := fun env st => (fa env st).bind fun us st => match us with
  | [x, y] => .ok (.nx ((env.set i (some x)).set j (some y))) st
  | _ => .stuck
theorem ss_par {i j : Nat} {x y : Str} {a b : Expr} {fa : FA} {px py pt pos : Pos} {kt k2 pt2} (hN : X.N.Nodup) (ha : SA X W [a, b] fa) (hc : X.calm = true := by rfl) (hi : X.N[i]? = some x := by rfl) (hj : X.N[j]? = some y := by rfl) (hij : i ≠ j := by decide)
    (hx : X.env.scope.names.lookup x = some .local := by rfl) (hy : X.env.scope.names.lookup y = some .local := by rfl)
    (hw : swappedStores [.Tuple [.Name x px, .Name y py] kt pt] (.Tuple [a, b] k2 pt2) X.env = pure (some [x, y]) := by rfl)
    (hs : swapsWithSole [.Tuple [.Name x px, .Name y py] kt pt] (.Tuple [a, b] k2 pt2) pos.line X.env = pure false := by rfl) :
    SS X W (.Assign [.Tuple [.Name x px, .Name y py] kt pt] (.Tuple [a, b] k2 pt2) pos) (sPar i j fa) :=
  PS.weak (ps_par hc hN hi hj hij hx hy ha hw hs) fun D σ H ⟨ρ, env, st, rel, eo, q⟩ => ⟨ρ, env, st, rel, eo, (PR.bind q).mono fun us st1 q ρ1 H1 vs ok => by
    obtain ⟨e1, r1, p⟩ := ok
    cases p with
    | nil => exact (show False from q).elim
    | cons h1 t => cases t with
      | nil => exact (show False from q).elim
      | cons h2 t => cases t with
        | cons _ _ => exact (show False from q).elim
        | nil => exact ⟨_, _, rfl, q ρ1 H1 _ e1 r1 (((eo.mono e1).set h1).set h2)⟩⟩
/-! targets -/
/-- the slots but these are kept -/
structure Kp (is : List Nat) (σ σ' : L2.St) : Prop where
  keep : ∀ j, j ∉ is → σ'[j]? = σ[j]?
  len : σ'.length = σ.length
abbrev FG := U → Sl → Store → Res Sl
def TGG (T : Tx) (W : WX) (g : FG) (is : List Nat) : L2.TG := fun v σ H Q => ∃ ρ env st u, Rel T ρ st H ∧ EnvOk T (hide H ρ) ρ σ env ∧ UV T (hide H ρ) ρ u v ∧ PR T W σ ρ H (g u env st) fun env' st' => ∀ ρ' H' (σ' : L2.St), Kp is σ σ' → Ext ρ H ρ' H' → Rel T ρ' st' H' → EnvOk T (hide H' ρ') ρ' σ' env' → Q σ' H'
abbrev FGs := List D → Sl → Store → Res Sl
def TGGs (T : Tx) (W : WX) (g : FGs) (is : List Nat) : TGs := fun vs σ H Q => ∃ ρ env st ds, Rel T ρ st H ∧ EnvOk T (hide H ρ) ρ σ env ∧ DVs T (hide H ρ) ds vs ∧ PR T W σ ρ H (g ds env st) fun env' st' => ∀ ρ' H' (σ' : L2.St), Kp is σ σ' → Ext ρ H ρ' H' → Rel T ρ' st' H' → EnvOk T (hide H' ρ') ρ' σ' env' → Q σ' H'
abbrev SG (X : Cx) (W : WX) (e : Expr) (g : FG) (is : List Nat) : Prop := PG X e (TGG (tx X) W g is)
abbrev SGs (X : Cx) (W : WX) (e : List Expr) (g : FGs) (is : List Nat) : Prop := PGs X e (TGGs (tx X) W g is)
theorem PG.weak {e : Expr} {t t' : L2.TG} (h : PG X e t) (w : ∀ v σ H Q, t' v σ H Q → t v σ H Q) : PG X e t' := ⟨fun pins s σ H v u Q I r q => h.run pins s σ H v u Q I r (w v σ H Q q)⟩
theorem PGs.weak {e : List Expr} {t t' : TGs} (h : PGs X e t) (w : ∀ v σ H Q, t' v σ H Q → t v σ H Q) : PGs X e t' := ⟨fun pins s σ H v u Q I r q => h.run pins s σ H v u Q I r (w v σ H Q q)⟩
def gN (i : Nat) : FG := fun u env st => .ok (env.set i (some u)) st
def gsNil : FGs := fun ds env st => match ds with
  | [] => .ok env st
  | _ => .stuck
def gsCons (g : FG) (r : FGs) : FGs := fun ds env st => match ds with
  | d :: ds => (g (.d d) env st).bind fun env st => r ds env st
  | _ => .stuck
def gT (n : Nat) (g : FGs) : FG := fun u env st => match u with
  | .d (.tup ds) => if ds.length = n then g ds env st else .stuck
  | _ => .stuck
theorem sg_n {i : Nat} {x : Str} {pos : Pos} (hN : X.N.Nodup) (hi : X.N[i]? = some x := by rfl) (hx : Loc X.env.scope x := by first | exact Or.inl rfl | exact Or.inr rfl) (hf : X.fn x = true ∨ X.env.scope.names.lookup x = some .local := by first | exact .inl rfl | exact .inr rfl | assumption) : SG X W (.Name x pos) (gN i) [i] :=
  PG.weak (pg_name hN hi hx hf) fun v σ H Q ⟨ρ, env, st, u, rel, eo, uv, q⟩ => q ρ H _ ⟨fun j hj => List.getElem?_set_ne (fun z => hj (by simp [z])), by simp⟩ (Ext.refl _ _) rel (eo.set uv)
theorem sgs_nil : SGs X W [] gsNil [] := PGs.weak pgs_nil fun vs σ H Q ⟨ρ, env, st, ds, rel, eo, dv, q⟩ => by
  cases ds with
  | nil => exact ⟨by simpa [DVs] using dv, q ρ H _ ⟨fun _ _ => rfl, rfl⟩ (Ext.refl _ _) rel eo⟩
  | cons d r => exact (show False from q).elim
theorem sgs_cons [Ind W] {e : Expr} {es : List Expr} {g : FG} {r : FGs} {is js : List Nat} (h1 : SG X W e g is) (h2 : SGs X W es r js) (hs : (assignEach (e :: es) X.env).map (·.2) = assign e X.env :: (assignEach es X.env).map (·.2) := by rfl) : SGs X W (e :: es) (gsCons g r) (is ++ js) :=
  PGs.weak (pgs_cons h1 h2 hs) fun vs σ H Q ⟨ρ, env, st, ds, rel, eo, dv, q⟩ => by
    cases ds with
    | nil => exact (show False from q).elim
    | cons d ds =>
      simp only [DVs] at dv
      obtain ⟨v, w, rfl, h3, h4⟩ := dv
      refine ⟨v, w, rfl, ρ, env, st, .d d, rel, eo, h3, (PR.bind q).mono fun env1 st1 q ρ1 H1 σ1 k1 e1 r1 eo1 => ?_⟩
      exact ⟨ρ1, env1, st1, ds, r1, eo1, DVs.mono e1.same _ _ h4, PR.ext e1 (PR.ind q) fun env2 st2 q ρ2 H2 σ2 k2 e2 => q ρ2 H2 σ2 ⟨fun j hj => (k2.keep j fun z => hj (List.mem_append_right _ z)).trans (k1.keep j fun z => hj (List.mem_append_left _ z)), k2.len.trans k1.len⟩ (e1.trans e2)⟩
theorem sg_t {es : List Expr} {k : Nat} {g : FGs} {n : Nat} {pos : Pos} {is : List Nat} (h : SGs X W es g is) (hc : X.calm = true := by rfl) (hn : (assignEach es X.env).length = n := by rfl) (hst : (assignEach es X.env).findIdx? (·.1) = none := by rfl) : SG X W (.Tuple es k pos) (gT n g) is :=
  PG.weak (pg_tup hc h hn hst) fun v σ H Q ⟨ρ, env, st, u, rel, eo, uv, q⟩ => by
    cases u with
    | ref n => exact (show False from q).elim
    | d x =>
      cases x with
      | tup ds =>
        have uv' : DV (tx X) (hide H ρ) (.tup ds) v := uv
        simp only [DV] at uv'
        obtain ⟨a, vs, rfl, h1, h2⟩ := uv'
        dsimp only [gT] at q
        by_cases hl : ds.length = n
        · rw [if_pos hl] at q
          exact ⟨a, vs, rfl, SqT.same hide_le h1, by rw [h2.length]; exact hl, ρ, env, st, ds, rel, eo, h2, q⟩
        · rw [if_neg hl] at q; exact (show False from q).elim
      | _ => exact (show False from q).elim
/-- target = value -/
def sAsg (g : FG) (f : FE) : FS := fun env st => (uE f env st).bind fun u st => (g u env st).bind fun env st => .ok (.nx env) st
theorem ss_asg {tg e : Expr} {f : FE} {g : FG} {pos : Pos} {is : List Nat} (he : SE X W e f) (hg : SG X W tg g is) (hs : swapsWithSole [tg] e pos.line X.env = pure false := by rfl) (hw : swappedStores [tg] e X.env = pure none := by rfl)
    (h1 : (assignEach [tg] X.env).map (·.2) = [assign tg X.env] := by rfl) : SS X W (.Assign [tg] e pos) (sAsg g f) :=
  PS.weak (ps_asg he.u hg hs hw h1) fun D σ H ⟨ρ, env, st, rel, eo, q⟩ => ⟨ρ, env, st, rel, eo, (PR.bind q).mono fun u st1 q ρ1 H1 v ok =>
    ⟨ρ1, env, st1, u, ok.2.1, eo.mono ok.1, ok.2.2, PR.ext ok.1 (PR.bind q) fun env2 st2 q ρ2 H2 σ2 _ e2 => q ρ2 H2 σ2 (ok.1.trans e2)⟩⟩
/-! writing a cell -/
theorem rel_write {ρ : Wd} {st : Store} {H : Hp} {n : Nat} {a : Addr} {o : HO} {c : Cell} (rel : Rel T ρ st H) (ha : ρ.c[n]? = some a) (hc : CellOk T (hide H ρ) ρ o c) : Rel T ρ (st.set n c) (upd H a o) ∧ Ext ρ H ρ (upd H a o) := by
  have hm : a ∈ ρ.all := List.mem_append_left _ (List.mem_of_getElem? ha)
  have he : hide (upd H a o) ρ = hide H ρ := by
    funext b
    unfold hide
    by_cases hb : b ∈ ρ.all
    · rw [if_pos hb, if_pos hb]
    · rw [if_neg hb, if_neg hb, upd_ne (fun (z : b = a) => hb (by rw [z]; exact hm))]
  have hn : n < ρ.c.length := (List.getElem?_eq_some_iff.mp ha).1
  obtain ⟨nd1, nd2, nd3⟩ := List.nodup_append.mp rel.nd
  refine ⟨⟨rel.nd, by simp [rel.len], fun m b c' h1 h2 => ?_, fun p hp => ?_⟩, ⟨⟨[], by simp⟩, by rw [he]; exact Same.refl _⟩⟩
  · rw [he]
    by_cases hmn : m = n
    · subst hmn
      rw [ha] at h1; cases h1
      rw [List.getElem?_set_self (by rw [← rel.len]; exact hn)] at h2
      cases h2
      exact ⟨o, upd_same, hc⟩
    · rw [List.getElem?_set_ne (Ne.symm hmn)] at h2
      obtain ⟨o', q1, q2⟩ := rel.cell m b c' h1 h2
      have hb : b ≠ a := fun (z : b = a) => hmn ((List.getElem?_inj (j := n) (List.getElem?_eq_some_iff.mp h1).1 nd1).mp (by rw [h1, ha, z]))
      exact ⟨o', by rw [upd_ne hb]; exact q1, q2⟩
  · have hb : p.1 ≠ a := fun z => nd3 a (List.mem_of_getElem? ha) p.1 (List.mem_map.mpr ⟨p, hp, rfl⟩) z.symm
    rw [upd_ne hb]
    exact rel.frm p hp
/-- o[i] = v of a list cell -/
def gSubL (fo fi : FE) : FG := fun u env st => (uE fo env st).bind fun o st => (uE fi env st).bind fun i st => match o, i, u with
  | .ref n, .d (.int k), .d d => match st[n]? with
    | some (.lst xs) => match ixN xs.length k with
      | some j => .ok env (st.set n (.lst (xs.set j d)))
      | none => .stuck
    | _ => .stuck
  | _, _, _ => .stuck
theorem sg_subL {o i : Expr} {fo fi : FE} {pos : Pos} (ho : SE X W o fo) (hi : SE X W i fi) (ha : ∀ v, assign (.Subscript o i pos) X.env v = (do
      let ov ← holding [v] (eval o X.env)
      let iv ← holding [v, ov] (eval i X.env)
      standAt pos
      holding [v, ov, iv] (setItem ov iv v)
      release [v, ov, iv] []) := by intro _; rfl) : SG X W (.Subscript o i pos) (gSubL fo fi) [] :=
  PG.weak (pg_sub ho.u hi.u set_list ha) fun v σ H Q ⟨ρ, env, st, u, rel, eo, uv, q⟩ => ⟨ρ, env, st, rel, eo, (PR.bind q).mono fun o st1 q ρ1 H1 x ok1 =>
    ⟨ρ1, env, st1, ok1.2.1, eo.mono ok1.1, PR.ext ok1.1 (PR.bind q) fun i st2 q ρ2 H2 y ok2 => by
      cases o with
      | d z => exact (show False from q).elim
      | ref n =>
        cases i with
        | ref m => exact (show False from q).elim
        | d z =>
          cases z with
          | int k =>
            cases u with
            | ref m => exact (show False from q).elim
            | d d =>
              dsimp only at q
              cases e1 : st2[n]? with
              | none => rw [e1] at q; exact (show False from q).elim
              | some c =>
                rw [e1] at q
                cases c with
                | lst xs =>
                  dsimp only at q
                  cases e2 : ixN xs.length k with
                  | none => rw [e2] at q; exact (show False from q).elim
                  | some j =>
                    rw [e2] at q
                    obtain ⟨a, ha, hx⟩ := ok1.2.2.mono ok2.1
                    obtain ⟨o', hH, vs, rfl, dv⟩ := ok2.2.1.cell n a _ ha e1
                    have hy : y = .int k := by simpa [UV, DV] using ok2.2.2
                    have ud : DV (tx X) (hide H2 ρ2) d v := DV.mono (ok1.1.trans ok2.1).same _ _ uv
                    obtain ⟨r3, e3⟩ := rel_write (o := .lst (vs.set j v)) (c := .lst (xs.set j d)) ok2.2.1 ha ⟨_, rfl, dv.set ud j⟩
                    exact ⟨a, vs, k, j, hx, hy, hH, by rw [dv.length]; exact e2, q ρ2 _ σ ⟨fun _ _ => rfl, rfl⟩ ((ok1.1.trans ok2.1).trans e3) r3 ((eo.mono (ok1.1.trans ok2.1)).mono e3)⟩
                | _ => exact (show False from q).elim
          | _ => exact (show False from q).elim⟩⟩
end G

set_option maxHeartbeats 2000000
namespace G
open PySem PySem.Spec PyProof.Rows L2 RZ
variable {X : Cx} {W : WX} {T : Tx}

/-! what is walked -/
abbrev FI := Sl → Store → Res (List D)
def Wk (T : Tx) (ρ : Wd) (H : Hp) (J : It) (items : List D) : Prop := ∀ (ρ2 : Wd) (H2 : Hp), (∀ (n : Nat) (a : Addr), ρ.c[n]? = some a → ρ2.c[n]? = some a) → Same (hide H ρ) (hide H2 ρ2) → (∀ a ∈ ρ2.all, ∃ o, H2 a = some o) →
  ∀ (i : Nat), (∀ d, items[i]? = some d → J.go i H2 ∧ ∀ x H3, J.yld i H2 x H3 → Same H2 H3 ∧ DV T (hide H3 ρ2) d x) ∧ (items.length ≤ i → J.stop i H2)
def TGI (T : Tx) (W : WX) (f : FI) : TI := fun σ H R => ∃ ρ env st, Rel T ρ st H ∧ EnvOk T (hide H ρ) ρ σ env ∧ PR T W σ ρ H (f env st) fun items st' => ∀ ρ' H' J, Ext ρ H ρ' H' → Rel T ρ' st' H' → Wk T ρ' H' J items → R J H'
abbrev SI (X : Cx) (W : WX) (tg e : Expr) (f : FI) : Prop := PI X tg e (TGI (tx X) W f)
theorem PR.ok {α : Type} {σ : L2.St} {ρ : Wd} {H : Hp} {a : α} {st : Store} {K : α → Store → Prop} (h : PR T W σ ρ H (.ok a st) K) : K a st := h
theorem pi_weak {tg e : Expr} {t t' : TI} (h : PI X tg e t) (w : ∀ σ H Q, t' σ H Q → t σ H Q) : PI X tg e t' := ⟨fun pins s σ H Q I q => h.run pins s σ H Q I (w σ H Q q)⟩
theorem pi_either {tg e : Expr} {t t' : TI} (h : PI X tg e t) (h' : PI X tg e t') : PI X tg e (fun σ H R => t σ H R ∨ t' σ H R) := ⟨fun pins s σ H Q I q => q.elim (h.run pins s σ H Q I) (h'.run pins s σ H Q I)⟩
def signsD (x : Str) : List D := x.cps.toList.map fun c => .str ⟨#[c]⟩
def iterD : D → Option (List D)
  | .tup xs => some xs
  | .lst xs => some xs
  | .str x => some (signsD x)
  | _ => none
def iSeq (fa : FE) : FI := fun env st => (uE fa env st).bind fun u st => match u with
  | .d x => lift (iterD x) st
  | .ref _ => .stuck
theorem wk_list' {ρ : Wd} {H : Hp} {a : Addr} {vs : List V} {ds : List D} (h : hide H ρ a = some (.lst vs)) (dv : DVs T (hide H ρ) ds vs) : Wk T ρ H (Itl T.K a) ds := fun ρ2 H2 hc sm _ i => by
  have h2 := sm _ _ h
  have hl : SqL T.K H2 a vs := .inl (.inl (hide_some h2).2)
  refine ⟨fun d e => ?_, fun hi => ⟨vs, hl, by rw [dv.length]; exact hi⟩⟩
  obtain ⟨v, e1, q1⟩ := dv.get e
  refine ⟨⟨vs, v, hl, e1⟩, fun x H3 ⟨e2, y⟩ => ?_⟩
  subst e2
  have : vs[i]? = some x := y vs hl
  rw [e1] at this; cases this
  exact ⟨Same.refl _, DV.mono sm _ _ q1⟩
theorem wk_tup {ρ : Wd} {H : Hp} {a : Addr} {vs : List V} {ds : List D} (h : SqT T.K (hide H ρ) a vs) (dv : DVs T (hide H ρ) ds vs) : Wk T ρ H (Itt T.K a) ds := fun ρ2 H2 hc sm _ i => by
  have hl : SqT T.K H2 a vs := SqT.same hide_le (SqT.same sm h)
  refine ⟨fun d e => ?_, fun hi => ⟨vs, hl, by rw [dv.length]; exact hi⟩⟩
  obtain ⟨v, e1, q1⟩ := dv.get e
  refine ⟨⟨vs, v, hl, e1⟩, fun x H3 ⟨e2, y⟩ => ?_⟩
  subst e2
  have : vs[i]? = some x := y vs hl
  rw [e1] at this; cases this
  exact ⟨Same.refl _, DV.mono sm _ _ q1⟩
theorem wk_str {ρ : Wd} {H : Hp} {z : Str} : Wk T ρ H (Its z) (signsD z) := fun ρ2 H2 hc sm _ i => by
  refine ⟨fun d e => ?_, fun hi => ?_⟩
  · unfold signsD at e
    rw [List.getElem?_map] at e
    cases q : z.cps.toList[i]? with
    | none => rw [q] at e; cases e
    | some c =>
      rw [q] at e
      cases e
      have hi : i < z.cps.size := by
        have := (List.getElem?_eq_some_iff.mp q).1
        simpa using this
      refine ⟨hi, fun x H3 ⟨e2, c', e3, e4⟩ => ?_⟩
      subst e2; subst e4
      rw [← Array.getElem?_toList, q] at e3
      cases e3
      exact ⟨Same.refl _, dv_str⟩
  · show z.cps.size ≤ i
    unfold signsD at hi
    simpa using hi
theorem si_seq {tg e : Expr} {f : FE} (h : SE X W e f) : SI X W tg e (iSeq f) := by
  refine pi_weak (pi_either (pi_list h.u) (pi_either (pi_tup h.u) (pi_str h.u))) fun σ H R ⟨ρ, env, st, rel, eo, q⟩ => ?_
  have q := PR.bind q
  cases e : uE f env st with
  | stuck => rw [e] at q; exact (show False from q).elim
  | exc x st1 => exact .inl ⟨ρ, env, st, rel, eo, by rw [e] at q ⊢; exact q⟩
  | ok u st1 =>
    rw [e] at q
    cases u with
    | ref n => exact (show False from q).elim
    | d x =>
      cases x with
      | tup xs =>
        refine .inr (.inl ⟨ρ, env, st, rel, eo, ?_⟩)
        rw [e]
        refine fun ρ1 H1 v ok => ?_
        have uv : DV (tx X) (hide H1 ρ1) (.tup xs) v := ok.2.2
        simp only [DV] at uv
        obtain ⟨a, vs, rfl, h1, h2⟩ := uv
        exact ⟨a, rfl, ⟨vs, SqT.same hide_le h1⟩, q ρ1 H1 _ ok.1 ok.2.1 (wk_tup h1 h2)⟩
      | lst xs =>
        refine .inl ⟨ρ, env, st, rel, eo, ?_⟩
        rw [e]
        refine fun ρ1 H1 v ok => ?_
        have uv : DV (tx X) (hide H1 ρ1) (.lst xs) v := ok.2.2
        simp only [DV] at uv
        obtain ⟨a, vs, rfl, h1, h2⟩ := uv
        exact ⟨a, rfl, ⟨vs, .inl (.inl (hide_le _ _ h1))⟩, q ρ1 H1 _ ok.1 ok.2.1 (wk_list' h1 h2)⟩
      | str z =>
        refine .inr (.inr ⟨ρ, env, st, rel, eo, ?_⟩)
        rw [e]
        refine fun ρ1 H1 v ok => ?_
        exact ⟨z, by simpa [UV, DV] using ok.2.2, q ρ1 H1 _ ok.1 ok.2.1 wk_str⟩
      | _ => exact (show False from q).elim
/-- range -/
def rangeD (lo : Int) (n : Nat) : List D := (List.range n).map fun (i : Nat) => D.int (lo + (i : Int))
theorem wk_range {ρ : Wd} {H : Hp} {lo : Int} {n : Nat} : Wk T ρ H (Itr lo n) (rangeD lo n) := fun ρ2 H2 hc sm _ i => by
  refine ⟨fun d e => ?_, fun hi => by
    show n ≤ i
    simpa [rangeD] using hi⟩
  unfold rangeD at e
  rw [List.getElem?_map] at e
  by_cases hi : i < n
  · rw [List.getElem?_range hi] at e
    cases e
    refine ⟨hi, fun x H3 ⟨e2, e3⟩ => ?_⟩
    subst e2; subst e3
    exact ⟨Same.refl _, dv_int⟩
  · rw [List.getElem?_eq_none (by simpa using hi)] at e
    cases e
abbrev B62 : Int := 4611686018427387904
def iRange (fa : FA) : FI := fun env st => (fa env st).bind fun us st => match us with
  | [.d (.int j)] => if -B62 ≤ j ∧ j < B62 then .ok (rangeD 0 j.toNat) st else .stuck
  | [.d (.int i), .d (.int j)] => if (-B62 ≤ i ∧ i < B62) ∧ (-B62 ≤ j ∧ j < B62) then .ok (rangeD i (j - i).toNat) st else .stuck
  | _ => .stuck
theorem pd1 {S : Hp} {ρ : Wd} {x : D} {vs : List V} (h : Paired (UV T S ρ) [.d x] vs) : ∃ v, vs = [v] ∧ DV T S x v := by
  cases h with
  | cons h t => cases t; exact ⟨_, rfl, h⟩
theorem pd2 {S : Hp} {ρ : Wd} {x y : D} {vs : List V} (h : Paired (UV T S ρ) [.d x, .d y] vs) : ∃ v w, vs = [v, w] ∧ DV T S x v ∧ DV T S y w := by
  cases h with
  | cons h t => cases t with
    | cons h2 t => cases t; exact ⟨_, _, rfl, h, h2⟩
theorem si_range1 {tg a : Expr} {fa : FA} {p pos : Pos} (hg : Gl X "range") (hm : X.mg "range" = none) (ha : SA X W [a] fa) (hs : starEach [a] X.env = [(false, eval a X.env)] := by rfl) (h1 : ∀ env st us st', fa env st = .ok us st' → us.length = 1) : SI X W tg (.Call (.Name "range" p) [a] [] pos) (iRange fa) := by
  refine pi_weak (pi_range1 hg hm ha hs) fun σ H R ⟨ρ, env, st, rel, eo, q⟩ => ⟨ρ, env, st, rel, eo, ?_⟩
  have q := PR.bind q
  cases e : fa env st with
  | stuck => rw [e] at q; exact (show False from q).elim
  | exc x st1 => rw [e] at q; exact q
  | ok us st1 =>
    rw [e] at q
    refine fun ρ1 H1 vs ok => ?_
    have hl := h1 _ _ _ _ e
    replace q := PR.ok q
    split at q
    · rename_i j
      obtain ⟨v, rfl, hv⟩ := pd1 ok.2.2
      cases (show v = .int j by simpa [DV] using hv)
      split at q
      · rename_i hb
        exact ⟨j, rfl, by simpa using hb.1, by simpa using hb.2, q ρ1 H1 _ ok.1 ok.2.1 wk_range⟩
      · exact (show False from q).elim
    · simp at hl
    · exact (show False from q).elim
theorem len1 {f : FE} : ∀ env st us st', aCons f aNil env st = .ok us st' → us.length = 1 := fun env st us st' h => by
  unfold aCons aNil at h
  cases e : uE f env st with
  | ok x s => rw [e] at h; cases h; rfl
  | exc x s => rw [e] at h; cases h
  | stuck => rw [e] at h; cases h
theorem len2 {f g : FE} : ∀ env st us st', aCons f (aCons g aNil) env st = .ok us st' → us.length = 2 := fun env st us st' h => by
  unfold aCons aNil at h
  cases e : uE f env st with
  | ok x s =>
    rw [e] at h
    simp only [Res.bind_ok] at h
    cases e2 : uE g env s with
    | ok y s2 => rw [e2] at h; cases h; rfl
    | exc x s => rw [e2] at h; cases h
    | stuck => rw [e2] at h; cases h
  | exc x s => rw [e] at h; cases h
  | stuck => rw [e] at h; cases h
theorem si_range2 {tg a b : Expr} {fa : FA} {p pos : Pos} (hg : Gl X "range") (hm : X.mg "range" = none) (ha : SA X W [a, b] fa) (h1 : ∀ env st us st', fa env st = .ok us st' → us.length = 2)
    (hs : starEach [a, b] X.env = [(false, eval a X.env), (false, eval b X.env)] := by rfl) (hs2 : starEach [b] X.env = [(false, eval b X.env)] := by rfl) : SI X W tg (.Call (.Name "range" p) [a, b] [] pos) (iRange fa) := by
  refine pi_weak (pi_range2 hg hm ha hs hs2) fun σ H R ⟨ρ, env, st, rel, eo, q⟩ => ⟨ρ, env, st, rel, eo, ?_⟩
  have q := PR.bind q
  cases e : fa env st with
  | stuck => rw [e] at q; exact (show False from q).elim
  | exc x st1 => rw [e] at q; exact q
  | ok us st1 =>
    rw [e] at q
    refine fun ρ1 H1 vs ok => ?_
    have hl := h1 _ _ _ _ e
    replace q := PR.ok q
    split at q
    · simp at hl
    · rename_i i j
      obtain ⟨v, w, rfl, hv, hw⟩ := pd2 ok.2.2
      cases (show v = .int i by simpa [DV] using hv)
      cases (show w = .int j by simpa [DV] using hw)
      split at q
      · rename_i hb
        exact ⟨i, j, rfl, ⟨by simpa using hb.1.1, by simpa using hb.1.2, by simpa using hb.2.1, by simpa using hb.2.2⟩, q ρ1 H1 _ ok.1 ok.2.1 wk_range⟩
      · exact (show False from q).elim
    · exact (show False from q).elim
/-- zip -/
def zipD : List D → List D → List D
  | x :: xs, y :: ys => .tup [x, y] :: zipD xs ys
  | _, _ => []
theorem zipD_get : ∀ {xs ys : List D} {i : Nat} {d : D}, (zipD xs ys)[i]? = some d → ∃ x y, xs[i]? = some x ∧ ys[i]? = some y ∧ d = .tup [x, y]
  | [], _, _, _, h => by simp [zipD] at h
  | _ :: _, [], _, _, h => by simp [zipD] at h
  | x :: xs, y :: ys, 0, d, h => ⟨x, y, rfl, rfl, by simpa [zipD] using h.symm⟩
  | x :: xs, y :: ys, i + 1, d, h => zipD_get (i := i) (by simpa [zipD] using h)
theorem zipD_len : ∀ (xs ys : List D), (zipD xs ys).length = min xs.length ys.length
  | [], ys => by simp [zipD]
  | _ :: _, [] => by simp [zipD]
  | x :: xs, y :: ys => by simp [zipD, zipD_len xs ys]
def iZip (fa : FA) : FI := fun env st => (fa env st).bind fun us st => match us with
  | [.d (.lst xs), .d (.lst ys)] => .ok (zipD xs ys) st
  | [.d (.tup xs), .d (.tup ys)] => .ok (zipD xs ys) st
  | _ => .stuck
theorem pair_new {ρ2 : Wd} {H2 : Hp} {t : Addr} {d e : D} {v w : V} (hn : H2 t = none) (hx : ∀ a ∈ ρ2.all, ∃ o, H2 a = some o) (h1 : DV T (hide H2 ρ2) d v) (h2 : DV T (hide H2 ρ2) e w) : Same H2 (upd H2 t (.tup [v, w])) ∧ DV T (hide (upd H2 t (.tup [v, w])) ρ2) (.tup [d, e]) (.ref t) := by
  have s := same_new (o := HO.tup [v, w]) hn
  refine ⟨s, ?_⟩
  have ht : t ∉ ρ2.all := fun z => by
    obtain ⟨o, e⟩ := hx t z
    rw [hn] at e; cases e
  simp only [DV]
  exact ⟨t, [v, w], rfl, .inl (.inl (hide_of upd_same ht)), DVs.cons (DV.mono (same_hide s) _ _ h1) (DVs.cons (DV.mono (same_hide s) _ _ h2) DVs.nil)⟩
theorem wk_zipL {ρ : Wd} {H : Hp} {a b : Addr} {vs ws : List V} {ds es : List D} (ha : hide H ρ a = some (.lst vs)) (hb : hide H ρ b = some (.lst ws)) (da : DVs T (hide H ρ) ds vs) (db : DVs T (hide H ρ) es ws) : Wk T ρ H (Itz T.K a b) (zipD ds es) := fun ρ2 H2 hc sm hx i => by
  have la : SqL T.K H2 a vs := .inl (.inl (hide_some (sm _ _ ha)).2)
  have lb : SqL T.K H2 b ws := .inl (.inl (hide_some (sm _ _ hb)).2)
  refine ⟨fun d e => ?_, fun hi => ?_⟩
  · obtain ⟨x, y, e1, e2, rfl⟩ := zipD_get e
    obtain ⟨v, f1, q1⟩ := da.get e1
    obtain ⟨w, f2, q2⟩ := db.get e2
    refine ⟨⟨vs, ws, v, w, la, lb, f1, f2⟩, fun x H3 ⟨t, v', w', e3, hn, e4, g1, g2⟩ => ?_⟩
    subst e3; subst e4
    have k1 := g1 vs la
    have k2 := g2 ws lb
    rw [f1] at k1; cases k1
    rw [f2] at k2; cases k2
    exact pair_new hn hx (DV.mono sm _ _ q1) (DV.mono sm _ _ q2)
  · rw [zipD_len] at hi
    refine ⟨vs, ws, la, lb, ?_⟩
    rw [da.length, db.length]
    omega
theorem wk_zipT {ρ : Wd} {H : Hp} {a b : Addr} {vs ws : List V} {ds es : List D} (ha : SqT T.K (hide H ρ) a vs) (hb : SqT T.K (hide H ρ) b ws) (da : DVs T (hide H ρ) ds vs) (db : DVs T (hide H ρ) es ws) : Wk T ρ H (ItzT T.K a b) (zipD ds es) := fun ρ2 H2 hc sm hx i => by
  have la : SqT T.K H2 a vs := SqT.same hide_le (SqT.same sm ha)
  have lb : SqT T.K H2 b ws := SqT.same hide_le (SqT.same sm hb)
  refine ⟨fun d e => ?_, fun hi => ?_⟩
  · obtain ⟨x, y, e1, e2, rfl⟩ := zipD_get e
    obtain ⟨v, f1, q1⟩ := da.get e1
    obtain ⟨w, f2, q2⟩ := db.get e2
    refine ⟨⟨vs, ws, v, w, la, lb, f1, f2⟩, fun x H3 ⟨t, v', w', e3, hn, e4, g1, g2⟩ => ?_⟩
    subst e3; subst e4
    have k1 := g1 vs la
    have k2 := g2 ws lb
    rw [f1] at k1; cases k1
    rw [f2] at k2; cases k2
    exact pair_new hn hx (DV.mono sm _ _ q1) (DV.mono sm _ _ q2)
  · rw [zipD_len] at hi
    refine ⟨vs, ws, la, lb, ?_⟩
    rw [da.length, db.length]
    omega
theorem si_zip {e e2 : Expr} {fa : FA} {p pos tpos : Pos} {elts : List Expr} {kk : Nat} (hg : Gl X "zip") (hm : X.mg "zip" = none) (ha : SA X W [e, e2] fa)
    (hs : starEach [e, e2] X.env = (false, eval e X.env) :: starEach [e2] X.env := by rfl) (hpl : (backTo pos (starEach [e2] X.env)).any (·.1) = false := by rfl) : SI X W (.Tuple elts kk tpos) (.Call (.Name "zip" p) [e, e2] [] pos) (iZip fa) := by
  refine pi_weak (pi_zipA hg hm ha hs hpl) fun σ H R ⟨ρ, env, st, rel, eo, q⟩ => ⟨ρ, env, st, rel, eo, (PR.bind q).mono fun us st1 q ρ1 H1 vs ok => ?_⟩
  split at q
  · obtain ⟨v, w, rfl, hv, hw⟩ := pd2 ok.2.2
    simp only [DV] at hv hw
    obtain ⟨a, vs, rfl, h1, h2⟩ := hv
    obtain ⟨b, ws, rfl, h3, h4⟩ := hw
    exact ⟨a, b, vs, ws, rfl, .inl ⟨.inl (.inl (hide_le _ _ h1)), .inl (.inl (hide_le _ _ h3)), q ρ1 H1 _ ok.1 ok.2.1 (wk_zipL h1 h3 h2 h4)⟩⟩
  · obtain ⟨v, w, rfl, hv, hw⟩ := pd2 ok.2.2
    simp only [DV] at hv hw
    obtain ⟨a, vs, rfl, h1, h2⟩ := hv
    obtain ⟨b, ws, rfl, h3, h4⟩ := hw
    exact ⟨a, b, vs, ws, rfl, .inr ⟨SqT.same hide_le h1, SqT.same hide_le h3, q ρ1 H1 _ ok.1 ok.2.1 (wk_zipT h1 h3 h2 h4)⟩⟩
  · exact (show False from q).elim
/-- enumerate of a list -/
def enumD (i : Int) : List D → List D
  | [] => []
  | x :: xs => .tup [.int i, x] :: enumD (i + 1) xs
theorem enumD_get : ∀ {xs : List D} {k : Int} {i : Nat} {d : D}, (enumD k xs)[i]? = some d → ∃ x, xs[i]? = some x ∧ d = .tup [.int (k + i), x]
  | [], _, _, _, h => by simp [enumD] at h
  | x :: xs, k, 0, d, h => ⟨x, rfl, by simpa [enumD] using h.symm⟩
  | x :: xs, k, i + 1, d, h => by
    obtain ⟨y, e1, e2⟩ := enumD_get (xs := xs) (k := k + 1) (i := i) (d := d) (by simpa [enumD] using h)
    exact ⟨y, by simpa using e1, by rw [e2]; congr 3; omega⟩
theorem enumD_len : ∀ (k : Int) (xs : List D), (enumD k xs).length = xs.length
  | _, [] => rfl
  | k, x :: xs => by simp [enumD, enumD_len (k + 1) xs]
def iEnum (fa : FA) : FI := fun env st => (fa env st).bind fun us st => match us with
  | [.d (.lst xs)] => .ok (enumD 0 xs) st
  | _ => .stuck
theorem wk_enum {ρ : Wd} {H : Hp} {a : Addr} {vs : List V} {ds : List D} (ha : hide H ρ a = some (.lst vs)) (da : DVs T (hide H ρ) ds vs) : Wk T ρ H (Ite T.K a) (enumD 0 ds) := fun ρ2 H2 hc sm hx i => by
  have la : SqL T.K H2 a vs := .inl (.inl (hide_some (sm _ _ ha)).2)
  refine ⟨fun d e => ?_, fun hi => ⟨vs, la, by rw [da.length]; simpa [enumD_len] using hi⟩⟩
  obtain ⟨x, e1, rfl⟩ := enumD_get e
  obtain ⟨v, f1, q1⟩ := da.get e1
  refine ⟨⟨vs, v, la, f1⟩, fun y H3 ⟨t, v', e3, hn, e4, g1⟩ => ?_⟩
  subst e3; subst e4
  have k1 := g1 vs la
  rw [f1] at k1; cases k1
  exact pair_new hn hx (by rw [Int.zero_add]; exact dv_int) (DV.mono sm _ _ q1)
theorem si_enum {e : Expr} {fa : FA} {p pos tpos : Pos} {elts : List Expr} {kk : Nat} (hg : Gl X "enumerate") (hm : X.mg "enumerate" = none) (ha : SA X W [e] fa) (hs : starEach [e] X.env = [(false, eval e X.env)] := by rfl) : SI X W (.Tuple elts kk tpos) (.Call (.Name "enumerate" p) [e] [] pos) (iEnum fa) := by
  refine pi_weak (pi_enum hg hm ha hs) fun σ H R ⟨ρ, env, st, rel, eo, q⟩ => ⟨ρ, env, st, rel, eo, (PR.bind q).mono fun us st1 q ρ1 H1 vs ok => ?_⟩
  split at q
  · obtain ⟨v, rfl, hv⟩ := pd1 ok.2.2
    simp only [DV] at hv
    obtain ⟨a, vs, rfl, h1, h2⟩ := hv
    exact ⟨a, vs, rfl, .inl (.inl (hide_le _ _ h1)), q ρ1 H1 _ ok.1 ok.2.1 (wk_enum h1 h2)⟩
  · exact (show False from q).elim

/-! for -/
def forL (g : FG) (b : FS) : List D → FS
  | [], env, st => .ok (.nx env) st
  | d :: r, env, st => (g (.d d) env st).bind fun env st => (b env st).bind fun fl st => match fl with
    | .nx env => forL g b r env st
    | .ct env => forL g b r env st
    | .bk env => .ok (.nx env) st
    | .rt x => .ok (.rt x) st
def sFor (it : FI) (g : FG) (b : FS) : FS := fun env st => (it env st).bind fun items st => forL g b items env st
theorem drop_cons {α : Type} {l : List α} {i : Nat} {x : α} (h : l[i]? = some x) : l.drop i = x :: l.drop (i + 1) := by
  have hi := (List.getElem?_eq_some_iff.mp h).1
  rw [List.drop_eq_getElem_cons hi, (List.getElem?_eq_some_iff.mp h).2]
theorem ss_for [Ind W] {tg iter : Expr} {body : List Stmt} {it : FI} {g : FG} {b : FS} {is : List Nat} {pos : Pos} (hp : PassesOwn (model X.prog X.w) X.A X.env X.xe) (hi : SI X W tg iter it) (hg : SG X W tg g is) (hb : SSs X W body b) (hc : X.calm = true := by rfl)
    (hs : ∀ x, foldedSetIterable iter X.env x = pure x := by intro _; rfl) : SS X W (.For tg iter body [] pos) (sFor it g b) := by
  refine PS.weak (ps_for hp hc hi hg hb hs) fun D σ H ⟨ρ, env, st, rel, eo, q⟩ => ⟨ρ, env, st, rel, eo, (PR.bind q).mono fun items st1 q ρ1 H1 J e1 r1 wk => ?_⟩
  refine ⟨fun i m σ' H' => m = items.length - i ∧ i ≤ items.length ∧ ∃ ρ2 env2 st2, Ext ρ1 H1 ρ2 H' ∧ Rel (tx X) ρ2 st2 H' ∧ EnvOk (tx X) (hide H' ρ2) ρ2 σ' env2 ∧ PF (tx X) W σ' ρ2 H' D (forL g b (items.drop i) env2 st2),
    ⟨items.length, by simp, Nat.zero_le _, ρ1, env, st1, Ext.refl _ _, r1, eo.mono e1, by rw [List.drop_zero]; exact PF.ext e1 q⟩, ?_⟩
  rintro i m σ2 H2 ⟨rfl, hi, ρ2, env2, st2, e2, r2, eo2, q2⟩
  have wk' := wk ρ2 H2 (fun n a h => e2.get h) e2.same (fun a ha => r2.some ha) i
  by_cases hlt : i < items.length
  · have hget : items[i]? = some items[i] := List.getElem?_eq_getElem hlt
    obtain ⟨go, yl⟩ := wk'.1 _ hget
    refine .inr ⟨go, fun σ' H' => ∃ ρ3 env3 st3, Ext ρ1 H1 ρ3 H' ∧ Rel (tx X) ρ3 st3 H' ∧ EnvOk (tx X) (hide H' ρ3) ρ3 σ' env3 ∧ PF (tx X) W σ' ρ3 H' D (forL g b (items.drop (i + 1)) env3 st3),
      fun σ' H' ⟨ρ3, env3, st3, a1, a2, a3, a4⟩ => ⟨items.length - (i + 1), by omega, rfl, hlt, ρ3, env3, st3, a1, a2, a3, a4⟩, fun x H3 hy => ?_⟩
    obtain ⟨sm, dv⟩ := yl x H3 hy
    obtain ⟨r3, e3⟩ := rel_grow (ρ := ρ2) r2 sm
    rw [drop_cons hget] at q2
    refine ⟨ρ2, env2, st2, .d items[i], r3, eo2.mono e3, dv, PR.ext e3 (PR.bind q2) fun env4 st4 q4 ρ4 H4 σ4 _ e4 r4 eo4 => ?_⟩
    refine ⟨ρ4, env4, st4, r4, eo4, PR.ext (e3.trans e4) (PR.ind (PR.bind q4)) fun fl st5 q5 => ?_⟩
    have e24 := e2.trans (e3.trans e4)
    cases fl with
    | nx env5 => exact fun ρ5 H5 σ5 e5 r5 eo5 => ⟨ρ5, env5, st5, e24.trans e5, r5, eo5, PF.ext (e3.trans (e4.trans e5)) q5⟩
    | ct env5 => exact fun ρ5 H5 σ5 e5 r5 eo5 => ⟨ρ5, env5, st5, e24.trans e5, r5, eo5, PF.ext (e3.trans (e4.trans e5)) q5⟩
    | bk env5 => exact fun ρ5 H5 σ5 e5 r5 eo5 => q5 ρ5 H5 σ5 (e3.trans (e4.trans e5)) r5 eo5
    | rt x5 => exact fun ρ5 H5 v5 ok => q5 ρ5 H5 v5 (OkVal.ext (e3.trans e4) ok)
  · have hge : items.length ≤ i := by omega
    refine .inl ⟨wk'.2 hge, ?_⟩
    rw [List.drop_eq_nil_of_le hge] at q2
    exact q2 ρ2 H2 σ2 (Ext.refl _ _) r2 eo2
/-! while -/
def whL (t : FT) (b : FS) : Nat → FS
  | 0, _, _ => .stuck
  | n + 1, env, st => (t env st).bind fun c st => if c = true then (b env st).bind fun fl st => match fl with
      | .nx env => whL t b n env st
      | .ct env => whL t b n env st
      | .bk env => .ok (.nx env) st
      | .rt x => .ok (.rt x) st
    else .ok (.nx env) st
/-- n: more turns than it takes -/
def sWh (n : Nat) (t : FT) (b : FS) : FS := fun env st => whL t b n env st
theorem ss_while [Ind W] {c : Expr} {body : List Stmt} {t : FT} {b : FS} {pos : Pos} (n : Nat) (hp : PassesOwn (model X.prog X.w) X.A X.env X.xe) (hc : ST X W c t) (hb : SSs X W body b) : SS X W (.While c body [] pos) (sWh n t b) := by
  refine PS.weak (ps_while hp hc hb) fun D σ H ⟨ρ, env, st, rel, eo, q⟩ => ?_
  refine ⟨fun m σ' H' => ∃ ρ2 env2 st2, Rel (tx X) ρ2 st2 H' ∧ EnvOk (tx X) (hide H' ρ2) ρ2 σ' env2 ∧ PF (tx X) W σ' ρ2 H' D (whL t b m env2 st2), ⟨n, ρ, env, st, rel, eo, q⟩, ?_⟩
  rintro m σ2 H2 ⟨ρ2, env2, st2, r2, eo2, q2⟩
  cases m with
  | zero => exact (show False from q2).elim
  | succ m =>
    refine ⟨ρ2, env2, st2, r2, eo2, (PR.bind q2).mono fun c st3 q3 ρ3 H3 e3 r3 => ?_⟩
    cases c with
    | false => exact q3 ρ3 H3 σ2 e3 r3 (eo2.mono e3)
    | true =>
      rw [if_pos rfl]
      refine ⟨fun σ' H' => ∃ ρ4 env4 st4, Rel (tx X) ρ4 st4 H' ∧ EnvOk (tx X) (hide H' ρ4) ρ4 σ' env4 ∧ PF (tx X) W σ' ρ4 H' D (whL t b m env4 st4), fun σ' H' h => ⟨m, Nat.lt_succ_self _, h⟩, ?_⟩
      refine ⟨ρ3, env2, st3, r3, eo2.mono e3, PR.ext e3 (PR.bind q3) fun fl st5 q5 => ?_⟩
      cases fl with
      | nx env5 => exact fun ρ5 H5 σ5 e5 r5 eo5 => ⟨ρ5, env5, st5, r5, eo5, PF.ext (e3.trans e5) q5⟩
      | ct env5 => exact fun ρ5 H5 σ5 e5 r5 eo5 => ⟨ρ5, env5, st5, r5, eo5, PF.ext (e3.trans e5) q5⟩
      | bk env5 => exact fun ρ5 H5 σ5 e5 r5 eo5 => q5 ρ5 H5 σ5 (e3.trans e5) r5 eo5
      | rt x5 => exact fun ρ5 H5 v5 ok => q5 ρ5 H5 v5 (OkVal.ext e3 ok)
end G

set_option maxHeartbeats 2000000
namespace G
open PySem PySem.Spec PyProof.Rows L2
variable {X : Cx} {W : WX} {T : Tx}

/-! a list that grows, as a thing that is kept -/
def Wd.frame (w : Wd) (p : Addr) (o : HO) : Wd := ⟨w.c, (p, o) :: w.e⟩
theorem mem_frame {w : Wd} {p a : Addr} {o : HO} : a ∈ (w.frame p o).all ↔ a ∈ (w.push p).all := by
  rw [Wd.all_push]
  simp only [Wd.all, Wd.frame, List.mem_append, List.map_cons, List.mem_cons]
  constructor
  · rintro (h | h | h)
    · exact .inl (.inl h)
    · exact .inr h
    · exact .inl (.inr h)
  · rintro ((h | h) | h)
    · exact .inl h
    · exact .inr (.inr h)
    · exact .inr (.inl h)
theorem hide_frame {H : Hp} {w : Wd} {p : Addr} {o : HO} : hide H (w.frame p o) = hide H (w.push p) := by
  funext a
  unfold hide
  by_cases h : a ∈ (w.push p).all
  · rw [if_pos h, if_pos (mem_frame.mpr h)]
  · rw [if_neg h, if_neg fun z => h (mem_frame.mp z)]
theorem frame_of {ρ ρ2 : Wd} {H1 H : Hp} {acc : List D} {st : Store} {p : Addr} (b : OkBox T ρ H1 (.lst acc) st ρ2 H p) : ∃ vs, H p = some (.lst vs) ∧ DVs T (hide H (ρ2.frame p (.lst vs))) acc vs ∧ Rel T (ρ2.frame p (.lst vs)) st H ∧ Same (hide H1 ρ) (hide H (ρ2.frame p (.lst vs))) := by
  obtain ⟨ext, pre, rel, nin, o, hp, vs, rfl, dv⟩ := b
  refine ⟨vs, hp, by rw [hide_frame]; exact dv, ⟨?_, rel.len, fun n a c h1 h2 => ?_, fun q hq => ?_⟩, by rw [hide_frame]; exact ext.same⟩
  · have e : (ρ2.frame p (.lst vs)).all.Perm (p :: ρ2.all) := by
      show (ρ2.c ++ p :: ρ2.e.map (·.1)).Perm (p :: (ρ2.c ++ ρ2.e.map (·.1)))
      exact List.perm_middle
    exact e.nodup_iff.mpr (List.nodup_cons.mpr ⟨nin, rel.nd⟩)
  · obtain ⟨o, q1, q2⟩ := rel.cell n a c h1 h2
    exact ⟨o, q1, q2.mono (by rw [hide_frame]; exact Same.refl _)⟩
  · rcases List.mem_cons.mp hq with rfl | hq
    · exact hp
    · exact rel.frm q hq
/-- back, with one more item -/
theorem of_frame {ρ ρ2 ρ3 : Wd} {H1 H H3 : Hp} {acc acc' : List D} {st st3 : Store} {p : Addr} {vs vs' : List V} (b : OkBox T ρ H1 (.lst acc) st ρ2 H p) (e : Ext (ρ2.frame p (.lst vs)) H ρ3 H3) (r : Rel T ρ3 st3 H3) (dv : DVs T (hide H3 ρ3) acc' vs') :
    ∃ ρ4, OkBox T ρ H1 (.lst acc') st3 ρ4 (upd H3 p (.lst vs')) p := by
  obtain ⟨⟨more, e1⟩, sm⟩ := e
  obtain ⟨ext, ⟨m0, e0⟩, rel, nin, o, hp, vs0, rfl, dv0⟩ := b
  refine ⟨⟨ρ2.c ++ more, ρ2.e⟩, ?_⟩
  have e3 : ρ3 = (⟨ρ2.c ++ more, ρ2.e⟩ : Wd).frame p (.lst vs) := e1
  have hm : p ∈ ρ3.all := by
    rw [e3]
    exact mem_frame.mpr (Wd.all_push.mpr (.inr rfl))
  have hh : hide (upd H3 p (.lst vs')) ((⟨ρ2.c ++ more, ρ2.e⟩ : Wd).push p) = hide H3 ρ3 := by
    rw [← hide_frame (o := .lst vs), ← e3]
    funext a
    unfold hide
    by_cases ha : a ∈ ρ3.all
    · rw [if_pos ha, if_pos ha]
    · rw [if_neg ha, if_neg ha, upd_ne fun (z : a = p) => ha (by rw [z]; exact hm)]
  have pnd : (p :: (⟨ρ2.c ++ more, ρ2.e⟩ : Wd).all).Nodup := by
    have e4 : ρ3.all.Perm (p :: (⟨ρ2.c ++ more, ρ2.e⟩ : Wd).all) := by
      rw [e3]
      exact List.perm_middle
    exact e4.nodup_iff.mp r.nd
  obtain ⟨nin', nd'⟩ := List.nodup_cons.mp pnd
  have ne : ∀ a ∈ (⟨ρ2.c ++ more, ρ2.e⟩ : Wd).all, a ≠ p := fun a ha z => nin' (by rw [← z]; exact ha)
  refine ⟨⟨⟨m0 ++ more ++ [p], ?_⟩, ?_⟩, ⟨m0 ++ more, by rw [e0]; simp⟩, ⟨nd', ?_, fun n a c h1 h2 => ?_, fun q hq => ?_⟩, nin', .lst vs', upd_same, vs', rfl, by rw [hh]; exact dv⟩
  · rw [e0]; simp [Wd.push]
  · rw [hh]
    have s1 : Same (hide H1 ρ) (hide H (ρ2.push p)) := ext.same
    rw [hide_frame] at sm
    exact s1.trans sm
  · have := r.len
    rw [e3] at this
    exact this
  · have h1' : ρ3.c[n]? = some a := by rw [e3]; exact h1
    obtain ⟨o, q1, q2⟩ := r.cell n a c h1' h2
    rw [hh]
    exact ⟨o, by rw [upd_ne (ne a (List.mem_append_left _ (List.mem_of_getElem? h1)))]; exact q1, q2.mono (Same.refl _)⟩
  · rw [upd_ne (ne q.1 (List.mem_append_right _ (List.mem_map.mpr ⟨q, hq, rfl⟩)))]
    refine r.frm q ?_
    rw [e3]
    exact List.mem_cons_of_mem _ hq

/-! [e for x in xs if t] -/
def lcL (g : FG) (t : FT) (fe : FE) (env0 : Sl) : List D → Store → Res (List D)
  | [], st => .ok [] st
  | d :: r, st => (g (.d d) env0 st).bind fun env st => (t env st).bind fun b st => if b = true then (uE fe env st).bind fun y st => match y with
      | .d y => (lcL g t fe env0 r st).bind fun ys st => .ok (y :: ys) st
      | .ref _ => .stuck
    else lcL g t fe env0 r st
def wipeE (env : Sl) : List Nat → Sl
  | [] => env
  | v :: vs => (wipeE env vs).set v none
theorem EnvOk.wipe {S : Hp} {ρ : Wd} {σ : L2.St} {env : Sl} (h : EnvOk T S ρ σ env) : ∀ vs, EnvOk T S ρ (wipe σ vs) (wipeE env vs)
  | [] => h
  | v :: vs => by
    have ih := EnvOk.wipe h vs
    refine ⟨by simp [L2.wipe, wipeE, ih.len], fun i u e => ?_⟩
    unfold wipeE at e
    unfold L2.wipe
    by_cases hi : v = i
    · subst hi
      by_cases hv : v < (wipeE env vs).length
      · rw [List.getElem?_set_self hv] at e; cases e
      · rw [List.getElem?_eq_none (by simpa using hv)] at e; cases e
    · rw [List.getElem?_set_ne hi] at e ⊢
      exact ih.get i u e
theorem EnvOk.to {ρ ρ' : Wd} {H H' : Hp} {σ : L2.St} {env : Sl} (h : EnvOk T (hide H ρ) ρ σ env) (s : Same (hide H ρ) (hide H' ρ')) (c : ∀ (n : Nat) (a : Addr), ρ.c[n]? = some a → ρ'.c[n]? = some a) : EnvOk T (hide H' ρ') ρ' σ env := ⟨h.len, fun i u q => by
  obtain ⟨v, e1, h1⟩ := h.get i u q
  refine ⟨v, e1, ?_⟩
  cases u with
  | d x => exact DV.mono s _ _ h1
  | ref n =>
    obtain ⟨a, q, ev⟩ := h1
    exact ⟨a, c n a q, ev⟩⟩
theorem wipe_keep {σ σ2 : L2.St} : ∀ {vs is : List Nat}, (∀ j ∈ is, j ∈ vs) → (∀ j, j ∉ is → σ2[j]? = (wipe σ vs)[j]?) → σ2.length = σ.length → wipe σ2 vs = wipe σ vs := by
  intro vs is hs hk hl
  apply List.ext_getElem?
  intro j
  have wl : ∀ (τ : L2.St) (us : List Nat) (i : Nat), (wipe τ us)[i]? = if i ∈ us ∧ i < τ.length then some none else τ[i]? := by
    intro τ us
    induction us with
    | nil => intro i; simp [L2.wipe]
    | cons v us ih =>
      intro i
      unfold L2.wipe
      by_cases hi : v = i
      · subst hi
        by_cases hv : v < τ.length
        · rw [List.getElem?_set_self (by rw [wipe_length]; exact hv), if_pos ⟨by simp, hv⟩]
        · rw [List.getElem?_eq_none (by rw [List.length_set, wipe_length]; omega), if_neg (fun z => hv z.2), List.getElem?_eq_none (by omega)]
      · rw [List.getElem?_set_ne hi, ih i]
        by_cases hc : i ∈ us ∧ i < τ.length
        · rw [if_pos hc, if_pos ⟨List.mem_cons_of_mem _ hc.1, hc.2⟩]
        · rw [if_neg hc, if_neg]
          rintro ⟨h1, h2⟩
          rcases List.mem_cons.mp h1 with h1 | h1
          · exact hi h1.symm
          · exact hc ⟨h1, h2⟩
  rw [wl σ2 vs j, wl σ vs j, hl]
  by_cases hc : j ∈ vs ∧ j < σ.length
  · rw [if_pos hc, if_pos hc]
  · rw [if_neg hc, if_neg hc]
    by_cases hj : j ∈ is
    · have h1 := hs j hj
      have h2 : σ.length ≤ j := by
        have : ¬ j < σ.length := fun z => hc ⟨h1, z⟩
        omega
      rw [List.getElem?_eq_none (by omega), List.getElem?_eq_none (by omega)]
    · rw [hk j hj, wl σ vs j, if_neg hc]
def noX {α : Type} (r : Res α) : Res α := match r with
  | .exc _ _ => .stuck
  | r => r
def fLc (it : FI) (g : FG) (t : FT) (fe : FE) (own : List Nat) : FE := fun env st => (it env st).bind fun items st => if items.length ≤ LIM then (noX (lcL g t fe (wipeE env own) items st)).bind fun ys st => .ok (.box (.lst ys)) st else .stuck
def tYesF : FT := fun _ st => .ok true st
abbrev STs (X : Cx) (W : WX) (es : List Expr) (f : FT) : Prop := PTs X es (TGT (tx X) W f)
theorem pts_weak {e : List Expr} {t t' : TT} (h : PTs X e t) (w : ∀ σ H Q, t' σ H Q → t σ H Q) : PTs X e t' := ⟨fun pins s σ H Q I q => h.run pins s σ H Q I (w σ H Q q)⟩
theorem sts_nil : STs X W [] tYesF := pts_weak pts_nil fun σ H Q ⟨ρ, env, st, rel, eo, q⟩ => q ρ H (Ext.refl _ _) rel
theorem sts_one {e : Expr} {t : FT} (h : ST X W e t) : STs X W [e] t := pts_one h
/-- it ends without an error -/
def PK {α : Type} (r : Res α) (K : α → Store → Prop) : Prop := match r with
  | .ok a st => K a st
  | _ => False
theorem PK.bind {α β : Type} {r : Res α} {k : α → Store → Res β} {K : β → Store → Prop} (h : PK (r.bind k) K) : PK r fun a st => PK (k a st) K := by
  cases r <;> exact h
theorem PK.mono {α : Type} {r : Res α} {K K' : α → Store → Prop} (h : PK r K) (hk : ∀ a st, K a st → K' a st) : PK r K' := by
  cases r with
  | ok a st => exact hk a st h
  | exc x st => exact h
  | stuck => exact h
theorem PK.pr {α : Type} {σ : L2.St} {ρ : Wd} {H : Hp} {r : Res α} {K : α → Store → Prop} (h : PK r K) : PR T W σ ρ H r K := by
  cases r with
  | ok a st => exact h
  | exc x st => exact (show False from h).elim
  | stuck => exact h
theorem pk_nox {α β : Type} {σ : L2.St} {ρ : Wd} {H : Hp} {r : Res α} {k : α → Store → Res β} {K : β → Store → Prop} (h : PR T W σ ρ H ((noX r).bind k) K) : PK r fun a st => PR T W σ ρ H (k a st) K := by
  cases r with
  | ok a st => exact h
  | exc x st => exact (show False from h).elim
  | stuck => exact (show False from h).elim
theorem lc_read {it : FI} {g : FG} {t : FT} {fe : FE} {own is : List Nat} (his : ∀ j ∈ is, j ∈ own) : ∀ σ H Q, TG (tx X) W (fLc it g t fe own) σ H Q → tLc (TGI (tx X) W it) (TGG (tx X) W0 g is) (TGT (tx X) W0 t) (TGU (tx X) W0 (uE fe)) own σ H Q := fun σ H Q ⟨ρ, env, st, rel, eo, q⟩ => by
  refine ⟨ρ, env, st, rel, eo, (PR.bind q).mono fun items st1 q ρ1 H1 J e1 r1 wk => ?_⟩
  by_cases hL : items.length ≤ LIM
  · rw [if_pos hL] at q
    have q : PK (lcL g t fe (wipeE env own) items st1) fun ys st' => ∀ ρ' H' v, OkVal (tx X) ρ H (.box (.lst ys)) st' ρ' H' v → Q v H' := pk_nox q
    intro L hL0
    have b0 : OkBox (tx X) ρ1 H1 (.lst []) st1 ρ1 (upd H1 L (.lst [])) L := by
      obtain ⟨p, hp, b⟩ := ok_lst (vs := []) (ds := []) r1 hL0 DVs.nil
      cases hp
      exact b
    refine ⟨fun i m H' => m = items.length - i ∧ i ≤ items.length ∧ ∃ ρ2 st2 acc, OkBox (tx X) ρ1 H1 (.lst acc) st2 ρ2 H' L ∧ acc.length ≤ i ∧ PK (lcL g t fe (wipeE env own) (items.drop i) st2) fun ys st' => ∀ ρ' H'', OkBox (tx X) ρ1 H1 (.lst (acc ++ ys)) st' ρ' H'' L → Q (.ref L) H'',
      ⟨items.length, by simp, Nat.zero_le _, ρ1, st1, [], b0, Nat.le_refl _, by rw [List.drop_zero]; exact q.mono fun ys st' q ρ' H'' ok => q ρ' H'' (.ref L) (OkVal.ext e1 ⟨L, rfl, ok⟩)⟩, ?_⟩
    rintro i m H2 ⟨rfl, hi, ρ2, st2, acc, b2, hacc, q2⟩
    obtain ⟨vs, hp, dv, r2, s2⟩ := frame_of b2
    have cc : ∀ (n : Nat) (a : Addr), ρ1.c[n]? = some a → (ρ2.frame L (.lst vs)).c[n]? = some a := fun n a h => by
      obtain ⟨m0, e0⟩ := b2.pre
      show ρ2.c[n]? = some a
      rw [e0]
      show (ρ1.c ++ m0)[n]? = some a
      rw [List.getElem?_append_left (List.getElem?_eq_some_iff.mp h).1]
      exact h
    have wk' := wk (ρ2.frame L (.lst vs)) H2 cc s2 (fun a ha => r2.some ha) i
    by_cases hlt : i < items.length
    · have hget : items[i]? = some items[i] := List.getElem?_eq_getElem hlt
      obtain ⟨go, yl⟩ := wk'.1 _ hget
      refine .inr ⟨go, fun H' => ∃ ρ3 st3 acc3, OkBox (tx X) ρ1 H1 (.lst acc3) st3 ρ3 H' L ∧ acc3.length ≤ i + 1 ∧ PK (lcL g t fe (wipeE env own) (items.drop (i + 1)) st3) fun ys st' => ∀ ρ' H'', OkBox (tx X) ρ1 H1 (.lst (acc3 ++ ys)) st' ρ' H'' L → Q (.ref L) H'',
        fun H' ⟨ρ3, st3, acc3, a1, a2, a3⟩ => ⟨items.length - (i + 1), by omega, rfl, hlt, ρ3, st3, acc3, a1, a2, a3⟩, fun x H3 hy => ?_⟩
      obtain ⟨sm, dx⟩ := yl x H3 hy
      obtain ⟨r3, e3⟩ := rel_grow (ρ := ρ2.frame L (.lst vs)) r2 sm
      rw [drop_cons hget] at q2
      have eo3 : EnvOk (tx X) (hide H3 (ρ2.frame L (.lst vs))) (ρ2.frame L (.lst vs)) (wipe σ own) (wipeE env own) := ((((eo.mono e1).to s2 cc).mono e3).wipe own)
      refine ⟨ρ2.frame L (.lst vs), wipeE env own, st2, .d items[i], r3, eo3, dx, PK.pr (PK.bind q2 |>.mono fun env4 st4 q4 ρ4 H4 σ4 k4 e4 r4 eo4 => ?_)⟩
      refine ⟨wipe_keep his k4.keep (k4.len.trans (wipe_length _ _)), ρ4, env4, st4, r4, eo4, PK.pr (PK.bind q4 |>.mono fun b st5 q5 ρ5 H5 e5 r5 => ?_)⟩
      cases b with
      | false =>
        rw [if_neg Bool.false_ne_true]
        rw [if_neg Bool.false_ne_true] at q5
        have dv5 := DVs.mono (e3.same.trans (e4.same.trans e5.same)) _ _ dv
        have ee := e3.trans (e4.trans e5)
        obtain ⟨ρ6, b6⟩ := of_frame b2 ee r5 dv5
        have hsame : upd H5 L (.lst vs) = H5 := by
          funext a
          unfold upd
          by_cases ha : a = L
          · rw [if_pos ha, ha]
            obtain ⟨⟨more, em⟩, _⟩ := ee
            refine (r5.frm (L, .lst vs) ?_).symm
            rw [em]
            exact List.mem_cons_self
          · rw [if_neg ha]
        rw [hsame] at b6
        exact ⟨ρ6, st5, acc, b6, by omega, q5⟩
      | true =>
        rw [if_pos rfl]
        rw [if_pos rfl] at q5
        refine ⟨ρ5, env4, st5, r5, eo4.mono e5, PK.pr (PK.bind q5 |>.mono fun y st6 q6 ρ6 H6 v ok => ?_)⟩
        cases y with
        | ref n => exact (show False from q6).elim
        | d y =>
          have ee := e3.trans (e4.trans (e5.trans ok.1))
          have dv6 := DVs.mono ee.same _ _ dv
          have hL6 : H6 L = some (.lst vs) := by
            obtain ⟨⟨more, em⟩, _⟩ := ee
            refine ok.2.1.frm (L, .lst vs) ?_
            rw [em]
            exact List.mem_cons_self
          obtain ⟨ρ7, b7⟩ := of_frame b2 ee ok.2.1 (dv6.append (DVs.cons ok.2.2 DVs.nil))
          have ll := lim_line
          have l1 := dv6.length
          refine ⟨vs, hL6, by omega, ρ7, st6, acc ++ [y], b7, by simp; omega, PK.bind q6 |>.mono fun ys st7 q7 ρ' H'' ok7 => q7 ρ' H'' ?_⟩
          rw [List.append_assoc] at ok7
          exact ok7
    · have hge : items.length ≤ i := by omega
      refine .inl ⟨wk'.2 hge, ?_⟩
      rw [List.drop_eq_nil_of_le hge] at q2
      exact q2 ρ2 H2 (by rw [List.append_nil]; exact b2)
  · rw [if_neg hL] at q; exact (show False from q).elim
theorem se_lc {elt tg iter : Expr} {ifs : List Expr} {scope : Scope} {pos : Pos} {it : FI} {g : FG} {t : FT} {fe : FE} {is : List Nat} (own : List (Str × Nat)) (hN : X.N.Nodup) (ok : BlkOk X.N X.env.scope scope own) (hi : SI X W tg iter it)
    (hg : ∀ s H C cl fp, SG (X.blk s H scope (compEnvC scope cl C X.env) fp) W0 tg g is) (ht : ∀ s H C cl fp, STs (X.blk s H scope (compEnvC scope cl C X.env) fp) W0 ifs t) (he : ∀ s H C cl fp, SE (X.blk s H scope (compEnvC scope cl C X.env) fp) W0 elt fe)
    (his : ∀ j ∈ is, j ∈ own.map (·.2) := by decide) (hc : X.calm = true := by rfl) (hs : ∀ x, foldedSetIterable iter X.env x = pure x := by intro _; rfl) : SE X W (.ListComp elt [⟨tg, iter, ifs, 0⟩] scope pos) (fLc it g t fe (own.map (·.2))) :=
  PE.weak (pe_lc hc hN hi ok hg ht (fun s H C cl fp => (he s H C cl fp).u) hs) (lc_read his)
/-- name = [..] on one line, the name a local -/
theorem ss_setLc {i : Nat} {y : Str} {py : Pos} {elt tg iter : Expr} {ifs : List Expr} {scope : Scope} {pos spos : Pos} {it : FI} {g : FG} {t : FT} {fe : FE} {is : List Nat} (own : List (Str × Nat)) (hN : X.N.Nodup) (ok : BlkOk X.N X.env.scope scope own) (hsw : swapsWith (.ListComp elt [⟨tg, iter, ifs, 0⟩] scope pos) (some (.Name y py)) spos.line X.env = pure true) (hi : SI X W tg iter it)
    (hg : ∀ s H C cl fp, SG (X.blk s H scope (compEnvC scope cl C X.env) fp) W0 tg g is) (ht : ∀ s H C cl fp, STs (X.blk s H scope (compEnvC scope cl C X.env) fp) W0 ifs t) (he : ∀ s H C cl fp, SE (X.blk s H scope (compEnvC scope cl C X.env) fp) W0 elt fe)
    (his : ∀ j ∈ is, j ∈ own.map (·.2) := by decide) (hy : X.N[i]? = some y := by rfl) (hyl : X.env.scope.names.lookup y = some .local := by rfl) (hc : X.calm = true := by rfl) (hs : ∀ x, foldedSetIterable iter X.env x = pure x := by intro _; rfl) :
    SS X W (.Assign [.Name y py] (.ListComp elt [⟨tg, iter, ifs, 0⟩] scope pos) spos) (sSet i (fLc it g t fe (own.map (·.2)))) := by
  refine PS.weak (ps_setLc hc hN hy hyl hsw hi ok hg ht (fun s H C cl fp => (he s H C cl fp).u) hs) fun D σ H ⟨ρ, env, st, rel, eo, q⟩ => lc_read his σ H _ ⟨ρ, env, st, rel, eo, ?_⟩
  refine (PR.bind (PR.bind q)).mono fun x st1 q ρ1 H1 v ok => ?_
  cases e : x.settle with
  | none => rw [e] at q; exact (show False from q).elim
  | some u =>
    rw [e] at q
    have ou := ok.settle e
    exact q ρ1 H1 _ ou.1 ou.2.1 ((eo.mono ou.1).set ou.2.2)
theorem ss_newLc {i : Nat} {y : Str} {py : Pos} {elt tg iter : Expr} {ifs : List Expr} {scope : Scope} {pos spos : Pos} {it : FI} {g : FG} {t : FT} {fe : FE} {is : List Nat} (own : List (Str × Nat)) (hN : X.N.Nodup) (ok : BlkOk X.N X.env.scope scope own) (hsw : swapsWith (.ListComp elt [⟨tg, iter, ifs, 0⟩] scope pos) (some (.Name y py)) spos.line X.env = pure true) (hi : SI X W tg iter it)
    (hg : ∀ s H C cl fp, SG (X.blk s H scope (compEnvC scope cl C X.env) fp) W0 tg g is) (ht : ∀ s H C cl fp, STs (X.blk s H scope (compEnvC scope cl C X.env) fp) W0 ifs t) (he : ∀ s H C cl fp, SE (X.blk s H scope (compEnvC scope cl C X.env) fp) W0 elt fe)
    (his : ∀ j ∈ is, j ∈ own.map (·.2) := by decide) (hy : X.N[i]? = some y := by rfl) (hyl : X.env.scope.names.lookup y = some .local := by rfl) (hc : X.calm = true := by rfl) (hs : ∀ x, foldedSetIterable iter X.env x = pure x := by intro _; rfl) :
    SS X W (.Assign [.Name y py] (.ListComp elt [⟨tg, iter, ifs, 0⟩] scope pos) spos) (sNew i (fLc it g t fe (own.map (·.2)))) := by
  refine PS.weak (ps_setLc hc hN hy hyl hsw hi ok hg ht (fun s H C cl fp => (he s H C cl fp).u) hs) fun D σ H ⟨ρ, env, st, rel, eo, q⟩ => lc_read his σ H _ ⟨ρ, env, st, rel, eo, ?_⟩
  refine (PR.bind (PR.bind q)).mono fun x st1 q ρ1 H1 v ok => ?_
  cases x with
  | u y => exact q ρ1 H1 _ ok.1 ok.2.1 ((eo.mono ok.1).set ok.2.2)
  | box c =>
    obtain ⟨p, rfl, hb⟩ := ok
    have ou := hb.alloc
    exact q _ H1 _ ou.1 ou.2.1 ((eo.mono ou.1).set ou.2.2)
end G

set_option maxHeartbeats 2000000
namespace G
open PySem PySem.Spec PyProof.Rows L2
variable {X : Cx} {W : WX} {T : Tx}

abbrev FD := List U → Store → Res Val
/-- what leaves a def whose cells begin at b -/
def leave (b : Nat) (st : Store) : Val → Option Val
  | .u (.d x) => some (.u (.d x))
  | .u (.ref n) => if n < b then some (.u (.ref n)) else st[n]?.map .box
  | .box c => some (.box c)
def fin (b : Nat) (r : Res Fl) : Res Val := match r with
  | .ok (.nx _) st => .ok (.u (.d .non)) (st.take b)
  | .ok (.rt x) st => match leave b st x with
    | some y => .ok y (st.take b)
    | none => .stuck
  | .exc x st => .exc x (st.take b)
  | _ => .stuck
/-- a def of np parameters, n names, by its body -/
def mkDef (np n : Nat) (body : FS) : FD := fun us st => if us.length = np then fin st.length (body (us.map some ++ List.replicate (n - us.length) none) st) else .stuck
/-- what a def promises -/
def spG (T : Tx) (g : FD) : Sp := fun vs H Q E => ∃ ρ st us, Rel T ρ st H ∧ Paired (UV T (hide H ρ) ρ) us vs ∧ PR T (fun cls d _ H' => E cls d H') [] ρ H (g us st) fun x st' => ∀ ρ' H' v, OkVal T ρ H x st' ρ' H' v → Q v H'
theorem hide_more {H : Hp} {ρ ρ' : Wd} (h : ∀ a, a ∈ ρ.all → a ∈ ρ'.all) : Same (hide H ρ') (hide H ρ) := fun a o e => by
  obtain ⟨q, e1⟩ := hide_some e
  exact hide_of e1 fun z => q (h a z)
theorem RelS.mono {S S' : Hp} {ρ : Wd} {st : Store} {H : Hp} (s : Same S S') (r : RelS T S ρ st H) : RelS T S' ρ st H := ⟨r.nd, r.len, fun n a c h1 h2 => by
  obtain ⟨o, q1, q2⟩ := r.cell n a c h1 h2
  exact ⟨o, q1, q2.mono s⟩, r.frm⟩
theorem pre_sub {ρ ρ' : Wd} (h : ∃ more, ρ' = ⟨ρ.c ++ more, ρ.e⟩) : ∀ a, a ∈ ρ.all → a ∈ ρ'.all := fun a ha => by
  obtain ⟨m, rfl⟩ := h
  rcases List.mem_append.mp ha with q | q
  · exact List.mem_append_left _ (List.mem_append_left _ q)
  · exact List.mem_append_right _ q
/-- the new cells are forgotten -/
theorem RelS.cut {S : Hp} {ρ ρ' : Wd} {st : Store} {H : Hp} (p : ∃ more, ρ' = ⟨ρ.c ++ more, ρ.e⟩) (r : RelS T S ρ' st H) (b : Nat) (hb : b = ρ.c.length) : RelS T S ρ (st.take b) H := by
  obtain ⟨m, rfl⟩ := p
  subst hb
  have hl : (ρ.c ++ m).length = st.length := r.len
  rw [List.length_append] at hl
  refine ⟨?_, by rw [List.length_take]; omega, fun n a c h1 h2 => ?_, r.frm⟩
  · have nd : ((ρ.c ++ m) ++ ρ.e.map (·.1)).Nodup := r.nd
    rw [List.append_assoc] at nd
    show (ρ.c ++ ρ.e.map (·.1)).Nodup
    exact nd.sublist (List.Sublist.append_left (List.sublist_append_right _ _) _)
  · have hn := (List.getElem?_eq_some_iff.mp h1).1
    rw [List.getElem?_take_of_lt hn] at h2
    obtain ⟨o, q1, q2⟩ := r.cell n a c (by
      show (ρ.c ++ m)[n]? = Option.some a
      rw [List.getElem?_append_left hn]; exact h1) h2
    exact ⟨o, q1, q2.mono (Same.refl _)⟩
theorem Ext.cut {ρ ρ' : Wd} {H H' : Hp} (e : Ext ρ H ρ' H') : Ext ρ H ρ H' ∧ Same (hide H' ρ') (hide H' ρ) := by
  have s := hide_more (H := H') (pre_sub e.pre)
  exact ⟨⟨⟨[], by simp⟩, e.same.trans s⟩, s⟩
theorem leave_ok {ρ ρ' : Wd} {H H' : Hp} {x y : Val} {st' : Store} {v : V} {b : Nat} (hb : b = ρ.c.length) (h : OkVal T ρ H x st' ρ' H' v) (e : leave b st' x = some y) : OkVal T ρ H y (st'.take b) ρ H' v := by
  cases x with
  | u u =>
    obtain ⟨e1, r1, uv⟩ := h
    obtain ⟨e2, s2⟩ := e1.cut
    have r2 : Rel T ρ (st'.take b) H' := (r1.cut e1.pre b hb).mono s2
    cases u with
    | d z =>
      cases e
      exact ⟨e2, r2, DV.mono s2 _ _ uv⟩
    | ref n =>
      obtain ⟨a, ha, rfl⟩ := uv
      obtain ⟨m, rfl⟩ := e1.pre
      have ha : (ρ.c ++ m)[n]? = some a := ha
      simp only [leave] at e
      by_cases hn : n < b
      · rw [if_pos hn] at e
        cases e
        rw [List.getElem?_append_left (by omega)] at ha
        exact ⟨e2, r2, ⟨a, ha, rfl⟩⟩
      · rw [if_neg hn] at e
        cases q : st'[n]? with
        | none => rw [q] at e; cases e
        | some c =>
          rw [q] at e
          cases e
          obtain ⟨o, q1, q2⟩ := r1.cell n a c ha q
          have hin : a ∈ (⟨ρ.c ++ m, ρ.e⟩ : Wd).all := List.mem_append_left _ (List.mem_of_getElem? ha)
          have s3 : Same (hide H' ⟨ρ.c ++ m, ρ.e⟩) (hide H' (ρ.push a)) := hide_more fun z hz => by
            rcases Wd.all_push.mp hz with hz | hz
            · exact pre_sub ⟨m, rfl⟩ z hz
            · rw [hz]; exact hin
          have nin : a ∉ ρ.all := fun hz => by
            have nd : ((ρ.c ++ m) ++ ρ.e.map (·.1)).Nodup := r1.nd
            rw [List.append_assoc] at nd
            obtain ⟨n1, n2, n3⟩ := List.nodup_append.mp nd
            rw [List.getElem?_append_right (by omega)] at ha
            have am : a ∈ m ++ ρ.e.map (·.1) := List.mem_append_left _ (List.mem_of_getElem? ha)
            rcases List.mem_append.mp hz with hz | hz
            · exact n3 a hz a am rfl
            · obtain ⟨n4, n5, n6⟩ := List.nodup_append.mp n2
              exact n6 a (List.mem_of_getElem? ha) a hz rfl
          exact ⟨a, rfl, ⟨⟨⟨[a], rfl⟩, e1.same.trans s3⟩, ⟨[], by simp⟩, (r1.cut ⟨m, rfl⟩ b hb).mono s3, nin, o, q1, q2.mono s3⟩⟩
  | box c =>
    cases e
    obtain ⟨p, rfl, ⟨ext, pre, rel, nin, o, hp, hc⟩⟩ := h
    have s3 : Same (hide H' (ρ'.push p)) (hide H' (ρ.push p)) := hide_more fun z hz => by
      rcases Wd.all_push.mp hz with hz | hz
      · exact Wd.all_push.mpr (.inl (pre_sub pre z hz))
      · exact Wd.all_push.mpr (.inr hz)
    exact ⟨p, rfl, ⟨⟨⟨[p], rfl⟩, ext.same.trans s3⟩, ⟨[], by simp⟩, (rel.cut pre b hb).mono s3, fun z => nin (pre_sub pre p z), o, hp, hc.mono s3⟩⟩
theorem PR.indE {α : Type} {E : XK} {σ σ' : L2.St} {ρ : Wd} {H : Hp} {r : Res α} {K : α → Store → Prop} (h : PR T (fun cls d _ H => E cls d H) σ ρ H r K) : PR T (fun cls d _ H => E cls d H) σ' ρ H r K := PR.ind h
theorem paired_len {α β : Type} {R : α → β → Prop} : ∀ {xs : List α} {ys : List β}, Paired R xs ys → xs.length = ys.length
  | _, _, .nil => rfl
  | _, _, .cons _ t => by simp [paired_len t]
theorem paired_get {α β : Type} {R : α → β → Prop} : ∀ {xs : List α} {ys : List β} {i : Nat} {x : α}, Paired R xs ys → xs[i]? = some x → ∃ y, ys[i]? = some y ∧ R x y
  | _, _, _, _, .nil, h => by simp at h
  | _, _, 0, x, .cons r t, h => ⟨_, rfl, by have := Option.some.inj h; subst this; exact r⟩
  | _, _, i + 1, x, .cons r t, h => by
    obtain ⟨y, e, q⟩ := paired_get (i := i) t (by simpa using h)
    exact ⟨y, by simpa using e, q⟩
theorem env_start {S : Hp} {ρ : Wd} {us : List U} {vs : List V} {N : List Str} (h : Paired (UV T S ρ) us vs) : EnvOk T S ρ (start N vs) (us.map some ++ List.replicate (N.length - us.length) none) := by
  have hl := paired_len h
  refine ⟨by simp [L2.start, hl], fun i u e => ?_⟩
  by_cases hi : i < us.length
  · rw [List.getElem?_append_left (by simpa using hi), List.getElem?_map] at e
    cases q : us[i]? with
    | none => rw [q] at e; cases e
    | some w =>
      rw [q] at e
      cases e
      obtain ⟨v, e1, r1⟩ := paired_get h q
      refine ⟨v, ?_, r1⟩
      show ((vs.map some ++ List.replicate (N.length - vs.length) none : L2.St))[i]? = _
      rw [List.getElem?_append_left (by rw [List.length_map, ← hl]; exact hi), List.getElem?_map, e1] <;> rfl
  · rw [List.getElem?_append_right (by simpa using hi), List.getElem?_replicate] at e
    split at e <;> cases e
section
variable {P : Program} {w : World} {K : PySem.W.Frag} {mg : Str → Option Value} {base : Heap}
/-- a def by its body -/
theorem def_ok {x qual : Str} {st : Stmt} {f : Addr} {fd : FuncData} {N ps : List Str} {k : Nat} {body : FS} (F : Fun K x qual st f fd) (S : FnScope N ps (defScope st))
    (hbody : ∀ (cdv : Value) (A : Around) (outer : List Env) (s : Shared) (H : Hp) (E : XK), Room k (A.deeper (envOfC qual (defScope st) s.heap.objs.size f cdv)) →
      Takes (cxOf (L2.CX P w) P w K mg base N qual (defScope st) f cdv A outer s H E) (fun cls d _ H => E cls d H) →
      PassesOwn (model P w) (A.deeper (envOfC qual (defScope st) s.heap.objs.size f cdv)) (envOfC qual (defScope st) s.heap.objs.size f cdv) (cxOf (L2.CX P w) P w K mg base N qual (defScope st) f cdv A outer s H E).xe →
      SSs (cxOf (L2.CX P w) P w K mg base N qual (defScope st) f cdv A outer s H E) (fun cls d _ H => E cls d H) (defBody st) body) :
    FnOk P w K mg base (L2.CX P w) (k + 1) f fd ps (spG ⟨K, mg⟩ (mkDef ps.length N.length body)) := by
  refine F.okX S (fun vs H Q E ⟨ρ, st, us, rel, uv, q⟩ => ?_) fun cdv A outer s H vs Q E hr ⟨ρ, st, us, rel, uv, q⟩ => ⟨_, hbody cdv A outer s H E hr (takes_of rfl rfl rfl rfl) (passes_of rfl), ?_⟩
  · unfold mkDef at q
    by_cases hl : us.length = ps.length
    · rw [← paired_len uv]; exact hl
    · rw [if_neg hl] at q; exact (show False from q).elim
  · unfold mkDef at q
    by_cases hl : us.length = ps.length
    · rw [if_pos hl] at q
      refine ⟨ρ, _, st, rel, env_start uv, ?_⟩
      generalize body (us.map some ++ List.replicate (N.length - us.length) none) st = r at q ⊢
      cases r with
      | stuck => exact (show False from q).elim
      | exc x st' =>
        intro ρ' H' cls d e1 r1 xv
        obtain ⟨e2, s2⟩ := e1.cut
        exact q ρ H' cls d e2 ((r1.cut e1.pre _ rel.len.symm).mono s2) (xv.mono s2)
      | ok fl st' =>
        cases fl with
        | nx env' =>
          intro ρ' H' σ' e1 r1 eo1
          obtain ⟨e2, s2⟩ := e1.cut
          exact q ρ H' .non ⟨e2, (r1.cut e1.pre _ rel.len.symm).mono s2, dv_non (T := ⟨K, mg⟩) (S := hide H' ρ)⟩
        | rt x =>
          intro ρ' H' v ok
          cases e : leave st.length st' x with
          | none => simp only [fin, e] at q; exact (show False from q).elim
          | some y =>
            simp only [fin, e] at q
            exact q ρ H' v (leave_ok rel.len.symm ok e)
        | bk env' => exact (show False from q).elim
        | ct env' => exact (show False from q).elim
    · rw [if_neg hl] at q; exact (show False from q).elim
end
/-! calls -/
def fCall (g : FD) (fa : FA) : FE := fun env st => (fa env st).bind fun us st => g us st
theorem call_read {g : FD} {fa : FA} : ∀ σ H Q, TG T W (fCall g fa) σ H Q → tCallS (spG T g) (WE W) (TGA T W fa) σ H Q := fun σ H Q ⟨ρ, env, st, rel, eo, q⟩ => by
  refine ⟨ρ, env, st, rel, eo, (PR.bind q).mono fun us st1 q ρ1 H1 vs ok => ⟨ρ1, st1, us, ok.2.1, ok.2.2, ?_⟩⟩
  cases e : g us st1 with
  | ok x st2 => rw [e] at q; exact fun ρ' H' v o2 => q ρ' H' v (OkVal.ext ok.1 o2)
  | exc x st2 => rw [e] at q; exact fun ρ' H' cls d e1 r1 xv => q ρ' H' cls d (ok.1.trans e1) r1 xv
  | stuck => rw [e] at q; exact (show False from q).elim
theorem se_call {k : Nat} {f : Addr} {fd : FuncData} {ps : List Str} {g : FD} {x : Str} {p pos : Pos} {e : Expr} {es : List Expr} {fa : FA} (F : FnOk X.prog X.w X.K X.mg X.base (L2.CX X.prog X.w) k f fd ps (spG (tx X) g)) (hr : Room k X.A) (tk : Takes X W) (hg : Gl X x) (hm : X.mg x = some (.ref f)) (hk : PySem.W.keepIn X.K (.ref f) = true) (hb : Binds X.K fd ps [])
    (ha : SA X W (e :: es) fa) (hdb : (x == ("__debug__" : Str)) = false := by decide) (he : starEach (e :: es) X.env = (false, eval e X.env) :: starEach es X.env := by rfl) (hpl : (backTo pos (starEach es X.env)).any (·.1) = false := by rfl) : SE X W (.Call (.Name x p) (e :: es) [] pos) (fCall g fa) :=
  PE.weak (pe_callS F hr hg hm hk hb (fun σ => passAt tk σ) ha hdb he hpl) call_read
theorem se_call0 {k : Nat} {f : Addr} {fd : FuncData} {ps : List Str} {g : FD} {x : Str} {p pos : Pos} (F : FnOk X.prog X.w X.K X.mg X.base (L2.CX X.prog X.w) k f fd ps (spG (tx X) g)) (hr : Room k X.A) (tk : Takes X W) (hg : Gl X x) (hm : X.mg x = some (.ref f)) (hk : PySem.W.keepIn X.K (.ref f) = true) (hb : Binds X.K fd ps [])
    (hdb : (x == ("__debug__" : Str)) = false := by decide) : SE X W (.Call (.Name x p) [] [] pos) (fCall g aNil) := by
  have h : PE X (.Call (.Name x p) [] [] pos) (tCallS (spG (tx X) g) (WE W) tNil) := ⟨fun pins s σ H Q I q => wpAny_Call_Name_kw (ld_glob I hg hm (PySem.W.callWith_K0 I.kIn hk (run_fnS F hr hb (passAt tk σ) I .nil q)) hdb)⟩
  refine PE.weak h fun σ H Q z => ?_
  obtain ⟨ρ, env, st, rel, eo, q⟩ := call_read σ H Q z
  exact q ρ H [] ⟨Ext.refl _ _, rel, .nil⟩
/-- a def that no way comes to -/
theorem def_none {P : Program} {w : World} {K : PySem.W.Frag} {mg : Str → Option Value} {base : Heap} {f : Addr} {fd : FuncData} {ps : List Str} {k : Nat} : FnOk P w K mg base (L2.CX P w) k f fd ps (spG ⟨K, mg⟩ fun _ _ => .stuck) :=
  ⟨fun vs H Q E ⟨_, _, _, _, _, q⟩ => (show False from q).elim, fun A outer s H args us vs Q E _ _ _ _ ⟨_, _, _, _, _, q⟩ => (show False from q).elim⟩
end G

set_option maxHeartbeats 2000000
namespace G
open PySem PySem.Spec PyProof.Rows L2 PySem.W
variable {X : Cx} {W : WX} {T : Tx}

/-! the order of data -/
mutual
def alD : D → D → Bool
  | .non, .non => true
  | .bl _, .bl _ => true
  | .int _, .int _ => true
  | .str _, .str _ => true
  | .lst xs, .lst ys => alDs xs ys
  | .tup xs, .tup ys => alDs xs ys
  | _, _ => false
def alDs : List D → List D → Bool
  | x :: xs, y :: ys => alD x y && alDs xs ys
  | _, _ => true
end
mutual
def ltD : D → D → Bool
  | .bl a, .bl b => !a && b
  | .int a, .int b => decide (a < b)
  | .str x, .str y => decide (x.cps.toList < y.cps.toList)
  | .lst xs, .lst ys => ltDs xs ys
  | .tup xs, .tup ys => ltDs xs ys
  | _, _ => false
def ltDs : List D → List D → Bool
  | [], [] => false
  | [], _ :: _ => true
  | _ :: _, [] => false
  | x :: xs, y :: ys => if eqD x y then ltDs xs ys else ltD x y
end
mutual
theorem py_alike : ∀ (a b : D) (n m : Nat), dok a n = true → dok b m = true → alike (py a) (py b) = alD a b
  | .non, b, n, m, h, k => by cases b <;> first | (simp [dok] at k; done) | simp [py, alike, alD]
  | .bl _, b, n, m, h, k => by cases b <;> first | (simp [dok] at k; done) | simp [py, alike, alD]
  | .int _, b, n, m, h, k => by cases b <;> first | (simp [dok] at k; done) | simp [py, alike, alD]
  | .str _, b, n, m, h, k => by cases b <;> first | (simp [dok] at k; done) | simp [py, alike, alD]
  | .tup xs, b, n, m, h, k => by
    obtain ⟨n', rfl, h⟩ := dok_tup h
    cases b with
    | tup ys =>
      obtain ⟨m', rfl, k⟩ := dok_tup k
      simp only [py, alike, alD]
      exact pys_alike xs ys n' m' h k
    | _ => first | (simp [dok] at k; done) | simp [py, alike, alD]
  | .lst xs, b, n, m, h, k => by
    obtain ⟨n', rfl, h⟩ := dok_lst h
    cases b with
    | lst ys =>
      obtain ⟨m', rfl, k⟩ := dok_lst k
      simp only [py, alike, alD]
      exact pys_alike xs ys n' m' h k
    | _ => first | (simp [dok] at k; done) | simp [py, alike, alD]
  | .dic _ _, b, n, m, h, k => by simp [dok] at h
  | .set _, b, n, m, h, k => by simp [dok] at h
  | .fn _, b, n, m, h, k => by simp [dok] at h
  | .ty _, b, n, m, h, k => by simp [dok] at h
  | .scr _, b, n, m, h, k => by simp [dok] at h
  | .exo _ _ _, b, n, m, h, k => by simp [dok] at h
theorem pys_alike : ∀ (a b : List D) (n m : Nat), doks a n = true → doks b m = true → alikeAll (pys a) (pys b) = alDs a b
  | [], ys, n, m, h, k => by cases ys <;> simp [pys, alikeAll, alDs]
  | x :: xs, [], n, m, h, k => by simp [pys, alikeAll, alDs]
  | x :: xs, y :: ys, n, m, h, k => by
    obtain ⟨h1, h2⟩ := doks_cons h
    obtain ⟨k1, k2⟩ := doks_cons k
    simp only [pys, alikeAll, alDs, py_alike x y n m h1 k1, pys_alike xs ys n m h2 k2]
end
mutual
theorem py_lt : ∀ (a b : D) (n m : Nat), dok a n = true → dok b m = true → alD a b = true → PySem.W.dataLt (py a) (py b) = ltD a b
  | .non, b, n, m, h, k, q => by
    cases b <;> first | (simp [alD] at q; done) | skip
    simp only [py, ltD]
    exact PyProof.Rows.lex_irrefl _
  | .bl x, b, n, m, h, k, q => by
    cases b <;> first | (simp [alD] at q; done) | skip
    rename_i y
    simp only [py, ltD, PySem.W.dataLt_bool]
    cases x <;> cases y <;> rfl
  | .int _, b, n, m, h, k, q => by
    cases b <;> first | (simp [alD] at q; done) | skip
    simp only [py, ltD, PySem.W.dataLt_int]
  | .str _, b, n, m, h, k, q => by
    cases b <;> first | (simp [alD] at q; done) | skip
    simp only [py, ltD, PySem.W.dataLt_str]
  | .tup xs, b, n, m, h, k, q => by
    obtain ⟨n', rfl, h⟩ := dok_tup h
    cases b with
    | tup ys =>
      obtain ⟨m', rfl, k⟩ := dok_tup k
      simp only [py, ltD, PySem.W.dataLt_tuple]
      exact pys_lt xs ys n' m' h k (by simpa [alD] using q)
    | _ => simp [alD] at q
  | .lst xs, b, n, m, h, k, q => by
    obtain ⟨n', rfl, h⟩ := dok_lst h
    cases b with
    | lst ys =>
      obtain ⟨m', rfl, k⟩ := dok_lst k
      simp only [py, ltD, PySem.W.dataLt_list]
      exact pys_lt xs ys n' m' h k (by simpa [alD] using q)
    | _ => simp [alD] at q
  | .dic _ _, b, n, m, h, k, q => by simp [dok] at h
  | .set _, b, n, m, h, k, q => by simp [dok] at h
  | .fn _, b, n, m, h, k, q => by simp [dok] at h
  | .ty _, b, n, m, h, k, q => by simp [dok] at h
  | .scr _, b, n, m, h, k, q => by simp [dok] at h
  | .exo _ _ _, b, n, m, h, k, q => by simp [dok] at h
theorem pys_lt : ∀ (a b : List D) (n m : Nat), doks a n = true → doks b m = true → alDs a b = true → PyProof.Rows.lexLt itemOrd (PySem.W.keyToksAll (pys a)) (PySem.W.keyToksAll (pys b)) = ltDs a b
  | [], [], n, m, h, k, q => by
    simp only [pys, ltDs]
    exact PyProof.Rows.lex_irrefl _
  | [], y :: ys, n, m, h, k, q => by simp only [pys, ltDs]; rfl
  | x :: xs, [], n, m, h, k, q => by simp only [pys, ltDs]; rfl
  | x :: xs, y :: ys, n, m, h, k, q => by
    obtain ⟨h1, h2⟩ := doks_cons h
    obtain ⟨k1, k2⟩ := doks_cons k
    have q' : alD x y = true ∧ alDs xs ys = true := by simpa [alDs] using q
    simp only [pys, ltDs]
    rw [PySem.W.dataLt_cons (by rw [py_alike x y n m h1 k1]; exact q'.1), py_eqv x y n m h1 k1, pys_lt xs ys n m h2 k2 q'.2, py_lt x y n m h1 k1 q'.1]
end
/-- < > <= >= -/
def gOrd (c : D → D → Bool) (d e : D) : Option Val := if dok d DEEP && dok e DEEP && alD d e && !isNon d then some (.u (.d (.bl (c d e)))) else none
def cLt : D → D → Bool := fun a b => ltD a b
def cGt : D → D → Bool := fun a b => ltD b a
def cLe : D → D → Bool := fun a b => !ltD b a
def cGe : D → D → Bool := fun a b => !ltD a b
theorem ord_pre {d e : D} {c : D → D → Bool} {r : Val} (g : gOrd c d e = some r) : dok d DEEP = true ∧ dok e DEEP = true ∧ alD d e = true ∧ isNon d = false ∧ r = .u (.d (.bl (c d e))) := by
  unfold gOrd at g
  split at g
  · rename_i h
    simp only [Bool.and_eq_true, Bool.not_eq_true'] at h
    cases g
    exact ⟨h.1.1.1, h.1.1.2, h.1.2, h.2, rfl⟩
  · cases g
theorem al_comm {d e : D} (hd : dok d DEEP = true) (he : dok e DEEP = true) (h : alD d e = true) : alD e d = true := by
  rw [← py_alike e d _ _ he hd, PySem.W.alike_comm, py_alike d e _ _ hd he]
  exact h
theorem py_ne {d : D} (hd : dok d DEEP = true) (h : isNon d = false) : py d ≠ .none := by
  cases d <;> first | (simp [isNon] at h; done) | (simp [dok] at hd; done) | (simp [py]; done)
theorem r_ord {k : Nat} (hr : Room k X.A) {o : CmpOp} {c : D → D → Bool} (f : Bool → Bool → Bool) (hf : ∀ d e, c d e = f (ltD d e) (ltD e d))
    (rule : ∀ (da db : PyData) (s : Shared) (a b : Value) (as bs : List Addr) (Q : Value → Shared → Prop), Reads s.heap a da as → Reads s.heap b db bs → alike da db = true → da ≠ .none → X.A.units + min da.depth db.depth < cLine → Q (.bool (f (dataLt da db) (dataLt db da))) s → wpAny (model X.prog X.w) X.A (compareOp o a b) Q X.xe s) :
    OpR X (compareOp o) (ROp (tx X) (opD (gOrd c))) := by
  refine OpR.weak (r := RD (tx X) (gOrd c)) ?_ fun x y H Q => rd_of
  intro pins s σ H x y v u Q I rx ry h
  obtain ⟨ρ, st, d, e, rel, hd, he, r, g, q⟩ := h
  obtain ⟨k1, k2, k3, k4, rfl⟩ := ord_pre g
  obtain ⟨as, r1⟩ := Dp.reads I _ x v (tv_dp k1 hd) rx
  obtain ⟨bs, r2⟩ := Dp.reads I _ y u (tv_dp k2 he) ry
  have d1 := py_depth d _ k1
  have hu := hr.units
  refine rule _ _ s v u as bs _ r1 r2 (by rw [py_alike d e _ _ k1 k2]; exact k3) (py_ne k1 k4) ?_ ⟨.bl _, H, I, rfl, ?_⟩
  · have : min (py d).depth (py e).depth ≤ (py d).depth := Nat.min_le_left _ _
    have : DEEP = 40 := rfl
    omega
  · rw [py_lt d e _ _ k1 k2 k3, py_lt e d _ _ k2 k1 (al_comm k1 k2 k3), ← hf]
    exact q ρ H _ (ok_d rel dv_bl)
theorem r_lt {k : Nat} (hr : Room k X.A) : OpR X (compareOp .Lt) (ROp (tx X) (opD (gOrd cLt))) := r_ord hr (fun a _ => a) (fun _ _ => rfl) fun da db s a b as bs Q r1 r2 h hn hu q => lt_data r1 r2 h hn hu q
theorem r_gt {k : Nat} (hr : Room k X.A) : OpR X (compareOp .Gt) (ROp (tx X) (opD (gOrd cGt))) := r_ord hr (fun _ b => b) (fun _ _ => rfl) fun da db s a b as bs Q r1 r2 h hn hu q => gt_data r1 r2 h hn hu q
theorem r_le {k : Nat} (hr : Room k X.A) : OpR X (compareOp .LtE) (ROp (tx X) (opD (gOrd cLe))) := r_ord hr (fun _ b => !b) (fun _ _ => rfl) fun da db s a b as bs Q r1 r2 h hn hu q => le_data r1 r2 h hn hu q
theorem r_ge {k : Nat} (hr : Room k X.A) : OpR X (compareOp .GtE) (ROp (tx X) (opD (gOrd cGe))) := r_ord hr (fun a _ => !a) (fun _ _ => rfl) fun da db s a b as bs Q r1 r2 h hn hu q => ge_data r1 r2 h hn hu q
/-! a < b < c -/
def fChn (op op' : Store → U → U → Option Val) (fa fb fc : FE) : FE := fun env st => (uE fa env st).bind fun x st => (uE fb env st).bind fun y st => (lift (op st x y) st).bind fun z st => match asB z with
  | some true => (uE fc env st).bind fun w st => lift (op' st y w) st
  | some false => .ok (.u (.d (.bl false))) st
  | none => .stuck
theorem chn {op op' : Store → U → U → Option Val} {fa fb fc : FE} : ∀ σ H Q, TG T W (fChn op op' fa fb fc) σ H Q → tChain (ROp T op) (ROp T op') (TGU T W (uE fa)) (TGU T W (uE fb)) (TGU T W (uE fc)) σ H Q := fun σ H Q ⟨ρ, env, st, rel, eo, q⟩ => by
  refine ⟨ρ, env, st, rel, eo, (PR.bind q).mono fun x st1 q ρ1 H1 v1 ok1 => ?_⟩
  refine ⟨ρ1, env, st1, ok1.2.1, eo.mono ok1.1, PR.ext ok1.1 (PR.bind q) fun y st2 q ρ2 H2 v2 ok2 => ?_⟩
  have e02 := ok1.1.trans ok2.1
  cases e : op st2 x y with
  | none => rw [e] at q; exact (show False from q).elim
  | some r =>
    rw [e] at q
    refine ⟨ρ2, st2, x, y, ok2.2.1, ok1.2.2.mono ok2.1, ok2.2.2, r, e, fun ρ3 H3 v3 ok3 => ?_⟩
    have q := PR.ok (PR.bind q)
    cases eb : asB r with
    | none => rw [eb] at q; exact (show False from q).elim
    | some b =>
      rw [eb] at q
      obtain ⟨rfl, e3, r3⟩ := okB ok3 eb
      have e03 := e02.trans e3
      cases b with
      | false => exact ⟨false, rfl, q ρ3 H3 _ (OkVal.ext e03 (ok_d r3 dv_bl))⟩
      | true =>
        refine ⟨true, rfl, ρ3, env, st2, r3, eo.mono e03, PR.ext e03 (PR.bind q) fun w st4 q ρ4 H4 v4 ok4 => ?_⟩
        cases e5 : op' st4 y w with
        | none => rw [e5] at q; exact (show False from q).elim
        | some r5 =>
          rw [e5] at q
          exact ⟨ρ4, st4, y, w, ok4.2.1, (ok2.2.2.mono e3).mono ok4.1, ok4.2.2, r5, e5, fun ρ' H' v ok => q ρ' H' v (OkVal.ext (e03.trans ok4.1) ok)⟩
theorem se_chn {o o' : CmpOp} {op op' : Store → U → U → Option Val} {a b c : Expr} {fa fb fc : FE} {pos : Pos} (ho : OpR X (compareOp o) (ROp (tx X) op)) (ho' : OpR X (compareOp o') (ROp (tx X) op')) (ha : SE X W a fa) (hb : SE X W b fb) (hc : SE X W c fc) (hm : lastMarks [o, o'] [b, c] = false := by with_unfolding_all rfl) : SE X W (.Compare a [o, o'] [b, c] pos) (fChn op op' fa fb fc) :=
  PE.weak (pe_chain ho ho' ha.u hb.u hc.u hm) chn
def tBl (f : FE) : FT := fun env st => (f env st).bind fun x st => match asB x with
  | some b => .ok b st
  | none => .stuck
theorem st_chn {o o' : CmpOp} {op op' : Store → U → U → Option Val} {a b c : Expr} {fa fb fc : FE} {pos : Pos} (ho : OpR X (compareOp o) (ROp (tx X) op)) (ho' : OpR X (compareOp o') (ROp (tx X) op')) (ha : SE X W a fa) (hb : SE X W b fb) (hc : SE X W c fc) (hm : lastMarks [o, o'] [b, c] = false := by with_unfolding_all rfl) : ST X W (.Compare a [o, o'] [b, c] pos) (tBl (fChn op op' fa fb fc)) := by
  refine PT.weak (pt_chain ho ho' ha.u hb.u hc.u hm) fun σ H Q ⟨ρ, env, st, rel, eo, q⟩ => chn (W := W) σ H _ ⟨ρ, env, st, rel, eo, (PR.bind q).mono fun x st1 q ρ1 H1 v1 ok1 => ?_⟩
  cases e : asB x with
  | none => rw [e] at q; exact (show False from q).elim
  | some b =>
    rw [e] at q
    obtain ⟨rfl, e1, r1⟩ := okB ok1 e
    exact ⟨b, rfl, q ρ1 H1 e1 r1⟩
/-! isinstance of built-in classes -/
def isiB : D → Nat → Option Bool
  | .non, n => if n ≤ 5 then some false else none
  | .bl _, n => if n ≤ 5 then some (n == 0 || n == 1) else none
  | .int _, n => if n ≤ 5 then some (n == 0) else none
  | .str _, n => if n ≤ 5 then some (n == 2) else none
  | .tup _, n => if n ≤ 5 then some (n == 3) else none
  | .lst _, n => if n ≤ 5 then some (n == 4) else none
  | _, _ => none
def gIsi : List D → Option Val
  | [d, .ty n] => (isiB d n).map fun b => .u (.d (.bl b))
  | _ => none
theorem isi_cases {n : Nat} (h : n ≤ 5) : n = 0 ∨ n = 1 ∨ n = 2 ∨ n = 3 ∨ n = 4 ∨ n = 5 := by omega
theorem tyx_tup {K : PySem.W.Frag} {H : Hp} {a : Addr} {vs : List V} (h : SqT K H a vs) : TyX K H (.ref a) (.type "tuple") := by
  rcases h with (h | ⟨o, h⟩) | ⟨o, its, n, h1, h2, _⟩
  · exact .base (.tup h)
  · exact .fTuple h
  · exact .kTuple h1 h2
theorem r_isi : CallR X (.builtin "isinstance") (RC (tx X) gIsi) := by
  refine CallR.weak call_isi fun xs H Q ⟨ρ, st, ds, rel, tv, r, g, q⟩ => ?_
  unfold gIsi at g
  split at g
  · rename_i d n
    obtain ⟨v, w, rfl, hv, hw⟩ := tvs2 tv
    cases (show w = .ty (tyStr n) by simpa [TV, DV] using hw)
    have fin : ∀ {t : Value} {b : Bool}, TyX X.K H v t → PySem.W.kitOne X.K t (.type (tyStr n)) = some b → isiB d n = some b → rIsi X.K [v, .ty (tyStr n)] H Q := fun {t b} ty hk hb => by
      rw [hb] at g
      cases g
      exact ⟨v, .ty (tyStr n), t, .type (tyStr n), b, rfl, .ty _, ty, hk, q ρ H _ (ok_d rel dv_bl)⟩
    have hn : n ≤ 5 := by
      cases d <;> simp only [isiB, Option.map_eq_some_iff, Option.map_none] at g <;> first
        | (obtain ⟨b, hb, _⟩ := g; split at hb <;> first | assumption | cases hb)
        | cases g
    cases d with
    | non =>
      cases (show v = .non by simpa [TV, DV] using hv)
      refine fin (.base .non) ?_ (if_pos hn)
      rcases isi_cases hn with rfl | rfl | rfl | rfl | rfl | rfl <;> exact kit_ty (by decide +kernel)
    | bl b =>
      cases (show v = .bl b by simpa [TV, DV] using hv)
      refine fin (.base (.bl b)) ?_ (if_pos hn)
      rcases isi_cases hn with rfl | rfl | rfl | rfl | rfl | rfl <;> exact kit_ty (by decide +kernel)
    | int b =>
      cases (show v = .int b by simpa [TV, DV] using hv)
      refine fin (.base (.int b)) ?_ (if_pos hn)
      rcases isi_cases hn with rfl | rfl | rfl | rfl | rfl | rfl <;> exact kit_ty (by decide +kernel)
    | str b =>
      cases (show v = .str b by simpa [TV, DV] using hv)
      refine fin (.base (.str b)) ?_ (if_pos hn)
      rcases isi_cases hn with rfl | rfl | rfl | rfl | rfl | rfl <;> exact kit_ty (by decide +kernel)
    | tup ys =>
      obtain ⟨a, vs, rfl, h1, _⟩ := hv
      refine fin (tyx_tup h1) ?_ (if_pos hn)
      rcases isi_cases hn with rfl | rfl | rfl | rfl | rfl | rfl <;> exact kit_ty (by decide +kernel)
    | lst ys =>
      obtain ⟨a, vs, rfl, h1, _⟩ := hv
      refine fin (.base (.lst h1)) ?_ (if_pos hn)
      rcases isi_cases hn with rfl | rfl | rfl | rfl | rfl | rfl <;> exact kit_ty (by decide +kernel)
    | _ => cases g
  · cases g
/-- a built-in class as a value -/
theorem se_ty {x : Str} (n : Nat) {pos : Pos} (hg : Gl X x) (hm : X.mg x = none) (hv : bootBuiltins x = some (.type (tyStr n))) (hn : x ≠ "__name__" := by decide) (hd : (x == ("__debug__" : Str)) = false := by decide) : SE X W (.Name x pos) (fC (.ty n)) :=
  PE.weak (pe_bltn (v := .ty (tyStr n)) hg hm hv rfl hn hd) (tg_c fun _ => dv_ty)
end G

set_option maxHeartbeats 2000000
namespace G
open PySem PySem.Spec PyProof.Rows L2 PySem.W PySem.SeqAt
variable {X : Cx} {W : WX} {T : Tx}

/-! sorted -/
def insBy {α : Type} (le : α → α → Bool) (x : α) : List α → List α
  | [] => [x]
  | y :: ys => if le x y then x :: y :: ys else y :: insBy le x ys
def isortBy {α : Type} (le : α → α → Bool) : List α → List α
  | [] => []
  | x :: xs => insBy le x (isortBy le xs)
theorem insBy_perm {α : Type} (le : α → α → Bool) (x : α) : ∀ l, (insBy le x l).Perm (x :: l)
  | [] => List.Perm.refl _
  | y :: ys => by
    unfold insBy
    split
    · exact List.Perm.refl _
    · exact ((insBy_perm le x ys).cons y).trans (List.Perm.swap x y ys)
theorem isortBy_perm {α : Type} (le : α → α → Bool) : ∀ l, (isortBy le l).Perm l
  | [] => List.Perm.refl _
  | x :: xs => (insBy_perm le x _).trans ((isortBy_perm le xs).cons x)
theorem insBy_filter {α : Type} {le : α → α → Bool} (h : TotalLe le) (c x : α) : ∀ l, l.Pairwise (fun a b => le a b = true) → (insBy le x l).filter (sameRank le c) = (x :: l).filter (sameRank le c)
  | [], _ => rfl
  | y :: ys, hp => by
    unfold insBy
    split
    · rfl
    · rename_i hxy
      have ih := insBy_filter h c x ys (List.pairwise_cons.mp hp).2
      rw [List.filter_cons, ih]
      by_cases hx : sameRank le c x = true
      · have hy : sameRank le c y = false := by
          cases hy : sameRank le c y with
          | false => rfl
          | true =>
            unfold sameRank at hx hy
            simp only [Bool.and_eq_true] at hx hy
            exact absurd (h.trans x c y hx.2 hy.1) hxy
        rw [hy, List.filter_cons_of_pos hx, List.filter_cons_of_pos hx, List.filter_cons_of_neg (by rw [hy]; exact Bool.false_ne_true)]
        rfl
      · rw [List.filter_cons_of_neg hx, List.filter_cons_of_neg hx, List.filter_cons]
theorem insBy_sorted {α : Type} {le : α → α → Bool} (h : TotalLe le) (x : α) : ∀ l, l.Pairwise (fun a b => le a b = true) → (insBy le x l).Pairwise (fun a b => le a b = true)
  | [], _ => List.pairwise_singleton _ _
  | y :: ys, hp => by
    obtain ⟨h1, h2⟩ := List.pairwise_cons.mp hp
    unfold insBy
    split
    · rename_i hxy
      exact List.pairwise_cons.mpr ⟨fun z hz => by
        rcases List.mem_cons.mp hz with rfl | hz
        · exact hxy
        · exact h.trans _ _ _ hxy (h1 z hz), hp⟩
    · rename_i hxy
      refine List.pairwise_cons.mpr ⟨fun z hz => ?_, insBy_sorted h x ys h2⟩
      have hz' := (insBy_perm le x ys).mem_iff.mp hz
      rcases List.mem_cons.mp hz' with rfl | hz'
      · exact (h.total z y).resolve_left hxy
      · exact h1 z hz'
theorem isortBy_sorted {α : Type} {le : α → α → Bool} (h : TotalLe le) : ∀ l : List α, (isortBy le l).Pairwise (fun a b => le a b = true)
  | [] => List.Pairwise.nil
  | x :: xs => insBy_sorted h x _ (isortBy_sorted h xs)
theorem isortBy_filter {α : Type} {le : α → α → Bool} (h : TotalLe le) (c : α) : ∀ l : List α, (isortBy le l).filter (sameRank le c) = l.filter (sameRank le c)
  | [] => rfl
  | x :: xs => by
    show (insBy le x (isortBy le xs)).filter _ = _
    rw [insBy_filter h c x _ (isortBy_sorted h xs), List.filter_cons, List.filter_cons, isortBy_filter h c xs]
theorem isortBy_eq {α : Type} {le : α → α → Bool} (h : TotalLe le) (l : List α) : isortBy le l = l.mergeSort le := sort_unique h (isortBy_sorted h l) fun c => isortBy_filter h c l
theorem insBy_congr {α : Type} {r s : α → α → Bool} (x : α) : ∀ l : List α, (∀ y ∈ l, r x y = s x y) → insBy r x l = insBy s x l
  | [], _ => rfl
  | y :: ys, h => by
    unfold insBy
    rw [h y (List.mem_cons_self ..), insBy_congr x ys fun z hz => h z (List.mem_cons_of_mem _ hz)]
theorem isortBy_congr {α : Type} {r s : α → α → Bool} : ∀ l : List α, (∀ a ∈ l, ∀ b ∈ l, r a b = s a b) → isortBy r l = isortBy s l
  | [], _ => rfl
  | x :: xs, h => by
    show insBy r x (isortBy r xs) = insBy s x (isortBy s xs)
    rw [isortBy_congr xs fun a ha b hb => h a (List.mem_cons_of_mem _ ha) b (List.mem_cons_of_mem _ hb)]
    refine insBy_congr x _ fun y hy => h x (List.mem_cons_self ..) y (List.mem_cons_of_mem _ ?_)
    exact (isortBy_perm s xs).mem_iff.mp hy
def leD (a b : D) : Bool := !ltD b a
def alAll : List D → Bool
  | [] => true
  | x :: xs => (xs.all fun y => alD x y) && alD x x && alAll xs
/-- what sorted takes: data, every two alike, no None -/
def sortOk (ds : List D) : Bool := doks ds DEEP && alAll ds && ds.all fun d => !isNon d
theorem alAll_mem : ∀ {ds : List D}, doks ds DEEP = true → alAll ds = true → ∀ a ∈ ds, ∀ b ∈ ds, alD a b = true
  | [], _, _, a, ha, _, _ => by cases ha
  | x :: xs, hk, h, a, ha, b, hb => by
    obtain ⟨k1, k2⟩ := doks_cons hk
    simp only [alAll, Bool.and_eq_true, List.all_eq_true] at h
    obtain ⟨⟨h1, h2⟩, h3⟩ := h
    have km : ∀ y ∈ xs, dok y DEEP = true := by
      clear h1 h3 ha hb
      induction xs with
      | nil => intro y hy; cases hy
      | cons z zs ih =>
        intro y hy
        obtain ⟨z1, z2⟩ := doks_cons k2
        rcases List.mem_cons.mp hy with rfl | hy
        · exact z1
        · exact ih (by simp only [doks, k1, z2, Bool.and_self]) z2 y hy
    rcases List.mem_cons.mp ha with e | ha
    · rw [e]
      rcases List.mem_cons.mp hb with e2 | hb
      · rw [e2]; exact h2
      · exact h1 b hb
    · rcases List.mem_cons.mp hb with e | hb
      · rw [e]; exact al_comm k1 (km a ha) (h1 a ha)
      · exact alAll_mem k2 h3 a ha b hb
theorem doks_mem : ∀ {ds : List D} {n : Nat}, doks ds n = true → ∀ a ∈ ds, dok a n = true
  | [], _, _, a, ha => by cases ha
  | x :: xs, n, h, a, ha => by
    obtain ⟨k1, k2⟩ := doks_cons h
    rcases List.mem_cons.mp ha with rfl | ha
    · exact k1
    · exact doks_mem k2 a ha
theorem pys_map : ∀ ds : List D, pys ds = ds.map py
  | [] => rfl
  | d :: ds => by simp [pys, pys_map ds]

/-! tuples, some of them without items -/
section
variable {prog : Program} {w : World} {A : Around} {E : Value → Shared → Prop} {s : Shared}
theorem lt_call {Q : Value → Shared → Prop} {l b : Addr} {items items2 : Array Value} {e r : Nat → Bool} (hl : s.heap.IsTuple l items) (hb : s.heap.IsTuple b items2)
    (he : ∀ j (h1 : j < items.size) (h2 : j < items2.size), EqAt A.in1 s items[j] items2[j] (e j)) (hr : ∀ j (h1 : j < items.size) (h2 : j < items2.size), e j = false → RcLt A.in1 s items[j] items2[j] (r j))
    (h : Q (.bool (firstLt e r (decide (items.size < items2.size)) (List.range (min items.size items2.size)))) s) : wpAny (model prog w) A (call (.builtin "tuple.__lt__") [.ref l, .ref b]) Q E s := by
  obtain ⟨⟨c1, d1, dt1, sl1⟩, o1, hc1, n1, hd1⟩ := id hl
  obtain ⟨⟨c2, d2, dt2, sl2⟩, o2, hc2, n2, hd2⟩ := id hb
  simp only at hc1 hd1 hc2 hd2
  subst hc1 hd1 hc2 hd2
  exact call_meets F.slot_tuple_lt ⟨_, o1, rfl⟩ F.entry_tuple_lt (F.args_tuple_lt_2 _ _) (tuple_ltAt l b items items2 n1 n2 d1 d2 sl1 sl2 e r) ⟨o1, o2, he, hr, h⟩
theorem oneLt_tup {xs ys : List PyData} {a b : Value} {as bs : List Addr} {Q : Bool → Shared → Prop} (ra : Reads s.heap a (.tuple xs) as) (rb : Reads s.heap b (.tuple ys) bs) (h : alikeAll xs ys = true) (hu : A.units + min (PyData.tuple xs).depth (PyData.tuple ys).depth < cLine) (hq : Q (dataLt (.tuple xs) (.tuple ys)) s) : wpAny (model prog w) A (oneLt' true a b) Q E s := by
  cases ra with
  | @tuple l o vs n _ as₁ h1 h2 h3 h4 =>
    cases rb with
    | @tuple l' o' vs' n' _ bs₁ k1 k2 k3 k4 =>
      have n1 : vs.size = xs.length := by simpa using ReadsAll.length _ _ _ h4
      have n2 : vs'.size = ys.length := by simpa using ReadsAll.length _ _ _ k4
      rw [dataLt_tuple, ← firstLt_toks xs ys h, ← n1, ← n2] at hq
      rw [oneLt'_eq]
      simp only [if_true]
      refine wpAny_bind (wpAny_cRoomFor (room_here hu) ?_)
      refine wpAny_bind (wpAny_callSpecialIfBound?_slot (T := "tuple") ⟨_, h1, h2⟩ F.slot_tuple_lt (lt_call (e := pairEq xs ys) (r := fun j => dataLt (xs.getD j .none) (ys.getD j .none)) ⟨_, h1, h2, _, h3⟩ ⟨_, k1, k2, _, k3⟩ (fun j j1 j2 => ?_) (fun j j1 j2 hj => ?_) ?_))
      · have := eqAt_alikeAll xs ys A.in1 s vs.toList vs'.toList _ _ h4 k4 h (room_in hu) j (by simpa using j1) (by simpa using j2)
        simpa using this
      · have := rcLt_alikeAll xs ys A.in1 s vs.toList vs'.toList _ _ h4 k4 h (room_in hu) j (by simpa using j1) (by simpa using j2) hj
        simpa using this
      · exact wpAny_truthy_bool hq
theorem firsts_any : ∀ (vs : List Value) (ds : List PyData), EachIs (fun v d => ∃ as, Reads s.heap v d as) vs ds → (∀ d ∈ ds, ∃ r, d = PyData.tuple r) → ∀ {Q : List (Option Value) → Shared → Prop}, (∀ fs : List (Option Value), EachIs (fun f d => f = none ↔ d = PyData.tuple []) fs ds → Q fs s) → wpAny (model prog w) A (vs.mapM firstOfTuple') Q E s
  | [], _, .nil, _, Q, h => by rw [List.mapM_nil]; exact wpAny_pure (h [] .nil)
  | v :: vs, d :: ds, .cons ⟨as, r⟩ t, ht, Q, h => by
    obtain ⟨xs, rfl⟩ := ht d (List.mem_cons_self ..)
    cases r with
    | @tuple a o its n _ _ h1 h2 h3 h4 =>
      rw [List.mapM_cons, kas_first_eq]
      refine wpAny_bind (wpAny_bind (wpAny_typeOf ⟨o, h1, h2⟩ ?_))
      rw [if_neg (by decide)]
      refine wpAny_bind (listItems_at h1 h3 (wpAny_pure ?_))
      refine wpAny_bind (firsts_any vs ds t (fun d hd => ht d (List.mem_cons_of_mem _ hd)) fun fs hfs => wpAny_pure (h _ (.cons ?_ hfs)))
      have hl := ReadsAll.length _ _ _ h4
      rw [← Array.getElem?_toList]
      cases q : its.toList with
      | nil =>
        rw [q] at hl
        have : xs = [] := List.eq_nil_of_length_eq_zero hl.symm
        subst this
        simp
      | cons y ys =>
        rw [q] at hl
        cases xs with
        | nil => simp at hl
        | cons z zs => simp
theorem all_tuple : ∀ (vs : List Value) (ds : List PyData), EachIs (fun v d => ∃ as, Reads s.heap v d as) vs ds → (∀ d ∈ ds, ∃ r, d = PyData.tuple r) → ∀ v ∈ vs, Looks (model prog w) s.heap (typeOf v) (.type "tuple")
  | v :: vs, d :: ds, .cons ⟨as, r⟩ t, ht, u, hu => by
    rcases List.mem_cons.mp hu with rfl | hu
    · obtain ⟨xs, rfl⟩ := ht d (List.mem_cons_self ..)
      exact looks_reads r
    · exact all_tuple vs ds t (fun d hd => ht d (List.mem_cons_of_mem _ hd)) u hu
theorem kind_any {vs : List Value} {ds : List PyData} {d0 : PyData} {dr : List PyData} (e : EachIs (fun v d => ∃ as, Reads s.heap v d as) vs ds) (ht : ∀ d ∈ ds, ∃ r, d = PyData.tuple r) (hn : PyData.tuple [] ∈ ds) (h0 : ds = d0 :: dr) {Q : SortKind → Shared → Prop} (b : Bool) (hb : b = true ↔ d0 = PyData.tuple []) (h : Q (if b = true then oneType' else general') s) : wpAny (model prog w) A (keyKind' vs.toArray) Q E s := by
  rw [keyKind'_eq, List.mapM_toArray, map_eq_pure_bind]
  refine wpAny_bind (wpAny_bind (firsts_any vs ds e ht fun fs hfs => wpAny_pure ?_))
  have hall : ¬ ((fs.toArray.all fun x => x.isSome) = true) := by
    intro z
    simp only [List.all_toArray, List.all_eq_true] at z
    have : ∀ {fs : List (Option Value)} {ds : List PyData}, EachIs (fun f d => f = none ↔ d = PyData.tuple []) fs ds → PyData.tuple [] ∈ ds → none ∈ fs := by
      intro fs ds hfs
      induction hfs with
      | nil => intro h; cases h
      | cons r t ih =>
        intro hm
        rcases List.mem_cons.mp hm with q | q
        · rw [r.mpr q.symm]; exact List.mem_cons_self ..
        · exact List.mem_cons_of_mem _ (ih q)
    have := z none (this hfs hn)
    simp at this
  rw [if_neg hall]
  subst h0
  cases hfs with
  | @cons f _ fr _ r t =>
    have e0 : ((f :: fr).toArray[0]?.bind id) = f := by simp
    rw [e0]
    cases f with
    | some x =>
      rw [if_pos (by rfl)]
      have hb' : ¬ b = true := fun z => by
        have := r.mpr (hb.mp z)
        cases this
      rw [if_neg hb'] at h
      exact wpAny_pure h
    | none =>
      rw [if_neg (by simp)]
      rw [if_pos (hb.mpr (r.mp rfl))] at h
      rw [oneTypeOnly'_eq, List.mapM_toArray, map_eq_pure_bind]
      have hT := all_tuple (prog := prog) (w := w) vs _ e ht
      cases e with
      | @cons v1 _ vr _ r1 t1 =>
        refine wpAny_bind (wpAny_bind (wpAny_bind (kas_mapM (r := Value.type "tuple") _ (fun v hv Q' hq => (hT v hv).here hq) (wpAny_pure ?_))))
        have hall2 : ((List.map (fun _ => Value.type "tuple") (v1 :: vr)).toArray.all fun x => x == Value.type "tuple") = true := by
          simp only [List.all_toArray, List.all_map, List.all_eq_true]
          intro _ _
          rfl
        have h00 : (List.map (fun _ => Value.type "tuple") (v1 :: vr)).toArray[0]? = some (Value.type "tuple") := by simp
        rw [h00]
        simp only [hall2, if_true]
        exact wpAny_pure (wpAny_pure h)
/-- tuples of which some have no item can be sorted as well -/
theorem sorts_tups {vs : List Value} {ds : List PyData} (e : EachIs (fun v d => ∃ as, Reads s.heap v d as) vs ds) (hal : AllAlike ds) (ht : ∀ d ∈ ds, ∃ r, d = PyData.tuple r) (hn : PyData.tuple [] ∈ ds) (hu : ∀ d, d ∈ ds → A.units + d.depth < cLine) : SortsAt prog w A s (dataKind s.heap ds) vs := by
  refine ⟨fun v hv => ?_, ?_⟩
  · obtain ⟨d, hd, as, r⟩ := e.left v hv
    exact ⟨_, dataKind_some hal hd r⟩
  · cases ds with
    | nil => cases hn
    | cons d0 dr =>
      have room : ∀ {d d' : PyData}, d ∈ d0 :: dr → A.units + min d.depth d'.depth < cLine := fun {d d'} hd => Nat.lt_of_le_of_lt (Nat.add_le_add_left (Nat.min_le_left _ _) _) (hu d hd)
      by_cases hb : d0 = PyData.tuple []
      · refine ⟨oneType', ?_, fun h2 E Q hq => kind_any e ht hn rfl true ⟨fun _ => hb, fun _ => rfl⟩ (by rw [if_pos rfl]; exact hq)⟩
        intro E x y a b Q ha hb hq
        obtain ⟨d, as, hd, ra, rfl⟩ := dataKind_inv ha
        obtain ⟨d', as', hd', rb, rfl⟩ := dataKind_inv hb
        obtain ⟨xs, rfl⟩ := ht d hd
        obtain ⟨ys, rfl⟩ := ht d' hd'
        rw [keyLt'_oneType]
        exact oneLt_tup ra rb (by simpa [alike] using hal _ hd _ hd') (room hd) hq
      · refine ⟨general', ?_, fun h2 E Q hq => kind_any e ht hn rfl false ⟨fun z => (nomatch z), fun z => absurd z hb⟩ (by rw [if_neg Bool.false_ne_true]; exact hq)⟩
        intro E x y a b Q ha hb hq
        obtain ⟨d, as, hd, ra, rfl⟩ := dataKind_inv ha
        obtain ⟨d', as', hd', rb, rfl⟩ := dataKind_inv hb
        obtain ⟨xs, rfl⟩ := ht d hd
        show wpAny _ _ (oneLt' false x y) _ _ _
        exact oneLt_alike (f := false) (fun z => by cases z) ra rb (hal _ hd _ hd') (fun z => by cases z) (room hd) hq
end
/-- the kind of the data that are sorted -/
def allTup (ds : List D) : Bool := ds.all fun d => match d with
  | .tup _ => true
  | _ => false
theorem sorts_of {prog : Program} {w : World} {A : Around} {s : Shared} {vs : List Value} {ds : List D} (h : sortOk ds = true) (e : EachIs (fun v d => ∃ as, Reads s.heap v d as) vs (ds.map py)) (hu : A.units + DEEP < cLine) : SortsAt prog w A s (dataKind s.heap (ds.map py)) vs := by
  unfold sortOk at h
  simp only [Bool.and_eq_true, List.all_eq_true] at h
  obtain ⟨⟨h1, h2⟩, h3⟩ := h
  have hal : AllAlike (ds.map py) := fun d hd d' hd' => by
    obtain ⟨a, ha, rfl⟩ := List.mem_map.mp hd
    obtain ⟨b, hb, rfl⟩ := List.mem_map.mp hd'
    rw [py_alike a b _ _ (doks_mem h1 a ha) (doks_mem h1 b hb)]
    exact alAll_mem h1 h2 a ha b hb
  have hd : ∀ d, d ∈ ds.map py → A.units + d.depth < cLine := fun d hd => by
    obtain ⟨a, ha, rfl⟩ := List.mem_map.mp hd
    have := py_depth a _ (doks_mem h1 a ha)
    omega
  by_cases hem : PyData.tuple [] ∈ ds.map py
  · refine sorts_tups e hal (fun d hd => ?_) hem hd
    have := hal _ hem d hd
    cases d with
    | tuple xs => exact ⟨xs, rfl⟩
    | _ => simp [alike] at this
  · refine SortsAt.data e hal ?_ hd
    by_cases ht : ∃ xs, PyData.tuple xs ∈ ds.map py
    · obtain ⟨xs, hx⟩ := ht
      refine .inl fun d hd => ?_
      have := hal _ hx d hd
      cases d with
      | tuple ys =>
        cases ys with
        | nil => exact absurd hd hem
        | cons y ys => exact ⟨y, ys, rfl⟩
      | _ => simp [alike] at this
    · refine .inr fun d hd => ⟨?_, fun xs q => ht ⟨xs, by rw [← q]; exact hd⟩⟩
      obtain ⟨a, ha, rfl⟩ := List.mem_map.mp hd
      have hk := doks_mem h1 a ha
      have hn := h3 a ha
      exact py_ne hk (by simpa using hn)
def gSorted : List D → Option Val
  | [.lst ds] => if sortOk ds && decide (ds.length ≤ LIM) then some (.box (.lst (isortBy leD ds))) else none
  | _ => none
theorem each_of {S : Hp} : ∀ {ds : List D} {vs : List V} {us : List Value}, DVs T S ds vs → Vals vs us → EachIs (fun u d => ∃ v, DV T S d v ∧ RelV v u) us ds
  | [], vs, us, h, r => by
    have : vs = [] := by simpa [DVs] using h
    subst this
    cases r
    exact .nil
  | d :: ds, vs, us, h, r => by
    simp only [DVs] at h
    obtain ⟨v, w, rfl, h1, h2⟩ := h
    cases r with
    | cons r1 r2 => exact .cons ⟨v, h1, r1⟩ (each_of h2 r2)
theorem of_each {S : Hp} : ∀ {us : List Value} {ds : List D}, EachIs (fun u d => ∃ v, DV T S d v ∧ RelV v u) us ds → ∃ vs, DVs T S ds vs ∧ Vals vs us
  | _, _, .nil => ⟨[], DVs.nil, .nil⟩
  | _, _, .cons ⟨v, h1, r1⟩ t => by
    obtain ⟨vs, h2, r2⟩ := of_each t
    exact ⟨v :: vs, DVs.cons h1 h2, .cons r1 r2⟩
theorem each_py {R : Value → PyData → Prop} : ∀ {us : List Value} {ds : List D}, EachIs (fun u d => R u (py d)) us ds → EachIs R us (ds.map py)
  | _, _, .nil => .nil
  | _, _, .cons h t => .cons h (each_py t)
theorem each_imp {α β : Type} {R R' : α → β → Prop} : ∀ {us : List α} {ds : List β}, EachIs R us ds → (∀ u d, d ∈ ds → R u d → R' u d) → EachIs R' us ds
  | _, _, .nil, _ => .nil
  | _, _, .cons h t, k => .cons (k _ _ (List.mem_cons_self ..) h) (each_imp t fun u d hd => k u d (List.mem_cons_of_mem _ hd))
theorem isort_data {ds : List D} (h : sortOk ds = true) : ds.mergeSort (dataLe false py) = isortBy leD ds := by
  have tot : TotalLe (dataLe false py) := sortLe_total (listOrd itemOrd) false fun d => keyToks (py d)
  unfold sortOk at h
  simp only [Bool.and_eq_true, List.all_eq_true] at h
  obtain ⟨⟨h1, h2⟩, h3⟩ := h
  rw [← isortBy_eq tot]
  refine isortBy_congr ds fun a ha b hb => ?_
  have := py_lt b a _ _ (doks_mem h1 b hb) (doks_mem h1 a ha) (alAll_mem h1 h2 b hb a ha)
  show (!dataLt (py b) (py a)) = !ltD b a
  rw [this]
theorem r_sorted {k : Nat} (hr : Room k X.A) : CallR X (.builtin "sorted") (RC (tx X) gSorted) := by
  intro pins s σ H xs us Q I rx h
  obtain ⟨ρ, st, ds, rel, tv, r, g, q⟩ := h
  unfold gSorted at g
  split at g
  · rename_i ds
    split at g
    · rename_i hk
      rw [Bool.and_eq_true, decide_eq_true_eq] at hk
      cases g
      obtain ⟨v, rfl, a, vs, rfl, h1, h2⟩ := tvs1 tv
      obtain ⟨u, rfl, ru⟩ := vals1 rx
      cases ru
      have h3 := isort_data hk.1
      have hk1 : doks ds DEEP = true := by
        have := hk.1
        unfold sortOk at this
        simp only [Bool.and_eq_true] at this
        exact this.1.1
      obtain ⟨its, rv, hl, hz⟩ := I.list (a := a) (xs := vs) (.inl (.inl h1))
      have e := each_of h2 rv
      have er : EachIs (fun u d => ∃ as, Reads s.heap u (py d) as) its ds := each_imp e fun u d hd ⟨v, dv, r⟩ => Dp.reads I _ v u (dp_of hide_le d v _ (doks_mem hk1 d hd) dv) r
      have hu := hr.units
      have hD : DEEP = 40 := rfl
      have el : ds.length = its.length := by rw [← h2.length]; exact rv.length
      have er' : EachIs (fun v b => ∃ as, Reads (sortingHeap (copyHeap s.heap its) (s.heap.objs.size + 1) its) v (py b) as) its ds := each_imp er fun _ _ _ ⟨as, r⟩ => ⟨as, PyProof.Rows.Reads.keeps (fun _ _ => sorting_copy_old) r⟩
      have hal : AllAlike (ds.map py) := fun d hd d' hd' => by
        have h := hk.1
        unfold sortOk at h
        simp only [Bool.and_eq_true] at h
        obtain ⟨a, ha, rfl⟩ := List.mem_map.mp hd
        obtain ⟨b, hb, rfl⟩ := List.mem_map.mp hd'
        rw [py_alike a b _ _ (doks_mem hk1 a ha) (doks_mem hk1 b hb)]
        exact alAll_mem hk1 h.1.2 a ha b hb
      refine sorted_vals hl.isList (sorts_of (s := { s with heap := sortingHeap (copyHeap s.heap its) (s.heap.objs.size + 1) its }) hk.1 (each_py er') (by show X.A.units + 1 + 1 + DEEP < cLine; omega)) (by rw [← el]; exact Nat.le_trans hk.2 lim_line) ?_
      have out := sortVals_data (R := fun u d => ∃ v, DV (tx X) (hide H ρ) d v ∧ RelV v u) false e er' hal
      rw [h3] at out
      obtain ⟨ws, d1, r1⟩ := of_each out
      obtain ⟨ep, he'⟩ := sortedAll_at s.heap its (sortVals (dataKind (sortingHeap (copyHeap s.heap its) (s.heap.objs.size + 1) its) (ds.map py)) false its its).toArray
      have hlen : ws.length ≤ sizeLine := by
        rw [d1.length, (isortBy_perm leD ds).length_eq]
        exact Nat.le_trans hk.2 lim_line
      have hn : H (s.heap.objs.size + 1) = none := I.hok.fresh (Nat.le_succ _)
      exact ⟨.ref _, upd H (s.heap.objs.size + 1) (.lst ws), I.laid (t' := s.toks) (fun _ _ => sortedAll_old) (Nat.le_succ _) ⟨hlen, _, ep, r1, he'⟩, rfl, q ρ _ _ (ok_lst rel hn d1)⟩
    · cases g
  · cases g
end G

set_option maxHeartbeats 4000000
namespace G
open PySem PySem.Spec PyProof.Rows L2
variable {X : Cx} {W : WX} {T : Tx}
theorem natAbs_lim {i : Int} (h : i.natAbs < B64) : -(2 ^ 64) < i ∧ i < 2 ^ 64 := by
  have h' : i.natAbs < 18446744073709551616 := h
  omega
theorem r_mul : OpR X (binaryOp .Mult) (ROp (tx X) (opD gMul)) := by
  refine OpR.weak ((op_mul.or op_rep).or op_repT) fun x y H Q q => ?_
  obtain ⟨ρ, st, d, e, rel, hd, he, r, g, q⟩ := rd_of q
  unfold gMul at g
  split at g
  · rename_i i j
    cases (show x = .int i by simpa [TV, DV] using hd); cases (show y = .int j by simpa [TV, DV] using he)
    split at g
    · rename_i hc
      cases g
      refine .inl (.inl ⟨i, j, rfl, rfl, ?_, q ρ H _ (ok_d rel dv_int)⟩)
      rcases Bool.or_eq_true_iff.mp hc with h | h
      · exact .inl (natAbs_lim (by simpa using h))
      · exact .inr (natAbs_lim (by simpa using h))
    · cases g
  · rename_i xs k
    cases (show y = .int k by simpa [TV, DV] using he)
    obtain ⟨a, vs, rfl, h1, h2⟩ := hd
    split at g
    · rename_i hc
      cases g
      obtain ⟨c1, c2, c3⟩ := hc
      have l := h2.length
      have ll := lim_line
      refine .inl (.inr ⟨a, k, vs, rfl, rfl, h1, ?_, ?_, ?_, fun p hp => q ρ _ _ (ok_lst rel hp (h2.rep _))⟩)
      · have : (LIM : Int) = 16777216 := rfl
        omega
      · have : (LIM : Int) = 16777216 := rfl
        omega
      · rw [l]; exact Nat.le_trans c3 ll
    · cases g
  · rename_i xs k
    cases (show y = .int k by simpa [TV, DV] using he)
    obtain ⟨a, vs, rfl, h1, h2, _⟩ := hd
    split at g
    · rename_i hc
      cases g
      obtain ⟨c1, c2, c3, c4⟩ := hc
      have l := h2.length
      exact .inr ⟨a, k, vs, rfl, rfl, h1, fun z => c1 (h2.nil_iff.mpr z), c2, c3, by omega, fun p hp => q ρ _ _ (ok_tup rel hp (h2.rep _))⟩
    · cases g
  · cases g
end G

set_option maxHeartbeats 4000000

/-! ### an own error whose __init__ says super().__init__(p); self.f = p -/
namespace PySem.W
open PySem PySem.Calls PyProof.Rows PySem.Spec
def supA (prm : Str) (p1 p2 : Pos) : Arguments := { posonlyargs := [], args := [{ arg := "self", annotation := none, pos := p1 }, { arg := prm, annotation := none, pos := p2 }], vararg := none, kwonlyargs := [], kw_defaults := [], kwarg := none, defaults := [] }
def supB (fld prm : Str) (q1 q2 q3 q4 q5 q6 q7 q8 q9 q10 : Pos) : List Stmt :=
  [.Expr (.Call (.Attribute (.Call (.Name "super" q1) [] [] q2) "__init__" q3) [.Name prm q4] [] q5) q6, .Assign [.Attribute (.Name "self" q7) fld q8] (.Name prm q9) q10]
def supS (prm : Str) : Scope := { kind := .function, names := [(PySem.Str.ofString "self", .local), (prm, .local), (PySem.Str.ofString "__class__", .free), (PySem.Str.ofString "super", .globalImplicit)], isGenerator := false, isCoroutine := false, more := [] }
/-- what the written part says of the class at C, of its __init__ at fI -/
structure SupTxt (prog : Program) (K : Frag) (C fI : Addr) (fld prm : Str) : Prop where
  oex : L2.OexC K C
  iC : findIn K (.ref C) "__init__" = some (some (.ref fI))
  tI : typeIn K (.ref fI) = some (.type "function")
  noN : findIn K (.ref C) fld = some none
  sup : ks_superIn K C C "__init__" = some (some (.builtin "ValueError.__init__"))
  hB : subIn K (.ref C) (.type "ValueError") = some true
  mro : mroIn K C (.ref C) = some true
  exI : excInitIn K C [.type "ValueError", .type "Exception", .type "BaseException", .type "object"] "ValueError.__new__" = true
  opq : nsIn K cStatics "thirdparty.any" = some none
  htop : (prog.main.scope.names.lookup ("super" : Str)).isSome = false
  ne : prm ≠ "self" ∧ prm ≠ "__debug__" ∧ prm ≠ "super" ∧ prm ≠ "__class__"
  fn : ∃ (oc : Value) (od : Option Addr) (qual : Str) (doc pm : Value) (an : Option Addr) (cda cc : Addr) (ct : Value) (osl : Array (Option Value)) (p1 p2 q1 q2 q3 q4 q5 q6 q7 q8 q9 q10 : Pos) (ccl cl : Value) (cdd cld : Option Addr) (vs : Array Value) (ccs csl : Array (Option Value)) (file : Str) (tf : Tok),
    K.lookup fI = some ⟨oc, od, .func (ksFn "__init__" qual (supA prm p1 p2) (supB fld prm q1 q2 q3 q4 q5 q6 q7 q8 q9 q10) (supS prm) .none .none doc pm an (.ref cda) ct cc), osl⟩ ∧ (∀ x v : Value, bindArgs (ksFn "__init__" qual (supA prm p1 p2) (supB fld prm q1 q2 q3 q4 q5 q6 q7 q8 q9 q10) (supS prm) .none .none doc pm an (.ref cda) ct cc) ⟨[x, v], []⟩ = pure [(("self" : Str), x), (prm, v)]) ∧ (q3.endLine == q5.line) = true ∧ codeIn K (.ref cda) qual = true ∧
    K.lookup cda = some ⟨ccl, cdd, .fields vs, ccs⟩ ∧ vs[2]? = some (.str file tf) ∧ ((prog.main.file : Str) == file) = true ∧ K.lookup cc = some ⟨cl, cld, .cell (some (.ref C)), csl⟩
/-- what is left of a fresh error at x -/
structure SupEnd (h h' : Heap) (x C dx t1 : Addr) (fld : Str) (v : Value) : Prop where
  keep : ∀ b o, b ≠ x → h.get? b = some o → h'.get? b = some o
  obj : h'.get? x = some { cls := .ref C, dict := some dx, data := .fields #[.ref t1, .none, .none, .none, .bool false, .none] }
  dbig : h.objs.size ≤ dx
  dne : dx ≠ x
  ns : h'.Ns1 dx (fun y => if y = fld then some v else none)
section
variable {prog : Program} {w : World} {A : Around} {E : Value → Shared → Prop} {R : Result → Shared → Prop} {s : Shared} {K : Frag} {mg mb : Str → Option Value} {C fI : Addr} {fld prm : Str}
theorem he_sup {o : Expr} {name prm : Str} {apos pos q4 : Pos} {env : Env} (h : (apos.endLine == pos.line) = true) : eval (.Call (.Attribute o name apos) [.Name prm q4] [] pos) env = (do
      let ov ← attributeBase o name env (eval o env)
      standAt apos.atName
      let (f, first) ← holding [ov] (getMethod ov name (do return (← importBound o env).getD true))
      callWith pos f first (backTo pos (starEach [.Name prm q4] env)) []) := by
  rw [arm_eval_Call]
  unfold methodCall methodCallPos calleeOf
  have e : methodCallForm (([.Name prm q4] : List Expr).length + ([] : List Keyword).length) (backTo pos (starEach [.Name prm q4] env)) (backToKw pos (keywordEach [] env)) = true := rfl
  have e2 : backToKw pos (keywordEach [] env) = [] := rfl
  rw [e2] at e
  simp only [e, e2, h, Bool.not_true, Bool.false_or, if_true, pure_bind]
theorem sup_init (T : SupTxt prog K C fI fld prm) {x t0 : Addr} {v : Value} (X : K.In s.heap) (hlim : s.heap.NoLimit) (hg : s.heap.Ns mainGlobals mg) (hsup : mg "super" = none) (hb : s.heap.Ns builtinsNs mb) (hbs : mb "super" = bootBuiltins "super")
    (hx : s.heap.get? x = some (HandSPX.excO C t0)) (hnx : K.lookup x = none) (hroom : A.depth < recursionLimit)
    (hq : ∀ h' tk dx t1, SupEnd s.heap h' x C dx t1 fld v → R (.ok (.ret .none)) { s with heap := h', toks := tk }) :
    codeAny (model prog w) A (.call (.ref fI) ⟨[.ref x, v], []⟩) R s := by
  obtain ⟨oc, od, qual, doc, pm, an, cda, cc, ct, osl, p1, p2, q1, q2, q3, q4, q5, q6, q7, q8, q9, q10, ccl, cl, cdd, cld, vs, ccs, csl, file, tf, ho, hbd, hlin, hcd, hcode, hvs, hfile, hcell⟩ := T.fn
  obtain ⟨nm, q, N, bs, bm, sn, sub, ab, col, dd, k0, k1, k2, k3, k5, hC, hbm⟩ := T.oex.cls
  have hcl : clsIn K C = some { name := nm, bases := bs, mro := .ref C :: bm, ns := N, qualname := q, hasDict := true, slotNames := sn, subclasses := sub, abstract := ab, collection := col, hasDel := false } := by unfold clsIn; rw [hC] <;> rfl
  obtain ⟨n1, n2, n3, n4⟩ := T.ne
  have ns1 : (supS prm).names.lookup ("self" : Str) = some .local := by simp [supS, List.lookup]
  have ns2 : (supS prm).names.lookup prm = some .local := by
    have z : (prm == PySem.Str.ofString "self") = false := by simpa using n1
    simp [supS, List.lookup, z]
  have ns3 : (supS prm).names.lookup ("super" : Str) = some .globalImplicit := by
    have z : (PySem.Str.ofString "super" == prm) = false := by simpa using fun z => n3 z.symm
    have z2 : (PySem.Str.ofString "super" == PySem.Str.ofString "self") = false := by decide
    have z3 : (PySem.Str.ofString "super" == PySem.Str.ofString "__class__") = false := by decide
    simp [supS, List.lookup, z, z2, z3]
  have ns4 : (supS prm).names.lookup ("__class__" : Str) = some .free := by
    have z : (PySem.Str.ofString "__class__" == prm) = false := by simpa using fun z => n4 z.symm
    have z2 : (PySem.Str.ofString "__class__" == PySem.Str.ofString "self") = false := by decide
    simp [supS, List.lookup, z, z2]
  have ns5 : ∀ x ∈ (supS prm).names, x.2 ≠ .cell := by intro y hy; simp [supS] at hy; rcases hy with rfl | rfl | rfl | rfl <;> exact fun z => nomatch z
  have hk : (supS prm).kind = .function := rfl
  have hco : (supS prm).isCoroutine = false := rfl
  have hgen : (supS prm).isGenerator = false := rfl
  have pself : (("self" : Str) == prm) = false := by simpa using fun z => n1 z.symm
  have hpd : (prm == ("__debug__" : Str)) = false := by simpa using n2
  refine ks_codeAny_call_defAt (fd := ksFn "__init__" qual (supA prm p1 p2) (supB fld prm q1 q2 q3 q4 q5 q6 q7 q8 q9 q10) (supS prm) .none .none doc pm an (.ref cda) ct cc) (body := supB fld prm q1 q2 q3 q4 q5 q6 q7 q8 q9 q10) (binds := [("self", .ref x), (prm, v)])
    hroom (X _ _ ho) rfl hlim (codeRec_of X hcd) rfl (BindsTo.of_eq ?_) ns5 ?_ (fun h₁ hns k => ?_) hco hgen hk
  · exact hbd _ _
  · intro y hy
    rcases List.mem_cons.mp hy with rfl | hy
    · exact ns1
    · rcases List.mem_cons.mp hy with rfl | hy
      · exact ns2
      · cases hy
  have X₁ : K.In h₁ := X.keeps k
  have hx₁ := k _ _ hx
  have mself : (List.lookup ("self" : Str) [((prm, v) : Str × Value), ("self", .ref x)]) = some (.ref x) := by simp [List.lookup, pself]
  have mprm : (List.lookup prm [((prm, v) : Str × Value), ("self", .ref x)]) = some v := by simp [List.lookup]
  show wpAt _ _ _ (execs (supB fld prm q1 q2 q3 q4 q5 q6 q7 q8 q9 q10) (ksEnv qual (supS prm) s.heap.objs.size fI (.ref cda) cc)) _ _ _
  have hcode₁ := X₁ _ _ hcode
  have hcell₁ := X₁ _ _ hcell
  have hxC : x ≠ C := by rintro rfl; rw [hC] at hnx; cases hnx
  have I₁ : InstAt h₁ x (HandSPX.excO C t0) C none := ⟨hx₁, rfl, rfl, trivial⟩
  have hL : s.heap.objs.size ≠ x := Nat.ne_of_gt (Heap.lt_size hx)
  refine ks_wpAt_execs_cons (ks_wpAt_Expr_any (ks_wpAt_MethodCall (ks_wpAt_super_base (env := ksEnv qual (supS prm) s.heap.objs.size fI (.ref cda) cc) ns3 ns4 (by decide) rfl (X₁ _ _ ho) rfl rfl rfl hcode₁ rfl hvs hfile T.htop ?_) (he_sup hlin)) rfl rfl)
  refine ks_loadName_global hk ns3 (loadGlobal_builtin (env := ksEnv qual (supS prm) s.heap.objs.size fI (.ref cda) cc) (hg.keeps k) hsup (hb.keeps k) (hbs.trans (by first | boot_by_name | rfl | kernel_rfl)) ⟨rfl, ?_⟩)
  refine wpAny_loadName_free hk ns4 rfl ⟨_, hcell₁, rfl⟩ ?_
  refine wpAny_loadName_local hk ns1 hns mself ?_
  refine ks_wpAny_isType_cls (cd := ⟨nm, bs, .ref C :: bm, N, q, true, sn, sub, ab, col, false⟩) (X₁ _ _ hC) rfl ⟨rfl, ?_⟩
  refine ks_wpAny_call_super (cdD := ⟨nm, bs, .ref C :: bm, N, q, true, sn, sub, ab, col, false⟩) (X₁ _ _ hC) rfl hx₁ rfl (fun c e => by cases e) (looks_mroIn X₁ T.mro) (fun h₂ hso k₂ => ?_)
  have X₂ : K.In h₂ := X₁.keeps k₂
  have I₂ : InstAt h₂ x (HandSPX.excO C t0) C none := ⟨k₂ _ _ hx₁, rfl, rfl, trivial⟩
  have hm : alongIn K "__init__" (((Value.ref C :: bm).dropWhile (· != .ref C)).drop 1) = some (some (.builtin "ValueError.__init__")) := by
    have z := T.sup
    unfold ks_superIn at z
    rw [hcl] at z
    exact z
  refine kxs_getMethod kxs_ValueError hso (looks_opaque X₂ T.opq) (l₀ := .ref C :: bm) (fun A Q E s k q => wpAny_bind ((looks_clsIn X₂ hcl) A _ E s k (wpAny_pure q))) rfl X₂ hm (I₂.type.andThen (looks_subIn X₂ T.hB)) hxC (by decide) ?_
  -- super().__init__(p)
  have keep₃ : ∀ b o, h₁.get? b = some o → (h₂.push (kxs_mw "ValueError.__init__" x)).get? b = some o := fun b o e => Heap.get?_push_of_some _ (k₂ b o e)
  have hns₃ := hns.keeps keep₃
  have hu₃ : (h₂.push (kxs_mw "ValueError.__init__" x)).get? h₂.objs.size = some (kxs_mw "ValueError.__init__" x) := Heap.get?_push_at rfl rfl
  have big₂ : s.heap.objs.size < h₂.objs.size := Nat.lt_of_lt_of_le hns.lt (Nat.le_of_lt (Heap.lt_size hso))
  have Fr₃ : Fr (s.heap.hide x) s.heap.objs.size (h₂.push (kxs_mw "ValueError.__init__" x)) (fun y => List.lookup y [((prm, v) : Str × Value), ("self", .ref x)]) := ⟨hns₃, fun b o e => keep₃ _ _ (k _ _ (Heap.of_hide e)), by rw [Heap.hide_size]; exact Nat.le_refl _⟩
  have X₀ : K.In (s.heap.hide x) := fun a o e => (Heap.hide_ne _ (fun z => by rw [z, hnx] at e; cases e)).trans (X a o e)
  have nuL : h₂.objs.size ≠ s.heap.objs.size := Nat.ne_of_gt big₂
  have N₃ : News (s.heap.hide x) s.heap.objs.size (h₂.push (kxs_mw "ValueError.__init__" x)) [(x, excObj C t0 none .none), (h₂.objs.size, kxs_mw "ValueError.__init__" x)] := by
    intro p hp
    rcases List.mem_cons.mp hp with rfl | hp
    · exact ⟨keep₃ _ _ hx₁, hL.symm, Heap.hide_self _ _⟩
    · rcases List.mem_cons.mp hp with rfl | hp
      · refine ⟨hu₃, nuL, ?_⟩
        cases z : (s.heap.hide x).get? h₂.objs.size with
        | none => rfl
        | some o => exact absurd (Nat.lt_trans big₂ (Heap.lt_size (Heap.of_hide z))) (Nat.lt_irrefl _)
      · cases hp
  have nux : h₂.objs.size ≠ x := fun z => absurd (Nat.lt_trans big₂ (by rw [z]; exact Heap.lt_size hx)) (Nat.lt_irrefl _)
  refine kxs_callWith (i := "ValueError.__init__") (x := x) rfl (evalArgs_plain (spliced_cons (wpAny_Name (wpAny_loadName_local hk ns2 hns₃ mprm (spliced_nil ⟨hu₃, ?_⟩)) hpd)))
  refine kxs_call Fr₃ X₀ N₃ F.excBase_ValueError T.exI (List.mem_cons_of_mem _ (List.mem_cons_self ..)) (UpdF.head fun p hp => by
    rcases List.mem_cons.mp hp with rfl | hp
    · exact nux
    · cases hp) (by show 1 ≤ sizeLine; rw [sizeLine_eq]; decide) (fun t' h₄ Fr₄ N₄ _ => ?_)
  -- self.f = p
  have hx₄ : h₄.get? x = some (HandSPX.excO C t') := (N₄ (x, excObj C t' none .none) (by simp)).1
  have X₄ : K.In h₄ := X₀.keeps Fr₄.keep
  show wpAt _ _ _ (execs _ _) _ _ _
  refine ks_wpAt_execs_cons (wpAt_of_wpAny (plainObj_wpAny_Assign_Attribute ?_))
  refine wpAny_Name (wpAny_loadName_local hk ns2 Fr₄.ns mprm ?_) hpd
  refine wpAny_Name (wpAny_loadName_local hk ns1 Fr₄.ns mself ?_) (by decide)
  refine set_plain X₄ (ox := HandSPX.excO C t') (od := none) ⟨hx₄, rfl, rfl, trivial⟩ T.oex.sa ?_
  refine HandSPX.exc_osa X₄ hx₄ hcl (show HandSPX.refsVE (.ref C :: bm) = true from hbm) rfl T.noN (fun h₅ tk₅ dx k₅ dn dne hx₅ hn₅ => ?_)
  show wpAt _ _ _ (execs _ _) _ _ _
  refine wpAt_of_wpAny (wpAny_execs_nil ?_)
  refine hq h₅ tk₅ dx t' ⟨fun b o hb e => k₅ b o hb (Fr₄.keep b o ((Heap.hide_ne _ hb).trans e)), hx₅, ?_, dne, hn₅⟩
  exact Nat.le_trans (Nat.le_of_lt Fr₄.ns.lt) dn
theorem sup_made (T : SupTxt prog K C fI fld prm) {v : Value} (X : K.In s.heap) (hlim : s.heap.NoLimit) (hg : s.heap.Ns mainGlobals mg) (hsup : mg "super" = none) (hb : s.heap.Ns builtinsNs mb) (hbs : mb "super" = bootBuiltins "super") (hroom : A.depth + 1 < recursionLimit)
    (hq : ∀ h' tk e dx t1, s.heap.objs.size ≤ e → SupEnd s.heap h' e C dx t1 fld v → (∀ b o, s.heap.get? b = some o → h'.get? b = some o) → R (.ok (.ret (.ref e))) { s with heap := h', toks := tk }) : codeAny (model prog w) A (.call (.ref C) ⟨[v], []⟩) R s := by
  obtain ⟨nm, q, N, bs, bm, sn, sub, ab, col, dd, k0, k1, k2, k3, k5, hC, hbm⟩ := T.oex.cls
  obtain ⟨hp, g, dr, tk, os⟩ := s
  have k : ∀ b o, hp.get? b = some o → ((hp.push (kdv_tup [v])).push (HandSPX.excO C hp.objs.size)).get? b = some o := fun b o e => Heap.get?_push_of_some _ (Heap.get?_push_of_some _ e)
  have hget : ((hp.push (kdv_tup [v])).push (HandSPX.excO C hp.objs.size)).get? (hp.objs.size + 1) = some (HandSPX.excO C hp.objs.size) := by heap_get
  have hnx : K.lookup (hp.objs.size + 1) = none := by
    cases e : K.lookup (hp.objs.size + 1) with
    | none => rfl
    | some o =>
      have z : hp.get? (hp.objs.size + 1) = some o := X _ _ e
      exact absurd (Nat.lt_of_succ_lt (Heap.lt_size z)) (Nat.lt_irrefl _)
  refine HandSPX.call_own F.excBase_ValueError (fun X => HandSPX.refsVE_contains X bm hbm) (X _ _ hC) (looks_findIn X T.iC) (fun self => bind_fn X self T.tI) (by show 1 ≤ sizeLine; rw [sizeLine_eq]; decide) ?_
  refine sup_init (s := ⟨(hp.push (kdv_tup [v])).push (HandSPX.excO C hp.objs.size), g, dr, tk, os⟩) T (X.keeps k) (hlim.keeps k) (hg.keeps k) hsup (hb.keeps k) hbs hget hnx ?_ fun h' tk' dx t1 M => ?_
  · show A.depth + 1 < recursionLimit
    exact hroom
  · have old : ∀ b o, hp.get? b = some o → h'.get? b = some o := fun b o e => M.keep b o (Nat.ne_of_lt (Nat.lt_succ_of_lt (Heap.lt_size e))) (k b o e)
    have z : hp.objs.size ≤ dx := by
      have q := M.dbig
      simp only [Heap.size_push] at q
      omega
    exact ⟨rfl, hq h' tk' (hp.objs.size + 1) dx t1 (Nat.le_succ _) ⟨fun b o _ e => old b o e, M.obj, z, M.dne, M.ns⟩ old⟩
end
end PySem.W

namespace G
open PySem PySem.Spec PyProof.Rows L2
variable {X : Cx} {W : WX} {T : Tx}
abbrev veBm : List Value := [.type "ValueError", .type "Exception", .type "BaseException", .type "object"]
section
variable {fs ex : List Addr} {H : Hp} {h h' : Heap} {a : Addr} {o : HO} {P : Program} {w : World}
theorem un_lay (k : ∀ b u, h.get? b = some u → h'.get? b = some u) (hp : h.get? a = none) (hn : H a = none) : Un fs ex H (upd H a o) h h' where
  keep := fun b u q _ _ _ => k b u q
  slot := fun b u q _ _ _ => ⟨u.slots, k b u q⟩
  free := fun b u q n _ => by rw [upd_ne (fun z => by rw [z, hp] at q; cases q)]; exact n
  there := fun b u q _ => ⟨u, k b u q⟩
  tups := fun b xs q => by rw [upd_ne (ne_of_none q hn)]; exact q
  frzs := fun b u xs q => by rw [upd_ne (ne_of_none q hn)]; exact q
  tbls := fun b ps q => ⟨#[], by rw [upd_ne (ne_of_none q hn), q]; simp⟩
theorem hok_lay (x : HOk P w H h) (k : ∀ b u, h.get? b = some u → h'.get? b = some u) (hn : H a = none) (new : ObjOk P w (upd H a o) h' a o) : HOk P w (upd H a o) h' := fun b u e => by
  by_cases hb : b = a
  · subst hb; rw [upd_same] at e; cases e; exact new
  · rw [upd_ne hb] at e
    exact (x b u e).stay (fun c v _ q => k c v q) (fun c q => by rw [upd_ne (ne_of_none q hn)]; exact q) fun c xs q => by rw [upd_ne (ne_of_none q hn)]; exact q
end
/-! ### C(e), C an own error without __init__ -/
structure Ex0 (K : PySem.W.Frag) (mg : Str → Option Value) (x : Str) (C : Addr) : Prop where
  g : mg x = some (.ref C)
  q : PySem.W.excIn K C veBm "ValueError.__new__" = true
  k : PySem.W.keepIn K (.ref C) = true
def fMk0 (c : Str) (fa : FA) : FE := fun env st => (fa env st).bind fun us st => match us with
  | [_] => .ok (.u (.d (.exo c "" []))) st
  | _ => .stuck
theorem ok_exo {ρ : Wd} {H : Hp} {st : Store} {c : Str} {C a : Addr} (rel : Rel T ρ st H) (g : T.mg c = some (.ref C)) (hn : H a = none) : OkVal T ρ H (.u (.d (.exo c "" []))) st ρ (upd H a (exo a C none)) (.ref a) := by
  obtain ⟨r, e⟩ := rel_new (o := exo a C none) rel hn
  refine ⟨e, r, ?_⟩
  show DV T _ (.exo c "" []) _
  simp only [DV]
  exact ⟨a, C, rfl, g, .inl ⟨trivial, hide_of upd_same (rel.free hn)⟩⟩
theorem se_mk0 {x : Str} {C : Addr} {p pos : Pos} {e : Expr} {es : List Expr} {fa : FA} (E : Ex0 X.K X.mg x C) (hg : Gl X x) (ha : SA X W (e :: es) fa) (hdb : (x == ("__debug__" : Str)) = false := by decide)
    (he : starEach (e :: es) X.env = (false, eval e X.env) :: starEach es X.env := by rfl) (hpl : (backTo pos (starEach es X.env)).any (·.1) = false := by rfl) : SE X W (.Call (.Name x p) (e :: es) [] pos) (fMk0 x fa) := by
  refine ⟨fun pins s σ H Q I ⟨ρ, env, st, rel, eo, q⟩ => ?_⟩
  refine wpAny_Call_Name_kw (ld_glob I hg E.g ?_ hdb)
  refine PySem.W.callWith_K (h₀ := X.base) I.ok.mod.kin E.k (thn (ha.run pos pins s σ H (fun vs H1 => vs.length = 1 ∧ ∀ a, H1 a = none → Q (.ref a) (upd H1 a (exo a C none))) I ⟨ρ, env, st, rel, eo, (PR.bind q).mono fun us st1 q ρ1 H1 vs ok => ?_⟩) fun us s1 hh => ?_) he hpl
  · match us, q, ok with
    | [u], q, ok => exact ⟨by have := ok.2.2.length; simpa using this.symm, fun a hn => q ρ1 _ _ (OkVal.ext ok.1 (ok_exo ok.2.1 E.g hn))⟩
    | [], q, _ => exact q.elim
    | _ :: _ :: _, q, _ => exact q.elim
  · obtain ⟨vs, H1, I1, r1, l1, q1⟩ := hh
    refine ⟨I1.kIn, ?_⟩
    have hl : us.length = 1 := by rw [← Paired.length r1]; exact l1
    show wpAny _ _ (call (.ref C) us) _ _ _
    obtain ⟨bm, N, nm, qn, bs, hdct, sn, sub, ab, col, dd, k0, k1, k2, k3, k5, mN, hC, hN, hni, Tl⟩ := exc_obj I1.kIn E.q
    refine wpAny_call_exc_subT PySem.F.excBase_ValueError Tl hC hN hni (fun h' a hm => ?_) (by rw [hl, sizeLine_eq]; decide)
    have hn := I1.hok.gone hm.new
    obtain ⟨t, ht, _, _⟩ := hm.there
    exact ⟨.ref a, _, I1.un (un_lay hm.keeps hm.new hn) (hok_lay I1.hok hm.keeps hn (exo_ok ht)), rfl, q1 a hn⟩
/-! ### C(e), C's __init__ keeping e in a field -/
structure Ex1 (prog : Program) (K : PySem.W.Frag) (mg : Str → Option Value) (x f : Str) (C : Addr) : Prop where
  g : mg x = some (.ref C)
  nsup : mg "super" = none
  tx : ∃ fI prm, PySem.W.SupTxt prog K C fI f prm
def fMk1 (c f : Str) (fa : FA) : FE := fun env st => (fa env st).bind fun us st => match us with
  | [.d d] => .ok (.u (.d (.exo c f [d]))) st
  | _ => .stuck
theorem ok_exo1 {ρ : Wd} {H : Hp} {st : Store} {c f : Str} {C a dx : Addr} {d : D} {v : V} (rel : Rel T ρ st H) (g : T.mg c = some (.ref C)) (hn : H a = none) (hd : H dx = none) (ne : dx ≠ a) (hv : DV T (hide H ρ) d v) :
    OkVal T ρ H (.u (.d (.exo c f [d]))) st ρ (upd (upd H dx (exd dx [(f, v)])) a (exo a C (some dx))) (.ref a) := by
  obtain ⟨r1, e1⟩ := rel_new (o := exd dx [(f, v)]) rel hd
  have hn1 : (upd H dx (exd dx [(f, v)])) a = none := by rw [upd_ne ne.symm]; exact hn
  obtain ⟨r, e⟩ := rel_new (o := exo a C (some dx)) r1 hn1
  refine ⟨e1.trans e, r, ?_⟩
  show DV T _ (.exo c f [d]) _
  simp only [DV]
  refine ⟨a, C, rfl, g, .inr ⟨dx, [v], hide_of upd_same (r1.free hn1), e.same _ _ (hide_of upd_same (rel.free hd)), DVs.cons (DV.mono (e1.trans e).same _ _ hv) DVs.nil⟩⟩
theorem relO1 {f : Str} {v : V} {u : Value} (r : RelV v u) (g : Str) : RelO (List.lookup g [(f, v)]) (if g = f then some u else none) := relO_put (fs := []) (mA := fun _ => none) r (fun _ => trivial) g
theorem se_mk1 {k : Nat} {x f : Str} {C : Addr} {p pos : Pos} {e : Expr} {es : List Expr} {fa : FA} (E : Ex1 X.prog X.K X.mg x f C) (hr : Room k X.A) (hg : Gl X x) (ha : SA X W (e :: es) fa) (hdb : (x == ("__debug__" : Str)) = false := by decide)
    (he : starEach (e :: es) X.env = (false, eval e X.env) :: starEach es X.env := by rfl) (hpl : (backTo pos (starEach es X.env)).any (·.1) = false := by rfl) : SE X W (.Call (.Name x p) (e :: es) [] pos) (fMk1 x f fa) := by
  obtain ⟨fI, prm, Tx⟩ := E.tx
  refine ⟨fun pins s σ H Q I ⟨ρ, env, st, rel, eo, q⟩ => ?_⟩
  refine wpAny_Call_Name_kw (ld_glob I hg E.g ?_ hdb)
  refine PySem.W.callWith_K (h₀ := X.base) I.ok.mod.kin Tx.oex.kC (thn (ha.run pos pins s σ H (fun vs H1 => ∃ v, vs = [v] ∧ ∀ a dx, H1 a = none → H1 dx = none → dx ≠ a → Q (.ref a) (upd (upd H1 dx (exd dx [(f, v)])) a (exo a C (some dx)))) I ⟨ρ, env, st, rel, eo, (PR.bind q).mono fun us st1 q ρ1 H1 vs ok => ?_⟩) fun us s1 hh => ?_) he hpl
  · match us, q, ok with
    | [.d d], q, ok =>
      obtain ⟨e1, r1, pv⟩ := ok
      cases pv with
      | cons hv hr => cases hr; exact ⟨_, rfl, fun a dx hn hd ne => q ρ1 _ _ (OkVal.ext e1 (ok_exo1 r1 E.g hn hd ne hv))⟩
    | [], q, _ => exact q.elim
    | [.ref _], q, _ => exact q.elim
    | .d _ :: _ :: _, q, _ => exact q.elim
    | .ref _ :: _ :: _, q, _ => exact q.elim
  · obtain ⟨vs, H1, I1, r1, v, rfl, q1⟩ := hh
    refine ⟨I1.kIn, ?_⟩
    cases r1 with
    | cons rv rn =>
      rename_i v' us'
      cases rn
      show wpAny _ _ (call (.ref C) [v']) _ _ _
      obtain ⟨mb, hb1, hb2⟩ := I1.mod.blt
      refine wpAny_call (PySem.W.sup_made Tx I1.kIn I1.nolimit (I1.mod.glob.keeps I1.bk) E.nsup (hb1.keeps I1.bk) (hb2 _ (by decide)) (by have := hr.dp; omega) fun h' tk a dx t1 hbig M old => ?_)
      have hn : H1 a = none := I1.hok.fresh hbig
      have hd : H1 dx = none := I1.hok.fresh M.dbig
      have g1 : s1.heap.get? dx = none := by
        cases z : s1.heap.get? dx with
        | none => rfl
        | some o => exact absurd (Nat.lt_of_lt_of_le (Heap.lt_size z) M.dbig) (Nat.lt_irrefl _)
      have g2 : s1.heap.get? a = none := by
        cases z : s1.heap.get? a with
        | none => rfl
        | some o => exact absurd (Nat.lt_of_lt_of_le (Heap.lt_size z) hbig) (Nat.lt_irrefl _)
      have hn1 : (upd H1 dx (exd dx [(f, v)])) a = none := by rw [upd_ne M.dne.symm]; exact hn
      have un : Un X.fs [] H1 (upd (upd H1 dx (exd dx [(f, v)])) a (exo a C (some dx))) s1.heap h' := (un_lay (h' := s1.heap) (fun _ _ z => z) g1 hd).trans (un_lay old g2 hn1)
      have ok1 : HOk X.prog X.w (upd H1 dx (exd dx [(f, v)])) h' := hok_lay I1.hok old hd (exd_ok M.ns fun g => relO1 rv g)
      have ok2 := hok_lay (a := a) (o := exo a C (some dx)) ok1 (fun _ _ z => z) hn1 (exo_ok M.obj)
      exact ⟨.ref a, _, I1.un un ok2, rfl, q1 a dx hn hd M.dne⟩
end G

set_option maxHeartbeats 4000000
namespace G
open PySem PySem.Spec PyProof.Rows L2
variable {X : Cx} {W : WX} {T : Tx}
/-! ### sep.join(..) -/
def allStr : List D → Option (List Str)
  | [] => some []
  | .str x :: r => (allStr r).map (x :: ·)
  | _ :: _ => none
theorem allStr_dvs {S : Hp} : ∀ {ds : List D} {ys : List Str} {vs : List V}, allStr ds = some ys → DVs T S ds vs → vs = ys.map V.str
  | [], ys, vs, e, h => by cases e; simp only [DVs] at h; subst h; rfl
  | d :: r, ys, vs, e, h => by
    cases d with
    | str x =>
      cases q : allStr r with
      | none => simp [allStr, q] at e
      | some zs =>
        have : x :: zs = ys := by simpa [allStr, q] using e
        subst this
        simp only [DVs] at h
        obtain ⟨v, r', rfl, h1, h2⟩ := h
        cases (show v = .str x by simpa [DV] using h1)
        rw [allStr_dvs q h2]; rfl
    | _ => simp [allStr] at e
def joinD (a : Str) (xs : List D) : Option Val := (allStr xs).bind fun ys => if (ys.map (·.length)).sum + ys.length * a.length ≤ 16777216 then some (.u (.d (.str (Txt.join a ys)))) else none
def gJoin (a : Str) : D → Option Val
  | .lst xs => joinD a xs
  | .tup xs => joinD a xs
  | _ => none
def fM1 (g : Str → D → Option Val) (fo fe : FE) : FE := fun env st => (uE fo env st).bind fun x st => match x with
  | .d (.str a) => (uE fe env st).bind fun y st => lift ((y.frz st).bind (g a)) st
  | _ => .stuck
def RM1 (T : Tx) (g : Str → D → Option Val) : V → List V → Hp → VK → Prop := fun x xs H Q => ∃ ρ st a d y, Rel T ρ st H ∧ x = .str a ∧ xs = [y] ∧ TV T ρ H d y ∧ ∃ r, g a d = some r ∧ ∀ ρ' H' v, OkVal T ρ H r st ρ' H' v → Q v H'
theorem m1 {g : Str → D → Option Val} {fo fe : FE} : ∀ σ H Q, TG T W (fM1 g fo fe) σ H Q → tM1 (RM1 T g) (TGU T W (uE fo)) (TGU T W (uE fe)) σ H Q := fun σ H Q ⟨ρ, env, st, rel, eo, q⟩ => by
  refine ⟨ρ, env, st, rel, eo, (PR.bind q).mono fun x st1 q ρ1 H1 v1 ok1 => ?_⟩
  match x, q, ok1 with
  | .d (.str a), q, ok1 =>
    cases (show v1 = .str a by have := ok1.2.2; simpa [UV, DV] using this)
    refine ⟨⟨a, rfl⟩, ρ1, env, st1, ok1.2.1, eo.mono ok1.1, PR.ext ok1.1 (PR.bind q) fun y st2 q ρ2 H2 v2 ok2 => ?_⟩
    cases e : y.frz st2 with
    | none => rw [e] at q; exact q.elim
    | some d =>
      rw [e, Option.bind_some] at q
      cases e2 : g a d with
      | none => rw [e2] at q; exact q.elim
      | some r =>
        rw [e2] at q
        exact ⟨ρ2, st2, a, d, v2, ok2.2.1, rfl, rfl, view ok2.2.1 ok2.2.2 e, r, e2, fun ρ' H' v ok => q ρ' H' v (OkVal.ext (ok1.1.trans ok2.1) ok)⟩
  | .d .non, q, _ => exact q.elim
  | .d (.bl _), q, _ => exact q.elim
  | .d (.int _), q, _ => exact q.elim
  | .d (.tup _), q, _ => exact q.elim
  | .d (.lst _), q, _ => exact q.elim
  | .d (.dic _ _), q, _ => exact q.elim
  | .d (.set _), q, _ => exact q.elim
  | .d (.fn _), q, _ => exact q.elim
  | .d (.ty _), q, _ => exact q.elim
  | .d (.scr _), q, _ => exact q.elim
  | .d (.exo _ _ _), q, _ => exact q.elim
  | .ref _, q, _ => exact q.elim
theorem MtR.weak {id : String} {r r' : V → List V → Hp → VK → Prop} (h : MtR X id r) (w : ∀ x xs H Q, r' x xs H Q → r x xs H Q) : MtR X id r' := fun pins s σ H x xs v us Q I rx rs q => h pins s σ H x xs v us Q I rx rs (w x xs H Q q)
theorem m_join : MtR X "str.join" (RM1 (tx X) gJoin) := by
  refine MtR.weak mt_join fun x xs H Q ⟨ρ, st, a, d, y, rel, ex, exs, tv, r, g, q⟩ => ?_
  subst ex exs
  have fin : ∀ {ds : List D} {vs : List V} {p : Addr}, joinD a ds = some r → DVs (tx X) (hide H ρ) ds vs → (SqL X.K H p vs ∨ SqT X.K H p vs) → ∃ a' p', ∃ ys : List Str, V.str a = .str a' ∧ [V.ref p] = [.ref p'] ∧ (SqL X.K H p' (ys.map V.str) ∨ SqT X.K H p' (ys.map V.str)) ∧
      (ys.map (·.length)).sum + ys.length * a'.length ≤ 16777216 ∧ Q (.str (Txt.join a' ys)) H := fun {ds vs p} hj hv hp => by
    unfold joinD at hj
    cases e : allStr ds with
    | none => rw [e] at hj; cases hj
    | some ys =>
      rw [e, Option.bind_some] at hj
      split at hj
      · rename_i hl
        cases hj
        have ev := allStr_dvs e hv
        subst ev
        exact ⟨a, p, ys, rfl, rfl, hp, hl, q ρ H _ (ok_d rel dv_str)⟩
      · cases hj
  unfold gJoin at g
  split at g
  · obtain ⟨p, vs, rfl, h1, h2⟩ := tv
    exact fin g h2 (.inl (.inl (.inl h1)))
  · obtain ⟨p, vs, rfl, h1, h2, _⟩ := tv
    exact fin g h2 (.inr h1)
  · cases g
theorem se_join {o e : Expr} {fo fe : FE} {apos pos : Pos} (ho : SE X W o fo) (he : SE X W e fe) (hs : starEach [e] X.env = [(false, eval e X.env)] := by rfl) (hbase : attributeBase o "join" X.env (eval o X.env) = eval o X.env := by rfl) (hline : (apos.endLine == pos.line) = true := by rfl) :
    SE X W (.Call (.Attribute o "join" apos) [e] [] pos) (fM1 gJoin fo fe) :=
  PE.weak (pe_m1 PySem.F.slot_str_join PySem.F.type_str_join m_join ho.u he.u hs hbase hline) m1
/-! ### isinstance of an own error -/
def isTab (base : Str) (names : List Str) (c : Str) : D → Option Bool
  | .fn y => if (names.contains c && names.contains y) = true then some (y == base || y == c) else none
  | .ty 6 => if names.contains c = true then some true else none
  | _ => none
def ecOk (K : PySem.W.Frag) (c : Str) (C : Addr) : Bool :=
  PySem.W.nsIn K mainGlobals c == some (some (.ref C)) && (PySem.W.clsIn K C).isSome && (PySem.W.findIn K (.ref C) "__getattribute__" == some (some (.builtin "BaseException.__getattribute__"))) && (PySem.W.findIn K (.ref C) "__getattr__" == some none) &&
  (PySem.W.subIn K (.ref C) (.type "BaseException") == some true) && (PySem.W.findIn K (.ref C) "__class__" == some (some (.builtin "object.__class__"))) && (PySem.W.mroIn K C (.type "object") == some true) && PySem.W.keepIn K (.ref C)
structure ErrTab (K : PySem.W.Frag) (mg : Str → Option Value) (base : Str) (names : List Str) : Prop where
  hn : PySem.W.specialIn K (.builtin "object.__class__") "__get__" = some (some (.builtin "getset_descriptor.__get__"))
  ht : PySem.W.takesIn K (.builtin "object.__class__") = some true
  cl : ∀ c, names.contains c = true → ∃ C, mg c = some (.ref C) ∧ ecOk K c C = true ∧ PySem.W.kitOne K (.ref C) (.type "ValueError") = some true ∧ ∀ y Y, names.contains y = true → mg y = some (.ref Y) → PySem.W.kitOne K (.ref C) (.ref Y) = some (y == base || y == c)
def gIsx (base : Str) (names : List Str) : List D → Option Val
  | [.exo c _ _, k] => (isTab base names c k).map fun b => .u (.d (.bl b))
  | _ => none
theorem ec_of {K : PySem.W.Frag} {c : Str} {C : Addr} (h : ecOk K c C = true) : (PySem.W.clsIn K C).isSome = true ∧ PySem.W.findIn K (.ref C) "__getattribute__" = some (some (.builtin "BaseException.__getattribute__")) ∧ PySem.W.findIn K (.ref C) "__getattr__" = some none ∧ PySem.W.subIn K (.ref C) (.type "BaseException") = some true ∧ PySem.W.findIn K (.ref C) "__class__" = some (some (.builtin "object.__class__")) ∧ PySem.W.mroIn K C (.type "object") = some true := by
  unfold ecOk at h
  simp only [Bool.and_eq_true, beq_iff_eq] at h
  obtain ⟨⟨⟨⟨⟨⟨⟨h1, h2⟩, h3⟩, h4⟩, h5⟩, h6⟩, h7⟩, h8⟩ := h
  exact ⟨h2, h3, h4, h5, h6, h7⟩
theorem exo_inst {H : Hp} {h : Heap} {a C : Addr} {P : Program} {w : World} {d : Option Addr} (ok : HOk P w H h) (e : H a = some (exo a C d)) (hd : ∀ dx, d = some dx → ∃ od, h.get? dx = some od) : ∃ oe od, PySem.W.InstAt h a oe C od := by
  obtain ⟨t1, he⟩ := exo_at ok e
  cases d with
  | none => exact ⟨_, none, he, rfl, rfl, trivial⟩
  | some dx =>
    obtain ⟨od, ho⟩ := hd dx rfl
    exact ⟨_, some od, he, rfl, rfl, ho⟩
theorem r_isx {base : Str} {names : List Str} (E : ErrTab X.K X.mg base names) : CallR X (.builtin "isinstance") (RC (tx X) (gIsx base names)) := by
  intro pins s σ H xs us Q I r ⟨ρ, st, ds, rel, tv, rr, g, q⟩
  unfold gIsx at g
  split at g
  · rename_i c f fs k
    obtain ⟨v, w, rfl, hv, hw⟩ := tvs2 tv
    obtain ⟨u1, u2, rfl, r1, r2⟩ := vals2 r
    have hv' : DV (tx X) (hide H ρ) (.exo c f fs) v := hv
    simp only [DV] at hv'
    obtain ⟨a, C, rfl, gC, hh⟩ := hv'
    have gC : X.mg c = some (.ref C) := gC
    have inst : ∃ oe od, PySem.W.InstAt s.heap a oe C od := by
      rcases hh with ⟨_, h1⟩ | ⟨dx, vs, h1, h2, _⟩
      · exact exo_inst I.hok (hide_le _ _ h1) (fun dx z => by cases z)
      · refine exo_inst I.hok (hide_le _ _ h1) (fun dx z => ?_)
        cases z
        obtain ⟨mA, hns, _⟩ := exd_at I.hok (hide_le _ _ h2)
        obtain ⟨od, ho, _⟩ := lookIn_ns hns
        exact ⟨od, ho⟩
    obtain ⟨oe, od, J⟩ := inst
    cases (show u1 = .ref a from r1)
    have fin : ∀ {b : Bool}, names.contains c = true → PySem.W.kitOne X.K (.ref C) u2 = some b → rr = .u (.d (.bl b)) → wpAny (model X.prog X.w) X.A (call (.builtin "isinstance") [.ref a, u2]) (EP X pins σ Q) X.xe s := fun {b} hc hk er => by
      subst er
      obtain ⟨C', g', ec, _⟩ := E.cl c hc
      cases g'.symm.trans gC
      obtain ⟨e1, e2, e3, e4, e5, e6⟩ := ec_of ec
      exact PySem.W.kia_one (PySem.W.kitx_exc e1 e2 e3 e4 e5 E.hn E.ht e6) I.kIn J hk (fun z => nomatch z) fun tk => ⟨.bl b, H, I.tok tk, rfl, q ρ H _ (ok_d rel dv_bl)⟩
    unfold isTab at g
    split at g
    · rename_i y
      split at g
      · rename_i hc
        obtain ⟨c1, c2⟩ := Bool.and_eq_true_iff.mp hc
        obtain ⟨C', g', _, _, hk⟩ := E.cl c c1
        cases g'.symm.trans gC
        have hw' : DV (tx X) (hide H ρ) (.fn y) w := hw
        simp only [DV] at hw'
        obtain ⟨Y, rfl, gY⟩ := hw'
        cases (show u2 = .ref Y from r2)
        exact fin c1 (hk y Y c2 gY) (by simpa using g.symm)
      · cases g
    · split at g
      · rename_i c1
        obtain ⟨C', g', _, hk, _⟩ := E.cl c c1
        cases g'.symm.trans gC
        cases (show w = .ty (tyStr 6) by simpa [TV, DV] using hw)
        cases (show u2 = .type (tyStr 6) from r2)
        exact fin c1 hk (by simpa using g.symm)
      · cases g
    · cases g
  · cases g
/-! ### e.f -/
structure ErrFld (K : PySem.W.Frag) (mg : Str → Option Value) (oks : List (Str × Str)) : Prop where
  ok : ∀ c f, oks.contains (c, f) = true → ∃ C, mg c = some (.ref C) ∧ XfC K C ∧ PySem.W.findIn K (.ref C) f = some none
def fFld (oks : List (Str × Str)) (n : Str) (fe : FE) : FE := fun env st => (uE fe env st).bind fun x st => match x with
  | .d (.exo c f [d]) => if oks.contains (c, n) = true ∧ f = n then .ok (.u (.d d)) st else .stuck
  | _ => .stuck
theorem se_fld {oks : List (Str × Str)} {n : Str} {e : Expr} {fe : FE} {pos : Pos} (E : ErrFld X.K X.mg oks) (he : SE X W e fe) (hb : attributeBase e n X.env (eval e X.env) = eval e X.env := by rfl) : SE X W (.Attribute e n pos) (fFld oks n fe) := by
  refine ⟨fun pins s σ H Q I ⟨ρ, env, st, rel, eo, q⟩ => ?_⟩
  refine attr_of hb (thn (he.u.run pins s σ H (fun x H1 => ∃ ρ1 st1 c d, Rel (tx X) ρ1 st1 H1 ∧ oks.contains (c, n) = true ∧ DV (tx X) (hide H1 ρ1) (.exo c n [d]) x ∧ ∀ v, DV (tx X) (hide H1 ρ1) d v → Q v H1) I ⟨ρ, env, st, rel, eo, (PR.bind q).mono fun x st1 q ρ1 H1 v1 ok1 => ?_⟩) fun u s1 hh => ?_)
  · cases x with
    | ref n => exact q.elim
    | d y =>
      cases y with
      | exo c f l =>
        match l, q, ok1 with
        | [d], q, ok1 =>
          by_cases hc : oks.contains (c, n) = true ∧ f = n
          · have q : PR (tx X) W σ ρ H (if oks.contains (c, n) = true ∧ f = n then Res.ok (Val.u (U.d d)) st1 else .stuck) _ := q
            rw [if_pos hc] at q
            exact ⟨ρ1, st1, c, d, ok1.2.1, hc.1, by have := ok1.2.2; rw [hc.2] at this; exact this, fun v hv => q ρ1 H1 v (OkVal.ext ok1.1 (ok_d ok1.2.1 hv))⟩
          · have q : PR (tx X) W σ ρ H (if oks.contains (c, n) = true ∧ f = n then Res.ok (Val.u (U.d d)) st1 else .stuck) _ := q
            rw [if_neg hc] at q
            exact q.elim
        | [], q, _ => exact q.elim
        | _ :: _ :: _, q, _ => exact q.elim
      | _ => exact q.elim
  · obtain ⟨x, H1, I1, rx, ρ1, st1, c, d, rel1, hc, hx, q1⟩ := hh
    obtain ⟨C', g', T, hno⟩ := E.ok c n hc
    simp only [DV] at hx
    obtain ⟨a, C, rfl, gC, hh⟩ := hx
    cases g'.symm.trans gC
    rcases hh with ⟨hz, _⟩ | ⟨dx, vs, h1, h2, h3⟩
    · cases hz
    · simp only [DVs] at h3
      obtain ⟨v, r, rfl, hv, rfl⟩ := h3
      obtain rfl : u = Value.ref a := rx
      obtain ⟨t1, ha⟩ := exo_at I1.hok (hide_le _ _ h1)
      obtain ⟨mA, hns, hr⟩ := exd_at I1.hok (hide_le _ _ h2)
      obtain ⟨od, ho, hl⟩ := lookIn_ns hns
      have l : List.lookup n [(n, v)] = some v := by simp [List.lookup]
      obtain ⟨u, hu, ru⟩ := RelO.some_of (v := v) (o := mA n) (by rw [← l]; exact hr n)
      have J : PySem.W.InstAt s1.heap a _ C' (some od) := ⟨ha, rfl, rfl, ho⟩
      exact HandSPX.exc_get I1.kIn J T.ga T.gg T.exC (PySem.W.findObj_own T.hdC hno rfl (by rw [hl, hu])) (handed_of ru) ⟨v, H1, I1.tok _, ru, q1 v hv⟩
end G

set_option maxHeartbeats 4000000
namespace G
open PySem PySem.Spec PyProof.Rows L2
/-- a def of the text -/
structure DefAt (K : PySem.W.Frag) (mg : Str → Option Value) (x : Str) (st : Stmt) (ps : List Str) where
  f : Addr
  fd : FuncData
  g : mg x = some (.ref f)
  F : Fun K x x st f fd
  b : Binds K fd ps []
structure Ex0At (K : PySem.W.Frag) (mg : Str → Option Value) (x : Str) where
  C : Addr
  ok : Ex0 K mg x C
structure Ex1At (P : Program) (K : PySem.W.Frag) (mg : Str → Option Value) (x f : Str) where
  C : Addr
  ok : Ex1 P K mg x f C
theorem Ex0At.g {K : PySem.W.Frag} {mg : Str → Option Value} {x : Str} (E : Ex0At K mg x) : mg x = some (.ref E.C) := E.ok.g
theorem Ex1At.g {P : Program} {K : PySem.W.Frag} {mg : Str → Option Value} {x f : Str} (E : Ex1At P K mg x f) : mg x = some (.ref E.C) := E.ok.g
section
variable {K : PySem.W.Frag} {h : Heap} {mg : Str → Option Value}
def errB (K : PySem.W.Frag) (base : Str) (cl : List (Str × Addr)) : Bool :=
  (PySem.W.specialIn K (.builtin "object.__class__") "__get__" == some (some (.builtin "getset_descriptor.__get__"))) && (PySem.W.takesIn K (.builtin "object.__class__") == some true) &&
  cl.all fun p => ecOk K p.1 p.2 && (PySem.W.kitOne K (.ref p.2) (.type "ValueError") == some true) && cl.all fun q => PySem.W.kitOne K (.ref p.2) (.ref q.2) == some (q.1 == base || q.1 == p.1)
theorem ec_ns {c : Str} {C : Addr} (h : ecOk K c C = true) : PySem.W.nsIn K mainGlobals c = some (some (.ref C)) := by
  unfold ecOk at h
  simp only [Bool.and_eq_true, beq_iff_eq] at h
  exact h.1.1.1.1.1.1.1
theorem mem_names {cl : List (Str × Addr)} {c : Str} (h : (cl.map (·.1)).contains c = true) : ∃ C, (c, C) ∈ cl := by
  have h' : c ∈ cl.map (·.1) := by simpa using h
  obtain ⟨p, hp, rfl⟩ := List.mem_map.mp h'
  exact ⟨p.2, hp⟩
theorem errTab_of (X : K.In h) (hG : h.Ns mainGlobals mg) {base : Str} {names : List Str} (cl : List (Str × Addr)) (hb : errB K base cl = true) (hnm : names = cl.map (·.1) := by rfl) : ErrTab K mg base names := by
  subst hnm
  unfold errB at hb
  simp only [Bool.and_eq_true, beq_iff_eq, List.all_eq_true] at hb
  obtain ⟨⟨h1, h2⟩, h3⟩ := hb
  refine ⟨h1, h2, fun c hc => ?_⟩
  obtain ⟨C, m⟩ := mem_names hc
  obtain ⟨⟨e1, e2⟩, e3⟩ := h3 _ m
  refine ⟨C, PySem.W.mg_of X hG (ec_ns e1), e1, e2, fun y Y hy gy => ?_⟩
  obtain ⟨Y', m'⟩ := mem_names hy
  have e4 := PySem.W.mg_of X hG (ec_ns (h3 _ m').1.1)
  cases e4.symm.trans gy
  exact e3 _ m'
def ex0B (K : PySem.W.Frag) (c : Str) (C : Addr) : Bool := (PySem.W.nsIn K mainGlobals c == some (some (.ref C))) && PySem.W.excIn K C veBm "ValueError.__new__" && PySem.W.keepIn K (.ref C)
theorem ex0_of (X : K.In h) (hG : h.Ns mainGlobals mg) {c : Str} {C : Addr} (hb : ex0B K c C = true) : Ex0 K mg c C := by
  unfold ex0B at hb
  simp only [Bool.and_eq_true, beq_iff_eq] at hb
  exact ⟨PySem.W.mg_of X hG hb.1.1, hb.1.2, hb.2⟩
def fldB (K : PySem.W.Frag) (cl : List (Str × Str × Addr)) : Bool := cl.all fun p => (PySem.W.nsIn K mainGlobals p.1 == some (some (.ref p.2.2))) && xfB K p.2.2 && (PySem.W.findIn K (.ref p.2.2) p.2.1 == some none)
theorem errFld_of (X : K.In h) (hG : h.Ns mainGlobals mg) {oks : List (Str × Str)} (cl : List (Str × Str × Addr)) (hb : fldB K cl = true) (ho : oks = cl.map (fun p => (p.1, p.2.1)) := by rfl) : ErrFld K mg oks := by
  subst ho
  unfold fldB at hb
  simp only [Bool.and_eq_true, beq_iff_eq, List.all_eq_true] at hb
  refine ⟨fun c f hc => ?_⟩
  have h' : (c, f) ∈ cl.map (fun p => (p.1, p.2.1)) := by simpa using hc
  obtain ⟨p, hp, e⟩ := List.mem_map.mp h'
  cases e
  obtain ⟨⟨e1, e2⟩, e3⟩ := hb p hp
  exact ⟨p.2.2, PySem.W.mg_of X hG e1, xfB_ok e2, e3⟩
end
end G

set_option maxHeartbeats 4000000
namespace G
open PySem PySem.Spec PyProof.Rows L2
/-! what the words give, for simp -/
section
variable {a b : FS} {fa fb fc : FE} {as : FA} {env : Sl} {st : Store} {t u : FT} {i n np : Nat} {x y : D}
@[simp] theorem q_seq : sSeq a b env st = (a env st).bind fun fl st => match fl with | .nx env => b env st | fl => .ok fl st := rfl
@[simp] theorem q_nil : sNil env st = .ok (.nx env) st := rfl
@[simp] theorem q_ret : sRet fa env st = (fa env st).bind fun x st => .ok (.rt x) st := rfl
@[simp] theorem q_expr : sExpr fa env st = (uE fa env st).bind fun _ st => .ok (.nx env) st := rfl
@[simp] theorem q_if : sIf t a b env st = (t env st).bind fun c st => if c = true then a env st else b env st := rfl
@[simp] theorem q_set : sSet i fa env st = (uE fa env st).bind fun u st => .ok (.nx (env.set i (some u))) st := rfl
@[simp] theorem q_new : sNew i fa env st = (nE fa env st).bind fun u st => .ok (.nx (env.set i (some u))) st := rfl
@[simp] theorem q_uE : uE fa env st = (fa env st).bind fun x st => lift x.settle st := rfl
@[simp] theorem q_nE : nE fa env st = (fa env st).bind fun x st => match x with | .u u => .ok u st | .box c => .ok (.ref st.length) (st ++ [c]) := rfl
@[simp] theorem q_asg {g : FG} : sAsg g fa env st = (uE fa env st).bind fun u st => (g u env st).bind fun env st => .ok (.nx env) st := rfl
@[simp] theorem q_var : fVar i env st = match env[i]? with | some (some u) => .ok (.u u) st | _ => .stuck := rfl
@[simp] theorem q_c : fC x env st = .ok (.u (.d x)) st := rfl
@[simp] theorem q_bin {op : Store → U → U → Option Val} : fBin op fa fb env st = (uE fa env st).bind fun x st => (uE fb env st).bind fun y st => lift (op st x y) st := rfl
@[simp] theorem q_un {g : D → Option Val} : fUn g fa env st = (uE fa env st).bind fun x st => lift ((x.frz st).bind g) st := rfl
@[simp] theorem q_anil : aNil env st = .ok [] st := rfl
@[simp] theorem q_acons : aCons fa as env st = (uE fa env st).bind fun x st => (as env st).bind fun xs st => .ok (x :: xs) st := rfl
@[simp] theorem q_tup : fTup as env st = (as env st).bind fun us st => match allD us with | some ds => if ds.length ≤ 16777216 then .ok (.u (.d (.tup ds))) st else .stuck | none => .stuck := rfl
@[simp] theorem q_lst : fLst as env st = (as env st).bind fun us st => match allD us with | some ds => if ds.length ≤ 16777216 then .ok (.box (.lst ds)) st else .stuck | none => .stuck := rfl
@[simp] theorem q_fB {g : List D → Option Val} : fB g as env st = (as env st).bind fun us st => lift ((frzs st us).bind g) st := rfl
@[simp] theorem q_call {g : FD} : fCall g as env st = (as env st).bind fun us st => g us st := rfl
@[simp] theorem q_fIf : fIf t fa fb env st = (t env st).bind fun b st => if b = true then fa env st else fb env st := rfl
@[simp] theorem q_tTru {g : D → Option Bool} : tTru g fa env st = (uE fa env st).bind fun x st => lift ((x.frz st).bind g) st := rfl
@[simp] theorem q_tCmp {op : Store → U → U → Option Val} : tCmp op fa fb env st = (fBin op fa fb env st).bind fun x st => match x with | .u (.d (.bl b)) => .ok b st | _ => .stuck := rfl
@[simp] theorem q_tNot : tNot t env st = (t env st).bind fun b st => .ok (!b) st := rfl
@[simp] theorem q_tAnd : tAnd t u env st = (t env st).bind fun b st => if b = true then u env st else .ok false st := rfl
@[simp] theorem q_tOr : tOr t u env st = (t env st).bind fun b st => if b = true then .ok true st else u env st := rfl
@[simp] theorem q_fAnd : fAnd fa fb env st = (fa env st).bind fun x st => match asB x with | some true => fb env st | some false => .ok (.u (.d (.bl false))) st | none => .stuck := rfl
@[simp] theorem q_fOr : fOr fa fb env st = (fa env st).bind fun x st => match asB x with | some false => fb env st | some true => .ok (.u (.d (.bl true))) st | none => .stuck := rfl
@[simp] theorem q_fNot : fNot fa env st = (fa env st).bind fun x st => match asB x with | some b => .ok (.u (.d (.bl (!b)))) st | none => .stuck := rfl
@[simp] theorem q_asB {c : Bool} : asB (.u (.d (.bl c))) = some c := rfl
@[simp] theorem q_tYes : tYesF env st = .ok true st := rfl
@[simp] theorem q_gN {v : U} : gN i v env st = .ok (env.set i (some v)) st := rfl
@[simp] theorem q_frzd : (U.d x).frz st = some x := rfl
@[simp] theorem q_frzr : (U.ref n).frz st = st[n]?.bind Cell.frz := rfl
@[simp] theorem q_cfrz {xs : List D} : (Cell.lst xs).frz = some (.lst xs) := rfl
@[simp] theorem q_setu {v : U} : (Val.u v).settle = some v := rfl
@[simp] theorem q_setb {c : Cell} : (Val.box c).settle = c.frz.map U.d := rfl
@[simp] theorem q_allD0 : allD [] = some [] := rfl
@[simp] theorem q_allD1 {r : List U} : allD (.d x :: r) = (allD r).map (x :: ·) := rfl
@[simp] theorem q_frzs0 : frzs st [] = some [] := rfl
@[simp] theorem q_frzs1 {v : U} {r : List U} : frzs st (v :: r) = (v.frz st).bind fun d => (frzs st r).map (d :: ·) := rfl
@[simp] theorem q_opD {g : D → D → Option Val} {v w : U} : opD g st v w = (v.frz st).bind fun x => (w.frz st).bind fun y => g x y := rfl
@[simp] theorem q_for {it : FI} {g : FG} : sFor it g a env st = (it env st).bind fun items st => forL g a items env st := rfl
@[simp] theorem q_mk {us : List U} : mkDef np n a us st = if us.length = np then fin st.length (a (us.map some ++ List.replicate (n - us.length) none) st) else .stuck := rfl
@[simp] theorem q_fin1 {e : Sl} {m : Nat} : fin m (.ok (.nx e) st) = .ok (.u (.d .non)) (st.take m) := rfl
@[simp] theorem q_fin2 {m : Nat} : fin m (.ok (.rt (.u (.d x))) st) = .ok (.u (.d x)) (st.take m) := rfl
@[simp] theorem q_fin3 {m : Nat} {c : Cell} : fin m (.ok (.rt (.box c)) st) = .ok (.box c) (st.take m) := rfl
@[simp] theorem q_tru1 {c : Bool} : gTru (.bl c) = some c := rfl
@[simp] theorem q_subL {fo fi : FE} {v : U} : gSubL fo fi v env st = (uE fo env st).bind fun o st => (uE fi env st).bind fun i st => match o, i, v with
  | .ref n, .d (.int k), .d d => match st[n]? with
    | some (.lst xs) => match ixN xs.length k with
      | some j => .ok env (st.set n (.lst (xs.set j d)))
      | none => .stuck
    | _ => .stuck
  | _, _, _ => .stuck := rfl
@[simp] theorem q_noX {α : Type} {r : α} : noX (.ok r st) = .ok r st := rfl
theorem g_ord {c : D → D → Bool} {i j : Int} : gOrd c (.int i) (.int j) = some (.u (.d (.bl (c (.int i) (.int j))))) := rfl
@[simp] theorem g_gt {i j : Int} : gOrd cGt (.int i) (.int j) = some (.u (.d (.bl (decide (j < i))))) := rfl
@[simp] theorem g_lt {i j : Int} : gOrd cLt (.int i) (.int j) = some (.u (.d (.bl (decide (i < j))))) := rfl
@[simp] theorem g_ge {i j : Int} : gOrd cGe (.int i) (.int j) = some (.u (.d (.bl (!decide (i < j))))) := rfl
@[simp] theorem g_le {i j : Int} : gOrd cLe (.int i) (.int j) = some (.u (.d (.bl (!decide (j < i))))) := rfl
@[simp] theorem g_mod {i j : Int} (h : 0 < j) : gMod (.int i) (.int j) = some (.u (.d (.int (i % j)))) := by simp [gMod, gI, h]
@[simp] theorem g_fdiv {i j : Int} (h : 0 < j) (h2 : j < 1073741824) : gFdiv (.int i) (.int j) = some (.u (.d (.int (i / j)))) := by
  have : decide (j < (B30 : Int)) = true := by simpa using h2
  simp only [gFdiv, gI, h, this, decide_true, Bool.and_self, if_true]
@[simp] theorem g_addi {i j : Int} : gAdd (.int i) (.int j) = some (.u (.d (.int (i + j)))) := rfl
@[simp] theorem g_subi {i j : Int} : gSub (.int i) (.int j) = some (.u (.d (.int (i - j)))) := rfl
@[simp] theorem g_muli {i j : Int} (h : j.natAbs < 18446744073709551616) : gMul (.int i) (.int j) = some (.u (.d (.int (i * j)))) := by
  have : decide (j.natAbs < B64) = true := by simpa using h
  simp only [gMul, this, Bool.or_true, if_true]
@[simp] theorem g_int {i : Int} : gInt [.int i] = some (.u (.d (.int i))) := rfl
theorem g_abs {i : Int} : gAbs [.int i] = some (.u (.d (.int (if i < 0 then -i else i)))) := rfl
end
/-! the laws' own draws: the same defs in each law, but for their numbers -/
theorem ixN_nat {n i : Nat} (h : i < n) : ixN n (i : Int) = some i := by
  unfold ixN
  simp [h]
theorem atI_nat {α : Type} {xs : List α} {i : Nat} (h : i < xs.length) : atI xs (i : Int) = xs[i]? := by
  unfold atI
  rw [ixN_nat h]
  rfl
theorem first_of (ns : List Int) : gIx (.lst (ns.map D.int ++ [.int 0])) (.int 0) = some (.u (.d (.int (ns.headD 0)))) := by
  cases ns with
  | nil => rfl
  | cons c r =>
    show (atI (List.map D.int (c :: r) ++ [D.int 0]) ((0 : Nat) : Int)).map _ = _
    rw [atI_nat (by simp)]
    rfl
end G

set_option maxHeartbeats 4000000
namespace G
open PySem PySem.Spec PyProof.Rows L2
/-! the laws' own draws: the same defs in each law, but for their numbers -/
def cupG (c3 c4 c5 c6 : Int) : FD := mkDef 1 2 (sSeq (sSet 1 (fB gAbs (aCons (fBin (opD gIx) (fBin (opD gAdd) (fB gList (aCons (fVar 0) aNil)) (fLst (aCons (fC (.int 0)) aNil))) (fC (.int 0))) aNil))) (sRet (fLst (aCons (fIf (tCmp (opD (gOrd cGe)) (fVar 1) (fBin (opD gPow) (fC (.int 10)) (fC (.int 18)))) (fBin (opD gFdiv) (fVar 1) (fC (.int c3))) (fC (.int 0))) (aCons (fBin (opD gMod) (fB gInt (aCons (fBin (opD gAdd) (fBin (opD gMul) (fVar 1) (fC (.int c4))) (fC (.int c5))) aNil)) (fC (.int c6))) aNil)))))
def rollG (c4 c5 c6 c7 : Int) : FD := mkDef 2 3 (sSeq (sIf (tCmp (opD (gOrd cGt)) (fBin (opD gIx) (fVar 0) (fC (.int 0))) (fC (.int 0))) (sSeq (sSet 2 (fBin (opD gMod) (fB gInt (aCons (fBin (opD gIx) (fVar 0) (fC (.int 0))) aNil)) (fVar 1))) (sSeq (sAsg (gSubL (fVar 0) (fC (.int 0))) (fBin (opD gFdiv) (fBin (opD gIx) (fVar 0) (fC (.int 0))) (fVar 1))) (sRet (fVar 2)))) sNil) (sSeq (sAsg (gSubL (fVar 0) (fC (.int 1))) (fBin (opD gMod) (fB gInt (aCons (fBin (opD gAdd) (fBin (opD gMul) (fBin (opD gIx) (fVar 0) (fC (.int 1))) (fC (.int c4))) (fC (.int c5))) aNil)) (fC (.int c6)))) (sRet (fBin (opD gMod) (fB gInt (aCons (fBin (opD gFdiv) (fBin (opD gIx) (fVar 0) (fC (.int 1))) (fC (.int c7))) aNil)) (fVar 1)))))
/-- a cup of draws -/
def cupD (a b : Int) : Cell := .lst [.int a, .int b]
theorem pow18 : gPow (.int 10) (.int 18) = some (.u (.d (.int 1000000000000000000))) := by rfl
theorem cup_spec {c3 c4 c5 c6 : Int} (h3 : 0 < c3) (h3' : c3 < 1073741824) (h4 : c4.natAbs < 18446744073709551616) (h6 : 0 < c6) (ns : List Int) (hl : ns.length ≤ 63) (st : Store) :
    ∃ a b : Int, 0 ≤ a ∧ cupG c3 c4 c5 c6 [.d (.scr (ns.map D.int))] st = .ok (.box (cupD a b)) st := by
  have hadd : gAdd (.lst (ns.map D.int)) (.lst [.int 0]) = some (.box (.lst (ns.map D.int ++ [.int 0]))) := by
    have : (ns.map D.int).length + [D.int 0].length ≤ LIM := by
      show _ ≤ 16777216
      simp only [List.length_map, List.length_cons, List.length_nil]
      omega
    simp only [gAdd, this, if_true]
  have hlist : gList [.scr (ns.map D.int)] = some (.box (.lst (ns.map D.int))) := rfl
  obtain ⟨f, hf⟩ : ∃ f, gIx (.lst (ns.map D.int ++ [.int 0])) (.int 0) = some (.u (.d (.int f))) := ⟨_, first_of ns⟩
  obtain ⟨C, hC, hA⟩ : ∃ C : Int, 0 ≤ C ∧ gAbs [.int f] = some (.u (.d (.int C))) := ⟨_, by split <;> omega, g_abs⟩
  unfold cupG
  by_cases hb : C < 1000000000000000000
  · exact ⟨0, (C * c4 + c5) % c6, Int.le_refl _, by simp [hlist, hadd, hf, hA, pow18, hb, h3, h3', h4, h6, cupD]⟩
  · have hb' : 1000000000000000000 ≤ C := by omega
    exact ⟨C / c3, (C * c4 + c5) % c6, Int.ediv_nonneg hC (Int.le_of_lt h3), by simp [hlist, hadd, hf, hA, pow18, hb', h3, h3', h4, h6, cupD]⟩
theorem ix0 {a b : Int} : gIx (.lst [.int a, .int b]) (.int 0) = some (.u (.d (.int a))) := rfl
theorem ix1 {a b : Int} : gIx (.lst [.int a, .int b]) (.int 1) = some (.u (.d (.int b))) := rfl
theorem ixn0 : ixN 2 0 = some 0 := rfl
theorem ixn1 : ixN 2 1 = some 1 := rfl
theorem take_set {st : Store} {n : Nat} {c : Cell} : (st.set n c).take st.length = st.set n c := by
  apply List.take_of_length_le
  simp
theorem roll_spec {c4 c5 c6 c7 m : Int} (h4 : c4.natAbs < 18446744073709551616) (h6 : 0 < c6) (h7 : 0 < c7) (h7' : c7 < 1073741824) (hm : 0 < m) (hm' : m < 1073741824) {n : Nat} {st : Store} {a b : Int} (ha : 0 ≤ a) (hst : st[n]? = some (cupD a b)) :
    ∃ r a' b' : Int, 0 ≤ r ∧ r < m ∧ 0 ≤ a' ∧ rollG c4 c5 c6 c7 [.ref n, .d (.int m)] st = .ok (.u (.d (.int r))) (st.set n (cupD a' b')) := by
  have hset : ∀ c, (st.set n c)[n]? = some c := fun c => List.getElem?_set_self (List.getElem?_eq_some_iff.mp hst).1
  unfold cupD at hst
  unfold rollG cupD
  by_cases hz : 0 < a
  · exact ⟨a % m, a / m, b, Int.emod_nonneg _ (by omega), Int.emod_lt_of_pos _ hm, Int.ediv_nonneg ha (by omega), by
      simp [hst, ix0, ix1, ixn0, hz, hm, hm', take_set]⟩
  · refine ⟨((b * c4 + c5) % c6 / c7) % m, a, (b * c4 + c5) % c6, Int.emod_nonneg _ (by omega), Int.emod_lt_of_pos _ hm, ha, ?_⟩
    simp [hst, ix0, ix1, ixn1, hz, hm, hm', h4, h6, h7, h7', take_set, hset]
end G

set_option maxHeartbeats 4000000
namespace G
open PySem PySem.Spec PyProof.Rows L2
/-! the laws' own comparison: the same two defs in each law -/
def sortG : FD := mkDef 1 1 (sSeq (sIf (tOr (tCmp (opD gIsN) (fVar 0) (fC .non)) (tTru gTru (fB gIsi (aCons (fVar 0) (aCons (fC (.ty 1)) aNil))))) (sRet (fIf (tCmp (opD gIsN) (fVar 0) (fC .non)) (fC (.int 0)) (fC (.int 1)))) sNil) (sSeq (sIf (tOr (tTru gTru (fB gIsi (aCons (fVar 0) (aCons (fC (.ty 0)) aNil)))) (tTru gTru (fB gIsi (aCons (fVar 0) (aCons (fC (.ty 2)) aNil))))) (sRet (fIf (tTru gTru (fB gIsi (aCons (fVar 0) (aCons (fC (.ty 0)) aNil)))) (fC (.int 2)) (fC (.int 3)))) sNil) (sRet (fIf (tTru gTru (fB gIsi (aCons (fVar 0) (aCons (fC (.ty 3)) aNil)))) (fC (.int 4)) (fIf (tTru gTru (fB gIsi (aCons (fVar 0) (aCons (fC (.ty 4)) aNil)))) (fC (.int 5)) (fC (.int 6)))))))
def likeG : Nat → FD
  | 0 => fun _ _ => .stuck
  | n + 1 => mkDef 2 5 (sSeq (sSet 2 (fCall sortG (aCons (fVar 1) aNil))) (sSeq (sIf (tOr (tCmp (opD (gEq false)) (fCall sortG (aCons (fVar 0) aNil)) (fVar 2)) (tCmp (opD (gEq true)) (fVar 2) (fC (.int 6)))) (sRet (fC (.bl false))) sNil) (sSeq (sIf (tCmp (opD (gIn true)) (fVar 2) (fTup (aCons (fC (.int 4)) (aCons (fC (.int 5)) aNil)))) (sRet (fAnd (fBin (opD (gEq true)) (fB gLen (aCons (fVar 0) aNil)) (fB gLen (aCons (fVar 1) aNil))) (fBin (opD (gEq true)) (fLc (iZip (aCons (fVar 0) (aCons (fVar 1) aNil))) (gT 2 (gsCons (gN 3) (gsCons (gN 4) gsNil))) (tNot (tTru gTru (fCall (likeG n) (aCons (fVar 3) (aCons (fVar 4) aNil))))) (fC (.int 1)) [3, 4]) (fLst aNil)))) sNil) (sRet (fBin (opD (gEq true)) (fVar 0) (fVar 1))))))
mutual
/-- plain data to the depth n -/
def good : D → Nat → Bool
  | .non, _ => true
  | .bl _, _ => true
  | .int _, _ => true
  | .str _, _ => true
  | .tup xs, n => match n with
    | 0 => false
    | m + 1 => decide (xs.length ≤ 16777216) && goods xs m
  | .lst xs, n => match n with
    | 0 => false
    | m + 1 => decide (xs.length ≤ 16777216) && goods xs m
  | _, _ => false
def goods : List D → Nat → Bool
  | [], _ => true
  | x :: xs, n => good x n && goods xs n
end
def sortN : D → Int
  | .non => 0
  | .bl _ => 1
  | .int _ => 2
  | .str _ => 3
  | .tup _ => 4
  | .lst _ => 5
  | _ => 6
theorem sort_spec {x : D} {n : Nat} {st : Store} (h : good x n = true) : sortG [.d x] st = .ok (.u (.d (.int (sortN x)))) st := by
  cases x with
  | non => simp [sortG, gIsN, isNon, gIsi, isiB, sortN]
  | bl b => simp [sortG, gIsN, isNon, gIsi, isiB, sortN]
  | int b => simp [sortG, gIsN, isNon, gIsi, isiB, sortN]
  | str b => simp [sortG, gIsN, isNon, gIsi, isiB, sortN]
  | tup b => simp [sortG, gIsN, isNon, gIsi, isiB, sortN]
  | lst b => simp [sortG, gIsN, isNon, gIsi, isiB, sortN]
  | _ => simp [good] at h
theorem zip_len : ∀ zs : List D, (zipD zs zs).length = zs.length
  | [] => rfl
  | _ :: r => by simp [zipD, zip_len r]
theorem eq_int {i j : Int} : gEq true (.int i) (.int j) = some (.u (.d (.bl (decide (i = j))))) := by
  simp [gEq, dok, eqD]
  rfl
theorem ne_int {i j : Int} : gEq false (.int i) (.int j) = some (.u (.d (.bl (!decide (i = j))))) := by
  simp [gEq, dok, eqD]
  rfl
theorem in45 {i : Int} (h : i = 4 ∨ i = 5) : gIn true (.int i) (.tup [.int 4, .int 5]) = some (.u (.d (.bl true))) := by
  rcases h with rfl | rfl <;> rfl
theorem nin45 {i : Int} (h : i ≠ 4) (h2 : i ≠ 5) (h0 : i = 0 ∨ i = 1 ∨ i = 2 ∨ i = 3) : gIn true (.int i) (.tup [.int 4, .int 5]) = some (.u (.d (.bl false))) := by
  rcases h0 with rfl | rfl | rfl | rfl <;> rfl
theorem take_self {st : Store} : st.take st.length = st := List.take_length
theorem eq_leaf {x : D} (h : (match x with | .non => true | .bl _ => true | .int _ => true | .str _ => true | _ => false) = true) : gEq true x x = some (.u (.d (.bl true))) := by
  cases x <;> simp at h <;> simp [gEq, dok, eqD]
theorem nil_eq : gEq true (.lst []) (.lst []) = some (.u (.d (.bl true))) := by rfl
theorem like_each {n : Nat} {one other sort : Option U} (ih : ∀ (x : D) (st : Store), good x n = true → likeG (n + 1) [.d x, .d x] st = .ok (.u (.d (.bl true))) st) : ∀ (zs : List D) (st : Store), goods zs n = true →
    lcL (gT 2 (gsCons (gN 3) (gsCons (gN 4) gsNil))) (tNot (tTru gTru (fCall (likeG (n + 1)) (aCons (fVar 3) (aCons (fVar 4) aNil))))) (fC (.int 1)) [one, other, sort, none, none] (zipD zs zs) st = .ok [] st
  | [], st, _ => by simp [zipD, lcL]
  | z :: zs, st, h => by
    have h' : good z n = true ∧ goods zs n = true := by simpa [goods] using h
    have e := ih z st h'.1
    have r := like_each ih zs st h'.2 (one := one) (other := other) (sort := sort)
    simp [zipD, lcL, gT, gsCons, gsNil, e, r]
theorem like_self : ∀ (n : Nat) (x : D) (st : Store), good x n = true → likeG (n + 1) [.d x, .d x] st = .ok (.u (.d (.bl true))) st := by
  intro n
  induction n with
  | zero =>
    intro x st h
    have hs := sort_spec (st := st) h
    cases x with
    | non => simp [likeG, hs, sortN, ne_int, eq_int, nin45, eq_leaf]
    | bl b => simp [likeG, hs, sortN, ne_int, eq_int, nin45, eq_leaf]
    | int b => simp [likeG, hs, sortN, ne_int, eq_int, nin45, eq_leaf]
    | str b => simp [likeG, hs, sortN, ne_int, eq_int, nin45, eq_leaf]
    | _ => simp [good] at h
  | succ n ih =>
    intro x st h
    have hs := sort_spec (st := st) h
    rw [likeG.eq_2]
    cases x with
    | non => simp [hs, sortN, ne_int, eq_int, nin45, eq_leaf]
    | bl b => simp [hs, sortN, ne_int, eq_int, nin45, eq_leaf]
    | int b => simp [hs, sortN, ne_int, eq_int, nin45, eq_leaf]
    | str b => simp [hs, sortN, ne_int, eq_int, nin45, eq_leaf]
    | tup zs =>
      have h' : zs.length ≤ 16777216 ∧ goods zs n = true := by simpa [good] using h
      have r := like_each (one := some (.d (.tup zs))) (other := some (.d (.tup zs))) (sort := some (.d (.int 4))) ih zs st h'.2
      have l : (zipD zs zs).length ≤ LIM := by rw [zip_len]; exact h'.1
      simp [hs, sortN, ne_int, eq_int, in45, gLen, fLc, iZip, wipeE, r, l, nil_eq]
    | lst zs =>
      have h' : zs.length ≤ 16777216 ∧ goods zs n = true := by simpa [good] using h
      have r := like_each (one := some (.d (.lst zs))) (other := some (.d (.lst zs))) (sort := some (.d (.int 5))) ih zs st h'.2
      have l : (zipD zs zs).length ≤ LIM := by rw [zip_len]; exact h'.1
      simp [hs, sortN, ne_int, eq_int, in45, gLen, fLc, iZip, wipeE, r, l, nil_eq]
    | _ => simp [good] at h
end G

set_option maxHeartbeats 4000000
namespace G
open PySem PySem.Spec PyProof.Rows L2
/-- what the law's def promises at a script -/
def spLaw (K : PySem.W.Frag) : Sp := fun vs H Q _ => ∃ (a : Addr) (ns : List Int), vs = [.ref a] ∧ ns.length ≤ 63 ∧ SqL K H a (ns.map V.int) ∧ ∀ H', Q (.bl true) H'
theorem ints_dvs {T : Tx} {S : Hp} : ∀ ns : List Int, DVs T S (ns.map D.int) (ns.map V.int)
  | [] => DVs.nil
  | _ :: r => DVs.cons dv_int (ints_dvs r)
theorem hide_nil {H : Hp} : hide H ⟨[], []⟩ = H := by
  funext a
  exact hide_out (by simp [Wd.all])
theorem law_end {P : Program} {w : World} {K : PySem.W.Frag} {mg : Str → Option Value} {base : Heap} {k : Nat} {f : Addr} {fd : FuncData} {g : FD} (F : FnOk P w K mg base (L2.CX P w) k f fd ["script"] (spG ⟨K, mg⟩ g))
    (h : ∀ ns : List Int, ns.length ≤ 63 → ∃ st', g [.d (.scr (ns.map D.int))] [] = .ok (.u (.d (.bl true))) st') : FnOk P w K mg base (L2.CX P w) k f fd ["script"] (spLaw K) := by
  refine F.imp fun vs H Q E ⟨a, ns, ev, hl, hS, q⟩ => ?_
  subst ev
  obtain ⟨st', e⟩ := h ns hl
  refine ⟨⟨[], []⟩, [], [.d (.scr (ns.map D.int))], ⟨by simp [Wd.all], rfl, fun n a c h1 _ => by simp at h1, fun p hp => by simp at hp⟩, .cons ?_ .nil, ?_⟩
  · show DV _ _ (.scr (ns.map D.int)) _
    simp only [DV, hide_nil]
    exact ⟨a, _, rfl, hS, ints_dvs ns⟩
  · rw [e]
    intro ρ' H' v ok
    have hv : DV (⟨K, mg⟩ : Tx) (hide H' ρ') (.bl true) v := ok.2.2
    simp only [DV] at hv
    subst hv
    exact q H'
theorem cx_no {P : Program} {w : World} {H : Hp} {s : Shared} {e : Value} {s' : Shared} (h : L2.CX P w [] H s (fun _ _ _ => False) e s') : False := by
  obtain ⟨a, B, H', cls, d, _, _, _, _, _, _, _, z⟩ := h
  exact z
end G
namespace G
open PySem PySem.Spec PyProof.Rows L2
def supBB (K : PySem.W.Frag) (C fI : Addr) (fld : Str) (cda : Addr) (qual : Str) : Bool :=
  (PySem.W.findIn K (.ref C) "__setattr__" == some (some (.builtin "object.__setattr__"))) && (PySem.W.subIn K (.ref C) (.type "BaseException") == some true) && (PySem.W.typeIn K (.ref C) == some (.type "type")) && PySem.W.keepIn K (.ref C) &&
  (PySem.W.typeIn K (.ref fI) == some (.type "function")) && (PySem.W.findIn K (.ref C) fld == some none) && (PySem.W.ks_superIn K C C "__init__" == some (some (.builtin "ValueError.__init__"))) && (PySem.W.subIn K (.ref C) (.type "ValueError") == some true) &&
  (PySem.W.mroIn K C (.ref C) == some true) && PySem.W.excInitIn K C veBm "ValueError.__new__" && (PySem.W.nsIn K cStatics "thirdparty.any" == some none) && PySem.W.codeIn K (.ref cda) qual
end G
namespace G
open PySem PySem.Spec PyProof.Rows L2
section
variable {prog : Program} {K : PySem.W.Frag} {C fI cda N : Addr} {fld prm qual nm q : Str} {bs bm sub : List Value} {sn : List Str} {ab : Bool} {col : Option Bool} {dd : Option Addr} {k0 k1 k2 k3 k5 : Option Value}
theorem supC (h : supBB K C fI fld cda qual = true) : PySem.W.codeIn K (.ref cda) qual = true := by
  unfold supBB at h
  exact (Bool.and_eq_true_iff.mp h).2
theorem sup_of (xc : K.lookup C = some (excClassObj nm q C N bs bm true sn sub ab col dd k0 k1 k2 k3 k5 "ValueError.__new__")) (xr : PySem.HandSPX.refsVE bm = true) (iC : PySem.W.findIn K (.ref C) "__init__" = some (some (.ref fI)))
    (h : supBB K C fI fld cda qual = true) (htop : (prog.main.scope.names.lookup ("super" : Str)).isSome = false) (hne : prm ≠ "self" ∧ prm ≠ "__debug__" ∧ prm ≠ "super" ∧ prm ≠ "__class__")
    (fn : ∃ (oc : Value) (od : Option Addr) (qual : Str) (doc pm : Value) (an : Option Addr) (cda cc : Addr) (ct : Value) (osl : Array (Option Value)) (p1 p2 q1 q2 q3 q4 q5 q6 q7 q8 q9 q10 : Pos) (ccl cl : Value) (cdd cld : Option Addr) (vs : Array Value) (ccs csl : Array (Option Value)) (file : Str) (tf : Tok),
      K.lookup fI = some ⟨oc, od, .func (PySem.W.ksFn "__init__" qual (PySem.W.supA prm p1 p2) (PySem.W.supB fld prm q1 q2 q3 q4 q5 q6 q7 q8 q9 q10) (PySem.W.supS prm) .none .none doc pm an (.ref cda) ct cc), osl⟩ ∧
      (∀ x v : Value, bindArgs (PySem.W.ksFn "__init__" qual (PySem.W.supA prm p1 p2) (PySem.W.supB fld prm q1 q2 q3 q4 q5 q6 q7 q8 q9 q10) (PySem.W.supS prm) .none .none doc pm an (.ref cda) ct cc) ⟨[x, v], []⟩ = pure [(("self" : Str), x), (prm, v)]) ∧
      (q3.endLine == q5.line) = true ∧ PySem.W.codeIn K (.ref cda) qual = true ∧ K.lookup cda = some ⟨ccl, cdd, .fields vs, ccs⟩ ∧ vs[2]? = some (.str file tf) ∧ ((prog.main.file : Str) == file) = true ∧ K.lookup cc = some ⟨cl, cld, .cell (some (.ref C)), csl⟩) : PySem.W.SupTxt prog K C fI fld prm := by
  unfold supBB at h
  simp only [Bool.and_eq_true, beq_iff_eq] at h
  obtain ⟨⟨⟨⟨⟨⟨⟨⟨⟨⟨⟨h1, h2⟩, h3⟩, h4⟩, h5⟩, h6⟩, h7⟩, h8⟩, h9⟩, h10⟩, h11⟩, h12⟩ := h
  exact { oex := ⟨⟨nm, q, N, bs, bm, sn, sub, ab, col, dd, k0, k1, k2, k3, k5, xc, xr⟩, h1, h2, h3, h4⟩, iC := iC, tI := h5, noN := h6, sup := h7, hB := h8, mro := h9, exI := h10, opq := h11, htop := htop, ne := hne, fn := fn }
end
end G

set_option maxHeartbeats 4000000
namespace K58
open PySem PySem.Spec PyProof.Rows L2 G
abbrev top (i : Nat) : Stmt := PySem.Challenge.pw_waysretraced_k58_whole_errors.main.body.getD i (.Pass ⟨0, 0, 0, 0⟩)
abbrev s__law_signs : Stmt := top 30
theorem sc__law_signs : FnScope ["e", "first", "second", "third", "fourth", "fifth"] ["e"] (defScope s__law_signs) := ⟨rfl, rfl, rfl, by decide +kernel, rfl, by decide +kernel, by decide +kernel⟩
abbrev s__law_cup : Stmt := top 25
theorem sc__law_cup : FnScope ["script", "cell"] ["script"] (defScope s__law_cup) := ⟨rfl, rfl, rfl, by decide +kernel, rfl, by decide +kernel, by decide +kernel⟩
abbrev s__law_roll : Stmt := top 26
theorem sc__law_roll : FnScope ["cup", "many", "found"] ["cup", "many"] (defScope s__law_roll) := ⟨rfl, rfl, rfl, by decide +kernel, rfl, by decide +kernel, by decide +kernel⟩
abbrev s__law_made : Stmt := top 29
theorem sc__law_made : FnScope ["text", "number", "first", "second", "third", "fourth"] ["text", "number"] (defScope s__law_made) := ⟨rfl, rfl, rfl, by decide +kernel, rfl, by decide +kernel, by decide +kernel⟩
abbrev s__law_sort : Stmt := top 27
theorem sc__law_sort : FnScope ["value"] ["value"] (defScope s__law_sort) := ⟨rfl, rfl, rfl, by decide +kernel, rfl, by decide +kernel, by decide +kernel⟩
abbrev s__law_like : Stmt := top 28
theorem sc__law_like : FnScope ["one", "other", "sort", "first", "second"] ["one", "other"] (defScope s__law_like) := ⟨rfl, rfl, rfl, by decide +kernel, rfl, by decide +kernel, by decide +kernel⟩
abbrev s__law_right : Stmt := top 31
theorem sc__law_right : FnScope ["text", "number", "made", "at", "e", "other"] ["text", "number"] (defScope s__law_right) := ⟨rfl, rfl, rfl, by decide +kernel, rfl, by decide +kernel, by decide +kernel⟩
abbrev s_law : Stmt := top 32
theorem sc_law : FnScope ["script", "base", "cup", "turn", "text", "sign", "at"] ["script"] (defScope s_law) := ⟨rfl, rfl, rfl, by decide +kernel, rfl, by decide +kernel, by decide +kernel⟩
def eBase : Str := "TraceError"
def eNames : List Str := ["TraceError", "InvalidNumber", "InvalidWord", "InvalidTree", "InvalidTrace", "InvalidMap", "InvalidTable", "InvalidText", "InvalidName", "InvalidSort", "InvalidSet", "InvalidRoute", "InvalidRow", "InvalidGroup", "InvalidOrder", "InvalidWeb", "InvalidOctets", "InvalidCode", "InvalidBundle", "NotFound", "NotNow", "BadText", "TooMany"]
def eFlds : List (Str × Str) := [("BadText", "at"), ("TooMany", "limit")]
structure Tab (P : Program) (K : PySem.W.Frag) (mg : Str → Option Value) where
  d__law_signs : DefAt K mg "_law_signs" s__law_signs ["e"]
  d__law_cup : DefAt K mg "_law_cup" s__law_cup ["script"]
  d__law_roll : DefAt K mg "_law_roll" s__law_roll ["cup", "many"]
  d__law_made : DefAt K mg "_law_made" s__law_made ["text", "number"]
  d__law_sort : DefAt K mg "_law_sort" s__law_sort ["value"]
  d__law_like : DefAt K mg "_law_like" s__law_like ["one", "other"]
  d__law_right : DefAt K mg "_law_right" s__law_right ["text", "number"]
  d_law : DefAt K mg "law" s_law ["script"]
  z_ValueError : mg "ValueError" = none
  z_abs : mg "abs" = none
  z_bool : mg "bool" = none
  z_enumerate : mg "enumerate" = none
  z_int : mg "int" = none
  z_isinstance : mg "isinstance" = none
  z_len : mg "len" = none
  z_list : mg "list" = none
  z_range : mg "range" = none
  z_str : mg "str" = none
  z_tuple : mg "tuple" = none
  z_zip : mg "zip" = none
  e_TraceError : Ex0At K mg "TraceError"
  e_InvalidNumber : Ex0At K mg "InvalidNumber"
  e_InvalidWord : Ex0At K mg "InvalidWord"
  e_InvalidTree : Ex0At K mg "InvalidTree"
  e_InvalidTrace : Ex0At K mg "InvalidTrace"
  e_InvalidMap : Ex0At K mg "InvalidMap"
  e_InvalidTable : Ex0At K mg "InvalidTable"
  e_InvalidText : Ex0At K mg "InvalidText"
  e_InvalidName : Ex0At K mg "InvalidName"
  e_InvalidSort : Ex0At K mg "InvalidSort"
  e_InvalidSet : Ex0At K mg "InvalidSet"
  e_InvalidRoute : Ex0At K mg "InvalidRoute"
  e_InvalidRow : Ex0At K mg "InvalidRow"
  e_InvalidGroup : Ex0At K mg "InvalidGroup"
  e_InvalidOrder : Ex0At K mg "InvalidOrder"
  e_InvalidWeb : Ex0At K mg "InvalidWeb"
  e_InvalidOctets : Ex0At K mg "InvalidOctets"
  e_InvalidCode : Ex0At K mg "InvalidCode"
  e_InvalidBundle : Ex0At K mg "InvalidBundle"
  e_NotFound : Ex0At K mg "NotFound"
  e_NotNow : Ex0At K mg "NotNow"
  e_BadText : Ex1At P K mg "BadText" "at"
  e_TooMany : Ex1At P K mg "TooMany" "limit"
  errs : ErrTab K mg eBase eNames
  flds : ErrFld K mg eFlds
def G__law_signs : FD := mkDef 1 6 (sSeq (sSet 1 (fLst (aCons (fB (gIsx eBase eNames) (aCons (fVar 0) (aCons (fC (.fn "InvalidNumber")) aNil))) (aCons (fB (gIsx eBase eNames) (aCons (fVar 0) (aCons (fC (.fn "InvalidWord")) aNil))) (aCons (fB (gIsx eBase eNames) (aCons (fVar 0) (aCons (fC (.fn "InvalidTree")) aNil))) (aCons (fB (gIsx eBase eNames) (aCons (fVar 0) (aCons (fC (.fn "InvalidTrace")) aNil))) (aCons (fB (gIsx eBase eNames) (aCons (fVar 0) (aCons (fC (.fn "InvalidMap")) aNil))) aNil))))))) (sSeq (sSet 2 (fLst (aCons (fB (gIsx eBase eNames) (aCons (fVar 0) (aCons (fC (.fn "InvalidTable")) aNil))) (aCons (fB (gIsx eBase eNames) (aCons (fVar 0) (aCons (fC (.fn "InvalidText")) aNil))) (aCons (fB (gIsx eBase eNames) (aCons (fVar 0) (aCons (fC (.fn "InvalidName")) aNil))) (aCons (fB (gIsx eBase eNames) (aCons (fVar 0) (aCons (fC (.fn "InvalidSort")) aNil))) (aCons (fB (gIsx eBase eNames) (aCons (fVar 0) (aCons (fC (.fn "InvalidSet")) aNil))) aNil))))))) (sSeq (sSet 3 (fLst (aCons (fB (gIsx eBase eNames) (aCons (fVar 0) (aCons (fC (.fn "InvalidRoute")) aNil))) (aCons (fB (gIsx eBase eNames) (aCons (fVar 0) (aCons (fC (.fn "InvalidRow")) aNil))) (aCons (fB (gIsx eBase eNames) (aCons (fVar 0) (aCons (fC (.fn "InvalidGroup")) aNil))) (aCons (fB (gIsx eBase eNames) (aCons (fVar 0) (aCons (fC (.fn "InvalidOrder")) aNil))) (aCons (fB (gIsx eBase eNames) (aCons (fVar 0) (aCons (fC (.fn "InvalidWeb")) aNil))) aNil))))))) (sSeq (sSet 4 (fLst (aCons (fB (gIsx eBase eNames) (aCons (fVar 0) (aCons (fC (.fn "InvalidOctets")) aNil))) (aCons (fB (gIsx eBase eNames) (aCons (fVar 0) (aCons (fC (.fn "InvalidCode")) aNil))) (aCons (fB (gIsx eBase eNames) (aCons (fVar 0) (aCons (fC (.fn "InvalidBundle")) aNil))) (aCons (fB (gIsx eBase eNames) (aCons (fVar 0) (aCons (fC (.fn "NotFound")) aNil))) (aCons (fB (gIsx eBase eNames) (aCons (fVar 0) (aCons (fC (.fn "NotNow")) aNil))) aNil))))))) (sSeq (sSet 5 (fLst (aCons (fB (gIsx eBase eNames) (aCons (fVar 0) (aCons (fC (.fn "BadText")) aNil))) (aCons (fB (gIsx eBase eNames) (aCons (fVar 0) (aCons (fC (.fn "TooMany")) aNil))) aNil)))) (sRet (fBin (opD gAdd) (fBin (opD gAdd) (fBin (opD gAdd) (fBin (opD gAdd) (fVar 1) (fVar 2)) (fVar 3)) (fVar 4)) (fVar 5))))))))
theorem g__law_signs {P : Program} {w : World} {K : PySem.W.Frag} {mg : Str → Option Value} {base : Heap} (T : Tab P K mg) : FnOk P w K mg base (L2.CX P w) 1 T.d__law_signs.f T.d__law_signs.fd ["e"] (spG ⟨K, mg⟩ G__law_signs) := by
  have hN := sc__law_signs.nd
  exact def_ok (k := 0) T.d__law_signs.F sc__law_signs fun cdv A outer s H E hr tk hp => ss_cons (ss_set hN (se_lst (sa_cons (se_callB (r_isx T.errs) (by rfl) T.z_isinstance (by decide +kernel) (sa_cons se_var (sa_cons (se_fn (by rfl) T.e_InvalidNumber.g) sa_nil))) (sa_cons (se_callB (r_isx T.errs) (by rfl) T.z_isinstance (by decide +kernel) (sa_cons se_var (sa_cons (se_fn (by rfl) T.e_InvalidWord.g) sa_nil))) (sa_cons (se_callB (r_isx T.errs) (by rfl) T.z_isinstance (by decide +kernel) (sa_cons se_var (sa_cons (se_fn (by rfl) T.e_InvalidTree.g) sa_nil))) (sa_cons (se_callB (r_isx T.errs) (by rfl) T.z_isinstance (by decide +kernel) (sa_cons se_var (sa_cons (se_fn (by rfl) T.e_InvalidTrace.g) sa_nil))) (sa_cons (se_callB (r_isx T.errs) (by rfl) T.z_isinstance (by decide +kernel) (sa_cons se_var (sa_cons (se_fn (by rfl) T.e_InvalidMap.g) sa_nil))) sa_nil))))))) (ss_cons (ss_set hN (se_lst (sa_cons (se_callB (r_isx T.errs) (by rfl) T.z_isinstance (by decide +kernel) (sa_cons se_var (sa_cons (se_fn (by rfl) T.e_InvalidTable.g) sa_nil))) (sa_cons (se_callB (r_isx T.errs) (by rfl) T.z_isinstance (by decide +kernel) (sa_cons se_var (sa_cons (se_fn (by rfl) T.e_InvalidText.g) sa_nil))) (sa_cons (se_callB (r_isx T.errs) (by rfl) T.z_isinstance (by decide +kernel) (sa_cons se_var (sa_cons (se_fn (by rfl) T.e_InvalidName.g) sa_nil))) (sa_cons (se_callB (r_isx T.errs) (by rfl) T.z_isinstance (by decide +kernel) (sa_cons se_var (sa_cons (se_fn (by rfl) T.e_InvalidSort.g) sa_nil))) (sa_cons (se_callB (r_isx T.errs) (by rfl) T.z_isinstance (by decide +kernel) (sa_cons se_var (sa_cons (se_fn (by rfl) T.e_InvalidSet.g) sa_nil))) sa_nil))))))) (ss_cons (ss_set hN (se_lst (sa_cons (se_callB (r_isx T.errs) (by rfl) T.z_isinstance (by decide +kernel) (sa_cons se_var (sa_cons (se_fn (by rfl) T.e_InvalidRoute.g) sa_nil))) (sa_cons (se_callB (r_isx T.errs) (by rfl) T.z_isinstance (by decide +kernel) (sa_cons se_var (sa_cons (se_fn (by rfl) T.e_InvalidRow.g) sa_nil))) (sa_cons (se_callB (r_isx T.errs) (by rfl) T.z_isinstance (by decide +kernel) (sa_cons se_var (sa_cons (se_fn (by rfl) T.e_InvalidGroup.g) sa_nil))) (sa_cons (se_callB (r_isx T.errs) (by rfl) T.z_isinstance (by decide +kernel) (sa_cons se_var (sa_cons (se_fn (by rfl) T.e_InvalidOrder.g) sa_nil))) (sa_cons (se_callB (r_isx T.errs) (by rfl) T.z_isinstance (by decide +kernel) (sa_cons se_var (sa_cons (se_fn (by rfl) T.e_InvalidWeb.g) sa_nil))) sa_nil))))))) (ss_cons (ss_set hN (se_lst (sa_cons (se_callB (r_isx T.errs) (by rfl) T.z_isinstance (by decide +kernel) (sa_cons se_var (sa_cons (se_fn (by rfl) T.e_InvalidOctets.g) sa_nil))) (sa_cons (se_callB (r_isx T.errs) (by rfl) T.z_isinstance (by decide +kernel) (sa_cons se_var (sa_cons (se_fn (by rfl) T.e_InvalidCode.g) sa_nil))) (sa_cons (se_callB (r_isx T.errs) (by rfl) T.z_isinstance (by decide +kernel) (sa_cons se_var (sa_cons (se_fn (by rfl) T.e_InvalidBundle.g) sa_nil))) (sa_cons (se_callB (r_isx T.errs) (by rfl) T.z_isinstance (by decide +kernel) (sa_cons se_var (sa_cons (se_fn (by rfl) T.e_NotFound.g) sa_nil))) (sa_cons (se_callB (r_isx T.errs) (by rfl) T.z_isinstance (by decide +kernel) (sa_cons se_var (sa_cons (se_fn (by rfl) T.e_NotNow.g) sa_nil))) sa_nil))))))) (ss_cons (ss_set hN (se_lst (sa_cons (se_callB (r_isx T.errs) (by rfl) T.z_isinstance (by decide +kernel) (sa_cons se_var (sa_cons (se_fn (by rfl) T.e_BadText.g) sa_nil))) (sa_cons (se_callB (r_isx T.errs) (by rfl) T.z_isinstance (by decide +kernel) (sa_cons se_var (sa_cons (se_fn (by rfl) T.e_TooMany.g) sa_nil))) sa_nil)))) (ss_one (ss_ret (se_bin r_add (se_bin r_add (se_bin r_add (se_bin r_add se_var se_var) se_var) se_var) se_var)))))))
def G__law_cup : FD := mkDef 1 2 (sSeq (sSet 1 (fB gAbs (aCons (fBin (opD gIx) (fBin (opD gAdd) (fB gList (aCons (fVar 0) aNil)) (fLst (aCons (fC (.int 0)) aNil))) (fC (.int 0))) aNil))) (sRet (fLst (aCons (fIf (tCmp (opD (gOrd cGe)) (fVar 1) (fBin (opD gPow) (fC (.int 10)) (fC (.int 18)))) (fBin (opD gFdiv) (fVar 1) (fC (.int 337))) (fC (.int 0))) (aCons (fBin (opD gMod) (fB gInt (aCons (fBin (opD gAdd) (fBin (opD gMul) (fVar 1) (fC (.int 1117))) (fC (.int 103963))) aNil)) (fC (.int 1048576))) aNil)))))
theorem g__law_cup {P : Program} {w : World} {K : PySem.W.Frag} {mg : Str → Option Value} {base : Heap} (T : Tab P K mg) : FnOk P w K mg base (L2.CX P w) 1 T.d__law_cup.f T.d__law_cup.fd ["script"] (spG ⟨K, mg⟩ G__law_cup) := by
  have hN := sc__law_cup.nd
  exact def_ok (k := 0) T.d__law_cup.F sc__law_cup fun cdv A outer s H E hr tk hp => ss_cons (ss_set hN (se_callB r_abs (by rfl) T.z_abs (by decide +kernel) (sa_cons (se_ix r_ix (se_bin r_add (se_callTy r_list (by rfl) T.z_list (by decide +kernel) (sa_cons se_var sa_nil)) (se_lst (sa_cons se_int sa_nil))) se_int) sa_nil))) (ss_one (ss_ret (se_lst (sa_cons (se_if (st_cmp (r_ge hr) se_var (se_bin r_pow se_int se_int) (nomark _)) (se_bin r_fdiv se_var se_int) se_int) (sa_cons (se_bin r_mod (se_callTy r_int1 (by rfl) T.z_int (by decide +kernel) (sa_cons (se_bin r_add (se_bin r_mul se_var se_int) se_int) sa_nil)) se_int) sa_nil)))))
def G__law_roll : FD := mkDef 2 3 (sSeq (sIf (tCmp (opD (gOrd cGt)) (fBin (opD gIx) (fVar 0) (fC (.int 0))) (fC (.int 0))) (sSeq (sSet 2 (fBin (opD gMod) (fB gInt (aCons (fBin (opD gIx) (fVar 0) (fC (.int 0))) aNil)) (fVar 1))) (sSeq (sAsg (gSubL (fVar 0) (fC (.int 0))) (fBin (opD gFdiv) (fBin (opD gIx) (fVar 0) (fC (.int 0))) (fVar 1))) (sRet (fVar 2)))) sNil) (sSeq (sAsg (gSubL (fVar 0) (fC (.int 1))) (fBin (opD gMod) (fB gInt (aCons (fBin (opD gAdd) (fBin (opD gMul) (fBin (opD gIx) (fVar 0) (fC (.int 1))) (fC (.int 26417))) (fC (.int 61153))) aNil)) (fC (.int 1048576)))) (sRet (fBin (opD gMod) (fB gInt (aCons (fBin (opD gFdiv) (fBin (opD gIx) (fVar 0) (fC (.int 1))) (fC (.int 157))) aNil)) (fVar 1)))))
theorem g__law_roll {P : Program} {w : World} {K : PySem.W.Frag} {mg : Str → Option Value} {base : Heap} (T : Tab P K mg) : FnOk P w K mg base (L2.CX P w) 1 T.d__law_roll.f T.d__law_roll.fd ["cup", "many"] (spG ⟨K, mg⟩ G__law_roll) := by
  have hN := sc__law_roll.nd
  exact def_ok (k := 0) T.d__law_roll.F sc__law_roll fun cdv A outer s H E hr tk hp => ss_cons (ss_if (st_cmp (r_gt hr) (se_ix r_ix se_var se_int) se_int (nomark _)) (ss_cons (ss_set hN (se_bin r_mod (se_callTy r_int1 (by rfl) T.z_int (by decide +kernel) (sa_cons (se_ix r_ix se_var se_int) sa_nil)) se_var)) (ss_cons (ss_asg (se_bin r_fdiv (se_ix r_ix se_var se_int) se_var) (sg_subL se_var se_int)) (ss_one (ss_ret se_var)))) ss_nil) (ss_cons (ss_asg (se_bin r_mod (se_callTy r_int1 (by rfl) T.z_int (by decide +kernel) (sa_cons (se_bin r_add (se_bin r_mul (se_ix r_ix se_var se_int) se_int) se_int) sa_nil)) se_int) (sg_subL se_var se_int)) (ss_one (ss_ret (se_bin r_mod (se_callTy r_int1 (by rfl) T.z_int (by decide +kernel) (sa_cons (se_bin r_fdiv (se_ix r_ix se_var se_int) se_int) sa_nil)) se_var))))
def G__law_made : FD := mkDef 2 6 (sSeq (sSet 2 (fLst (aCons (fMk0 "InvalidNumber" (aCons (fVar 0) aNil)) (aCons (fMk0 "InvalidWord" (aCons (fVar 0) aNil)) (aCons (fMk0 "InvalidTree" (aCons (fVar 0) aNil)) (aCons (fMk0 "InvalidTrace" (aCons (fVar 0) aNil)) (aCons (fMk0 "InvalidMap" (aCons (fVar 0) aNil)) (aCons (fMk0 "InvalidTable" (aCons (fVar 0) aNil)) aNil)))))))) (sSeq (sSet 3 (fLst (aCons (fMk0 "InvalidText" (aCons (fVar 0) aNil)) (aCons (fMk0 "InvalidName" (aCons (fVar 0) aNil)) (aCons (fMk0 "InvalidSort" (aCons (fVar 0) aNil)) (aCons (fMk0 "InvalidSet" (aCons (fVar 0) aNil)) (aCons (fMk0 "InvalidRoute" (aCons (fVar 0) aNil)) (aCons (fMk0 "InvalidRow" (aCons (fVar 0) aNil)) aNil)))))))) (sSeq (sSet 4 (fLst (aCons (fMk0 "InvalidGroup" (aCons (fVar 0) aNil)) (aCons (fMk0 "InvalidOrder" (aCons (fVar 0) aNil)) (aCons (fMk0 "InvalidWeb" (aCons (fVar 0) aNil)) (aCons (fMk0 "InvalidOctets" (aCons (fVar 0) aNil)) (aCons (fMk0 "InvalidCode" (aCons (fVar 0) aNil)) (aCons (fMk0 "InvalidBundle" (aCons (fVar 0) aNil)) aNil)))))))) (sSeq (sSet 5 (fLst (aCons (fMk0 "NotFound" (aCons (fVar 0) aNil)) (aCons (fMk0 "NotNow" (aCons (fVar 0) aNil)) aNil)))) (sRet (fBin (opD gAdd) (fBin (opD gAdd) (fBin (opD gAdd) (fBin (opD gAdd) (fVar 2) (fVar 3)) (fVar 4)) (fVar 5)) (fLst (aCons (fMk1 "BadText" "at" (aCons (fVar 1) aNil)) (aCons (fMk1 "TooMany" "limit" (aCons (fVar 1) aNil)) aNil)))))))))
theorem g__law_made {P : Program} {w : World} {K : PySem.W.Frag} {mg : Str → Option Value} {base : Heap} (T : Tab P K mg) : FnOk P w K mg base (L2.CX P w) 1 T.d__law_made.f T.d__law_made.fd ["text", "number"] (spG ⟨K, mg⟩ G__law_made) := by
  have hN := sc__law_made.nd
  exact def_ok (k := 0) T.d__law_made.F sc__law_made fun cdv A outer s H E hr tk hp => ss_cons (ss_set hN (se_lst (sa_cons (se_mk0 T.e_InvalidNumber.ok (by rfl) (sa_cons se_var sa_nil)) (sa_cons (se_mk0 T.e_InvalidWord.ok (by rfl) (sa_cons se_var sa_nil)) (sa_cons (se_mk0 T.e_InvalidTree.ok (by rfl) (sa_cons se_var sa_nil)) (sa_cons (se_mk0 T.e_InvalidTrace.ok (by rfl) (sa_cons se_var sa_nil)) (sa_cons (se_mk0 T.e_InvalidMap.ok (by rfl) (sa_cons se_var sa_nil)) (sa_cons (se_mk0 T.e_InvalidTable.ok (by rfl) (sa_cons se_var sa_nil)) sa_nil)))))))) (ss_cons (ss_set hN (se_lst (sa_cons (se_mk0 T.e_InvalidText.ok (by rfl) (sa_cons se_var sa_nil)) (sa_cons (se_mk0 T.e_InvalidName.ok (by rfl) (sa_cons se_var sa_nil)) (sa_cons (se_mk0 T.e_InvalidSort.ok (by rfl) (sa_cons se_var sa_nil)) (sa_cons (se_mk0 T.e_InvalidSet.ok (by rfl) (sa_cons se_var sa_nil)) (sa_cons (se_mk0 T.e_InvalidRoute.ok (by rfl) (sa_cons se_var sa_nil)) (sa_cons (se_mk0 T.e_InvalidRow.ok (by rfl) (sa_cons se_var sa_nil)) sa_nil)))))))) (ss_cons (ss_set hN (se_lst (sa_cons (se_mk0 T.e_InvalidGroup.ok (by rfl) (sa_cons se_var sa_nil)) (sa_cons (se_mk0 T.e_InvalidOrder.ok (by rfl) (sa_cons se_var sa_nil)) (sa_cons (se_mk0 T.e_InvalidWeb.ok (by rfl) (sa_cons se_var sa_nil)) (sa_cons (se_mk0 T.e_InvalidOctets.ok (by rfl) (sa_cons se_var sa_nil)) (sa_cons (se_mk0 T.e_InvalidCode.ok (by rfl) (sa_cons se_var sa_nil)) (sa_cons (se_mk0 T.e_InvalidBundle.ok (by rfl) (sa_cons se_var sa_nil)) sa_nil)))))))) (ss_cons (ss_set hN (se_lst (sa_cons (se_mk0 T.e_NotFound.ok (by rfl) (sa_cons se_var sa_nil)) (sa_cons (se_mk0 T.e_NotNow.ok (by rfl) (sa_cons se_var sa_nil)) sa_nil)))) (ss_one (ss_ret (se_bin r_add (se_bin r_add (se_bin r_add (se_bin r_add se_var se_var) se_var) se_var) (se_lst (sa_cons (se_mk1 T.e_BadText.ok hr (by rfl) (sa_cons se_var sa_nil)) (sa_cons (se_mk1 T.e_TooMany.ok hr (by rfl) (sa_cons se_var sa_nil)) sa_nil)))))))))
def G__law_sort : FD := mkDef 1 1 (sSeq (sIf (tOr (tCmp (opD gIsN) (fVar 0) (fC .non)) (tTru gTru (fB gIsi (aCons (fVar 0) (aCons (fC (.ty 1)) aNil))))) (sRet (fIf (tCmp (opD gIsN) (fVar 0) (fC .non)) (fC (.int 0)) (fC (.int 1)))) sNil) (sSeq (sIf (tOr (tTru gTru (fB gIsi (aCons (fVar 0) (aCons (fC (.ty 0)) aNil)))) (tTru gTru (fB gIsi (aCons (fVar 0) (aCons (fC (.ty 2)) aNil))))) (sRet (fIf (tTru gTru (fB gIsi (aCons (fVar 0) (aCons (fC (.ty 0)) aNil)))) (fC (.int 2)) (fC (.int 3)))) sNil) (sRet (fIf (tTru gTru (fB gIsi (aCons (fVar 0) (aCons (fC (.ty 3)) aNil)))) (fC (.int 4)) (fIf (tTru gTru (fB gIsi (aCons (fVar 0) (aCons (fC (.ty 4)) aNil)))) (fC (.int 5)) (fC (.int 6)))))))
theorem g__law_sort {P : Program} {w : World} {K : PySem.W.Frag} {mg : Str → Option Value} {base : Heap} (T : Tab P K mg) : FnOk P w K mg base (L2.CX P w) 1 T.d__law_sort.f T.d__law_sort.fd ["value"] (spG ⟨K, mg⟩ G__law_sort) := by
  have hN := sc__law_sort.nd
  exact def_ok (k := 0) T.d__law_sort.F sc__law_sort fun cdv A outer s H E hr tk hp => ss_cons (ss_if (st_w (sw_or (st_cmp (r_isN) se_var se_non (nomark _)) (sw_or1 (st_tru (se_callB r_isi (by rfl) T.z_isinstance (by decide +kernel) (sa_cons se_var (sa_cons (se_ty 1 (by rfl) T.z_bool (by decide +kernel)) sa_nil))))))) (ss_one (ss_ret (se_if (st_cmp (r_isN) se_var se_non (nomark _)) se_int se_int))) ss_nil) (ss_cons (ss_if (st_w (sw_or (st_tru (se_callB r_isi (by rfl) T.z_isinstance (by decide +kernel) (sa_cons se_var (sa_cons (se_ty 0 (by rfl) T.z_int (by decide +kernel)) sa_nil)))) (sw_or1 (st_tru (se_callB r_isi (by rfl) T.z_isinstance (by decide +kernel) (sa_cons se_var (sa_cons (se_ty 2 (by rfl) T.z_str (by decide +kernel)) sa_nil))))))) (ss_one (ss_ret (se_if (st_tru (se_callB r_isi (by rfl) T.z_isinstance (by decide +kernel) (sa_cons se_var (sa_cons (se_ty 0 (by rfl) T.z_int (by decide +kernel)) sa_nil)))) se_int se_int))) ss_nil) (ss_one (ss_ret (se_if (st_tru (se_callB r_isi (by rfl) T.z_isinstance (by decide +kernel) (sa_cons se_var (sa_cons (se_ty 3 (by rfl) T.z_tuple (by decide +kernel)) sa_nil)))) se_int (se_if (st_tru (se_callB r_isi (by rfl) T.z_isinstance (by decide +kernel) (sa_cons se_var (sa_cons (se_ty 4 (by rfl) T.z_list (by decide +kernel)) sa_nil)))) se_int se_int)))))
def G__law_like : Nat → FD
  | 0 => fun _ _ => .stuck
  | n + 1 => mkDef 2 5 (sSeq (sSet 2 (fCall G__law_sort (aCons (fVar 1) aNil))) (sSeq (sIf (tOr (tCmp (opD (gEq false)) (fCall G__law_sort (aCons (fVar 0) aNil)) (fVar 2)) (tCmp (opD (gEq true)) (fVar 2) (fC (.int 6)))) (sRet (fC (.bl false))) sNil) (sSeq (sIf (tCmp (opD (gIn true)) (fVar 2) (fTup (aCons (fC (.int 4)) (aCons (fC (.int 5)) aNil)))) (sRet (fAnd (fBin (opD (gEq true)) (fB gLen (aCons (fVar 0) aNil)) (fB gLen (aCons (fVar 1) aNil))) (fBin (opD (gEq true)) (fLc (iZip (aCons (fVar 0) (aCons (fVar 1) aNil))) (gT 2 (gsCons (gN 3) (gsCons (gN 4) gsNil))) (tNot (tTru gTru (fCall (G__law_like n) (aCons (fVar 3) (aCons (fVar 4) aNil))))) (fC (.int 1)) [3, 4]) (fLst aNil)))) sNil) (sRet (fBin (opD (gEq true)) (fVar 0) (fVar 1))))))
theorem g__law_like {P : Program} {w : World} {K : PySem.W.Frag} {mg : Str → Option Value} {base : Heap} (T : Tab P K mg) : ∀ n, FnOk P w K mg base (L2.CX P w) (1 + n) T.d__law_like.f T.d__law_like.fd ["one", "other"] (spG ⟨K, mg⟩ (G__law_like n))
  | 0 => def_none
  | n + 1 => by
    have ih := g__law_like (P := P) (w := w) (base := base) T n
    have hN := sc__law_like.nd
    exact def_ok (k := 1 + n) T.d__law_like.F sc__law_like fun cdv A outer s H E hr tk hp => ss_cons (ss_set hN (se_call (g__law_sort T) (hr.mono (by omega)) tk (by rfl) T.d__law_sort.g T.d__law_sort.F.kp T.d__law_sort.b (sa_cons se_var sa_nil))) (ss_cons (ss_if (st_w (sw_or (st_cmp (r_ne hr) (se_call (g__law_sort T) (hr.mono (by omega)) tk (by rfl) T.d__law_sort.g T.d__law_sort.F.kp T.d__law_sort.b (sa_cons se_var sa_nil)) se_var (nomark _)) (sw_or1 (st_cmp (r_eq hr) se_var se_int (nomark _))))) (ss_one (ss_ret se_bl)) ss_nil) (ss_cons (ss_if (st_cmp (r_in hr) se_var (se_tup (sa_cons se_int (sa_cons se_int sa_nil))) (by rfl)) (ss_one (ss_ret (se_and (se_cmp (r_eq hr) (se_callB r_len (by rfl) T.z_len PySem.boot_len (sa_cons se_var sa_nil)) (se_callB r_len (by rfl) T.z_len PySem.boot_len (sa_cons se_var sa_nil)) (nomark _)) (se_one (se_cmp (r_eq hr) (se_lc [("first", 3), ("second", 4)] hN (blkOk_by (by kernel_rfl)) (si_zip (by rfl) T.z_zip (sa_cons se_var (sa_cons se_var sa_nil))) (fun _ _ _ _ _ => sg_t (sgs_cons (sg_n hN) (sgs_cons (sg_n hN) sgs_nil))) (fun _ _ _ _ _ => sts_one (st_not (st_tru (se_call ih (hr.mono (by omega)) takes0 (by rfl) T.d__law_like.g T.d__law_like.F.kp T.d__law_like.b (sa_cons se_var (sa_cons se_var sa_nil)))))) (fun _ _ _ _ _ => se_int)) (se_lst sa_nil) (nomark _)))))) ss_nil) (ss_one (ss_ret (se_cmp (r_eq hr) se_var se_var (nomark _))))))
def G__law_right_b1 : FS := sSeq (sIf (tCmp (opD (gEq false)) (fCall G__law_signs (aCons (fVar 4) aNil)) (fLc (iRange (aCons (fC (.int 22)) aNil)) (gN 5) tYesF (fBin (opD (gEq true)) (fVar 5) (fVar 3)) [5])) (sRet (fC (.bl false))) sNil) (sIf (tOr (tNot (tTru gTru (fB (gIsx eBase eNames) (aCons (fVar 4) (aCons (fC (.fn "TraceError")) aNil))))) (tNot (tTru gTru (fB (gIsx eBase eNames) (aCons (fVar 4) (aCons (fC (.ty 6)) aNil)))))) (sRet (fC (.bl false))) sNil)
def G__law_right : FD := mkDef 2 6 (sSeq (sSet 2 (fCall G__law_made (aCons (fVar 0) (aCons (fVar 1) aNil)))) (sSeq (sFor (iEnum (aCons (fVar 2) aNil)) (gT 2 (gsCons (gN 3) (gsCons (gN 4) gsNil))) G__law_right_b1) (sRet (fCall (G__law_like 4) (aCons (fLst (aCons (fFld eFlds "at" (fBin (opD gIx) (fVar 2) (fC (.int 20)))) (aCons (fFld eFlds "limit" (fBin (opD gIx) (fVar 2) (fC (.int 21)))) aNil))) (aCons (fLst (aCons (fVar 1) (aCons (fVar 1) aNil))) aNil))))))
theorem g__law_right {P : Program} {w : World} {K : PySem.W.Frag} {mg : Str → Option Value} {base : Heap} (T : Tab P K mg) : FnOk P w K mg base (L2.CX P w) 6 T.d__law_right.f T.d__law_right.fd ["text", "number"] (spG ⟨K, mg⟩ G__law_right) := by
  have hN := sc__law_right.nd
  exact def_ok (k := 5) T.d__law_right.F sc__law_right fun cdv A outer s H E hr tk hp => ss_cons (ss_set hN (se_call (g__law_made T) (hr.mono (by omega)) tk (by rfl) T.d__law_made.g T.d__law_made.F.kp T.d__law_made.b (sa_cons se_var (sa_cons se_var sa_nil)))) (ss_cons (ss_for hp (si_enum (by rfl) T.z_enumerate (sa_cons se_var sa_nil)) (sg_t (sgs_cons (sg_n hN) (sgs_cons (sg_n hN) sgs_nil))) (ss_cons (ss_if (st_cmp (r_ne hr) (se_call (g__law_signs T) (hr.mono (by omega)) tk (by rfl) T.d__law_signs.g T.d__law_signs.F.kp T.d__law_signs.b (sa_cons se_var sa_nil)) (se_lc [("other", 5)] hN (blkOk_by (by kernel_rfl)) (si_range1 (by rfl) T.z_range (sa_cons se_int sa_nil) (h1 := len1)) (fun _ _ _ _ _ => sg_n hN) (fun _ _ _ _ _ => sts_nil) (fun _ _ _ _ _ => se_cmp (r_eq hr) se_var se_var (nomark _))) (nomark _)) (ss_one (ss_ret se_bl)) ss_nil) (ss_one (ss_if (st_w (sw_or (st_not (st_tru (se_callB (r_isx T.errs) (by rfl) T.z_isinstance (by decide +kernel) (sa_cons se_var (sa_cons (se_fn (by rfl) T.e_TraceError.g) sa_nil))))) (sw_or1 (st_not (st_tru (se_callB (r_isx T.errs) (by rfl) T.z_isinstance (by decide +kernel) (sa_cons se_var (sa_cons (se_ty 6 (by rfl) T.z_ValueError (by decide +kernel)) sa_nil)))))))) (ss_one (ss_ret se_bl)) ss_nil)))) (ss_one (ss_ret (se_call (g__law_like T 4) (hr.mono (by omega)) tk (by rfl) T.d__law_like.g T.d__law_like.F.kp T.d__law_like.b (sa_cons (se_lst (sa_cons (se_fld T.flds (se_ix r_ix se_var se_int)) (sa_cons (se_fld T.flds (se_ix r_ix se_var se_int)) sa_nil))) (sa_cons (se_lst (sa_cons se_var (sa_cons se_var sa_nil))) sa_nil))))))
def G_law_e1 : FE := fBin (opD gIx) (fTup (aCons (fC (.str "a")) (aCons (fC (.str "b")) (aCons (fC (.str " ")) (aCons (fC (.str "0")) (aCons (fC (.str "")) aNil)))))) (fCall G__law_roll (aCons (fVar 2) (aCons (fC (.int 5)) aNil)))
def G_law_b1 : FS := sSeq (sSet 4 (fM1 gJoin (fC (.str "")) (fLc (iRange (aCons (fCall G__law_roll (aCons (fVar 2) (aCons (fC (.int 9)) aNil))) aNil)) (gN 6) tYesF G_law_e1 [6]))) (sIf (tNot (tTru gTru (fCall G__law_right (aCons (fVar 4) (aCons (fCall G__law_roll (aCons (fVar 2) (aCons (fC (.int 5000)) aNil))) aNil))))) (sRet (fC (.bl false))) sNil)
def G_law : FD := mkDef 1 7 (sSeq (sSet 1 (fMk0 "TraceError" (aCons (fC (.str "told")) aNil))) (sSeq (sIf (tOr (tNot (tTru gTru (fB (gIsx eBase eNames) (aCons (fVar 1) (aCons (fC (.ty 6)) aNil))))) (tCmp (opD (gEq false)) (fLc (iSeq (fCall G__law_signs (aCons (fVar 1) aNil))) (gN 5) (tTru gTru (fVar 5)) (fVar 5) [5]) (fLst aNil))) (sRet (fC (.bl false))) sNil) (sSeq (sNew 2 (fCall G__law_cup (aCons (fVar 0) aNil))) (sSeq (sFor (iRange (aCons (fC (.int 4)) aNil)) (gN 3) G_law_b1) (sRet (fC (.bl true)))))))
theorem g_law {P : Program} {w : World} {K : PySem.W.Frag} {mg : Str → Option Value} {base : Heap} (T : Tab P K mg) : FnOk P w K mg base (L2.CX P w) 7 T.d_law.f T.d_law.fd ["script"] (spG ⟨K, mg⟩ G_law) := by
  have hN := sc_law.nd
  exact def_ok (k := 6) T.d_law.F sc_law fun cdv A outer s H E hr tk hp => ss_cons (ss_set hN (se_mk0 T.e_TraceError.ok (by rfl) (sa_cons se_str sa_nil))) (ss_cons (ss_if (st_w (sw_or (st_not (st_tru (se_callB (r_isx T.errs) (by rfl) T.z_isinstance (by decide +kernel) (sa_cons se_var (sa_cons (se_ty 6 (by rfl) T.z_ValueError (by decide +kernel)) sa_nil))))) (sw_or1 (st_cmp (r_ne hr) (se_lc [("sign", 5)] hN (blkOk_by (by kernel_rfl)) (si_seq (se_call (g__law_signs T) (hr.mono (by omega)) tk (by rfl) T.d__law_signs.g T.d__law_signs.F.kp T.d__law_signs.b (sa_cons se_var sa_nil))) (fun _ _ _ _ _ => sg_n hN) (fun _ _ _ _ _ => sts_one (st_tru se_var)) (fun _ _ _ _ _ => se_var)) (se_lst sa_nil) (nomark _))))) (ss_one (ss_ret se_bl)) ss_nil) (ss_cons (ss_new hN (se_call (g__law_cup T) (hr.mono (by omega)) tk (by rfl) T.d__law_cup.g T.d__law_cup.F.kp T.d__law_cup.b (sa_cons se_var sa_nil))) (ss_cons (ss_for hp (si_range1 (by rfl) T.z_range (sa_cons se_int sa_nil) (h1 := len1)) (sg_n hN) (ss_cons (ss_set hN (se_join se_str (se_lc [("at", 6)] hN (blkOk_by (by kernel_rfl)) (si_range1 (by rfl) T.z_range (sa_cons (se_call (g__law_roll T) (hr.mono (by omega)) tk (by rfl) T.d__law_roll.g T.d__law_roll.F.kp T.d__law_roll.b (sa_cons se_var (sa_cons se_int sa_nil))) sa_nil) (h1 := len1)) (fun _ _ _ _ _ => sg_n hN) (fun _ _ _ _ _ => sts_nil) (fun _ _ _ _ _ => se_ix r_ix (se_tup (sa_cons se_str (sa_cons se_str (sa_cons se_str (sa_cons se_str (sa_cons se_str sa_nil)))))) (se_call (g__law_roll T) (hr.mono (by omega)) takes0 (by rfl) T.d__law_roll.g T.d__law_roll.F.kp T.d__law_roll.b (sa_cons se_var (sa_cons se_int sa_nil))))))) (ss_one (ss_if (st_not (st_tru (se_call (g__law_right T) (hr.mono (by omega)) tk (by rfl) T.d__law_right.g T.d__law_right.F.kp T.d__law_right.b (sa_cons se_var (sa_cons (se_call (g__law_roll T) (hr.mono (by omega)) tk (by rfl) T.d__law_roll.g T.d__law_roll.F.kp T.d__law_roll.b (sa_cons se_var (sa_cons se_int sa_nil))) sa_nil))))) (ss_one (ss_ret se_bl)) ss_nil)))) (ss_one (ss_ret se_bl)))))
end K58

set_option maxHeartbeats 4000000
namespace G
open PySem PySem.Spec PyProof.Rows L2
theorem fin_seq {a b : FS} {env env' : Sl} {st st' : Store} {m : Nat} {R : Res Val} (h : a env st = .ok (.nx env') st') (h2 : fin m (b env' st') = R) : fin m (sSeq a b env st) = R := by
  rw [q_seq, h]
  exact h2
theorem mk_is {np n : Nat} {body : FS} {us : List U} {st : Store} {R : Res Val} (hl : us.length = np) (h : fin st.length (body (us.map some ++ List.replicate (n - us.length) none) st) = R) : mkDef np n body us st = R := by
  rw [q_mk, if_pos hl]
  exact h
theorem fin_call {g : FD} {as : FA} {env : Sl} {st st1 st2 : Store} {us : List U} {x : D} {m : Nat} (h1 : as env st = .ok us st1) (h2 : g us st1 = .ok (.u (.d x)) st2) : fin m (sRet (fCall g as) env st) = .ok (.u (.d x)) (st2.take m) := by
  rw [q_ret, q_call, h1]
  show fin m ((g us st1).bind _) = _
  rw [h2]
  rfl
theorem set_call {g : FD} {as : FA} {env : Sl} {st st1 st2 : Store} {us : List U} {xs : List D} {i : Nat} (h1 : as env st = .ok us st1) (h2 : g us st1 = .ok (.box (.lst xs)) st2) : sSet i (fCall g as) env st = .ok (.nx (env.set i (some (.d (.lst xs))))) st2 := by
  rw [q_set, q_uE, q_call, h1]
  show ((g us st1).bind _).bind _ = _
  rw [h2]
  rfl
end G
namespace K58
open PySem PySem.Spec PyProof.Rows L2 G
theorem cup_is : G__law_cup = cupG 337 1117 103963 1048576 := rfl
theorem roll_is : G__law_roll = rollG 26417 61153 1048576 157 := rfl
theorem like_is : ∀ n, G__law_like n = likeG n
  | 0 => rfl
  | n + 1 => by
    have ih := like_is n
    rw [G__law_like, likeG, ih]
    rfl
def madeL (n : Int) : List D := (["InvalidNumber", "InvalidWord", "InvalidTree", "InvalidTrace", "InvalidMap", "InvalidTable", "InvalidText", "InvalidName", "InvalidSort", "InvalidSet", "InvalidRoute", "InvalidRow", "InvalidGroup", "InvalidOrder", "InvalidWeb", "InvalidOctets", "InvalidCode", "InvalidBundle", "NotFound", "NotNow"].map fun c => D.exo (PySem.Str.ofString c) "" []) ++ [.exo "BadText" "at" [.int n], .exo "TooMany" "limit" [.int n]]
theorem made_spec (t : Str) (n : Int) (c : Cell) : G__law_made [.d (.str t), .d (.int n)] [c] = .ok (.box (.lst (madeL n))) [c] := by kernel_rfl
theorem for_right (t : Str) (n : Int) (c : Cell) : sFor (iEnum (aCons (fVar 2) aNil)) (gT 2 (gsCons (gN 3) (gsCons (gN 4) gsNil))) G__law_right_b1 [some (.d (.str t)), some (.d (.int n)), some (.d (.lst (madeL n))), none, none, none] [c] =
    .ok (.nx [some (.d (.str t)), some (.d (.int n)), some (.d (.lst (madeL n))), some (.d (.int 21)), some (.d (.exo "TooMany" "limit" [.int n])), none]) [c] := by kernel_rfl
theorem right_spec (t : Str) (n : Int) (c : Cell) : G__law_right [.d (.str t), .d (.int n)] [c] = .ok (.u (.d (.bl true))) [c] := by
  unfold G__law_right
  refine mk_is rfl ?_
  refine fin_seq (env' := [some (.d (.str t)), some (.d (.int n)), some (.d (.lst (madeL n))), none, none, none]) (st' := [c]) ?_ ?_
  · exact set_call (us := [.d (.str t), .d (.int n)]) (by kernel_rfl) (made_spec t n c)
  · refine fin_seq (for_right t n c) ?_
    have h := like_self 3 (.lst [.int n, .int n]) [c] (by rfl)
    rw [← like_is] at h
    exact fin_call (us := [.d (.lst [.int n, .int n]), .d (.lst [.int n, .int n])]) (st1 := [c]) (by kernel_rfl) h
theorem rg_sing {a b : Int} {k : Int} (h : 0 < k) (h2 : k < 1073741824) (ha : 0 ≤ a) : ∃ r a' b' : Int, 0 ≤ r ∧ r < k ∧ 0 ≤ a' ∧ G__law_roll [.ref 0, .d (.int k)] [cupD a b] = .ok (.u (.d (.int r))) [cupD a' b'] := by
  rw [roll_is]
  exact roll_spec (by decide) (by decide) (by decide) (by decide) h h2 (n := 0) (st := [cupD a b]) ha rfl
theorem letter (r : Int) (h0 : 0 ≤ r) (h1 : r < 5) : ∃ x : Str, x.length ≤ 1 ∧ gIx (.tup [.str "a", .str "b", .str " ", .str "0", .str ""]) (.int r) = some (.u (.d (.str x))) := by
  have : r = 0 ∨ r = 1 ∨ r = 2 ∨ r = 3 ∨ r = 4 := by omega
  rcases this with rfl | rfl | rfl | rfl | rfl
  · exact ⟨"a", by decide, rfl⟩
  · exact ⟨"b", by decide, rfl⟩
  · exact ⟨" ", by decide, rfl⟩
  · exact ⟨"0", by decide, rfl⟩
  · exact ⟨"", by decide, rfl⟩
theorem letters {e0 e1 e3 e4 e5 : Option U} : ∀ (items : List D) (a b : Int), 0 ≤ a → ∃ (xs : List Str) (a' b' : Int), 0 ≤ a' ∧ xs.length = items.length ∧ (∀ x ∈ xs, x.length ≤ 1) ∧
    lcL (gN 6) tYesF G_law_e1 [e0, e1, some (.ref 0), e3, e4, e5, none] items [cupD a b] = .ok (xs.map D.str) [cupD a' b']
  | [], a, b, ha => ⟨[], a, b, ha, rfl, by simp, rfl⟩
  | d :: r, a, b, ha => by
    obtain ⟨k, a1, b1, k0, k1, ha1, hr⟩ := rg_sing (a := a) (b := b) (k := 5) (by decide) (by decide) ha
    obtain ⟨x, hx, hg⟩ := letter k k0 k1
    obtain ⟨xs, a2, b2, ha2, hl, hxs, e⟩ := letters (e0 := e0) (e1 := e1) (e3 := e3) (e4 := e4) (e5 := e5) r a1 b1 ha1
    refine ⟨x :: xs, a2, b2, ha2, by simp [hl], fun y hy => ?_, ?_⟩
    · rcases List.mem_cons.mp hy with rfl | hy
      · exact hx
      · exact hxs y hy
    · have he : uE G_law_e1 [e0, e1, some (.ref 0), e3, e4, e5, some (.d d)] [cupD a b] = .ok (.d (.str x)) [cupD a1 b1] := by simp [G_law_e1, hr, hg]
      simp [-q_uE, lcL, he, e]
theorem allStr_map : ∀ xs : List Str, allStr (xs.map D.str) = some xs
  | [] => rfl
  | x :: r => by simp [allStr, allStr_map r]
theorem sum_le : ∀ {xs : List Str}, (∀ x ∈ xs, x.length ≤ 1) → (xs.map (·.length)).sum ≤ xs.length
  | [], _ => by simp
  | x :: r, h => by
    have h1 := h x (List.mem_cons_self ..)
    have h2 := sum_le (xs := r) fun y hy => h y (List.mem_cons_of_mem _ hy)
    simp only [List.map_cons, List.sum_cons, List.length_cons]
    omega
theorem join_ok {xs : List Str} (h : ∀ x ∈ xs, x.length ≤ 1) (hl : xs.length ≤ 8) : gJoin "" (.lst (xs.map D.str)) = some (.u (.d (.str (Txt.join "" xs)))) := by
  have s := sum_le h
  have z : ("" : Str).length = 0 := rfl
  simp only [gJoin, joinD, allStr_map, Option.bind_some]
  rw [if_pos]
  rw [z]
  omega
theorem rangeD_len {lo : Int} {n : Nat} : (rangeD lo n).length = n := by simp [rangeD]
theorem turn {e0 e1 e4 e5 e6 : Option U} (d : D) (a b : Int) (ha : 0 ≤ a) : ∃ (u : U) (a' b' : Int), 0 ≤ a' ∧ G_law_b1 [e0, e1, some (.ref 0), some (.d d), e4, e5, e6] [cupD a b] = .ok (.nx [e0, e1, some (.ref 0), some (.d d), some u, e5, e6]) [cupD a' b'] := by
  obtain ⟨k, a1, b1, k0, k1, ha1, hr⟩ := rg_sing (a := a) (b := b) (k := 9) (by decide) (by decide) ha
  obtain ⟨xs, a2, b2, ha2, hl, hxs, e⟩ := letters (e0 := e0) (e1 := e1) (e3 := some (.d d)) (e4 := e4) (e5 := e5) (rangeD 0 k.toNat) a1 b1 ha1
  rw [rangeD_len] at hl
  have hj := join_ok hxs (by omega)
  obtain ⟨m, a3, b3, m0, m1, ha3, hr2⟩ := rg_sing (a := a2) (b := b2) (k := 5000) (by decide) (by decide) ha2
  have hb1 : -B62 ≤ k ∧ k < B62 := by
    have : B62 = 4611686018427387904 := rfl
    omega
  have hb2 : (rangeD 0 k.toNat).length ≤ LIM := by
    rw [rangeD_len]
    show _ ≤ 16777216
    omega
  have hright := right_spec (Txt.join "" xs) m (cupD a3 b3)
  refine ⟨.d (.str (Txt.join "" xs)), a3, b3, ha3, ?_⟩
  simp [G_law_b1, fM1, fLc, iRange, hr, hb1, hb2, wipeE, e, hj, hr2, hright]
theorem turns {e0 e1 e5 e6 : Option U} : ∀ (items : List D) (e3 e4 : Option U) (a b : Int), 0 ≤ a → ∃ (env' : Sl) (a' b' : Int), forL (gN 3) G_law_b1 items [e0, e1, some (.ref 0), e3, e4, e5, e6] [cupD a b] = .ok (.nx env') [cupD a' b']
  | [], e3, e4, a, b, ha => ⟨_, a, b, rfl⟩
  | d :: r, e3, e4, a, b, ha => by
    obtain ⟨u, a1, b1, ha1, h⟩ := turn (e0 := e0) (e1 := e1) (e4 := e4) (e5 := e5) (e6 := e6) d a b ha
    obtain ⟨env', a2, b2, h2⟩ := turns (e0 := e0) (e1 := e1) (e5 := e5) (e6 := e6) r (some (.d d)) (some u) a1 b1 ha1
    exact ⟨env', a2, b2, by simp [forL, h, h2]⟩
theorem law_spec (ns : List Int) (hl : ns.length ≤ 63) : ∃ st', G_law [.d (.scr (ns.map D.int))] [] = .ok (.u (.d (.bl true))) st' := by
  obtain ⟨a, b, ha, hc⟩ := cup_spec (c3 := 337) (c4 := 1117) (c5 := 103963) (c6 := 1048576) (by decide) (by decide) (by decide) (by decide) ns hl []
  obtain ⟨env', a', b', ht⟩ := turns (e0 := some (.d (.scr (ns.map D.int)))) (e1 := some (.d (.exo "TraceError" "" []))) (e5 := none) (e6 := none) (rangeD 0 4) none none a b ha
  refine ⟨[], ?_⟩
  unfold G_law
  refine mk_is rfl ?_
  refine fin_seq (env' := [some (.d (.scr (ns.map D.int))), some (.d (.exo "TraceError" "" [])), none, none, none, none, none]) (st' := []) (by kernel_rfl) ?_
  refine fin_seq (env' := [some (.d (.scr (ns.map D.int))), some (.d (.exo "TraceError" "" [])), none, none, none, none, none]) (st' := []) (by kernel_rfl) ?_
  refine fin_seq (env' := [some (.d (.scr (ns.map D.int))), some (.d (.exo "TraceError" "" [])), some (.ref 0), none, none, none, none]) (st' := [cupD a b]) (by rw [cup_is]; simp [hc]) ?_
  refine fin_seq (env' := env') (st' := [cupD a' b']) ?_ rfl
  exact ht
end K58

set_option maxHeartbeats 4000000
namespace K58
open PySem PySem.Spec PyProof.Rows L2 G
set_option maxHeartbeats 0 in
theorem all_mk {l : PySem.W.OpenLaw} {w : World} {K : PySem.W.Frag} {h : Heap} {mg : Str → Option Value} {fa f1 f2 f3 f4 f5 f6 f7 f8 : Addr} (X : K.In h) (hG : h.Ns mainGlobals mg) (hfa : mg "law" = some (.ref fa))
    {od1 od2 od3 od4 od5 od6 od7 od8 an1 an2 an3 an4 an5 an6 an7 an8 : Option Addr} {sl1 sl2 sl3 sl4 sl5 sl6 sl7 sl8 : Array (Option Value)} {oc1 oc2 oc3 oc4 oc5 oc6 oc7 oc8 kV1 kV2 kV3 kV4 kV5 kV6 kV7 kV8 dc1 dc2 dc3 dc4 dc5 dc6 dc7 dc8 pm1 pm2 pm3 pm4 pm5 pm6 pm7 pm8 cd1 cd2 cd3 cd4 cd5 cd6 cd7 cd8 ct1 ct2 ct3 ct4 ct5 ct6 ct7 ct8 : Value}
    (a1 : PySem.W.nsIn K mainGlobals "_law_signs" = some (some (.ref f1))) (l1 : K.lookup f1 = some ⟨oc1, od1, .func (PySem.W.fnOf "_law_signs" "_law_signs" (defArgs s__law_signs) (defBody s__law_signs) (defScope s__law_signs) .none kV1 dc1 pm1 an1 cd1 ct1), sl1⟩) (c1 : PySem.W.codeIn K cd1 "_law_signs" = true) (k1 : PySem.W.keepIn K (.ref f1) = true)
    (a2 : PySem.W.nsIn K mainGlobals "_law_cup" = some (some (.ref f2))) (l2 : K.lookup f2 = some ⟨oc2, od2, .func (PySem.W.fnOf "_law_cup" "_law_cup" (defArgs s__law_cup) (defBody s__law_cup) (defScope s__law_cup) .none kV2 dc2 pm2 an2 cd2 ct2), sl2⟩) (c2 : PySem.W.codeIn K cd2 "_law_cup" = true) (k2 : PySem.W.keepIn K (.ref f2) = true)
    (a3 : PySem.W.nsIn K mainGlobals "_law_roll" = some (some (.ref f3))) (l3 : K.lookup f3 = some ⟨oc3, od3, .func (PySem.W.fnOf "_law_roll" "_law_roll" (defArgs s__law_roll) (defBody s__law_roll) (defScope s__law_roll) .none kV3 dc3 pm3 an3 cd3 ct3), sl3⟩) (c3 : PySem.W.codeIn K cd3 "_law_roll" = true) (k3 : PySem.W.keepIn K (.ref f3) = true)
    (a4 : PySem.W.nsIn K mainGlobals "_law_made" = some (some (.ref f4))) (l4 : K.lookup f4 = some ⟨oc4, od4, .func (PySem.W.fnOf "_law_made" "_law_made" (defArgs s__law_made) (defBody s__law_made) (defScope s__law_made) .none kV4 dc4 pm4 an4 cd4 ct4), sl4⟩) (c4 : PySem.W.codeIn K cd4 "_law_made" = true) (k4 : PySem.W.keepIn K (.ref f4) = true)
    (a5 : PySem.W.nsIn K mainGlobals "_law_sort" = some (some (.ref f5))) (l5 : K.lookup f5 = some ⟨oc5, od5, .func (PySem.W.fnOf "_law_sort" "_law_sort" (defArgs s__law_sort) (defBody s__law_sort) (defScope s__law_sort) .none kV5 dc5 pm5 an5 cd5 ct5), sl5⟩) (c5 : PySem.W.codeIn K cd5 "_law_sort" = true) (k5 : PySem.W.keepIn K (.ref f5) = true)
    (a6 : PySem.W.nsIn K mainGlobals "_law_like" = some (some (.ref f6))) (l6 : K.lookup f6 = some ⟨oc6, od6, .func (PySem.W.fnOf "_law_like" "_law_like" (defArgs s__law_like) (defBody s__law_like) (defScope s__law_like) .none kV6 dc6 pm6 an6 cd6 ct6), sl6⟩) (c6 : PySem.W.codeIn K cd6 "_law_like" = true) (k6 : PySem.W.keepIn K (.ref f6) = true)
    (a7 : PySem.W.nsIn K mainGlobals "_law_right" = some (some (.ref f7))) (l7 : K.lookup f7 = some ⟨oc7, od7, .func (PySem.W.fnOf "_law_right" "_law_right" (defArgs s__law_right) (defBody s__law_right) (defScope s__law_right) .none kV7 dc7 pm7 an7 cd7 ct7), sl7⟩) (c7 : PySem.W.codeIn K cd7 "_law_right" = true) (k7 : PySem.W.keepIn K (.ref f7) = true)
    (a8 : PySem.W.nsIn K mainGlobals "law" = some (some (.ref f8))) (l8 : K.lookup f8 = some ⟨oc8, od8, .func (PySem.W.fnOf "law" "law" (defArgs s_law) (defBody s_law) (defScope s_law) .none kV8 dc8 pm8 an8 cd8 ct8), sl8⟩) (c8 : PySem.W.codeIn K cd8 "law" = true) (k8 : PySem.W.keepIn K (.ref f8) = true)
    (z_ValueError : PySem.W.nsIn K mainGlobals "ValueError" = some none)
    (z_abs : PySem.W.nsIn K mainGlobals "abs" = some none)
    (z_bool : PySem.W.nsIn K mainGlobals "bool" = some none)
    (z_enumerate : PySem.W.nsIn K mainGlobals "enumerate" = some none)
    (z_int : PySem.W.nsIn K mainGlobals "int" = some none)
    (z_isinstance : PySem.W.nsIn K mainGlobals "isinstance" = some none)
    (z_len : PySem.W.nsIn K mainGlobals "len" = some none)
    (z_list : PySem.W.nsIn K mainGlobals "list" = some none)
    (z_range : PySem.W.nsIn K mainGlobals "range" = some none)
    (z_str : PySem.W.nsIn K mainGlobals "str" = some none)
    (z_tuple : PySem.W.nsIn K mainGlobals "tuple" = some none)
    (z_zip : PySem.W.nsIn K mainGlobals "zip" = some none)
    {C_TraceError C_InvalidNumber C_InvalidWord C_InvalidTree C_InvalidTrace C_InvalidMap C_InvalidTable C_InvalidText C_InvalidName C_InvalidSort C_InvalidSet C_InvalidRoute C_InvalidRow C_InvalidGroup C_InvalidOrder C_InvalidWeb C_InvalidOctets C_InvalidCode C_InvalidBundle C_NotFound C_NotNow C_BadText C_TooMany : Addr}
    (y_TraceError : PySem.W.nsIn K mainGlobals "TraceError" = some (some (.ref C_TraceError)))
    (y_InvalidNumber : PySem.W.nsIn K mainGlobals "InvalidNumber" = some (some (.ref C_InvalidNumber)))
    (y_InvalidWord : PySem.W.nsIn K mainGlobals "InvalidWord" = some (some (.ref C_InvalidWord)))
    (y_InvalidTree : PySem.W.nsIn K mainGlobals "InvalidTree" = some (some (.ref C_InvalidTree)))
    (y_InvalidTrace : PySem.W.nsIn K mainGlobals "InvalidTrace" = some (some (.ref C_InvalidTrace)))
    (y_InvalidMap : PySem.W.nsIn K mainGlobals "InvalidMap" = some (some (.ref C_InvalidMap)))
    (y_InvalidTable : PySem.W.nsIn K mainGlobals "InvalidTable" = some (some (.ref C_InvalidTable)))
    (y_InvalidText : PySem.W.nsIn K mainGlobals "InvalidText" = some (some (.ref C_InvalidText)))
    (y_InvalidName : PySem.W.nsIn K mainGlobals "InvalidName" = some (some (.ref C_InvalidName)))
    (y_InvalidSort : PySem.W.nsIn K mainGlobals "InvalidSort" = some (some (.ref C_InvalidSort)))
    (y_InvalidSet : PySem.W.nsIn K mainGlobals "InvalidSet" = some (some (.ref C_InvalidSet)))
    (y_InvalidRoute : PySem.W.nsIn K mainGlobals "InvalidRoute" = some (some (.ref C_InvalidRoute)))
    (y_InvalidRow : PySem.W.nsIn K mainGlobals "InvalidRow" = some (some (.ref C_InvalidRow)))
    (y_InvalidGroup : PySem.W.nsIn K mainGlobals "InvalidGroup" = some (some (.ref C_InvalidGroup)))
    (y_InvalidOrder : PySem.W.nsIn K mainGlobals "InvalidOrder" = some (some (.ref C_InvalidOrder)))
    (y_InvalidWeb : PySem.W.nsIn K mainGlobals "InvalidWeb" = some (some (.ref C_InvalidWeb)))
    (y_InvalidOctets : PySem.W.nsIn K mainGlobals "InvalidOctets" = some (some (.ref C_InvalidOctets)))
    (y_InvalidCode : PySem.W.nsIn K mainGlobals "InvalidCode" = some (some (.ref C_InvalidCode)))
    (y_InvalidBundle : PySem.W.nsIn K mainGlobals "InvalidBundle" = some (some (.ref C_InvalidBundle)))
    (y_NotFound : PySem.W.nsIn K mainGlobals "NotFound" = some (some (.ref C_NotFound)))
    (y_NotNow : PySem.W.nsIn K mainGlobals "NotNow" = some (some (.ref C_NotNow)))
    (y_BadText : PySem.W.nsIn K mainGlobals "BadText" = some (some (.ref C_BadText)))
    (y_TooMany : PySem.W.nsIn K mainGlobals "TooMany" = some (some (.ref C_TooMany)))
    (x_TraceError : ex0B K "TraceError" C_TraceError = true)
    (x_InvalidNumber : ex0B K "InvalidNumber" C_InvalidNumber = true)
    (x_InvalidWord : ex0B K "InvalidWord" C_InvalidWord = true)
    (x_InvalidTree : ex0B K "InvalidTree" C_InvalidTree = true)
    (x_InvalidTrace : ex0B K "InvalidTrace" C_InvalidTrace = true)
    (x_InvalidMap : ex0B K "InvalidMap" C_InvalidMap = true)
    (x_InvalidTable : ex0B K "InvalidTable" C_InvalidTable = true)
    (x_InvalidText : ex0B K "InvalidText" C_InvalidText = true)
    (x_InvalidName : ex0B K "InvalidName" C_InvalidName = true)
    (x_InvalidSort : ex0B K "InvalidSort" C_InvalidSort = true)
    (x_InvalidSet : ex0B K "InvalidSet" C_InvalidSet = true)
    (x_InvalidRoute : ex0B K "InvalidRoute" C_InvalidRoute = true)
    (x_InvalidRow : ex0B K "InvalidRow" C_InvalidRow = true)
    (x_InvalidGroup : ex0B K "InvalidGroup" C_InvalidGroup = true)
    (x_InvalidOrder : ex0B K "InvalidOrder" C_InvalidOrder = true)
    (x_InvalidWeb : ex0B K "InvalidWeb" C_InvalidWeb = true)
    (x_InvalidOctets : ex0B K "InvalidOctets" C_InvalidOctets = true)
    (x_InvalidCode : ex0B K "InvalidCode" C_InvalidCode = true)
    (x_InvalidBundle : ex0B K "InvalidBundle" C_InvalidBundle = true)
    (x_NotFound : ex0B K "NotFound" C_NotFound = true)
    (x_NotNow : ex0B K "NotNow" C_NotNow = true)
    {fI_BadText cda_BadText cc_BadText : Addr} {file_BadText : Str} {nm_BadText : Str} {bm_BadText : List Value} {bs_BadText sub_BadText : List Value} {ab_BadText : Bool} {col_BadText : Option Bool} {dd_BadText : Option Addr} {k0_BadText k1_BadText k2_BadText k3_BadText k5_BadText : Option Value}
    {sn_BadText : List Str} {q_BadText : Str} {N_BadText : Addr} {oc_BadText doc_BadText pm_BadText ct_BadText ccl_BadText cl_BadText : Value} {od_BadText an_BadText cdd_BadText cld_BadText : Option Addr} {osl_BadText ccs_BadText csl_BadText : Array (Option Value)} {vs_BadText : Array Value} {tf_BadText : Tok}
    (xc_BadText : K.lookup C_BadText = some (excClassObj nm_BadText q_BadText C_BadText N_BadText bs_BadText bm_BadText true sn_BadText sub_BadText ab_BadText col_BadText dd_BadText k0_BadText k1_BadText k2_BadText k3_BadText k5_BadText "ValueError.__new__")) (xr_BadText : PySem.HandSPX.refsVE bm_BadText = true)
    (iC_BadText : PySem.W.findIn K (.ref C_BadText) "__init__" = some (some (.ref fI_BadText)))
    (xf_BadText : K.lookup fI_BadText = some ⟨oc_BadText, od_BadText, .func (PySem.W.ksFn "__init__" "BadText.__init__" (PySem.W.supA "at" ⟨46, 17, 46, 21⟩ ⟨46, 23, 46, 25⟩) (PySem.W.supB "at" "at" ⟨47, 8, 47, 13⟩ ⟨47, 8, 47, 15⟩ ⟨47, 8, 47, 24⟩ ⟨47, 25, 47, 27⟩ ⟨47, 8, 47, 28⟩ ⟨47, 8, 47, 28⟩ ⟨48, 8, 48, 12⟩ ⟨48, 8, 48, 15⟩ ⟨48, 18, 48, 20⟩ ⟨48, 8, 48, 20⟩) (PySem.W.supS "at") .none .none doc_BadText pm_BadText an_BadText (.ref cda_BadText) ct_BadText cc_BadText), osl_BadText⟩)
    (xk_BadText : K.lookup cda_BadText = some ⟨ccl_BadText, cdd_BadText, .fields vs_BadText, ccs_BadText⟩) (xv_BadText : vs_BadText[2]? = some (.str file_BadText tf_BadText)) (xw_BadText : ((l.prog.main.file : Str) == file_BadText) = true) (xl_BadText : K.lookup cc_BadText = some ⟨cl_BadText, cld_BadText, .cell (some (.ref C_BadText)), csl_BadText⟩)
    (xb_BadText : supBB K C_BadText fI_BadText "at" cda_BadText "BadText.__init__" = true)
    {fI_TooMany cda_TooMany cc_TooMany : Addr} {file_TooMany : Str} {nm_TooMany : Str} {bm_TooMany : List Value} {bs_TooMany sub_TooMany : List Value} {ab_TooMany : Bool} {col_TooMany : Option Bool} {dd_TooMany : Option Addr} {k0_TooMany k1_TooMany k2_TooMany k3_TooMany k5_TooMany : Option Value}
    {sn_TooMany : List Str} {q_TooMany : Str} {N_TooMany : Addr} {oc_TooMany doc_TooMany pm_TooMany ct_TooMany ccl_TooMany cl_TooMany : Value} {od_TooMany an_TooMany cdd_TooMany cld_TooMany : Option Addr} {osl_TooMany ccs_TooMany csl_TooMany : Array (Option Value)} {vs_TooMany : Array Value} {tf_TooMany : Tok}
    (xc_TooMany : K.lookup C_TooMany = some (excClassObj nm_TooMany q_TooMany C_TooMany N_TooMany bs_TooMany bm_TooMany true sn_TooMany sub_TooMany ab_TooMany col_TooMany dd_TooMany k0_TooMany k1_TooMany k2_TooMany k3_TooMany k5_TooMany "ValueError.__new__")) (xr_TooMany : PySem.HandSPX.refsVE bm_TooMany = true)
    (iC_TooMany : PySem.W.findIn K (.ref C_TooMany) "__init__" = some (some (.ref fI_TooMany)))
    (xf_TooMany : K.lookup fI_TooMany = some ⟨oc_TooMany, od_TooMany, .func (PySem.W.ksFn "__init__" "TooMany.__init__" (PySem.W.supA "limit" ⟨51, 17, 51, 21⟩ ⟨51, 23, 51, 28⟩) (PySem.W.supB "limit" "limit" ⟨52, 8, 52, 13⟩ ⟨52, 8, 52, 15⟩ ⟨52, 8, 52, 24⟩ ⟨52, 25, 52, 30⟩ ⟨52, 8, 52, 31⟩ ⟨52, 8, 52, 31⟩ ⟨53, 8, 53, 12⟩ ⟨53, 8, 53, 18⟩ ⟨53, 21, 53, 26⟩ ⟨53, 8, 53, 26⟩) (PySem.W.supS "limit") .none .none doc_TooMany pm_TooMany an_TooMany (.ref cda_TooMany) ct_TooMany cc_TooMany), osl_TooMany⟩)
    (xk_TooMany : K.lookup cda_TooMany = some ⟨ccl_TooMany, cdd_TooMany, .fields vs_TooMany, ccs_TooMany⟩) (xv_TooMany : vs_TooMany[2]? = some (.str file_TooMany tf_TooMany)) (xw_TooMany : ((l.prog.main.file : Str) == file_TooMany) = true) (xl_TooMany : K.lookup cc_TooMany = some ⟨cl_TooMany, cld_TooMany, .cell (some (.ref C_TooMany)), csl_TooMany⟩)
    (xb_TooMany : supBB K C_TooMany fI_TooMany "limit" cda_TooMany "TooMany.__init__" = true)
    (z_super : PySem.W.nsIn K mainGlobals "super" = some none) (htop : (l.prog.main.scope.names.lookup ("super" : Str)).isSome = false)
    (eb : errB K eBase [("TraceError", C_TraceError), ("InvalidNumber", C_InvalidNumber), ("InvalidWord", C_InvalidWord), ("InvalidTree", C_InvalidTree), ("InvalidTrace", C_InvalidTrace), ("InvalidMap", C_InvalidMap), ("InvalidTable", C_InvalidTable), ("InvalidText", C_InvalidText), ("InvalidName", C_InvalidName), ("InvalidSort", C_InvalidSort), ("InvalidSet", C_InvalidSet), ("InvalidRoute", C_InvalidRoute), ("InvalidRow", C_InvalidRow), ("InvalidGroup", C_InvalidGroup), ("InvalidOrder", C_InvalidOrder), ("InvalidWeb", C_InvalidWeb), ("InvalidOctets", C_InvalidOctets), ("InvalidCode", C_InvalidCode), ("InvalidBundle", C_InvalidBundle), ("NotFound", C_NotFound), ("NotNow", C_NotNow), ("BadText", C_BadText), ("TooMany", C_TooMany)] = true)
    (fb : fldB K [("BadText", "at", C_BadText), ("TooMany", "limit", C_TooMany)] = true)
    : ∃ fd : FuncData, (∀ (s : Shared) (v : Value), BindsTo s fd ⟨[v], []⟩ [("script", v)]) ∧ ∀ base : Heap, K.In base → base.Ns mainGlobals mg → FnOk l.prog w K mg base (L2.CX l.prog w) 7 fa fd ["script"] (spLaw K) := by
  have e := hfa.symm.trans (PySem.W.mg_of X hG a8)
  cases e
  let T : Tab l.prog K mg := {
    d__law_signs := ⟨f1, _, PySem.W.mg_of X hG a1, fun_mk (st := s__law_signs) l1 c1 k1, (fun_mk (st := s__law_signs) l1 c1 k1).binds (ps := ["e"]) fun _ _ _ _ _ _ us hl => match us, hl with | [_], _ => rfl⟩,
    d__law_cup := ⟨f2, _, PySem.W.mg_of X hG a2, fun_mk (st := s__law_cup) l2 c2 k2, (fun_mk (st := s__law_cup) l2 c2 k2).binds (ps := ["script"]) fun _ _ _ _ _ _ us hl => match us, hl with | [_], _ => rfl⟩,
    d__law_roll := ⟨f3, _, PySem.W.mg_of X hG a3, fun_mk (st := s__law_roll) l3 c3 k3, (fun_mk (st := s__law_roll) l3 c3 k3).binds (ps := ["cup", "many"]) fun _ _ _ _ _ _ us hl => match us, hl with | [_, _], _ => rfl⟩,
    d__law_made := ⟨f4, _, PySem.W.mg_of X hG a4, fun_mk (st := s__law_made) l4 c4 k4, (fun_mk (st := s__law_made) l4 c4 k4).binds (ps := ["text", "number"]) fun _ _ _ _ _ _ us hl => match us, hl with | [_, _], _ => rfl⟩,
    d__law_sort := ⟨f5, _, PySem.W.mg_of X hG a5, fun_mk (st := s__law_sort) l5 c5 k5, (fun_mk (st := s__law_sort) l5 c5 k5).binds (ps := ["value"]) fun _ _ _ _ _ _ us hl => match us, hl with | [_], _ => rfl⟩,
    d__law_like := ⟨f6, _, PySem.W.mg_of X hG a6, fun_mk (st := s__law_like) l6 c6 k6, (fun_mk (st := s__law_like) l6 c6 k6).binds (ps := ["one", "other"]) fun _ _ _ _ _ _ us hl => match us, hl with | [_, _], _ => rfl⟩,
    d__law_right := ⟨f7, _, PySem.W.mg_of X hG a7, fun_mk (st := s__law_right) l7 c7 k7, (fun_mk (st := s__law_right) l7 c7 k7).binds (ps := ["text", "number"]) fun _ _ _ _ _ _ us hl => match us, hl with | [_, _], _ => rfl⟩,
    d_law := ⟨fa, _, PySem.W.mg_of X hG a8, fun_mk (st := s_law) l8 c8 k8, (fun_mk (st := s_law) l8 c8 k8).binds (ps := ["script"]) fun _ _ _ _ _ _ us hl => match us, hl with | [_], _ => rfl⟩,
    z_ValueError := PySem.W.mg_none_of X hG z_ValueError,
    z_abs := PySem.W.mg_none_of X hG z_abs,
    z_bool := PySem.W.mg_none_of X hG z_bool,
    z_enumerate := PySem.W.mg_none_of X hG z_enumerate,
    z_int := PySem.W.mg_none_of X hG z_int,
    z_isinstance := PySem.W.mg_none_of X hG z_isinstance,
    z_len := PySem.W.mg_none_of X hG z_len,
    z_list := PySem.W.mg_none_of X hG z_list,
    z_range := PySem.W.mg_none_of X hG z_range,
    z_str := PySem.W.mg_none_of X hG z_str,
    z_tuple := PySem.W.mg_none_of X hG z_tuple,
    z_zip := PySem.W.mg_none_of X hG z_zip,
    e_TraceError := ⟨C_TraceError, ex0_of X hG x_TraceError⟩,
    e_InvalidNumber := ⟨C_InvalidNumber, ex0_of X hG x_InvalidNumber⟩,
    e_InvalidWord := ⟨C_InvalidWord, ex0_of X hG x_InvalidWord⟩,
    e_InvalidTree := ⟨C_InvalidTree, ex0_of X hG x_InvalidTree⟩,
    e_InvalidTrace := ⟨C_InvalidTrace, ex0_of X hG x_InvalidTrace⟩,
    e_InvalidMap := ⟨C_InvalidMap, ex0_of X hG x_InvalidMap⟩,
    e_InvalidTable := ⟨C_InvalidTable, ex0_of X hG x_InvalidTable⟩,
    e_InvalidText := ⟨C_InvalidText, ex0_of X hG x_InvalidText⟩,
    e_InvalidName := ⟨C_InvalidName, ex0_of X hG x_InvalidName⟩,
    e_InvalidSort := ⟨C_InvalidSort, ex0_of X hG x_InvalidSort⟩,
    e_InvalidSet := ⟨C_InvalidSet, ex0_of X hG x_InvalidSet⟩,
    e_InvalidRoute := ⟨C_InvalidRoute, ex0_of X hG x_InvalidRoute⟩,
    e_InvalidRow := ⟨C_InvalidRow, ex0_of X hG x_InvalidRow⟩,
    e_InvalidGroup := ⟨C_InvalidGroup, ex0_of X hG x_InvalidGroup⟩,
    e_InvalidOrder := ⟨C_InvalidOrder, ex0_of X hG x_InvalidOrder⟩,
    e_InvalidWeb := ⟨C_InvalidWeb, ex0_of X hG x_InvalidWeb⟩,
    e_InvalidOctets := ⟨C_InvalidOctets, ex0_of X hG x_InvalidOctets⟩,
    e_InvalidCode := ⟨C_InvalidCode, ex0_of X hG x_InvalidCode⟩,
    e_InvalidBundle := ⟨C_InvalidBundle, ex0_of X hG x_InvalidBundle⟩,
    e_NotFound := ⟨C_NotFound, ex0_of X hG x_NotFound⟩,
    e_NotNow := ⟨C_NotNow, ex0_of X hG x_NotNow⟩,
    e_BadText := ⟨C_BadText, PySem.W.mg_of X hG y_BadText, PySem.W.mg_none_of X hG z_super, fI_BadText, "at", sup_of xc_BadText xr_BadText iC_BadText xb_BadText  htop (by decide) ⟨_, _, _, _, _, _, _, _, _, _, _, _, _, _, _, _, _, _, _, _, _, _, _, _, _, _, _, _, _, _, _, xf_BadText, fun _ _ => rfl, rfl, supC xb_BadText, xk_BadText, xv_BadText, xw_BadText, xl_BadText⟩⟩,
    e_TooMany := ⟨C_TooMany, PySem.W.mg_of X hG y_TooMany, PySem.W.mg_none_of X hG z_super, fI_TooMany, "limit", sup_of xc_TooMany xr_TooMany iC_TooMany xb_TooMany  htop (by decide) ⟨_, _, _, _, _, _, _, _, _, _, _, _, _, _, _, _, _, _, _, _, _, _, _, _, _, _, _, _, _, _, _, xf_TooMany, fun _ _ => rfl, rfl, supC xb_TooMany, xk_TooMany, xv_TooMany, xw_TooMany, xl_TooMany⟩⟩,
    errs := errTab_of X hG [("TraceError", C_TraceError), ("InvalidNumber", C_InvalidNumber), ("InvalidWord", C_InvalidWord), ("InvalidTree", C_InvalidTree), ("InvalidTrace", C_InvalidTrace), ("InvalidMap", C_InvalidMap), ("InvalidTable", C_InvalidTable), ("InvalidText", C_InvalidText), ("InvalidName", C_InvalidName), ("InvalidSort", C_InvalidSort), ("InvalidSet", C_InvalidSet), ("InvalidRoute", C_InvalidRoute), ("InvalidRow", C_InvalidRow), ("InvalidGroup", C_InvalidGroup), ("InvalidOrder", C_InvalidOrder), ("InvalidWeb", C_InvalidWeb), ("InvalidOctets", C_InvalidOctets), ("InvalidCode", C_InvalidCode), ("InvalidBundle", C_InvalidBundle), ("NotFound", C_NotFound), ("NotNow", C_NotNow), ("BadText", C_BadText), ("TooMany", C_TooMany)] eb,
    flds := errFld_of X hG [("BadText", "at", C_BadText), ("TooMany", "limit", C_TooMany)] fb }
  exact ⟨PySem.W.fnOf "law" "law" (defArgs s_law) (defBody s_law) (defScope s_law) .none kV8 dc8 pm8 an8 cd8 ct8, fun s v => .of_eq rfl, fun base _ _ => law_end (g_law (P := l.prog) (w := w) (base := base) T) law_spec⟩
end K58
open PySem PySem.W PyProof.Rows
set_option maxRecDepth 100000 in
set_option maxHeartbeats 0 in
theorem PySem.Challenge.cw_waysretraced_k58_whole_errors_holds : PySem.Challenge.rw_waysretraced_k58_whole_errors.Holds := by
  w_on; o_law; k_head; (case hw => w_witness2)
  k_fill
  refine L2.walk_of (l := PySem.Challenge.rw_waysretraced_k58_whole_errors) (n := 63) (k := 7) (x := "script") (CX := fun w => L2.CX PySem.Challenge.pw_waysretraced_k58_whole_errors w) (sp := fun w => G.spLaw _) rfl (by decide) rfl ⟨rfl, by decide, by decide⟩ (fun w h Y => PySem.W.kIn_of Y) ?F (fun _ _ a ns hl _ hS => ⟨a, ns, rfl, hl, hS, fun _ => rfl⟩) (fun _ _ _ _ _ h => G.cx_no h)
  case F =>
    intro w mg fa h KX hG hmg
    refine' K58.all_mk (l := PySem.Challenge.rw_waysretraced_k58_whole_errors) KX hG hmg ?a1 ?l1 ?c1 ?k1 ?a2 ?l2 ?c2 ?k2 ?a3 ?l3 ?c3 ?k3 ?a4 ?l4 ?c4 ?k4 ?a5 ?l5 ?c5 ?k5 ?a6 ?l6 ?c6 ?k6 ?a7 ?l7 ?c7 ?k7 ?a8 ?l8 ?c8 ?k8 ?z_ValueError ?z_abs ?z_bool ?z_enumerate ?z_int ?z_isinstance ?z_len ?z_list ?z_range ?z_str ?z_tuple ?z_zip ?y_TraceError ?y_InvalidNumber ?y_InvalidWord ?y_InvalidTree ?y_InvalidTrace ?y_InvalidMap ?y_InvalidTable ?y_InvalidText ?y_InvalidName ?y_InvalidSort ?y_InvalidSet ?y_InvalidRoute ?y_InvalidRow ?y_InvalidGroup ?y_InvalidOrder ?y_InvalidWeb ?y_InvalidOctets ?y_InvalidCode ?y_InvalidBundle ?y_NotFound ?y_NotNow ?y_BadText ?y_TooMany ?x_TraceError ?x_InvalidNumber ?x_InvalidWord ?x_InvalidTree ?x_InvalidTrace ?x_InvalidMap ?x_InvalidTable ?x_InvalidText ?x_InvalidName ?x_InvalidSort ?x_InvalidSet ?x_InvalidRoute ?x_InvalidRow ?x_InvalidGroup ?x_InvalidOrder ?x_InvalidWeb ?x_InvalidOctets ?x_InvalidCode ?x_InvalidBundle ?x_NotFound ?x_NotNow ?xc_BadText ?xr_BadText ?iC_BadText ?xf_BadText ?xk_BadText ?xv_BadText ?xw_BadText ?xl_BadText ?xb_BadText ?xc_TooMany ?xr_TooMany ?iC_TooMany ?xf_TooMany ?xk_TooMany ?xv_TooMany ?xw_TooMany ?xl_TooMany ?xb_TooMany ?z_super ?htop ?eb ?fb
    (case a1 => k_is)
    (case l1 => k_is)
    (case c1 => k_is)
    (case k1 => k_is)
    (case a2 => k_is)
    (case l2 => k_is)
    (case c2 => k_is)
    (case k2 => k_is)
    (case a3 => k_is)
    (case l3 => k_is)
    (case c3 => k_is)
    (case k3 => k_is)
    (case a4 => k_is)
    (case l4 => k_is)
    (case c4 => k_is)
    (case k4 => k_is)
    (case a5 => k_is)
    (case l5 => k_is)
    (case c5 => k_is)
    (case k5 => k_is)
    (case a6 => k_is)
    (case l6 => k_is)
    (case c6 => k_is)
    (case k6 => k_is)
    (case a7 => k_is)
    (case l7 => k_is)
    (case c7 => k_is)
    (case k7 => k_is)
    (case a8 => k_is)
    (case l8 => k_is)
    (case c8 => k_is)
    (case k8 => k_is)
    (case z_ValueError => k_is)
    (case z_abs => k_is)
    (case z_bool => k_is)
    (case z_enumerate => k_is)
    (case z_int => k_is)
    (case z_isinstance => k_is)
    (case z_len => k_is)
    (case z_list => k_is)
    (case z_range => k_is)
    (case z_str => k_is)
    (case z_tuple => k_is)
    (case z_zip => k_is)
    (case y_TraceError => k_is)
    (case y_InvalidNumber => k_is)
    (case y_InvalidWord => k_is)
    (case y_InvalidTree => k_is)
    (case y_InvalidTrace => k_is)
    (case y_InvalidMap => k_is)
    (case y_InvalidTable => k_is)
    (case y_InvalidText => k_is)
    (case y_InvalidName => k_is)
    (case y_InvalidSort => k_is)
    (case y_InvalidSet => k_is)
    (case y_InvalidRoute => k_is)
    (case y_InvalidRow => k_is)
    (case y_InvalidGroup => k_is)
    (case y_InvalidOrder => k_is)
    (case y_InvalidWeb => k_is)
    (case y_InvalidOctets => k_is)
    (case y_InvalidCode => k_is)
    (case y_InvalidBundle => k_is)
    (case y_NotFound => k_is)
    (case y_NotNow => k_is)
    (case y_BadText => k_is)
    (case y_TooMany => k_is)
    (case x_TraceError => kernel_rfl)
    (case x_InvalidNumber => kernel_rfl)
    (case x_InvalidWord => kernel_rfl)
    (case x_InvalidTree => kernel_rfl)
    (case x_InvalidTrace => kernel_rfl)
    (case x_InvalidMap => kernel_rfl)
    (case x_InvalidTable => kernel_rfl)
    (case x_InvalidText => kernel_rfl)
    (case x_InvalidName => kernel_rfl)
    (case x_InvalidSort => kernel_rfl)
    (case x_InvalidSet => kernel_rfl)
    (case x_InvalidRoute => kernel_rfl)
    (case x_InvalidRow => kernel_rfl)
    (case x_InvalidGroup => kernel_rfl)
    (case x_InvalidOrder => kernel_rfl)
    (case x_InvalidWeb => kernel_rfl)
    (case x_InvalidOctets => kernel_rfl)
    (case x_InvalidCode => kernel_rfl)
    (case x_InvalidBundle => kernel_rfl)
    (case x_NotFound => kernel_rfl)
    (case x_NotNow => kernel_rfl)
    (case xc_BadText => k_is)
    (case xr_BadText => kernel_rfl)
    (case iC_BadText => k_is)
    (case xf_BadText => k_is)
    (case xk_BadText => k_is)
    (case xv_BadText => rfl)
    (case xw_BadText => kernel_rfl)
    (case xl_BadText => k_is)
    (case xb_BadText => kernel_rfl)
    (case xc_TooMany => k_is)
    (case xr_TooMany => kernel_rfl)
    (case iC_TooMany => k_is)
    (case xf_TooMany => k_is)
    (case xk_TooMany => k_is)
    (case xv_TooMany => rfl)
    (case xw_TooMany => kernel_rfl)
    (case xl_TooMany => k_is)
    (case xb_TooMany => kernel_rfl)
    (case z_super => k_is)
    (case htop => kernel_rfl)
    (case eb => kernel_rfl)
    (case fb => kernel_rfl)
