import PyProof.Rows.All
import Wide.All
import OpenK.AllK
import Wide.FinOn
import HandS.ForMost
import HandS.Deep
import HandS.Style
import HandS.Conv
import HandS.Zip
import HandS.Flow
import HandS.Sort
import HandS.SortKw
import HandS.TupAny
import HandS.StrMore
import HandS.StrSplit
import HandS.DictTup
import HandS.DictComp
import HandS.ExcField
import KE.SortKeyHeap
import HandS.IsInst
import HandS.Nested
import KE.SortData
import HandS.SetFor
import HandS.TupSets
import HandS.Strs
import PySem.Challenge.RW_mailwright_k85_numbers_there_are_those_o
set_option Elab.async false
set_option linter.all false
set_option maxRecDepth 100000
/-! Typed readings: a layer over the hand layer in which a def's body is read heap-free, over plain Lean values. -/
namespace M3
open PySem PySem.Spec PyProof.Rows L2

/-! ### values as data -/
class Enc (α : Type) where
  enc : α → PyData
open Enc
instance : Enc Int := ⟨.int⟩
instance : Enc Bool := ⟨.bool⟩
instance : Enc Str := ⟨.str⟩
instance : Enc PyData := ⟨id⟩
instance : Enc Unit := ⟨fun _ => .none⟩
instance {α : Type} [Enc α] : Enc (Option α) := ⟨fun o => match o with | none => .none | some x => enc x⟩
instance {α : Type} [Enc α] : Enc (List α) := ⟨fun l => .list (l.map enc)⟩
instance {α β : Type} [Enc α] [Enc β] : Enc (α × β) := ⟨fun p => .tuple [enc p.1, enc p.2]⟩
/-- a tuple of any length -/
structure Tup (α : Type) where
  l : List α
  deriving DecidableEq, Inhabited
structure T1 (α : Type) where
  a : α
  deriving DecidableEq, Inhabited
structure T3 (α β γ : Type) where
  a : α
  b : β
  c : γ
  deriving DecidableEq, Inhabited
structure T4 (α β γ δ : Type) where
  a : α
  b : β
  c : γ
  d : δ
  deriving DecidableEq, Inhabited
structure T5 (α β γ δ ε : Type) where
  a : α
  b : β
  c : γ
  d : δ
  e : ε
  deriving DecidableEq, Inhabited
instance {α : Type} [Enc α] : Enc (Tup α) := ⟨fun t => .tuple (t.l.map enc)⟩
instance {α : Type} [Enc α] : Enc (T1 α) := ⟨fun t => .tuple [enc t.a]⟩
instance {α β γ : Type} [Enc α] [Enc β] [Enc γ] : Enc (T3 α β γ) := ⟨fun t => .tuple [enc t.a, enc t.b, enc t.c]⟩
instance {α β γ δ : Type} [Enc α] [Enc β] [Enc γ] [Enc δ] : Enc (T4 α β γ δ) := ⟨fun t => .tuple [enc t.a, enc t.b, enc t.c, enc t.d]⟩
instance {α β γ δ ε : Type} [Enc α] [Enc β] [Enc γ] [Enc δ] [Enc ε] : Enc (T5 α β γ δ ε) := ⟨fun t => .tuple [enc t.a, enc t.b, enc t.c, enc t.d, enc t.e]⟩
/-- arguments -/
class Args (α : Type) where
  encs : α → List PyData
open Args
instance : Args Unit := ⟨fun _ => []⟩
instance {α β : Type} [Enc α] [Args β] : Args (α × β) := ⟨fun p => enc p.1 :: encs p.2⟩

/-! ### heaps: what is frozen, what is the world's -/
theorem dp_mono {K : PySem.W.Frag} {H H' : Hp} (e : Same H H') : ∀ {v : V} {d : PyData}, Dp K H v d → Dp K H' v d := by
  intro v d h
  refine Dp.rec (motive_1 := fun v d _ => Dp K H' v d) (motive_2 := fun vs ds _ => DpAll K H' vs ds) ?_ ?_ ?_ ?_ ?_ ?_ ?_ ?_ h
  · exact .non
  · exact fun b => .bl b
  · exact fun i => .int i
  · exact fun x => .str x
  · exact fun hs _ ih => .lst (e.seq hs) ih
  · exact fun hs _ ih => .tup (by
      rcases hs with (h | ⟨o, h⟩) | h
      · exact .inl (.inl (e _ _ h))
      · exact .inl (.inr ⟨o, e _ _ h⟩)
      · exact .inr h) ih
  · exact .nil
  · exact fun _ _ ih1 ih2 => .cons ih1 ih2
theorem dpAll_mono {K : PySem.W.Frag} {H H' : Hp} (e : Same H H') : ∀ {vs : List V} {ds : List PyData}, DpAll K H vs ds → DpAll K H' vs ds
  | _, _, .nil => .nil
  | _, _, .cons h t => .cons (dp_mono e h) (dpAll_mono e t)
theorem dpAll_len {K : PySem.W.Frag} {H : Hp} : ∀ {vs : List V} {ds : List PyData}, DpAll K H vs ds → vs.length = ds.length
  | _, _, .nil => rfl
  | _, _, .cons _ t => congrArg (· + 1) (dpAll_len t)
theorem dpAll_get {K : PySem.W.Frag} {H : Hp} : ∀ {vs : List V} {ds : List PyData} {i : Nat} {d : PyData}, DpAll K H vs ds → ds[i]? = some d → ∃ v, vs[i]? = some v ∧ Dp K H v d
  | _, _, _, _, .nil, e => by simp at e
  | _, _, 0, _, .cons h _, e => by
    simp at e
    subst e
    exact ⟨_, rfl, h⟩
  | _, _, i + 1, d, .cons _ t, e => by
    obtain ⟨v, h1, h2⟩ := dpAll_get (i := i) (d := d) t (by simpa using e)
    exact ⟨v, by simpa using h1, h2⟩
theorem dpAll_getV {K : PySem.W.Frag} {H : Hp} : ∀ {vs : List V} {ds : List PyData} {i : Nat} {v : V}, DpAll K H vs ds → vs[i]? = some v → ∃ d, ds[i]? = some d ∧ Dp K H v d
  | _, _, _, _, .nil, e => by simp at e
  | _, _, 0, _, .cons h _, e => by
    simp at e
    subst e
    exact ⟨_, rfl, h⟩
  | _, _, i + 1, v, .cons _ t, e => by
    obtain ⟨d, h1, h2⟩ := dpAll_getV (i := i) (v := v) t (by simpa using e)
    exact ⟨d, by simpa using h1, h2⟩
theorem dpAll_app {K : PySem.W.Frag} {H : Hp} : ∀ {vs us : List V} {ds es : List PyData}, DpAll K H vs ds → DpAll K H us es → DpAll K H (vs ++ us) (ds ++ es)
  | _, _, _, _, .nil, s => s
  | _, _, _, _, .cons h t, s => .cons h (dpAll_app t s)
theorem dpAll_take {K : PySem.W.Frag} {H : Hp} : ∀ {vs : List V} {ds : List PyData} (n : Nat), DpAll K H vs ds → DpAll K H (vs.take n) (ds.take n)
  | _, _, 0, _ => .nil
  | _, _, _ + 1, .nil => .nil
  | _, _, n + 1, .cons h t => .cons h (dpAll_take n t)
theorem dpAll_drop {K : PySem.W.Frag} {H : Hp} : ∀ {vs : List V} {ds : List PyData} (n : Nat), DpAll K H vs ds → DpAll K H (vs.drop n) (ds.drop n)
  | _, _, 0, h => h
  | _, _, _ + 1, .nil => .nil
  | _, _, n + 1, .cons _ t => dpAll_drop n t
theorem dpAll_set {K : PySem.W.Frag} {H : Hp} {v : V} {d : PyData} (h : Dp K H v d) : ∀ {vs : List V} {ds : List PyData} (n : Nat), DpAll K H vs ds → DpAll K H (vs.set n v) (ds.set n d)
  | _, _, _, .nil => .nil
  | _, _, 0, .cons _ t => .cons h t
  | _, _, n + 1, .cons q t => .cons q (dpAll_set h n t)
theorem dpAll_rev {K : PySem.W.Frag} {H : Hp} : ∀ {vs : List V} {ds : List PyData}, DpAll K H vs ds → DpAll K H vs.reverse ds.reverse
  | _, _, .nil => .nil
  | _, _, .cons h t => by
    rw [List.reverse_cons, List.reverse_cons]
    exact dpAll_app (dpAll_rev t) (.cons h .nil)
theorem dp_list {K : PySem.W.Frag} {H : Hp} {v : V} {ds : List PyData} (h : Dp K H v (.list ds)) : ∃ a vs, v = .ref a ∧ SqL K H a vs ∧ DpAll K H vs ds := by
  cases h with
  | lst a b => exact ⟨_, _, rfl, a, b⟩
theorem dp_tup {K : PySem.W.Frag} {H : Hp} {v : V} {ds : List PyData} (h : Dp K H v (.tuple ds)) : ∃ a vs, v = .ref a ∧ SqT K H a vs ∧ DpAll K H vs ds := by
  cases h with
  | tup a b => exact ⟨_, _, rfl, a, b⟩
theorem dp_int {K : PySem.W.Frag} {H : Hp} {v : V} {i : Int} (h : Dp K H v (.int i)) : v = .int i := by
  cases h; rfl
theorem dp_bl {K : PySem.W.Frag} {H : Hp} {v : V} {b : Bool} (h : Dp K H v (.bool b)) : v = .bl b := by
  cases h; rfl
theorem dp_str {K : PySem.W.Frag} {H : Hp} {v : V} {b : Str} (h : Dp K H v (.str b)) : v = .str b := by
  cases h; rfl
theorem dp_non {K : PySem.W.Frag} {H : Hp} {v : V} (h : Dp K H v .none) : v = .non := by
  cases h; rfl

/-- where one stands: the abstract heap, its frozen part, the world's own objects, the world's state -/
structure Cfg (G : Type) where
  H : Hp
  F : Hp
  vol : Addr → Prop
  g : G
/-- a world: what it holds of its own objects -/
structure Wd (G : Type) where
  I : G → (Addr → Prop) → Hp → Prop
  frame : ∀ g vol H H', (∀ b, vol b → H' b = H b) → I g vol H → I g vol H'
def W0 : Wd Unit := ⟨fun _ _ _ => True, fun _ _ _ _ _ h => h⟩
variable {G : Type}
structure Wf (W : Wd G) (c : Cfg G) : Prop where
  sub : Same c.F c.H
  vf : ∀ b, c.vol b → c.F b = none
  vh : ∀ b, c.vol b → c.H b ≠ none
  inv : W.I c.g c.vol c.H
structure Ext (c c' : Cfg G) : Prop where
  keep : ∀ b o, c.H b = some o → ¬ c.vol b → c'.H b = some o
  fz : Same c.F c'.F
  fnew : ∀ b, c.H b ≠ none → c'.F b = c.F b
  von : ∀ b, c.vol b → c'.vol b
  vnew : ∀ b, c'.vol b → c.H b ≠ none → c.vol b
  dom : ∀ b, c.H b ≠ none → c'.H b ≠ none
theorem Ext.refl (c : Cfg G) : Ext c c := ⟨fun _ _ h _ => h, Same.refl _, fun _ _ => rfl, fun _ h => h, fun _ h _ => h, fun _ h => h⟩
theorem Ext.trans {a b c : Cfg G} (x : Ext a b) (y : Ext b c) : Ext a c :=
  ⟨fun p o h n => y.keep p o (x.keep p o h n) fun v => n (x.vnew p v (by rw [h]; exact fun z => nomatch z)), x.fz.trans y.fz,
    fun p h => (y.fnew p (x.dom p h)).trans (x.fnew p h), fun p h => y.von p (x.von p h), fun p h n => x.vnew p (y.vnew p h (x.dom p n)) n, fun p h => y.dom p (x.dom p h)⟩
theorem same_upd {H : Hp} {p : Addr} {o : HO} (h : H p = none) : Same H (upd H p o) := fun b x e => by
  rw [upd_ne (ne_of_none e h)]
  exact e
theorem some_ne {α : Type} {o : Option α} {x : α} (h : o = some x) : o ≠ none := by
  rw [h]
  exact fun z => nomatch z
/-- a new frozen object -/
def Cfg.laid (c : Cfg G) (p : Addr) (o : HO) : Cfg G := { c with H := upd c.H p o, F := upd c.F p o }
theorem Ext.laid {c : Cfg G} {p : Addr} {o : HO} {W : Wd G} (w : Wf W c) (np : c.H p = none) : Ext c (c.laid p o) :=
  ⟨fun b x e _ => same_upd np b x e, same_upd (w.sub.free np), fun b h => upd_ne (fun e => h (by rw [e]; exact np)), fun _ h => h, fun _ h _ => h, fun b h => by
    show upd c.H p o b ≠ none
    rw [upd_ne (fun e => h (by rw [e]; exact np))]
    exact h⟩
theorem vol_ne {c : Cfg G} {W : Wd G} (w : Wf W c) {p b : Addr} (np : c.H p = none) (h : c.vol b) : b ≠ p := fun e => w.vh b h (by rw [e]; exact np)
theorem Wf.laid {c : Cfg G} {p : Addr} {o : HO} {W : Wd G} (w : Wf W c) (np : c.H p = none) : Wf W (c.laid p o) where
  sub := fun b x e => by
    by_cases hb : b = p
    · subst hb
      exact (upd_same.trans (upd_same.symm.trans e))
    · have e' : upd c.F p o b = some x := e
      rw [upd_ne hb] at e'
      show upd c.H p o b = some x
      rw [upd_ne hb]
      exact w.sub _ _ e'
  vf := fun b h => by
    show upd c.F p o b = none
    rw [upd_ne (vol_ne w np h)]
    exact w.vf b h
  vh := fun b h => by
    show upd c.H p o b ≠ none
    rw [upd_ne (vol_ne w np h)]
    exact w.vh b h
  inv := W.frame _ _ _ _ (fun b h => upd_ne (vol_ne w np h)) w.inv
/-- a new object that is not frozen -/
def Cfg.made (c : Cfg G) (p : Addr) (o : HO) : Cfg G := { c with H := upd c.H p o }
theorem Ext.made {c : Cfg G} {p : Addr} {o : HO} (np : c.H p = none) : Ext c (c.made p o) :=
  ⟨fun b x e _ => same_upd np b x e, Same.refl _, fun b h => rfl, fun _ h => h, fun _ h _ => h, fun b h => by
    show upd c.H p o b ≠ none
    rw [upd_ne (fun e => h (by rw [e]; exact np))]
    exact h⟩
theorem Wf.made {c : Cfg G} {p : Addr} {o : HO} {W : Wd G} (w : Wf W c) (np : c.H p = none) : Wf W (c.made p o) where
  sub := w.sub.trans (same_upd np)
  vf := w.vf
  vh := fun b h => by
    show upd c.H p o b ≠ none
    rw [upd_ne (vol_ne w np h)]
    exact w.vh b h
  inv := W.frame _ _ _ _ (fun b h => upd_ne (vol_ne w np h)) w.inv
/-- an own object written -/
theorem Wf.write {c : Cfg G} {p : Addr} {o : HO} {W : Wd G} (w : Wf W c) (nf : c.F p = none) (nv : ¬ c.vol p) : Wf W (c.made p o) where
  sub := fun b x e => by
    have e' : c.F b = some x := e
    show upd c.H p o b = some x
    rw [upd_ne (fun z => by rw [z, nf] at e'; cases e')]
    exact w.sub _ _ e'
  vf := w.vf
  vh := fun b h => by
    show upd c.H p o b ≠ none
    rw [upd_ne (fun e => nv (by rw [← e]; exact h))]
    exact w.vh b h
  inv := W.frame _ _ _ _ (fun b h => upd_ne (fun e => nv (by rw [← e]; exact h))) w.inv
/-- an own object frozen -/
def Cfg.froze (c : Cfg G) (p : Addr) (o : HO) : Cfg G := { c with F := upd c.F p o }
theorem Wf.froze {c : Cfg G} {p : Addr} {o : HO} {W : Wd G} (w : Wf W c) (hp : c.H p = some o) (nv : ¬ c.vol p) : Wf W (c.froze p o) where
  sub := fun b x e => by
    by_cases hb : b = p
    · subst hb
      exact hp.trans (upd_same.symm.trans e)
    · have e' : upd c.F p o b = some x := e
      rw [upd_ne hb] at e'
      exact w.sub _ _ e'
  vf := fun b h => by
    show upd c.F p o b = none
    rw [upd_ne (fun e => nv (by rw [← e]; exact h))]
    exact w.vf b h
  vh := w.vh
  inv := w.inv
theorem Ext.froze {c c' : Cfg G} {p : Addr} {o : HO} (x : Ext c c') (np : c.H p = none) (nf : c'.F p = none) : Ext c (c'.froze p o) :=
  ⟨x.keep, fun b y e => by
    show upd c'.F p o b = some y
    have := x.fz b y e
    rw [upd_ne (fun z => by rw [z, nf] at this; cases this)]
    exact this, fun b h => by
    show upd c'.F p o b = _
    rw [upd_ne (fun e => h (by rw [e]; exact np))]
    exact x.fnew b h, x.von, x.vnew, x.dom⟩
theorem same_froze {c : Cfg G} {p : Addr} {o : HO} (nf : c.F p = none) : Same c.F (c.froze p o).F := same_upd nf

/-! ### what is known of the names -/
inductive OC where
  | lst (ds : List PyData)
  | dk (kvs : List (Key × PyData))
  | dt (kvs : List (List Key × PyData))
def KVd (K : PySem.W.Frag) (F : Hp) {κ : Type} : List (κ × V) → List (κ × PyData) → Prop := Paired fun (p : κ × V) (q : κ × PyData) => p.1 = q.1 ∧ Dp K F p.2 q.2
def OCok (K : PySem.W.Frag) (F : Hp) : HO → OC → Prop
  | .lst vs, .lst ds => DpAll K F vs ds
  | .dK kvs, .dk ds => KVd K F kvs ds
  | .dT kvs, .dt ds => KVd K F kvs ds
  | _, _ => False
theorem OCok.mono {K : PySem.W.Frag} {F F' : Hp} (e : Same F F') {o : HO} {t : OC} (h : OCok K F o t) : OCok K F' o t := by
  cases o <;> cases t <;> first
    | exact (show False from h).elim
    | exact dpAll_mono e h
    | exact Paired.mapP h fun _ _ q => ⟨q.1, dp_mono e q.2⟩
inductive Slot where
  /-- frozen data -/
  | fr (d : PyData)
  /-- a list or dict of the def's own, its items frozen -/
  | ow (t : OC)
  /-- a value as it is -/
  | raw (v : V)
  /-- a thing of which this stays true -/
  | inv (φ : PySem.W.Frag → Hp → V → Prop)
abbrev Sy : Type := List (Option Slot)
abbrev Sg : Type := List (Option V)
def SlotOk (K : PySem.W.Frag) (c0 c : Cfg G) (σ : Sg) (i : Nat) : Slot → Prop
  | .fr d => ∃ v, σ[i]? = some (some v) ∧ Dp K c.F v d
  | .ow t => ∃ p o, σ[i]? = some (some (.ref p)) ∧ c.H p = some o ∧ OCok K c.F o t ∧ c.F p = none ∧ ¬ c.vol p ∧ c0.H p = none
  | .raw v => σ[i]? = some (some v)
  | .inv φ => ∃ v, σ[i]? = some (some v) ∧ ∀ F', Same c.F F' → φ K F' v
structure Rel (K : PySem.W.Frag) (W : Wd G) (c0 : Cfg G) (S : Sy) (σ : Sg) (c : Cfg G) : Prop where
  wf : Wf W c
  ext : Ext c0 c
  len : σ.length = S.length
  ok : ∀ (i : Nat) (s : Slot), S[i]? = some (some s) → SlotOk K c0 c σ i s
  dis : ∀ (i j : Nat) (s t : OC) (p : Addr), i ≠ j → S[i]? = some (some (.ow s)) → S[j]? = some (some (.ow t)) → σ[i]? = some (some (.ref p)) → σ[j]? ≠ some (some (.ref p))
theorem SlotOk.ext {K : PySem.W.Frag} {W : Wd G} {c0 c c' : Cfg G} {σ : Sg} {i : Nat} {s : Slot} (h : SlotOk K c0 c σ i s) (x : Ext c c') : SlotOk K c0 c' σ i s := by
  cases s with
  | fr d =>
    obtain ⟨v, e, h⟩ := h
    exact ⟨v, e, dp_mono x.fz h⟩
  | ow t =>
    obtain ⟨p, o, e, h1, h2, h3, h4, h5⟩ := h
    exact ⟨p, o, e, x.keep _ _ h1 h4, h2.mono x.fz, (x.fnew p (some_ne h1)).trans h3, fun z => h4 (x.vnew p z (some_ne h1)), h5⟩
  | raw v => exact h
  | inv φ =>
    obtain ⟨v, e, h⟩ := h
    exact ⟨v, e, fun F' z => h F' (x.fz.trans z)⟩
theorem Rel.step {K : PySem.W.Frag} {W : Wd G} {c0 c c' : Cfg G} {S : Sy} {σ : Sg} (r : Rel K W c0 S σ c) (x : Ext c c') (w : Wf W c') : Rel K W c0 S σ c' :=
  ⟨w, r.ext.trans x, r.len, fun i s h => SlotOk.ext (W := W) (r.ok i s h) x, r.dis⟩
theorem get_set_ne {α : Type} {l : List α} {i j : Nat} {x : α} (h : i ≠ j) : (l.set i x)[j]? = l[j]? := by
  rw [List.getElem?_set_ne h]
theorem get_set_eq {α : Type} {l : List α} {i : Nat} {x : α} (h : i < l.length) : (l.set i x)[i]? = some x := by
  rw [List.getElem?_set_self h]
/-- one name written: a value that is no list of the def's own -/
theorem Rel.set {K : PySem.W.Frag} {W : Wd G} {c0 c : Cfg G} {S : Sy} {σ : Sg} {i : Nat} {v : V} {s : Slot} (r : Rel K W c0 S σ c) (hi : i < S.length)
    (hs : ∀ t, s ≠ .ow t) (h : ∀ σ' : Sg, σ'[i]? = some (some v) → SlotOk K c0 c σ' i s) : Rel K W c0 (S.set i (some s)) (σ.set i (some v)) c := by
  refine ⟨r.wf, r.ext, by rw [List.length_set, List.length_set]; exact r.len, fun j t e => ?_, fun a b s' t p hab e1 e2 e3 => ?_⟩
  · by_cases hj : i = j
    · subst hj
      rw [get_set_eq hi] at e
      cases e
      exact h _ (get_set_eq (by rw [r.len]; exact hi))
    · rw [get_set_ne hj] at e
      have q := r.ok j t e
      cases t with
      | fr d =>
        obtain ⟨v, e, h⟩ := q
        exact ⟨v, by rw [get_set_ne hj]; exact e, h⟩
      | ow t =>
        obtain ⟨p, o, e, h⟩ := q
        exact ⟨p, o, by rw [get_set_ne hj]; exact e, h⟩
      | raw v => exact (get_set_ne hj).trans q
      | inv φ =>
        obtain ⟨v, e, h⟩ := q
        exact ⟨v, by rw [get_set_ne hj]; exact e, h⟩
  · have ha : i ≠ a := fun z => by
      subst z
      rw [get_set_eq hi] at e1
      exact hs _ (Option.some.inj (Option.some.inj e1))
    have hb : i ≠ b := fun z => by
      subst z
      rw [get_set_eq hi] at e2
      exact hs _ (Option.some.inj (Option.some.inj e2))
    rw [get_set_ne ha] at e1 e3
    rw [get_set_ne hb] at e2
    rw [get_set_ne hb]
    exact r.dis a b s' t p hab e1 e2 e3
/-- .. a new list or dict of the def's own -/
theorem Rel.setOw {K : PySem.W.Frag} {W : Wd G} {c0 c : Cfg G} {S : Sy} {σ : Sg} {i : Nat} {p : Addr} {o : HO} {t : OC} (r : Rel K W c0 S σ c) (hi : i < S.length)
    (h1 : c.H p = some o) (h2 : OCok K c.F o t) (h3 : c.F p = none) (h4 : ¬ c.vol p) (h5 : c0.H p = none)
    (hd : ∀ j s, i ≠ j → S[j]? = some (some (.ow s)) → σ[j]? ≠ some (some (.ref p))) : Rel K W c0 (S.set i (some (.ow t))) (σ.set i (some (.ref p))) c := by
  refine ⟨r.wf, r.ext, by rw [List.length_set, List.length_set]; exact r.len, fun j s e => ?_, fun a b s' t' q hab e1 e2 e3 => ?_⟩
  · by_cases hj : i = j
    · subst hj
      rw [get_set_eq hi] at e
      cases e
      exact ⟨p, o, get_set_eq (by rw [r.len]; exact hi), h1, h2, h3, h4, h5⟩
    · rw [get_set_ne hj] at e
      have q := r.ok j s e
      cases s with
      | fr d =>
        obtain ⟨v, e, h⟩ := q
        exact ⟨v, by rw [get_set_ne hj]; exact e, h⟩
      | ow t =>
        obtain ⟨p, o, e, h⟩ := q
        exact ⟨p, o, by rw [get_set_ne hj]; exact e, h⟩
      | raw v => exact (get_set_ne hj).trans q
      | inv φ =>
        obtain ⟨v, e, h⟩ := q
        exact ⟨v, by rw [get_set_ne hj]; exact e, h⟩
  · by_cases ha : i = a
    · subst ha
      have hb : i ≠ b := hab
      rw [get_set_eq (by rw [r.len]; exact hi)] at e3
      cases e3
      rw [get_set_ne hb] at e2
      rw [get_set_ne hb]
      exact hd b t' hb e2
    · rw [get_set_ne ha] at e1 e3
      by_cases hb : i = b
      · subst hb
        rw [get_set_eq (by rw [r.len]; exact hi)]
        intro z
        cases z
        exact hd a s' ha e1 e3
      · rw [get_set_ne hb] at e2
        rw [get_set_ne hb]
        exact r.dis a b s' t' q hab e1 e2 e3
/-- a name forgotten -/
theorem Rel.drop {K : PySem.W.Frag} {W : Wd G} {c0 c : Cfg G} {S S' : Sy} {σ : Sg} (r : Rel K W c0 S σ c) (hl : S'.length = S.length) (h : ∀ (i : Nat) (s : Slot), S'[i]? = some (some s) → S[i]? = some (some s)) : Rel K W c0 S' σ c :=
  ⟨r.wf, r.ext, r.len.trans hl.symm, fun i s e => r.ok i s (h i s e), fun i j s t p a b d => r.dis i j s t p a (h _ _ b) (h _ _ d)⟩
theorem lt_of_some {α : Type} {l : List α} {i : Nat} {x : α} (h : l[i]? = some x) : i < l.length := by
  by_cases hi : i < l.length
  · exact hi
  · rw [List.getElem?_eq_none (by omega)] at h
    cases h
/-- an own list frozen -/
theorem Rel.freeze {K : PySem.W.Frag} {W : Wd G} {c0 c : Cfg G} {S : Sy} {σ : Sg} {i : Nat} {ds : List PyData} (r : Rel K W c0 S σ c) (h : S[i]? = some (some (.ow (.lst ds)))) :
    ∃ c', c'.H = c.H ∧ c'.g = c.g ∧ c'.vol = c.vol ∧ Rel K W c0 (S.set i (some (.fr (.list ds)))) σ c' ∧ Same c.F c'.F := by
  obtain ⟨p, o, e, h1, h2, h3, h4, h5⟩ := r.ok i _ h
  have hi := lt_of_some h
  cases o with
  | lst vs =>
    have h2 : DpAll K c.F vs ds := h2
    have sm : Same c.F (upd c.F p (.lst vs)) := same_upd h3
    refine ⟨c.froze p (.lst vs), rfl, rfl, rfl, ⟨r.wf.froze h1 h4, r.ext.froze h5 h3, by rw [List.length_set]; exact r.len, fun j s q => ?_, fun a b s' t' q hab e1 e2 e3 => ?_⟩, sm⟩
    · by_cases hj : i = j
      · subst hj
        rw [get_set_eq hi] at q
        cases q
        exact ⟨.ref p, e, .lst (SqL.of upd_same) (dpAll_mono sm h2)⟩
      · rw [get_set_ne hj] at q
        have w := r.ok j s q
        cases s with
        | fr d =>
          obtain ⟨v, e, h⟩ := w
          exact ⟨v, e, dp_mono sm h⟩
        | ow t =>
          obtain ⟨p', o', e', k1, k2, k3, k4, k5⟩ := w
          refine ⟨p', o', e', k1, k2.mono sm, ?_, k4, k5⟩
          have hpp : p' ≠ p := fun z => by
            subst z
            exact r.dis i j _ _ p' hj h q e e'
          show upd c.F p (.lst vs) p' = none
          rw [upd_ne hpp]
          exact k3
        | raw v => exact w
        | inv φ =>
          obtain ⟨v, e, h⟩ := w
          exact ⟨v, e, fun F' z => h F' (sm.trans z)⟩
    · have ha : i ≠ a := fun z => by
        subst z
        rw [get_set_eq hi] at e1
        exact nomatch (Option.some.inj (Option.some.inj e1))
      have hb : i ≠ b := fun z => by
        subst z
        rw [get_set_eq hi] at e2
        exact nomatch (Option.some.inj (Option.some.inj e2))
      rw [get_set_ne ha] at e1
      rw [get_set_ne hb] at e2
      exact r.dis a b s' t' q hab e1 e2 e3
  | _ => exact (show False from h2).elim
end M3
set_option Elab.async false
set_option linter.all false
set_option maxRecDepth 100000
/-! Typed readings of expressions. -/
namespace M3
open PySem PySem.Spec PyProof.Rows L2 Enc Args

/-! ### the contexts in which a text is read -/
structure Fm where
  prog : Program
  w : World
  K : PySem.W.Frag
  mg : Str → Option Value
  base : Heap
  N : List Str
  sc : Scope
  fn : Str → Bool
  k : Nat
def relS (scope sc : Scope) : Scope :=
  { scope with names := scope.names.map fun (n, k) => if (k == .free && sc.kind == .function && sc.names.lookup n == some .cell) then (n, .cell) else (n, k) }
def Fm.blk (f : Fm) (scope : Scope) : Fm := { f with sc := relS scope f.sc, fn := fun x => scope.names.lookup x == some .cell }
structure FmAt (f : Fm) (X : Cx) : Prop where
  prog : X.prog = f.prog
  w : X.w = f.w
  K : X.K = f.K
  mg : X.mg = f.mg
  base : X.base = f.base
  N : X.N = f.N
  sc : X.env.scope = f.sc
  fn : X.fn = f.fn
  calm : X.calm = true
  room : Room f.k X.A
  xe : X.xe = fun _ _ => False
  nd : f.N.Nodup
  dbg : ∀ x ∈ f.N, (x == ("__debug__" : Str)) = false ∧ (x == ("__classdict__" : Str)) = false
theorem FmAt.pass {f : Fm} {X : Cx} (h : FmAt f X) : PassesOwn (model X.prog X.w) X.A X.env X.xe := by
  rw [h.xe]
  exact PassesOwn.never
theorem FmAt.blk {f : Fm} {X : Cx} (h : FmAt f X) (scope : Scope) (s : Shared) (H : Hp) (C : Addr) (cl : List (Str × Addr)) (fp : List Addr) :
    FmAt (f.blk scope) (X.blk s H scope (compEnvC scope cl C X.env) fp) where
  prog := h.prog
  w := h.w
  K := h.K
  mg := h.mg
  base := h.base
  N := h.N
  sc := by
    show relabel scope X.env = relS scope f.sc
    rw [← h.sc]
    rfl
  fn := rfl
  calm := h.calm
  room := h.room
  xe := rfl
  nd := h.nd
  dbg := h.dbg
theorem FmAt.hu {f : Fm} {X : Cx} (h : FmAt f X) : X.A.units + 65 < cLine := by
  have := h.room.un
  omega
/-- a name of the def (or of a comprehension within) -/
def VisF (f : Fm) (x : Str) : Prop := f.sc.names.lookup x = some .local ∨ f.sc.names.lookup x = some .cell ∨ f.sc.names.lookup x = some .free
def LocF (f : Fm) (x : Str) : Prop := f.sc.names.lookup x = some .local ∨ f.sc.names.lookup x = some .cell
def GlF (f : Fm) (x : Str) : Prop := f.sc.names.lookup x = some .globalImplicit
theorem FmAt.gl {f : Fm} {X : Cx} (h : FmAt f X) {x : Str} (g : GlF f x) : Gl X x := by
  show X.env.scope.names.lookup x = _
  rw [h.sc]
  exact g
theorem FmAt.vis {f : Fm} {X : Cx} (h : FmAt f X) {x : Str} (g : VisF f x) : Vis X.env.scope x := by
  rw [h.sc]
  exact g
theorem FmAt.loc {f : Fm} {X : Cx} (h : FmAt f X) {x : Str} (g : LocF f x) : Loc X.env.scope x := by
  rw [h.sc]
  exact g

/-! ### judgements -/
variable {G : Type}
abbrev MM (G α : Type) := G → (α → G → Prop) → Prop
def Sem (K : PySem.W.Frag) (W : Wd G) (S : Sy) (t : TE) {α : Type} [Enc α] (m : MM G α) : Prop :=
  ∀ (c0 : Cfg G) (σ : Sg) (c : Cfg G), Rel K W c0 S σ c → ∀ (C : α → G → Prop) (Q : VK), m c.g C →
    (∀ x v c', Ext c c' → Wf W c' → Dp K c'.F v (enc x) → C x c'.g → Q v c'.H) → t σ c.H Q
structure EV (f : Fm) (W : Wd G) (S : Sy) (e : Expr) {α : Type} [Enc α] (m : MM G α) : Prop where
  run : ∃ t, (∀ X, FmAt f X → PE X e t) ∧ Sem f.K W S t m
def SemT (K : PySem.W.Frag) (W : Wd G) (S : Sy) (t : TT) (m : MM G Bool) : Prop :=
  ∀ (c0 : Cfg G) (σ : Sg) (c : Cfg G), Rel K W c0 S σ c → ∀ (C : Bool → G → Prop) (Q : Bool → Hp → Prop), m c.g C →
    (∀ b c', Ext c c' → Wf W c' → C b c'.g → Q b c'.H) → t σ c.H Q
structure ET (f : Fm) (W : Wd G) (S : Sy) (e : Expr) (m : MM G Bool) : Prop where
  run : ∃ t, (∀ X, FmAt f X → PT X e t) ∧ SemT f.K W S t m
structure EW (f : Fm) (W : Wd G) (S : Sy) (e : Expr) (m : MM G Bool) : Prop where
  run : ∃ t, (∀ X, FmAt f X → PW X e t) ∧ SemT f.K W S t m
/-- a new list of the def's own -/
structure NewL (K : PySem.W.Frag) (c c' : Cfg G) (p : Addr) (o : HO) (t : OC) : Prop where
  at' : c'.H p = some o
  ok : OCok K c'.F o t
  nf : c'.F p = none
  nv : ¬ c'.vol p
  new : c.H p = none
def SemN (K : PySem.W.Frag) (W : Wd G) (S : Sy) (t : TE) {α : Type} [Enc α] (m : MM G (List α)) : Prop :=
  ∀ (c0 : Cfg G) (σ : Sg) (c : Cfg G), Rel K W c0 S σ c → ∀ (C : List α → G → Prop) (Q : VK), m c.g C →
    (∀ x p o c', Ext c c' → Wf W c' → NewL K c c' p o (.lst (x.map enc)) → C x c'.g → Q (.ref p) c'.H) → t σ c.H Q
structure EN (f : Fm) (W : Wd G) (S : Sy) (e : Expr) {α : Type} [Enc α] (m : MM G (List α)) : Prop where
  run : ∃ t, (∀ X, FmAt f X → PE X e t) ∧ SemN f.K W S t m
def SemA (K : PySem.W.Frag) (W : Wd G) (S : Sy) (t : TA) {α : Type} [Args α] (m : MM G α) : Prop :=
  ∀ (c0 : Cfg G) (σ : Sg) (c : Cfg G), Rel K W c0 S σ c → ∀ (C : α → G → Prop) (Q : List V → Hp → Prop), m c.g C →
    (∀ x vs c', Ext c c' → Wf W c' → DpAll K c'.F vs (encs x) → C x c'.g → Q vs c'.H) → t σ c.H Q
structure EA (f : Fm) (W : Wd G) (S : Sy) (es : List Expr) {α : Type} [Args α] (m : MM G α) : Prop where
  run : ∃ t, (∀ X, FmAt f X → PA X es t) ∧ SemA f.K W S t m

section
variable {f : Fm} {W : Wd G} {S : Sy} {a b c : Expr} {pos : Pos} {α β γ : Type} [Enc α] [Enc β] [Enc γ]

theorem sem_bin {K : PySem.W.Frag} {ta tb : TE} {ma : MM G α} {mb : MM G β} (ha : Sem K W S ta ma) (hb : Sem K W S tb mb) {c0 : Cfg G} {σ : Sg} {c : Cfg G} (r : Rel K W c0 S σ c) {C : α → β → G → Prop} {Q : V → V → Hp → Prop}
    (hm : ma c.g fun x g1 => mb g1 fun y g2 => C x y g2) (hQ : ∀ x y v u c2, Ext c c2 → Wf W c2 → Dp K c2.F v (enc x) → Dp K c2.F u (enc y) → C x y c2.g → Q v u c2.H) :
    ta σ c.H fun v H1 => tb σ H1 fun u H2 => Q v u H2 :=
  ha c0 σ c r _ _ hm fun x v c1 e1 w1 d1 h1 => hb c0 σ c1 (r.step e1 w1) _ _ h1 fun y u c2 e2 w2 d2 h2 => hQ x y v u c2 (e1.trans e2) w2 (dp_mono e2.fz d1) d2 h2

/-- a new list, frozen at once -/
theorem EN.ev {m : MM G (List α)} (h : EN f W S a m) : EV f W S a m := by
  obtain ⟨t, h1, h2⟩ := h.run
  refine ⟨t, h1, fun c0 σ c r C Q hm hQ => h2 c0 σ c r C Q hm fun x p o c' e w n h => ?_⟩
  cases o with
  | lst vs =>
    have q := hQ x (.ref p) (c'.froze p (.lst vs)) (e.froze n.new n.nf) (w.froze n.at' n.nv) (.lst (SqL.of upd_same) (dpAll_mono (same_froze n.nf) n.ok)) h
    exact q
  | _ => exact (show False from n.ok).elim

/-! ### names and constants -/
theorem ev_var {i : Nat} {x : Str} {v : α} (hN : f.N[i]? = some x := by rfl) (hv : VisF f x := by first | exact Or.inl rfl | exact Or.inr (Or.inl rfl) | exact Or.inr (Or.inr rfl))
    (hS : S[i]? = some (some (.fr (enc v))) := by rfl) : EV f W S (.Name x pos) (fun g C => C v g) := by
  refine ⟨tVar i, fun X hX => pe_var (by rw [hX.N]; exact hN) (hX.vis hv) (hX.dbg x (List.mem_of_getElem? hN)).1 (hX.dbg x (List.mem_of_getElem? hN)).2, fun c0 σ c r C Q hm hQ => ?_⟩
  obtain ⟨w, e, d⟩ := r.ok i _ hS
  exact ⟨w, e, hQ v w c (Ext.refl c) r.wf d hm⟩
theorem ev_int {i : Int} {j : Nat} : EV f W S (.Constant (.int i) j pos) (fun g C => C i g) :=
  ⟨_, fun X hX => pe_int, fun c0 σ c r C Q hm hQ => hQ i _ c (Ext.refl c) r.wf (.int i) hm⟩
theorem ev_bl {i : Bool} {j : Nat} : EV f W S (.Constant (.bool i) j pos) (fun g C => C i g) :=
  ⟨_, fun X hX => pe_bl, fun c0 σ c r C Q hm hQ => hQ i _ c (Ext.refl c) r.wf (.bl i) hm⟩
theorem ev_str {i : Str} {j : Nat} : EV f W S (.Constant (.str i) j pos) (fun g C => C i g) :=
  ⟨_, fun X hX => pe_str, fun c0 σ c r C Q hm hQ => hQ i _ c (Ext.refl c) r.wf (.str i) hm⟩
/-- None, as an option -/
theorem ev_none {j : Nat} : EV f W S (.Constant .none j pos) (α := Option α) (fun g C => C none g) :=
  ⟨_, fun X hX => pe_non, fun c0 σ c r C Q hm hQ => hQ none _ c (Ext.refl c) r.wf .non hm⟩
theorem ev_unit {j : Nat} : EV f W S (.Constant .none j pos) (α := Unit) (fun g C => C () g) :=
  ⟨_, fun X hX => pe_non, fun c0 σ c r C Q hm hQ => hQ () _ c (Ext.refl c) r.wf .non hm⟩
/-! ### between types -/
theorem ev_some {m : MM G α} (h : EV f W S a m) : EV f W S a (α := Option α) (fun g C => m g fun x g' => C (some x) g') := by
  obtain ⟨t, h1, h2⟩ := h.run
  exact ⟨t, h1, fun c0 σ c r C Q hm hQ => h2 c0 σ c r _ Q hm fun x v c' e w d q => hQ (some x) v c' e w d q⟩
theorem ev_get {m : MM G (Option α)} (h : EV f W S a m) : EV f W S a (fun g C => m g fun o g' => ∃ x, o = some x ∧ C x g') := by
  obtain ⟨t, h1, h2⟩ := h.run
  refine ⟨t, h1, fun c0 σ c r C Q hm hQ => h2 c0 σ c r _ Q hm fun o v c' e w d q => ?_⟩
  obtain ⟨x, rfl, q⟩ := q
  exact hQ x v c' e w d q
theorem ev_up {m : MM G α} (h : EV f W S a m) : EV f W S a (α := PyData) (fun g C => m g fun x g' => C (enc x) g') := by
  obtain ⟨t, h1, h2⟩ := h.run
  exact ⟨t, h1, fun c0 σ c r C Q hm hQ => h2 c0 σ c r _ Q hm fun x v c' e w d q => hQ (enc x) v c' e w d q⟩
theorem ev_as {m : MM G PyData} (h : EV f W S a m) : EV f W S a (α := α) (fun g C => m g fun o g' => ∃ x : α, o = enc x ∧ C x g') := by
  obtain ⟨t, h1, h2⟩ := h.run
  refine ⟨t, h1, fun c0 σ c r C Q hm hQ => h2 c0 σ c r _ Q hm fun o v c' e w d q => ?_⟩
  obtain ⟨x, rfl, q⟩ := q
  exact hQ x v c' e w d q
/-- from one type to another one that is written the same -/
theorem ev_to {m : MM G α} (φ : α → β) (hφ : ∀ x, enc (φ x) = enc x) (h : EV f W S a m) : EV f W S a (α := β) (fun g C => m g fun x g' => C (φ x) g') := by
  obtain ⟨t, h1, h2⟩ := h.run
  exact ⟨t, h1, fun c0 σ c r C Q hm hQ => h2 c0 σ c r _ Q hm fun x v c' e w d q => hQ (φ x) v c' e w (by rw [hφ]; exact d) q⟩

/-! ### whole numbers -/
theorem ev_add {ma mb : MM G Int} (ha : EV f W S a ma) (hb : EV f W S b mb) : EV f W S (.BinOp a .Add b pos) (fun g C => ma g fun x g1 => mb g1 fun y g2 => C (x + y) g2) := by
  obtain ⟨ta, a1, a2⟩ := ha.run
  obtain ⟨tb, b1, b2⟩ := hb.run
  refine ⟨_, fun X hX => pe_op op_add (a1 X hX) (b1 X hX), fun c0 σ c r C Q hm hQ => sem_bin a2 b2 r hm fun x y v u c2 e w d1 d2 q => ?_⟩
  exact ⟨x, y, dp_int d1, dp_int d2, hQ _ _ c2 e w (.int _) q⟩
theorem ev_sub {ma mb : MM G Int} (ha : EV f W S a ma) (hb : EV f W S b mb) : EV f W S (.BinOp a .Sub b pos) (fun g C => ma g fun x g1 => mb g1 fun y g2 => C (x - y) g2) := by
  obtain ⟨ta, a1, a2⟩ := ha.run
  obtain ⟨tb, b1, b2⟩ := hb.run
  refine ⟨_, fun X hX => pe_op op_sub (a1 X hX) (b1 X hX), fun c0 σ c r C Q hm hQ => sem_bin a2 b2 r hm fun x y v u c2 e w d1 d2 q => ?_⟩
  exact ⟨x, y, dp_int d1, dp_int d2, hQ _ _ c2 e w (.int _) q⟩
theorem ev_mul {ma mb : MM G Int} (ha : EV f W S a ma) (hb : EV f W S b mb) : EV f W S (.BinOp a .Mult b pos) (fun g C => ma g fun x g1 => mb g1 fun y g2 => CMul x y ∧ C (x * y) g2) := by
  obtain ⟨ta, a1, a2⟩ := ha.run
  obtain ⟨tb, b1, b2⟩ := hb.run
  refine ⟨_, fun X hX => pe_op op_mul (a1 X hX) (b1 X hX), fun c0 σ c r C Q hm hQ => sem_bin a2 b2 r hm fun x y v u c2 e w d1 d2 q => ?_⟩
  exact ⟨x, y, dp_int d1, dp_int d2, q.1, hQ _ _ c2 e w (.int _) q.2⟩
theorem ev_fdiv {ma mb : MM G Int} (ha : EV f W S a ma) (hb : EV f W S b mb) : EV f W S (.BinOp a .FloorDiv b pos) (fun g C => ma g fun x g1 => mb g1 fun y g2 => (0 < y ∧ y < 1073741824) ∧ C (x / y) g2) := by
  obtain ⟨ta, a1, a2⟩ := ha.run
  obtain ⟨tb, b1, b2⟩ := hb.run
  refine ⟨_, fun X hX => pe_op op_fdivN (a1 X hX) (b1 X hX), fun c0 σ c r C Q hm hQ => sem_bin a2 b2 r hm fun x y v u c2 e w d1 d2 q => ?_⟩
  obtain ⟨⟨q1, q2⟩, q⟩ := q
  have z := hQ _ _ c2 e w (.int _) q
  rw [← Int.fdiv_eq_ediv_of_nonneg x (by omega : 0 ≤ y)] at z
  exact ⟨x, y, dp_int d1, dp_int d2, ⟨by omega, by omega⟩, z⟩
theorem ev_mod {ma mb : MM G Int} (ha : EV f W S a ma) (hb : EV f W S b mb) : EV f W S (.BinOp a .Mod b pos) (fun g C => ma g fun x g1 => mb g1 fun y g2 => 0 < y ∧ C (x % y) g2) := by
  obtain ⟨ta, a1, a2⟩ := ha.run
  obtain ⟨tb, b1, b2⟩ := hb.run
  refine ⟨_, fun X hX => pe_op op_mod (a1 X hX) (b1 X hX), fun c0 σ c r C Q hm hQ => sem_bin a2 b2 r hm fun x y v u c2 e w d1 d2 q => ?_⟩
  exact ⟨x, y, dp_int d1, dp_int d2, q.1, hQ _ _ c2 e w (.int _) q.2⟩
theorem ev_neg {ma : MM G Int} (ha : EV f W S a ma) : EV f W S (.UnaryOp .USub a pos) (fun g C => ma g fun x g1 => C (-x) g1) := by
  obtain ⟨ta, a1, a2⟩ := ha.run
  refine ⟨_, fun X hX => pe_un un_neg (a1 X hX), fun c0 σ c r C Q hm hQ => a2 c0 σ c r _ _ hm fun x v c1 e w d q => ?_⟩
  exact ⟨x, dp_int d, hQ _ _ c1 e w (.int _) q⟩
/-! ### comparisons -/
/-- a comparison of two whole numbers, as a value and as a test -/
theorem ev_cmpI {op : CmpOp} {p : Int → Int → Bool} {ma mb : MM G Int} (ho : ∀ X : Cx, OpR X (compareOp op) (rI0 fun i j => .bl (p i j))) (hm : behindInMarks op b = false) (ha : EV f W S a ma) (hb : EV f W S b mb) :
    EV f W S (.Compare a [op] [b] pos) (fun g C => ma g fun x g1 => mb g1 fun y g2 => C (p x y) g2) := by
  obtain ⟨ta, a1, a2⟩ := ha.run
  obtain ⟨tb, b1, b2⟩ := hb.run
  refine ⟨_, fun X hX => pe_cmpR (ho X) (a1 X hX) (b1 X hX) hm, fun c0 σ c r C Q hm hQ => sem_bin a2 b2 r hm fun x y v u c2 e w d1 d2 q => ?_⟩
  exact ⟨x, y, dp_int d1, dp_int d2, hQ _ _ c2 e w (.bl _) q⟩
theorem et_cmpI {op : CmpOp} {p : Int → Int → Bool} {ma mb : MM G Int} (ho : ∀ X : Cx, OpR X (compareOp op) (rI0 fun i j => .bl (p i j))) (hm : behindInMarks op b = false) (ha : EV f W S a ma) (hb : EV f W S b mb) :
    ET f W S (.Compare a [op] [b] pos) (fun g C => ma g fun x g1 => mb g1 fun y g2 => C (p x y) g2) := by
  obtain ⟨ta, a1, a2⟩ := ha.run
  obtain ⟨tb, b1, b2⟩ := hb.run
  refine ⟨_, fun X hX => pt_cmpR (ho X) (a1 X hX) (b1 X hX) hm, fun c0 σ c r C Q hm hQ => sem_bin a2 b2 r hm fun x y v u c2 e w d1 d2 q => ?_⟩
  exact ⟨x, y, dp_int d1, dp_int d2, _, rfl, hQ _ c2 e w q⟩
theorem ev_lt {ma mb : MM G Int} (ha : EV f W S a ma) (hb : EV f W S b mb) : EV f W S (.Compare a [.Lt] [b] pos) (fun g C => ma g fun x g1 => mb g1 fun y g2 => C (decide (x < y)) g2) := ev_cmpI (fun _ => op_lt) (nomark b) ha hb
theorem ev_le {ma mb : MM G Int} (ha : EV f W S a ma) (hb : EV f W S b mb) : EV f W S (.Compare a [.LtE] [b] pos) (fun g C => ma g fun x g1 => mb g1 fun y g2 => C (decide (x ≤ y)) g2) := ev_cmpI (fun _ => op_le) (nomark b) ha hb
theorem ev_gt {ma mb : MM G Int} (ha : EV f W S a ma) (hb : EV f W S b mb) : EV f W S (.Compare a [.Gt] [b] pos) (fun g C => ma g fun x g1 => mb g1 fun y g2 => C (decide (y < x)) g2) := ev_cmpI (fun _ => op_gt) (nomark b) ha hb
theorem ev_ge {ma mb : MM G Int} (ha : EV f W S a ma) (hb : EV f W S b mb) : EV f W S (.Compare a [.GtE] [b] pos) (fun g C => ma g fun x g1 => mb g1 fun y g2 => C (decide (y ≤ x)) g2) := ev_cmpI (fun _ => op_ge) (nomark b) ha hb
theorem et_lt {ma mb : MM G Int} (ha : EV f W S a ma) (hb : EV f W S b mb) : ET f W S (.Compare a [.Lt] [b] pos) (fun g C => ma g fun x g1 => mb g1 fun y g2 => C (decide (x < y)) g2) := et_cmpI (fun _ => op_lt) (nomark b) ha hb
theorem et_le {ma mb : MM G Int} (ha : EV f W S a ma) (hb : EV f W S b mb) : ET f W S (.Compare a [.LtE] [b] pos) (fun g C => ma g fun x g1 => mb g1 fun y g2 => C (decide (x ≤ y)) g2) := et_cmpI (fun _ => op_le) (nomark b) ha hb
theorem et_gt {ma mb : MM G Int} (ha : EV f W S a ma) (hb : EV f W S b mb) : ET f W S (.Compare a [.Gt] [b] pos) (fun g C => ma g fun x g1 => mb g1 fun y g2 => C (decide (y < x)) g2) := et_cmpI (fun _ => op_gt) (nomark b) ha hb
theorem et_ge {ma mb : MM G Int} (ha : EV f W S a ma) (hb : EV f W S b mb) : ET f W S (.Compare a [.GtE] [b] pos) (fun g C => ma g fun x g1 => mb g1 fun y g2 => C (decide (y ≤ x)) g2) := et_cmpI (fun _ => op_ge) (nomark b) ha hb

/-- data of bounded depth, its texts of signs -/
class Shp (α : Type) [Enc α] where
  d : Nat
  lay : ∀ x : α, PyData.canLay0 (enc x) = true
  dep : ∀ x : α, PyData.depth (enc x) ≤ d
theorem Shp.ok {α : Type} [Enc α] [Shp α] (x : α) (h : Shp.d α ≤ 60 := by decide) : SeqAt.shaped (enc x) = true := by
  unfold SeqAt.shaped
  rw [Shp.lay x, decide_eq_true (Nat.le_trans (Shp.dep x) (Nat.le_trans h (by decide)))]
  rfl
/-- == of data -/
def peq (x : α) (y : β) : Bool := PyData.eqv (enc x) (enc y)
theorem ev_eq [Shp α] [Shp β] {ma : MM G α} {mb : MM G β} (ha : EV f W S a ma) (hb : EV f W S b mb) (h1 : Shp.d α ≤ 60 := by decide) (h2 : Shp.d β ≤ 60 := by decide) : EV f W S (.Compare a [.Eq] [b] pos) (fun g C => ma g fun x g1 => mb g1 fun y g2 => C (peq x y) g2) := by
  obtain ⟨ta, a1, a2⟩ := ha.run
  obtain ⟨tb, b1, b2⟩ := hb.run
  refine ⟨tOp (rEqD f.K) ta tb, fun X hX => by rw [← hX.K]; exact pe_cmpR (op_eqD (Nat.lt_of_succ_lt hX.hu)) (a1 X hX) (b1 X hX) (nomark b), fun c0 σ c r C Q hm hQ => sem_bin a2 b2 r hm fun x y v u c2 e w d1 d2 q => ?_⟩
  exact ⟨enc x, enc y, dp_mono w.sub d1, dp_mono w.sub d2, Shp.ok x h1, Shp.ok y h2, hQ _ _ c2 e w (.bl _) q⟩
theorem ev_ne [Shp α] [Shp β] {ma : MM G α} {mb : MM G β} (ha : EV f W S a ma) (hb : EV f W S b mb) (h1 : Shp.d α ≤ 60 := by decide) (h2 : Shp.d β ≤ 60 := by decide) : EV f W S (.Compare a [.NotEq] [b] pos) (fun g C => ma g fun x g1 => mb g1 fun y g2 => C (!peq x y) g2) := by
  obtain ⟨ta, a1, a2⟩ := ha.run
  obtain ⟨tb, b1, b2⟩ := hb.run
  refine ⟨tOp (rNeD f.K) ta tb, fun X hX => by rw [← hX.K]; exact pe_cmpR (op_neD (Nat.lt_of_succ_lt hX.hu)) (a1 X hX) (b1 X hX) (nomark b), fun c0 σ c r C Q hm hQ => sem_bin a2 b2 r hm fun x y v u c2 e w d1 d2 q => ?_⟩
  exact ⟨enc x, enc y, dp_mono w.sub d1, dp_mono w.sub d2, Shp.ok x h1, Shp.ok y h2, hQ _ _ c2 e w (.bl _) q⟩
theorem et_eq [Shp α] [Shp β] {ma : MM G α} {mb : MM G β} (ha : EV f W S a ma) (hb : EV f W S b mb) (h1 : Shp.d α ≤ 60 := by decide) (h2 : Shp.d β ≤ 60 := by decide) : ET f W S (.Compare a [.Eq] [b] pos) (fun g C => ma g fun x g1 => mb g1 fun y g2 => C (peq x y) g2) := by
  obtain ⟨ta, a1, a2⟩ := ha.run
  obtain ⟨tb, b1, b2⟩ := hb.run
  refine ⟨tTest (tOp (rEqD f.K) ta tb), fun X hX => by rw [← hX.K]; exact pt_cmpR (op_eqD (Nat.lt_of_succ_lt hX.hu)) (a1 X hX) (b1 X hX) (nomark b), fun c0 σ c r C Q hm hQ => sem_bin a2 b2 r hm fun x y v u c2 e w d1 d2 q => ?_⟩
  exact ⟨enc x, enc y, dp_mono w.sub d1, dp_mono w.sub d2, Shp.ok x h1, Shp.ok y h2, _, rfl, hQ _ c2 e w q⟩
theorem et_ne [Shp α] [Shp β] {ma : MM G α} {mb : MM G β} (ha : EV f W S a ma) (hb : EV f W S b mb) (h1 : Shp.d α ≤ 60 := by decide) (h2 : Shp.d β ≤ 60 := by decide) : ET f W S (.Compare a [.NotEq] [b] pos) (fun g C => ma g fun x g1 => mb g1 fun y g2 => C (!peq x y) g2) := by
  obtain ⟨ta, a1, a2⟩ := ha.run
  obtain ⟨tb, b1, b2⟩ := hb.run
  refine ⟨tTest (tOp (rNeD f.K) ta tb), fun X hX => by rw [← hX.K]; exact pt_cmpR (op_neD (Nat.lt_of_succ_lt hX.hu)) (a1 X hX) (b1 X hX) (nomark b), fun c0 σ c r C Q hm hQ => sem_bin a2 b2 r hm fun x y v u c2 e w d1 d2 q => ?_⟩
  exact ⟨enc x, enc y, dp_mono w.sub d1, dp_mono w.sub d2, Shp.ok x h1, Shp.ok y h2, _, rfl, hQ _ c2 e w q⟩
/-- x in a list -/
def pin (x : α) (l : List β) : Bool := l.any fun y => peq y x
theorem any_map_enc {l : List β} {x : α} : ((l.map enc).any fun z => PyData.eqv z (enc x)) = pin x l := by
  rw [List.any_map]
  rfl
theorem ev_in [Shp α] [Shp (List β)] {ma : MM G α} {mb : MM G (List β)} (ha : EV f W S a ma) (hb : EV f W S b mb) (hk : behindInMarks .In b = false := by with_unfolding_all rfl) (h1 : Shp.d α ≤ 60 := by decide) (h2 : Shp.d (List β) ≤ 60 := by decide) :
    EV f W S (.Compare a [.In] [b] pos) (fun g C => ma g fun x g1 => mb g1 fun y g2 => C (pin x y) g2) := by
  obtain ⟨ta, a1, a2⟩ := ha.run
  obtain ⟨tb, b1, b2⟩ := hb.run
  refine ⟨tOp (rInD f.K) ta tb, fun X hX => by rw [← hX.K]; exact pe_cmpR (op_inD hX.hu) (a1 X hX) (b1 X hX) hk, fun c0 σ c r C Q hm hQ => sem_bin a2 b2 r hm fun x y v u c2 e w d1 d2 q => ?_⟩
  exact ⟨enc x, y.map enc, dp_mono w.sub d1, dp_mono w.sub d2, Shp.ok x h1, Shp.ok y h2, hQ _ _ c2 e w (by rw [any_map_enc]; exact .bl _) q⟩
theorem ev_notin [Shp α] [Shp (List β)] {ma : MM G α} {mb : MM G (List β)} (ha : EV f W S a ma) (hb : EV f W S b mb) (hk : behindInMarks .NotIn b = false := by with_unfolding_all rfl) (h1 : Shp.d α ≤ 60 := by decide) (h2 : Shp.d (List β) ≤ 60 := by decide) :
    EV f W S (.Compare a [.NotIn] [b] pos) (fun g C => ma g fun x g1 => mb g1 fun y g2 => C (!pin x y) g2) := by
  obtain ⟨ta, a1, a2⟩ := ha.run
  obtain ⟨tb, b1, b2⟩ := hb.run
  refine ⟨tOp (rNotInD f.K) ta tb, fun X hX => by rw [← hX.K]; exact pe_cmpR (op_notInD hX.hu) (a1 X hX) (b1 X hX) hk, fun c0 σ c r C Q hm hQ => sem_bin a2 b2 r hm fun x y v u c2 e w d1 d2 q => ?_⟩
  exact ⟨enc x, y.map enc, dp_mono w.sub d1, dp_mono w.sub d2, Shp.ok x h1, Shp.ok y h2, hQ _ _ c2 e w (by rw [any_map_enc]; exact .bl _) q⟩
theorem et_in [Shp α] [Shp (List β)] {ma : MM G α} {mb : MM G (List β)} (ha : EV f W S a ma) (hb : EV f W S b mb) (hk : behindInMarks .In b = false := by with_unfolding_all rfl) (h1 : Shp.d α ≤ 60 := by decide) (h2 : Shp.d (List β) ≤ 60 := by decide) :
    ET f W S (.Compare a [.In] [b] pos) (fun g C => ma g fun x g1 => mb g1 fun y g2 => C (pin x y) g2) := by
  obtain ⟨ta, a1, a2⟩ := ha.run
  obtain ⟨tb, b1, b2⟩ := hb.run
  refine ⟨tTest (tOp (rInD f.K) ta tb), fun X hX => by rw [← hX.K]; exact pt_cmpR (op_inD hX.hu) (a1 X hX) (b1 X hX) hk, fun c0 σ c r C Q hm hQ => sem_bin a2 b2 r hm fun x y v u c2 e w d1 d2 q => ?_⟩
  exact ⟨enc x, y.map enc, dp_mono w.sub d1, dp_mono w.sub d2, Shp.ok x h1, Shp.ok y h2, _, rfl, by rw [any_map_enc]; exact hQ _ c2 e w q⟩
theorem et_notin [Shp α] [Shp (List β)] {ma : MM G α} {mb : MM G (List β)} (ha : EV f W S a ma) (hb : EV f W S b mb) (hk : behindInMarks .NotIn b = false := by with_unfolding_all rfl) (h1 : Shp.d α ≤ 60 := by decide) (h2 : Shp.d (List β) ≤ 60 := by decide) :
    ET f W S (.Compare a [.NotIn] [b] pos) (fun g C => ma g fun x g1 => mb g1 fun y g2 => C (!pin x y) g2) := by
  obtain ⟨ta, a1, a2⟩ := ha.run
  obtain ⟨tb, b1, b2⟩ := hb.run
  refine ⟨tTest (tOp (rNotInD f.K) ta tb), fun X hX => by rw [← hX.K]; exact pt_cmpR (op_notInD hX.hu) (a1 X hX) (b1 X hX) hk, fun c0 σ c r C Q hm hQ => sem_bin a2 b2 r hm fun x y v u c2 e w d1 d2 q => ?_⟩
  exact ⟨enc x, y.map enc, dp_mono w.sub d1, dp_mono w.sub d2, Shp.ok x h1, Shp.ok y h2, _, rfl, by rw [any_map_enc]; exact hQ _ c2 e w q⟩
/-- a op b op' c of whole numbers -/
theorem et_chain {op op' : CmpOp} {p p' : Int → Int → Bool} {ma mb mc : MM G Int} (ho : ∀ X : Cx, OpR X (compareOp op) (rI0 fun i j => .bl (p i j))) (ho' : ∀ X : Cx, OpR X (compareOp op') (rI0 fun i j => .bl (p' i j)))
    (ha : EV f W S a ma) (hb : EV f W S b mb) (hc : EV f W S c mc) (hm : lastMarks [op, op'] [b, c] = false := by with_unfolding_all rfl) :
    ET f W S (.Compare a [op, op'] [b, c] pos) (fun g C => ma g fun x g1 => mb g1 fun y g2 => if p x y = true then mc g2 fun z g3 => C (p' y z) g3 else C false g2) := by
  obtain ⟨ta, a1, a2⟩ := ha.run
  obtain ⟨tb, b1, b2⟩ := hb.run
  obtain ⟨tc, c1, c2⟩ := hc.run
  refine ⟨_, fun X hX => pt_chain (ho X) (ho' X) (a1 X hX) (b1 X hX) (c1 X hX) hm, fun c0 σ c r C Q hm hQ => sem_bin a2 b2 r hm fun x y v u c2' e w d1 d2 q => ?_⟩
  refine ⟨x, y, dp_int d1, dp_int d2, p x y, rfl, ?_⟩
  by_cases h : p x y = true
  · rw [if_pos h] at q ⊢
    refine c2 c0 σ c2' (r.step e w) _ _ q fun z v3 c3 e3 w3 d3 q3 => ?_
    exact ⟨y, z, dp_int d2, dp_int d3, _, rfl, hQ _ c3 (e.trans e3) w3 q3⟩
  · rw [if_neg h] at q ⊢
    exact ⟨_, rfl, hQ _ c2' e w q⟩
theorem ev_chain {op op' : CmpOp} {p p' : Int → Int → Bool} {ma mb mc : MM G Int} (ho : ∀ X : Cx, OpR X (compareOp op) (rI0 fun i j => .bl (p i j))) (ho' : ∀ X : Cx, OpR X (compareOp op') (rI0 fun i j => .bl (p' i j)))
    (ha : EV f W S a ma) (hb : EV f W S b mb) (hc : EV f W S c mc) (hm : lastMarks [op, op'] [b, c] = false := by with_unfolding_all rfl) :
    EV f W S (.Compare a [op, op'] [b, c] pos) (fun g C => ma g fun x g1 => mb g1 fun y g2 => if p x y = true then mc g2 fun z g3 => C (p' y z) g3 else C false g2) := by
  obtain ⟨ta, a1, a2⟩ := ha.run
  obtain ⟨tb, b1, b2⟩ := hb.run
  obtain ⟨tc, c1, c2⟩ := hc.run
  refine ⟨_, fun X hX => pe_chain (ho X) (ho' X) (a1 X hX) (b1 X hX) (c1 X hX) hm, fun c0 σ c r C Q hm hQ => sem_bin a2 b2 r hm fun x y v u c2' e w d1 d2 q => ?_⟩
  refine ⟨x, y, dp_int d1, dp_int d2, p x y, rfl, ?_⟩
  by_cases h : p x y = true
  · rw [if_pos h] at q ⊢
    refine c2 c0 σ c2' (r.step e w) _ _ q fun z v3 c3 e3 w3 d3 q3 => ?_
    exact ⟨y, z, dp_int d2, dp_int d3, hQ _ _ c3 (e.trans e3) w3 (.bl _) q3⟩
  · rw [if_neg h] at q ⊢
    exact hQ _ _ c2' e w (.bl _) q
theorem dp_non_iff {K : PySem.W.Frag} {H : Hp} {v : V} {o : Option α} (hn : ∀ x : α, enc x ≠ .none) (h : Dp K H v (enc o)) : decide (v = .non) = o.isNone := by
  cases o with
  | none =>
    have := dp_non (show Dp K H v .none from h)
    subst this
    rfl
  | some x =>
    have h : Dp K H v (enc x) := h
    have q := hn x
    revert h q
    generalize enc x = d
    intro h q
    cases h <;> first
      | exact absurd rfl q
      | rfl
/-- data that is never None -/
class NN (α : Type) [Enc α] : Prop where
  ok : ∀ x : α, enc x ≠ .none
theorem ev_isN [NN α] {ma : MM G (Option α)} {j : Nat} {p' : Pos} (ha : EV f W S a ma) : EV f W S (.Compare a [.Is] [.Constant .none j p'] pos) (fun g C => ma g fun x g1 => C x.isNone g1) := by
  obtain ⟨ta, a1, a2⟩ := ha.run
  refine ⟨_, fun X hX => pe_cmp (pc_isN (a1 X hX)) rfl, fun c0 σ c r C Q hm hQ => a2 c0 σ c r _ _ hm fun x v c1 e w d q => ?_⟩
  rw [dp_non_iff NN.ok d]
  exact hQ _ _ c1 e w (.bl _) q
theorem ev_notN [NN α] {ma : MM G (Option α)} {j : Nat} {p' : Pos} (ha : EV f W S a ma) : EV f W S (.Compare a [.IsNot] [.Constant .none j p'] pos) (fun g C => ma g fun x g1 => C (!x.isNone) g1) := by
  obtain ⟨ta, a1, a2⟩ := ha.run
  refine ⟨_, fun X hX => pe_cmp (pc_notN (a1 X hX)) rfl, fun c0 σ c r C Q hm hQ => a2 c0 σ c r _ _ hm fun x v c1 e w d q => ?_⟩
  rw [dp_non_iff NN.ok d]
  exact hQ _ _ c1 e w (.bl _) q
theorem et_isN [NN α] {ma : MM G (Option α)} {j : Nat} {p' : Pos} (ha : EV f W S a ma) : ET f W S (.Compare a [.Is] [.Constant .none j p'] pos) (fun g C => ma g fun x g1 => C x.isNone g1) := by
  obtain ⟨ta, a1, a2⟩ := ha.run
  refine ⟨_, fun X hX => pt_cmp (pc_isN (a1 X hX)) rfl, fun c0 σ c r C Q hm hQ => a2 c0 σ c r _ _ hm fun x v c1 e w d q => ?_⟩
  rw [dp_non_iff NN.ok d]
  exact ⟨_, rfl, hQ _ c1 e w q⟩
theorem et_notN [NN α] {ma : MM G (Option α)} {j : Nat} {p' : Pos} (ha : EV f W S a ma) : ET f W S (.Compare a [.IsNot] [.Constant .none j p'] pos) (fun g C => ma g fun x g1 => C (!x.isNone) g1) := by
  obtain ⟨ta, a1, a2⟩ := ha.run
  refine ⟨_, fun X hX => pt_cmp (pc_notN (a1 X hX)) rfl, fun c0 σ c r C Q hm hQ => a2 c0 σ c r _ _ hm fun x v c1 e w d q => ?_⟩
  rw [dp_non_iff NN.ok d]
  exact ⟨_, rfl, hQ _ c1 e w q⟩

/-! ### truth, not, and, or, if -/
theorem et_val {m : MM G Bool} (h : EV f W S a m) (he : ∀ (env : Env) whole, isTrue a env whole = (do let v ← whole; standAt a.pos; holding [v] (truthy v)) := by intro _ _; rfl) : ET f W S a m := by
  obtain ⟨t, h1, h2⟩ := h.run
  refine ⟨_, fun X hX => pt_val (h1 X hX) (he X.env), fun c0 σ c r C Q hm hQ => h2 c0 σ c r _ _ hm fun x v c1 e w d q => ?_⟩
  exact ⟨x, dp_bl d, hQ _ c1 e w q⟩
theorem et_tru {m : MM G (List α)} (h : EV f W S a m) (he : ∀ (env : Env) whole, isTrue a env whole = (do let v ← whole; standAt a.pos; holding [v] (truthy v)) := by intro _ _; rfl) : ET f W S a (fun g C => m g fun x g1 => C (!x.isEmpty) g1) := by
  obtain ⟨t, h1, h2⟩ := h.run
  refine ⟨fun σ H Q => t σ H fun x H' => ∃ k, TruV f.K x H' k ∧ Q k H', fun X hX => by rw [← hX.K]; exact pt_truth (h1 X hX) (he X.env), fun c0 σ c r C Q hm hQ => h2 c0 σ c r _ _ hm fun x v c1 e w d q => ?_⟩
  obtain ⟨p, vs, rfl, hs, hd⟩ := dp_list (dp_mono w.sub d)
  refine ⟨!vs.isEmpty, .inl ⟨vs, hs, rfl⟩, ?_⟩
  have hl : vs.isEmpty = x.isEmpty := by
    have := dpAll_len hd
    rw [List.length_map] at this
    cases vs <;> cases x <;> simp_all
  rw [hl]
  exact hQ _ c1 e w q
theorem et_not {m : MM G Bool} (h : ET f W S a m) : ET f W S (.UnaryOp .Not a pos) (fun g C => m g fun x g1 => C (!x) g1) := by
  obtain ⟨t, h1, h2⟩ := h.run
  exact ⟨_, fun X hX => pt_not (h1 X hX), fun c0 σ c r C Q hm hQ => h2 c0 σ c r _ _ hm fun x c1 e w q => hQ _ c1 e w q⟩
theorem ev_not {m : MM G Bool} (h : EV f W S a m) : EV f W S (.UnaryOp .Not a pos) (fun g C => m g fun x g1 => C (!x) g1) := by
  obtain ⟨t, h1, h2⟩ := h.run
  exact ⟨_, fun X hX => pe_not (h1 X hX), fun c0 σ c r C Q hm hQ => h2 c0 σ c r _ _ hm fun x v c1 e w d q => ⟨x, dp_bl d, hQ _ _ c1 e w (.bl _) q⟩⟩
theorem ew_and1 {m : MM G Bool} (h : ET f W S a m) : EW f W S (.BoolOp .And [a] pos) m := by
  obtain ⟨t, h1, h2⟩ := h.run
  exact ⟨t, fun X hX => pw_and1 (h1 X hX), h2⟩
theorem ew_or1 {m : MM G Bool} (h : ET f W S a m) : EW f W S (.BoolOp .Or [a] pos) m := by
  obtain ⟨t, h1, h2⟩ := h.run
  exact ⟨t, fun X hX => pw_or1 (h1 X hX), h2⟩
theorem ew_and {rest : List Expr} {m n : MM G Bool} (ha : ET f W S a m) (hb : EW f W S (.BoolOp .And (b :: rest) pos) n) : EW f W S (.BoolOp .And (a :: b :: rest) pos) (fun g C => m g fun x g1 => if x = true then n g1 C else C false g1) := by
  obtain ⟨t, a1, a2⟩ := ha.run
  obtain ⟨u, b1, b2⟩ := hb.run
  refine ⟨_, fun X hX => pw_and (a1 X hX) (b1 X hX), fun c0 σ c r C Q hm hQ => a2 c0 σ c r _ _ hm fun x c1 e w q => ?_⟩
  cases x with
  | true => exact b2 c0 σ c1 (r.step e w) _ _ q fun y c2 e2 w2 q2 => hQ y c2 (e.trans e2) w2 q2
  | false => exact hQ false c1 e w q
theorem ew_or {rest : List Expr} {m n : MM G Bool} (ha : ET f W S a m) (hb : EW f W S (.BoolOp .Or (b :: rest) pos) n) : EW f W S (.BoolOp .Or (a :: b :: rest) pos) (fun g C => m g fun x g1 => if x = true then C true g1 else n g1 C) := by
  obtain ⟨t, a1, a2⟩ := ha.run
  obtain ⟨u, b1, b2⟩ := hb.run
  refine ⟨_, fun X hX => pw_or (a1 X hX) (b1 X hX), fun c0 σ c r C Q hm hQ => a2 c0 σ c r _ _ hm fun x c1 e w q => ?_⟩
  cases x with
  | false => exact b2 c0 σ c1 (r.step e w) _ _ q fun y c2 e2 w2 q2 => hQ y c2 (e.trans e2) w2 q2
  | true => exact hQ true c1 e w q
theorem EW.et {m : MM G Bool} (h : EW f W S a m) : ET f W S a m := by
  obtain ⟨t, h1, h2⟩ := h.run
  exact ⟨t, fun X hX => (h1 X hX).pt, h2⟩
theorem ev_one {op : BoolOp} {m : MM G Bool} (h : EV f W S a m) : EV f W S (.BoolOp op [a] pos) m := by
  obtain ⟨t, h1, h2⟩ := h.run
  exact ⟨t, fun X hX => pe_one (h1 X hX), h2⟩
theorem ev_and {rest : List Expr} {m n : MM G Bool} (ha : EV f W S a m) (hb : EV f W S (.BoolOp .And (b :: rest) pos) n) : EV f W S (.BoolOp .And (a :: b :: rest) pos) (fun g C => m g fun x g1 => if x = true then n g1 C else C false g1) := by
  obtain ⟨t, a1, a2⟩ := ha.run
  obtain ⟨u, b1, b2⟩ := hb.run
  refine ⟨_, fun X hX => pe_and (a1 X hX) (b1 X hX), fun c0 σ c r C Q hm hQ => a2 c0 σ c r _ _ hm fun x v c1 e w d q => ⟨x, dp_bl d, ?_⟩⟩
  cases x with
  | true => exact b2 c0 σ c1 (r.step e w) _ _ q fun y v c2 e2 w2 d2 q2 => hQ y v c2 (e.trans e2) w2 d2 q2
  | false => exact hQ false _ c1 e w (.bl _) q
theorem ev_or {rest : List Expr} {m n : MM G Bool} (ha : EV f W S a m) (hb : EV f W S (.BoolOp .Or (b :: rest) pos) n) : EV f W S (.BoolOp .Or (a :: b :: rest) pos) (fun g C => m g fun x g1 => if x = true then C true g1 else n g1 C) := by
  obtain ⟨t, a1, a2⟩ := ha.run
  obtain ⟨u, b1, b2⟩ := hb.run
  refine ⟨_, fun X hX => pe_or (a1 X hX) (b1 X hX), fun c0 σ c r C Q hm hQ => a2 c0 σ c r _ _ hm fun x v c1 e w d q => ⟨x, dp_bl d, ?_⟩⟩
  cases x with
  | false => exact b2 c0 σ c1 (r.step e w) _ _ q fun y v c2 e2 w2 d2 q2 => hQ y v c2 (e.trans e2) w2 d2 q2
  | true => exact hQ true _ c1 e w (.bl _) q
theorem ev_if {mc : MM G Bool} {ma mb : MM G α} (hc : ET f W S c mc) (ha : EV f W S a ma) (hb : EV f W S b mb) : EV f W S (.IfExp c a b pos) (fun g C => mc g fun x g1 => if x = true then ma g1 C else mb g1 C) := by
  obtain ⟨t, c1, c2⟩ := hc.run
  obtain ⟨u, a1, a2⟩ := ha.run
  obtain ⟨w, b1, b2⟩ := hb.run
  refine ⟨_, fun X hX => pe_ifExp (c1 X hX) (a1 X hX) (b1 X hX), fun c0 σ c r C Q hm hQ => c2 c0 σ c r _ _ hm fun x c1 e w q => ?_⟩
  cases x with
  | true => exact a2 c0 σ c1 (r.step e w) _ _ q fun y v c2 e2 w2 d2 q2 => hQ y v c2 (e.trans e2) w2 d2 q2
  | false => exact b2 c0 σ c1 (r.step e w) _ _ q fun y v c2 e2 w2 d2 q2 => hQ y v c2 (e.trans e2) w2 d2 q2
/-- a branch that is never taken, or an expression that is never reached -/
theorem ev_never : EV f W S a (α := α) (fun g C => False) :=
  ⟨fun _ _ _ => False, fun X hX => ⟨fun _ _ _ _ _ _ h => h.elim⟩, fun c0 σ c r C Q hm hQ => hm⟩
theorem et_never : ET f W S a (fun g C => False) :=
  ⟨fun _ _ _ => False, fun X hX => ⟨fun _ _ _ _ _ _ h => h.elim⟩, fun c0 σ c r C Q hm hQ => hm⟩
end
end M3
set_option Elab.async false
set_option linter.all false
set_option maxRecDepth 100000
/-! Typed readings of lists, tuples, texts, calls, what is walked, comprehensions. -/
namespace M3
open PySem PySem.Spec PyProof.Rows L2 Enc Args

variable {G : Type}
/-- a list that stands, tracked and not the world's, or written -/
def LAt (K : PySem.W.Frag) (c : Cfg G) (p : Addr) (vs : List V) : Prop := (Rd c.H p (.lst vs) ∧ ¬ c.vol p) ∨
  ∃ (o : Obj) (its : Array Value) (n : Nat), K.lookup p = some o ∧ o.cls = .type "list" ∧ o.dict = none ∧ o.data = .seq its n ∧ its.size ≤ sizeLine ∧ Vals vs its.toList
theorem LAt.sq {K : PySem.W.Frag} {c : Cfg G} {p : Addr} {vs : List V} (h : LAt K c p vs) : SqL K c.H p vs := by
  rcases h with ⟨h, _⟩ | h
  · exact .inl h
  · exact .inr h
theorem LAt.step {K : PySem.W.Frag} {c c' : Cfg G} {p : Addr} {vs : List V} (h : LAt K c p vs) (x : Ext c c') : LAt K c' p vs := by
  rcases h with ⟨h, n⟩ | h
  · rcases h with h | ⟨o, h⟩
    · exact .inl ⟨.inl (x.keep _ _ h n), fun z => n (x.vnew _ z (some_ne h))⟩
    · exact .inl ⟨.inr ⟨o, x.keep _ _ h n⟩, fun z => n (x.vnew _ z (some_ne h))⟩
  · exact .inr h
theorem LAt.of_frozen {K : PySem.W.Frag} {W : Wd G} {c : Cfg G} {p : Addr} {vs : List V} (w : Wf W c) (h : SqL K c.F p vs) : LAt K c p vs := by
  rcases h with h | h
  · rcases h with h | ⟨o, h⟩
    · exact .inl ⟨.inl (w.sub _ _ h), fun z => by rw [w.vf _ z] at h; cases h⟩
    · exact .inl ⟨.inr ⟨o, w.sub _ _ h⟩, fun z => by rw [w.vf _ z] at h; cases h⟩
  · exact .inr h
def SemL (K : PySem.W.Frag) (W : Wd G) (S : Sy) (t : TE) {α : Type} [Enc α] (m : MM G (List α)) : Prop :=
  ∀ (c0 : Cfg G) (σ : Sg) (c : Cfg G), Rel K W c0 S σ c → ∀ (C : List α → G → Prop) (Q : VK), m c.g C →
    (∀ x p vs c', Ext c c' → Wf W c' → LAt K c' p vs → DpAll K c'.F vs (x.map enc) → C x c'.g → Q (.ref p) c'.H) → t σ c.H Q
/-- an expression that gives a list that is looked at -/
structure EL (f : Fm) (W : Wd G) (S : Sy) (e : Expr) {α : Type} [Enc α] (m : MM G (List α)) : Prop where
  run : ∃ t, (∀ X, FmAt f X → PE X e t) ∧ SemL f.K W S t m
section
variable {f : Fm} {W : Wd G} {S : Sy} {a b c : Expr} {pos : Pos} {α β γ : Type} [Enc α] [Enc β] [Enc γ]
theorem EV.el {m : MM G (List α)} (h : EV f W S a m) : EL f W S a m := by
  obtain ⟨t, h1, h2⟩ := h.run
  refine ⟨t, h1, fun c0 σ c r C Q hm hQ => h2 c0 σ c r C Q hm fun x v c' e w d q => ?_⟩
  obtain ⟨p, vs, rfl, hs, hd⟩ := dp_list d
  exact hQ x p vs c' e w (.of_frozen w hs) hd q
theorem EN.el {m : MM G (List α)} (h : EN f W S a m) : EL f W S a m := h.ev.el
/-- a list of the def's own, by its name -/
theorem el_own {i : Nat} {x : Str} {v : List α} (hN : f.N[i]? = some x := by rfl) (hv : VisF f x := by first | exact Or.inl rfl | exact Or.inr (Or.inl rfl) | exact Or.inr (Or.inr rfl))
    (hS : S[i]? = some (some (.ow (.lst (v.map enc)))) := by rfl) : EL f W S (.Name x pos) (fun g C => C v g) := by
  refine ⟨tVar i, fun X hX => pe_var (by rw [hX.N]; exact hN) (hX.vis hv) (hX.dbg x (List.mem_of_getElem? hN)).1 (hX.dbg x (List.mem_of_getElem? hN)).2, fun c0 σ c r C Q hm hQ => ?_⟩
  obtain ⟨p, o, e, h1, h2, h3, h4, h5⟩ := r.ok i _ hS
  cases o with
  | lst vs => exact ⟨.ref p, e, hQ v p vs c (Ext.refl c) r.wf (.inl ⟨.inl h1, h4⟩) h2 hm⟩
  | _ => exact (show False from h2).elim

theorem at_map {l : List α} {i : Int} {x : α} {φ : α → β} (h : atI l i = some x) : atI (l.map φ) i = some (φ x) := by
  unfold atI at h ⊢
  rw [List.length_map]
  cases e : ixN l.length i with
  | none => rw [e] at h; cases h
  | some j =>
    rw [e] at h
    show (l.map φ)[j]? = _
    rw [List.getElem?_map]
    have h : l[j]? = some x := h
    rw [h]
    rfl
theorem dpAll_at {K : PySem.W.Frag} {H : Hp} {vs : List V} {ds : List PyData} {i : Int} {d : PyData} (h : DpAll K H vs ds) (e : atI ds i = some d) : ∃ v, atI vs i = some v ∧ Dp K H v d := by
  unfold atI at e ⊢
  rw [dpAll_len h]
  cases q : ixN ds.length i with
  | none => rw [q] at e; cases e
  | some j =>
    rw [q] at e
    exact dpAll_get h e
/-- xs[i] -/
theorem ev_ix {ma : MM G (List α)} {mb : MM G Int} (ha : EL f W S a ma) (hb : EV f W S b mb) (hp : PlainIx b := by exact fun _ _ => rfl) :
    EV f W S (.Subscript a b pos) (fun g C => ma g fun xs g1 => mb g1 fun i g2 => ∃ x, atI xs i = some x ∧ C x g2) := by
  obtain ⟨ta, a1, a2⟩ := ha.run
  obtain ⟨tb, b1, b2⟩ := hb.run
  refine ⟨tOp (rIxL f.K) ta tb, fun X hX => by rw [← hX.K]; exact pe_ix ix_list (a1 X hX) (b1 X hX) hp, fun c0 σ c r C Q hm hQ => a2 c0 σ c r _ _ hm fun xs p vs c1 e1 w1 l1 d1 q1 => ?_⟩
  refine b2 c0 σ c1 (r.step e1 w1) _ _ q1 fun i u c2 e2 w2 d2 q2 => ?_
  obtain ⟨x, hx, q⟩ := q2
  obtain ⟨v, hv, hd⟩ := dpAll_at (dpAll_mono e2.fz d1) (at_map (φ := enc) hx)
  exact ⟨p, vs, i, v, rfl, dp_int d2, (l1.step e2).sq, hv, hQ x v c2 (e1.trans e2) w2 hd q⟩
theorem sqT_mono {K : PySem.W.Frag} {H H' : Hp} {p : Addr} {vs : List V} (e : Same H H') (h : SqT K H p vs) : SqT K H' p vs := by
  rcases h with (h | ⟨o, h⟩) | h
  · exact .inl (.inl (e _ _ h))
  · exact .inl (.inr ⟨o, e _ _ h⟩)
  · exact .inr h
/-- t[k] of a tuple, k written -/
theorem ev_ixT {ma : MM G α} (φ : α → β) (k : Int) (h : ∀ x, ∃ ds, enc x = .tuple ds ∧ atI ds k = some (enc (φ x))) (ha : EV f W S a ma) (hb : EV f W S b (fun g C => C k g)) (hp : PlainIx b := by exact fun _ _ => rfl) :
    EV f W S (.Subscript a b pos) (fun g C => ma g fun x g1 => C (φ x) g1) := by
  obtain ⟨ta, a1, a2⟩ := ha.run
  obtain ⟨tb, b1, b2⟩ := hb.run
  refine ⟨tOp (rIxT f.K) ta tb, fun X hX => by rw [← hX.K]; exact pe_ix ix_tup (a1 X hX) (b1 X hX) hp, fun c0 σ c r C Q hm hQ => a2 c0 σ c r _ _ hm fun x v c1 e1 w1 d1 q1 => ?_⟩
  refine b2 c0 σ c1 (r.step e1 w1) (fun i g => i = k ∧ C (φ x) g) _ ⟨rfl, q1⟩ fun i u c2 e2 w2 d2 q2 => ?_
  obtain ⟨rfl, q⟩ := q2
  obtain ⟨ds, h1, h2⟩ := h x
  rw [h1] at d1
  obtain ⟨p, vs, rfl, hs, hd⟩ := dp_tup (dp_mono e2.fz d1)
  obtain ⟨v, hv, hd⟩ := dpAll_at hd h2
  exact ⟨p, vs, _, v, rfl, dp_int d2, sqT_mono w2.sub hs, hv, hQ _ v c2 (e1.trans e2) w2 hd q⟩
/-- t[i] of a tuple of any length -/
theorem ev_ixU {ma : MM G (Tup α)} {mb : MM G Int} (ha : EV f W S a ma) (hb : EV f W S b mb) (hp : PlainIx b := by exact fun _ _ => rfl) :
    EV f W S (.Subscript a b pos) (fun g C => ma g fun xs g1 => mb g1 fun i g2 => ∃ x, atI xs.l i = some x ∧ C x g2) := by
  obtain ⟨ta, a1, a2⟩ := ha.run
  obtain ⟨tb, b1, b2⟩ := hb.run
  refine ⟨tOp (rIxT f.K) ta tb, fun X hX => by rw [← hX.K]; exact pe_ix ix_tup (a1 X hX) (b1 X hX) hp, fun c0 σ c r C Q hm hQ => sem_bin a2 b2 r hm fun xs i v u c2 e w d1 d2 q => ?_⟩
  obtain ⟨x, hx, q⟩ := q
  obtain ⟨p, vs, rfl, hs, hd⟩ := dp_tup d1
  obtain ⟨v, hv, hd⟩ := dpAll_at hd (at_map (φ := enc) hx)
  exact ⟨p, vs, i, v, rfl, dp_int d2, sqT_mono w.sub hs, hv, hQ _ v c2 e w hd q⟩
/-- s[i] of a text -/
theorem ev_ixS {ma : MM G Str} {mb : MM G Int} (ha : EV f W S a ma) (hb : EV f W S b mb) (hp : PlainIx b := by exact fun _ _ => rfl) :
    EV f W S (.Subscript a b pos) (fun g C => ma g fun xs g1 => mb g1 fun i g2 => xs.length ≤ sizeLine ∧ ∃ x, atI xs.cps.toList i = some x ∧ C (⟨#[x]⟩ : Str) g2) := by
  obtain ⟨ta, a1, a2⟩ := ha.run
  obtain ⟨tb, b1, b2⟩ := hb.run
  refine ⟨tOp rIxS ta tb, fun X hX => pe_ix ix_str (a1 X hX) (b1 X hX) hp, fun c0 σ c r C Q hm hQ => sem_bin a2 b2 r hm fun xs i v u c2 e w d1 d2 q => ?_⟩
  obtain ⟨hl, x, hx, q⟩ := q
  exact ⟨xs, i, x, dp_str d1, dp_int d2, hl, hx, hQ _ _ c2 e w (.str _) q⟩

/-! ### slices -/
def SemO (K : PySem.W.Frag) (W : Wd G) (S : Sy) (t : TO) (m : MM G (Option Int)) : Prop :=
  ∀ (c0 : Cfg G) (σ : Sg) (c : Cfg G), Rel K W c0 S σ c → ∀ (C : Option Int → G → Prop) (Q : Option Int → Hp → Prop), m c.g C →
    (∀ x c', Ext c c' → Wf W c' → C x c'.g → Q x c'.H) → t σ c.H Q
structure EO (f : Fm) (W : Wd G) (S : Sy) (e : Option Expr) (m : MM G (Option Int)) : Prop where
  run : ∃ t, (∀ X, FmAt f X → PO X e t) ∧ SemO f.K W S t m
theorem eo_none : EO f W S none (fun g C => C none g) := ⟨_, fun X hX => po_none, fun c0 σ c r C Q hm hQ => hQ none c (Ext.refl c) r.wf hm⟩
theorem eo_some {m : MM G Int} (h : EV f W S a m) : EO f W S (some a) (fun g C => m g fun i g1 => C (some i) g1) := by
  obtain ⟨t, h1, h2⟩ := h.run
  exact ⟨_, fun X hX => po_some (h1 X hX), fun c0 σ c r C Q hm hQ => h2 c0 σ c r _ _ hm fun i v c1 e w d q => ⟨i, dp_int d, hQ _ c1 e w q⟩⟩
/-- xs[lo:hi] as a list -/
def cut (xs : List α) (lo hi : Option Int) : List α := (xs.drop (HT.sIx xs.length 0 lo)).take (HT.sIx xs.length xs.length hi - HT.sIx xs.length 0 lo)
theorem cut_map {φ : α → β} {xs : List α} {lo hi : Option Int} : cut (xs.map φ) lo hi = (cut xs lo hi).map φ := by
  unfold cut
  rw [List.length_map, List.map_take, List.map_drop]
theorem dpAll_cut {K : PySem.W.Frag} {H : Hp} {vs : List V} {ds : List PyData} {lo hi : Option Int} (h : DpAll K H vs ds) : DpAll K H (cutV vs lo hi) ((ds.drop (HT.sIx ds.length 0 lo)).take (HT.sIx ds.length ds.length hi - HT.sIx ds.length 0 lo)) := by
  unfold cutV
  rw [dpAll_len h]
  exact dpAll_take _ (dpAll_drop _ h)
theorem newL_at {K : PySem.W.Frag} {c c' : Cfg G} {W : Wd G} {p : Addr} {vs : List V} {ds : List PyData} (e : Ext c c') (w : Wf W c') (np : c'.H p = none) (h : DpAll K c'.F vs ds) :
    NewL K c (c'.made p (.lst vs)) p (.lst vs) (.lst ds) where
  at' := upd_same
  ok := h
  nf := w.sub.free np
  nv := fun z => w.vh p z np
  new := by
    cases q : c.H p with
    | none => rfl
    | some o => exact absurd np (e.dom p (by rw [q]; exact fun z => nomatch z))
theorem en_slice {lo hi : Option Expr} {p2 : Pos} {ma : MM G (List α)} {ml mh : MM G (Option Int)} (ha : EL f W S a ma) (hl : EO f W S lo ml) (hh : EO f W S hi mh) :
    EN f W S (.Subscript a (.Slice lo hi none p2) pos) (fun g C => ma g fun xs g1 => ml g1 fun l g2 => mh g2 fun h g3 => C (cut xs l h) g3) := by
  obtain ⟨ta, a1, a2⟩ := ha.run
  obtain ⟨tl, l1, l2⟩ := hl.run
  obtain ⟨th, h1, h2⟩ := hh.run
  refine ⟨tSl (rSlL f.K) ta tl th, fun X hX => by rw [← hX.K]; exact pe_slice sl_list (a1 X hX) (l1 X hX) (h1 X hX), fun c0 σ c r C Q hm hQ => a2 c0 σ c r _ _ hm fun xs p vs c1 e1 w1 la d1 q1 => ?_⟩
  refine l2 c0 σ c1 (r.step e1 w1) _ _ q1 fun lo c2 e2 w2 q2 => h2 c0 σ c2 ((r.step e1 w1).step e2 w2) _ _ q2 fun hi c3 e3 w3 q3 => ?_
  have e23 := e2.trans e3
  refine ⟨p, vs, rfl, (la.step e23).sq, fun D nD => ?_⟩
  have d3 := dpAll_cut (lo := lo) (hi := hi) (dpAll_mono e23.fz d1)
  have e13 := e1.trans e23
  refine hQ _ D _ (c3.made D (.lst (cutV vs lo hi))) (e13.trans (Ext.made nD)) (w3.made nD) (newL_at e13 w3 nD ?_) q3
  have q := cut_map (φ := enc) (xs := xs) (lo := lo) (hi := hi)
  unfold cut at q
  show DpAll _ _ _ ((cut xs lo hi).map enc)
  unfold cut
  rw [← q]
  exact d3
theorem ev_sliceS {lo hi : Option Expr} {p2 : Pos} {ma : MM G Str} {ml mh : MM G (Option Int)} (ha : EV f W S a ma) (hl : EO f W S lo ml) (hh : EO f W S hi mh) :
    EV f W S (.Subscript a (.Slice lo hi none p2) pos) (fun g C => ma g fun xs g1 => ml g1 fun l g2 => mh g2 fun h g3 => xs.length ≤ sizeLine ∧ C (cutS xs l h) g3) := by
  obtain ⟨ta, a1, a2⟩ := ha.run
  obtain ⟨tl, l1, l2⟩ := hl.run
  obtain ⟨th, h1, h2⟩ := hh.run
  refine ⟨tSl rSlS ta tl th, fun X hX => pe_slice sl_str (a1 X hX) (l1 X hX) (h1 X hX), fun c0 σ c r C Q hm hQ => a2 c0 σ c r _ _ hm fun xs v c1 e1 w1 d1 q1 => ?_⟩
  refine l2 c0 σ c1 (r.step e1 w1) _ _ q1 fun lo c2 e2 w2 q2 => h2 c0 σ c2 ((r.step e1 w1).step e2 w2) _ _ q2 fun hi c3 e3 w3 q3 => ?_
  exact ⟨xs, dp_str d1, q3.1, hQ _ _ c3 (e1.trans (e2.trans e3)) w3 (.str _) q3.2⟩

/-! ### displays, arguments -/
theorem ea_nil : EA f W S [] (α := Unit) (fun g C => C () g) := ⟨_, fun X hX => pa_nil, fun c0 σ c r C Q hm hQ => hQ () [] c (Ext.refl c) r.wf .nil hm⟩
theorem ea_cons {δ : Type} [Args δ] {es : List Expr} {ma : MM G α} {mr : MM G δ} (ha : EV f W S a ma) (hr : EA f W S es mr) (hs : ∀ env, starEach (a :: es) env = (false, eval a env) :: starEach es env := by intro _; rfl) :
    EA f W S (a :: es) (α := α × δ) (fun g C => ma g fun x g1 => mr g1 fun y g2 => C (x, y) g2) := by
  obtain ⟨ta, a1, a2⟩ := ha.run
  obtain ⟨tr, r1, r2⟩ := hr.run
  refine ⟨_, fun X hX => pa_cons (a1 X hX) (r1 X hX) (hs X.env), fun c0 σ c r C Q hm hQ => a2 c0 σ c r _ _ hm fun x v c1 e1 w1 d1 q1 => ?_⟩
  exact r2 c0 σ c1 (r.step e1 w1) _ _ q1 fun y vs c2 e2 w2 d2 q2 => hQ (x, y) (v :: vs) c2 (e1.trans e2) w2 (.cons (dp_mono e2.fz d1) d2) q2
/-- a tuple written -/
theorem ev_tup {δ : Type} [Args δ] {es : List Expr} {x1 : Nat} {m : MM G δ} (φ : δ → α) (h : ∀ x, enc (φ x) = .tuple (encs x)) (hl : ∀ x : δ, (encs x).length ≤ 64) (he : EA f W S es m) :
    EV f W S (.Tuple es x1 pos) (fun g C => m g fun x g1 => C (φ x) g1) := by
  obtain ⟨t, h1, h2⟩ := he.run
  refine ⟨_, fun X hX => pe_tup (h1 X hX), fun c0 σ c r C Q hm hQ => h2 c0 σ c r _ _ hm fun x vs c1 e1 w1 d1 q1 => ?_⟩
  refine ⟨by rw [dpAll_len d1]; exact Nat.le_trans (hl x) (by rw [sizeLine_eq]; decide), fun p np => ?_⟩
  refine hQ _ _ (c1.laid p (.tup vs)) (e1.trans (Ext.laid w1 np)) (w1.laid np) ?_ q1
  rw [h]
  exact .tup (SqT.of upd_same) (dpAll_mono (same_upd (w1.sub.free np)) d1)
/-- a list written -/
theorem en_lst {δ : Type} [Args δ] {es : List Expr} {m : MM G δ} (φ : δ → List α) (h : ∀ x, encs x = (φ x).map enc) (hl : ∀ x : δ, (encs x).length ≤ 64) (he : EA f W S es m) :
    EN f W S (.List es pos) (fun g C => m g fun x g1 => C (φ x) g1) := by
  obtain ⟨t, h1, h2⟩ := he.run
  refine ⟨_, fun X hX => pe_lst (h1 X hX), fun c0 σ c r C Q hm hQ => h2 c0 σ c r _ _ hm fun x vs c1 e1 w1 d1 q1 => ?_⟩
  refine ⟨by rw [dpAll_len d1]; exact Nat.le_trans (hl x) (by rw [sizeLine_eq]; decide), fun p np => ?_⟩
  refine hQ _ p _ (c1.made p (.lst vs)) (e1.trans (Ext.made np)) (w1.made np) (newL_at e1 w1 np ?_) q1
  rw [← h]
  exact d1
theorem en_nil : EN f W S (.List [] pos) (fun g C => C ([] : List α) g) := en_lst (δ := Unit) (fun _ => []) (fun _ => rfl) (fun _ => by show 0 ≤ 64; omega) ea_nil

/-! ### defs of the program -/
/-- a pure def: it reads its arguments, makes new things, gives what m tells -/
def spP (K : PySem.W.Frag) {δ : Type} [Args δ] (m : δ → (α → Prop) → Prop) : Sp := fun vs H Q _ => ∃ (F : Hp) (x : δ) (C : α → Prop), Same F H ∧ DpAll K F vs (encs x) ∧ m x C ∧
  ∀ y v H' F', Same H H' → Same F F' → Same F' H' → (∀ b, H b ≠ none → F' b = F b) → Dp K F' v (enc y) → C y → Q v H'
structure Bs where
  prog : Program
  w : World
  K : PySem.W.Frag
  mg : Str → Option Value
  base : Heap
abbrev Fm.bs (f : Fm) : Bs := ⟨f.prog, f.w, f.K, f.mg, f.base⟩
/-- the def of this name, called within k levels, does what m tells -/
structure Fn (B : Bs) (k : Nat) (x : Str) {δ : Type} [Args δ] (m : δ → (α → Prop) → Prop) : Prop where
  ex : ∃ fa fd ps, FnOk B.prog B.w B.K B.mg B.base CX0 k fa fd ps (spP B.K m) ∧ B.mg x = some (.ref fa) ∧ PySem.W.keepIn B.K (.ref fa) = true ∧ Binds B.K fd ps []
theorem Wf.after {K : PySem.W.Frag} {c : Cfg G} (w : Wf W c) {H' F' : Hp} (s1 : Same c.H H') (s2 : Same c.F F') (s3 : Same F' H') (s4 : ∀ b, c.H b ≠ none → F' b = c.F b) :
    Ext c { c with H := H', F := F' } ∧ Wf W { c with H := H', F := F' } := by
  have hd : ∀ b, c.H b ≠ none → H' b ≠ none := fun b h => by
    cases q : c.H b with
    | none => exact absurd q h
    | some o => exact some_ne (s1 _ _ q)
  refine ⟨⟨fun b o h _ => s1 b o h, s2, s4, fun _ h => h, fun _ h _ => h, hd⟩, ⟨s3, fun b h => (s4 b (w.vh b h)).trans (w.vf b h), fun b h => hd b (w.vh b h), W.frame _ _ _ _ (fun b h => ?_) w.inv⟩⟩
  cases q : c.H b with
  | none => exact absurd q (w.vh b h)
  | some o => exact s1 _ _ q
theorem ev_call {δ : Type} [Args δ] {es : List Expr} {x : Str} {p : Pos} {k : Nat} {m : δ → (α → Prop) → Prop} {me : MM G δ} (F : Fn f.bs k x m) (hk : k ≤ f.k) (hg : GlF f x) (he : EA f W S (a :: es) me)
    (hs : ∀ env, starEach (a :: es) env = (false, eval a env) :: starEach es env := by intro _; rfl) (hpl : ∀ env, (backTo pos (starEach es env)).any (·.1) = false := by intro _; rfl) (hdb : (x == ("__debug__" : Str)) = false := by decide) :
    EV f W S (.Call (.Name x p) (a :: es) [] pos) (fun g C => me g fun y g1 => m y fun z => C z g1) := by
  obtain ⟨fa, fd, ps, F, hm, hkeep, hb⟩ := F.ex
  obtain ⟨t, h1, h2⟩ := he.run
  refine ⟨tCall (spP f.K m) [] E0 t, fun X hX => ?_, fun c0 σ c r C Q hm hQ => h2 c0 σ c r _ _ hm fun y vs c1 e1 w1 d1 q1 => ?_⟩
  · have F' : FnOk X.prog X.w X.K X.mg X.base CX0 k fa fd ps (spP f.K m) := by rw [hX.prog, hX.w, hX.K, hX.mg, hX.base]; exact F
    exact pe_call F' (hX.room.mono hk) (hX.gl hg) (by rw [hX.mg]; exact hm) (by rw [hX.K]; exact hkeep) (by rw [hX.K]; exact hb) .nil pass0 (h1 X hX) hdb (hs X.env) (hpl X.env)
  · refine ⟨c1.F, y, _, w1.sub, by rw [List.append_nil]; exact d1, q1, fun z v H' F' s1 s2 s3 s4 d q => ?_⟩
    obtain ⟨e2, w2⟩ := Wf.after (K := f.K) w1 s1 s2 s3 s4
    exact hQ z v _ (e1.trans e2) w2 d q
theorem ev_call0 {x : Str} {p : Pos} {k : Nat} {m : Unit → (α → Prop) → Prop} (F : Fn f.bs k x m) (hk : k ≤ f.k) (hg : GlF f x) (hdb : (x == ("__debug__" : Str)) = false := by decide) :
    EV f W S (.Call (.Name x p) [] [] pos) (fun g C => m () fun z => C z g) := by
  obtain ⟨fa, fd, ps, F, hm, hkeep, hb⟩ := F.ex
  refine ⟨tCall (spP f.K m) [] E0 tNil, fun X hX => ?_, fun c0 σ c r C Q hm hQ => ?_⟩
  · have F' : FnOk X.prog X.w X.K X.mg X.base CX0 k fa fd ps (spP f.K m) := by rw [hX.prog, hX.w, hX.K, hX.mg, hX.base]; exact F
    exact pe_call0 F' (hX.room.mono hk) (hX.gl hg) (by rw [hX.mg]; exact hm) (by rw [hX.K]; exact hkeep) (by rw [hX.K]; exact hb) .nil pass0 hdb
  · refine ⟨c.F, (), _, r.wf.sub, .nil, hm, fun z v H' F' s1 s2 s3 s4 d q => ?_⟩
    obtain ⟨e2, w2⟩ := Wf.after (K := f.K) r.wf s1 s2 s3 s4
    exact hQ z v _ e2 w2 d q

/-! ### built-ins -/
theorem sem_pa1 {K : PySem.W.Frag} {t : TE} {m : MM G α} (h : Sem K W S t m) {c0 : Cfg G} {σ : Sg} {c : Cfg G} (r : Rel K W c0 S σ c) {C : α → G → Prop} {Q : List V → Hp → Prop} (hm : m c.g C)
    (hQ : ∀ x v c1, Ext c c1 → Wf W c1 → Dp K c1.F v (enc x) → C x c1.g → Q [v] c1.H) : tCons t tNil σ c.H Q := h c0 σ c r _ _ hm hQ
theorem semL_pa1 {K : PySem.W.Frag} {t : TE} {m : MM G (List α)} (h : SemL K W S t m) {c0 : Cfg G} {σ : Sg} {c : Cfg G} (r : Rel K W c0 S σ c) {C : List α → G → Prop} {Q : List V → Hp → Prop} (hm : m c.g C)
    (hQ : ∀ x p vs c1, Ext c c1 → Wf W c1 → LAt K c1 p vs → DpAll K c1.F vs (x.map enc) → C x c1.g → Q [.ref p] c1.H) : tCons t tNil σ c.H Q := h c0 σ c r _ _ hm hQ
theorem bl_def {x : Str} {id : String} (hv : bootBuiltins x = some (.builtin id)) : bootBuiltins x = some (.builtin id) := hv
/-- a call of a built-in with one argument -/
theorem pe_b1 {X : Cx} {x : Str} {id : String} {p : Pos} {t : TE} {r : List V → Hp → VK → Prop} (hX : FmAt f X) (hc : CallR X (.builtin id) r) (hg : GlF f x) (hm : f.mg x = none) (hv : bootBuiltins x = some (.builtin id)) (h : PE X a t)
    (hs : ∀ env, starEach [a] env = (false, eval a env) :: starEach [] env) (hn : x ≠ "__name__" := by decide) (hd : (x == ("__debug__" : Str)) = false := by decide) : PE X (.Call (.Name x p) [a] [] pos) (tCB r (tCons t tNil)) :=
  pe_callB hc (hX.gl hg) (by rw [hX.mg]; exact hm) hv (pa_cons h pa_nil (hs X.env)) (by assumption) (by assumption) (hs X.env) rfl
end
end M3
set_option Elab.async false
set_option linter.all false
set_option maxRecDepth 100000
/-! Typed readings of built-ins, of what is walked, of targets, of comprehensions. -/
namespace M3
open PySem PySem.Spec PyProof.Rows L2 Enc Args

/-! ### sorted, any data -/
theorem each_dp {K : PySem.W.Frag} {H : Hp} {β : Type} {en : β → PyData} : ∀ {xs : List V} {us : List Value} {bs : List β}, Vals xs us → DpAll K H xs (bs.map en) → PySem.W.EachIs (fun u b => ∃ v, RelV v u ∧ Dp K H v (en b)) us bs
  | _, _, [], .nil, _ => .nil
  | _, _, [], .cons _ _, h => nomatch h
  | _, _, _ :: _, .nil, h => nomatch h
  | _, _, b :: bs, .cons r1 r2, .cons h1 h2 => .cons ⟨_, r1, h1⟩ (each_dp r2 h2)
theorem dp_each {K : PySem.W.Frag} {H : Hp} {β : Type} {en : β → PyData} : ∀ {us : List Value} {bs : List β}, PySem.W.EachIs (fun u b => ∃ v, RelV v u ∧ Dp K H v (en b)) us bs → ∃ xs, Vals xs us ∧ DpAll K H xs (bs.map en)
  | _, _, .nil => ⟨[], .nil, .nil⟩
  | _, _, .cons ⟨v, h1, h2⟩ t => by
    obtain ⟨xs, q1, q2⟩ := dp_each t
    exact ⟨v :: xs, .cons h1 q1, .cons h2 q2⟩
def rSortG (K : PySem.W.Frag) (un : Nat) : List V → Hp → VK → Prop := fun vs H Q => ∃ (β : Type) (en : β → PyData) (bs : List β) (a : Addr) (xs : List V) (F : Hp), vs = [.ref a] ∧ SqL K H a xs ∧ Same F H ∧ DpAll K F xs (bs.map en) ∧ PySem.W.AllAlike (bs.map en) ∧ PySem.W.Sortable (bs.map en) ∧ (∀ b ∈ bs, (en b).depth ≤ 100) ∧
  ∀ ys p, DpAll K F ys ((bs.mergeSort (PySem.W.dataLe false en)).map en) → H p = none → Q (.ref p) (upd H p (.lst ys))
theorem cr_sortG {X : Cx} (hu : X.A.units + 110 < cLine) : CallR X (.builtin "sorted") (rSortG X.K 0) := by
  intro pins s σ H vs us Q I r h
  obtain ⟨β, en, bs, a, xs, F, rfl, hs, sm, hd, hal, hk, hdep, q⟩ := h
  obtain ⟨its, rv, hl, hz⟩ := I.list hs
  rw [Vals.ref1 r]
  have hlen : xs.length = bs.length := by rw [dpAll_len hd, List.length_map]
  refine PySem.W.sorted_data (R := fun u b => ∃ v, RelV v u ∧ Dp X.K F v (en b)) hl.isList (each_dp rv hd) ((each_dp rv hd).mono fun u b ⟨v, h1, h2⟩ => Dp.reads I _ _ _ (dp_mono sm h2) h1) hal hk (by rw [← hlen]; exact hz) (fun b hb => by have := hdep b hb; omega) fun out h1 h2 => ?_
  obtain ⟨ys, k1, k2⟩ := dp_each h2
  obtain ⟨ep, he'⟩ := PyProof.Rows.sortedAll_at s.heap its out.toArray
  exact ⟨.ref _, upd H (s.heap.objs.size + 1) (.lst ys), I.laid (t' := s.toks) (fun _ _ => PyProof.Rows.sortedAll_old) (Nat.le_succ _) ⟨by rw [k1.length, h1, ← hlen]; exact hz, out, ep, k1, he'⟩, rfl, q _ _ k2 (I.hok.fresh (Nat.le_succ _))⟩
class Srt (α : Type) [Enc α] where
  n : Nat
  alk : ∀ x y : α, PySem.W.alike (enc x) (enc y) = true
  kind : (∀ x : α, ∃ a r, enc x = .tuple (a :: r)) ∨ ∀ x : α, enc x ≠ .none ∧ ∀ xs, enc x ≠ .tuple xs
  dep : ∀ x : α, (enc x).depth ≤ n
/-- < of data -/
def plt {α : Type} [Enc α] (x y : α) : Bool := PySem.W.dataLt (enc x) (enc y)
def srt {α : Type} [Enc α] (l : List α) : List α := l.mergeSort fun x y => !plt y x

variable {G : Type}
section
variable {f : Fm} {W : Wd G} {S : Sy} {a b c : Expr} {pos p : Pos} {α β γ : Type} [Enc α] [Enc β] [Enc γ]
theorem en_sorted [Srt α] {m : MM G (List α)} (h : EL f W S a m) (hg : GlF f "sorted" := by rfl) (hm : f.mg "sorted" = none) (hs : ∀ env, starEach [a] env = (false, eval a env) :: starEach [] env := by intro _; rfl) (hn : Srt.n α ≤ 100 := by decide) :
    EN f W S (.Call (.Name "sorted" p) [a] [] pos) (fun g C => m g fun x g1 => C (srt x) g1) := by
  obtain ⟨t, h1, h2⟩ := h.run
  refine ⟨tCB (rSortG f.K 0) (tCons t tNil), fun X hX => by rw [← hX.K]; exact pe_b1 hX (cr_sortG (by have := hX.room.un; omega)) hg hm (by decide +kernel) (h1 X hX) hs, fun c0 σ c r C Q hm hQ => semL_pa1 h2 r hm fun x p vs c1 e w la d q => ?_⟩
  refine ⟨α, enc, x, p, vs, c1.F, rfl, la.sq, w.sub, d, PySem.W.AllAlike.of Srt.alk, ?_, fun b _ => Nat.le_trans (Srt.dep b) hn, fun ys D hy nD => ?_⟩
  · rcases Srt.kind (α := α) with k | k
    · exact .tuples k
    · exact .others k
  · exact hQ _ D _ (c1.made D (.lst ys)) (e.trans (Ext.made nD)) (w.made nD) (newL_at e w nD hy) q

/-! ### other built-ins over lists -/
theorem dpAll_ints {K : PySem.W.Frag} {H : Hp} : ∀ {vs : List V} {ns : List Int}, DpAll K H vs (ns.map enc) → vs = ns.map V.int
  | _, [], .nil => rfl
  | _, _ :: _, .cons h t => by rw [dp_int h, dpAll_ints t]; rfl
theorem dpAll_bls {K : PySem.W.Frag} {H : Hp} : ∀ {vs : List V} {ns : List Bool}, DpAll K H vs (ns.map enc) → vs = ns.map V.bl
  | _, [], .nil => rfl
  | _, _ :: _, .cons h t => by rw [dp_bl h, dpAll_bls t]; rfl
theorem dpAll_strs {K : PySem.W.Frag} {H : Hp} : ∀ {vs : List V} {ns : List Str}, DpAll K H vs (ns.map enc) → vs = ns.map V.str
  | _, [], .nil => rfl
  | _, _ :: _, .cons h t => by rw [dp_str h, dpAll_strs t]; rfl
theorem ev_len {m : MM G (List α)} (h : EL f W S a m) (hg : GlF f "len" := by rfl) (hm : f.mg "len" = none) (hs : ∀ env, starEach [a] env = (false, eval a env) :: starEach [] env := by intro _; rfl) :
    EV f W S (.Call (.Name "len" p) [a] [] pos) (fun g C => m g fun x g1 => C (x.length : Int) g1) := by
  obtain ⟨t, h1, h2⟩ := h.run
  refine ⟨tCB (fun xs H Q => ∃ p ys, xs = [.ref p] ∧ (SqL f.K H p ys ∨ SqT f.K H p ys) ∧ Q (.int ys.length) H) (tCons t tNil), fun X hX => by rw [← hX.K]; exact pe_b1 hX call_len_seq hg hm PySem.boot_len (h1 X hX) hs,
    fun c0 σ c r C Q hm hQ => semL_pa1 h2 r hm fun x p vs c1 e w la d q => ⟨p, vs, rfl, .inl la.sq, ?_⟩⟩
  have hl := dpAll_len d
  rw [List.length_map] at hl
  rw [hl]
  exact hQ _ _ c1 e w (.int _) q
theorem ev_lenU {m : MM G (Tup α)} (h : EV f W S a m) (hg : GlF f "len" := by rfl) (hm : f.mg "len" = none) (hs : ∀ env, starEach [a] env = (false, eval a env) :: starEach [] env := by intro _; rfl) :
    EV f W S (.Call (.Name "len" p) [a] [] pos) (fun g C => m g fun x g1 => C (x.l.length : Int) g1) := by
  obtain ⟨t, h1, h2⟩ := h.run
  refine ⟨tCB (fun xs H Q => ∃ p ys, xs = [.ref p] ∧ (SqL f.K H p ys ∨ SqT f.K H p ys) ∧ Q (.int ys.length) H) (tCons t tNil), fun X hX => by rw [← hX.K]; exact pe_b1 hX call_len_seq hg hm PySem.boot_len (h1 X hX) hs,
    fun c0 σ c r C Q hm hQ => sem_pa1 h2 r hm fun x v c1 e w d q => ?_⟩
  obtain ⟨p, vs, rfl, hsq, hd⟩ := dp_tup d
  have hl := dpAll_len hd
  rw [List.length_map] at hl
  refine ⟨p, vs, rfl, .inr (sqT_mono w.sub hsq), ?_⟩
  rw [hl]
  exact hQ _ _ c1 e w (.int _) q
theorem ev_lenS {m : MM G Str} (h : EV f W S a m) (hg : GlF f "len" := by rfl) (hm : f.mg "len" = none) (hs : ∀ env, starEach [a] env = (false, eval a env) :: starEach [] env := by intro _; rfl) :
    EV f W S (.Call (.Name "len" p) [a] [] pos) (fun g C => m g fun x g1 => x.length ≤ sizeLine ∧ C (x.length : Int) g1) := by
  obtain ⟨t, h1, h2⟩ := h.run
  refine ⟨tCB _ (tCons t tNil), fun X hX => pe_b1 hX call_len_str hg hm PySem.boot_len (h1 X hX) hs,
    fun c0 σ c r C Q hm hQ => sem_pa1 h2 r hm fun x v c1 e w d q => ⟨x, by rw [dp_str d], q.1, hQ _ _ c1 e w (.int _) q.2⟩⟩
theorem ev_sum {m : MM G (List Int)} (h : EL f W S a m) (hg : GlF f "sum" := by rfl) (hm : f.mg "sum" = none) (hs : ∀ env, starEach [a] env = (false, eval a env) :: starEach [] env := by intro _; rfl) :
    EV f W S (.Call (.Name "sum" p) [a] [] pos) (fun g C => m g fun x g1 => C x.sum g1) := by
  obtain ⟨t, h1, h2⟩ := h.run
  refine ⟨tCB (rSum f.K) (tCons t tNil), fun X hX => by rw [← hX.K]; exact pe_b1 hX (cr_sum hX.calm) hg hm (by decide +kernel) (h1 X hX) hs,
    fun c0 σ c r C Q hm hQ => semL_pa1 h2 r hm fun x p vs c1 e w la d q => ⟨p, x, rfl, ?_, hQ _ _ c1 e w (.int _) q⟩⟩
  have := la.sq
  rw [dpAll_ints d] at this
  exact this
theorem ev_any {m : MM G (List Bool)} (h : EL f W S a m) (hg : GlF f "any" := by rfl) (hm : f.mg "any" = none) (hs : ∀ env, starEach [a] env = (false, eval a env) :: starEach [] env := by intro _; rfl) :
    EV f W S (.Call (.Name "any" p) [a] [] pos) (fun g C => m g fun x g1 => C (x.any id) g1) := by
  obtain ⟨t, h1, h2⟩ := h.run
  refine ⟨tCB (rAny f.K) (tCons t tNil), fun X hX => by rw [← hX.K]; exact pe_b1 hX (cr_any hX.calm) hg hm (by decide +kernel) (h1 X hX) hs,
    fun c0 σ c r C Q hm hQ => semL_pa1 h2 r hm fun x p vs c1 e w la d q => ⟨p, x, rfl, ?_, hQ _ _ c1 e w (.bl _) q⟩⟩
  have := la.sq
  rw [dpAll_bls d] at this
  exact this
theorem ev_all {m : MM G (List Bool)} (h : EL f W S a m) (hg : GlF f "all" := by rfl) (hm : f.mg "all" = none) (hs : ∀ env, starEach [a] env = (false, eval a env) :: starEach [] env := by intro _; rfl) :
    EV f W S (.Call (.Name "all" p) [a] [] pos) (fun g C => m g fun x g1 => C (x.all id) g1) := by
  obtain ⟨t, h1, h2⟩ := h.run
  refine ⟨tCB (rAll f.K) (tCons t tNil), fun X hX => by rw [← hX.K]; exact pe_b1 hX (cr_all hX.calm) hg hm (by decide +kernel) (h1 X hX) hs,
    fun c0 σ c r C Q hm hQ => semL_pa1 h2 r hm fun x p vs c1 e w la d q => ⟨p, x, rfl, ?_, hQ _ _ c1 e w (.bl _) q⟩⟩
  have := la.sq
  rw [dpAll_bls d] at this
  exact this
/-- the least and the greatest of some whole numbers -/
def lmin : List Int → Int
  | [] => 0
  | x :: xs => xs.foldl min x
def lmax : List Int → Int
  | [] => 0
  | x :: xs => xs.foldl max x
theorem foldl_min (l : List Int) : ∀ x : Int, l.foldl min x ≤ x ∧ (∀ y ∈ l, l.foldl min x ≤ y) ∧ (l.foldl min x = x ∨ l.foldl min x ∈ l) := by
  induction l with
  | nil => exact fun x => ⟨Int.le_refl _, fun y h => absurd h (by simp), .inl rfl⟩
  | cons a l ih =>
    intro x
    obtain ⟨h1, h2, h3⟩ := ih (min x a)
    simp only [List.foldl_cons, List.mem_cons]
    refine ⟨by omega, fun y hy => ?_, ?_⟩
    · rcases hy with rfl | hy
      · omega
      · exact h2 y hy
    · rcases h3 with h3 | h3
      · by_cases hx : x ≤ a
        · exact .inl (by omega)
        · exact .inr (.inl (by omega))
      · exact .inr (.inr h3)
theorem foldl_max (l : List Int) : ∀ x : Int, x ≤ l.foldl max x ∧ (∀ y ∈ l, y ≤ l.foldl max x) ∧ (l.foldl max x = x ∨ l.foldl max x ∈ l) := by
  induction l with
  | nil => exact fun x => ⟨Int.le_refl _, fun y h => absurd h (by simp), .inl rfl⟩
  | cons a l ih =>
    intro x
    obtain ⟨h1, h2, h3⟩ := ih (max x a)
    simp only [List.foldl_cons, List.mem_cons]
    refine ⟨by omega, fun y hy => ?_, ?_⟩
    · rcases hy with rfl | hy
      · omega
      · exact h2 y hy
    · rcases h3 with h3 | h3
      · by_cases hx : a ≤ x
        · exact .inl (by omega)
        · exact .inr (.inl (by omega))
      · exact .inr (.inr h3)
theorem lmin_mem {l : List Int} (h : l ≠ []) : lmin l ∈ l := by
  cases l with
  | nil => exact absurd rfl h
  | cons x xs =>
    rcases (foldl_min xs x).2.2 with e | e
    · exact List.mem_cons.mpr (.inl e)
    · exact List.mem_cons.mpr (.inr e)
theorem lmin_le {l : List Int} {y : Int} (h : y ∈ l) : lmin l ≤ y := by
  cases l with
  | nil => exact absurd h (by simp)
  | cons x xs =>
    rcases List.mem_cons.mp h with rfl | h
    · exact (foldl_min xs _).1
    · exact (foldl_min xs x).2.1 y h
theorem lmax_mem {l : List Int} (h : l ≠ []) : lmax l ∈ l := by
  cases l with
  | nil => exact absurd rfl h
  | cons x xs =>
    rcases (foldl_max xs x).2.2 with e | e
    · exact List.mem_cons.mpr (.inl e)
    · exact List.mem_cons.mpr (.inr e)
theorem le_lmax {l : List Int} {y : Int} (h : y ∈ l) : y ≤ lmax l := by
  cases l with
  | nil => exact absurd h (by simp)
  | cons x xs =>
    rcases List.mem_cons.mp h with rfl | h
    · exact (foldl_max xs _).1
    · exact (foldl_max xs x).2.1 y h
theorem ev_minL {m : MM G (List Int)} (h : EL f W S a m) (hg : GlF f "min" := by rfl) (hm : f.mg "min" = none) (hs : ∀ env, starEach [a] env = (false, eval a env) :: starEach [] env := by intro _; rfl) :
    EV f W S (.Call (.Name "min" p) [a] [] pos) (fun g C => m g fun x g1 => x ≠ [] ∧ C (lmin x) g1) := by
  obtain ⟨t, h1, h2⟩ := h.run
  refine ⟨tCB (rMin f.K) (tCons t tNil), fun X hX => by rw [← hX.K]; exact pe_b1 hX (cr_min hX.calm) hg hm (by decide +kernel) (h1 X hX) hs,
    fun c0 σ c r C Q hm hQ => semL_pa1 h2 r hm fun x p vs c1 e w la d q => ⟨p, x, rfl, ?_, List.length_pos_iff.mpr q.1, fun k k1 k2 => ?_⟩⟩
  · have := la.sq
    rw [dpAll_ints d] at this
    exact this
  · have : k = lmin x := Int.le_antisymm (k2 _ (lmin_mem q.1)) (lmin_le k1)
    rw [this]
    exact hQ _ _ c1 e w (.int _) q.2
theorem ev_maxL {m : MM G (List Int)} (h : EL f W S a m) (hg : GlF f "max" := by rfl) (hm : f.mg "max" = none) (hs : ∀ env, starEach [a] env = (false, eval a env) :: starEach [] env := by intro _; rfl) :
    EV f W S (.Call (.Name "max" p) [a] [] pos) (fun g C => m g fun x g1 => x ≠ [] ∧ C (lmax x) g1) := by
  obtain ⟨t, h1, h2⟩ := h.run
  refine ⟨tCB (rMax f.K) (tCons t tNil), fun X hX => by rw [← hX.K]; exact pe_b1 hX (cr_max hX.calm) hg hm (by decide +kernel) (h1 X hX) hs,
    fun c0 σ c r C Q hm hQ => semL_pa1 h2 r hm fun x p vs c1 e w la d q => ⟨p, x, rfl, ?_, List.length_pos_iff.mpr q.1, fun k k1 k2 => ?_⟩⟩
  · have := la.sq
    rw [dpAll_ints d] at this
    exact this
  · have : k = lmax x := Int.le_antisymm (le_lmax k1) (k2 _ (lmax_mem q.1))
    rw [this]
    exact hQ _ _ c1 e w (.int _) q.2
def iabs (x : Int) : Int := if x < 0 then -x else x
theorem ev_abs {m : MM G Int} (h : EV f W S a m) (hg : GlF f "abs" := by rfl) (hm : f.mg "abs" = none) (hs : ∀ env, starEach [a] env = (false, eval a env) :: starEach [] env := by intro _; rfl) :
    EV f W S (.Call (.Name "abs" p) [a] [] pos) (fun g C => m g fun x g1 => C (iabs x) g1) := by
  obtain ⟨t, h1, h2⟩ := h.run
  exact ⟨tCB _ (tCons t tNil), fun X hX => pe_b1 hX call_abs hg hm (by decide +kernel) (h1 X hX) hs,
    fun c0 σ c r C Q hm hQ => sem_pa1 h2 r hm fun x v c1 e w d q => ⟨x, by rw [dp_int d], hQ _ _ c1 e w (.int _) q⟩⟩
theorem pe_b2 {X : Cx} {x : Str} {id : String} {p : Pos} {t u : TE} {r : List V → Hp → VK → Prop} (hX : FmAt f X) (hc : CallR X (.builtin id) r) (hg : GlF f x) (hm : f.mg x = none) (hv : bootBuiltins x = some (.builtin id)) (h : PE X a t) (h' : PE X b u)
    (hs : ∀ env, starEach [a, b] env = (false, eval a env) :: starEach [b] env) (hs' : ∀ env, starEach [b] env = (false, eval b env) :: starEach [] env) (hpl : ∀ env, (backTo pos (starEach [b] env)).any (·.1) = false) (hn : x ≠ "__name__" := by decide) (hd : (x == ("__debug__" : Str)) = false := by decide) :
    PE X (.Call (.Name x p) [a, b] [] pos) (tCB r (tCons t (tCons u tNil))) :=
  pe_callB hc (hX.gl hg) (by rw [hX.mg]; exact hm) hv (pa_cons h (pa_cons h' pa_nil (hs' X.env)) (hs X.env)) (by assumption) (by assumption) (hs X.env) (hpl X.env)
theorem sem_pa2 {K : PySem.W.Frag} {t u : TE} {m : MM G α} {n : MM G β} (h : Sem K W S t m) (h' : Sem K W S u n) {c0 : Cfg G} {σ : Sg} {c : Cfg G} (r : Rel K W c0 S σ c) {C : α → β → G → Prop} {Q : List V → Hp → Prop} (hm : m c.g fun x g1 => n g1 fun y g2 => C x y g2)
    (hQ : ∀ x y v w c1, Ext c c1 → Wf W c1 → Dp K c1.F v (enc x) → Dp K c1.F w (enc y) → C x y c1.g → Q [v, w] c1.H) : tCons t (tCons u tNil) σ c.H Q := sem_bin h h' r hm hQ
theorem ev_min2 {m n : MM G Int} (h : EV f W S a m) (h' : EV f W S b n) (hg : GlF f "min" := by rfl) (hm : f.mg "min" = none) (hs : ∀ env, starEach [a, b] env = (false, eval a env) :: starEach [b] env := by intro _; rfl) (hs' : ∀ env, starEach [b] env = (false, eval b env) :: starEach [] env := by intro _; rfl)
    (hpl : ∀ env, (backTo pos (starEach [b] env)).any (·.1) = false := by intro _; rfl) : EV f W S (.Call (.Name "min" p) [a, b] [] pos) (fun g C => m g fun x g1 => n g1 fun y g2 => C (min x y) g2) := by
  obtain ⟨t, h1, h2⟩ := h.run
  obtain ⟨u, k1, k2⟩ := h'.run
  refine ⟨tCB _ (tCons t (tCons u tNil)), fun X hX => pe_b2 hX (call_min2 hX.calm) hg hm (by decide +kernel) (h1 X hX) (k1 X hX) hs hs' hpl,
    fun c0 σ c r C Q hm hQ => sem_pa2 h2 k2 r hm fun x y v u c1 e w d1 d2 q => ⟨x, y, by rw [dp_int d1, dp_int d2], ?_⟩⟩
  have z : (if y < x then y else x) = min x y := by
    split <;> omega
  rw [z]
  exact hQ _ _ c1 e w (.int _) q
theorem ev_max2 {m n : MM G Int} (h : EV f W S a m) (h' : EV f W S b n) (hg : GlF f "max" := by rfl) (hm : f.mg "max" = none) (hs : ∀ env, starEach [a, b] env = (false, eval a env) :: starEach [b] env := by intro _; rfl) (hs' : ∀ env, starEach [b] env = (false, eval b env) :: starEach [] env := by intro _; rfl)
    (hpl : ∀ env, (backTo pos (starEach [b] env)).any (·.1) = false := by intro _; rfl) : EV f W S (.Call (.Name "max" p) [a, b] [] pos) (fun g C => m g fun x g1 => n g1 fun y g2 => C (max x y) g2) := by
  obtain ⟨t, h1, h2⟩ := h.run
  obtain ⟨u, k1, k2⟩ := h'.run
  refine ⟨tCB _ (tCons t (tCons u tNil)), fun X hX => pe_b2 hX (call_max2 hX.calm) hg hm (by decide +kernel) (h1 X hX) (k1 X hX) hs hs' hpl,
    fun c0 σ c r C Q hm hQ => sem_pa2 h2 k2 r hm fun x y v u c1 e w d1 d2 q => ⟨x, y, by rw [dp_int d1, dp_int d2], ?_⟩⟩
  have z : (if y > x then y else x) = max x y := by
    split <;> omega
  rw [z]
  exact hQ _ _ c1 e w (.int _) q
/-- a call of a built-in class with one argument -/
theorem pe_t1 {X : Cx} {x : Str} {T : String} {p : Pos} {t : TE} {r : List V → Hp → VK → Prop} (hX : FmAt f X) (hc : CallR X (.type T) r) (hg : GlF f x) (hm : f.mg x = none) (hv : bootBuiltins x = some (.type T)) (h : PE X a t)
    (hs : ∀ env, starEach [a] env = (false, eval a env) :: starEach [] env) (hn : x ≠ "__name__" := by decide) (hd : (x == ("__debug__" : Str)) = false := by decide) : PE X (.Call (.Name x p) [a] [] pos) (tCB r (tCons t tNil)) :=
  pe_callTy hc (hX.gl hg) (by rw [hX.mg]; exact hm) hv (pa_cons h pa_nil (hs X.env)) (by assumption) (by assumption) (hs X.env) rfl
theorem ev_intI {m : MM G Int} (h : EV f W S a m) (hg : GlF f "int" := by rfl) (hm : f.mg "int" = none) (hs : ∀ env, starEach [a] env = (false, eval a env) :: starEach [] env := by intro _; rfl) :
    EV f W S (.Call (.Name "int" p) [a] [] pos) m := by
  obtain ⟨t, h1, h2⟩ := h.run
  exact ⟨tCB _ (tCons t tNil), fun X hX => pe_t1 hX call_int1 hg hm (by decide +kernel) (h1 X hX) hs,
    fun c0 σ c r C Q hm hQ => sem_pa1 h2 r hm fun x v c1 e w d q => .inl ⟨x, by rw [dp_int d], hQ _ _ c1 e w (.int _) q⟩⟩
theorem ev_intB {m : MM G Bool} (h : EV f W S a m) (hg : GlF f "int" := by rfl) (hm : f.mg "int" = none) (hs : ∀ env, starEach [a] env = (false, eval a env) :: starEach [] env := by intro _; rfl) :
    EV f W S (.Call (.Name "int" p) [a] [] pos) (fun g C => m g fun x g1 => C (if x then 1 else 0 : Int) g1) := by
  obtain ⟨t, h1, h2⟩ := h.run
  exact ⟨tCB _ (tCons t tNil), fun X hX => pe_t1 hX call_int1 hg hm (by decide +kernel) (h1 X hX) hs,
    fun c0 σ c r C Q hm hQ => sem_pa1 h2 r hm fun x v c1 e w d q => .inr ⟨x, by rw [dp_bl d], hQ _ _ c1 e w (.int _) q⟩⟩
theorem en_list {m : MM G (List α)} (h : EL f W S a m) (hg : GlF f "list" := by rfl) (hm : f.mg "list" = none) (hs : ∀ env, starEach [a] env = (false, eval a env) :: starEach [] env := by intro _; rfl) :
    EN f W S (.Call (.Name "list" p) [a] [] pos) m := by
  obtain ⟨t, h1, h2⟩ := h.run
  refine ⟨tCB (fun xs H Q => ∃ p ys, xs = [.ref p] ∧ (SqL f.K H p ys ∨ SqT f.K H p ys) ∧ ∀ l, H l = none → Q (.ref l) (upd H l (.lst ys))) (tCons t tNil), fun X hX => by rw [← hX.K]; exact pe_t1 hX call_list_of hg hm (by decide +kernel) (h1 X hX) hs,
    fun c0 σ c r C Q hm hQ => semL_pa1 h2 r hm fun x p vs c1 e w la d q => ⟨p, vs, rfl, .inl la.sq, fun D nD => ?_⟩⟩
  exact hQ _ D _ (c1.made D (.lst vs)) (e.trans (Ext.made nD)) (w.made nD) (newL_at e w nD d) q
theorem en_listU {m : MM G (Tup α)} (h : EV f W S a m) (hg : GlF f "list" := by rfl) (hm : f.mg "list" = none) (hs : ∀ env, starEach [a] env = (false, eval a env) :: starEach [] env := by intro _; rfl) :
    EN f W S (.Call (.Name "list" p) [a] [] pos) (fun g C => m g fun x g1 => C x.l g1) := by
  obtain ⟨t, h1, h2⟩ := h.run
  refine ⟨tCB (fun xs H Q => ∃ p ys, xs = [.ref p] ∧ (SqL f.K H p ys ∨ SqT f.K H p ys) ∧ ∀ l, H l = none → Q (.ref l) (upd H l (.lst ys))) (tCons t tNil), fun X hX => by rw [← hX.K]; exact pe_t1 hX call_list_of hg hm (by decide +kernel) (h1 X hX) hs,
    fun c0 σ c r C Q hm hQ => sem_pa1 h2 r hm fun x v c1 e w d q => ?_⟩
  obtain ⟨p, vs, rfl, hsq, hd⟩ := dp_tup d
  exact ⟨p, vs, rfl, .inr (sqT_mono w.sub hsq), fun D nD => hQ _ D _ (c1.made D (.lst vs)) (e.trans (Ext.made nD)) (w.made nD) (newL_at e w nD hd) q⟩
theorem ev_tuple {m : MM G (List α)} (h : EL f W S a m) (hg : GlF f "tuple" := by rfl) (hm : f.mg "tuple" = none) (hs : ∀ env, starEach [a] env = (false, eval a env) :: starEach [] env := by intro _; rfl) :
    EV f W S (.Call (.Name "tuple" p) [a] [] pos) (fun g C => m g fun x g1 => C (Tup.mk x) g1) := by
  obtain ⟨t, h1, h2⟩ := h.run
  refine ⟨tCB (fun xs H Q => ∃ p ys, xs = [.ref p] ∧ ((SqL f.K H p ys ∧ ∀ l, H l = none → Q (.ref l) (upd H l (.tup ys))) ∨ (SqT f.K H p ys ∧ Q (.ref p) H))) (tCons t tNil), fun X hX => by rw [← hX.K]; exact pe_t1 hX call_tuple_of hg hm (by decide +kernel) (h1 X hX) hs,
    fun c0 σ c r C Q hm hQ => semL_pa1 h2 r hm fun x p vs c1 e w la d q => ⟨p, vs, rfl, .inl ⟨la.sq, fun D nD => ?_⟩⟩⟩
  exact hQ _ _ (c1.laid D (.tup vs)) (e.trans (Ext.laid w nD)) (w.laid nD) (.tup (SqT.of upd_same) (dpAll_mono (same_upd (w.sub.free nD)) d)) q
end
end M3
set_option Elab.async false
set_option linter.all false
set_option maxRecDepth 100000
/-! Typed readings of what is walked, of targets, of comprehensions. -/
namespace M3
open PySem PySem.Spec PyProof.Rows L2 Enc Args

variable {G : Type}
/-- the one reading of an expression for all contexts of a family -/
def rdE (f : Fm) (e : Expr) : TE := fun σ H Q => ∃ t : TE, (∀ X, FmAt f X → PE X e t) ∧ t σ H Q
theorem rdE_ok {f : Fm} {e : Expr} {X : Cx} (hX : FmAt f X) : PE X e (rdE f e) := ⟨fun pins s σ H Q I h => by
  obtain ⟨t, h1, h2⟩ := h
  exact (h1 X hX).run pins s σ H Q I h2⟩
def rdT (f : Fm) (e : Expr) : TT := fun σ H Q => ∃ t : TT, (∀ X, FmAt f X → PT X e t) ∧ t σ H Q
theorem rdT_ok {f : Fm} {e : Expr} {X : Cx} (hX : FmAt f X) : PT X e (rdT f e) := ⟨fun pins s σ H Q I h => by
  obtain ⟨t, h1, h2⟩ := h
  exact (h1 X hX).run pins s σ H Q I h2⟩
def rdTs (f : Fm) (es : List Expr) : TT := fun σ H Q => ∃ t : TT, (∀ X, FmAt f X → PTs X es t) ∧ t σ H Q
theorem rdTs_ok {f : Fm} {e : List Expr} {X : Cx} (hX : FmAt f X) : PTs X e (rdTs f e) := ⟨fun pins s σ H Q I h => by
  obtain ⟨t, h1, h2⟩ := h
  exact (h1 X hX).run pins s σ H Q I h2⟩
section
variable {f : Fm} {W : Wd G} {S : Sy} {a b c : Expr} {pos p : Pos} {α β γ : Type} [Enc α] [Enc β] [Enc γ]
theorem EV.rd {m : MM G α} (h : EV f W S a m) : Sem f.K W S (rdE f a) m := by
  obtain ⟨t, h1, h2⟩ := h.run
  exact fun c0 σ c r C Q hm hQ => ⟨t, h1, h2 c0 σ c r C Q hm hQ⟩
theorem ET.rd {m : MM G Bool} (h : ET f W S a m) : SemT f.K W S (rdT f a) m := by
  obtain ⟨t, h1, h2⟩ := h.run
  exact fun c0 σ c r C Q hm hQ => ⟨t, h1, h2 c0 σ c r C Q hm hQ⟩
/-- the tests of a comprehension -/
structure ETs (f : Fm) (W : Wd G) (S : Sy) (es : List Expr) (m : MM G Bool) : Prop where
  run : ∃ t, (∀ X, FmAt f X → PTs X es t) ∧ SemT f.K W S t m
theorem ets_nil : ETs f W S [] (fun g C => C true g) := ⟨_, fun X hX => pts_nil, fun c0 σ c r C Q hm hQ => hQ true c (Ext.refl c) r.wf hm⟩
theorem ets_one {m : MM G Bool} (h : ET f W S a m) : ETs f W S [a] m := by
  obtain ⟨t, h1, h2⟩ := h.run
  exact ⟨t, fun X hX => pts_one (h1 X hX), h2⟩
theorem ETs.rd {es : List Expr} {m : MM G Bool} (h : ETs f W S es m) : SemT f.K W S (rdTs f es) m := by
  obtain ⟨t, h1, h2⟩ := h.run
  exact fun c0 σ c r C Q hm hQ => ⟨t, h1, h2 c0 σ c r C Q hm hQ⟩

/-! ### what is walked -/
structure Yl (K : PySem.W.Frag) (W : Wd G) (P : Cfg G → Prop) (J : It) (xs : List α) : Prop where
  go : ∀ i c, P c → Wf W c → i < xs.length → J.go i c.H
  yld : ∀ i c x v H', P c → Wf W c → xs[i]? = some x → J.yld i c.H v H' → ∃ c', c'.H = H' ∧ c'.g = c.g ∧ Ext c c' ∧ Wf W c' ∧ Dp K c'.F v (enc x)
  stop : ∀ i c, P c → Wf W c → xs.length ≤ i → J.stop i c.H
def SemS (K : PySem.W.Frag) (W : Wd G) (S : Sy) (t : TI) (P : Cfg G → Cfg G → Prop) (m : MM G (List α)) : Prop :=
  ∀ (c0 : Cfg G) (σ : Sg) (c : Cfg G), Rel K W c0 S σ c → ∀ (C : List α → G → Prop) (R : It → Hp → Prop), m c.g C →
    (∀ xs J c', Ext c c' → Wf W c' → C xs c'.g → Yl K W (P c') J xs → R J c'.H) → t σ c.H R
/-- walked by a loop; by a comprehension -/
structure SRC (f : Fm) (W : Wd G) (S : Sy) (tg e : Expr) (m : MM G (List α)) : Prop where
  run : ∃ t, (∀ X, FmAt f X → PI X tg e t) ∧ SemS f.K W S t (fun c d => Same c.F d.F) m
structure SRCC (f : Fm) (W : Wd G) (S : Sy) (tg e : Expr) (m : MM G (List α)) : Prop where
  run : ∃ t, (∀ X, FmAt f X → PI X tg e t) ∧ SemS f.K W S t (fun c d => Ext c d) m
theorem Yl.mono {K : PySem.W.Frag} {P P' : Cfg G → Prop} {J : It} {xs : List α} (h : Yl K W P J xs) (hp : ∀ c, P' c → P c) : Yl K W P' J xs :=
  ⟨fun i c x => h.go i c (hp c x), fun i c x v H' y => h.yld i c x v H' (hp c y), fun i c x => h.stop i c (hp c x)⟩
theorem SRC.cc {tg : Expr} {m : MM G (List α)} (h : SRC f W S tg a m) : SRCC f W S tg a m := by
  obtain ⟨t, h1, h2⟩ := h.run
  exact ⟨t, h1, fun c0 σ c r C R hm hR => h2 c0 σ c r C R hm fun xs J c' e w q y => hR xs J c' e w q (y.mono fun d x => x.fz)⟩
theorem yl_list {K : PySem.W.Frag} {P : Cfg G → Prop} {p : Addr} {vs : List V} {xs : List α} (h : ∀ c, P c → Wf W c → SqL K c.H p vs ∧ DpAll K c.F vs (xs.map enc)) : Yl K W P (Itl K p) xs where
  go i c x w hi := by
    obtain ⟨h1, h2⟩ := h c x w
    have hl := dpAll_len h2
    rw [List.length_map] at hl
    exact ⟨vs, vs[i], h1, by rw [List.getElem?_eq_getElem (by omega)]⟩
  yld i c x v H' y w hx hy := by
    obtain ⟨h1, h2⟩ := h c y w
    obtain ⟨rfl, hv⟩ := hy
    have e := hv _ h1
    obtain ⟨d, q1, q2⟩ := dpAll_getV h2 e
    rw [List.getElem?_map, hx] at q1
    cases q1
    exact ⟨c, rfl, rfl, Ext.refl c, w, q2⟩
  stop i c x w hi := by
    obtain ⟨h1, h2⟩ := h c x w
    have hl := dpAll_len h2
    rw [List.length_map] at hl
    exact ⟨vs, h1, by omega⟩
theorem seqL_mono {K : PySem.W.Frag} {H H' : Hp} {p : Addr} {vs : List V} (e : Same H H') (h : SqL K H p vs) : SqL K H' p vs := e.seq h
theorem src_list {tg : Expr} {m : MM G (List α)} (h : EV f W S a m) : SRC f W S tg a m := by
  obtain ⟨t, h1, h2⟩ := h.run
  refine ⟨iList f.K t, fun X hX => by rw [← hX.K]; exact pi_list (h1 X hX), fun c0 σ c r C R hm hR => h2 c0 σ c r _ _ hm fun x v c1 e w d q => ?_⟩
  obtain ⟨p, vs, rfl, hs, hd⟩ := dp_list d
  exact ⟨p, rfl, ⟨vs, seqL_mono w.sub hs⟩, hR x _ c1 e w q (yl_list fun c y w' => ⟨seqL_mono (y.trans w'.sub) hs, dpAll_mono y hd⟩)⟩
theorem srcc_list {tg : Expr} {m : MM G (List α)} (h : EL f W S a m) : SRCC f W S tg a m := by
  obtain ⟨t, h1, h2⟩ := h.run
  refine ⟨iList f.K t, fun X hX => by rw [← hX.K]; exact pi_list (h1 X hX), fun c0 σ c r C R hm hR => h2 c0 σ c r _ _ hm fun x p vs c1 e w la d q => ?_⟩
  exact ⟨p, rfl, ⟨vs, la.sq⟩, hR x _ c1 e w q (yl_list fun c y w' => ⟨(la.step y).sq, dpAll_mono y.fz d⟩)⟩
theorem yl_tup {K : PySem.W.Frag} {P : Cfg G → Prop} {p : Addr} {vs : List V} {xs : List α} (h : ∀ c, P c → Wf W c → SqT K c.H p vs ∧ DpAll K c.F vs (xs.map enc)) : Yl K W P (Itt K p) xs where
  go i c x w hi := by
    obtain ⟨h1, h2⟩ := h c x w
    have hl := dpAll_len h2
    rw [List.length_map] at hl
    exact ⟨vs, vs[i], h1, by rw [List.getElem?_eq_getElem (by omega)]⟩
  yld i c x v H' y w hx hy := by
    obtain ⟨h1, h2⟩ := h c y w
    obtain ⟨rfl, hv⟩ := hy
    have e := hv _ h1
    obtain ⟨d, q1, q2⟩ := dpAll_getV h2 e
    rw [List.getElem?_map, hx] at q1
    cases q1
    exact ⟨c, rfl, rfl, Ext.refl c, w, q2⟩
  stop i c x w hi := by
    obtain ⟨h1, h2⟩ := h c x w
    have hl := dpAll_len h2
    rw [List.length_map] at hl
    exact ⟨vs, h1, by omega⟩
/-- a tuple -/
theorem src_tup {tg : Expr} {m : MM G β} (φ : β → List α) (hφ : ∀ x, enc x = .tuple ((φ x).map enc)) (h : EV f W S a m) : SRC f W S tg a (fun g C => m g fun x g1 => C (φ x) g1) := by
  obtain ⟨t, h1, h2⟩ := h.run
  refine ⟨iTup f.K t, fun X hX => by rw [← hX.K]; exact pi_tup (h1 X hX), fun c0 σ c r C R hm hR => h2 c0 σ c r _ _ hm fun x v c1 e w d q => ?_⟩
  rw [hφ] at d
  obtain ⟨p, vs, rfl, hs, hd⟩ := dp_tup d
  exact ⟨p, rfl, ⟨vs, sqT_mono w.sub hs⟩, hR _ _ c1 e w q (yl_tup fun c y w' => ⟨sqT_mono (y.trans w'.sub) hs, dpAll_mono y hd⟩)⟩
/-- lo, lo + 1, .. -/
def rangeI (lo : Int) (n : Nat) : List Int := (List.range n).map (fun (i : Nat) => lo + (i : Int))
theorem yl_range {K : PySem.W.Frag} {P : Cfg G → Prop} {lo : Int} {n : Nat} : Yl K W P (Itr lo n) (rangeI lo n) where
  go i c x w hi := by
    unfold rangeI at hi
    rw [List.length_map, List.length_range] at hi
    exact hi
  yld i c x v H' y w hx hy := by
    obtain ⟨rfl, rfl⟩ := hy
    unfold rangeI at hx
    rw [List.getElem?_map] at hx
    have hi : i < n := by
      cases q : (List.range n)[i]? with
      | none => rw [q] at hx; cases hx
      | some j => have := lt_of_some q; rw [List.length_range] at this; exact this
    rw [List.getElem?_range hi] at hx
    cases hx
    exact ⟨c, rfl, rfl, Ext.refl c, w, .int _⟩
  stop i c x w hi := by
    unfold rangeI at hi
    rw [List.length_map, List.length_range] at hi
    exact hi
theorem src_range1 {tg : Expr} {m : MM G Int} (h : EV f W S a m) (hg : GlF f "range" := by rfl) (hm : f.mg "range" = none) (hs : ∀ env, starEach [a] env = [(false, eval a env)] := by intro _; rfl) :
    SRC f W S tg (.Call (.Name "range" p) [a] [] pos) (fun g C => m g fun n g1 => (-(2 ^ 62) ≤ n ∧ n < 2 ^ 62) ∧ C (rangeI 0 n.toNat) g1) := by
  obtain ⟨t, h1, h2⟩ := h.run
  refine ⟨iRng1 (tCons t tNil), fun X hX => pi_range1 (hX.gl hg) (by rw [hX.mg]; exact hm) (pa_cons (h1 X hX) pa_nil (hs X.env)) (hs X.env), fun c0 σ c r C R hm hR => sem_pa1 h2 r hm fun x v c1 e w d q => ?_⟩
  exact ⟨x, by rw [dp_int d], q.1.1, q.1.2, hR _ _ c1 e w q.2 yl_range⟩
theorem src_range2 {tg : Expr} {m n : MM G Int} (h : EV f W S a m) (h' : EV f W S b n) (hg : GlF f "range" := by rfl) (hm : f.mg "range" = none) (hs : ∀ env, starEach [a, b] env = [(false, eval a env), (false, eval b env)] := by intro _; rfl) (hs' : ∀ env, starEach [b] env = [(false, eval b env)] := by intro _; rfl) :
    SRC f W S tg (.Call (.Name "range" p) [a, b] [] pos) (fun g C => m g fun x g1 => n g1 fun y g2 => (-(2 ^ 62) ≤ x ∧ x < 2 ^ 62 ∧ -(2 ^ 62) ≤ y ∧ y < 2 ^ 62) ∧ C (rangeI x (y - x).toNat) g2) := by
  obtain ⟨t, h1, h2⟩ := h.run
  obtain ⟨u, k1, k2⟩ := h'.run
  refine ⟨iRng2 (tCons t (tCons u tNil)), fun X hX => pi_range2 (hX.gl hg) (by rw [hX.mg]; exact hm) (pa_cons (h1 X hX) (pa_cons (k1 X hX) pa_nil (hs' X.env)) (by rw [hs, hs'])) (hs X.env) (hs' X.env), fun c0 σ c r C R hm hR => sem_pa2 h2 k2 r hm fun x y v u c1 e w d1 d2 q => ?_⟩
  exact ⟨x, y, by rw [dp_int d1, dp_int d2], q.1, hR _ _ c1 e w q.2 yl_range⟩
/-- lo, lo + c, .. -/
def rangeS (lo c : Int) (n : Nat) : List Int := (List.range n).map (fun (i : Nat) => lo + (i : Int) * c)
theorem yl_rangeS {K : PySem.W.Frag} {P : Cfg G → Prop} {lo s : Int} {n : Nat} : Yl K W P (Itc lo s n) (rangeS lo s n) where
  go i c x w hi := by
    unfold rangeS at hi
    rw [List.length_map, List.length_range] at hi
    exact hi
  yld i c x v H' y w hx hy := by
    obtain ⟨rfl, rfl⟩ := hy
    unfold rangeS at hx
    rw [List.getElem?_map] at hx
    have hi : i < n := by
      cases q : (List.range n)[i]? with
      | none => rw [q] at hx; cases hx
      | some j => have := lt_of_some q; rw [List.length_range] at this; exact this
    rw [List.getElem?_range hi] at hx
    cases hx
    exact ⟨c, rfl, rfl, Ext.refl c, w, .int _⟩
  stop i c x w hi := by
    unfold rangeS at hi
    rw [List.length_map, List.length_range] at hi
    exact hi
theorem src_range3 {tg : Expr} {m n k : MM G Int} (h : EV f W S a m) (h' : EV f W S b n) (h'' : EV f W S c k) (hg : GlF f "range" := by rfl) (hm : f.mg "range" = none)
    (hs : ∀ env, starEach [a, b, c] env = [(false, eval a env), (false, eval b env), (false, eval c env)] := by intro _; rfl) (hs' : ∀ env, starEach [b, c] env = [(false, eval b env), (false, eval c env)] := by intro _; rfl) (hs'' : ∀ env, starEach [c] env = [(false, eval c env)] := by intro _; rfl) :
    SRC f W S tg (.Call (.Name "range" p) [a, b, c] [] pos) (fun g C => m g fun x g1 => n g1 fun y g2 => k g2 fun z g3 => ∃ n, RgC x y z n ∧ C (rangeS x z n) g3) := by
  obtain ⟨t, h1, h2⟩ := h.run
  obtain ⟨u, k1, k2⟩ := h'.run
  obtain ⟨v, l1, l2⟩ := h''.run
  refine ⟨iRng3 (tCons t (tCons u (tCons v tNil))), fun X hX => pi_range3 (hX.gl hg) (by rw [hX.mg]; exact hm) (pa_cons (h1 X hX) (pa_cons (k1 X hX) (pa_cons (l1 X hX) pa_nil (hs'' X.env)) (by rw [hs', hs''])) (by rw [hs, hs'])) (by rw [hs, hs']) (by rw [hs']; rfl), fun c0 σ c r C R hm hR => ?_⟩
  refine h2 c0 σ c r _ _ hm fun x vx c1 e1 w1 d1 q1 => k2 c0 σ c1 (r.step e1 w1) _ _ q1 fun y vy c2 e2 w2 d2 q2 => l2 c0 σ c2 ((r.step e1 w1).step e2 w2) _ _ q2 fun z vz c3 e3 w3 d3 q3 => ?_
  obtain ⟨n, hn, q⟩ := q3
  exact ⟨x, y, z, n, by rw [dp_int d1, dp_int d2, dp_int d3], hn, hR _ _ c3 (e1.trans (e2.trans e3)) w3 q yl_rangeS⟩
/-- a text, sign by sign -/
def signs (x : Str) : List Str := x.cps.toList.map fun c => ⟨#[c]⟩
theorem src_str {tg : Expr} {m : MM G Str} (h : EV f W S a m) : SRC f W S tg a (fun g C => m g fun x g1 => C (signs x) g1) := by
  obtain ⟨t, h1, h2⟩ := h.run
  refine ⟨iStr t, fun X hX => pi_str (h1 X hX), fun c0 σ c r C R hm hR => h2 c0 σ c r _ _ hm fun x v c1 e w d q => ⟨x, dp_str d, hR _ _ c1 e w q ⟨fun i c z w hi => ?_, fun i c y v H' z w hx hy => ?_, fun i c z w hi => ?_⟩⟩⟩
  · unfold signs at hi
    rw [List.length_map, Array.length_toList] at hi
    exact hi
  · obtain ⟨rfl, k, hk, rfl⟩ := hy
    unfold signs at hx
    rw [List.getElem?_map, Array.getElem?_toList, hk] at hx
    cases hx
    exact ⟨c, rfl, rfl, Ext.refl c, w, .str _⟩
  · unfold signs at hi
    rw [List.length_map, Array.length_toList] at hi
    exact hi
/-- enumerate, zip -/
def enumI (xs : List α) : List (Int × α) := xs.mapIdx fun i x => ((i : Int), x)
theorem yl_enum {K : PySem.W.Frag} {P : Cfg G → Prop} {p : Addr} {vs : List V} {xs : List α} (h : ∀ c, P c → Wf W c → SqL K c.H p vs ∧ DpAll K c.F vs (xs.map enc)) : Yl K W P (Ite K p) (enumI xs) where
  go i c x w hi := by
    obtain ⟨h1, h2⟩ := h c x w
    have hl := dpAll_len h2
    rw [List.length_map] at hl
    unfold enumI at hi
    rw [List.length_mapIdx] at hi
    exact ⟨vs, vs[i], h1, by rw [List.getElem?_eq_getElem (by omega)]⟩
  yld i c x v H' y w hx hy := by
    obtain ⟨h1, h2⟩ := h c y w
    obtain ⟨T, u, rfl, nT, rfl, hv⟩ := hy
    have e := hv _ h1
    unfold enumI at hx
    rw [List.getElem?_mapIdx] at hx
    obtain ⟨d, q1, q2⟩ := dpAll_getV h2 e
    rw [List.getElem?_map] at q1
    cases z : xs[i]? with
    | none => rw [z] at q1; cases q1
    | some x' =>
      rw [z] at hx q1
      cases hx
      cases q1
      exact ⟨c.laid T _, rfl, rfl, Ext.laid w nT, w.laid nT, .tup (SqT.of upd_same) (.cons (.int _) (.cons (dp_mono (same_upd (w.sub.free nT)) q2) .nil))⟩
  stop i c x w hi := by
    obtain ⟨h1, h2⟩ := h c x w
    have hl := dpAll_len h2
    rw [List.length_map] at hl
    unfold enumI at hi
    rw [List.length_mapIdx] at hi
    exact ⟨vs, h1, by omega⟩
theorem src_enum {elts : List Expr} {kk : Nat} {tpos : Pos} {m : MM G (List α)} (h : EV f W S a m) (hg : GlF f "enumerate" := by rfl) (hm : f.mg "enumerate" = none) (hs : ∀ env, starEach [a] env = [(false, eval a env)] := by intro _; rfl) :
    SRC f W S (.Tuple elts kk tpos) (.Call (.Name "enumerate" p) [a] [] pos) (fun g C => m g fun xs g1 => C (enumI xs) g1) := by
  obtain ⟨t, h1, h2⟩ := h.run
  refine ⟨iEnum f.K (tCons t tNil), fun X hX => by rw [← hX.K]; exact pi_enum (hX.gl hg) (by rw [hX.mg]; exact hm) (pa_cons (h1 X hX) pa_nil (hs X.env)) (hs X.env), fun c0 σ c r C R hm hR => sem_pa1 h2 r hm fun x v c1 e w d q => ?_⟩
  obtain ⟨p, vs, rfl, hs, hd⟩ := dp_list d
  exact ⟨p, vs, rfl, seqL_mono w.sub hs, hR _ _ c1 e w q (yl_enum fun c y w' => ⟨seqL_mono (y.trans w'.sub) hs, dpAll_mono y hd⟩)⟩
theorem srcc_enum {elts : List Expr} {kk : Nat} {tpos : Pos} {m : MM G (List α)} (h : EL f W S a m) (hg : GlF f "enumerate" := by rfl) (hm : f.mg "enumerate" = none) (hs : ∀ env, starEach [a] env = [(false, eval a env)] := by intro _; rfl) :
    SRCC f W S (.Tuple elts kk tpos) (.Call (.Name "enumerate" p) [a] [] pos) (fun g C => m g fun xs g1 => C (enumI xs) g1) := by
  obtain ⟨t, h1, h2⟩ := h.run
  refine ⟨iEnum f.K (tCons t tNil), fun X hX => by rw [← hX.K]; exact pi_enum (hX.gl hg) (by rw [hX.mg]; exact hm) (pa_cons (h1 X hX) pa_nil (hs X.env)) (hs X.env), fun c0 σ c r C R hm hR => semL_pa1 h2 r hm fun x p vs c1 e w la d q => ?_⟩
  exact ⟨p, vs, rfl, la.sq, hR _ _ c1 e w q (yl_enum fun c y w' => ⟨(la.step y).sq, dpAll_mono y.fz d⟩)⟩
theorem yl_zip {K : PySem.W.Frag} {P : Cfg G → Prop} {p p' : Addr} {vs us : List V} {xs : List α} {ys : List β} (h : ∀ c, P c → Wf W c → (SqL K c.H p vs ∧ DpAll K c.F vs (xs.map enc)) ∧ SqL K c.H p' us ∧ DpAll K c.F us (ys.map enc)) : Yl K W P (Itz K p p') (xs.zip ys) where
  go i c x w hi := by
    obtain ⟨⟨h1, h2⟩, k1, k2⟩ := h c x w
    have hl := dpAll_len h2
    have hl' := dpAll_len k2
    rw [List.length_map] at hl hl'
    rw [List.length_zip] at hi
    exact ⟨vs, us, vs[i], us[i], h1, k1, by rw [List.getElem?_eq_getElem (by omega)], by rw [List.getElem?_eq_getElem (by omega)]⟩
  yld i c x v H' y w hx hy := by
    obtain ⟨⟨h1, h2⟩, k1, k2⟩ := h c y w
    obtain ⟨T, u, u', rfl, nT, rfl, hv, hv'⟩ := hy
    have e := hv _ h1
    have e' := hv' _ k1
    obtain ⟨d, q1, q2⟩ := dpAll_getV h2 e
    obtain ⟨d', q1', q2'⟩ := dpAll_getV k2 e'
    rw [List.getElem?_map] at q1 q1'
    have hx' := List.getElem?_zip_eq_some.mp hx
    rw [hx'.1] at q1
    rw [hx'.2] at q1'
    cases q1
    cases q1'
    have sm := same_upd (o := .tup [u, u']) (w.sub.free nT)
    exact ⟨c.laid T _, rfl, rfl, Ext.laid w nT, w.laid nT, .tup (SqT.of upd_same) (.cons (dp_mono sm q2) (.cons (dp_mono sm q2') .nil))⟩
  stop i c x w hi := by
    obtain ⟨⟨h1, h2⟩, k1, k2⟩ := h c x w
    have hl := dpAll_len h2
    have hl' := dpAll_len k2
    rw [List.length_map] at hl hl'
    rw [List.length_zip] at hi
    exact ⟨vs, us, h1, k1, by omega⟩
theorem src_zip {elts : List Expr} {kk : Nat} {tpos : Pos} {m : MM G (List α)} {n : MM G (List β)} (h : EV f W S a m) (h' : EV f W S b n) (hg : GlF f "zip" := by rfl) (hm : f.mg "zip" = none) (hs : ∀ env, starEach [a, b] env = (false, eval a env) :: starEach [b] env := by intro _; rfl)
    (hs' : ∀ env, starEach [b] env = (false, eval b env) :: starEach [] env := by intro _; rfl) (hpl : ∀ env, (backTo pos (starEach [b] env)).any (·.1) = false := by intro _; rfl) :
    SRC f W S (.Tuple elts kk tpos) (.Call (.Name "zip" p) [a, b] [] pos) (fun g C => m g fun xs g1 => n g1 fun ys g2 => C (xs.zip ys) g2) := by
  obtain ⟨t, h1, h2⟩ := h.run
  obtain ⟨u, k1, k2⟩ := h'.run
  refine ⟨iZip f.K (tCons t (tCons u tNil)), fun X hX => by rw [← hX.K]; exact pi_zip (hX.gl hg) (by rw [hX.mg]; exact hm) (pa_cons (h1 X hX) (pa_cons (k1 X hX) pa_nil (hs' X.env)) (hs X.env)) (hs X.env) (hpl X.env), fun c0 σ c r C R hm hR => sem_pa2 h2 k2 r hm fun x y v u c1 e w d1 d2 q => ?_⟩
  obtain ⟨p, vs, rfl, hs, hd⟩ := dp_list d1
  obtain ⟨p', us, rfl, hs', hd'⟩ := dp_list d2
  exact ⟨p, p', vs, us, rfl, seqL_mono w.sub hs, seqL_mono w.sub hs', hR _ _ c1 e w q (yl_zip fun c y w' => ⟨⟨seqL_mono (y.trans w'.sub) hs, dpAll_mono y hd⟩, seqL_mono (y.trans w'.sub) hs', dpAll_mono y hd'⟩)⟩

/-! ### targets -/
theorem wipe_set {σ : Sg} {i : Nat} {x : Option V} : ∀ {vs : List Nat}, i ∈ vs → wipe (σ.set i x) vs = wipe σ vs
  | [], h => absurd h (by simp)
  | v :: vs, h => by
    unfold wipe
    by_cases hv : i ∈ vs
    · rw [wipe_set hv]
    · have e : i = v := by
        rcases List.mem_cons.mp h with e | e
        · exact e
        · exact absurd e hv
      subst e
      clear h
      induction vs with
      | nil => unfold wipe; rw [List.set_set]
      | cons u vs ih =>
        have hu : i ≠ u := fun z => hv (List.mem_cons.mpr (.inl z))
        unfold wipe
        rw [List.set_comm _ _ (fun z => hu z.symm), List.set_comm _ _ (fun z => hu z.symm), ih (fun z => hv (List.mem_cons_of_mem _ z))]
/-- ix: the places that are written -/
structure TG (f : Fm) (W : Wd G) (S : Sy) (tg : Expr) (ix : List Nat) {α : Type} [Enc α] (S' : α → Sy) : Prop where
  run : ∃ g, (∀ X, FmAt f X → PG X tg g) ∧ ∀ (c0 : Cfg G) (σ : Sg) (c : Cfg G) (x : α) (v : V), Rel f.K W c0 S σ c → Dp f.K c.F v (enc x) → ∀ Q : Sg → Hp → Prop,
    (∀ σ', Rel f.K W c0 (S' x) σ' c → (∀ vs, (∀ i ∈ ix, i ∈ vs) → wipe σ' vs = wipe σ vs) → Q σ' c.H) → g v σ c.H Q
structure TGs (f : Fm) (W : Wd G) (S : Sy) (tg : List Expr) (ix : List Nat) {δ : Type} [Args δ] (S' : δ → Sy) : Prop where
  run : ∃ g, (∀ X, FmAt f X → PGs X tg g) ∧ ∀ (c0 : Cfg G) (σ : Sg) (c : Cfg G) (x : δ) (v : List V), Rel f.K W c0 S σ c → DpAll f.K c.F v (encs x) → ∀ Q : Sg → Hp → Prop,
    (∀ σ', Rel f.K W c0 (S' x) σ' c → (∀ vs, (∀ i ∈ ix, i ∈ vs) → wipe σ' vs = wipe σ vs) → Q σ' c.H) → g v σ c.H Q
theorem tg_name (i : Nat) {x : Str} (hi : f.N[i]? = some x := by rfl) (hl : i < S.length := by exact Nat.le_of_ble_eq_true rfl) (hx : LocF f x := by first | exact Or.inl rfl | exact Or.inr rfl) (hf : f.fn x = true ∨ f.sc.names.lookup x = some .local := by first | exact Or.inl rfl | exact Or.inr rfl) :
    TG f W S (.Name x pos) [i] (fun v : α => S.set i (some (.fr (enc v)))) := by
  refine ⟨gName i, fun X hX => pg_name (by rw [hX.N]; exact hX.nd) (by rw [hX.N]; exact hi) (hX.loc hx) (by rw [hX.fn, hX.sc]; exact hf), fun c0 σ c v u r d Q hQ => ?_⟩
  exact hQ _ (r.set hl (fun t z => nomatch z) fun σ' e => ⟨u, e, d⟩) fun vs h => wipe_set (h i (by simp))
theorem tgs_nil : TGs f W S [] [] (fun _ : Unit => S) := by
  refine ⟨gNil, fun X hX => pgs_nil, fun c0 σ c x v r d Q hQ => ⟨?_, hQ σ r fun _ _ => rfl⟩⟩
  cases d
  rfl
theorem tgs_cons {δ : Type} [Args δ] {tg : Expr} {tgs : List Expr} {ix jx : List Nat} {S1 : α → Sy} {S2 : α → δ → Sy} (h1 : TG f W S tg ix S1) (h2 : ∀ x, TGs f W (S1 x) tgs jx (S2 x)) [Inhabited α]
    (hs : ∀ env, (assignEach (tg :: tgs) env).map (·.2) = assign tg env :: (assignEach tgs env).map (·.2) := by intro _; rfl) : TGs f W S (tg :: tgs) (ix ++ jx) (fun p : α × δ => S2 p.1 p.2) := by
  obtain ⟨g, g1, g2⟩ := h1.run
  refine ⟨gCons g (fun vs σ H Q => ∃ g', (∀ X, FmAt f X → PGs X tgs g') ∧ g' vs σ H Q), fun X hX => pgs_cons (g1 X hX) ⟨fun pins s σ H vs us Q I r h => ?_⟩ (hs X.env), fun c0 σ c x v r d Q hQ => ?_⟩
  · obtain ⟨g', a1, a2⟩ := h
    exact (a1 X hX).run pins s σ H vs us Q I r a2
  · cases d with
    | @cons u us e es d1 d2 =>
      refine ⟨_, _, rfl, g2 c0 σ c x.1 _ r d1 _ fun σ1 r1 w1 => ?_⟩
      obtain ⟨g', a1, a2⟩ := (h2 x.1).run
      refine ⟨g', a1, a2 c0 σ1 c x.2 _ r1 d2 _ fun σ2 r2 w2 => hQ σ2 r2 fun vs hv => ?_⟩
      rw [w2 vs (fun i hi => hv i (List.mem_append_right _ hi)), w1 vs (fun i hi => hv i (List.mem_append_left _ hi))]
theorem tg_tup {δ : Type} [Args δ] {es : List Expr} {k : Nat} {ix : List Nat} {S1 : δ → Sy} {n : Nat} (φ : α → δ) (hφ : ∀ x, enc x = .tuple (encs (φ x))) (hl : ∀ y : δ, (encs y).length = n) (h : TGs f W S es ix S1) (hn : ∀ env, (assignEach es env).length = n := by intro _; rfl) (hst : ∀ env, (assignEach es env).findIdx? (·.1) = none := by intro _; rfl) :
    TG f W S (.Tuple es k pos) ix (fun x : α => S1 (φ x)) := by
  obtain ⟨g, g1, g2⟩ := h.run
  refine ⟨gTup f.K n g, fun X hX => by rw [← hX.K]; exact pg_tup hX.calm (g1 X hX) (hn X.env) (hst X.env), fun c0 σ c x v r d Q hQ => ?_⟩
  rw [hφ] at d
  obtain ⟨p, vs, rfl, hs, hd⟩ := dp_tup d
  exact ⟨p, vs, rfl, sqT_mono r.wf.sub hs, (dpAll_len hd).trans (hl _), g2 c0 σ c _ _ r hd Q hQ⟩

/-! ### comprehensions -/
def wipeS (S : Sy) : List Nat → Sy
  | [] => S
  | v :: vs => (wipeS S vs).set v none
theorem wipeS_some {S : Sy} {i : Nat} {s : Slot} : ∀ {vs : List Nat}, (wipeS S vs)[i]? = some (some s) → S[i]? = some (some s) ∧ i ∉ vs
  | [], h => ⟨h, by simp⟩
  | v :: vs, h => by
    unfold wipeS at h
    by_cases hi : v = i
    · subst hi
      by_cases hv : v < (wipeS S vs).length
      · rw [List.getElem?_set_self hv] at h; cases h
      · rw [List.getElem?_eq_none (by simpa using hv)] at h; cases h
    · rw [List.getElem?_set_ne hi] at h
      obtain ⟨h1, h2⟩ := wipeS_some h
      exact ⟨h1, by simp only [List.mem_cons, not_or]; exact ⟨fun e => hi e.symm, h2⟩⟩
theorem wipeS_length (S : Sy) : ∀ vs : List Nat, (wipeS S vs).length = S.length
  | [] => rfl
  | v :: vs => by unfold wipeS; rw [List.length_set, wipeS_length S vs]
theorem wipe_get {σ : Sg} {i : Nat} : ∀ {vs : List Nat}, i ∉ vs → (wipe σ vs)[i]? = σ[i]?
  | [], _ => rfl
  | v :: vs, h => by
    unfold wipe
    rw [List.getElem?_set_ne (fun e => h (by rw [e]; exact List.mem_cons_self)), wipe_get (fun z => h (List.mem_cons_of_mem _ z))]
theorem wipe_wipe (σ : Sg) (vs : List Nat) : wipe (wipe σ vs) vs = wipe σ vs := by
  refine List.ext_getElem? fun i => ?_
  by_cases hi : i ∈ vs
  · have h : ∀ τ τ' : Sg, τ.length = τ'.length → ∀ us : List Nat, i ∈ us → (wipe τ us)[i]? = (wipe τ' us)[i]? := by
      intro τ τ' hl us
      induction us with
      | nil => intro h; exact absurd h (by simp)
      | cons u us ih =>
        intro h
        unfold wipe
        by_cases hu : u = i
        · subst hu
          by_cases hlt : u < (wipe τ us).length
          · rw [List.getElem?_set_self hlt, List.getElem?_set_self (by rw [wipe_length] at hlt ⊢; omega)]
          · rw [List.getElem?_eq_none (by rw [List.length_set]; omega), List.getElem?_eq_none (by rw [List.length_set, wipe_length]; rw [wipe_length] at hlt; omega)]
        · rw [List.getElem?_set_ne hu, List.getElem?_set_ne hu]
          refine ih ?_
          rcases List.mem_cons.mp h with e | e
          · exact absurd e.symm hu
          · exact e
    exact h _ _ (wipe_length σ vs) vs hi
  · rw [wipe_get hi]
theorem SlotOk.at {K : PySem.W.Frag} {c0 c : Cfg G} {σ σ' : Sg} {i : Nat} {s : Slot} (h : SlotOk K c0 c σ i s) (e : σ'[i]? = σ[i]?) : SlotOk K c0 c σ' i s := by
  cases s with
  | fr d => obtain ⟨v, q, h⟩ := h; exact ⟨v, e.trans q, h⟩
  | ow t => obtain ⟨p, o, q, h⟩ := h; exact ⟨p, o, e.trans q, h⟩
  | raw v => exact e.trans h
  | inv φ => obtain ⟨v, q, h⟩ := h; exact ⟨v, e.trans q, h⟩
theorem Rel.wipe {K : PySem.W.Frag} {c0 c : Cfg G} {σ : Sg} (r : Rel K W c0 S σ c) (vs : List Nat) : Rel K W c0 (wipeS S vs) (L2.wipe σ vs) c := by
  refine ⟨r.wf, r.ext, by rw [wipe_length, wipeS_length]; exact r.len, fun i s h => ?_, fun i j s t p hij h1 h2 h3 => ?_⟩
  · obtain ⟨k1, k2⟩ := wipeS_some h
    exact SlotOk.at (r.ok i s k1) (wipe_get k2)
  · obtain ⟨k1, k2⟩ := wipeS_some h1
    obtain ⟨l1, l2⟩ := wipeS_some h2
    rw [wipe_get k2] at h3
    rw [wipe_get l2]
    exact r.dis i j s t p hij k1 l1 h3
theorem Ext.write {c1 c : Cfg G} {p : Addr} {o : HO} (x : Ext c1 c) (np : c1.H p = none) : Ext c1 (c.made p o) :=
  ⟨fun b y e n => by
    show upd c.H p o b = some y
    rw [upd_ne (ne_of_none e np)]
    exact x.keep b y e n, x.fz, x.fnew, x.von, x.vnew, fun b h => by
    show upd c.H p o b ≠ none
    rw [upd_ne (fun e => h (by rw [e]; exact np))]
    exact x.dom b h⟩
def lcW (mt : α → MM G Bool) (me : α → MM G β) : List α → List β → MM G (List β)
  | [], acc, g, C => C acc g
  | x :: xs, acc, g, C => mt x g fun b g1 => if b = true then me x g1 fun y g2 => acc.length < sizeLine ∧ lcW mt me xs (acc ++ [y]) g2 C else lcW mt me xs acc g1 C
theorem semN_lc {elt : Expr} {ifs : List Expr} {scope : Scope} {own : List (Str × Nat)} {ix : List Nat} {ms : MM G (List α)} {wi : TI} {g : L2.TG} {S2 : α → Sy} {mt : α → MM G Bool} {me : α → MM G β}
    (h2 : SemS f.K W S wi (fun c d => Ext c d) ms) (g2 : ∀ (c0 : Cfg G) (σ : Sg) (c : Cfg G) (x : α) (v : V), Rel f.K W c0 (wipeS S (own.map (·.2))) σ c → Dp f.K c.F v (enc x) → ∀ Q : Sg → Hp → Prop,
    (∀ σ', Rel f.K W c0 (S2 x) σ' c → (∀ vs, (∀ i ∈ ix, i ∈ vs) → wipe σ' vs = wipe σ vs) → Q σ' c.H) → g v σ c.H Q) (hix : ∀ i ∈ ix, i ∈ own.map (·.2))
    (ht : ∀ x, ETs (f.blk scope) W (S2 x) ifs (mt x)) (he : ∀ x, EV (f.blk scope) W (S2 x) elt (me x)) :
    SemN f.K W S (tLc wi g (rdTs (f.blk scope) ifs) (rdE (f.blk scope) elt) (own.map (·.2))) (fun g C => ms g fun xs g1 => lcW mt me xs [] g1 C) := by
  intro c0 σ c r C Q hm hQ
  refine h2 c0 σ c r _ _ hm fun xs J c1 e1 w1 q1 y1 D nD => ?_
  have r1 := r.step e1 w1
  refine ⟨fun i m H => i + m = xs.length ∧ ∃ (d : Cfg G) (acc : List β) (va : List V), d.H = H ∧ Ext c1 d ∧ Wf W d ∧ d.H D = some (.lst va) ∧ d.F D = none ∧ ¬ d.vol D ∧ DpAll f.K d.F va (acc.map enc) ∧ lcW mt me (xs.drop i) acc d.g C,
    ⟨xs.length, by omega, c1.made D (.lst []), [], [], rfl, Ext.made nD, w1.made nD, upd_same, w1.sub.free nD, fun z => w1.vh D z nD, .nil, by rw [List.drop_zero]; exact q1⟩, ?_⟩
  rintro i m H ⟨hi, d, acc, va, rfl, ed, wd, hD, fD, vD, hac, q⟩
  by_cases hlt : i < xs.length
  · refine .inr ⟨y1.go i d ed wd hlt, fun H' => ∃ (d' : Cfg G) (acc : List β) (va : List V), d'.H = H' ∧ Ext c1 d' ∧ Wf W d' ∧ d'.H D = some (.lst va) ∧ d'.F D = none ∧ ¬ d'.vol D ∧ DpAll f.K d'.F va (acc.map enc) ∧ lcW mt me (xs.drop (i + 1)) acc d'.g C,
      fun H' h => ⟨m - 1, by omega, by omega, h⟩, fun v H' hy => ?_⟩
    obtain ⟨d', rfl, eg, ed', wd', dv⟩ := y1.yld i d xs[i] v H' ed wd (List.getElem?_eq_getElem hlt) hy
    rw [List.drop_eq_getElem_cons hlt, ← eg] at q
    have rd := ((r1.step (ed.trans ed') wd').wipe (own.map (·.2)))
    refine g2 c0 _ d' xs[i] v rd dv _ fun σ2 r2 hw => ⟨?_, ?_⟩
    · rw [hw _ hix, wipe_wipe]
    · have hD' : d'.H D = some (.lst va) := ed'.keep _ _ hD vD
      refine (ht xs[i]).rd c0 σ2 d' r2 _ _ q fun b d3 e3 w3 q3 => ?_
      have hD3 : d3.H D = some (.lst va) := e3.keep _ _ hD' (fun z => vD (ed'.vnew _ z (some_ne hD)))
      have fD3 : d3.F D = none := (e3.fnew _ (some_ne hD')).trans ((ed'.fnew _ (some_ne hD)).trans fD)
      have vD3 : ¬ d3.vol D := fun z => vD (ed'.vnew _ (e3.vnew _ z (some_ne hD')) (some_ne hD))
      have hac3 := dpAll_mono (ed'.fz.trans e3.fz) hac
      have x3 := ed.trans (ed'.trans e3)
      by_cases hb : b = true
      · rw [if_pos hb] at q3 ⊢
        refine (he xs[i]).rd c0 σ2 d3 (r2.step e3 w3) _ _ q3 fun y u d4 e4 w4 du q4 => ?_
        have hD4 : d4.H D = some (.lst va) := e4.keep _ _ hD3 vD3
        have fD4 : d4.F D = none := (e4.fnew _ (some_ne hD3)).trans fD3
        have vD4 : ¬ d4.vol D := fun z => vD3 (e4.vnew _ z (some_ne hD3))
        have hac4 := dpAll_mono e4.fz hac3
        have hln : va.length = acc.length := by rw [dpAll_len hac4, List.length_map]
        refine ⟨va, hD4, by rw [hln]; exact q4.1, d4.made D (.lst (va ++ [u])), acc ++ [y], va ++ [u], rfl, (x3.trans e4).write nD, w4.write fD4 vD4, upd_same, fD4, vD4, ?_, q4.2⟩
        rw [List.map_append]
        exact dpAll_app hac4 (.cons du .nil)
      · rw [if_neg hb] at q3 ⊢
        exact ⟨d3, acc, va, rfl, x3, w3, hD3, fD3, vD3, hac3, q3⟩
  · refine .inl ⟨y1.stop i d ed wd (by omega), ?_⟩
    rw [List.drop_eq_nil_of_le (by omega)] at q
    refine hQ acc D (.lst va) d (e1.trans ed) wd ⟨hD, hac, fD, vD, ?_⟩ q
    cases z : c.H D with
    | none => rfl
    | some o => exact absurd nD (e1.dom D (some_ne z))
theorem en_lc {elt tg iter : Expr} {ifs : List Expr} {scope : Scope} {own : List (Str × Nat)} {ix : List Nat} {ms : MM G (List α)} {S2 : α → Sy} {mt : α → MM G Bool} {me : α → MM G β}
    (hsrc : SRCC f W S tg iter ms) (ok : blkC f.N f.sc scope own = true) (htg : TG (f.blk scope) W (wipeS S (own.map (·.2))) tg ix S2) (hix : ∀ i ∈ ix, i ∈ own.map (·.2))
    (ht : ∀ x, ETs (f.blk scope) W (S2 x) ifs (mt x)) (he : ∀ x, EV (f.blk scope) W (S2 x) elt (me x)) (hs : ∀ env x, foldedSetIterable iter env x = pure x := by intro _ _; rfl) :
    EN f W S (.ListComp elt [⟨tg, iter, ifs, 0⟩] scope pos) (fun g C => ms g fun xs g1 => lcW mt me xs [] g1 C) := by
  obtain ⟨wi, h1, h2⟩ := hsrc.run
  obtain ⟨g, g1, g2⟩ := htg.run
  refine ⟨tLc wi g (rdTs (f.blk scope) ifs) (rdE (f.blk scope) elt) (own.map (·.2)), fun X hX => ?_, semN_lc h2 g2 hix ht he⟩
  exact pe_lc hX.calm (by rw [hX.N]; exact hX.nd) (h1 X hX) (by rw [hX.N, hX.sc]; exact blkOk_by ok) (fun s H C cl fp => g1 _ (hX.blk scope s H C cl fp)) (fun s H C cl fp => rdTs_ok (hX.blk scope s H C cl fp)) (fun s H C cl fp => rdE_ok (hX.blk scope s H C cl fp)) (hs X.env)
end
end M3
set_option Elab.async false
set_option linter.all false
set_option maxRecDepth 100000
/-! Typed readings of statements and blocks; defs. -/
namespace M3
open PySem PySem.Spec PyProof.Rows L2 Enc Args

variable {G : Type}
/-- what is wanted behind a block: next, return, break, continue -/
structure Po (G τ β κ : Type) where
  nx : τ → G → Prop
  rt : β → G → Prop
  bk : κ → G → Prop
  ct : κ → G → Prop
abbrev MB (G τ β κ : Type) := G → Po G τ β κ → Prop
def SemB (K : PySem.W.Frag) (W : Wd G) (S : Sy) (t : TS) {τ β κ : Type} [Enc β] (Γ : τ → Sy) (Λ : κ → Sy) (m : MB G τ β κ) : Prop :=
  ∀ (c0 : Cfg G) (σ : Sg) (c : Cfg G), Rel K W c0 S σ c → ∀ (P : Po G τ β κ) (D : Ends), m c.g P →
    (∀ s σ' c', Rel K W c0 (Γ s) σ' c' → Same c.F c'.F → P.nx s c'.g → D.nx σ' c'.H) →
    (∀ x v c', Ext c0 c' → Wf W c' → Dp K c'.F v (enc x) → P.rt x c'.g → D.rt v c'.H) →
    (∀ s σ' c', Rel K W c0 (Λ s) σ' c' → Same c.F c'.F → P.bk s c'.g → D.bk σ' c'.H) →
    (∀ s σ' c', Rel K W c0 (Λ s) σ' c' → Same c.F c'.F → P.ct s c'.g → D.ct σ' c'.H) → t D σ c.H
structure BLK (f : Fm) (W : Wd G) (S : Sy) (sts : List Stmt) {τ β κ : Type} [Enc β] (Γ : τ → Sy) (Λ : κ → Sy) (m : MB G τ β κ) : Prop where
  run : ∃ t, (∀ X, FmAt f X → PSs X sts t) ∧ SemB f.K W S t Γ Λ m
structure ST (f : Fm) (W : Wd G) (S : Sy) (st : Stmt) {τ β κ : Type} [Enc β] (Γ : τ → Sy) (Λ : κ → Sy) (m : MB G τ β κ) : Prop where
  run : ∃ t, (∀ X, FmAt f X → PS X st t) ∧ SemB f.K W S t Γ Λ m
def rdB (f : Fm) (sts : List Stmt) : TS := fun D σ H => ∃ t : TS, (∀ X, FmAt f X → PSs X sts t) ∧ t D σ H
theorem rdB_ok {f : Fm} {sts : List Stmt} {X : Cx} (hX : FmAt f X) : PSs X sts (rdB f sts) := ⟨fun pins s σ H D I h => by
  obtain ⟨t, h1, h2⟩ := h
  exact (h1 X hX).run pins s σ H D I h2⟩
section
variable {f : Fm} {W : Wd G} {S : Sy} {a b c : Expr} {pos p : Pos} {α β γ τ τ' κ κ' : Type} [Enc α] [Enc β] [Enc γ] {Γ : τ → Sy} {Γ1 : τ' → Sy} {Λ : κ → Sy} {Λ1 : κ' → Sy} {st : Stmt} {rest sts : List Stmt}
theorem BLK.rd {m : MB G τ β κ} (h : BLK f W S sts Γ Λ m) : SemB f.K W S (rdB f sts) Γ Λ m := by
  obtain ⟨t, h1, h2⟩ := h.run
  exact fun c0 σ c r P D hm n1 n2 n3 n4 => ⟨t, h1, h2 c0 σ c r P D hm n1 n2 n3 n4⟩
theorem blk_nil (s : τ) (hS : Γ s = S := by rfl) : BLK f W S [] Γ Λ (β := β) (fun g P => P.nx s g) :=
  ⟨tNext, fun X hX => pss_nil, fun c0 σ c r P D hm n1 _ _ _ => n1 s σ c (by rw [hS]; exact r) (Same.refl _) hm⟩
theorem blk_cons {m : MB G τ' β κ} {k : τ' → MB G τ β κ} (h : ST f W S st Γ1 Λ m) (hr : ∀ s, BLK f W (Γ1 s) rest Γ Λ (k s)) :
    BLK f W S (st :: rest) Γ Λ (fun g P => m g { nx := fun s g' => k s g' P, rt := P.rt, bk := P.bk, ct := P.ct }) := by
  obtain ⟨t, h1, h2⟩ := h.run
  refine ⟨tSeq t (rdB f rest), fun X hX => pss_cons (h1 X hX) (rdB_ok hX), fun c0 σ c r P D hm n1 n2 n3 n4 => ?_⟩
  exact h2 c0 σ c r _ _ hm (fun s σ' c' r' sm q => (hr s).rd c0 σ' c' r' P D q (fun s2 τ d r2 s3 => n1 s2 τ d r2 (sm.trans s3)) n2 (fun s2 τ d r2 s3 => n3 s2 τ d r2 (sm.trans s3)) (fun s2 τ d r2 s3 => n4 s2 τ d r2 (sm.trans s3))) n2 n3 n4
/-- a last statement that never goes on -/
theorem blk_last {m : MB G Empty β κ} (h : ST f W S st (fun e : Empty => nomatch e) Λ m) : BLK f W S [st] Γ Λ (fun g P => m g (Po.mk (fun e _ => nomatch e) P.rt P.bk P.ct)) := by
  obtain ⟨t, h1, h2⟩ := h.run
  exact ⟨t, fun X hX => pss_one (h1 X hX), fun c0 σ c r P D hm n1 n2 n3 n4 => h2 c0 σ c r _ _ hm (fun s => nomatch s) n2 n3 n4⟩
theorem blk_never : BLK f W S sts Γ Λ (β := β) (fun g P => False) := ⟨tNever, fun X hX => pss_never, fun c0 σ c r P D hm => hm.elim⟩
/-- names forgotten -/
inductive SubS : Sy → Sy → Prop where
  | nil : SubS [] []
  | keep {s : Option Slot} {A B : Sy} : SubS A B → SubS (s :: A) (s :: B)
  | drop {s : Option Slot} {A B : Sy} : SubS A B → SubS (none :: A) (s :: B)
theorem SubS.len {A B : Sy} (h : SubS A B) : A.length = B.length := by
  induction h with
  | nil => rfl
  | keep _ ih => exact congrArg (· + 1) ih
  | drop _ ih => exact congrArg (· + 1) ih
theorem SubS.get {A B : Sy} (h : SubS A B) : ∀ (i : Nat) (s : Slot), A[i]? = some (some s) → B[i]? = some (some s) := by
  induction h with
  | nil => exact fun i s e => e
  | keep _ ih =>
    intro i s e
    cases i with
    | zero => exact e
    | succ i => exact ih i s e
  | drop _ ih =>
    intro i s e
    cases i with
    | zero => cases e
    | succ i => exact ih i s e
theorem blk_sub {S' : Sy} {m : MB G τ β κ} (h : SubS S' S) (hb : BLK f W S' sts Γ Λ m) : BLK f W S sts Γ Λ m := by
  obtain ⟨t, h1, h2⟩ := hb.run
  exact ⟨t, h1, fun c0 σ c r P D hm n1 n2 n3 n4 => h2 c0 σ c (r.drop h.len h.get) P D hm n1 n2 n3 n4⟩
/-- a list of the def's own that is read from now on only -/
theorem blk_freeze (i : Nat) {v : List α} {m : MB G τ β κ} (hS : S[i]? = some (some (.ow (.lst (v.map enc)))) := by rfl) (hb : BLK f W (S.set i (some (.fr (enc v)))) sts Γ Λ m) : BLK f W S sts Γ Λ m := by
  obtain ⟨t, h1, h2⟩ := hb.run
  refine ⟨t, h1, fun c0 σ c r P D hm n1 n2 n3 n4 => ?_⟩
  obtain ⟨c', e1, e2, e3, r', sm⟩ := r.freeze hS
  rw [← e1]
  exact h2 c0 σ c' r' P D (by rw [e2]; exact hm) (fun s2 τ d r2 s3 => n1 s2 τ d r2 (sm.trans s3)) n2 (fun s2 τ d r2 s3 => n3 s2 τ d r2 (sm.trans s3)) (fun s2 τ d r2 s3 => n4 s2 τ d r2 (sm.trans s3))
/-- a name that isn't None here -/
theorem blk_some (i : Nat) {v : Option α} {m : α → MB G τ β κ} (hS : S[i]? = some (some (.fr (enc v))) := by rfl) (hb : ∀ x, BLK f W (S.set i (some (.fr (enc x)))) sts Γ Λ (m x)) :
    BLK f W S sts Γ Λ (fun g P => ∃ x, v = some x ∧ m x g P) := by
  refine ⟨rdB f sts, fun X hX => rdB_ok hX, fun c0 σ c r P D hm n1 n2 n3 n4 => ?_⟩
  obtain ⟨x, rfl, hm⟩ := hm
  have e : S.set i (some (.fr (enc x))) = S := by
    refine List.ext_getElem? fun j => ?_
    by_cases h : i = j
    · subst h
      rw [get_set_eq (lt_of_some hS), hS]
      rfl
    · rw [get_set_ne h]
  have q := (hb x).rd
  rw [e] at q
  exact q c0 σ c r P D hm n1 n2 n3 n4
/-! ### assignments -/
theorem st_set (i : Nat) {x : Str} {p' : Pos} {e : Expr} {m : MM G α} (he : EV f W S e m) (hi : f.N[i]? = some x := by rfl) (hl : i < S.length := by exact Nat.le_of_ble_eq_true rfl) (hx : LocF f x := by first | exact Or.inl rfl | exact Or.inr rfl)
    (hs : ∀ env : Env, env.scope = f.sc → swapsWith e (some (.Name x p')) pos.line env = pure false := by intro _ _; rfl) (hf : f.fn x = true ∨ f.sc.names.lookup x = some .local := by first | exact Or.inl rfl | exact Or.inr rfl) :
    ST f W S (.Assign [.Name x p'] e pos) (fun v : α => S.set i (some (.fr (enc v)))) Λ (β := β) (fun g P => m g fun v g' => P.nx v g') := by
  obtain ⟨t, h1, h2⟩ := he.run
  refine ⟨tAsg t (gName i), fun X hX => ps_set (by rw [hX.N]; exact hX.nd) (by rw [hX.N]; exact hi) (hX.loc hx) (h1 X hX) (hs X.env hX.sc) (by rw [hX.fn, hX.sc]; exact hf), fun c0 σ c r P D hm n1 _ _ _ => ?_⟩
  exact h2 c0 σ c r _ _ hm fun v u c' e w d q => n1 v _ c' ((r.step e w).set hl (fun t z => nomatch z) fun σ' z => ⟨u, z, d⟩) e.fz q
theorem NewL.set {c0 c c' : Cfg G} {K : PySem.W.Frag} {σ : Sg} {i : Nat} {p : Addr} {o : HO} {t : OC} (r : Rel K W c0 S σ c) (e : Ext c c') (w : Wf W c') (n : NewL K c c' p o t) (hl : i < S.length) : Rel K W c0 (S.set i (some (.ow t))) (σ.set i (some (.ref p))) c' := by
  refine (r.step e w).setOw hl n.at' n.ok n.nf n.nv ?_ fun j s hj hs h => ?_
  · cases z : c0.H p with
    | none => rfl
    | some o => exact absurd n.new (r.ext.dom p (some_ne z))
  · obtain ⟨p2, o2, k1, k2, _⟩ := r.ok j _ hs
    rw [k1] at h
    cases h
    rw [n.new] at k2
    cases k2
theorem st_setN (i : Nat) {x : Str} {p' : Pos} {e : Expr} {m : MM G (List α)} (he : EN f W S e m) (hi : f.N[i]? = some x := by rfl) (hl : i < S.length := by exact Nat.le_of_ble_eq_true rfl) (hx : LocF f x := by first | exact Or.inl rfl | exact Or.inr rfl)
    (hs : ∀ env : Env, env.scope = f.sc → swapsWith e (some (.Name x p')) pos.line env = pure false := by intro _ _; rfl) (hf : f.fn x = true ∨ f.sc.names.lookup x = some .local := by first | exact Or.inl rfl | exact Or.inr rfl) :
    ST f W S (.Assign [.Name x p'] e pos) (fun v : List α => S.set i (some (.ow (.lst (v.map enc))))) Λ (β := β) (fun g P => m g fun v g' => P.nx v g') := by
  obtain ⟨t, h1, h2⟩ := he.run
  refine ⟨tAsg t (gName i), fun X hX => ps_set (by rw [hX.N]; exact hX.nd) (by rw [hX.N]; exact hi) (hX.loc hx) (h1 X hX) (hs X.env hX.sc) (by rw [hX.fn, hX.sc]; exact hf), fun c0 σ c r P D hm n1 _ _ _ => ?_⟩
  exact h2 c0 σ c r _ _ hm fun v p o c' e w n q => n1 v _ c' (n.set r e w hl) e.fz q
/-- x = [.. for ..] on one line, x a local: own, and frozen -/
theorem st_setLc (i : Nat) {x : Str} {p' ps : Pos} {elt tg iter : Expr} {ifs : List Expr} {scope : Scope} {own : List (Str × Nat)} {ix : List Nat} {ms : MM G (List γ)} {S2 : γ → Sy} {mt : γ → MM G Bool} {me : γ → MM G α}
    (hsrc : SRCC f W S tg iter ms) (ok : blkC f.N f.sc scope own = true) (htg : TG (f.blk scope) W (wipeS S (own.map (·.2))) tg ix S2) (hix : ∀ i ∈ ix, i ∈ own.map (·.2))
    (ht : ∀ x, ETs (f.blk scope) W (S2 x) ifs (mt x)) (he : ∀ x, EV (f.blk scope) W (S2 x) elt (me x)) (hs : ∀ env x, foldedSetIterable iter env x = pure x := by intro _ _; rfl)
    (hi : f.N[i]? = some x := by rfl) (hl : i < S.length := by exact Nat.le_of_ble_eq_true rfl) (hx : f.sc.names.lookup x = some .local := by rfl) (hk : f.sc.kind = .function := by rfl) (hline : (p'.line == pos.line) = true := by rfl) (hn : (scope.names.any fun (n, k) => n == x && (k == .local || k == .cell)) = false := by decide +kernel) :
    ST f W S (.Assign [.Name x p'] (.ListComp elt [⟨tg, iter, ifs, 0⟩] scope pos) ps) (fun v : List α => S.set i (some (.ow (.lst (v.map enc))))) Λ (β := β) (fun g P => ms g fun xs g1 => lcW mt me xs [] g1 fun v g' => P.nx v g') := by
  obtain ⟨wi, h1, h2⟩ := hsrc.run
  obtain ⟨g, g1, g2⟩ := htg.run
  refine ⟨tAsg (tLc wi g (rdTs (f.blk scope) ifs) (rdE (f.blk scope) elt) (own.map (·.2))) (gName i), fun X hX => ?_, fun c0 σ c r P D hm n1 _ _ _ => ?_⟩
  · exact ps_setLc hX.calm (by rw [hX.N]; exact hX.nd) (by rw [hX.N]; exact hi) (by rw [hX.sc]; exact hx) (sw_true (by rw [hX.sc]; exact hk) (by rw [hX.sc]; exact hx) hline hn) (h1 X hX) (by rw [hX.N, hX.sc]; exact blkOk_by ok)
      (fun s H C cl fp => g1 _ (hX.blk scope s H C cl fp)) (fun s H C cl fp => rdTs_ok (hX.blk scope s H C cl fp)) (fun s H C cl fp => rdE_ok (hX.blk scope s H C cl fp)) (hs X.env)
  · exact semN_lc h2 g2 hix ht he c0 σ c r _ _ hm fun v p o c' e w n q => n1 v _ c' (n.set r e w hl) e.fz q
/-- a target of any form -/
theorem st_asg {tg e : Expr} {ix : List Nat} {S1 : α → Sy} {m : MM G α} (ht : TG f W S tg ix S1) (he : EV f W S e m)
    (hs : ∀ env : Env, env.scope = f.sc → swapsWithSole [tg] e pos.line env = pure false := by intro _ _; rfl) (hw : ∀ env : Env, env.scope = f.sc → swappedStores [tg] e env = pure none := by intro _ _; rfl) (h1 : ∀ env, (assignEach [tg] env).map (·.2) = [assign tg env] := by intro _; rfl) :
    ST f W S (.Assign [tg] e pos) S1 Λ (β := β) (fun g P => m g fun v g' => P.nx v g') := by
  obtain ⟨t, a1, a2⟩ := he.run
  obtain ⟨g, g1, g2⟩ := ht.run
  refine ⟨tAsg t g, fun X hX => ps_asg (a1 X hX) (g1 X hX) (hs X.env hX.sc) (hw X.env hX.sc) (h1 X.env), fun c0 σ c r P D hm n1 _ _ _ => ?_⟩
  exact a2 c0 σ c r _ _ hm fun v u c' e w d q => g2 c0 σ c' v u (r.step e w) d _ fun σ' r' _ => n1 v σ' c' r' e.fz q
/-- a, b = x, y (two locals) -/
theorem st_par (i j : Nat) {x y : Str} {px py pt : Pos} {kt k2 : Nat} {pt2 : Pos} {m : MM G α} {n : MM G γ} (ha : EV f W S a m) (hb : EV f W S b n) (hs : ∀ env, starEach [a, b] env = (false, eval a env) :: starEach [b] env := by intro _; rfl) (hs' : ∀ env, starEach [b] env = (false, eval b env) :: starEach [] env := by intro _; rfl)
    (hp : ∀ X, FmAt f X → ∀ ta, PA X [a, b] ta → PS X (.Assign [.Tuple [.Name x px, .Name y py] kt pt] (.Tuple [a, b] k2 pt2) pos) (tPar i j ta)) (hl : i < S.length := by exact Nat.le_of_ble_eq_true rfl) (hl' : j < S.length := by exact Nat.le_of_ble_eq_true rfl) :
    ST f W S (.Assign [.Tuple [.Name x px, .Name y py] kt pt] (.Tuple [a, b] k2 pt2) pos) (fun v : α × γ => (S.set i (some (.fr (enc v.1)))).set j (some (.fr (enc v.2)))) Λ (β := β) (fun g P => m g fun v g1 => n g1 fun u g2 => P.nx (v, u) g2) := by
  obtain ⟨t, a1, a2⟩ := ha.run
  obtain ⟨u, b1, b2⟩ := hb.run
  refine ⟨tPar i j (tCons t (tCons u tNil)), fun X hX => hp X hX _ (pa_cons (a1 X hX) (pa_cons (b1 X hX) pa_nil (hs' X.env)) (hs X.env)), fun c0 σ c r P D hm n1 _ _ _ => sem_pa2 a2 b2 r hm fun x y v w c1 e w1 d1 d2 q => ?_⟩
  refine ⟨v, w, rfl, n1 (x, y) _ c1 ?_ e.fz q⟩
  have r1 := (r.step e w1).set (s := .fr (enc x)) hl (fun t z => nomatch z) fun σ' z => ⟨v, z, d1⟩
  exact r1.set (by rw [List.length_set]; exact hl') (fun t z => nomatch z) fun σ' z => ⟨w, z, d2⟩
/-! ### a list of the def's own, changed -/
theorem Rel.wrote {K : PySem.W.Frag} {c0 c : Cfg G} {σ : Sg} {i : Nat} {p : Addr} {o : HO} {t t' : OC} (r : Rel K W c0 S σ c) (hS : S[i]? = some (some (.ow t))) (hp : σ[i]? = some (some (.ref p))) (ok : OCok K c.F o t') :
    Rel K W c0 (S.set i (some (.ow t'))) σ (c.made p o) := by
  obtain ⟨p', o', e, h1, h2, h3, h4, h5⟩ := r.ok i _ hS
  have hi := lt_of_some hS
  rw [e] at hp
  have hp := V.ref.inj (Option.some.inj (Option.some.inj hp))
  subst hp
  refine ⟨r.wf.write h3 h4, r.ext.write h5, by rw [List.length_set]; exact r.len, fun j s q => ?_, fun a b s u q hab e1 e2 e3 => ?_⟩
  · by_cases hj : i = j
    · subst hj
      rw [get_set_eq hi] at q
      cases q
      exact ⟨_, o, e, upd_same, ok, h3, h4, h5⟩
    · rw [get_set_ne hj] at q
      have w := r.ok j s q
      cases s with
      | fr d => exact w
      | ow t =>
        obtain ⟨p2, o2, k0, k1, k2, k3, k4, k5⟩ := w
        have hpp : p2 ≠ p' := fun z => by
          subst z
          exact r.dis i j _ _ p2 hj hS q e k0
        exact ⟨p2, o2, k0, (by show upd c.H p' o p2 = _; rw [upd_ne hpp]; exact k1), k2, k3, k4, k5⟩
      | raw v => exact w
      | inv φ => exact w
  · have ha : ∀ s, (S.set i (some (.ow t')))[a]? = some (some (.ow s)) → ∃ s', S[a]? = some (some (.ow s')) := fun s h => by
      by_cases z : i = a
      · subst z; exact ⟨t, hS⟩
      · rw [get_set_ne z] at h; exact ⟨s, h⟩
    have hb : ∀ s, (S.set i (some (.ow t')))[b]? = some (some (.ow s)) → ∃ s', S[b]? = some (some (.ow s')) := fun s h => by
      by_cases z : i = b
      · subst z; exact ⟨t, hS⟩
      · rw [get_set_ne z] at h; exact ⟨s, h⟩
    obtain ⟨s1, k1⟩ := ha _ e1
    obtain ⟨s2, k2⟩ := hb _ e2
    exact r.dis a b s1 s2 q hab k1 k2 e3
theorem st_append (i : Nat) {x : Str} {p1 apos cpos : Pos} {v : List α} {m : MM G α} (he : EV f W S a m) (hN : f.N[i]? = some x := by rfl) (hv : VisF f x := by first | exact Or.inl rfl | exact Or.inr (Or.inl rfl) | exact Or.inr (Or.inr rfl))
    (hS : S[i]? = some (some (.ow (.lst (v.map enc)))) := by rfl) (hline : (apos.endLine == cpos.line) = true := by rfl) (hs : ∀ env, starEach [a] env = (false, eval a env) :: starEach [] env := by intro _; rfl) :
    ST f W S (.Expr (.Call (.Attribute (.Name x p1) "append" apos) [a] [] cpos) pos) (fun y : α => S.set i (some (.ow (.lst ((v ++ [y]).map enc))))) Λ (β := β) (fun g P => m g fun y g' => v.length < sizeLine ∧ P.nx y g') := by
  obtain ⟨t, h1, h2⟩ := he.run
  refine ⟨tDrop (tBM f.K "list" rAppend (tVar i) (tCons t tNil)), fun X hX => by
    rw [← hX.K]
    exact ps_expr (pe_bm PySem.F.plainAttrs_list PySem.F.slot_list_append PySem.F.type_list_append mt_append (pe_var (by rw [hX.N]; exact hN) (hX.vis hv) (hX.dbg x (List.mem_of_getElem? hN)).1 (hX.dbg x (List.mem_of_getElem? hN)).2) (pa_cons (h1 X hX) pa_nil (hs X.env)) rfl (by rw [hs]; rfl) hline (hs X.env) rfl) rfl, fun c0 σ c r P D hm n1 _ _ _ => ?_⟩
  obtain ⟨p, o, e, k1, k2, k3, k4, k5⟩ := r.ok i _ hS
  cases o with
  | lst vs =>
    refine ⟨.ref p, e, .inl ⟨rfl, _, SqL.of k1⟩, h2 c0 σ c r _ _ hm fun y u c1 e1 w1 d1 q => ?_⟩
    have r1 := r.step e1 w1
    have k1' : c1.H p = some (.lst vs) := e1.keep _ _ k1 k4
    have k2' : DpAll f.K c1.F vs (v.map enc) := dpAll_mono e1.fz k2
    have hln : vs.length = v.length := by rw [dpAll_len k2', List.length_map]
    refine ⟨p, vs, u, rfl, rfl, k1', by rw [hln]; exact q.1, n1 y σ _ (r1.wrote hS e ?_) e1.fz q.2⟩
    rw [List.map_append]
    exact dpAll_app k2' (.cons d1 .nil)
  | _ => exact (show False from k2).elim
theorem st_setitem (i : Nat) {x : Str} {p1 sp : Pos} {e : Expr} {v : List α} {m : MM G α} {n : MM G Int} (he : EV f W S e m) (hx : EV f W S b n) (hN : f.N[i]? = some x := by rfl) (hv : VisF f x := by first | exact Or.inl rfl | exact Or.inr (Or.inl rfl) | exact Or.inr (Or.inr rfl))
    (hS : S[i]? = some (some (.ow (.lst (v.map enc)))) := by rfl)
    (ha : ∀ env u, assign (.Subscript (.Name x p1) b sp) env u = (do
      let ov ← holding [u] (eval (.Name x p1) env)
      let iv ← holding [u, ov] (eval b env)
      standAt sp
      holding [u, ov, iv] (setItem ov iv u)
      release [u, ov, iv] []) := by intro _ _; rfl)
    (hs : ∀ env : Env, env.scope = f.sc → swapsWithSole [.Subscript (.Name x p1) b sp] e pos.line env = pure false := by intro _ _; rfl) (hw : ∀ env : Env, env.scope = f.sc → swappedStores [.Subscript (.Name x p1) b sp] e env = pure none := by intro _ _; rfl)
    (h1' : ∀ env, (assignEach [.Subscript (.Name x p1) b sp] env).map (·.2) = [assign (.Subscript (.Name x p1) b sp) env] := by intro _; rfl) :
    ST f W S (.Assign [.Subscript (.Name x p1) b sp] e pos) (fun l : List α => S.set i (some (.ow (.lst (l.map enc))))) Λ (β := β) (fun g P => m g fun y g1 => n g1 fun k g2 => ∃ j, ixN v.length k = some j ∧ P.nx (v.set j y) g2) := by
  obtain ⟨t, h1, h2⟩ := he.run
  obtain ⟨u, k1, k2⟩ := hx.run
  refine ⟨tAsg t (gSub (tVar i) u rSetL), fun X hX => ps_asg (h1 X hX) (pg_sub (pe_var (by rw [hX.N]; exact hN) (hX.vis hv) (hX.dbg x (List.mem_of_getElem? hN)).1 (hX.dbg x (List.mem_of_getElem? hN)).2) (k1 X hX) set_list (ha X.env)) (hs X.env hX.sc) (hw X.env hX.sc) (h1' X.env), fun c0 σ c r P D hm n1 _ _ _ => ?_⟩
  refine h2 c0 σ c r _ _ hm fun y w c1 e1 w1 d1 q1 => ?_
  have r1 := r.step e1 w1
  obtain ⟨p, o, e, l1, l2, l3, l4, l5⟩ := r1.ok i _ hS
  cases o with
  | lst vs =>
    refine ⟨.ref p, e, k2 c0 σ c1 r1 _ _ q1 fun k uk c2 e2 w2 d2 q2 => ?_⟩
    obtain ⟨j, hj, q⟩ := q2
    have l1' : c2.H p = some (.lst vs) := e2.keep _ _ l1 l4
    have l2' : DpAll f.K c2.F vs (v.map enc) := dpAll_mono e2.fz l2
    have hln : vs.length = v.length := by rw [dpAll_len l2', List.length_map]
    refine ⟨p, vs, k, j, rfl, dp_int d2, l1', by rw [hln]; exact hj, n1 _ σ _ ((r1.step e2 w2).wrote hS e ?_) (e1.fz.trans e2.fz) q⟩
    rw [List.map_set]
    exact dpAll_set (dp_mono e2.fz d1) j l2'
  | _ => exact (show False from l2).elim
theorem st_extend (i : Nat) {x : Str} {p1 apos cpos : Pos} {v : List α} {m : MM G (List α)} (he : EN f W S a m) (hN : f.N[i]? = some x := by rfl) (hv : VisF f x := by first | exact Or.inl rfl | exact Or.inr (Or.inl rfl) | exact Or.inr (Or.inr rfl))
    (hS : S[i]? = some (some (.ow (.lst (v.map enc)))) := by rfl) (hline : (apos.endLine == cpos.line) = true := by rfl) (hs : ∀ env, starEach [a] env = (false, eval a env) :: starEach [] env := by intro _; rfl) :
    ST f W S (.Expr (.Call (.Attribute (.Name x p1) "extend" apos) [a] [] cpos) pos) (fun l : List α => S.set i (some (.ow (.lst (l.map enc))))) Λ (β := β) (fun g P => m g fun y g' => v.length + y.length ≤ sizeLine ∧ P.nx (v ++ y) g') := by
  obtain ⟨t, h1, h2⟩ := he.run
  refine ⟨tDrop (tBM f.K "list" rExtend (tVar i) (tCons t tNil)), fun X hX => by
    rw [← hX.K]
    exact ps_expr (pe_bm PySem.F.plainAttrs_list PySem.F.slot_list_extend PySem.F.type_list_extend mt_extend (pe_var (by rw [hX.N]; exact hN) (hX.vis hv) (hX.dbg x (List.mem_of_getElem? hN)).1 (hX.dbg x (List.mem_of_getElem? hN)).2) (pa_cons (h1 X hX) pa_nil (hs X.env)) rfl (by rw [hs]; rfl) hline (hs X.env) rfl) rfl, fun c0 σ c r P D hm n1 _ _ _ => ?_⟩
  obtain ⟨p, o, e, k1, k2, k3, k4, k5⟩ := r.ok i _ hS
  cases o with
  | lst vs =>
    refine ⟨.ref p, e, .inl ⟨rfl, _, SqL.of k1⟩, h2 c0 σ c r _ _ hm fun y pu ou c1 e1 w1 nu q => ?_⟩
    have r1 := r.step e1 w1
    cases ou with
    | lst us =>
      have k1' : c1.H p = some (.lst vs) := e1.keep _ _ k1 k4
      have k2' : DpAll f.K c1.F vs (v.map enc) := dpAll_mono e1.fz k2
      have hln : vs.length = v.length := by rw [dpAll_len k2', List.length_map]
      have hlu : us.length = y.length := by rw [dpAll_len nu.ok, List.length_map]
      refine ⟨p, pu, vs, us, rfl, rfl, k1', nu.at', by rw [hln, hlu]; exact q.1, n1 _ σ _ (r1.wrote hS e ?_) e1.fz q.2⟩
      rw [List.map_append]
      exact dpAll_app k2' nu.ok
    | _ => exact (show False from nu.ok).elim
  | _ => exact (show False from k2).elim
/-! ### the flow -/
theorem st_expr {e : Expr} {m : MM G α} (he : EV f W S e m) (hs : ∀ env, swapsWith e none pos.line env = pure false := by intro _; rfl) : ST f W S (.Expr e pos) (fun _ : Unit => S) Λ (β := β) (fun g P => m g fun _ g' => P.nx () g') := by
  obtain ⟨t, h1, h2⟩ := he.run
  exact ⟨tDrop t, fun X hX => ps_expr (h1 X hX) (hs X.env), fun c0 σ c r P D hm n1 _ _ _ => h2 c0 σ c r _ _ hm fun v u c' e w d q => n1 () σ c' (r.step e w) e.fz q⟩
theorem st_ret {e : Expr} {m : MM G β} (he : EV f W S e m) : ST f W S (.Return (some e) pos) (fun e : Empty => nomatch e) Λ (fun g P => m g fun v g' => P.rt v g') := by
  obtain ⟨t, h1, h2⟩ := he.run
  exact ⟨tRet t, fun X hX => ps_ret (h1 X hX), fun c0 σ c r P D hm _ n2 _ _ => h2 c0 σ c r _ _ hm fun v u c' e w d q => n2 v u c' (r.ext.trans e) w d q⟩
theorem st_pass : ST f W S (.Pass pos) (fun _ : Unit => S) Λ (β := β) (fun g P => P.nx () g) := ⟨_, fun X hX => ps_pass, fun c0 σ c r P D hm n1 _ _ _ => n1 () σ c r (Same.refl _) hm⟩
theorem st_break (s : κ) (hS : Λ s = S := by rfl) : ST f W S (.Break pos) (fun e : Empty => nomatch e) Λ (β := β) (fun g P => P.bk s g) := ⟨_, fun X hX => ps_break, fun c0 σ c r P D hm _ _ n3 _ => n3 s σ c (by rw [hS]; exact r) (Same.refl _) hm⟩
theorem st_cont (s : κ) (hS : Λ s = S := by rfl) : ST f W S (.Continue pos) (fun e : Empty => nomatch e) Λ (β := β) (fun g P => P.ct s g) := ⟨_, fun X hX => ps_continue, fun c0 σ c r P D hm _ _ _ n4 => n4 s σ c (by rw [hS]; exact r) (Same.refl _) hm⟩
theorem st_if {A B : List Stmt} {mc : MM G Bool} {ka kb : MB G τ β κ} (hc : ET f W S c mc) (ha : BLK f W S A Γ Λ ka) (hb : BLK f W S B Γ Λ kb) : ST f W S (.If c A B pos) Γ Λ (fun g P => mc g fun b g1 => if b = true then ka g1 P else kb g1 P) := by
  obtain ⟨t, c1, c2⟩ := hc.run
  obtain ⟨u, a1, a2⟩ := ha.run
  obtain ⟨w, b1, b2⟩ := hb.run
  refine ⟨tIfS t u w, fun X hX => ps_if (c1 X hX) (a1 X hX) (b1 X hX), fun c0 σ c r P D hm n1 n2 n3 n4 => c2 c0 σ c r _ _ hm fun x c' e w q => ?_⟩
  by_cases h : x = true
  · rw [if_pos h] at q ⊢
    exact a2 c0 σ c' (r.step e w) P D q (fun s2 τ d r2 s3 => n1 s2 τ d r2 (e.fz.trans s3)) n2 (fun s2 τ d r2 s3 => n3 s2 τ d r2 (e.fz.trans s3)) (fun s2 τ d r2 s3 => n4 s2 τ d r2 (e.fz.trans s3))
  · rw [if_neg h] at q ⊢
    exact b2 c0 σ c' (r.step e w) P D q (fun s2 τ d r2 s3 => n1 s2 τ d r2 (e.fz.trans s3)) n2 (fun s2 τ d r2 s3 => n3 s2 τ d r2 (e.fz.trans s3)) (fun s2 τ d r2 s3 => n4 s2 τ d r2 (e.fz.trans s3))
def forW (kb : τ → α → MB G τ β τ) : List α → τ → MB G τ β κ
  | [], s, g, P => P.nx s g
  | x :: xs, s, g, P => kb s x g { nx := fun s' g' => forW kb xs s' g' P, rt := P.rt, bk := fun s' g' => P.nx s' g', ct := fun s' g' => forW kb xs s' g' P }
theorem st_for {tg iter : Expr} {body : List Stmt} {ix : List Nat} {ms : MM G (List α)} {Sx : τ → α → Sy} {kb : τ → α → MB G τ β τ} (s0 : τ) (h0 : Γ s0 = S) (hsrc : SRC f W S tg iter ms) (htg : ∀ s, TG f W (Γ s) tg ix (Sx s)) (hb : ∀ s x, BLK f W (Sx s x) body Γ Γ (kb s x)) (hfs : ∀ env x, foldedSetIterable iter env x = pure x := by intro _ _; rfl) :
    ST f W S (.For tg iter body [] pos) Γ Λ (fun g P => ms g fun xs g1 => forW kb xs s0 g1 P) := by
  obtain ⟨wi, h1, h2⟩ := hsrc.run
  refine ⟨tFor wi (fun v σ H Q => ∃ g : L2.TG, (∀ X, FmAt f X → PG X tg g) ∧ g v σ H Q) (rdB f body), fun X hX => ps_for hX.pass hX.calm (h1 X hX) ⟨fun pins s σ H v u Q I r h => ?_⟩ (rdB_ok hX) (hs := hfs X.env), fun c0 σ c r P D hm n1 n2 n3 n4 => ?_⟩
  · obtain ⟨g, g1, g2⟩ := h
    exact (g1 X hX).run pins s σ H v u Q I r g2
  · refine h2 c0 σ c r _ _ hm fun xs J c1 e1 w1 q1 y1 => ?_
    have r1 := r.step e1 w1
    rw [← h0] at r1
    refine ⟨fun i m σ H => i + m = xs.length ∧ ∃ (d : Cfg G) (s : τ), d.H = H ∧ Same c1.F d.F ∧ Rel f.K W c0 (Γ s) σ d ∧ forW kb (xs.drop i) s d.g P, ⟨xs.length, by omega, c1, s0, rfl, Same.refl _, r1, by rw [List.drop_zero]; exact q1⟩, ?_⟩
    rintro i m σ H ⟨hi, d, s, rfl, sd, rd, q⟩
    by_cases hlt : i < xs.length
    · refine .inr ⟨y1.go i d sd rd.wf hlt, fun σ' H' => ∃ (d : Cfg G) (s : τ), d.H = H' ∧ Same c1.F d.F ∧ Rel f.K W c0 (Γ s) σ' d ∧ forW kb (xs.drop (i + 1)) s d.g P, fun σ' H' h => ⟨m - 1, by omega, by omega, h⟩, fun v H' hy => ?_⟩
      obtain ⟨d', rfl, eg, ed', wd', dv⟩ := y1.yld i d xs[i] v H' sd rd.wf (List.getElem?_eq_getElem hlt) hy
      rw [List.drop_eq_getElem_cons hlt, ← eg] at q
      obtain ⟨g, g1, g2⟩ := (htg s).run
      refine ⟨g, g1, g2 c0 σ d' xs[i] v (rd.step ed' wd') dv _ fun σ2 r2 _ => ?_⟩
      have sd' := sd.trans ed'.fz
      refine (hb s xs[i]).rd c0 σ2 d' r2 _ _ q (fun s' σ' c' r' sm q' => ⟨c', s', rfl, sd'.trans sm, r', q'⟩) n2 (fun s' σ' c' r' sm q' => n1 s' σ' c' r' ((e1.fz.trans sd').trans sm) q') (fun s' σ' c' r' sm q' => ⟨c', s', rfl, sd'.trans sm, r', q'⟩)
    · refine .inl ⟨y1.stop i d sd rd.wf (by omega), ?_⟩
      rw [List.drop_eq_nil_of_le (by omega)] at q
      exact n1 s σ d rd (e1.fz.trans sd) q
end
end M3
set_option Elab.async false
set_option linter.all false
set_option maxRecDepth 100000
/-! Typed readings: while, defs, the world of a law's draws. -/
namespace M3
open PySem PySem.Spec PyProof.Rows L2 Enc Args

variable {G : Type}
section
variable {f : Fm} {W : Wd G} {S : Sy} {a b c : Expr} {pos p : Pos} {α β γ τ τ' κ κ' : Type} [Enc α] [Enc β] [Enc γ] {Γ : τ → Sy} {Γ1 : τ' → Sy} {Λ : κ → Sy} {Λ1 : κ' → Sy} {st : Stmt} {rest sts : List Stmt}
def whW (mc : τ → MM G Bool) (kb : τ → MB G τ β τ) (s0 : τ) : MB G τ β κ := fun g P => ∃ (I : τ → G → Prop) (μ : τ → G → Nat), I s0 g ∧ ∀ s g, I s g →
  mc s g fun b g1 => if b = true then kb s g1 { nx := fun s' g' => I s' g' ∧ μ s' g' < μ s g, rt := P.rt, bk := fun s' g' => P.nx s' g', ct := fun s' g' => I s' g' ∧ μ s' g' < μ s g } else P.nx s g1
theorem st_while {body : List Stmt} {mc : τ → MM G Bool} {kb : τ → MB G τ β τ} (s0 : τ) (h0 : Γ s0 = S) (hc : ∀ s, ET f W (Γ s) c (mc s)) (hb : ∀ s, BLK f W (Γ s) body Γ Γ (kb s)) :
    ST f W S (.While c body [] pos) Γ Λ (whW mc kb s0) := by
  refine ⟨tWhile (rdT f c) (rdB f body), fun X hX => ps_while hX.pass (rdT_ok hX) (rdB_ok hX), fun c0 σ c r P D hm n1 n2 n3 n4 => ?_⟩
  obtain ⟨I, μ, hI, hs⟩ := hm
  refine ⟨fun m σ H => ∃ (d : Cfg G) (s : τ), d.H = H ∧ Same c.F d.F ∧ Rel f.K W c0 (Γ s) σ d ∧ I s d.g ∧ m = μ s d.g, ⟨_, c, s0, rfl, Same.refl _, by rw [h0]; exact r, hI, rfl⟩, ?_⟩
  rintro m σ H ⟨d, s, rfl, sd, rd, hId, rfl⟩
  refine (hc s).rd c0 σ d rd _ _ (hs s d.g hId) fun b c' e w q => ?_
  have r' := rd.step e w
  have s' := sd.trans e.fz
  by_cases h : b = true
  · rw [if_pos h] at q ⊢
    refine ⟨fun σ' H' => ∃ (d' : Cfg G) (s' : τ), d'.H = H' ∧ Same c.F d'.F ∧ Rel f.K W c0 (Γ s') σ' d' ∧ I s' d'.g ∧ μ s' d'.g < μ s d.g, fun σ' H' ⟨d', s2, k1, k2, k3, k4, k5⟩ => ⟨_, k5, d', s2, k1, k2, k3, k4, rfl⟩, ?_⟩
    exact (hb s).rd c0 σ c' r' _ _ q (fun s2 σ' c2 r2 sm q2 => ⟨c2, s2, rfl, s'.trans sm, r2, q2.1, q2.2⟩) n2 (fun s2 σ' c2 r2 sm q2 => n1 s2 σ' c2 r2 (s'.trans sm) q2) (fun s2 σ' c2 r2 sm q2 => ⟨c2, s2, rfl, s'.trans sm, r2, q2.1, q2.2⟩)
  · rw [if_neg h] at q ⊢
    exact n1 s σ c' r' s' q

/-! ### defs -/
def fmD (B : Bs) (N : List Str) (sc : Scope) (k : Nat) : Fm := ⟨B.prog, B.w, B.K, B.mg, B.base, N, sc, fun _ => true, k⟩
theorem fmAt_of {B : Bs} {N : List Str} {sc : Scope} {k : Nat} {qual : Str} {fa : Addr} {cdv : Value} {A : Around} {outer : List Env} {s : Shared} {H : Hp} {E : XK} (hr : Room k (A.deeper (envOfC qual sc s.heap.objs.size fa cdv))) (nd : N.Nodup)
    (dbg : ∀ x ∈ N, (x == ("__debug__" : Str)) = false ∧ (x == ("__classdict__" : Str)) = false) : FmAt (fmD B N sc k) (cxOf CX0 B.prog B.w B.K B.mg B.base N qual sc fa cdv A outer s H E).nox :=
  ⟨rfl, rfl, rfl, rfl, rfl, rfl, rfl, rfl, rfl, hr, rfl, nd, dbg⟩
def startS (N : List Str) (ds : List PyData) : Sy := ds.map (fun d => some (.fr d)) ++ List.replicate (N.length - ds.length) none
theorem rel_start {K : PySem.W.Frag} {N : List Str} {vs : List V} {ds : List PyData} {c : Cfg G} (w : Wf W c) (hd : DpAll K c.F vs ds) : Rel K W c (startS N ds) (L2.start N vs) c := by
  have hl := dpAll_len hd
  have key : ∀ (i : Nat) (s : Slot), (startS N ds)[i]? = some (some s) → ∃ d, s = .fr d ∧ ds[i]? = some d := by
    intro i s h
    unfold startS at h
    by_cases hi : i < ds.length
    · rw [List.getElem?_append_left (by rw [List.length_map]; exact hi), List.getElem?_map, List.getElem?_eq_getElem hi] at h
      cases h
      exact ⟨_, rfl, List.getElem?_eq_getElem hi⟩
    · rw [List.getElem?_append_right (by rw [List.length_map]; omega), List.getElem?_replicate] at h
      split at h <;> cases h
  refine ⟨w, Ext.refl c, ?_, fun i s h => ?_, fun i j s t p hij h1 h2 h3 => ?_⟩
  · unfold L2.start startS
    rw [List.length_append, List.length_append, List.length_map, List.length_map, List.length_replicate, List.length_replicate, hl]
  · obtain ⟨d, rfl, hi⟩ := key i s h
    obtain ⟨v, h1, h2⟩ := dpAll_get hd hi
    refine ⟨v, ?_, h2⟩
    unfold L2.start
    rw [List.getElem?_append_left (by rw [List.length_map]; exact lt_of_some h1), List.getElem?_map, h1]
    rfl
  · obtain ⟨d, z, _⟩ := key i _ h1
    cases z
/-- what stands behind the top: a def of this name -/
structure DefAt (B : Bs) (x : Str) (st : Stmt) : Prop where
  ex : ∃ fa fd, Fun B.K x x st fa fd ∧ B.mg x = some (.ref fa)
theorem def_ok {B : Bs} {x : Str} {st : Stmt} {N ps : List Str} {k : Nat} {δ : Type} [Args δ] {m : δ → (β → Prop) → Prop} (D : DefAt B x st) (Sc : FnScope N ps (defScope st)) (har : ∀ y : δ, (encs y).length = ps.length)
    (dbg : ∀ x ∈ N, (x == ("__debug__" : Str)) = false ∧ (x == ("__classdict__" : Str)) = false)
    (hbind : ∀ (kV doc pm : Value) (an : Option Addr) (cdv ct : Value) (us : List Value), us.length = ps.length → bindArgs (PySem.W.fnOf x x (defArgs st) (defBody st) (defScope st) .none kV doc pm an cdv ct) ⟨us, []⟩ = pure (ps.zip us))
    {Γ : δ → τ → Sy} (hb : ∀ y : δ, ∃ mb : MB Unit τ β Empty, BLK (fmD B N (defScope st) k) W0 (startS N (encs y)) (defBody st) (Γ y) (fun e : Empty => nomatch e) mb ∧ ∀ C : β → Prop, m y C → mb () ⟨fun _ _ => ∃ y0 : β, enc y0 = .none ∧ C y0, fun z _ => C z, (fun e _ => nomatch e), (fun e _ => nomatch e)⟩) :
    Fn B (k + 1) x m := by
  obtain ⟨fa, fd, F, hm⟩ := D.ex
  refine ⟨fa, fd, ps, F.ok Sc (fun vs H Q E h => ?_) (fun cdv A outer s H vs Q E hr h => ?_), hm, F.kp, F.binds hbind⟩
  · obtain ⟨F0, y, C, _, h2, _⟩ := h
    rw [dpAll_len h2, har]
  · obtain ⟨F0, y, C, sm, hd, hC, hQ⟩ := h
    obtain ⟨mb, ⟨t, h1, h2⟩, h3⟩ := hb y
    refine ⟨t, h1 _ (fmAt_of hr Sc.nd dbg), ?_⟩
    have w : Wf W0 (⟨H, F0, fun _ => False, ()⟩ : Cfg Unit) := ⟨sm, fun b h => h.elim, fun b h => h.elim, trivial⟩
    have fin : ∀ (z : β) (v : V) (c' : Cfg Unit), Ext (⟨H, F0, fun _ => False, ()⟩ : Cfg Unit) c' → Wf W0 c' → Dp B.K c'.F v (enc z) → C z → Q v c'.H := fun z v c' e w' d q =>
      hQ z v c'.H c'.F (fun b o hb => e.keep b o hb (fun h => h)) e.fz w'.sub e.fnew d q
    refine h2 _ _ _ (rel_start w hd) _ _ (h3 C hC) (fun s σ' c' r' _ q => ?_) (fun z v c' e w' d q => fin z v c' e w' d q) (fun s => nomatch s) (fun s => nomatch s)
    obtain ⟨y0, e0, q⟩ := q
    exact fin y0 .non c' r'.ext r'.wf (by rw [e0]; exact .non) q

/-! ### the world of a law's draws -/
/-- the state at p: [k, cells] -/
def StAt (H : Hp) (p q : Addr) : Prop := ∃ (k : Int) (cells : List Int), H p = some (.lst [.int k, .ref q]) ∧ H q = some (.lst (cells.map V.int)) ∧ p ≠ q ∧ 0 ≤ k ∧ cells ≠ [] ∧ cells.length ≤ 63 ∧ ∀ x ∈ cells, 0 ≤ x
def LawW (p : Addr) : Wd Unit := ⟨fun _ vol H => ∃ q, StAt H p q ∧ ∀ b, vol b ↔ b = p ∨ b = q, fun _ vol H H' e h => by
  obtain ⟨q, ⟨k, cells, h1, h2, h3⟩, hv⟩ := h
  exact ⟨q, ⟨k, cells, (e p ((hv p).mpr (.inl rfl))).trans h1, (e q ((hv q).mpr (.inr rfl))).trans h2, h3⟩, hv⟩⟩
/-- a def of the law that draws: its first argument the state -/
def spW (K : PySem.W.Frag) {δ : Type} [Args δ] (m : δ → (α → Prop) → Prop) : Sp := fun vs H Q _ => ∃ (p : Addr) (us : List V) (c : Cfg Unit) (x : δ) (C : α → Prop), vs = .ref p :: us ∧ c.H = H ∧ Wf (LawW p) c ∧ DpAll K c.F us (encs x) ∧ m x C ∧
  ∀ y v c', Ext c c' → Wf (LawW p) c' → Dp K c'.F v (enc y) → C y → Q v c'.H
structure FnW (B : Bs) (k : Nat) (x : Str) {δ : Type} [Args δ] (m : δ → (α → Prop) → Prop) : Prop where
  ex : ∃ fa fd ps, FnOk B.prog B.w B.K B.mg B.base CX0 k fa fd ps (spW B.K m) ∧ B.mg x = some (.ref fa) ∧ PySem.W.keepIn B.K (.ref fa) = true ∧ Binds B.K fd ps []
theorem ev_callW {q : Addr} {δ : Type} [Args δ] {es : List Expr} {x z : Str} {p pz : Pos} {k i : Nat} {m : δ → (α → Prop) → Prop} {me : MM Unit δ} (F : FnW f.bs k x m) (hk : k ≤ f.k) (hg : GlF f x) (he : EA f (LawW q) S es me)
    (hN : f.N[i]? = some z := by rfl) (hv : VisF f z := by first | exact Or.inl rfl | exact Or.inr (Or.inl rfl) | exact Or.inr (Or.inr rfl)) (hS : S[i]? = some (some (.raw (.ref q))) := by rfl)
    (hs : ∀ env, starEach (.Name z pz :: es) env = (false, eval (.Name z pz) env) :: starEach es env := by intro _; rfl) (hpl : ∀ env, (backTo pos (starEach es env)).any (·.1) = false := by intro _; rfl) (hdb : (x == ("__debug__" : Str)) = false := by decide) :
    EV f (LawW q) S (.Call (.Name x p) (.Name z pz :: es) [] pos) (fun g C => me g fun y g1 => m y fun r => C r g1) := by
  obtain ⟨fa, fd, ps, F, hm, hkeep, hb⟩ := F.ex
  obtain ⟨t, h1, h2⟩ := he.run
  refine ⟨tCall (spW f.K m) [] E0 (tCons (tVar i) t), fun X hX => ?_, fun c0 σ c r C Q hm hQ => ?_⟩
  · have F' : FnOk X.prog X.w X.K X.mg X.base CX0 k fa fd ps (spW f.K m) := by rw [hX.prog, hX.w, hX.K, hX.mg, hX.base]; exact F
    exact pe_call F' (hX.room.mono hk) (hX.gl hg) (by rw [hX.mg]; exact hm) (by rw [hX.K]; exact hkeep) (by rw [hX.K]; exact hb) .nil pass0
      (pa_cons (pe_var (by rw [hX.N]; exact hN) (hX.vis hv) (hX.dbg z (List.mem_of_getElem? hN)).1 (hX.dbg z (List.mem_of_getElem? hN)).2) (h1 X hX) (hs X.env)) hdb (hs X.env) (hpl X.env)
  · have hq : σ[i]? = some (some (.ref q)) := r.ok i _ hS
    refine ⟨.ref q, hq, h2 c0 σ c r _ _ hm fun y vs c1 e1 w1 d1 q1 => ?_⟩
    refine ⟨q, vs, c1, y, _, by rw [List.append_nil], rfl, w1, d1, q1, fun r v c' e' w' d' q' => hQ r v c' (e1.trans e') w' d' q'⟩
def startW (N : List Str) (p : Addr) (ds : List PyData) : Sy := some (.raw (.ref p)) :: (ds.map (fun d => some (.fr d)) ++ List.replicate (N.length - 1 - ds.length) none)
theorem rel_startW {K : PySem.W.Frag} {N : List Str} {p : Addr} {vs : List V} {ds : List PyData} {c : Cfg G} (w : Wf W c) (hd : DpAll K c.F vs ds) : Rel K W c (startW N p ds) (L2.start N (.ref p :: vs)) c := by
  have hl := dpAll_len hd
  have key : ∀ (i : Nat) (s : Slot), (ds.map (fun d => some (Slot.fr d)) ++ List.replicate (N.length - 1 - ds.length) none)[i]? = some (some s) → ∃ d, s = .fr d ∧ ds[i]? = some d := by
    intro i s h
    by_cases hi : i < ds.length
    · rw [List.getElem?_append_left (by rw [List.length_map]; exact hi), List.getElem?_map, List.getElem?_eq_getElem hi] at h
      cases h
      exact ⟨_, rfl, List.getElem?_eq_getElem hi⟩
    · rw [List.getElem?_append_right (by rw [List.length_map]; omega), List.getElem?_replicate] at h
      split at h <;> cases h
  refine ⟨w, Ext.refl c, ?_, fun i s h => ?_, fun i j s t p' hij h1 h2 h3 => ?_⟩
  · unfold L2.start startW
    simp only [List.length_append, List.length_map, List.length_replicate, List.length_cons, List.map_cons]
    omega
  · cases i with
    | zero =>
      cases h
      rfl
    | succ i =>
      obtain ⟨d, rfl, hi⟩ := key i s h
      obtain ⟨v, h1, h2⟩ := dpAll_get hd hi
      refine ⟨v, ?_, h2⟩
      unfold L2.start
      show (vs.map some ++ List.replicate (N.length - (V.ref p :: vs).length) none)[i]? = _
      rw [List.getElem?_append_left (by rw [List.length_map]; exact lt_of_some h1), List.getElem?_map, h1]
      rfl
  · cases i with
    | zero => cases h1
    | succ i =>
      obtain ⟨d, z, _⟩ := key i _ h1
      cases z
theorem def_okW {B : Bs} {x : Str} {st : Stmt} {N ps : List Str} {k : Nat} {δ : Type} [Args δ] {m : δ → (β → Prop) → Prop} (D : DefAt B x st) (Sc : FnScope N ps (defScope st)) (har : ∀ y : δ, (encs y).length + 1 = ps.length)
    (dbg : ∀ x ∈ N, (x == ("__debug__" : Str)) = false ∧ (x == ("__classdict__" : Str)) = false)
    (hbind : ∀ (kV doc pm : Value) (an : Option Addr) (cdv ct : Value) (us : List Value), us.length = ps.length → bindArgs (PySem.W.fnOf x x (defArgs st) (defBody st) (defScope st) .none kV doc pm an cdv ct) ⟨us, []⟩ = pure (ps.zip us))
    {Γ : Addr → δ → τ → Sy} (hb : ∀ (p : Addr) (y : δ), ∃ mb : MB Unit τ β Empty, BLK (fmD B N (defScope st) k) (LawW p) (startW N p (encs y)) (defBody st) (Γ p y) (fun e : Empty => nomatch e) mb ∧ ∀ C : β → Prop, m y C → mb () ⟨fun _ _ => ∃ y0 : β, enc y0 = .none ∧ C y0, fun z _ => C z, (fun e _ => nomatch e), (fun e _ => nomatch e)⟩) :
    FnW B (k + 1) x m := by
  obtain ⟨fa, fd, F, hm⟩ := D.ex
  refine ⟨fa, fd, ps, F.ok Sc (fun vs H Q E h => ?_) (fun cdv A outer s H vs Q E hr h => ?_), hm, F.kp, F.binds hbind⟩
  · obtain ⟨p, us, c, y, C, rfl, _, _, h2, _⟩ := h
    rw [List.length_cons, dpAll_len h2, har]
  · obtain ⟨p, us, c, y, C, rfl, rfl, w, hd, hC, hQ⟩ := h
    obtain ⟨mb, ⟨t, h1, h2⟩, h3⟩ := hb p y
    refine ⟨t, h1 _ (fmAt_of hr Sc.nd dbg), ?_⟩
    have hm' : mb c.g _ := h3 C hC
    refine h2 _ _ _ (rel_startW w hd) _ _ hm' (fun s σ' c' r' _ q => ?_) (fun z v c' e w' d q => hQ z v c' e w' d q) (fun s => nomatch s) (fun s => nomatch s)
    obtain ⟨y0, e0, q⟩ := q
    exact hQ y0 .non c' r'.ext r'.wf (by rw [e0]; exact .non) q
end
end M3
set_option Elab.async false
set_option linter.all false
set_option maxRecDepth 100000
/-! More typed rules: names dropped, loops and ifs by what they carry, lists. -/
namespace M3
open PySem PySem.Spec PyProof.Rows L2 Enc Args

variable {G : Type}
section
variable {f : Fm} {W : Wd G} {S : Sy} {a b c : Expr} {pos p : Pos} {α β γ τ τ' κ κ' : Type} [Enc α] [Enc β] [Enc γ] {Γ : τ → Sy} {Γ1 : τ' → Sy} {Λ : κ → Sy} {Λ1 : κ' → Sy} {st : Stmt} {rest sts : List Stmt}
def dropS : Sy → List Nat → Sy
  | S, [] => S
  | S, i :: is => dropS (S.set i none) is
theorem blk_at (S' : Sy) {m : MB G τ β κ} (hb : BLK f W S' sts Γ Λ m) (h : S = S' := by rfl) : BLK f W S sts Γ Λ m := by
  rw [h]
  exact hb
theorem dropS_get : ∀ {is : List Nat} {S : Sy} {i : Nat} {s : Slot}, (dropS S is)[i]? = some (some s) → S[i]? = some (some s)
  | [], _, _, _, h => h
  | j :: is, S, i, s, h => by
    have h := dropS_get (is := is) (S := S.set j none) h
    by_cases hj : j = i
    · subst hj
      by_cases hl : j < S.length
      · rw [List.getElem?_set_self hl] at h; cases h
      · rw [List.getElem?_eq_none (by rw [List.length_set]; omega)] at h; cases h
    · rw [List.getElem?_set_ne hj] at h
      exact h
theorem dropS_len : ∀ {is : List Nat} {S : Sy}, (dropS S is).length = S.length
  | [], _ => rfl
  | j :: is, S => (dropS_len (is := is)).trans (List.length_set ..)
theorem blk_drop (is : List Nat) {m : MB G τ β κ} (hb : BLK f W (dropS S is) sts Γ Λ m) : BLK f W S sts Γ Λ m := by
  obtain ⟨t, h1, h2⟩ := hb.run
  exact ⟨t, h1, fun c0 σ c r P D hm n1 n2 n3 n4 => h2 c0 σ c (r.drop dropS_len fun i s h => dropS_get h) P D hm n1 n2 n3 n4⟩
/-- all names forgotten: a def that ends without return -/
theorem blk_dropall {m : MB G τ β κ} (hb : BLK f W (List.replicate S.length none) sts Γ Λ m) : BLK f W S sts Γ Λ m := by
  obtain ⟨t, h1, h2⟩ := hb.run
  refine ⟨t, h1, fun c0 σ c r P D hm n1 n2 n3 n4 => h2 c0 σ c (r.drop (List.length_replicate ..) fun i s h => ?_) P D hm n1 n2 n3 n4⟩
  rw [List.getElem?_replicate] at h
  split at h <;> cases h
theorem st_ifU {A B : List Stmt} {mc : MM G Bool} (U : τ → Sy → Sy) {ka kb : MB G τ β κ} (hc : ET f W S c mc) (ha : BLK f W S A (fun s => U s S) Λ ka) (hb : BLK f W S B (fun s => U s S) Λ kb) :
    ST f W S (.If c A B pos) (fun s => U s S) Λ (fun g P => mc g fun b g1 => if b = true then ka g1 P else kb g1 P) := st_if hc ha hb
theorem st_forU {tg iter : Expr} {body : List Stmt} {ix : List Nat} {ms : MM G (List α)} {Sx : τ → α → Sy} {kb : τ → α → MB G τ β τ} (U : τ → Sy → Sy) (s0 : τ) (hsrc : SRC f W S tg iter ms) (htg : ∀ s, TG f W (U s S) tg ix (Sx s))
    (hb : ∀ s x, BLK f W (Sx s x) body (fun s => U s S) (fun s => U s S) (kb s x)) (h0 : U s0 S = S := by rfl) (hfs : ∀ env x, foldedSetIterable iter env x = pure x := by intro _ _; rfl) :
    ST f W S (.For tg iter body [] pos) (fun s => U s S) Λ (fun g P => ms g fun xs g1 => forW kb xs s0 g1 P) := st_for s0 h0 hsrc htg hb hfs
theorem st_whileU {body : List Stmt} {mc : τ → MM G Bool} {kb : τ → MB G τ β τ} (U : τ → Sy → Sy) (s0 : τ) (hc : ∀ s, ET f W (U s S) c (mc s)) (hb : ∀ s, BLK f W (U s S) body (fun s => U s S) (fun s => U s S) (kb s)) (h0 : U s0 S = S := by rfl) :
    ST f W S (.While c body [] pos) (fun s => U s S) Λ (whW mc kb s0) := st_while s0 h0 hc hb
/-- a, b = x, y -/
theorem st_par2 (i j : Nat) {x y : Str} {px py pt : Pos} {kt k2 : Nat} {pt2 : Pos} {m : MM G α} {n : MM G γ} (ha : EV f W S a m) (hb : EV f W S b n) (hi : f.N[i]? = some x := by rfl) (hj : f.N[j]? = some y := by rfl) (hij : i ≠ j := by decide) (hx : f.sc.names.lookup x = some .local := by rfl) (hy : f.sc.names.lookup y = some .local := by rfl)
    (hw : ∀ env : Env, env.scope = f.sc → swappedStores [.Tuple [.Name x px, .Name y py] kt pt] (.Tuple [a, b] k2 pt2) env = pure (some [x, y]) := by intro env he; obtain ⟨⟩ := env; cases he; rfl)
    (hl : i < S.length := by exact Nat.le_of_ble_eq_true rfl) (hl' : j < S.length := by exact Nat.le_of_ble_eq_true rfl)
    (hs : ∀ env, starEach [a, b] env = (false, eval a env) :: starEach [b] env := by intro _; rfl) (hs' : ∀ env, starEach [b] env = (false, eval b env) :: starEach [] env := by intro _; rfl) :
    ST f W S (.Assign [.Tuple [.Name x px, .Name y py] kt pt] (.Tuple [a, b] k2 pt2) pos) (fun v : α × γ => (S.set i (some (.fr (enc v.1)))).set j (some (.fr (enc v.2)))) Λ (β := β) (fun g P => m g fun v g1 => n g1 fun u g2 => P.nx (v, u) g2) :=
  st_par i j ha hb hs hs' (fun X hX ta hp => ps_par hX.calm (by rw [hX.N]; exact hX.nd) (by rw [hX.N]; exact hi) (by rw [hX.N]; exact hj) hij (by rw [hX.sc]; exact hx) (by rw [hX.sc]; exact hy) hp (hw X.env hX.sc) rfl) hl hl'
theorem st_par3 {δ : Type} [Enc δ] (i j l : Nat) {x y z : Str} {px py pz pt : Pos} {kt k2 : Nat} {pt2 : Pos} {ma : MM G α} {mb : MM G γ} {mc : MM G δ} (ha : EV f W S a ma) (hb : EV f W S b mb) (hc : EV f W S c mc) (hi : f.N[i]? = some x := by rfl) (hj : f.N[j]? = some y := by rfl) (hk : f.N[l]? = some z := by rfl) (hij : i ≠ j := by decide) (hil : i ≠ l := by decide) (hjl : j ≠ l := by decide)
    (hx : f.sc.names.lookup x = some .local := by rfl) (hy : f.sc.names.lookup y = some .local := by rfl) (hz : f.sc.names.lookup z = some .local := by rfl)
    (hw : ∀ env : Env, env.scope = f.sc → swappedStores [.Tuple [.Name x px, .Name y py, .Name z pz] kt pt] (.Tuple [a, b, c] k2 pt2) env = pure (some [x, y, z]) := by intro env he; obtain ⟨⟩ := env; cases he; rfl)
    (h1 : i < S.length := by exact Nat.le_of_ble_eq_true rfl) (h2 : j < S.length := by exact Nat.le_of_ble_eq_true rfl) (h3 : l < S.length := by exact Nat.le_of_ble_eq_true rfl)
    (hs : ∀ env, starEach [a, b, c] env = (false, eval a env) :: starEach [b, c] env := by intro _; rfl) (hs' : ∀ env, starEach [b, c] env = (false, eval b env) :: starEach [c] env := by intro _; rfl) (hs'' : ∀ env, starEach [c] env = (false, eval c env) :: starEach [] env := by intro _; rfl) :
    ST f W S (.Assign [.Tuple [.Name x px, .Name y py, .Name z pz] kt pt] (.Tuple [a, b, c] k2 pt2) pos) (fun v : α × γ × δ => ((S.set i (some (.fr (enc v.1)))).set j (some (.fr (enc v.2.1)))).set l (some (.fr (enc v.2.2)))) Λ (β := β) (fun g P => ma g fun v g1 => mb g1 fun u g2 => mc g2 fun w g3 => P.nx (v, u, w) g3) := by
  obtain ⟨t, a1, a2⟩ := ha.run
  obtain ⟨u, b1, b2⟩ := hb.run
  obtain ⟨w, c1, c2⟩ := hc.run
  refine ⟨tPar3 i j l (tCons t (tCons u (tCons w tNil))), fun X hX => ps_par3 hX.calm (by rw [hX.N]; exact hX.nd) (by rw [hX.N]; exact hi) (by rw [hX.N]; exact hj) (by rw [hX.N]; exact hk) hij hil hjl (by rw [hX.sc]; exact hx) (by rw [hX.sc]; exact hy) (by rw [hX.sc]; exact hz)
    (pa_cons (a1 X hX) (pa_cons (b1 X hX) (pa_cons (c1 X hX) pa_nil (hs'' X.env)) (hs' X.env)) (hs X.env)) (hw X.env hX.sc) rfl, fun c0 σ c r P D hm n1 _ _ _ => ?_⟩
  refine a2 c0 σ c r _ _ hm fun x vx d1 e1 w1 k1 q1 => b2 c0 σ d1 (r.step e1 w1) _ _ q1 fun y vy d2 e2 w2 k2 q2 => c2 c0 σ d2 ((r.step e1 w1).step e2 w2) _ _ q2 fun z vz d3 e3 w3 k3 q3 => ?_
  refine ⟨vx, vy, vz, rfl, n1 (x, y, z) _ d3 ?_ (e1.fz.trans (e2.fz.trans e3.fz)) q3⟩
  have r1 := (((r.step e1 w1).step e2 w2).step e3 w3).set (s := .fr (enc x)) h1 (fun t z => nomatch z) fun σ' z => ⟨vx, z, dp_mono (e2.fz.trans e3.fz) k1⟩
  have r2 := r1.set (s := .fr (enc y)) (v := vy) (by rw [List.length_set]; exact h2) (fun t z => nomatch z) fun σ' z => ⟨vy, z, dp_mono e3.fz k2⟩
  exact r2.set (by rw [List.length_set, List.length_set]; exact h3) (fun t z => nomatch z) fun σ' q => ⟨vz, q, k3⟩
theorem st_retN (hn : ∃ y : β, enc y = .none) : ST f W S (.Return none pos) (fun e : Empty => nomatch e) Λ (β := β) (fun g P => ∃ y : β, enc y = .none ∧ P.rt y g) :=
  ⟨tRetN, fun X hX => ps_retN, fun c0 σ c r P D hm _ n2 _ _ => by
    obtain ⟨y, e, h⟩ := hm
    exact n2 y .non c r.ext r.wf (by rw [e]; exact .non) h⟩
/-! ### more of lists -/
theorem la_dp {K : PySem.W.Frag} {c : Cfg G} {p : Addr} {vs : List V} {l : List α} (w : Wf W c) (h : LAt K c p vs) (d : DpAll K c.F vs (l.map enc)) : Dp K c.H (.ref p) (.list (l.map enc)) := .lst h.sq (dpAll_mono w.sub d)
theorem sem_ab {K : PySem.W.Frag} {ta tb : TE} {ma : MM G α} {mb : MM G (List β)} (ha : Sem K W S ta ma) (hb : SemL K W S tb mb) {c0 : Cfg G} {σ : Sg} {c : Cfg G} (r : Rel K W c0 S σ c) {C : α → List β → G → Prop} {Q : V → V → Hp → Prop}
    (hm : ma c.g fun x g1 => mb g1 fun y g2 => C x y g2) (hQ : ∀ x y v p vs c2, Ext c c2 → Wf W c2 → Dp K c2.F v (enc x) → LAt K c2 p vs → DpAll K c2.F vs (y.map enc) → C x y c2.g → Q v (.ref p) c2.H) :
    ta σ c.H fun v H1 => tb σ H1 fun u H2 => Q v u H2 :=
  ha c0 σ c r _ _ hm fun x v c1 e1 w1 d1 h1 => hb c0 σ c1 (r.step e1 w1) _ _ h1 fun y p vs c2 e2 w2 l2 d2 h2 => hQ x y v p vs c2 (e1.trans e2) w2 (dp_mono e2.fz d1) l2 d2 h2
theorem sem_ba {K : PySem.W.Frag} {ta tb : TE} {ma : MM G (List α)} {mb : MM G β} (ha : SemL K W S ta ma) (hb : Sem K W S tb mb) {c0 : Cfg G} {σ : Sg} {c : Cfg G} (r : Rel K W c0 S σ c) {C : List α → β → G → Prop} {Q : V → V → Hp → Prop}
    (hm : ma c.g fun x g1 => mb g1 fun y g2 => C x y g2) (hQ : ∀ x y v p vs c2, Ext c c2 → Wf W c2 → Dp K c2.F v (enc y) → LAt K c2 p vs → DpAll K c2.F vs (x.map enc) → C x y c2.g → Q (.ref p) v c2.H) :
    ta σ c.H fun v H1 => tb σ H1 fun u H2 => Q v u H2 :=
  ha c0 σ c r _ _ hm fun x p vs c1 e1 w1 l1 d1 h1 => hb c0 σ c1 (r.step e1 w1) _ _ h1 fun y v c2 e2 w2 d2 h2 => hQ x y v p vs c2 (e1.trans e2) w2 d2 (l1.step e2) (dpAll_mono e2.fz d1) h2
theorem sem_bb {K : PySem.W.Frag} {ta tb : TE} {ma : MM G (List α)} {mb : MM G (List β)} (ha : SemL K W S ta ma) (hb : SemL K W S tb mb) {c0 : Cfg G} {σ : Sg} {c : Cfg G} (r : Rel K W c0 S σ c) {C : List α → List β → G → Prop} {Q : V → V → Hp → Prop}
    (hm : ma c.g fun x g1 => mb g1 fun y g2 => C x y g2) (hQ : ∀ x y p vs q us c2, Ext c c2 → Wf W c2 → LAt K c2 p vs → DpAll K c2.F vs (x.map enc) → LAt K c2 q us → DpAll K c2.F us (y.map enc) → C x y c2.g → Q (.ref p) (.ref q) c2.H) :
    ta σ c.H fun v H1 => tb σ H1 fun u H2 => Q v u H2 :=
  ha c0 σ c r _ _ hm fun x p vs c1 e1 w1 l1 d1 h1 => hb c0 σ c1 (r.step e1 w1) _ _ h1 fun y q us c2 e2 w2 l2 d2 h2 => hQ x y p vs q us c2 (e1.trans e2) w2 (l1.step e2) (dpAll_mono e2.fz d1) l2 d2 h2
theorem ev_inL [Shp α] [Shp (List β)] {ma : MM G α} {mb : MM G (List β)} (ha : EV f W S a ma) (hb : EL f W S b mb) (hk : behindInMarks .In b = false := by with_unfolding_all rfl) (h1 : Shp.d α ≤ 60 := by decide) (h2 : Shp.d (List β) ≤ 60 := by decide) :
    EV f W S (.Compare a [.In] [b] pos) (fun g C => ma g fun x g1 => mb g1 fun y g2 => C (pin x y) g2) := by
  obtain ⟨ta, a1, a2⟩ := ha.run
  obtain ⟨tb, b1, b2⟩ := hb.run
  refine ⟨tOp (rInD f.K) ta tb, fun X hX => by rw [← hX.K]; exact pe_cmpR (op_inD hX.hu) (a1 X hX) (b1 X hX) hk, fun c0 σ c r C Q hm hQ => sem_ab a2 b2 r hm fun x y v p vs c2 e w d1 l2 d2 q => ?_⟩
  exact ⟨enc x, y.map enc, dp_mono w.sub d1, la_dp w l2 d2, Shp.ok x h1, Shp.ok y h2, hQ _ _ c2 e w (by rw [any_map_enc]; exact .bl _) q⟩
theorem ev_notinL [Shp α] [Shp (List β)] {ma : MM G α} {mb : MM G (List β)} (ha : EV f W S a ma) (hb : EL f W S b mb) (hk : behindInMarks .NotIn b = false := by with_unfolding_all rfl) (h1 : Shp.d α ≤ 60 := by decide) (h2 : Shp.d (List β) ≤ 60 := by decide) :
    EV f W S (.Compare a [.NotIn] [b] pos) (fun g C => ma g fun x g1 => mb g1 fun y g2 => C (!pin x y) g2) := by
  obtain ⟨ta, a1, a2⟩ := ha.run
  obtain ⟨tb, b1, b2⟩ := hb.run
  refine ⟨tOp (rNotInD f.K) ta tb, fun X hX => by rw [← hX.K]; exact pe_cmpR (op_notInD hX.hu) (a1 X hX) (b1 X hX) hk, fun c0 σ c r C Q hm hQ => sem_ab a2 b2 r hm fun x y v p vs c2 e w d1 l2 d2 q => ?_⟩
  exact ⟨enc x, y.map enc, dp_mono w.sub d1, la_dp w l2 d2, Shp.ok x h1, Shp.ok y h2, hQ _ _ c2 e w (by rw [any_map_enc]; exact .bl _) q⟩
theorem et_inL [Shp α] [Shp (List β)] {ma : MM G α} {mb : MM G (List β)} (ha : EV f W S a ma) (hb : EL f W S b mb) (hk : behindInMarks .In b = false := by with_unfolding_all rfl) (h1 : Shp.d α ≤ 60 := by decide) (h2 : Shp.d (List β) ≤ 60 := by decide) :
    ET f W S (.Compare a [.In] [b] pos) (fun g C => ma g fun x g1 => mb g1 fun y g2 => C (pin x y) g2) := by
  obtain ⟨ta, a1, a2⟩ := ha.run
  obtain ⟨tb, b1, b2⟩ := hb.run
  refine ⟨tTest (tOp (rInD f.K) ta tb), fun X hX => by rw [← hX.K]; exact pt_cmpR (op_inD hX.hu) (a1 X hX) (b1 X hX) hk, fun c0 σ c r C Q hm hQ => sem_ab a2 b2 r hm fun x y v p vs c2 e w d1 l2 d2 q => ?_⟩
  exact ⟨enc x, y.map enc, dp_mono w.sub d1, la_dp w l2 d2, Shp.ok x h1, Shp.ok y h2, _, rfl, by rw [any_map_enc]; exact hQ _ c2 e w q⟩
theorem et_notinL [Shp α] [Shp (List β)] {ma : MM G α} {mb : MM G (List β)} (ha : EV f W S a ma) (hb : EL f W S b mb) (hk : behindInMarks .NotIn b = false := by with_unfolding_all rfl) (h1 : Shp.d α ≤ 60 := by decide) (h2 : Shp.d (List β) ≤ 60 := by decide) :
    ET f W S (.Compare a [.NotIn] [b] pos) (fun g C => ma g fun x g1 => mb g1 fun y g2 => C (!pin x y) g2) := by
  obtain ⟨ta, a1, a2⟩ := ha.run
  obtain ⟨tb, b1, b2⟩ := hb.run
  refine ⟨tTest (tOp (rNotInD f.K) ta tb), fun X hX => by rw [← hX.K]; exact pt_cmpR (op_notInD hX.hu) (a1 X hX) (b1 X hX) hk, fun c0 σ c r C Q hm hQ => sem_ab a2 b2 r hm fun x y v p vs c2 e w d1 l2 d2 q => ?_⟩
  exact ⟨enc x, y.map enc, dp_mono w.sub d1, la_dp w l2 d2, Shp.ok x h1, Shp.ok y h2, _, rfl, by rw [any_map_enc]; exact hQ _ c2 e w q⟩
theorem et_truL {m : MM G (List α)} (h : EL f W S a m) (he : ∀ (env : Env) whole, isTrue a env whole = (do let v ← whole; standAt a.pos; holding [v] (truthy v)) := by intro _ _; rfl) : ET f W S a (fun g C => m g fun x g1 => C (!x.isEmpty) g1) := by
  obtain ⟨t, h1, h2⟩ := h.run
  refine ⟨fun σ H Q => t σ H fun x H' => ∃ k, TruV f.K x H' k ∧ Q k H', fun X hX => by rw [← hX.K]; exact pt_truth (h1 X hX) (he X.env), fun c0 σ c r C Q hm hQ => h2 c0 σ c r _ _ hm fun x p vs c1 e w la d q => ?_⟩
  refine ⟨!vs.isEmpty, .inl ⟨vs, la.sq, rfl⟩, ?_⟩
  have hl : vs.isEmpty = x.isEmpty := by
    have := dpAll_len d
    rw [List.length_map] at this
    cases vs <;> cases x <;> simp_all
  rw [hl]
  exact hQ _ c1 e w q
/-! list + list -/
def rCatL (K : PySem.W.Frag) : R2 := fun x y H Q => ∃ l b xs zs, x = .ref l ∧ y = .ref b ∧ SqL K H l xs ∧ SqL K H b zs ∧ xs.length + zs.length ≤ sizeLine ∧ ∀ p, H p = none → Q (.ref p) (upd H p (.lst (xs ++ zs)))
theorem op_catL {X : Cx} : OpR X (binaryOp .Add) (rCatL X.K) := by
  intro pins s σ H x y v u Q I rx ry h
  obtain ⟨l, b, xs, zs, rfl, rfl, hH, hB, hz, q⟩ := h
  cases rx
  cases ry
  obtain ⟨its, r, ⟨o, n, e, c1, d1, e1⟩, z⟩ := I.list hH
  obtain ⟨its2, r2, ⟨o2, n2, e2, c2, d2, e3⟩, z2⟩ := I.list hB
  obtain ⟨cls, dict, data, slots⟩ := o
  obtain ⟨cls2, dict2, data2, slots2⟩ := o2
  simp only at c1 d1 e1 c2 d2 e3
  subst c1 d1 e1 c2 d2 e3
  have ea : its.toArray ++ its2.toArray = (its ++ its2).toArray := by simp
  have hz' : its.toArray.size + its2.toArray.size ≤ sizeLine := by rw [List.size_toArray, List.size_toArray, ← r.length, ← r2.length]; exact hz
  refine PySem.concat_meets ⟨_, e, rfl⟩ ⟨_, e2, rfl⟩ PySem.noFill_list_add PySem.seq_list_add PySem.F.slot_list_add PySem.F.entry_list_add (PySem.F.args_list_add_2 _ _) (PyProof.Rows.list_addW l b its.toArray its2.toArray n n2 none none slots slots2 hz') ⟨e, e2, ?_⟩
  rw [ea]
  exact ⟨.ref _, _, I.lnew (t' := s.toks) (r.append r2) (by rw [List.length_append]; exact hz), rfl, q _ I.fresh⟩
theorem en_cat {ma mb : MM G (List α)} (ha : EL f W S a ma) (hb : EL f W S b mb) : EN f W S (.BinOp a .Add b pos) (fun g C => ma g fun x g1 => mb g1 fun y g2 => x.length + y.length ≤ sizeLine ∧ C (x ++ y) g2) := by
  obtain ⟨ta, a1, a2⟩ := ha.run
  obtain ⟨tb, b1, b2⟩ := hb.run
  refine ⟨tOp (rCatL f.K) ta tb, fun X hX => by rw [← hX.K]; exact pe_op op_catL (a1 X hX) (b1 X hX), fun c0 σ c r C Q hm hQ => sem_bb a2 b2 r hm fun x y p vs q us c2 e w l1 d1 l2 d2 k => ?_⟩
  have h1 := dpAll_len d1
  have h2 := dpAll_len d2
  rw [List.length_map] at h1 h2
  refine ⟨p, q, vs, us, rfl, rfl, l1.sq, l2.sq, by rw [h1, h2]; exact k.1, fun D nD => hQ _ D _ (c2.made D (.lst (vs ++ us))) (e.trans (Ext.made nD)) (w.made nD) (newL_at e w nD ?_) k.2⟩
  rw [List.map_append]
  exact dpAll_app d1 d2
theorem dpAll_rep {K : PySem.W.Frag} {H : Hp} {vs : List V} {ds : List PyData} (h : DpAll K H vs ds) : ∀ n : Nat, DpAll K H (List.replicate n vs).flatten (List.replicate n ds).flatten
  | 0 => .nil
  | n + 1 => by
    rw [List.replicate_succ, List.replicate_succ, List.flatten_cons, List.flatten_cons]
    exact dpAll_app h (dpAll_rep h n)
/-- [x, ..] * n, the list written there -/
theorem en_rep {ma : MM G (List α)} {mb : MM G Int} (ha : EN f W S a ma) (hb : EV f W S b mb) : EN f W S (.BinOp a .Mult b pos) (fun g C => ma g fun x g1 => mb g1 fun n g2 => (-(2 ^ 63) ≤ n ∧ n < 2 ^ 63 ∧ x.length * n.toNat ≤ sizeLine) ∧ C (List.replicate n.toNat x).flatten g2) := by
  obtain ⟨ta, a1, a2⟩ := ha.run
  obtain ⟨tb, b1, b2⟩ := hb.run
  refine ⟨tOp rRep ta tb, fun X hX => pe_op op_rep (a1 X hX) (b1 X hX), fun c0 σ c r C Q hm hQ => a2 c0 σ c r _ _ hm fun x p o c1 e1 w1 n1 q1 => ?_⟩
  refine b2 c0 σ c1 (r.step e1 w1) _ _ q1 fun n v c2 e2 w2 d2 q2 => ?_
  cases o with
  | lst vs =>
    have h1 : DpAll f.K c1.F vs (x.map enc) := n1.ok
    have hl := dpAll_len h1
    rw [List.length_map] at hl
    refine ⟨p, n, vs, rfl, dp_int d2, e2.keep _ _ n1.at' n1.nv, q2.1.1, q2.1.2.1, by rw [hl]; exact q2.1.2.2, fun D nD => hQ _ D _ (c2.made D (.lst _)) ((e1.trans e2).trans (Ext.made nD)) (w2.made nD) (newL_at (e1.trans e2) w2 nD ?_) q2.2⟩
    have h := dpAll_rep (dpAll_mono e2.fz h1) n.toNat
    rw [List.map_flatten, List.map_replicate]
    exact h
  | _ => exact (show False from n1.ok).elim
/-- tuple + tuple, of fixed lengths -/
theorem ev_catT {ma : MM G α} {mb : MM G β} (φ : α → β → γ) (h : ∀ x y, ∃ ds es, enc x = .tuple ds ∧ enc y = .tuple es ∧ ds ≠ [] ∧ es ≠ [] ∧ enc (φ x y) = .tuple (ds ++ es)) (ha : EV f W S a ma) (hb : EV f W S b mb) (hl : ∀ (x : α) (y : β) (ds es : List PyData), enc x = .tuple ds → enc y = .tuple es → ds.length + es.length ≤ sizeLine := by intro x y ds es h1 h2; cases h1; cases h2; rw [sizeLine_eq]; decide) :
    EV f W S (.BinOp a .Add b pos) (fun g C => ma g fun x g1 => mb g1 fun y g2 => C (φ x y) g2) := by
  obtain ⟨ta, a1, a2⟩ := ha.run
  obtain ⟨tb, b1, b2⟩ := hb.run
  refine ⟨tOp (rCatA f.K) ta tb, fun X hX => by rw [← hX.K]; exact pe_op op_catA (a1 X hX) (b1 X hX), fun c0 σ c r C Q hm hQ => sem_bin a2 b2 r hm fun x y v u c2 e w d1 d2 q => ?_⟩
  obtain ⟨ds, es, e1, e2, n1, n2, e3⟩ := h x y
  have hln := hl x y ds es e1 e2
  rw [e1] at d1
  rw [e2] at d2
  obtain ⟨p, vs, rfl, hs, hd⟩ := dp_tup d1
  obtain ⟨p', us, rfl, hs', hd'⟩ := dp_tup d2
  have hv : vs ≠ [] := fun z => by
    subst z
    cases hd
    exact n1 rfl
  have hu : us ≠ [] := fun z => by
    subst z
    cases hd'
    exact n2 rfl
  refine ⟨p, p', vs, us, rfl, rfl, sqT_mono w.sub hs, sqT_mono w.sub hs', by rw [dpAll_len hd, dpAll_len hd']; exact hln, fun z => absurd z hv, fun _ z => absurd z hu, fun _ _ D nD => hQ _ _ (c2.laid D (.tup (vs ++ us))) (e.trans (Ext.laid w nD)) (w.laid nD) ?_ q⟩
  rw [e3]
  exact .tup (SqT.of upd_same) (dpAll_mono (same_upd (w.sub.free nD)) (dpAll_app hd hd'))
/-- tuples of any length -/
theorem ev_catU {ma mb : MM G (Tup α)} (ha : EV f W S a ma) (hb : EV f W S b mb) : EV f W S (.BinOp a .Add b pos) (fun g C => ma g fun x g1 => mb g1 fun y g2 => x.l.length + y.l.length ≤ sizeLine ∧ C (Tup.mk (x.l ++ y.l)) g2) := by
  obtain ⟨ta, a1, a2⟩ := ha.run
  obtain ⟨tb, b1, b2⟩ := hb.run
  refine ⟨tOp (rCatA f.K) ta tb, fun X hX => by rw [← hX.K]; exact pe_op op_catA (a1 X hX) (b1 X hX), fun c0 σ c r C Q hm hQ => sem_bin a2 b2 r hm fun x y v u c2 e w d1 d2 q => ?_⟩
  obtain ⟨p, vs, rfl, hs, hd⟩ := dp_tup d1
  obtain ⟨p', us, rfl, hs', hd'⟩ := dp_tup d2
  have hl := dpAll_len hd
  have hl' := dpAll_len hd'
  rw [List.length_map] at hl hl'
  refine ⟨p, p', vs, us, rfl, rfl, sqT_mono w.sub hs, sqT_mono w.sub hs', by rw [hl, hl']; exact q.1, fun z => ?_, fun z z' => ?_, fun _ _ D nD => ?_⟩
  · have hx : x.l = [] := List.length_eq_zero_iff.mp (by rw [← hl, z]; rfl)
    exact hQ _ _ c2 e w (by rw [hx]; exact d2) q.2
  · have hy : y.l = [] := List.length_eq_zero_iff.mp (by rw [← hl', z']; rfl)
    exact hQ _ _ c2 e w (by rw [hy, List.append_nil]; exact d1) q.2
  · refine hQ _ _ (c2.laid D (.tup (vs ++ us))) (e.trans (Ext.laid w nD)) (w.laid nD) (.tup (SqT.of upd_same) ?_) q.2
    rw [List.map_append]
    exact dpAll_mono (same_upd (w.sub.free nD)) (dpAll_app hd hd')
/-- a slice of a tuple of fixed length, written ends -/
theorem ev_sliceT {lo hi : Option Expr} {p2 : Pos} {l h : Option Int} {ma : MM G α} (φ : α → γ) (ha : EV f W S a ma) (hl : EO f W S lo (fun g C => C l g)) (hh : EO f W S hi (fun g C => C h g))
    (hφ : ∀ x, ∃ ds, enc x = .tuple ds ∧ ¬ (HT.sIx ds.length 0 l = 0 ∧ HT.sIx ds.length ds.length h = ds.length) ∧ enc (φ x) = .tuple (cut ds l h)) :
    EV f W S (.Subscript a (.Slice lo hi none p2) pos) (fun g C => ma g fun x g1 => C (φ x) g1) := by
  obtain ⟨ta, a1, a2⟩ := ha.run
  obtain ⟨tl, l1, l2⟩ := hl.run
  obtain ⟨th, h1, h2⟩ := hh.run
  refine ⟨tSl (rSlT f.K) ta tl th, fun X hX => by rw [← hX.K]; exact pe_slice sl_tup (a1 X hX) (l1 X hX) (h1 X hX), fun c0 σ c r C Q hm hQ => a2 c0 σ c r _ _ hm fun x v c1 e1 w1 d1 q1 => ?_⟩
  refine l2 c0 σ c1 (r.step e1 w1) (fun i g => i = l ∧ C (φ x) g) _ ⟨rfl, q1⟩ fun i c2 e2 w2 q2 => ?_
  obtain ⟨rfl, q2⟩ := q2
  refine h2 c0 σ c2 ((r.step e1 w1).step e2 w2) (fun j g => j = h ∧ C (φ x) g) _ ⟨rfl, q2⟩ fun j c3 e3 w3 q3 => ?_
  obtain ⟨rfl, q3⟩ := q3
  obtain ⟨ds, k1, k2, k3⟩ := hφ x
  rw [k1] at d1
  obtain ⟨p, vs, rfl, hs, hd⟩ := dp_tup (dp_mono (e2.fz.trans e3.fz) d1)
  have hln := dpAll_len hd
  refine ⟨p, vs, rfl, sqT_mono w3.sub hs, by rw [hln]; exact k2, fun D nD => hQ _ _ (c3.laid D (.tup _)) ((e1.trans (e2.trans e3)).trans (Ext.laid w3 nD)) (w3.laid nD) ?_ q3⟩
  rw [k3]
  exact .tup (SqT.of upd_same) (dpAll_mono (same_upd (w3.sub.free nD)) (dpAll_cut hd))
/-- a constant of the module -/
structure ConstAt (B : Bs) (x : Str) (v : α) : Prop where
  ex : ∃ w u, B.mg x = some u ∧ RelV w u ∧ ∀ H, Dp B.K H w (enc v)
theorem ev_const {x : Str} {v : α} (h : ConstAt f.bs x v) (hg : GlF f x := by rfl) (hd : (x == ("__debug__" : Str)) = false := by decide) : EV f W S (.Name x pos) (fun g C => C v g) := by
  obtain ⟨w, u, h1, h2, h3⟩ := h.ex
  exact ⟨tC w, fun X hX => pe_glob (hX.gl hg) (by rw [hX.mg]; exact h1) h2 hd, fun c0 σ c r C Q hm hQ => hQ v w c (Ext.refl c) r.wf (h3 _) hm⟩
/-! ### texts -/
theorem ev_addS {ma mb : MM G Str} (ha : EV f W S a ma) (hb : EV f W S b mb) : EV f W S (.BinOp a .Add b pos) (fun g C => ma g fun x g1 => mb g1 fun y g2 => x.length + y.length ≤ sizeLine ∧ C (x ++ y) g2) := by
  obtain ⟨ta, a1, a2⟩ := ha.run
  obtain ⟨tb, b1, b2⟩ := hb.run
  refine ⟨_, fun X hX => pe_op op_add_str (a1 X hX) (b1 X hX), fun c0 σ c r C Q hm hQ => sem_bin a2 b2 r hm fun x y v u c2 e w d1 d2 q => ?_⟩
  exact ⟨x, y, dp_str d1, dp_str d2, q.1, hQ _ _ c2 e w (.str _) q.2⟩
/-- x in a tuple of flat things -/
def flatD : PyData → Bool
  | .none | .bool _ | .int _ | .str _ => true
  | _ => false
theorem flat_v {K : PySem.W.Frag} {H : Hp} {v : V} {d : PyData} (h : Dp K H v d) (hd : flatD d = true) : flatV v = true := by
  cases h <;> first
    | rfl
    | cases hd
theorem flat_eq {K : PySem.W.Frag} {H H' : Hp} {v u : V} {d e : PyData} (h : Dp K H v d) (h' : Dp K H' u e) (hd : flatD d = true) (he : flatD e = true) : eqV v u = PyData.eqv d e := by
  cases h <;> cases h' <;> first
    | cases hd; done
    | cases he; done
    | (simp [eqV, PyData.eqv]; done)
    | (rename_i b i; cases b <;> simp [eqV, PyData.eqv])
    | (rename_i i b; cases b <;> simp [eqV, PyData.eqv])
class Flt (α : Type) [Enc α] : Prop where
  ok : ∀ x : α, flatD (enc x) = true
instance : Flt Int := ⟨fun _ => rfl⟩
instance : Flt Bool := ⟨fun _ => rfl⟩
instance : Flt Str := ⟨fun _ => rfl⟩
instance [Flt α] : Flt (Option α) := ⟨fun x => match x with | none => rfl | some x => Flt.ok x⟩
theorem flat_all [Flt α] {K : PySem.W.Frag} {H : Hp} : ∀ {vs : List V} {l : List α}, DpAll K H vs (l.map enc) → vs.all flatV = true
  | _, [], .nil => rfl
  | _, x :: l, .cons h t => by rw [List.all_cons, flat_v h (Flt.ok x), flat_all t]; rfl
theorem flat_in [Flt α] [Flt β] {K : PySem.W.Frag} {H H' : Hp} {v : V} {x : β} (h : Dp K H v (enc x)) : ∀ {vs : List V} {l : List α}, DpAll K H' vs (l.map enc) → inV v vs = pin x l
  | _, [], .nil => rfl
  | _, y :: l, .cons h' t => by
    have e := flat_in h t
    unfold inV pin at e ⊢
    rw [List.any_cons, List.any_cons, e, flat_eq h' h (Flt.ok y) (Flt.ok x)]
    rfl
/-- x in a tuple of flat things -/
theorem ev_inT [Flt α] [Flt γ] {ma : MM G α} {mb : MM G β} (φ : β → List γ) (hφ : ∀ y, enc y = .tuple ((φ y).map enc)) (ha : EV f W S a ma) (hb : EV f W S b mb) (hk : behindInMarks .In b = false := by with_unfolding_all rfl) :
    EV f W S (.Compare a [.In] [b] pos) (fun g C => ma g fun x g1 => mb g1 fun y g2 => C (pin x (φ y)) g2) := by
  obtain ⟨ta, a1, a2⟩ := ha.run
  obtain ⟨tb, b1, b2⟩ := hb.run
  refine ⟨tOp (rIn f.K false) ta tb, fun X hX => by rw [← hX.K]; exact pe_cmpR op_in_seq (a1 X hX) (b1 X hX) hk, fun c0 σ c r C Q hm hQ => sem_bin a2 b2 r hm fun x y v u c2 e w d1 d2 q => ?_⟩
  rw [hφ] at d2
  obtain ⟨p, vs, rfl, hs, hd⟩ := dp_tup d2
  exact ⟨p, vs, rfl, .inr (sqT_mono w.sub hs), flat_v d1 (Flt.ok x), flat_all hd, by rw [flat_in d1 hd]; exact hQ _ _ c2 e w (.bl _) q⟩
theorem ev_notinT [Flt α] [Flt γ] {ma : MM G α} {mb : MM G β} (φ : β → List γ) (hφ : ∀ y, enc y = .tuple ((φ y).map enc)) (ha : EV f W S a ma) (hb : EV f W S b mb) (hk : behindInMarks .NotIn b = false := by with_unfolding_all rfl) :
    EV f W S (.Compare a [.NotIn] [b] pos) (fun g C => ma g fun x g1 => mb g1 fun y g2 => C (!pin x (φ y)) g2) := by
  obtain ⟨ta, a1, a2⟩ := ha.run
  obtain ⟨tb, b1, b2⟩ := hb.run
  refine ⟨tOp (rIn f.K true) ta tb, fun X hX => by rw [← hX.K]; exact pe_cmpR op_notIn_seq (a1 X hX) (b1 X hX) hk, fun c0 σ c r C Q hm hQ => sem_bin a2 b2 r hm fun x y v u c2 e w d1 d2 q => ?_⟩
  rw [hφ] at d2
  obtain ⟨p, vs, rfl, hs, hd⟩ := dp_tup d2
  exact ⟨p, vs, rfl, .inr (sqT_mono w.sub hs), flat_v d1 (Flt.ok x), flat_all hd, by rw [flat_in d1 hd]; exact hQ _ _ c2 e w (.bl _) q⟩
theorem et_inT [Flt α] [Flt γ] {ma : MM G α} {mb : MM G β} (φ : β → List γ) (hφ : ∀ y, enc y = .tuple ((φ y).map enc)) (ha : EV f W S a ma) (hb : EV f W S b mb) (hk : behindInMarks .In b = false := by with_unfolding_all rfl) :
    ET f W S (.Compare a [.In] [b] pos) (fun g C => ma g fun x g1 => mb g1 fun y g2 => C (pin x (φ y)) g2) := by
  obtain ⟨ta, a1, a2⟩ := ha.run
  obtain ⟨tb, b1, b2⟩ := hb.run
  refine ⟨tTest (tOp (rIn f.K false) ta tb), fun X hX => by rw [← hX.K]; exact pt_cmpR op_in_seq (a1 X hX) (b1 X hX) hk, fun c0 σ c r C Q hm hQ => sem_bin a2 b2 r hm fun x y v u c2 e w d1 d2 q => ?_⟩
  rw [hφ] at d2
  obtain ⟨p, vs, rfl, hs, hd⟩ := dp_tup d2
  exact ⟨p, vs, rfl, .inr (sqT_mono w.sub hs), flat_v d1 (Flt.ok x), flat_all hd, _, rfl, by rw [flat_in d1 hd]; exact hQ _ c2 e w q⟩
theorem et_notinT [Flt α] [Flt γ] {ma : MM G α} {mb : MM G β} (φ : β → List γ) (hφ : ∀ y, enc y = .tuple ((φ y).map enc)) (ha : EV f W S a ma) (hb : EV f W S b mb) (hk : behindInMarks .NotIn b = false := by with_unfolding_all rfl) :
    ET f W S (.Compare a [.NotIn] [b] pos) (fun g C => ma g fun x g1 => mb g1 fun y g2 => C (!pin x (φ y)) g2) := by
  obtain ⟨ta, a1, a2⟩ := ha.run
  obtain ⟨tb, b1, b2⟩ := hb.run
  refine ⟨tTest (tOp (rIn f.K true) ta tb), fun X hX => by rw [← hX.K]; exact pt_cmpR op_notIn_seq (a1 X hX) (b1 X hX) hk, fun c0 σ c r C Q hm hQ => sem_bin a2 b2 r hm fun x y v u c2 e w d1 d2 q => ?_⟩
  rw [hφ] at d2
  obtain ⟨p, vs, rfl, hs, hd⟩ := dp_tup d2
  exact ⟨p, vs, rfl, .inr (sqT_mono w.sub hs), flat_v d1 (Flt.ok x), flat_all hd, _, rfl, by rw [flat_in d1 hd]; exact hQ _ c2 e w q⟩

/-! ### xs.index(x) -/
theorem ev_index [Shp α] [Shp (List β)] {ma : MM G (List β)} {mb : MM G α} {apos cpos : Pos} (ha : EL f W S a ma) (hb : EV f W S b mb) (hbase : ∀ env, attributeBase a "index" env (eval a env) = eval a env := by intro _; rfl) (hline : (apos.endLine == cpos.line) = true := by rfl) (hs : ∀ env, starEach [b] env = (false, eval b env) :: starEach [] env := by intro _; rfl) (h1 : Shp.d α ≤ 60 := by decide) (h2 : Shp.d (List β) ≤ 60 := by decide) :
    EV f W S (.Call (.Attribute a "index" apos) [b] [] cpos) (fun g C => ma g fun l g1 => mb g1 fun x g2 => ∃ (j : Nat) (z : β), l[j]? = some z ∧ peq z x = true ∧ (∀ (m : Nat) (z' : β), m < j → l[m]? = some z' → peq z' x = false) ∧ C (j : Int) g2) := by
  obtain ⟨ta, a1, a2⟩ := ha.run
  obtain ⟨tb, b1, b2⟩ := hb.run
  refine ⟨tBM f.K "list" (rIndexD f.K) ta (tCons tb tNil), fun X hX => by
    rw [← hX.K]
    exact pe_bm PySem.F.plainAttrs_list PySem.F.slot_list_index PySem.F.type_list_index (mt_indexD hX.hu) (a1 X hX) (pa_cons (b1 X hX) pa_nil (hs X.env)) (hbase X.env) (by rw [hs]; rfl) hline (hs X.env) rfl, fun c0 σ c r C Q hm hQ => a2 c0 σ c r _ _ hm fun l p vs c1 e1 w1 l1 d1 q1 => ?_⟩
  refine ⟨.inl ⟨rfl, _, l1.sq⟩, b2 c0 σ c1 (r.step e1 w1) _ _ q1 fun x v c2 e2 w2 d2 q2 => ?_⟩
  obtain ⟨j, z, k1, k2, k3, q⟩ := q2
  refine ⟨p, v, enc x, l.map enc, j, enc z, rfl, rfl, la_dp w2 (l1.step e2) (dpAll_mono e2.fz d1), dp_mono w2.sub d2, Shp.ok l h2, Shp.ok x h1, by rw [List.getElem?_map, k1]; rfl, k2, fun m z' hm hz => ?_, hQ _ _ c2 (e1.trans e2) w2 (.int _) q⟩
  rw [List.getElem?_map] at hz
  cases k : l[m]? with
  | none => rw [k] at hz; cases hz
  | some y =>
    rw [k] at hz
    cases hz
    exact k3 m y hm k
end
/-! ### what is known of data -/
section
variable {α β γ δ ε : Type} [Enc α] [Enc β] [Enc γ] [Enc δ] [Enc ε]
theorem lay_all [Shp α] : ∀ l : List α, PyData.canLayAll0 (l.map enc) = true
  | [] => rfl
  | x :: l => by
    rw [List.map_cons, PyData.canLayAll0, Shp.lay x, lay_all l]
    rfl
theorem dep_all [Shp α] : ∀ l : List α, PyData.depthAll (l.map enc) ≤ Shp.d α
  | [] => Nat.zero_le _
  | x :: l => by
    rw [List.map_cons, PyData.depthAll]
    exact Nat.max_le.mpr ⟨Shp.dep x, dep_all l⟩
instance : Shp Int := ⟨0, fun _ => rfl, fun _ => Nat.le_refl _⟩
instance : Shp Bool := ⟨0, fun _ => rfl, fun _ => Nat.le_refl _⟩
instance : Shp Unit := ⟨0, fun _ => rfl, fun _ => Nat.le_refl _⟩
instance [Shp α] : Shp (Option α) := ⟨Shp.d α, fun o => match o with | none => rfl | some x => Shp.lay x, fun o => match o with | none => Nat.zero_le _ | some x => Shp.dep x⟩
instance [Shp α] : Shp (List α) := ⟨Shp.d α + 1, fun l => lay_all l, fun l => Nat.succ_le_succ (dep_all l)⟩
instance [Shp α] : Shp (Tup α) := ⟨Shp.d α + 1, fun l => lay_all l.l, fun l => Nat.succ_le_succ (dep_all l.l)⟩
theorem lay_cons {d : PyData} {ds : List PyData} (h : d.canLay0 = true) (h' : PyData.canLayAll0 ds = true) : PyData.canLayAll0 (d :: ds) = true := by
  rw [PyData.canLayAll0, h, h']
  rfl
theorem dep_cons {d : PyData} {ds : List PyData} {n m : Nat} (h : d.depth ≤ n) (h' : PyData.depthAll ds ≤ m) : PyData.depthAll (d :: ds) ≤ max n m := by
  rw [PyData.depthAll]
  omega
instance [Shp α] : Shp (T1 α) := ⟨max (Shp.d α) 0 + 1, fun p => lay_cons (Shp.lay p.a) rfl, fun p => Nat.succ_le_succ (dep_cons (Shp.dep p.a) (Nat.le_refl 0))⟩
instance [Shp α] [Shp β] : Shp (α × β) := ⟨max (Shp.d α) (max (Shp.d β) 0) + 1, fun p => lay_cons (Shp.lay p.1) (lay_cons (Shp.lay p.2) rfl), fun p => Nat.succ_le_succ (dep_cons (Shp.dep p.1) (dep_cons (Shp.dep p.2) (Nat.le_refl 0)))⟩
instance [Shp α] [Shp β] [Shp γ] : Shp (T3 α β γ) := ⟨max (Shp.d α) (max (Shp.d β) (max (Shp.d γ) 0)) + 1, fun p => lay_cons (Shp.lay p.a) (lay_cons (Shp.lay p.b) (lay_cons (Shp.lay p.c) rfl)), fun p => Nat.succ_le_succ (dep_cons (Shp.dep p.a) (dep_cons (Shp.dep p.b) (dep_cons (Shp.dep p.c) (Nat.le_refl 0))))⟩
instance [Shp α] [Shp β] [Shp γ] [Shp δ] : Shp (T4 α β γ δ) := ⟨max (Shp.d α) (max (Shp.d β) (max (Shp.d γ) (max (Shp.d δ) 0))) + 1, fun p => lay_cons (Shp.lay p.a) (lay_cons (Shp.lay p.b) (lay_cons (Shp.lay p.c) (lay_cons (Shp.lay p.d) rfl))), fun p => Nat.succ_le_succ (dep_cons (Shp.dep p.a) (dep_cons (Shp.dep p.b) (dep_cons (Shp.dep p.c) (dep_cons (Shp.dep p.d) (Nat.le_refl 0)))))⟩
instance : NN Int := ⟨fun _ h => nomatch h⟩
instance : NN Bool := ⟨fun _ h => nomatch h⟩
instance : NN Str := ⟨fun _ h => nomatch h⟩
instance : NN (List α) := ⟨fun _ h => nomatch h⟩
instance : NN (Tup α) := ⟨fun _ h => nomatch h⟩
instance : NN (α × β) := ⟨fun _ h => nomatch h⟩
instance : NN (T1 α) := ⟨fun _ h => nomatch h⟩
instance : NN (T3 α β γ) := ⟨fun _ h => nomatch h⟩
instance : NN (T4 α β γ δ) := ⟨fun _ h => nomatch h⟩
instance : NN (T5 α β γ δ ε) := ⟨fun _ h => nomatch h⟩
/-- == of data of one type is equality -/
class PEq (α : Type) [Enc α] : Prop where
  ok : ∀ x y : α, PyData.eqv (enc x) (enc y) = true ↔ x = y
instance : PEq Int := ⟨fun x y => by show (x == y) = true ↔ _; rw [beq_iff_eq]⟩
instance : PEq Bool := ⟨fun x y => by show (x == y) = true ↔ _; rw [beq_iff_eq]⟩
instance : PEq Str := ⟨fun x y => by show (x == y) = true ↔ _; rw [beq_iff_eq]⟩
theorem peq_all [PEq α] : ∀ x y : List α, PyData.eqvAll (x.map enc) (y.map enc) = true ↔ x = y
  | [], [] => by simp [PyData.eqvAll]
  | [], _ :: _ => by simp [PyData.eqvAll]
  | _ :: _, [] => by simp [PyData.eqvAll]
  | x :: xs, y :: ys => by
    rw [List.map_cons, List.map_cons, PyData.eqvAll, Bool.and_eq_true, PEq.ok, peq_all xs ys, List.cons.injEq]
instance [PEq α] : PEq (List α) := ⟨fun x y => by show PyData.eqvAll _ _ = true ↔ _; exact peq_all x y⟩
instance [PEq α] : PEq (Tup α) := ⟨fun x y => by show PyData.eqvAll _ _ = true ↔ _; rw [peq_all]; cases x; cases y; simp⟩
instance [PEq α] [NN α] : PEq (Option α) := ⟨fun x y => by
  cases x with
  | none =>
    cases y with
    | none => simp [enc, PyData.eqv]
    | some y =>
      have h := NN.ok y
      show PyData.eqv .none (enc y) = true ↔ _
      revert h
      generalize enc y = d
      intro h
      cases d <;> simp_all [PyData.eqv]
  | some x =>
    cases y with
    | none =>
      have h := NN.ok x
      show PyData.eqv (enc x) .none = true ↔ _
      revert h
      generalize enc x = d
      intro h
      cases d <;> simp_all [PyData.eqv]
    | some y =>
      show PyData.eqv (enc x) (enc y) = true ↔ _
      rw [PEq.ok]
      simp⟩
theorem eqv_cons {d e : PyData} {ds es : List PyData} : PyData.eqvAll (d :: ds) (e :: es) = (PyData.eqv d e && PyData.eqvAll ds es) := by rw [PyData.eqvAll]
theorem eqv_nil : PyData.eqvAll [] [] = true := rfl
instance [PEq α] : PEq (T1 α) := ⟨fun x y => by show PyData.eqvAll [_] [_] = true ↔ _; rw [eqv_cons, eqv_nil, Bool.and_true, PEq.ok]; cases x; cases y; simp⟩
instance [PEq α] [PEq β] : PEq (α × β) := ⟨fun x y => by show PyData.eqvAll [_, _] [_, _] = true ↔ _; rw [eqv_cons, eqv_cons, eqv_nil, Bool.and_true, Bool.and_eq_true, PEq.ok, PEq.ok]; cases x; cases y; simp⟩
instance [PEq α] [PEq β] [PEq γ] : PEq (T3 α β γ) := ⟨fun x y => by show PyData.eqvAll [_, _, _] [_, _, _] = true ↔ _; rw [eqv_cons, eqv_cons, eqv_cons, eqv_nil, Bool.and_true, Bool.and_eq_true, Bool.and_eq_true, PEq.ok, PEq.ok, PEq.ok]; cases x; cases y; simp⟩
instance [PEq α] [PEq β] [PEq γ] [PEq δ] : PEq (T4 α β γ δ) := ⟨fun x y => by show PyData.eqvAll [_, _, _, _] [_, _, _, _] = true ↔ _; rw [eqv_cons, eqv_cons, eqv_cons, eqv_cons, eqv_nil, Bool.and_true, Bool.and_eq_true, Bool.and_eq_true, Bool.and_eq_true, PEq.ok, PEq.ok, PEq.ok, PEq.ok]; cases x; cases y; simp⟩
theorem peq_iff [PEq α] {x y : α} : peq x y = true ↔ x = y := PEq.ok x y
theorem peq_dec [PEq α] [DecidableEq α] {x y : α} : peq x y = decide (x = y) := by
  rw [Bool.eq_iff_iff, peq_iff, decide_eq_true_iff]
theorem pin_iff [PEq α] {x : α} {l : List α} : pin x l = true ↔ x ∈ l := by
  unfold pin
  rw [List.any_eq_true]
  constructor
  · rintro ⟨y, h1, h2⟩
    rw [peq_iff] at h2
    subst h2
    exact h1
  · exact fun h => ⟨x, h, peq_iff.mpr rfl⟩
theorem pin_dec [PEq α] [DecidableEq α] {x : α} {l : List α} : pin x l = decide (x ∈ l) := by
  rw [Bool.eq_iff_iff, pin_iff, decide_eq_true_iff]
end
end M3
set_option Elab.async false
set_option linter.all false
set_option maxRecDepth 100000
/-! set(xs) of a list of whole numbers; sorted(set(xs)); len(set(xs)). -/
namespace M3
open PySem PySem.Spec PyProof.Rows L2 Enc Args

abbrev noSet (w : World) : Obj := { cls := .type "set", dict := none, data := .set #[] 0 (.fresh 0 0 (!w.params.followText "set-order")) }
abbrev itOf (l : Addr) : Obj := { cls := .type "list_iterator", data := .fields #[.ref l, .int 0 0] }
section
variable {P : Program} {w : World} {A : Around} {E : Value → Shared → Prop} {s : Shared}
set_option maxHeartbeats 6400000 in
/-- set(l): what is left is the loop that adds -/
theorem call_set_by {l : Addr} {items : Array Value} {Q : Value → Shared → Prop} {Z : Shared → Prop} (hl : s.heap.IsList l items)
    (loop : codeAny (model P w) A.in1.in1 (.builtin "set.update.loop" ⟨[.ref s.heap.objs.size, .ref (s.heap.objs.size + 1)], []⟩) (fun r s' => r = .ok (.ret .none) ∧ Z s') { s with heap := (s.heap.push (noSet w)).push (itOf l) })
    (h : ∀ s', Z s' → Q (.ref s.heap.objs.size) s') : wpAny (model P w) A (call (.type "set") [.ref l]) Q E s := by
  obtain ⟨c, tl, hmro⟩ := F.called_set.mro
  have m0 := F.called_set.made
  have m1 := F.called_set.sub
  have m2 := F.called_set.notType
  have m3 := F.called_set.canCreate
  have m4 := F.typeCall_set_1 (.ref l)
  refine wpAny_call (codeAny_of_tree ?_)
  show wpAny _ _ (callAny (.type "set") _) _ _ _
  refine wpAny_pure ⟨Code.quiet_builtin _ (by decide +kernel), codeAny_builtin F.entry_type_call ?_⟩
  rw [Around.under_plain (weight_type_call_type "set" [.ref l] []) rfl]
  repeat (any_goals (first | assumption | wp_step))
  refine codeAny_mono (code_set_led1 (P := P) (.ref l) (E := E) (Q₁ := fun o t => o = .ref s.heap.objs.size ∧ t = { s with heap := s.heap.push (noSet w) }) ⟨rfl, rfl⟩) fun r t hr => ?_
  rcases r with e | fl
  · exact hr
  cases fl with
  | ret o =>
    obtain ⟨rfl, rfl⟩ := hr
    have hS : (s.heap.push (noSet w)).get? s.heap.objs.size = some (noSet w) := Heap.get?_push_size _ rfl
    have hT : Shared.TypeIs { s with heap := s.heap.push (noSet w) } (.ref s.heap.objs.size) "set" := ⟨_, hS, rfl⟩
    have i1 := F.called_set.init.lookup
    have i2 := F.called_set.init.bind (.ref s.heap.objs.size)
    repeat (any_goals (first | assumption | wp_step))
    refine codeAny_mono (codeAny_call_builtin (R := wants (fun r t => r = .none ∧ Z t) E) F.called_set.init.plain F.entry_set_init (check_set_init_1 hT ?_)) fun r t hr => ?_
    · obtain ⟨⟨oc, od, odt, osl⟩, ho, hc, n, hd⟩ := hl
      simp only at hc hd
      subst hc hd
      have ho1 : (s.heap.push (noSet w)).get? l = some { cls := .type "list", dict := od, data := .seq items n, slots := osl } := Heap.get?_push_of_some _ ho
      have j1 := F.sub_list_set
      have j2 := F.sub_list_frozenset
      have j3 : (Value.type "list" == Value.type "dict") = false := by decide
      have hl1 : (s.heap.push (noSet w)).IsList l items := ⟨_, ho1, rfl, n, rfl⟩
      unfold Builtin.«set.__init__» noKeywords Builtin.Frozenset.updateFrom
      generalize hP : pyIter = PI
      wp_walk
      subst hP
      refine wpAny_pyIter_list hl1 (wpAny_bind (wpAny_runValue ?_))
      have hz : (s.heap.push (noSet w)).objs.size = s.heap.objs.size + 1 := Heap.size_push ..
      have hlp := loop
      rw [← hz] at hlp
      refine codeAny_mono hlp fun r t hr => ?_
      obtain ⟨rfl, hz'⟩ := hr
      show wpAny _ _ _ _ _ _
      refine wpAny_pure ?_
      show wpAny _ _ (ret Value.none) _ _ _
      exact wpAny_pure ⟨rfl, hz'⟩
    · rcases r with e | fl2
      · exact hr
      cases fl2 with
      | ret o =>
        obtain ⟨rfl, hz⟩ := hr
        repeat (any_goals (first | assumption | wp_step))
        exact h _ hz
      | _ => exact hr.elim
  | _ => exact hr.elim
end
/-! ### ascending lists, each once -/
class SOrd (α : Type) where
  lt : α → α → Prop
  dec : DecidableRel lt
  deq : DecidableEq α
  irr : ∀ a, ¬ lt a a
  tr : ∀ a b c, lt a b → lt b c → lt a c
  tri : ∀ a b, lt a b ∨ a = b ∨ lt b a
instance [SOrd α] : DecidableRel (SOrd.lt (α := α)) := SOrd.dec
instance : SOrd Int := ⟨(· < ·), inferInstance, inferInstance, fun a => Int.lt_irrefl a, fun a b c => Int.lt_trans, fun a b => by omega⟩
instance : SOrd (Int × Int) := ⟨fun p q => p.1 < q.1 ∨ (p.1 = q.1 ∧ p.2 < q.2), inferInstance, inferInstance, fun a => by omega, fun a b c => by omega, fun a b => by
  obtain ⟨a1, a2⟩ := a
  obtain ⟨b1, b2⟩ := b
  simp only [Prod.mk.injEq]
  omega⟩
section
variable {α : Type} [SOrd α]
def Asc (l : List α) : Prop := l.Pairwise SOrd.lt
def insS (x : α) : List α → List α
  | [] => [x]
  | y :: ys => if SOrd.lt x y then x :: y :: ys else if SOrd.lt y x then y :: insS x ys else y :: ys
def sset (l : List α) : List α := l.foldr insS []
theorem mem_insS {x z : α} : ∀ {l : List α}, z ∈ insS x l ↔ z = x ∨ z ∈ l
  | [] => by simp [insS]
  | y :: ys => by
    unfold insS
    split
    · simp
    · split
      · rw [List.mem_cons, mem_insS, List.mem_cons]
        constructor
        · rintro (h | h | h)
          · exact .inr (.inl h)
          · exact .inl h
          · exact .inr (.inr h)
        · rintro (h | h | h)
          · exact .inr (.inl h)
          · exact .inl h
          · exact .inr (.inr h)
      · have e : x = y := by
          rcases SOrd.tri x y with h | h | h
          · contradiction
          · exact h
          · contradiction
        subst e
        simp
theorem mem_sset {z : α} : ∀ {l : List α}, z ∈ sset l ↔ z ∈ l
  | [] => by simp [sset]
  | x :: l => by
    show z ∈ insS x (sset l) ↔ _
    rw [mem_insS, mem_sset, List.mem_cons]
theorem asc_insS {x : α} : ∀ {l : List α}, Asc l → Asc (insS x l)
  | [], _ => by simp [insS, Asc]
  | y :: ys, h => by
    unfold Asc at h ⊢
    rw [List.pairwise_cons] at h
    unfold insS
    split
    · rename_i hxy
      rw [List.pairwise_cons, List.pairwise_cons]
      refine ⟨fun z hz => ?_, h⟩
      rcases List.mem_cons.mp hz with e | e
      · rw [e]; exact hxy
      · exact SOrd.tr _ _ _ hxy (h.1 z e)
    · split
      · rename_i hyx
        rw [List.pairwise_cons]
        refine ⟨fun z hz => ?_, asc_insS h.2⟩
        rcases mem_insS.mp hz with e | e
        · rw [e]; exact hyx
        · exact h.1 z e
      · rw [List.pairwise_cons]
        exact h
theorem asc_sset : ∀ l : List α, Asc (sset l)
  | [] => List.Pairwise.nil
  | x :: l => asc_insS (asc_sset l)
theorem asc_ne {a b : α} (h : SOrd.lt a b) : a ≠ b := fun e => SOrd.irr a (by rw [← e] at h; exact h)
theorem Asc.nodup {l : List α} (h : Asc l) : l.Nodup := by
  unfold Asc at h
  show List.Pairwise (· ≠ ·) l
  exact h.imp asc_ne
theorem asc_one : ∀ {l m : List α}, Asc l → Asc m → (∀ z, z ∈ l ↔ z ∈ m) → l = m
  | [], [], _, _, _ => rfl
  | [], y :: m, _, _, h => absurd ((h y).mpr List.mem_cons_self) (by simp)
  | x :: l, [], _, _, h => absurd ((h x).mp List.mem_cons_self) (by simp)
  | x :: l, y :: m, hl, hm, h => by
    have hl' := List.pairwise_cons.mp hl
    have hm' := List.pairwise_cons.mp hm
    have e : x = y := by
      rcases List.mem_cons.mp ((h x).mp List.mem_cons_self) with e | e
      · exact e
      · rcases List.mem_cons.mp ((h y).mpr List.mem_cons_self) with e2 | e2
        · exact e2.symm
        · exact absurd (SOrd.tr _ _ _ (hm'.1 x e) (hl'.1 y e2)) (SOrd.irr _)
    subst e
    have e2 : l = m := asc_one hl'.2 hm'.2 fun z => by
      have q := h z
      simp only [List.mem_cons] at q
      constructor
      · intro hz
        rcases q.mp (.inr hz) with e | e
        · subst e; exact absurd (hl'.1 _ hz) (SOrd.irr _)
        · exact e
      · intro hz
        rcases q.mpr (.inr hz) with e | e
        · subst e; exact absurd (hm'.1 _ hz) (SOrd.irr _)
        · exact e
    rw [e2]
theorem asc_eq_sset {l m : List α} (h : Asc m) (hm : ∀ z, z ∈ m ↔ z ∈ l) : m = sset l := asc_one h (asc_sset l) fun z => (hm z).trans mem_sset.symm
theorem sset_of_asc {l : List α} (h : Asc l) : sset l = l := (asc_eq_sset h fun _ => Iff.rfl).symm
theorem sset_iff {l : List α} : sset l = l ↔ Asc l := ⟨fun h => by rw [← h]; exact asc_sset l, sset_of_asc⟩
theorem sset_len_le : ∀ l : List α, (sset l).length ≤ l.length
  | [] => Nat.le_refl _
  | x :: l => by
    have h : ∀ m : List α, (insS x m).length ≤ m.length + 1 := by
      intro m
      induction m with
      | nil => exact Nat.le_refl _
      | cons y ys ih =>
        unfold insS
        split
        · exact Nat.le_refl _
        · split
          · exact Nat.succ_le_succ ih
          · exact Nat.le_succ _
    exact Nat.le_trans (h _) (Nat.succ_le_succ (sset_len_le l))
end
/-! ### set(xs) as an object -/
theorem ints_vals : ∀ {ns : List Int} {us : List Value}, Vals (ns.map V.int) us → IntsAre us ns
  | [], _, .nil => .nil
  | n :: ns, _, .cons r t => by
    obtain ⟨k, rfl⟩ := r
    exact .cons n k (ints_vals t)
def rSetI (K : PySem.W.Frag) (w : World) : List V → Hp → VK → Prop := fun xs H Q => ∃ (l : Addr) (ns : List Int), xs = [.ref l] ∧ SqL K H l (ns.map V.int) ∧ ns.length < 4000 ∧
  ∀ p n, H p = none → n ≤ ns.length → Q (.ref p) (upd H p (SetO w p (fun j => decide (j ∈ ns)) n))
theorem cr_setI {X : Cx} (hc : X.calm = true) : CallR X (.type "set") (rSetI X.K X.w) := by
  intro pins s σ H xs us Q I rx h
  obtain ⟨l, ns, rfl, hs, hb, q⟩ := h
  obtain ⟨its, rv, pl, hz⟩ := I.list hs
  rw [Vals.ref1 rx]
  have hh := I.ok.hd hc
  have hi := ints_vals rv
  have hl := pl.isList
  have hlS : l < s.heap.objs.size := by
    obtain ⟨o, ho, _⟩ := hl
    exact Heap.lt_size ho
  have hisz : its.toArray.size = ns.length := by
    have := rv.length
    rw [List.length_map] at this
    rw [List.size_toArray, ← this]
  have hl1 := (hl.push (noSet X.w))
  refine call_set_by (Z := fun s' => ∃ h' tk c, s' = { s with heap := h', toks := tk } ∧ SetR X.w h' s.heap.objs.size (fun j => decide (j ∈ ns)) c ∧ c ≤ ns.length ∧ ∀ b o, s.heap.get? b = some o → h'.get? b = some o) hl ?_ ?_
  · have hz1 : (s.heap.push (noSet X.w)).objs.size = s.heap.objs.size + 1 := Heap.size_push ..
    have hne : l ≠ s.heap.objs.size + 1 := Nat.ne_of_lt (Nat.lt_succ_of_lt hlS)
    have hSf : s.heap.objs.size ∉ [s.heap.objs.size + 1, l] := by
      simp only [List.mem_cons, List.not_mem_nil, or_false, not_or]
      exact ⟨Nat.ne_of_lt (Nat.lt_succ_self _), Nat.ne_of_gt hlS⟩
    have hS1 : ((s.heap.push (noSet X.w)).push (itOf l)).get? s.heap.objs.size = some (noSet X.w) := Heap.get?_push_of_some _ (Heap.get?_push_size _ rfl)
    refine set_update_ints (P := X.prog) ((Walks.list (show X.A.in1.in1.in1.handled = none from hh) (s.heap.objs.size + 1) l hne its.toArray).toS) s.heap.objs.size hSf ns hisz (by unfold scanBound; omega)
      (fun i v hv => ?_) (its.toArray.size - 0) 0 _ (by omega) (Nat.zero_le _) ⟨⟨itOf l, by rw [← hz1]; exact Heap.get?_push_size _ rfl, rfl, rfl⟩, hl1.push _⟩ ⟨0, Nat.le_refl 0, setR_new_at hS1⟩ fun s' c' hm hc' hS' => ?_
    · have hlt : i < its.toArray.size := (Array.getElem?_eq_some_iff.mp hv).1
      obtain ⟨t, e⟩ := IntsAre.int_at hi i v (by simpa using hv)
      refine ⟨ns[i], t, List.getElem?_eq_getElem (by omega), ?_⟩
      rw [e, List.getD_eq_getElem?_getD, List.getElem?_eq_getElem (by omega)]
      rfl
    · refine ⟨rfl, s'.heap, s'.toks, c', ?_, hS', by omega, fun b o e => ?_⟩
      · obtain ⟨h1, g1, d1, t1, o1⟩ := s'
        have e1 : g1 = s.gens := hm.gens
        have e2 : d1 = s.drawn := hm.drawn
        have e3 : o1 = s.os := hm.os
        rw [e1, e2, e3]
      · have hb0 : b < s.heap.objs.size := Heap.lt_size e
        refine hm.heap b o ?_ (Heap.get?_push_of_some _ (Heap.get?_push_of_some _ e))
        simp only [List.mem_cons, List.not_mem_nil, or_false, not_or]
        exact ⟨Nat.ne_of_lt hb0, Nat.ne_of_lt (Nat.lt_succ_of_lt hb0)⟩
  · rintro s' ⟨h', tk, c, rfl, hS, hc', hk⟩
    exact ⟨.ref s.heap.objs.size, _, I.laid (t' := tk) hk (Nat.le_refl _) (setO_new hS), rfl, q _ c (I.hok.fresh (Nat.le_refl _)) hc'⟩
def rLenSet (w : World) : List V → Hp → VK → Prop := fun xs H Q => ∃ (a : Addr) (S : Int → Bool) (n : Nat), xs = [V.ref a] ∧ H a = some (SetO w a S n) ∧ ∀ ks : List Int, ks.Nodup → (∀ k, k ∈ ks ↔ S k = true) → Q (.int (ks.length : Nat)) H
theorem cr_lenSet {X : Cx} : CallR X (.builtin "len") (rLenSet X.w) := by
  intro pins s σ H xs us Q I rx h
  obtain ⟨a, S, n, rfl, ha, q⟩ := h
  rw [Vals.ref1 rx]
  obtain ⟨o, es, ep, t, ho, hex, hd, g, nd, hm, hb, hf, hn, hr, hl⟩ := setO_get I ha
  have q' := q (es.toList.map keyOf) nd fun k => (hm k).symm
  rw [List.length_map, Array.length_toList] at q'
  exact PySem.call_len_set ho hex hd hf (by unfold scanBound at hb; omega) ⟨.int (es.size : Nat), H, (I.tok _), ⟨_, rfl⟩, q'⟩
theorem ints_dp {K : PySem.W.Frag} {H : Hp} : ∀ ns : List Int, DpAll K H (ns.map V.int) (ns.map enc)
  | [] => .nil
  | _ :: ns => .cons (.int _) (ints_dp ns)
variable {G : Type}
section
variable {f : Fm} {W : Wd G} {S : Sy} {a b c : Expr} {pos p p2 pos2 : Pos} {α β γ : Type} [Enc α] [Enc β] [Enc γ]
/-- sorted(set(xs)), len(set(xs)) -/
theorem en_sortset {m : MM G (List Int)} (h : EL f W S a m) (hm : f.mg "sorted" = none) (hm2 : f.mg "set" = none) (hg : GlF f "sorted" := by rfl) (hg2 : GlF f "set" := by rfl) (hs : ∀ env, starEach [a] env = (false, eval a env) :: starEach [] env := by intro _; rfl)
    (hs2 : ∀ env, starEach [.Call (.Name "set" p2) [a] [] pos2] env = (false, eval (.Call (.Name "set" p2) [a] [] pos2) env) :: starEach [] env := by intro _; rfl) :
    EN f W S (.Call (.Name "sorted" p) [.Call (.Name "set" p2) [a] [] pos2] [] pos) (fun g C => m g fun x g1 => x.length < 64 ∧ C (sset x) g1) := by
  obtain ⟨t, h1, h2⟩ := h.run
  refine ⟨tCB (rSortedSet f.w) (tCons (tCB (rSetI f.K f.w) (tCons t tNil)) tNil), fun X hX => by
    rw [← hX.K, ← hX.w]
    exact pe_b1 hX (cr_sortedSet hX.calm) hg hm (by decide +kernel) (pe_t1 hX (cr_setI hX.calm) hg2 hm2 (by decide +kernel) (h1 X hX) hs) hs2, fun c0 σ c r C Q hm hQ => ?_⟩
  show tCons t tNil σ c.H (fun vs H1 => rSetI f.K f.w vs H1 (fun v H2 => rSortedSet f.w [v] H2 Q))
  refine semL_pa1 h2 r hm fun x p vs c1 e w la d q => ?_
  have hx := dpAll_ints d
  subst hx
  refine ⟨p, x, rfl, la.sq, by have := q.1; omega, fun D n nD hn => ⟨D, _, n, rfl, upd_same, by have := q.1; omega, fun ns D2 h1 h2 h3 nD2 => ?_⟩⟩
  have e1 : ns = sset x := asc_eq_sset h1 fun z => by rw [h2]; simp
  have e2 := e.trans (Ext.made (o := SetO f.w D (fun j => decide (j ∈ x)) n) nD)
  have w2 := w.made (o := SetO f.w D (fun j => decide (j ∈ x)) n) nD
  refine hQ _ D2 _ ((c1.made D _).made D2 (.lst (ns.map V.int))) (e2.trans (Ext.made nD2)) (w2.made nD2) (newL_at e2 w2 nD2 ?_) q.2
  rw [e1]
  exact ints_dp _
theorem ev_lenset {m : MM G (List Int)} (h : EL f W S a m) (hm : f.mg "len" = none) (hm2 : f.mg "set" = none) (hg : GlF f "len" := by rfl) (hg2 : GlF f "set" := by rfl) (hs : ∀ env, starEach [a] env = (false, eval a env) :: starEach [] env := by intro _; rfl)
    (hs2 : ∀ env, starEach [.Call (.Name "set" p2) [a] [] pos2] env = (false, eval (.Call (.Name "set" p2) [a] [] pos2) env) :: starEach [] env := by intro _; rfl) :
    EV f W S (.Call (.Name "len" p) [.Call (.Name "set" p2) [a] [] pos2] [] pos) (fun g C => m g fun x g1 => x.length < 64 ∧ C ((sset x).length : Int) g1) := by
  obtain ⟨t, h1, h2⟩ := h.run
  refine ⟨tCB (rLenSet f.w) (tCons (tCB (rSetI f.K f.w) (tCons t tNil)) tNil), fun X hX => by
    rw [← hX.K, ← hX.w]
    exact pe_b1 hX cr_lenSet hg hm (by decide +kernel) (pe_t1 hX (cr_setI hX.calm) hg2 hm2 (by decide +kernel) (h1 X hX) hs) hs2, fun c0 σ c r C Q hm hQ => ?_⟩
  show tCons t tNil σ c.H (fun vs H1 => rSetI f.K f.w vs H1 (fun v H2 => rLenSet f.w [v] H2 Q))
  refine semL_pa1 h2 r hm fun x p vs c1 e w la d q => ?_
  have hx := dpAll_ints d
  subst hx
  refine ⟨p, x, rfl, la.sq, by have := q.1; omega, fun D n nD hn => ⟨D, _, n, rfl, upd_same, fun ks h1 h2 => ?_⟩⟩
  have e2 := e.trans (Ext.made (o := SetO f.w D (fun j => decide (j ∈ x)) n) nD)
  have w2 := w.made (o := SetO f.w D (fun j => decide (j ∈ x)) n) nD
  have hp : ks.Perm (sset x) := (List.perm_ext_iff_of_nodup h1 (asc_sset x).nodup).mpr fun z => by rw [h2, mem_sset]; simp
  rw [hp.length_eq]
  exact hQ _ _ (c1.made D _) e2 w2 (.int _) q.2
end
end M3
set_option Elab.async false
set_option linter.all false
set_option maxRecDepth 100000
/-! Plain lemmas over what the rules tell: comprehensions, loops. -/
namespace M3
open PySem PySem.Spec PyProof.Rows L2 Enc Args

variable {G : Type} {α β τ κ : Type}
theorem szl {n : Nat} (h : n < 100000) : n < sizeLine := by rw [sizeLine_eq]; omega
/-- a comprehension each of whose items is told: what is kept, made -/
theorem lcW_pure {mt : α → MM G Bool} {me : α → MM G β} {g : G} (t : α → Bool) (φ : α → β) : ∀ {xs : List α} {acc : List β} {C : List β → G → Prop}, (∀ x ∈ xs, ∀ D : Bool → G → Prop, D (t x) g → mt x g D) → (∀ x ∈ xs, t x = true → ∀ D : β → G → Prop, D (φ x) g → me x g D) →
    acc.length + xs.length < 100000 → C (acc ++ (xs.filter t).map φ) g → lcW mt me xs acc g C
  | [], acc, C, _, _, _, h => by simpa [lcW] using h
  | x :: xs, acc, C, ht, he, hl, h => by
    unfold lcW
    refine ht x List.mem_cons_self _ ?_
    rw [List.length_cons] at hl
    by_cases hx : t x = true
    · rw [if_pos hx]
      refine he x List.mem_cons_self hx _ ⟨szl (by omega), lcW_pure t φ (fun y hy => ht y (List.mem_cons_of_mem _ hy)) (fun y hy => he y (List.mem_cons_of_mem _ hy)) (by rw [List.length_append]; show acc.length + 1 + xs.length < _; omega) ?_⟩
      rw [List.filter_cons_of_pos hx] at h
      simpa using h
    · rw [if_neg hx]
      refine lcW_pure t φ (fun y hy => ht y (List.mem_cons_of_mem _ hy)) (fun y hy => he y (List.mem_cons_of_mem _ hy)) (by omega) ?_
      rw [List.filter_cons_of_neg hx] at h
      exact h
/-- .. all kept -/
theorem lcW_map {mt : α → MM G Bool} {me : α → MM G β} {g : G} (φ : α → β) {xs : List α} {C : List β → G → Prop} (ht : ∀ x ∈ xs, ∀ D : Bool → G → Prop, D true g → mt x g D) (he : ∀ x ∈ xs, ∀ D : β → G → Prop, D (φ x) g → me x g D)
    (hl : xs.length < 100000) (h : C (xs.map φ) g) : lcW mt me xs [] g C :=
  lcW_pure (fun _ => true) φ ht (fun x hx _ => he x hx) (by simpa using hl) (by rw [List.filter_eq_self.mpr (fun _ _ => rfl)]; simpa using h)
/-- .. kept as they are -/
theorem lcW_filter {mt : α → MM G Bool} {me : α → MM G α} {g : G} (t : α → Bool) {xs : List α} {C : List α → G → Prop} (ht : ∀ x ∈ xs, ∀ D : Bool → G → Prop, D (t x) g → mt x g D) (he : ∀ x ∈ xs, t x = true → ∀ D : α → G → Prop, D x g → me x g D)
    (hl : xs.length < 100000) (h : C (xs.filter t) g) : lcW mt me xs [] g C :=
  lcW_pure t id ht he (by simpa using hl) (by simpa using h)
/-- a comprehension that draws: the items satisfy P -/
theorem lcW_all {mt : α → MM G Bool} {me : α → MM G β} {g : G} (R : α → β → Prop) : ∀ {xs : List α} {acc : List β} {C : List β → G → Prop}, (∀ x ∈ xs, ∀ D : Bool → G → Prop, D true g → mt x g D) → (∀ x ∈ xs, ∀ D : β → G → Prop, (∀ y, R x y → D y g) → me x g D) →
    acc.length + xs.length < 100000 → (∀ ys, PySem.W.EachIs R xs ys → C (acc ++ ys) g) → lcW mt me xs acc g C
  | [], acc, C, _, _, _, h => by
    have := h [] .nil
    simpa [lcW] using this
  | x :: xs, acc, C, ht, he, hl, h => by
    unfold lcW
    refine ht x List.mem_cons_self _ ?_
    rw [List.length_cons] at hl
    rw [if_pos rfl]
    refine he x List.mem_cons_self _ fun y hy => ⟨szl (by omega), lcW_all R (fun y hy => ht y (List.mem_cons_of_mem _ hy)) (fun y hy => he y (List.mem_cons_of_mem _ hy)) (by rw [List.length_append]; show acc.length + 1 + xs.length < _; omega) fun ys hys => ?_⟩
    have := h (y :: ys) (.cons hy hys)
    simpa using this
/-- a loop that keeps an invariant, by what is left -/
theorem forW_inv {kb : τ → α → MB G τ β τ} {P : Po G τ β κ} {g : G} (I : List α → τ → Prop) : ∀ {xs : List α} {s : τ}, I xs s → (∀ s, I [] s → P.nx s g) →
    (∀ x xs s, I (x :: xs) s → ∀ P' : Po G τ β τ, (∀ s', I xs s' → P'.nx s' g) → (∀ s', I xs s' → P'.ct s' g) → (∀ b, P.rt b g → P'.rt b g) → (∀ s', P.nx s' g → P'.bk s' g) → kb s x g P') → forW kb xs s g P
  | [], s, h, he, _ => he s h
  | x :: xs, s, h, he, hs => by
    show kb s x g _
    exact hs x xs s h _ (fun s' h' => forW_inv I h' he hs) (fun s' h' => forW_inv I h' he hs) (fun b h => h) (fun s' h => h)
/-- a loop whose body just goes on: a fold -/
theorem forW_fold {kb : τ → α → MB G τ β τ} {P : Po G τ β κ} {g : G} (φ : τ → α → τ) (J : τ → Prop) : ∀ {xs : List α} {s : τ}, J s → (∀ s x, J s → x ∈ xs → J (φ s x) ∧ ∀ P' : Po G τ β τ, (P'.nx (φ s x) g) → (P'.ct (φ s x) g) → kb s x g P') → P.nx (xs.foldl φ s) g → forW kb xs s g P
  | [], s, _, _, h => h
  | x :: xs, s, hj, hs, h => by
    show kb s x g _
    have q := hs s x hj List.mem_cons_self
    have r : forW kb xs (φ s x) g P := forW_fold φ J q.1 (fun s y hj hy => hs s y hj (List.mem_cons_of_mem _ hy)) h
    exact q.2 _ r r
/-- the first that is as wanted is given back -/
theorem forW_find {β : Type} {P : Po G τ β κ} {g : G} (t : α → Bool) (r : α → β) {s : τ} : ∀ {xs : List α}, (∀ x, xs.find? t = some x → P.rt (r x) g) → (xs.find? t = none → P.nx s g) → forW (fun s x g P => if t x = true then P.rt (r x) g else P.nx s g) xs s g P
  | [], _, h => h rfl
  | x :: xs, h1, h2 => by
    show (if t x = true then _ else _)
    by_cases hx : t x = true
    · rw [if_pos hx]
      exact h1 x (List.find?_cons_of_pos hx)
    · rw [if_neg hx]
      exact forW_find t r (fun y hy => h1 y (by rw [List.find?_cons_of_neg hx]; exact hy)) (fun hy => h2 (by rw [List.find?_cons_of_neg hx]; exact hy))
theorem szle {n : Nat} (h : n < 100000) : n ≤ sizeLine := Nat.le_of_lt (szl h)
theorem small62 {n : Int} (h1 : -1000000 < n) (h2 : n < 1000000) : -(2 ^ 62) ≤ n ∧ n < 2 ^ 62 := ⟨by omega, by omega⟩
end M3
set_option Elab.async false
set_option linter.all false
set_option maxRecDepth 100000
/-! A law's own def: it makes the state of its draws, then goes on in the world of that state. -/
namespace M3
open PySem PySem.Spec PyProof.Rows L2 Enc Args

def spState (K : PySem.W.Frag) : Sp := fun vs H Q _ => ∃ (a : Addr) (ns : List Int), vs = [.ref a] ∧ SqL K H a (ns.map V.int) ∧ ns.length ≤ 63 ∧ ∀ H' p q, Same H H' → H p = none → H q = none → StAt H' p q → Q (.ref p) H'
def spLaw (K : PySem.W.Frag) : Sp := fun vs H Q _ => ∃ (a : Addr) (ns : List Int), vs = [.ref a] ∧ SqL K H a (ns.map V.int) ∧ ns.length ≤ 63 ∧ ∀ H', Q (.bl true) H'
/-- the def that makes the state -/
structure StateFn (B : Bs) : Prop where
  ex : ∃ fa fd, FnOk B.prog B.w B.K B.mg B.base CX0 1 fa fd ["script"] (spState B.K) ∧ B.mg "_law_state" = some (.ref fa) ∧ PySem.W.keepIn B.K (.ref fa) = true ∧ Binds B.K fd ["script"] []
theorem law_ok {B : Bs} {st : Stmt} {N : List Str} {k : Nat} {rest : List Stmt} {p1 p2 p3 p4 p5 : Pos} {τ : Type} {Γ : Addr → τ → Sy} {fa : Addr} {fd : FuncData} (F : Fun B.K "law" "law" st fa fd) (hst : StateFn B) (Sc : FnScope N ["script"] (defScope st)) (hb : defBody st = .Assign [.Name "state" p1] (.Call (.Name "_law_state" p2) [.Name "script" p3] [] p4) p5 :: rest)
    (hN0 : N[0]? = some ("script" : Str)) (hN1 : N[1]? = some ("state" : Str)) (hg : GlF (fmD B N (defScope st) k) "_law_state") (hv : VisF (fmD B N (defScope st) k) "script") (hl : LocF (fmD B N (defScope st) k) "state") (hk : 1 ≤ k)
    (dbg : ∀ x ∈ N, (x == ("__debug__" : Str)) = false ∧ (x == ("__classdict__" : Str)) = false)
    (hrest : ∀ p : Addr, ∃ mb : MB Unit τ Bool Empty, BLK (fmD B N (defScope st) k) (LawW p) (none :: some (.raw (.ref p)) :: List.replicate (N.length - 2) none) rest (Γ p) (fun e : Empty => nomatch e) mb ∧ mb () ⟨fun _ _ => False, fun b _ => b = true, (fun e _ => nomatch e), (fun e _ => nomatch e)⟩) :
    FnOk B.prog B.w B.K B.mg B.base CX0 (k + 1) fa fd ["script"] (spLaw B.K) := by
  obtain ⟨fs, fds, FS, hms, hks, hbs⟩ := hst.ex
  refine F.ok Sc (fun vs H Q E h => ?_) (fun cdv A outer s H vs Q E hr h => ?_)
  · obtain ⟨a, ns, rfl, _⟩ := h
    rfl
  · obtain ⟨a, ns, rfl, hs, hlen, hQ⟩ := h
    have hX := fmAt_of (B := B) (H := H) (E := E) (fa := fa) (cdv := cdv) (outer := outer) hr Sc.nd dbg
    have hlN : 2 ≤ N.length := by have := lt_of_some hN1; omega
    refine ⟨tSeq (tAsg (tCall (spState B.K) [] E0 (tCons (tVar 0) tNil)) (gName 1)) (rdB (fmD B N (defScope st) k) rest), ?_, ?_⟩
    · rw [hb]
      refine pss_cons (ps_set Sc.nd hN1 (hX.loc hl) ?_ rfl (.inl rfl)) (rdB_ok hX)
      exact pe_call FS (hX.room.mono hk) (hX.gl hg) hms hks hbs .nil pass0 (pa_cons (pe_var hN0 (hX.vis hv)) pa_nil rfl) (by decide) rfl rfl
    · have h0 : (L2.start N [.ref a])[0]? = some (some (.ref a)) := rfl
      refine ⟨.ref a, h0, a, ns, rfl, hs, hlen, fun H1 p q sm np nq hst => ?_⟩
      obtain ⟨mb, hB, hm2⟩ := hrest p
      have hst' := hst
      obtain ⟨k0, cells, e1, e2, e3⟩ := hst'
      have w : Wf (LawW p) (⟨H1, H, fun b => b = p ∨ b = q, ()⟩ : Cfg Unit) := ⟨sm, fun b h => by
        show H b = none
        rcases h with h | h
        · rw [h]; exact np
        · rw [h]; exact nq, fun b h => by
        show H1 b ≠ none
        rcases h with h | h
        · rw [h, e1]; exact some_ne rfl
        · rw [h, e2]; exact some_ne rfl, ⟨q, hst, fun b => Iff.rfl⟩⟩
      have hls : (L2.start N [.ref a]).length = N.length := by
        unfold L2.start
        rw [List.length_append, List.length_map, List.length_replicate]
        show 1 + (N.length - 1) = N.length
        omega
      have key : ∀ (i : Nat) (s : Slot), (none :: some (Slot.raw (.ref p)) :: List.replicate (N.length - 2) none)[i]? = some (some s) → i = 1 ∧ s = .raw (.ref p) := by
        intro i s h
        match i, h with
        | 0, h => cases h
        | 1, h => cases h; exact ⟨rfl, rfl⟩
        | i + 2, h =>
          have h : (List.replicate (N.length - 2) (none : Option Slot))[i]? = some (some s) := h
          rw [List.getElem?_replicate] at h
          split at h <;> cases h
      have r : Rel B.K (LawW p) (⟨H1, H, fun b => b = p ∨ b = q, ()⟩ : Cfg Unit) (none :: some (Slot.raw (.ref p)) :: List.replicate (N.length - 2) none) ((L2.start N [.ref a]).set 1 (some (.ref p))) ⟨H1, H, fun b => b = p ∨ b = q, ()⟩ := by
        refine ⟨w, Ext.refl _, ?_, fun i s h => ?_, fun i j s t p' hij h1 h2 h3 => ?_⟩
        · rw [List.length_set, hls]
          show N.length = (List.replicate (N.length - 2) none).length + 1 + 1
          rw [List.length_replicate]
          omega
        · obtain ⟨rfl, rfl⟩ := key i s h
          exact get_set_eq (by rw [hls]; omega)
        · have := (key i _ h1).2
          cases this
      exact hB.rd _ _ _ r _ _ hm2 (fun _ _ _ _ _ q => q.elim) (fun x v c' e' w' d q => by
        have hx : x = true := q
        rw [hx] at d
        rw [dp_bl d]
        exact hQ _) (fun e => nomatch e) (fun e => nomatch e)
/-- what stands behind the top -/
theorem defAt_mk {P : Program} {w : World} {K : PySem.W.Frag} {mg : Str → Option Value} {base : Heap} {h : Heap} {x : Str} {st : Stmt} (X : K.In h) (G : h.Ns mainGlobals mg) {f : Addr} {od an : Option Addr} {sl : Array (Option Value)} {oc kV dc pm cd ct : Value}
    (a : PySem.W.nsIn K mainGlobals x = some (some (.ref f))) (l : K.lookup f = some ⟨oc, od, .func (PySem.W.fnOf x x (defArgs st) (defBody st) (defScope st) .none kV dc pm an cd ct), sl⟩) (c : PySem.W.codeIn K cd x = true) (k : PySem.W.keepIn K (.ref f) = true) : DefAt ⟨P, w, K, mg, base⟩ x st :=
  ⟨_, _, fun_mk (st := st) l c k, PySem.W.mg_of X G a⟩
theorem none_mk {P : Program} {w : World} {K : PySem.W.Frag} {mg : Str → Option Value} {base : Heap} {h : Heap} {x : Str} (X : K.In h) (G : h.Ns mainGlobals mg) (z : PySem.W.nsIn K mainGlobals x = some none) : (⟨P, w, K, mg, base⟩ : Bs).mg x = none := PySem.W.mg_none_of X G z
/-- a written value of a flat kind -/
def litD : Value → PyData → Bool
  | .none, .none => true
  | .bool b, .bool c => b == c
  | .int i _, .int j => i == j
  | .str x _, .str y => x == y
  | _, _ => false
def litAll : List Value → List PyData → Bool
  | [], [] => true
  | u :: us, d :: ds => litD u d && litAll us ds
  | _, _ => false
theorem lit_dp {K : PySem.W.Frag} {H : Hp} : ∀ {u : Value} {d : PyData}, litD u d = true → ∃ v, RelV v u ∧ Dp K H v d := by
  intro u d h
  unfold litD at h
  split at h
  · exact ⟨.non, rfl, .non⟩
  · rw [beq_iff_eq] at h
    subst h
    exact ⟨.bl _, rfl, .bl _⟩
  · rw [beq_iff_eq] at h
    subst h
    exact ⟨.int _, ⟨_, rfl⟩, .int _⟩
  · rw [beq_iff_eq] at h
    subst h
    exact ⟨.str _, ⟨_, rfl⟩, .str _⟩
  · cases h
theorem lit_all {K : PySem.W.Frag} {H : Hp} : ∀ {us : List Value} {ds : List PyData}, litAll us ds = true → ∃ vs, Vals vs us ∧ DpAll K H vs ds
  | [], [], _ => ⟨[], .nil, .nil⟩
  | u :: us, d :: ds, h => by
    unfold litAll at h
    rw [Bool.and_eq_true] at h
    obtain ⟨v, r1, d1⟩ := lit_dp (K := K) (H := H) h.1
    obtain ⟨vs, r2, d2⟩ := lit_all (K := K) (H := H) h.2
    exact ⟨v :: vs, .cons r1 r2, .cons d1 d2⟩
  | [], _ :: _, h => by cases h
  | _ :: _, [], h => by cases h
theorem lit_same {K : PySem.W.Frag} {H H' : Hp} : ∀ {vs : List V} {ds : List PyData} {us : List Value}, litAll us ds = true → Vals vs us → DpAll K H vs ds → DpAll K H' vs ds
  | _, _, [], h, .nil, d => by cases d; exact .nil
  | _, _, u :: us, h, .cons r t, d => by
    cases d with
    | @cons _ _ d0 ds d1 d2 =>
      unfold litAll at h
      rw [Bool.and_eq_true] at h
      refine .cons ?_ (lit_same h.2 t d2)
      have h1 := h.1
      cases d1 with
      | non => exact .non
      | bl b => exact .bl b
      | int i => exact .int i
      | str x => exact .str x
      | lst _ _ => cases u <;> cases h1
      | tup _ _ => cases u <;> cases h1
/-- a constant of the module: a tuple of flat things -/
theorem const_tup {P : Program} {w : World} {K : PySem.W.Frag} {mg : Str → Option Value} {base : Heap} {h : Heap} {x : Str} {α : Type} [Enc α] {v : α} (X : K.In h) (G : h.Ns mainGlobals mg) {a : Addr} {items : Array Value} {n : Nat} {sl : Array (Option Value)} {ds : List PyData}
    (e : PySem.W.nsIn K mainGlobals x = some (some (.ref a))) (l : K.lookup a = some ⟨.type "tuple", none, .seq items n, sl⟩) (g : enc v = .tuple ds ∧ litAll items.toList ds = true ∧ items.size ≤ 64) : ConstAt ⟨P, w, K, mg, base⟩ x v := by
  obtain ⟨g1, g2, g3⟩ := g
  obtain ⟨vs, r, d⟩ := lit_all (K := K) (H := fun _ => none) g2
  refine ⟨.ref a, .ref a, PySem.W.mg_of X G e, rfl, fun H => ?_⟩
  rw [g1]
  exact .tup (.inr ⟨_, items, n, l, rfl, rfl, Nat.le_trans g3 (by rw [sizeLine_eq]; decide), r⟩) (lit_same g2 r d)
/-- .. a flat thing -/
theorem const_flat {P : Program} {w : World} {K : PySem.W.Frag} {mg : Str → Option Value} {base : Heap} {h : Heap} {x : Str} {α : Type} [Enc α] {v : α} (X : K.In h) (G : h.Ns mainGlobals mg) {u : Value}
    (e : PySem.W.nsIn K mainGlobals x = some (some u)) (g : litD u (enc v) = true) : ConstAt ⟨P, w, K, mg, base⟩ x v := by
  have q := lit_all (K := K) (H := fun _ => none) (us := [u]) (ds := [enc v]) (by unfold litAll; rw [g]; rfl)
  obtain ⟨vs, r, d⟩ := q
  cases r with
  | cons r t =>
    cases t
    exact ⟨_, u, PySem.W.mg_of X G e, r, fun H => by
      have := lit_same (K := K) (H := fun _ => none) (H' := H) (us := [u]) (ds := [enc v]) (by unfold litAll; rw [g]; rfl) (.cons r .nil) d
      cases this with
      | cons a b => exact a⟩
theorem end_mk {P : Program} {w : World} {K : PySem.W.Frag} {h : Heap} {mg : Str → Option Value} {fa : Addr} {st : Stmt} {k : Nat} (X : K.In h) (G : h.Ns mainGlobals mg) (hfa : mg "law" = some (.ref fa)) {f : Addr} {od an : Option Addr} {sl : Array (Option Value)} {oc kV dc pm cd ct : Value}
    (a : PySem.W.nsIn K mainGlobals "law" = some (some (.ref f))) (l : K.lookup f = some ⟨oc, od, .func (PySem.W.fnOf "law" "law" (defArgs st) (defBody st) (defScope st) .none kV dc pm an cd ct), sl⟩) (c : PySem.W.codeIn K cd "law" = true) (kk : PySem.W.keepIn K (.ref f) = true)
    (hb : ∀ (s : Shared) (v : Value), BindsTo s (PySem.W.fnOf "law" "law" (defArgs st) (defBody st) (defScope st) .none kV dc pm an cd ct) ⟨[v], []⟩ [("script", v)])
    (H : ∀ base fd, Fun K "law" "law" st f fd → FnOk P w K mg base CX0 k f fd ["script"] (spLaw K)) :
    ∃ fd : FuncData, (∀ (s : Shared) (v : Value), BindsTo s fd ⟨[v], []⟩ [("script", v)]) ∧ ∀ base : Heap, K.In base → base.Ns mainGlobals mg → FnOk P w K mg base CX0 k fa fd ["script"] (spLaw K) := by
  have e := hfa.symm.trans (PySem.W.mg_of X G a)
  cases e
  exact ⟨_, hb, fun base _ _ => H base _ (fun_mk (st := st) l c kk)⟩
end M3
set_option Elab.async false
set_option linter.all false
set_option maxRecDepth 100000
/-! sorted(xs, key=f), f a def that gives the first part of a tuple. -/
namespace M3
open PySem PySem.Spec PyProof.Rows L2 Enc Args

/-- a call f(x) of the def «return p[0]» -/
theorem keyd {P : Program} {w : World} {K : PySem.W.Frag} {A : Around} {s : Shared} {f a : Addr} {name qual pn : Str} {p1 p2 p3 p4 : Pos} {j : Nat} {params : Arguments} {scope : Scope} {dV kV doc pm cdv ct oc : Value} {an od : Option Addr} {osl : Array (Option Value)} {items : Array Value} {u : Value} {k : PyData}
    (lk : K.lookup f = some ⟨oc, od, .func (PySem.W.fnOf name qual params [.Return (some (.Subscript (.Name pn p1) (.Constant (.int 0) j p2) p3)) p4] scope dV kV doc pm an cdv ct), osl⟩) (hcd : PySem.W.codeIn K cdv qual = true) (S : FnScope [pn] [pn] scope) (hloc : scope.names.lookup pn = some .local)
    (hbind : bindArgs (PySem.W.fnOf name qual params [.Return (some (.Subscript (.Name pn p1) (.Constant (.int 0) j p2) p3)) p4] scope dV kV doc pm an cdv ct) ⟨[.ref a], []⟩ = pure [(pn, .ref a)]) (hdb : (pn == ("__debug__" : Str)) = false)
    (hd : A.depth < recursionLimit) (KX : K.In s.heap) (lim : s.heap.NoLimit) (ht : IsTup s.heap a items) (h0 : items[0]? = some u) (hk : Reads s.heap u k []) :
    wpAny (model P w) A (call (.ref f) [.ref a]) (PySem.W.KeyPure k s) (fun _ _ => False) s := by
  refine wpAny_call (codeAny_call_function hd (KX _ _ lk) rfl S.co S.gen rfl (PySem.W.codeRec_of KX hcd) ?_)
  rw [hbind]
  refine wpAny_pure ?_
  refine wpAny_newFunctionEnv_cells S.kind (fun y hy => ?_) fun env he s1 x => ?_
  · have : y = (pn, .ref a) := by simpa using hy
    subst this
    exact .inl hloc
  subst he
  refine ⟨lim.keeps x.toInCall.keep, codeAny_func ?_⟩
  obtain ⟨h1, tk, e1, hkp⟩ := x.done
  have hgo : wpAny (model P w) (A.deeper (envOfC qual scope s.heap.objs.size f cdv)) (eval (.Subscript (.Name pn p1) (.Constant (.int 0) j p2) p3) (envOfC qual scope s.heap.objs.size f cdv)) (PySem.W.KeyPure k s) (fun _ _ => False) s1 := by
    refine Subscript_ (wpAny_Name (wpAny_loadName_local (v := .ref a) S.kind hloc x.toInCall.ns ?_ (wpAny_Constant_int ?_)) hdb)
    · show bindL _ [(pn, Value.ref a)] _ pn = some _
      have hkind : (envOfC qual scope s.heap.objs.size f cdv).kindOf pn = some .local := hloc
      unfold bindL bindL
      refine (congrFun (if_pos hkind) pn).trans ?_
      show (if pn = pn then some (Value.ref a) else none) = _
      rw [if_pos rfl]
    · subst e1
      have ht' : IsTup h1 a items := ht.keeps hkp
      refine subscriptTail_builtinR (x := u) (s := { s with heap := h1, toks := tk + 1 }) (show Shared.TypeIs { s with heap := h1, toks := tk + 1 } (.ref a) "tuple" from ht'.typeIs) slot_tuple_getitem.lookup (getItem_tuple (j := 0) (Q := fun r s' => r = u ∧ PySem.W.KeyPure k s r s') ht' (by decide) (by decide) ?_ h0 ⟨rfl, h1, tk + 1, rfl, hkp, PyProof.Rows.Reads.keeps hkp hk⟩)
      have : 0 < items.size := (Array.getElem?_eq_some_iff.mp h0).1
      rw [seqIndex_of (by decide) (by omega)]
      rfl
  refine wpAny_mono (wpAny_execs_cons (Q := fun fl s' => ∃ v, fl = .ret v ∧ PySem.W.KeyPure k s v s') (E := fun _ _ => False) (wpAny_Return_some (wpAny_mono hgo (fun v s' h => ⟨v, rfl, h⟩) fun _ _ h => h))) (fun fl s' h => ?_) fun _ _ h => h.elim
  obtain ⟨v, rfl, h⟩ := h
  exact h

/-- sorted(xs, key=f) -/
def rSortKey (K : PySem.W.Frag) (fa : Addr) : List V → List V → Hp → VK → Prop := fun vs zs H Q => ∃ (β : Type) (en kf : β → PyData) (bs : List β) (a : Addr) (xs : List V) (F : Hp), vs = [.ref a] ∧ zs = [.ref fa] ∧ SqL K H a xs ∧ Same F H ∧ DpAll K F xs (bs.map en) ∧ (∀ b, ∃ ds, en b = .tuple (kf b :: ds)) ∧ (∀ b, flatD (kf b) = true) ∧
  PySem.W.AllAlike (bs.map kf) ∧ PySem.W.Sortable (bs.map kf) ∧ ∀ ys p, DpAll K F ys ((bs.mergeSort (PySem.W.dataLe false kf)).map en) → H p = none → Q (.ref p) (upd H p (.lst ys))
theorem flat_reads {K : PySem.W.Frag} {H : Hp} {v : V} {u : Value} {d : PyData} {h : Heap} (hd : Dp K H v d) (r : RelV v u) (hf : flatD d = true) : Reads h u d [] := by
  cases hd with
  | non => cases r; exact Reads.none
  | bl b => cases r; exact Reads.bool _
  | int i => obtain ⟨t, rfl⟩ := r; exact Reads.int _ _
  | str x => obtain ⟨t, rfl⟩ := r; exact Reads.str _ _
  | lst _ _ => cases hf
  | tup _ _ => cases hf
theorem cr_sortKey {X : Cx} {fa : Addr} {fd : FuncData} {x pn : Str} {st : Stmt} {p1 p2 p3 p4 : Pos} {j k : Nat} (hr : Room k X.A) (F : Fun X.K x x st fa fd) (hb : defBody st = [.Return (some (.Subscript (.Name pn p1) (.Constant (.int 0) j p2) p3)) p4]) (S : FnScope [pn] [pn] (defScope st)) (hloc : (defScope st).names.lookup pn = some .local)
    (hbind : ∀ (kV doc pm : Value) (an : Option Addr) (cdv ct : Value) (us : List Value), us.length = [pn].length → bindArgs (PySem.W.fnOf x x (defArgs st) (defBody st) (defScope st) .none kV doc pm an cdv ct) ⟨us, []⟩ = pure ([pn].zip us)) (hdb : (pn == ("__debug__" : Str)) = false) :
    CallRK X (.builtin "sorted") [Str.ofString "key"] (rSortKey X.K fa) := by
  intro pins s σ H vs zs us ws Q I r rz h
  obtain ⟨β, en, kf, bs, a, xs, F0, rfl, rfl, hs, sm, hd, htup, hfl, hal, hk, q⟩ := h
  obtain ⟨its, rv, hl, hz⟩ := I.list hs
  rw [Vals.ref1 r, Vals.ref1 rz]
  obtain ⟨oc, od, kV, doc, pm, an, cdv, ct, osl, rfl, lk, hcd⟩ := F.ex
  have hlen : xs.length = bs.length := by rw [dpAll_len hd, List.length_map]
  have hun := hr.un
  rw [hb] at lk
  refine PySem.W.sorted_key_data (b := false) (R := fun u b => ∃ v, RelV v u ∧ Dp X.K F0 v (en b)) kf hl.isList (each_dp rv hd) hal hk (by rw [← hlen]; exact hz) (fun b _ => ?_) (ksk_s1 _ _) (fun _ => ksk_l1 _ _) (fun _ => ksk_t1 _ _) (fun v b hR _ h tk kp => ?_) fun out c h' tk kp fr hD _ eo => ?_
  · have : (kf b).depth = 0 := by
      have := hfl b
      revert this
      generalize kf b = d
      intro this
      cases d <;> first
        | rfl
        | cases this
    omega
  · obtain ⟨w, rw1, hw⟩ := hR
    obtain ⟨ds, ed⟩ := htup b
    rw [ed] at hw
    obtain ⟨a2, vs2, rfl, ht2, hd2⟩ := dp_tup (dp_mono sm hw)
    cases rw1
    obtain ⟨its2, rv2, ht3, hz2⟩ := I.tuple ht2
    cases hd2 with
    | @cons v0 vs0 _ _ d0 _ =>
      cases rv2 with
      | @cons _ u0 _ us0 r0 _ =>
        refine keyd (items := (u0 :: us0).toArray) lk hcd S hloc ?_ hdb (show X.A.depth < recursionLimit by have := hr.dp; omega) (I.kIn.keeps kp) (I.nolimit.keeps kp) (ht3.keeps kp) rfl (flat_reads d0 r0 (hfl b))
        have q2 := hbind kV doc pm an cdv ct [.ref a2] rfl
        rw [hb] at q2
        exact q2
  · obtain ⟨ys, k1, k2⟩ := dp_each eo
    have hol : out.length = bs.length := by
      have := eo.length
      rw [List.length_mergeSort] at this
      exact this
    exact ⟨.ref _, upd H (s.heap.objs.size + 1) (.lst ys), I.laid (t' := tk) kp (Nat.le_succ _) ⟨by rw [k1.length, hol, ← hlen]; exact hz, out, c, k1, hD⟩, rfl, q _ _ k2 (I.hok.fresh (Nat.le_succ _))⟩

/-- a def that gives the first part of a tuple -/
structure KeyFn (B : Bs) (x : Str) : Prop where
  ex : ∃ (fa : Addr) (fd : FuncData) (st : Stmt) (pn : Str) (p1 p2 p3 p4 : Pos) (j : Nat), Fun B.K x x st fa fd ∧ B.mg x = some (.ref fa) ∧ defBody st = [.Return (some (.Subscript (.Name pn p1) (.Constant (.int 0) j p2) p3)) p4] ∧ FnScope [pn] [pn] (defScope st) ∧ (defScope st).names.lookup pn = some .local ∧
    (∀ (kV doc pm : Value) (an : Option Addr) (cdv ct : Value) (us : List Value), us.length = [pn].length → bindArgs (PySem.W.fnOf x x (defArgs st) (defBody st) (defScope st) .none kV doc pm an cdv ct) ⟨us, []⟩ = pure ([pn].zip us)) ∧ (pn == ("__debug__" : Str)) = false
theorem keyFn_mk {B : Bs} {x pn : Str} {st : Stmt} {p1 p2 p3 p4 : Pos} {j : Nat} (D : DefAt B x st) (hb : defBody st = [.Return (some (.Subscript (.Name pn p1) (.Constant (.int 0) j p2) p3)) p4]) (S : FnScope [pn] [pn] (defScope st)) (hl : (defScope st).names.lookup pn = some .local)
    (h : ∀ (kV doc pm : Value) (an : Option Addr) (cdv ct : Value) (us : List Value), us.length = [pn].length → bindArgs (PySem.W.fnOf x x (defArgs st) (defBody st) (defScope st) .none kV doc pm an cdv ct) ⟨us, []⟩ = pure ([pn].zip us)) (hd : (pn == ("__debug__" : Str)) = false := by decide) : KeyFn B x := by
  obtain ⟨fa, fd, F, hm⟩ := D.ex
  exact ⟨fa, fd, st, pn, p1, p2, p3, p4, j, F, hm, hb, S, hl, h, hd⟩
/-- sorted by a key -/
def srtK {α κ : Type} [Enc κ] (φ : α → κ) (l : List α) : List α := l.mergeSort fun x y => !plt (φ y) (φ x)
variable {G : Type}
theorem en_sortkey {f : Fm} {W : Wd G} {S : Sy} {a : Expr} {p p2 p3 pos : Pos} {y : Str} {α κ : Type} [Enc α] [Enc κ] [Srt κ] [Flt κ] {m : MM G (List α)} (φ : α → κ) (hφ : ∀ x, ∃ ds, enc x = .tuple (enc (φ x) :: ds)) (h : EL f W S a m) (K : KeyFn f.bs y) (hm : f.mg "sorted" = none) (hg : GlF f "sorted" := by rfl) (hg2 : GlF f y := by rfl)
    (hs : ∀ env, starEach [a] env = (false, eval a env) :: starEach [] env := by intro _; rfl) (hdb : (y == ("__debug__" : Str)) = false := by decide) :
    EN f W S (.Call (.Name "sorted" p) [a] [⟨some "key", .Name y p2, p3⟩] pos) (fun g C => m g fun x g1 => C (srtK φ x) g1) := by
  obtain ⟨t, h1, h2⟩ := h.run
  obtain ⟨fa, fd, st, pn, q1, q2, q3, q4, j, F, hmg, hb, hS, hl, hbd, hd⟩ := K.ex
  refine ⟨tCKw (rSortKey f.K fa) (tCons t tNil) (tCons (tC (.ref fa)) tNil), fun X hX => ?_, fun c0 σ c r C Q hm hQ => ?_⟩
  · have F' : Fun X.K y y st fa fd := by rw [hX.K]; exact F
    rw [← hX.K]
    exact pe_callBK (cr_sortKey hX.room F' hb hS hl hbd hd) (hX.gl hg) (by rw [hX.mg]; exact hm) (by decide +kernel) (pa_cons (h1 X hX) pa_nil (hs X.env)) (pk_cons (pe_glob (hX.gl hg2) (by rw [hX.mg]; exact hmg) rfl hdb) pk_nil) (by decide) (by decide) (by rw [hs]; rfl) (by rw [hs]; rfl)
  · show tCons t tNil σ c.H (fun vs H1 => rSortKey f.K fa vs [.ref fa] H1 Q)
    refine semL_pa1 h2 r hm fun x p vs c1 e w la d q => ?_
    refine ⟨α, enc, fun b => enc (φ b), x, p, vs, c1.F, rfl, rfl, la.sq, w.sub, d, hφ, fun b => Flt.ok (φ b), PySem.W.AllAlike.of fun _ _ => Srt.alk _ _, ?_, fun ys D hy nD => ?_⟩
    · rcases Srt.kind (α := κ) with k | k
      · exact .tuples fun b => k (φ b)
      · exact .others fun b => k (φ b)
    · exact hQ _ D _ (c1.made D (.lst ys)) (e.trans (Ext.made nD)) (w.made nD) (newL_at e w nD hy) q
end M3
set_option Elab.async false
set_option linter.all false
set_option maxRecDepth 100000
/-! == and in, of flat things and of data with texts; what sorts. -/
namespace M3
open PySem PySem.Spec PyProof.Rows L2 Enc Args

/-- data of bounded depth whose texts are told to be texts of signs -/
class Sq (α : Type) [Enc α] where
  n : Nat
  ok : α → Prop
  lay : ∀ x : α, ok x → PyData.canLay0 (enc x) = true
  dep : ∀ x : α, ok x → PyData.depth (enc x) ≤ n
theorem Sq.shp {α : Type} [Enc α] [Sq α] (x : α) (h : Sq.ok x) (hn : Sq.n α ≤ 60) : SeqAt.shaped (enc x) = true := by
  unfold SeqAt.shaped
  rw [Sq.lay x h, decide_eq_true (Nat.le_trans (Sq.dep x h) (Nat.le_trans hn (by decide)))]
  rfl
variable {G : Type}
section
variable {α β γ δ ε : Type} [Enc α] [Enc β] [Enc γ] [Enc δ] [Enc ε]
instance : Sq Int := ⟨0, fun _ => True, fun _ _ => rfl, fun _ _ => Nat.le_refl _⟩
instance : Sq Bool := ⟨0, fun _ => True, fun _ _ => rfl, fun _ _ => Nat.le_refl _⟩
instance : Sq Unit := ⟨0, fun _ => True, fun _ _ => rfl, fun _ _ => Nat.le_refl _⟩
instance : Sq Str := ⟨0, fun x => PyData.canLay0 (.str x) = true, fun _ h => h, fun _ _ => Nat.le_refl _⟩
instance : Sq PyData := ⟨30, fun d => d.canLay0 = true ∧ d.depth ≤ 30, fun _ h => h.1, fun _ h => h.2⟩
instance [Sq α] : Sq (Option α) := ⟨Sq.n α, fun o => ∀ x, o = some x → Sq.ok x, fun o h => match o, h with | none, _ => rfl | some x, h => Sq.lay x (h x rfl), fun o h => match o, h with | none, _ => Nat.zero_le _ | some x, h => Sq.dep x (h x rfl)⟩
theorem sq_lay [Sq α] : ∀ l : List α, (∀ x ∈ l, Sq.ok x) → PyData.canLayAll0 (l.map enc) = true
  | [], _ => rfl
  | x :: l, h => lay_cons (Sq.lay x (h x List.mem_cons_self)) (sq_lay l fun y hy => h y (List.mem_cons_of_mem _ hy))
theorem sq_dep [Sq α] : ∀ l : List α, (∀ x ∈ l, Sq.ok x) → PyData.depthAll (l.map enc) ≤ Sq.n α
  | [], _ => Nat.zero_le _
  | x :: l, h => by
    rw [List.map_cons, PyData.depthAll]
    exact Nat.max_le.mpr ⟨Sq.dep x (h x List.mem_cons_self), sq_dep l fun y hy => h y (List.mem_cons_of_mem _ hy)⟩
instance [Sq α] : Sq (List α) := ⟨Sq.n α + 1, fun l => ∀ x ∈ l, Sq.ok x, fun l h => sq_lay l h, fun l h => Nat.succ_le_succ (sq_dep l h)⟩
instance [Sq α] : Sq (Tup α) := ⟨Sq.n α + 1, fun l => ∀ x ∈ l.l, Sq.ok x, fun l h => sq_lay l.l h, fun l h => Nat.succ_le_succ (sq_dep l.l h)⟩
instance [Sq α] : Sq (T1 α) := ⟨max (Sq.n α) 0 + 1, fun p => Sq.ok p.a, fun p h => lay_cons (Sq.lay p.a h) rfl, fun p h => Nat.succ_le_succ (dep_cons (Sq.dep p.a h) (Nat.le_refl 0))⟩
instance [Sq α] [Sq β] : Sq (α × β) := ⟨max (Sq.n α) (max (Sq.n β) 0) + 1, fun p => Sq.ok p.1 ∧ Sq.ok p.2, fun p h => lay_cons (Sq.lay p.1 h.1) (lay_cons (Sq.lay p.2 h.2) rfl), fun p h => Nat.succ_le_succ (dep_cons (Sq.dep p.1 h.1) (dep_cons (Sq.dep p.2 h.2) (Nat.le_refl 0)))⟩
instance [Sq α] [Sq β] [Sq γ] : Sq (T3 α β γ) := ⟨max (Sq.n α) (max (Sq.n β) (max (Sq.n γ) 0)) + 1, fun p => Sq.ok p.a ∧ Sq.ok p.b ∧ Sq.ok p.c, fun p h => lay_cons (Sq.lay p.a h.1) (lay_cons (Sq.lay p.b h.2.1) (lay_cons (Sq.lay p.c h.2.2) rfl)), fun p h => Nat.succ_le_succ (dep_cons (Sq.dep p.a h.1) (dep_cons (Sq.dep p.b h.2.1) (dep_cons (Sq.dep p.c h.2.2) (Nat.le_refl 0))))⟩
instance [Sq α] [Sq β] [Sq γ] [Sq δ] : Sq (T4 α β γ δ) := ⟨max (Sq.n α) (max (Sq.n β) (max (Sq.n γ) (max (Sq.n δ) 0))) + 1, fun p => Sq.ok p.a ∧ Sq.ok p.b ∧ Sq.ok p.c ∧ Sq.ok p.d, fun p h => lay_cons (Sq.lay p.a h.1) (lay_cons (Sq.lay p.b h.2.1) (lay_cons (Sq.lay p.c h.2.2.1) (lay_cons (Sq.lay p.d h.2.2.2) rfl))), fun p h => Nat.succ_le_succ (dep_cons (Sq.dep p.a h.1) (dep_cons (Sq.dep p.b h.2.1) (dep_cons (Sq.dep p.c h.2.2.1) (dep_cons (Sq.dep p.d h.2.2.2) (Nat.le_refl 0)))))⟩
/-! ### what sorts -/
theorem alk_all {α : Type} [Enc α] (h : ∀ x y : α, PySem.W.alike (enc x) (enc y) = true) : ∀ l m : List α, PySem.W.alikeAll (l.map enc) (m.map enc) = true
  | [], _ => by simp [PySem.W.alikeAll]
  | _ :: _, [] => by simp [PySem.W.alikeAll]
  | x :: l, y :: m => by
    rw [List.map_cons, List.map_cons, PySem.W.alikeAll, h x y, alk_all h l m]
    rfl
theorem dep_le {α : Type} [Enc α] {n : Nat} (h : ∀ x : α, (enc x).depth ≤ n) : ∀ l : List α, PyData.depthAll (l.map enc) ≤ n
  | [] => Nat.zero_le _
  | x :: l => by
    rw [List.map_cons, PyData.depthAll]
    exact Nat.max_le.mpr ⟨h x, dep_le h l⟩
theorem alk_cons {d e : PyData} {ds es : List PyData} (h : PySem.W.alike d e = true) (h' : PySem.W.alikeAll ds es = true) : PySem.W.alikeAll (d :: ds) (e :: es) = true := by
  rw [PySem.W.alikeAll, h, h']
  rfl
theorem alk_nil : PySem.W.alikeAll [] [] = true := by simp [PySem.W.alikeAll]
theorem alk_tup {ds es : List PyData} (h : PySem.W.alikeAll ds es = true) : PySem.W.alike (.tuple ds) (.tuple es) = true := by
  rw [PySem.W.alike]
  exact h
theorem alk_lst {ds es : List PyData} (h : PySem.W.alikeAll ds es = true) : PySem.W.alike (.list ds) (.list es) = true := by
  rw [PySem.W.alike]
  exact h
instance : Srt Int := ⟨0, fun x y => by show PySem.W.alike (.int x) (.int y) = true; rw [PySem.W.alike], .inr fun x => ⟨(nomatch ·), fun _ => (nomatch ·)⟩, fun _ => Nat.le_refl _⟩
instance : Srt Bool := ⟨0, fun x y => by show PySem.W.alike (.bool x) (.bool y) = true; rw [PySem.W.alike], .inr fun x => ⟨(nomatch ·), fun _ => (nomatch ·)⟩, fun _ => Nat.le_refl _⟩
instance : Srt Str := ⟨0, fun x y => by show PySem.W.alike (.str x) (.str y) = true; rw [PySem.W.alike], .inr fun x => ⟨(nomatch ·), fun _ => (nomatch ·)⟩, fun _ => Nat.le_refl _⟩
instance [Srt α] : Srt (List α) := ⟨Srt.n α + 1, fun x y => alk_lst (alk_all Srt.alk x y), .inr fun x => ⟨(nomatch ·), fun _ => (nomatch ·)⟩, fun x => Nat.succ_le_succ (dep_le Srt.dep x)⟩
instance [Srt α] : Srt (T1 α) := ⟨max (Srt.n α) 0 + 1, fun x y => alk_tup (alk_cons (Srt.alk _ _) alk_nil), .inl fun x => ⟨_, _, rfl⟩, fun x => Nat.succ_le_succ (dep_cons (Srt.dep _) (Nat.le_refl 0))⟩
instance [Srt α] [Srt β] : Srt (α × β) := ⟨max (Srt.n α) (max (Srt.n β) 0) + 1, fun x y => alk_tup (alk_cons (Srt.alk _ _) (alk_cons (Srt.alk _ _) alk_nil)), .inl fun x => ⟨_, _, rfl⟩, fun x => Nat.succ_le_succ (dep_cons (Srt.dep _) (dep_cons (Srt.dep _) (Nat.le_refl 0)))⟩
instance [Srt α] [Srt β] [Srt γ] : Srt (T3 α β γ) := ⟨max (Srt.n α) (max (Srt.n β) (max (Srt.n γ) 0)) + 1, fun x y => alk_tup (alk_cons (Srt.alk _ _) (alk_cons (Srt.alk _ _) (alk_cons (Srt.alk _ _) alk_nil))), .inl fun x => ⟨_, _, rfl⟩, fun x => Nat.succ_le_succ (dep_cons (Srt.dep _) (dep_cons (Srt.dep _) (dep_cons (Srt.dep _) (Nat.le_refl 0))))⟩
end
section
variable {f : Fm} {W : Wd G} {S : Sy} {a b c : Expr} {pos p : Pos} {α β γ : Type} [Enc α] [Enc β] [Enc γ]
theorem flat_dec [Flt α] [Flt β] {K : PySem.W.Frag} {H H' : Hp} {v u : V} {x : α} {y : β} (h : Dp K H v (enc x)) (h' : Dp K H' u (enc y)) (hs : scal v u = true) : decide (v = u) = peq x y := by
  unfold peq
  have h1 := Flt.ok x
  have h2 := Flt.ok y
  revert h h' h1 h2
  generalize enc x = d
  generalize enc y = e
  intro h h' h1 h2
  cases h <;> cases h' <;> first
    | cases h1; done
    | cases h2; done
    | cases hs; done
    | (simp [PyData.eqv]; done)
    | (rw [Bool.eq_iff_iff]; simp [PyData.eqv]; done)
class Scl (α β : Type) [Enc α] [Enc β] : Prop where
  ok : ∀ {K : PySem.W.Frag} {H H' : Hp} {v u : V} (x : α) (y : β), Dp K H v (enc x) → Dp K H' u (enc y) → scal v u = true
instance : Scl Int Int := ⟨fun x y h h' => by rw [dp_int h, dp_int h']; rfl⟩
instance : Scl Bool Bool := ⟨fun x y h h' => by rw [dp_bl h, dp_bl h']; rfl⟩
instance : Scl Str Str := ⟨fun x y h h' => by rw [dp_str h, dp_str h']; rfl⟩
theorem ev_eqF [Flt α] [Flt β] [Scl α β] {ma : MM G α} {mb : MM G β} (ha : EV f W S a ma) (hb : EV f W S b mb) : EV f W S (.Compare a [.Eq] [b] pos) (fun g C => ma g fun x g1 => mb g1 fun y g2 => C (peq x y) g2) := by
  obtain ⟨ta, a1, a2⟩ := ha.run
  obtain ⟨tb, b1, b2⟩ := hb.run
  refine ⟨tOp rEq ta tb, fun X hX => pe_cmpR op_eq (a1 X hX) (b1 X hX) (nomark b), fun c0 σ c r C Q hm hQ => sem_bin a2 b2 r hm fun x y v u c2 e w d1 d2 q => ?_⟩
  have hs := Scl.ok x y d1 d2
  rw [← flat_dec d1 d2 hs] at q
  exact ⟨hs, hQ _ _ c2 e w (.bl _) q⟩
theorem ev_eqC [Sq α] [Sq β] {ma : MM G α} {mb : MM G β} (ha : EV f W S a ma) (hb : EV f W S b mb) (h1 : Sq.n α ≤ 60 := by decide) (h2 : Sq.n β ≤ 60 := by decide) : EV f W S (.Compare a [.Eq] [b] pos) (fun g C => ma g fun x g1 => mb g1 fun y g2 => Sq.ok x ∧ Sq.ok y ∧ C (peq x y) g2) := by
  obtain ⟨ta, a1, a2⟩ := ha.run
  obtain ⟨tb, b1, b2⟩ := hb.run
  refine ⟨tOp (rEqD f.K) ta tb, fun X hX => by rw [← hX.K]; exact pe_cmpR (op_eqD (Nat.lt_of_succ_lt hX.hu)) (a1 X hX) (b1 X hX) (nomark b), fun c0 σ c r C Q hm hQ => sem_bin a2 b2 r hm fun x y v u c2 e w d1 d2 q => ?_⟩
  exact ⟨enc x, enc y, dp_mono w.sub d1, dp_mono w.sub d2, Sq.shp x q.1 h1, Sq.shp y q.2.1 h2, hQ _ _ c2 e w (.bl _) q.2.2⟩
theorem ev_neF [Flt α] [Flt β] [Scl α β] {ma : MM G α} {mb : MM G β} (ha : EV f W S a ma) (hb : EV f W S b mb) : EV f W S (.Compare a [.NotEq] [b] pos) (fun g C => ma g fun x g1 => mb g1 fun y g2 => C (!peq x y) g2) := by
  obtain ⟨ta, a1, a2⟩ := ha.run
  obtain ⟨tb, b1, b2⟩ := hb.run
  refine ⟨tOp rNe ta tb, fun X hX => pe_cmpR op_ne (a1 X hX) (b1 X hX) (nomark b), fun c0 σ c r C Q hm hQ => sem_bin a2 b2 r hm fun x y v u c2 e w d1 d2 q => ?_⟩
  have hs := Scl.ok x y d1 d2
  rw [← flat_dec d1 d2 hs] at q
  exact ⟨hs, hQ _ _ c2 e w (.bl _) q⟩
theorem ev_neC [Sq α] [Sq β] {ma : MM G α} {mb : MM G β} (ha : EV f W S a ma) (hb : EV f W S b mb) (h1 : Sq.n α ≤ 60 := by decide) (h2 : Sq.n β ≤ 60 := by decide) : EV f W S (.Compare a [.NotEq] [b] pos) (fun g C => ma g fun x g1 => mb g1 fun y g2 => Sq.ok x ∧ Sq.ok y ∧ C (!peq x y) g2) := by
  obtain ⟨ta, a1, a2⟩ := ha.run
  obtain ⟨tb, b1, b2⟩ := hb.run
  refine ⟨tOp (rNeD f.K) ta tb, fun X hX => by rw [← hX.K]; exact pe_cmpR (op_neD (Nat.lt_of_succ_lt hX.hu)) (a1 X hX) (b1 X hX) (nomark b), fun c0 σ c r C Q hm hQ => sem_bin a2 b2 r hm fun x y v u c2 e w d1 d2 q => ?_⟩
  exact ⟨enc x, enc y, dp_mono w.sub d1, dp_mono w.sub d2, Sq.shp x q.1 h1, Sq.shp y q.2.1 h2, hQ _ _ c2 e w (.bl _) q.2.2⟩
theorem ev_inF [Flt α] [Flt β] {ma : MM G α} {mb : MM G (List β)} (ha : EV f W S a ma) (hb : EL f W S b mb) (hk : behindInMarks .In b = false := by with_unfolding_all rfl) :
    EV f W S (.Compare a [.In] [b] pos) (fun g C => ma g fun x g1 => mb g1 fun y g2 => C (pin x y) g2) := by
  obtain ⟨ta, a1, a2⟩ := ha.run
  obtain ⟨tb, b1, b2⟩ := hb.run
  refine ⟨tOp (rIn f.K false) ta tb, fun X hX => by rw [← hX.K]; exact pe_cmpR op_in_seq (a1 X hX) (b1 X hX) hk, fun c0 σ c r C Q hm hQ => sem_ab a2 b2 r hm fun x y v p vs c2 e w d1 l2 d2 q => ?_⟩
  exact ⟨p, vs, rfl, .inl l2.sq, flat_v d1 (Flt.ok x), flat_all d2, by rw [flat_in d1 d2]; exact hQ _ _ c2 e w (.bl _) q⟩
theorem ev_inC [Sq α] [Sq β] {ma : MM G α} {mb : MM G (List β)} (ha : EV f W S a ma) (hb : EL f W S b mb) (hk : behindInMarks .In b = false := by with_unfolding_all rfl) (h1 : Sq.n α ≤ 60 := by decide) (h2 : Sq.n (List β) ≤ 60 := by decide) :
    EV f W S (.Compare a [.In] [b] pos) (fun g C => ma g fun x g1 => mb g1 fun y g2 => Sq.ok x ∧ Sq.ok y ∧ C (pin x y) g2) := by
  obtain ⟨ta, a1, a2⟩ := ha.run
  obtain ⟨tb, b1, b2⟩ := hb.run
  refine ⟨tOp (rInD f.K) ta tb, fun X hX => by rw [← hX.K]; exact pe_cmpR (op_inD hX.hu) (a1 X hX) (b1 X hX) hk, fun c0 σ c r C Q hm hQ => sem_ab a2 b2 r hm fun x y v p vs c2 e w d1 l2 d2 q => ?_⟩
  exact ⟨enc x, y.map enc, dp_mono w.sub d1, la_dp w l2 d2, Sq.shp x q.1 h1, Sq.shp y q.2.1 h2, hQ _ _ c2 e w (by rw [any_map_enc]; exact .bl _) q.2.2⟩
theorem ev_notinF [Flt α] [Flt β] {ma : MM G α} {mb : MM G (List β)} (ha : EV f W S a ma) (hb : EL f W S b mb) (hk : behindInMarks .NotIn b = false := by with_unfolding_all rfl) :
    EV f W S (.Compare a [.NotIn] [b] pos) (fun g C => ma g fun x g1 => mb g1 fun y g2 => C (!pin x y) g2) := by
  obtain ⟨ta, a1, a2⟩ := ha.run
  obtain ⟨tb, b1, b2⟩ := hb.run
  refine ⟨tOp (rIn f.K true) ta tb, fun X hX => by rw [← hX.K]; exact pe_cmpR op_notIn_seq (a1 X hX) (b1 X hX) hk, fun c0 σ c r C Q hm hQ => sem_ab a2 b2 r hm fun x y v p vs c2 e w d1 l2 d2 q => ?_⟩
  exact ⟨p, vs, rfl, .inl l2.sq, flat_v d1 (Flt.ok x), flat_all d2, by rw [flat_in d1 d2]; exact hQ _ _ c2 e w (.bl _) q⟩
theorem ev_notinC [Sq α] [Sq β] {ma : MM G α} {mb : MM G (List β)} (ha : EV f W S a ma) (hb : EL f W S b mb) (hk : behindInMarks .NotIn b = false := by with_unfolding_all rfl) (h1 : Sq.n α ≤ 60 := by decide) (h2 : Sq.n (List β) ≤ 60 := by decide) :
    EV f W S (.Compare a [.NotIn] [b] pos) (fun g C => ma g fun x g1 => mb g1 fun y g2 => Sq.ok x ∧ Sq.ok y ∧ C (!pin x y) g2) := by
  obtain ⟨ta, a1, a2⟩ := ha.run
  obtain ⟨tb, b1, b2⟩ := hb.run
  refine ⟨tOp (rNotInD f.K) ta tb, fun X hX => by rw [← hX.K]; exact pe_cmpR (op_notInD hX.hu) (a1 X hX) (b1 X hX) hk, fun c0 σ c r C Q hm hQ => sem_ab a2 b2 r hm fun x y v p vs c2 e w d1 l2 d2 q => ?_⟩
  exact ⟨enc x, y.map enc, dp_mono w.sub d1, la_dp w l2 d2, Sq.shp x q.1 h1, Sq.shp y q.2.1 h2, hQ _ _ c2 e w (by rw [any_map_enc]; exact .bl _) q.2.2⟩
theorem et_eqF [Flt α] [Flt β] [Scl α β] {ma : MM G α} {mb : MM G β} (ha : EV f W S a ma) (hb : EV f W S b mb) : ET f W S (.Compare a [.Eq] [b] pos) (fun g C => ma g fun x g1 => mb g1 fun y g2 => C (peq x y) g2) := by
  obtain ⟨ta, a1, a2⟩ := ha.run
  obtain ⟨tb, b1, b2⟩ := hb.run
  refine ⟨tTest (tOp rEq ta tb), fun X hX => pt_cmpR op_eq (a1 X hX) (b1 X hX) (nomark b), fun c0 σ c r C Q hm hQ => sem_bin a2 b2 r hm fun x y v u c2 e w d1 d2 q => ?_⟩
  have hs := Scl.ok x y d1 d2
  rw [← flat_dec d1 d2 hs] at q
  exact ⟨hs, _, rfl, hQ _ c2 e w q⟩
theorem et_eqC [Sq α] [Sq β] {ma : MM G α} {mb : MM G β} (ha : EV f W S a ma) (hb : EV f W S b mb) (h1 : Sq.n α ≤ 60 := by decide) (h2 : Sq.n β ≤ 60 := by decide) : ET f W S (.Compare a [.Eq] [b] pos) (fun g C => ma g fun x g1 => mb g1 fun y g2 => Sq.ok x ∧ Sq.ok y ∧ C (peq x y) g2) := by
  obtain ⟨ta, a1, a2⟩ := ha.run
  obtain ⟨tb, b1, b2⟩ := hb.run
  refine ⟨tTest (tOp (rEqD f.K) ta tb), fun X hX => by rw [← hX.K]; exact pt_cmpR (op_eqD (Nat.lt_of_succ_lt hX.hu)) (a1 X hX) (b1 X hX) (nomark b), fun c0 σ c r C Q hm hQ => sem_bin a2 b2 r hm fun x y v u c2 e w d1 d2 q => ?_⟩
  exact ⟨enc x, enc y, dp_mono w.sub d1, dp_mono w.sub d2, Sq.shp x q.1 h1, Sq.shp y q.2.1 h2, _, rfl, hQ _ c2 e w q.2.2⟩
theorem et_neF [Flt α] [Flt β] [Scl α β] {ma : MM G α} {mb : MM G β} (ha : EV f W S a ma) (hb : EV f W S b mb) : ET f W S (.Compare a [.NotEq] [b] pos) (fun g C => ma g fun x g1 => mb g1 fun y g2 => C (!peq x y) g2) := by
  obtain ⟨ta, a1, a2⟩ := ha.run
  obtain ⟨tb, b1, b2⟩ := hb.run
  refine ⟨tTest (tOp rNe ta tb), fun X hX => pt_cmpR op_ne (a1 X hX) (b1 X hX) (nomark b), fun c0 σ c r C Q hm hQ => sem_bin a2 b2 r hm fun x y v u c2 e w d1 d2 q => ?_⟩
  have hs := Scl.ok x y d1 d2
  rw [← flat_dec d1 d2 hs] at q
  exact ⟨hs, _, rfl, hQ _ c2 e w q⟩
theorem et_neC [Sq α] [Sq β] {ma : MM G α} {mb : MM G β} (ha : EV f W S a ma) (hb : EV f W S b mb) (h1 : Sq.n α ≤ 60 := by decide) (h2 : Sq.n β ≤ 60 := by decide) : ET f W S (.Compare a [.NotEq] [b] pos) (fun g C => ma g fun x g1 => mb g1 fun y g2 => Sq.ok x ∧ Sq.ok y ∧ C (!peq x y) g2) := by
  obtain ⟨ta, a1, a2⟩ := ha.run
  obtain ⟨tb, b1, b2⟩ := hb.run
  refine ⟨tTest (tOp (rNeD f.K) ta tb), fun X hX => by rw [← hX.K]; exact pt_cmpR (op_neD (Nat.lt_of_succ_lt hX.hu)) (a1 X hX) (b1 X hX) (nomark b), fun c0 σ c r C Q hm hQ => sem_bin a2 b2 r hm fun x y v u c2 e w d1 d2 q => ?_⟩
  exact ⟨enc x, enc y, dp_mono w.sub d1, dp_mono w.sub d2, Sq.shp x q.1 h1, Sq.shp y q.2.1 h2, _, rfl, hQ _ c2 e w q.2.2⟩
theorem et_inF [Flt α] [Flt β] {ma : MM G α} {mb : MM G (List β)} (ha : EV f W S a ma) (hb : EL f W S b mb) (hk : behindInMarks .In b = false := by with_unfolding_all rfl) :
    ET f W S (.Compare a [.In] [b] pos) (fun g C => ma g fun x g1 => mb g1 fun y g2 => C (pin x y) g2) := by
  obtain ⟨ta, a1, a2⟩ := ha.run
  obtain ⟨tb, b1, b2⟩ := hb.run
  refine ⟨tTest (tOp (rIn f.K false) ta tb), fun X hX => by rw [← hX.K]; exact pt_cmpR op_in_seq (a1 X hX) (b1 X hX) hk, fun c0 σ c r C Q hm hQ => sem_ab a2 b2 r hm fun x y v p vs c2 e w d1 l2 d2 q => ?_⟩
  exact ⟨p, vs, rfl, .inl l2.sq, flat_v d1 (Flt.ok x), flat_all d2, _, rfl, by rw [flat_in d1 d2]; exact hQ _ c2 e w q⟩
theorem et_inC [Sq α] [Sq β] {ma : MM G α} {mb : MM G (List β)} (ha : EV f W S a ma) (hb : EL f W S b mb) (hk : behindInMarks .In b = false := by with_unfolding_all rfl) (h1 : Sq.n α ≤ 60 := by decide) (h2 : Sq.n (List β) ≤ 60 := by decide) :
    ET f W S (.Compare a [.In] [b] pos) (fun g C => ma g fun x g1 => mb g1 fun y g2 => Sq.ok x ∧ Sq.ok y ∧ C (pin x y) g2) := by
  obtain ⟨ta, a1, a2⟩ := ha.run
  obtain ⟨tb, b1, b2⟩ := hb.run
  refine ⟨tTest (tOp (rInD f.K) ta tb), fun X hX => by rw [← hX.K]; exact pt_cmpR (op_inD hX.hu) (a1 X hX) (b1 X hX) hk, fun c0 σ c r C Q hm hQ => sem_ab a2 b2 r hm fun x y v p vs c2 e w d1 l2 d2 q => ?_⟩
  exact ⟨enc x, y.map enc, dp_mono w.sub d1, la_dp w l2 d2, Sq.shp x q.1 h1, Sq.shp y q.2.1 h2, _, rfl, by rw [any_map_enc]; exact hQ _ c2 e w q.2.2⟩
theorem et_notinF [Flt α] [Flt β] {ma : MM G α} {mb : MM G (List β)} (ha : EV f W S a ma) (hb : EL f W S b mb) (hk : behindInMarks .NotIn b = false := by with_unfolding_all rfl) :
    ET f W S (.Compare a [.NotIn] [b] pos) (fun g C => ma g fun x g1 => mb g1 fun y g2 => C (!pin x y) g2) := by
  obtain ⟨ta, a1, a2⟩ := ha.run
  obtain ⟨tb, b1, b2⟩ := hb.run
  refine ⟨tTest (tOp (rIn f.K true) ta tb), fun X hX => by rw [← hX.K]; exact pt_cmpR op_notIn_seq (a1 X hX) (b1 X hX) hk, fun c0 σ c r C Q hm hQ => sem_ab a2 b2 r hm fun x y v p vs c2 e w d1 l2 d2 q => ?_⟩
  exact ⟨p, vs, rfl, .inl l2.sq, flat_v d1 (Flt.ok x), flat_all d2, _, rfl, by rw [flat_in d1 d2]; exact hQ _ c2 e w q⟩
theorem et_notinC [Sq α] [Sq β] {ma : MM G α} {mb : MM G (List β)} (ha : EV f W S a ma) (hb : EL f W S b mb) (hk : behindInMarks .NotIn b = false := by with_unfolding_all rfl) (h1 : Sq.n α ≤ 60 := by decide) (h2 : Sq.n (List β) ≤ 60 := by decide) :
    ET f W S (.Compare a [.NotIn] [b] pos) (fun g C => ma g fun x g1 => mb g1 fun y g2 => Sq.ok x ∧ Sq.ok y ∧ C (!pin x y) g2) := by
  obtain ⟨ta, a1, a2⟩ := ha.run
  obtain ⟨tb, b1, b2⟩ := hb.run
  refine ⟨tTest (tOp (rNotInD f.K) ta tb), fun X hX => by rw [← hX.K]; exact pt_cmpR (op_notInD hX.hu) (a1 X hX) (b1 X hX) hk, fun c0 σ c r C Q hm hQ => sem_ab a2 b2 r hm fun x y v p vs c2 e w d1 l2 d2 q => ?_⟩
  exact ⟨enc x, y.map enc, dp_mono w.sub d1, la_dp w l2 d2, Sq.shp x q.1 h1, Sq.shp y q.2.1 h2, _, rfl, by rw [any_map_enc]; exact hQ _ c2 e w q.2.2⟩
end
end M3

set_option Elab.async false
set_option linter.all false
set_option maxRecDepth 100000
set_option maxHeartbeats 4000000
namespace M3
open PySem PySem.Spec PyProof.Rows L2 Enc Args
/-- m draws: whatever it gives is at least 0 and below most -/
def m_law_take : (Int × Unit) → (Int → Prop) → Prop := fun y C => 0 < y.1 ∧ y.1 < 1073741824 ∧ ∀ r : Int, 0 ≤ r → r < y.1 → C r
def topS (i : Nat) : Stmt := PySem.Challenge.pw_mailwright_k85_numbers_there_are_those_o.main.body.getD i (.Pass ⟨0, 0, 0, 0⟩)
abbrev s_numbers_there : Stmt := topS 1
abbrev s_new_number : Stmt := topS 2
abbrev s_empty_store : Stmt := topS 9
abbrev s_box_at : Stmt := topS 10
abbrev s_row_at : Stmt := topS 11
abbrev s_with_boxes : Stmt := topS 12
abbrev s_name_of : Stmt := topS 13
abbrev s_replaced : Stmt := topS 14
abbrev s_check_deed : Stmt := topS 15
abbrev s_do : Stmt := topS 16
abbrev s_make : Stmt := topS 17
abbrev s_whole_box : Stmt := topS 18
abbrev s_add : Stmt := topS 19
abbrev s_forget : Stmt := topS 20
abbrev s_flag : Stmt := topS 21
abbrev s_carry : Stmt := topS 22
abbrev s_view : Stmt := topS 23
abbrev s_place_of : Stmt := topS 24
abbrev s_law_state : Stmt := topS 26
abbrev s_law_take : Stmt := topS 27
abbrev s_law : Stmt := topS 28
def cv_FLAGS : (T4 Str Str Str Str) := (T4.mk (Str.ofString "answered") (Str.ofString "draft") (Str.ofString "flagged") (Str.ofString "seen"))
def cv_EMPTY : (T3 Str Int Int) := (T3.mk (Str.ofString "store") (0) (1))

abbrev Row := T4 Int Str (Tup Int) Int
abbrev Bx := T4 Str Int (List Row) (List (Int × Int))
abbrev Stor := T4 Str Int Int (List Bx)
/-- a store of the boxes in and old -/
def stOf (mk n mi mo : Int) (A B : List Row) (da db : List (Int × Int)) : Stor := ⟨"store", mk, n, [⟨"in", mi, A, da⟩, ⟨"old", mo, B, db⟩]⟩
def kept (number : Int) (A : List Row) : List Row := A.filter fun r => !peq r.a number
def bxAt (s : Stor) (n : Str) : Option Bx := s.d.find? fun b => peq b.a n
theorem srtK_two {x y : Bx} : srtK (fun b : Bx => b.a) [x, y] = if plt y.a x.a = true then [y, x] else [x, y] := by
  unfold srtK
  by_cases h : plt y.a x.a = true
  · rw [if_pos h]
    simp [List.mergeSort, List.MergeSort.Internal.splitInTwo, List.merge, h]
  · rw [if_neg h]
    simp [List.mergeSort, List.MergeSort.Internal.splitInTwo, List.merge, h]
theorem srtK_one {x : Bx} : srtK (fun b : Bx => b.a) [x] = [x] := by
  unfold srtK
  simp [List.mergeSort]
theorem plt_io : plt (Str.ofString "in") (Str.ofString "old") = true := by decide +kernel
theorem plt_oi : plt (Str.ofString "old") (Str.ofString "in") = false := by decide +kernel
theorem peq_s (x y : Str) : peq x y = decide (x = y) := peq_dec
theorem peq_i (x y : Int) : peq x y = decide (x = y) := peq_dec
theorem io_ne : Str.ofString "in" ≠ Str.ofString "old" := by decide
theorem oi_ne : Str.ofString "old" ≠ Str.ofString "in" := by decide
def m_numbers_there : (List Int × Int × Unit) → ((List (Int × Int) × Int) → Prop) → Prop := fun y C => y.1.length < 1000 ∧ C ((enumI y.1).map (fun x => (x.2, y.2.1 + x.1)), y.2.1 + y.1.length)
theorem fn_numbers_there {B : Bs} (D : DefAt B "numbers_there" s_numbers_there) (z_enumerate : B.mg "enumerate" = none) (z_len : B.mg "len" = none) : Fn B 1 "numbers_there" m_numbers_there := by
  refine def_ok (τ := Unit) (k := 0) (N := ["numbers", "next_there", "rows", "at", "number"]) (ps := ["numbers", "next_there"]) (Γ := fun _ _ => List.replicate 5 none) D ⟨rfl, rfl, rfl, by decide +kernel, rfl, by decide +kernel, by decide +kernel⟩ (fun _ => rfl) (by decide +kernel) (fun _ _ _ _ _ _ us hl => match us, hl with | [_, _], _ => rfl) (fun y => ?_)
  obtain ⟨v_numbers, v_next_there, v__⟩ := y
  refine ⟨_, (blk_at [some (.fr (Enc.enc (v_numbers))), some (.fr (Enc.enc (v_next_there))), none, none, none] (blk_cons (st_setLc 2 (own := [("at", 3), ("number", 4)]) (srcc_enum (EV.el (ev_var (v := v_numbers) (i := 0))) (hm := z_enumerate)) (by exact rfl) (tg_tup (n := 2) (fun (x : (Int × Int)) => (x.1, x.2, ())) (fun _ => rfl) (fun _ => rfl) (tgs_cons (tg_name (α := Int) 3) (fun _ => (tgs_cons (tg_name (α := Int) 4) (fun _ => tgs_nil))))) (by decide) (fun x1 => ets_nil) (fun x1 => (ev_tup (fun x => (x.1, x.2.1)) (fun _ => rfl) (fun _ => Nat.le_of_ble_eq_true rfl) (ea_cons (ev_var (v := (x1).2) (i := 4)) (ea_cons (ev_add (ev_var (v := v_next_there) (i := 1)) (ev_var (v := (x1).1) (i := 3))) ea_nil))))) (fun v3 => (blk_freeze (α := (Int × Int)) (v := v3) 2 (hb := (blk_at [some (.fr (Enc.enc (v_numbers))), some (.fr (Enc.enc (v_next_there))), some (.fr (Enc.enc (v3))), none, none] (blk_last (st_ret (ev_tup (fun x => (x.1, x.2.1)) (fun _ => rfl) (fun _ => Nat.le_of_ble_eq_true rfl) (ea_cons (ev_var (v := v3) (i := 2)) (ea_cons (ev_add (ev_var (v := v_next_there) (i := 1)) (ev_len (EV.el (ev_var (v := v_numbers) (i := 0))) (hm := z_len))) ea_nil))))))))))), fun C hC => ?_⟩
  obtain ⟨h1, h2⟩ := hC
  dsimp only at h1 h2 ⊢
  exact lcW_map (fun x : Int × Int => (x.2, v_next_there + x.1)) (fun _ _ _ h => h) (fun _ _ _ h => h) (by unfold enumI; rw [List.length_mapIdx]; omega) h2

def m_new_number : (List (Int × Int) × Int × Unit) → (Option Int → Prop) → Prop := fun y C => y.1.Pairwise (fun a b => a.1 < b.1) ∧ C ((y.1.find? fun r => peq r.1 y.2.1).map (·.2))
theorem fn_new_number {B : Bs} (D : DefAt B "new_number" s_new_number) (z_len : B.mg "len" = none) : Fn B 1 "new_number" m_new_number := by
  refine def_ok (τ := Unit) (k := 0) (N := ["rows", "number", "low", "high", "middle"]) (ps := ["rows", "number"]) (Γ := fun _ _ => List.replicate 5 none) D ⟨rfl, rfl, rfl, by decide +kernel, rfl, by decide +kernel, by decide +kernel⟩ (fun _ => rfl) (by decide +kernel) (fun _ _ _ _ _ _ us hl => match us, hl with | [_, _], _ => rfl) (fun y => ?_)
  obtain ⟨v_rows, v_number, v__⟩ := y
  refine ⟨_, (blk_at [some (.fr (Enc.enc (v_rows))), some (.fr (Enc.enc (v_number))), none, none, none] (blk_cons (st_par2 2 3 ev_int (ev_len (EV.el (ev_var (v := v_rows) (i := 0))) (hm := z_len))) (fun v1 => (blk_at [some (.fr (Enc.enc (v_rows))), some (.fr (Enc.enc (v_number))), some (.fr (Enc.enc (v1.1))), some (.fr (Enc.enc (v1.2))), none] (blk_drop [4] (blk_cons (st_whileU (fun (s : Int × Int) S => (List.set (List.set S 2 (some (.fr (Enc.enc (s.1))))) 3 (some (.fr (Enc.enc (s.2)))))) (v1.1, v1.2) (fun s8 => (et_lt (ev_var (v := s8.1) (i := 2)) (ev_var (v := s8.2) (i := 3)))) (fun s8 => (blk_at [some (.fr (Enc.enc (v_rows))), some (.fr (Enc.enc (v_number))), some (.fr (Enc.enc (s8.1))), some (.fr (Enc.enc (s8.2))), none] (blk_cons (st_set (α := Int) 4 (ev_fdiv (ev_add (ev_var (v := s8.1) (i := 2)) (ev_var (v := s8.2) (i := 3))) ev_int)) (fun v11 => (blk_at [some (.fr (Enc.enc (v_rows))), some (.fr (Enc.enc (v_number))), some (.fr (Enc.enc (s8.1))), some (.fr (Enc.enc (s8.2))), some (.fr (Enc.enc (v11)))] (blk_cons (st_ifU (fun (s : Int × Int) S => (List.set (List.set S 2 (some (.fr (Enc.enc (s.1))))) 3 (some (.fr (Enc.enc (s.2)))))) (et_lt (ev_ixT (fun (x : (Int × Int)) => x.1) (0) (fun _ => ⟨_, rfl, rfl⟩) (ev_ix (EV.el (ev_var (v := v_rows) (i := 0))) (ev_var (v := v11) (i := 4))) ev_int) (ev_var (v := v_number) (i := 1))) (blk_cons (st_set (α := Int) 2 (ev_add (ev_var (v := v11) (i := 4)) ev_int)) (fun v14 => (blk_nil (v14, s8.2)))) (blk_cons (st_set (α := Int) 3 (ev_var (v := v11) (i := 4))) (fun v15 => (blk_nil (s8.1, v15))))) (fun v16 => (blk_drop [4] (blk_nil (v16.1, v16.2))))))))))) (fun s10 => (blk_at [some (.fr (Enc.enc (v_rows))), some (.fr (Enc.enc (v_number))), some (.fr (Enc.enc (s10.1))), some (.fr (Enc.enc (s10.2))), none] (blk_last (st_ret (ev_if (EW.et (ew_and (et_lt (ev_var (v := s10.1) (i := 2)) (ev_len (EV.el (ev_var (v := v_rows) (i := 0))) (hm := z_len))) (ew_and1 (et_eq (ev_ixT (fun (x : (Int × Int)) => x.1) (0) (fun _ => ⟨_, rfl, rfl⟩) (ev_ix (EV.el (ev_var (v := v_rows) (i := 0))) (ev_var (v := s10.1) (i := 2))) ev_int) (ev_var (v := v_number) (i := 1)))))) (ev_some (ev_ixT (fun (x : (Int × Int)) => x.2) (1) (fun _ => ⟨_, rfl, rfl⟩) (ev_ix (EV.el (ev_var (v := v_rows) (i := 0))) (ev_var (v := s10.1) (i := 2))) ev_int)) (ev_none (α := Int))))))))))))), fun C hC => ?_⟩
  obtain ⟨hp, h2⟩ := hC
  dsimp only at hp h2 ⊢
  rw [List.pairwise_iff_getElem] at hp
  refine ⟨fun s _ => 0 ≤ s.1 ∧ s.1 ≤ s.2 ∧ s.2 ≤ v_rows.length ∧ (∀ (i : Nat) (h : i < v_rows.length), (i : Int) < s.1 → v_rows[i].1 < v_number) ∧ (∀ (i : Nat) (h : i < v_rows.length), s.2 ≤ i → v_number ≤ v_rows[i].1), fun s _ => (s.2 - s.1).toNat,
    ⟨Int.le_refl 0, by omega, Int.le_refl _, fun i h hi => by omega, fun i h hi => by omega⟩, fun s _ hI => ?_⟩
  obtain ⟨lo, hi⟩ := s
  obtain ⟨i1, i2, i3, i4, i5⟩ := hI
  dsimp only at i1 i2 i3 i4 i5 ⊢
  by_cases hlt : lo < hi
  · rw [if_pos (decide_eq_true hlt)]
    refine ⟨⟨by decide, by decide⟩, ?_⟩
    obtain ⟨m, hm⟩ : ∃ m : Nat, (lo + hi) / 2 = (m : Int) := ⟨((lo + hi) / 2).toNat, by omega⟩
    have hml : m < v_rows.length := by omega
    refine ⟨v_rows[m], by rw [hm]; exact atI_nat (List.getElem?_eq_getElem hml), ?_⟩
    by_cases hx : v_rows[m].1 < v_number
    · rw [if_pos (decide_eq_true hx)]
      refine ⟨⟨by omega, by omega, by omega, fun i h hi => ?_, i5⟩, by omega⟩
      by_cases him : i = m
      · subst him
        exact hx
      · have := hp i m h hml (by omega)
        omega
    · rw [if_neg (by rw [decide_eq_true_eq]; exact hx)]
      refine ⟨⟨by omega, by omega, by omega, i4, fun i h hi => ?_⟩, by omega⟩
      by_cases him : i = m
      · subst him
        omega
      · have := hp m i hml h (by omega)
        omega
  · rw [if_neg (by rw [decide_eq_true_eq]; exact hlt)]
    obtain ⟨m, rfl⟩ := Int.eq_ofNat_of_zero_le i1
    by_cases hl : (m : Int) < v_rows.length
    · have hml : m < v_rows.length := by omega
      rw [if_pos (decide_eq_true hl)]
      refine ⟨v_rows[m], atI_nat (List.getElem?_eq_getElem hml), ?_⟩
      by_cases he : peq v_rows[m].1 v_number = true
      · rw [if_pos he]
        refine ⟨v_rows[m], atI_nat (List.getElem?_eq_getElem hml), ?_⟩
        have e : v_rows.find? (fun r => peq r.1 v_number) = some v_rows[m] := by
          rw [List.find?_eq_some_iff_getElem]
          refine ⟨he, m, hml, rfl, fun j hj => ?_⟩
          have := i4 j (by omega) (by omega)
          rw [peq_i]
          simp
          omega
        rw [e] at h2
        exact h2
      · rw [if_neg he]
        have e : v_rows.find? (fun r => peq r.1 v_number) = none := by
          rw [List.find?_eq_none]
          intro x hx hq
          obtain ⟨j, hj, rfl⟩ := List.getElem_of_mem hx
          rw [peq_iff] at hq
          by_cases hjm : j = m
          · subst hjm
            exact he (peq_iff.mpr hq)
          · by_cases hjl : j < m
            · have := i4 j hj (by omega)
              omega
            · have := hp m j hml hj (by omega)
              have := i5 m hml (by omega)
              omega
        rw [e] at h2
        exact h2
    · rw [if_neg (by rw [decide_eq_true_eq]; exact hl), if_neg (by decide)]
      have e : v_rows.find? (fun r => peq r.1 v_number) = none := by
        rw [List.find?_eq_none]
        intro x hx hq
        obtain ⟨j, hj, rfl⟩ := List.getElem_of_mem hx
        rw [peq_iff] at hq
        have := i4 j hj (by omega)
        omega
      rw [e] at h2
      exact h2

def m_empty_store : Unit → (Stor → Prop) → Prop := fun _ C => C ⟨"store", 0, 1, []⟩
theorem fn_empty_store {B : Bs} (D : DefAt B "empty_store" s_empty_store) (c_EMPTY : ConstAt B "EMPTY" cv_EMPTY) : Fn B 1 "empty_store" m_empty_store := by
  refine def_ok (τ := Unit) (k := 0) (N := []) (ps := []) (Γ := fun _ _ => List.replicate 0 none) D ⟨rfl, rfl, rfl, by decide +kernel, rfl, by decide +kernel, by decide +kernel⟩ (fun _ => rfl) (by decide +kernel) (fun _ _ _ _ _ _ us hl => match us, hl with | [], _ => rfl) (fun y => ?_)
  obtain ⟨v__⟩ := y
  refine ⟨_, (blk_at [] (blk_last (st_ret (ev_catT (fun (x : (T3 Str Int Int)) (y : (T1 (List (T4 Str Int (List (T4 Int Str (Tup Int) Int)) (List (Int × Int)))))) => (T4.mk x.a x.b x.c y.a)) (fun _ _ => ⟨_, _, rfl, rfl, List.cons_ne_nil _ _, List.cons_ne_nil _ _, rfl⟩) (ev_const c_EMPTY) (ev_tup (fun x => (T1.mk x.1)) (fun _ => rfl) (fun _ => Nat.le_of_ble_eq_true rfl) (ea_cons (EN.ev (en_nil (α := (T4 Str Int (List (T4 Int Str (Tup Int) Int)) (List (Int × Int)))))) ea_nil)) (hl := fun _ _ _ _ h1 h2 => by cases h1; cases h2; exact Nat.le_of_ble_eq_true rfl))))), fun C hC => ?_⟩
  dsimp only at hC ⊢
  exact hC

def m_box_at : (Stor × Str × Unit) → (Option Bx → Prop) → Prop := fun y C => C (bxAt y.1 y.2.1)
theorem fn_box_at {B : Bs} (D : DefAt B "box_at" s_box_at) : Fn B 1 "box_at" m_box_at := by
  refine def_ok (τ := Unit) (k := 0) (N := ["store", "name", "box"]) (ps := ["store", "name"]) (Γ := fun _ _ => List.replicate 3 none) D ⟨rfl, rfl, rfl, by decide +kernel, rfl, by decide +kernel, by decide +kernel⟩ (fun _ => rfl) (by decide +kernel) (fun _ _ _ _ _ _ us hl => match us, hl with | [_, _], _ => rfl) (fun y => ?_)
  obtain ⟨v_store, v_name, v__⟩ := y
  refine ⟨_, (blk_at [some (.fr (Enc.enc (v_store))), some (.fr (Enc.enc (v_name))), none] (blk_drop [2] (blk_cons (st_forU (fun (_ : Unit) S => S) () (src_list (ev_ixT (fun (x : (T4 Str Int Int (List (T4 Str Int (List (T4 Int Str (Tup Int) Int)) (List (Int × Int)))))) => x.d) (3) (fun _ => ⟨_, rfl, rfl⟩) (ev_var (v := v_store) (i := 0)) ev_int)) (fun s2 => (tg_name (α := (T4 Str Int (List (T4 Int Str (Tup Int) Int)) (List (Int × Int)))) 2)) (fun s2 x3 => (blk_at [some (.fr (Enc.enc (v_store))), some (.fr (Enc.enc (v_name))), some (.fr (Enc.enc (x3)))] (blk_cons (st_ifU (fun (s : Unit) S => S) (et_eqF (ev_ixT (fun (x : (T4 Str Int (List (T4 Int Str (Tup Int) Int)) (List (Int × Int)))) => x.a) (0) (fun _ => ⟨_, rfl, rfl⟩) (ev_var (v := x3) (i := 2)) ev_int) (ev_var (v := v_name) (i := 1))) (blk_last (st_ret (ev_some (ev_var (v := x3) (i := 2))))) (blk_nil ())) (fun v5 => (blk_drop [2] (blk_nil ()))))))) (fun s4 => (blk_at [some (.fr (Enc.enc (v_store))), some (.fr (Enc.enc (v_name))), none] (blk_last (st_ret (ev_none (α := (T4 Str Int (List (T4 Int Str (Tup Int) Int)) (List (Int × Int)))))))))))), fun C hC => ?_⟩
  dsimp only [m_box_at] at hC ⊢
  refine forW_find (fun x : Bx => peq x.a v_name) (fun x => some x) (fun x hx => ?_) (fun hx => ?_)
  · have e : bxAt v_store v_name = some x := hx
    rw [e] at hC
    exact hC
  · have e : bxAt v_store v_name = none := hx
    rw [e] at hC
    exact hC

def m_row_at : (Bx × Int × Unit) → (Option Row → Prop) → Prop := fun y C => C (y.1.c.find? fun r => peq r.a y.2.1)
theorem fn_row_at {B : Bs} (D : DefAt B "row_at" s_row_at) : Fn B 1 "row_at" m_row_at := by
  refine def_ok (τ := Unit) (k := 0) (N := ["box", "number", "row"]) (ps := ["box", "number"]) (Γ := fun _ _ => List.replicate 3 none) D ⟨rfl, rfl, rfl, by decide +kernel, rfl, by decide +kernel, by decide +kernel⟩ (fun _ => rfl) (by decide +kernel) (fun _ _ _ _ _ _ us hl => match us, hl with | [_, _], _ => rfl) (fun y => ?_)
  obtain ⟨v_box, v_number, v__⟩ := y
  refine ⟨_, (blk_at [some (.fr (Enc.enc (v_box))), some (.fr (Enc.enc (v_number))), none] (blk_drop [2] (blk_cons (st_forU (fun (_ : Unit) S => S) () (src_list (ev_ixT (fun (x : (T4 Str Int (List (T4 Int Str (Tup Int) Int)) (List (Int × Int)))) => x.c) (2) (fun _ => ⟨_, rfl, rfl⟩) (ev_var (v := v_box) (i := 0)) ev_int)) (fun s2 => (tg_name (α := (T4 Int Str (Tup Int) Int)) 2)) (fun s2 x3 => (blk_at [some (.fr (Enc.enc (v_box))), some (.fr (Enc.enc (v_number))), some (.fr (Enc.enc (x3)))] (blk_cons (st_ifU (fun (s : Unit) S => S) (et_eq (ev_ixT (fun (x : (T4 Int Str (Tup Int) Int)) => x.a) (0) (fun _ => ⟨_, rfl, rfl⟩) (ev_var (v := x3) (i := 2)) ev_int) (ev_var (v := v_number) (i := 1))) (blk_last (st_ret (ev_some (ev_var (v := x3) (i := 2))))) (blk_nil ())) (fun v5 => (blk_drop [2] (blk_nil ()))))))) (fun s4 => (blk_at [some (.fr (Enc.enc (v_box))), some (.fr (Enc.enc (v_number))), none] (blk_last (st_ret (ev_none (α := (T4 Int Str (Tup Int) Int)))))))))), fun C hC => ?_⟩
  dsimp only [m_row_at] at hC ⊢
  refine forW_find (fun x : Row => peq x.a v_number) (fun x => some x) (fun x hx => ?_) (fun hx => ?_)
  · rw [hx] at hC
    exact hC
  · rw [hx] at hC
    exact hC

def m_with_boxes : (Stor × Int × Int × List Bx × Unit) → (Stor → Prop) → Prop := fun y C => C ⟨"store", y.2.1, y.2.2.1, srtK (fun b : Bx => b.a) y.2.2.2.1⟩
theorem fn_with_boxes {B : Bs} (D : DefAt B "with_boxes" s_with_boxes) (k_name_of : KeyFn B "name_of") (z_sorted : B.mg "sorted" = none) : Fn B 1 "with_boxes" m_with_boxes := by
  refine def_ok (τ := Unit) (k := 0) (N := ["store", "mark", "number", "boxes"]) (ps := ["store", "mark", "number", "boxes"]) (Γ := fun _ _ => List.replicate 4 none) D ⟨rfl, rfl, rfl, by decide +kernel, rfl, by decide +kernel, by decide +kernel⟩ (fun _ => rfl) (by decide +kernel) (fun _ _ _ _ _ _ us hl => match us, hl with | [_, _, _, _], _ => rfl) (fun y => ?_)
  obtain ⟨v_store, v_mark, v_number, v_boxes, v__⟩ := y
  refine ⟨_, (blk_at [some (.fr (Enc.enc (v_store))), some (.fr (Enc.enc (v_mark))), some (.fr (Enc.enc (v_number))), some (.fr (Enc.enc (v_boxes)))] (blk_last (st_ret (ev_tup (fun x => (T4.mk x.1 x.2.1 x.2.2.1 x.2.2.2.1)) (fun _ => rfl) (fun _ => Nat.le_of_ble_eq_true rfl) (ea_cons ev_str (ea_cons (ev_var (v := v_mark) (i := 1)) (ea_cons (ev_var (v := v_number) (i := 2)) (ea_cons (EN.ev (en_sortkey (fun (x : (T4 Str Int (List (T4 Int Str (Tup Int) Int)) (List (Int × Int)))) => x.a) (fun _ => ⟨_, rfl⟩) (EV.el (ev_var (v := v_boxes) (i := 3))) k_name_of z_sorted)) ea_nil)))))))), fun C hC => ?_⟩
  dsimp only at hC ⊢
  exact hC

def m_replaced : (Stor × Str × List Bx × Unit) → (List Bx → Prop) → Prop := fun y C => y.1.d.length + y.2.2.1.length < 1000 ∧ C ((y.1.d.filter fun b => !peq b.a y.2.1) ++ y.2.2.1)
theorem fn_replaced {B : Bs} (D : DefAt B "replaced" s_replaced) : Fn B 1 "replaced" m_replaced := by
  refine def_ok (τ := Unit) (k := 0) (N := ["store", "name", "others", "box"]) (ps := ["store", "name", "others"]) (Γ := fun _ _ => List.replicate 4 none) D ⟨rfl, rfl, rfl, by decide +kernel, rfl, by decide +kernel, by decide +kernel⟩ (fun _ => rfl) (by decide +kernel) (fun _ _ _ _ _ _ us hl => match us, hl with | [_, _, _], _ => rfl) (fun y => ?_)
  obtain ⟨v_store, v_name, v_others, v__⟩ := y
  refine ⟨_, (blk_at [some (.fr (Enc.enc (v_store))), some (.fr (Enc.enc (v_name))), some (.fr (Enc.enc (v_others))), none] (blk_last (st_ret (EN.ev (en_cat (EN.el (en_lc (own := [("box", 3)]) (srcc_list (EV.el (ev_ixT (fun (x : (T4 Str Int Int (List (T4 Str Int (List (T4 Int Str (Tup Int) Int)) (List (Int × Int)))))) => x.d) (3) (fun _ => ⟨_, rfl, rfl⟩) (ev_var (v := v_store) (i := 0)) ev_int))) (by exact rfl) (tg_name (α := (T4 Str Int (List (T4 Int Str (Tup Int) Int)) (List (Int × Int)))) 3) (by decide) (fun x1 => (ets_one (et_neF (ev_ixT (fun (x : (T4 Str Int (List (T4 Int Str (Tup Int) Int)) (List (Int × Int)))) => x.a) (0) (fun _ => ⟨_, rfl, rfl⟩) (ev_var (v := x1) (i := 3)) ev_int) (ev_var (v := v_name) (i := 1))))) (fun x1 => (ev_var (v := x1) (i := 3))))) (EV.el (ev_var (v := v_others) (i := 2)))))))), fun C hC => ?_⟩
  obtain ⟨h1, h2⟩ := hC
  dsimp only at h1 h2 ⊢
  refine lcW_filter (fun b : Bx => !peq b.a v_name) (fun _ _ _ h => h) (fun _ _ _ _ h => h) (by omega) ⟨szle ?_, h2⟩
  have := List.length_filter_le (fun b : Bx => !peq b.a v_name) v_store.d
  omega

def m_make : (Stor × Str × Unit) → ((Stor × T1 Str) → Prop) → Prop := fun y C => y.1.d.length < 1000 ∧ C (⟨"store", y.1.b + 1, y.1.c, srtK (fun b : Bx => b.a) (y.1.d ++ [⟨y.2.1, y.1.b + 1, [], []⟩])⟩, ⟨"done"⟩)
theorem fn_make {B : Bs} (D : DefAt B "make" s_make) (h_with_boxes : Fn B 1 "with_boxes" m_with_boxes) : Fn B 2 "make" m_make := by
  refine def_ok (τ := Unit) (k := 1) (N := ["store", "name", "mark"]) (ps := ["store", "name"]) (Γ := fun _ _ => List.replicate 3 none) D ⟨rfl, rfl, rfl, by decide +kernel, rfl, by decide +kernel, by decide +kernel⟩ (fun _ => rfl) (by decide +kernel) (fun _ _ _ _ _ _ us hl => match us, hl with | [_, _], _ => rfl) (fun y => ?_)
  obtain ⟨v_store, v_name, v__⟩ := y
  refine ⟨_, (blk_at [some (.fr (Enc.enc (v_store))), some (.fr (Enc.enc (v_name))), none] (blk_cons (st_set (α := Int) 2 (ev_add (ev_ixT (fun (x : (T4 Str Int Int (List (T4 Str Int (List (T4 Int Str (Tup Int) Int)) (List (Int × Int)))))) => x.b) (1) (fun _ => ⟨_, rfl, rfl⟩) (ev_var (v := v_store) (i := 0)) ev_int) ev_int)) (fun v1 => (blk_at [some (.fr (Enc.enc (v_store))), some (.fr (Enc.enc (v_name))), some (.fr (Enc.enc (v1)))] (blk_last (st_ret (ev_tup (fun x => (x.1, x.2.1)) (fun _ => rfl) (fun _ => Nat.le_of_ble_eq_true rfl) (ea_cons (ev_call h_with_boxes (Nat.le_of_ble_eq_true rfl) rfl (ea_cons (ev_var (v := v_store) (i := 0)) (ea_cons (ev_var (v := v1) (i := 2)) (ea_cons (ev_ixT (fun (x : (T4 Str Int Int (List (T4 Str Int (List (T4 Int Str (Tup Int) Int)) (List (Int × Int)))))) => x.c) (2) (fun _ => ⟨_, rfl, rfl⟩) (ev_var (v := v_store) (i := 0)) ev_int) (ea_cons (EN.ev (en_cat (EV.el (ev_ixT (fun (x : (T4 Str Int Int (List (T4 Str Int (List (T4 Int Str (Tup Int) Int)) (List (Int × Int)))))) => x.d) (3) (fun _ => ⟨_, rfl, rfl⟩) (ev_var (v := v_store) (i := 0)) ev_int)) (EN.el (en_lst (fun x => [x.1]) (fun _ => rfl) (fun _ => Nat.le_of_ble_eq_true rfl) (ea_cons (ev_tup (fun x => (T4.mk x.1 x.2.1 x.2.2.1 x.2.2.2.1)) (fun _ => rfl) (fun _ => Nat.le_of_ble_eq_true rfl) (ea_cons (ev_var (v := v_name) (i := 1)) (ea_cons (ev_var (v := v1) (i := 2)) (ea_cons (EN.ev (en_nil (α := (T4 Int Str (Tup Int) Int)))) (ea_cons (EN.ev (en_nil (α := (Int × Int)))) ea_nil))))) ea_nil))))) ea_nil))))) (ea_cons (ev_tup (fun x => (T1.mk x.1)) (fun _ => rfl) (fun _ => Nat.le_of_ble_eq_true rfl) (ea_cons ev_str ea_nil)) ea_nil))))))))), fun C hC => ?_⟩
  obtain ⟨h1, h2⟩ := hC
  dsimp only at h1 h2 ⊢
  exact ⟨szle (by show _ + 1 < _; omega), h2⟩

def m_add : (Stor × Bx × Str × Tup Int × Unit) → ((Stor × Str × Int) → Prop) → Prop := fun y C => y.1.d.length < 100 ∧ y.2.1.c.length < 1000 ∧
  C (⟨"store", y.1.b + 1, y.1.c + 1, srtK (fun b : Bx => b.a) ((y.1.d.filter fun b => !peq b.a y.2.1.a) ++ [⟨y.2.1.a, y.2.1.b, y.2.1.c ++ [⟨y.1.c, y.2.2.1, y.2.2.2.1, y.1.b + 1⟩], y.2.1.d⟩])⟩, "number", y.1.c)
theorem fn_add {B : Bs} (D : DefAt B "add" s_add) (h_replaced : Fn B 1 "replaced" m_replaced) (h_with_boxes : Fn B 1 "with_boxes" m_with_boxes) : Fn B 2 "add" m_add := by
  refine def_ok (τ := Unit) (k := 1) (N := ["store", "box", "told", "flags", "mark", "number", "other"]) (ps := ["store", "box", "told", "flags"]) (Γ := fun _ _ => List.replicate 7 none) D ⟨rfl, rfl, rfl, by decide +kernel, rfl, by decide +kernel, by decide +kernel⟩ (fun _ => rfl) (by decide +kernel) (fun _ _ _ _ _ _ us hl => match us, hl with | [_, _, _, _], _ => rfl) (fun y => ?_)
  obtain ⟨v_store, v_box, v_told, v_flags, v__⟩ := y
  refine ⟨_, (blk_at [some (.fr (Enc.enc (v_store))), some (.fr (Enc.enc (v_box))), some (.fr (Enc.enc (v_told))), some (.fr (Enc.enc (v_flags))), none, none, none] (blk_cons (st_par2 4 5 (ev_add (ev_ixT (fun (x : (T4 Str Int Int (List (T4 Str Int (List (T4 Int Str (Tup Int) Int)) (List (Int × Int)))))) => x.b) (1) (fun _ => ⟨_, rfl, rfl⟩) (ev_var (v := v_store) (i := 0)) ev_int) ev_int) (ev_ixT (fun (x : (T4 Str Int Int (List (T4 Str Int (List (T4 Int Str (Tup Int) Int)) (List (Int × Int)))))) => x.c) (2) (fun _ => ⟨_, rfl, rfl⟩) (ev_var (v := v_store) (i := 0)) ev_int)) (fun v1 => (blk_at [some (.fr (Enc.enc (v_store))), some (.fr (Enc.enc (v_box))), some (.fr (Enc.enc (v_told))), some (.fr (Enc.enc (v_flags))), some (.fr (Enc.enc (v1.1))), some (.fr (Enc.enc (v1.2))), none] (blk_cons (st_set (α := (T4 Str Int (List (T4 Int Str (Tup Int) Int)) (List (Int × Int)))) 6 (ev_catT (fun (x : (Str × Int)) (y : ((List (T4 Int Str (Tup Int) Int)) × (List (Int × Int)))) => (T4.mk x.1 x.2 y.1 y.2)) (fun _ _ => ⟨_, _, rfl, rfl, List.cons_ne_nil _ _, List.cons_ne_nil _ _, rfl⟩) (ev_sliceT (fun (x : (T4 Str Int (List (T4 Int Str (Tup Int) Int)) (List (Int × Int)))) => (x.a, x.b)) (ev_var (v := v_box) (i := 1)) eo_none (eo_some ev_int) (fun _ => ⟨_, rfl, show ¬(HT.sIx 4 0 none = 0 ∧ HT.sIx 4 4 (some 2) = 4) by decide, rfl⟩)) (ev_tup (fun x => (x.1, x.2.1)) (fun _ => rfl) (fun _ => Nat.le_of_ble_eq_true rfl) (ea_cons (EN.ev (en_cat (EV.el (ev_ixT (fun (x : (T4 Str Int (List (T4 Int Str (Tup Int) Int)) (List (Int × Int)))) => x.c) (2) (fun _ => ⟨_, rfl, rfl⟩) (ev_var (v := v_box) (i := 1)) ev_int)) (EN.el (en_lst (fun x => [x.1]) (fun _ => rfl) (fun _ => Nat.le_of_ble_eq_true rfl) (ea_cons (ev_tup (fun x => (T4.mk x.1 x.2.1 x.2.2.1 x.2.2.2.1)) (fun _ => rfl) (fun _ => Nat.le_of_ble_eq_true rfl) (ea_cons (ev_var (v := v1.2) (i := 5)) (ea_cons (ev_var (v := v_told) (i := 2)) (ea_cons (ev_var (v := v_flags) (i := 3)) (ea_cons (ev_var (v := v1.1) (i := 4)) ea_nil))))) ea_nil))))) (ea_cons (ev_ixT (fun (x : (T4 Str Int (List (T4 Int Str (Tup Int) Int)) (List (Int × Int)))) => x.d) (3) (fun _ => ⟨_, rfl, rfl⟩) (ev_var (v := v_box) (i := 1)) ev_int) ea_nil))) (hl := fun _ _ _ _ h1 h2 => by cases h1; cases h2; exact Nat.le_of_ble_eq_true rfl))) (fun v2 => (blk_at [some (.fr (Enc.enc (v_store))), some (.fr (Enc.enc (v_box))), some (.fr (Enc.enc (v_told))), some (.fr (Enc.enc (v_flags))), some (.fr (Enc.enc (v1.1))), some (.fr (Enc.enc (v1.2))), some (.fr (Enc.enc (v2)))] (blk_last (st_ret (ev_tup (fun x => (x.1, x.2.1)) (fun _ => rfl) (fun _ => Nat.le_of_ble_eq_true rfl) (ea_cons (ev_call h_with_boxes (Nat.le_of_ble_eq_true rfl) rfl (ea_cons (ev_var (v := v_store) (i := 0)) (ea_cons (ev_var (v := v1.1) (i := 4)) (ea_cons (ev_add (ev_var (v := v1.2) (i := 5)) ev_int) (ea_cons (ev_call h_replaced (Nat.le_of_ble_eq_true rfl) rfl (ea_cons (ev_var (v := v_store) (i := 0)) (ea_cons (ev_ixT (fun (x : (T4 Str Int (List (T4 Int Str (Tup Int) Int)) (List (Int × Int)))) => x.a) (0) (fun _ => ⟨_, rfl, rfl⟩) (ev_var (v := v_box) (i := 1)) ev_int) (ea_cons (EN.ev (en_lst (fun x => [x.1]) (fun _ => rfl) (fun _ => Nat.le_of_ble_eq_true rfl) (ea_cons (ev_var (v := v2) (i := 6)) ea_nil))) ea_nil)))) ea_nil))))) (ea_cons (ev_tup (fun x => (x.1, x.2.1)) (fun _ => rfl) (fun _ => Nat.le_of_ble_eq_true rfl) (ea_cons ev_str (ea_cons (ev_var (v := v1.2) (i := 5)) ea_nil))) ea_nil)))))))))))), fun C hC => ?_⟩
  obtain ⟨h1, h2, h3⟩ := hC
  dsimp only at h1 h2 h3 ⊢
  exact ⟨szle (by show _ + 1 < _; omega), by show v_store.d.length + 1 < 1000; omega, h3⟩

def m_check_deed_make : ((Str × Str) × Unit) → (Unit → Prop) → Prop := fun y C => y.1.1 ≠ "flag" ∧ y.1.1 ≠ "unflag" ∧ y.1.1 ≠ "add" ∧ C ()
theorem fn_check_deed_make {B : Bs} (D : DefAt B "check_deed" s_check_deed) : Fn B 1 "check_deed" m_check_deed_make := by
  refine def_ok (τ := Unit) (k := 0) (N := ["deed", "flag"]) (ps := ["deed"]) (Γ := fun _ _ => List.replicate 2 none) D ⟨rfl, rfl, rfl, by decide +kernel, rfl, by decide +kernel, by decide +kernel⟩ (fun _ => rfl) (by decide +kernel) (fun _ _ _ _ _ _ us hl => match us, hl with | [_], _ => rfl) (fun y => ?_)
  obtain ⟨v_deed, v__⟩ := y
  refine ⟨_, (blk_at [some (.fr (Enc.enc (v_deed))), none] (blk_cons (st_ifU (fun (s : Unit) S => S) (EW.et (ew_and (et_inT (fun t => [t.1, t.2]) (fun _ => rfl) (ev_ixT (fun (x : (Str × Str)) => x.1) (0) (fun _ => ⟨_, rfl, rfl⟩) (ev_var (v := v_deed) (i := 0)) ev_int) (ev_tup (fun x => (x.1, x.2.1)) (fun _ => rfl) (fun _ => Nat.le_of_ble_eq_true rfl) (ea_cons ev_str (ea_cons ev_str ea_nil)))) (ew_and1 et_never))) blk_never (blk_nil ())) (fun v1 => (blk_at [some (.fr (Enc.enc (v_deed))), none] (blk_cons (st_ifU (fun (s : Unit) S => S) (EW.et (ew_and (et_eqF (ev_ixT (fun (x : (Str × Str)) => x.1) (0) (fun _ => ⟨_, rfl, rfl⟩) (ev_var (v := v_deed) (i := 0)) ev_int) ev_str) (ew_and1 et_never))) blk_never (blk_nil ())) (fun v2 => (blk_dropall (blk_nil ())))))))), fun C hC => ?_⟩
  obtain ⟨h1, h2, h3, h4⟩ := hC
  dsimp only at h1 h2 h3 h4 ⊢
  rw [if_neg (by rw [pin_iff]; simp [h1, h2]), if_neg (by decide)]
  rw [if_neg (by rw [peq_iff]; exact h3), if_neg (by decide)]
  exact ⟨(), rfl, h4⟩

def m_check_deed_add : (T4 Str Str Str (List Int) × Unit) → (Unit → Prop) → Prop := fun y C => y.1.a ≠ "flag" ∧ y.1.a ≠ "unflag" ∧ y.1.d = [] ∧ C ()
theorem fn_check_deed_add {B : Bs} (D : DefAt B "check_deed" s_check_deed) (c_FLAGS : ConstAt B "FLAGS" cv_FLAGS) (z_all : B.mg "all" = none) : Fn B 1 "check_deed" m_check_deed_add := by
  refine def_ok (τ := Unit) (k := 0) (N := ["deed", "flag"]) (ps := ["deed"]) (Γ := fun _ _ => List.replicate 2 none) D ⟨rfl, rfl, rfl, by decide +kernel, rfl, by decide +kernel, by decide +kernel⟩ (fun _ => rfl) (by decide +kernel) (fun _ _ _ _ _ _ us hl => match us, hl with | [_], _ => rfl) (fun y => ?_)
  obtain ⟨v_deed, v__⟩ := y
  refine ⟨_, (blk_at [some (.fr (Enc.enc (v_deed))), none] (blk_cons (st_ifU (fun (s : Unit) S => S) (EW.et (ew_and (et_inT (fun t => [t.1, t.2]) (fun _ => rfl) (ev_ixT (fun (x : (T4 Str Str Str (List Int))) => x.a) (0) (fun _ => ⟨_, rfl, rfl⟩) (ev_var (v := v_deed) (i := 0)) ev_int) (ev_tup (fun x => (x.1, x.2.1)) (fun _ => rfl) (fun _ => Nat.le_of_ble_eq_true rfl) (ea_cons ev_str (ea_cons ev_str ea_nil)))) (ew_and1 et_never))) blk_never (blk_nil ())) (fun v1 => (blk_at [some (.fr (Enc.enc (v_deed))), none] (blk_cons (st_ifU (fun (s : Unit) S => S) (EW.et (ew_and (et_eqF (ev_ixT (fun (x : (T4 Str Str Str (List Int))) => x.a) (0) (fun _ => ⟨_, rfl, rfl⟩) (ev_var (v := v_deed) (i := 0)) ev_int) ev_str) (ew_and1 (et_not (et_val (ev_all (EN.el (en_lc (own := [("flag", 1)]) (srcc_list (EV.el (ev_ixT (fun (x : (T4 Str Str Str (List Int))) => x.d) (3) (fun _ => ⟨_, rfl, rfl⟩) (ev_var (v := v_deed) (i := 0)) ev_int))) (by exact rfl) (tg_name (α := Int) 1) (by decide) (fun x4 => ets_nil) (fun x4 => (ev_inT (fun t => [t.a, t.b, t.c, t.d]) (fun _ => rfl) (ev_var (v := x4) (i := 1)) (ev_const c_FLAGS))))) (hm := z_all))))))) blk_never (blk_nil ())) (fun v6 => (blk_dropall (blk_nil ())))))))), fun C hC => ?_⟩
  obtain ⟨h1, h2, h3, h4⟩ := hC
  dsimp only at h1 h2 h3 h4 ⊢
  rw [if_neg (by rw [pin_iff]; simp [h1, h2]), if_neg (by decide)]
  rw [h3]
  by_cases h : peq v_deed.a (Str.ofString "add") = true
  · rw [if_pos h]
    show (if (!([] : List Bool).all id) = true then False else _)
    rw [if_neg (by decide)]
    exact ⟨(), rfl, h4⟩
  · rw [if_neg h, if_neg (by decide)]
    exact ⟨(), rfl, h4⟩

def m_check_deed_rem : (T3 Str Str Int × Unit) → (Unit → Prop) → Prop := fun y C => y.1.a ≠ "flag" ∧ y.1.a ≠ "unflag" ∧ y.1.a ≠ "add" ∧ C ()
theorem fn_check_deed_rem {B : Bs} (D : DefAt B "check_deed" s_check_deed) : Fn B 1 "check_deed" m_check_deed_rem := by
  refine def_ok (τ := Unit) (k := 0) (N := ["deed", "flag"]) (ps := ["deed"]) (Γ := fun _ _ => List.replicate 2 none) D ⟨rfl, rfl, rfl, by decide +kernel, rfl, by decide +kernel, by decide +kernel⟩ (fun _ => rfl) (by decide +kernel) (fun _ _ _ _ _ _ us hl => match us, hl with | [_], _ => rfl) (fun y => ?_)
  obtain ⟨v_deed, v__⟩ := y
  refine ⟨_, (blk_at [some (.fr (Enc.enc (v_deed))), none] (blk_cons (st_ifU (fun (s : Unit) S => S) (EW.et (ew_and (et_inT (fun t => [t.1, t.2]) (fun _ => rfl) (ev_ixT (fun (x : (T3 Str Str Int)) => x.a) (0) (fun _ => ⟨_, rfl, rfl⟩) (ev_var (v := v_deed) (i := 0)) ev_int) (ev_tup (fun x => (x.1, x.2.1)) (fun _ => rfl) (fun _ => Nat.le_of_ble_eq_true rfl) (ea_cons ev_str (ea_cons ev_str ea_nil)))) (ew_and1 et_never))) blk_never (blk_nil ())) (fun v1 => (blk_at [some (.fr (Enc.enc (v_deed))), none] (blk_cons (st_ifU (fun (s : Unit) S => S) (EW.et (ew_and (et_eqF (ev_ixT (fun (x : (T3 Str Str Int)) => x.a) (0) (fun _ => ⟨_, rfl, rfl⟩) (ev_var (v := v_deed) (i := 0)) ev_int) ev_str) (ew_and1 et_never))) blk_never (blk_nil ())) (fun v2 => (blk_dropall (blk_nil ())))))))), fun C hC => ?_⟩
  obtain ⟨h1, h2, h3, h4⟩ := hC
  dsimp only at h1 h2 h3 h4 ⊢
  rw [if_neg (by rw [pin_iff]; simp [h1, h2]), if_neg (by decide)]
  rw [if_neg (by rw [peq_iff]; exact h3), if_neg (by decide)]
  exact ⟨(), rfl, h4⟩

def m_check_deed_move : (T4 Str Str Int Str × Unit) → (Unit → Prop) → Prop := fun y C => y.1.a ≠ "flag" ∧ y.1.a ≠ "unflag" ∧ y.1.a ≠ "add" ∧ C ()
theorem fn_check_deed_move {B : Bs} (D : DefAt B "check_deed" s_check_deed) (c_FLAGS : ConstAt B "FLAGS" cv_FLAGS) : Fn B 1 "check_deed" m_check_deed_move := by
  refine def_ok (τ := Unit) (k := 0) (N := ["deed", "flag"]) (ps := ["deed"]) (Γ := fun _ _ => List.replicate 2 none) D ⟨rfl, rfl, rfl, by decide +kernel, rfl, by decide +kernel, by decide +kernel⟩ (fun _ => rfl) (by decide +kernel) (fun _ _ _ _ _ _ us hl => match us, hl with | [_], _ => rfl) (fun y => ?_)
  obtain ⟨v_deed, v__⟩ := y
  refine ⟨_, (blk_at [some (.fr (Enc.enc (v_deed))), none] (blk_cons (st_ifU (fun (s : Unit) S => S) (EW.et (ew_and (et_inT (fun t => [t.1, t.2]) (fun _ => rfl) (ev_ixT (fun (x : (T4 Str Str Int Str)) => x.a) (0) (fun _ => ⟨_, rfl, rfl⟩) (ev_var (v := v_deed) (i := 0)) ev_int) (ev_tup (fun x => (x.1, x.2.1)) (fun _ => rfl) (fun _ => Nat.le_of_ble_eq_true rfl) (ea_cons ev_str (ea_cons ev_str ea_nil)))) (ew_and1 (et_notinT (fun t => [t.a, t.b, t.c, t.d]) (fun _ => rfl) (ev_ixT (fun (x : (T4 Str Str Int Str)) => x.d) (3) (fun _ => ⟨_, rfl, rfl⟩) (ev_var (v := v_deed) (i := 0)) ev_int) (ev_const c_FLAGS))))) blk_never (blk_nil ())) (fun v1 => (blk_at [some (.fr (Enc.enc (v_deed))), none] (blk_cons (st_ifU (fun (s : Unit) S => S) (EW.et (ew_and (et_eqF (ev_ixT (fun (x : (T4 Str Str Int Str)) => x.a) (0) (fun _ => ⟨_, rfl, rfl⟩) (ev_var (v := v_deed) (i := 0)) ev_int) ev_str) (ew_and1 et_never))) blk_never (blk_nil ())) (fun v2 => (blk_dropall (blk_nil ())))))))), fun C hC => ?_⟩
  obtain ⟨h1, h2, h3, h4⟩ := hC
  dsimp only at h1 h2 h3 h4 ⊢
  rw [if_neg (by rw [pin_iff]; simp [h1, h2]), if_neg (by decide)]
  rw [if_neg (by rw [peq_iff]; exact h3), if_neg (by decide)]
  exact ⟨(), rfl, h4⟩

def m_carry_rem : (Stor × Bx × Row × T3 Str Str Int × Unit) → ((Stor × T1 Str) → Prop) → Prop := fun y C => y.2.2.2.1.a = "remove" ∧ y.1.d.length < 100 ∧ y.2.1.c.length < 1000 ∧ y.2.1.d.length < 1000 ∧
  C (⟨"store", y.1.b + 1, y.1.c, srtK (fun b : Bx => b.a) ((y.1.d.filter fun b => !peq b.a y.2.1.a) ++ [⟨y.2.1.a, y.2.1.b, kept y.2.2.1.a y.2.1.c, y.2.1.d ++ [(y.1.b + 1, y.2.2.1.a)]⟩])⟩, ⟨"done"⟩)
theorem fn_carry_rem {B : Bs} (D : DefAt B "carry" s_carry) (h_replaced : Fn B 1 "replaced" m_replaced) (h_with_boxes : Fn B 1 "with_boxes" m_with_boxes) : Fn B 2 "carry" m_carry_rem := by
  refine def_ok (τ := Unit) (k := 1) (N := ["store", "box", "row", "deed", "mark", "number", "boxes", "rows", "goal", "one"]) (ps := ["store", "box", "row", "deed"]) (Γ := fun _ _ => List.replicate 10 none) D ⟨rfl, rfl, rfl, by decide +kernel, rfl, by decide +kernel, by decide +kernel⟩ (fun _ => rfl) (by decide +kernel) (fun _ _ _ _ _ _ us hl => match us, hl with | [_, _, _, _], _ => rfl) (fun y => ?_)
  obtain ⟨v_store, v_box, v_row, v_deed, v__⟩ := y
  refine ⟨_, (blk_at [some (.fr (Enc.enc (v_store))), some (.fr (Enc.enc (v_box))), some (.fr (Enc.enc (v_row))), some (.fr (Enc.enc (v_deed))), none, none, none, none, none, none] (blk_cons (st_par2 4 5 (ev_add (ev_ixT (fun (x : (T4 Str Int Int (List (T4 Str Int (List (T4 Int Str (Tup Int) Int)) (List (Int × Int)))))) => x.b) (1) (fun _ => ⟨_, rfl, rfl⟩) (ev_var (v := v_store) (i := 0)) ev_int) ev_int) (ev_ixT (fun (x : (T4 Str Int Int (List (T4 Str Int (List (T4 Int Str (Tup Int) Int)) (List (Int × Int)))))) => x.c) (2) (fun _ => ⟨_, rfl, rfl⟩) (ev_var (v := v_store) (i := 0)) ev_int)) (fun v1 => (blk_at [some (.fr (Enc.enc (v_store))), some (.fr (Enc.enc (v_box))), some (.fr (Enc.enc (v_row))), some (.fr (Enc.enc (v_deed))), some (.fr (Enc.enc (v1.1))), some (.fr (Enc.enc (v1.2))), none, none, none, none] (blk_cons (st_set (α := (List (T4 Str Int (List (T4 Int Str (Tup Int) Int)) (List (Int × Int))))) 6 (ev_ixT (fun (x : (T4 Str Int Int (List (T4 Str Int (List (T4 Int Str (Tup Int) Int)) (List (Int × Int)))))) => x.d) (3) (fun _ => ⟨_, rfl, rfl⟩) (ev_var (v := v_store) (i := 0)) ev_int)) (fun v2 => (blk_at [some (.fr (Enc.enc (v_store))), some (.fr (Enc.enc (v_box))), some (.fr (Enc.enc (v_row))), some (.fr (Enc.enc (v_deed))), some (.fr (Enc.enc (v1.1))), some (.fr (Enc.enc (v1.2))), some (.fr (Enc.enc (v2))), none, none, none] (blk_cons (st_ifU (fun (s : (List (T4 Str Int (List (T4 Int Str (Tup Int) Int)) (List (Int × Int))))) S => (List.set (List.set S 7 none) 6 (some (.fr (Enc.enc (s)))))) (et_inT (fun t => [t.1, t.2]) (fun _ => rfl) (ev_ixT (fun (x : (T3 Str Str Int)) => x.a) (0) (fun _ => ⟨_, rfl, rfl⟩) (ev_var (v := v_deed) (i := 3)) ev_int) (ev_tup (fun x => (x.1, x.2.1)) (fun _ => rfl) (fun _ => Nat.le_of_ble_eq_true rfl) (ea_cons ev_str (ea_cons ev_str ea_nil)))) (blk_cons (st_setLc 7 (own := [("one", 9)]) (srcc_list (EV.el (ev_ixT (fun (x : (T4 Str Int (List (T4 Int Str (Tup Int) Int)) (List (Int × Int)))) => x.c) (2) (fun _ => ⟨_, rfl, rfl⟩) (ev_var (v := v_box) (i := 1)) ev_int))) (by exact rfl) (tg_name (α := (T4 Int Str (Tup Int) Int)) 9) (by decide) (fun x7 => (ets_one (et_ne (ev_ixT (fun (x : (T4 Int Str (Tup Int) Int)) => x.a) (0) (fun _ => ⟨_, rfl, rfl⟩) (ev_var (v := x7) (i := 9)) ev_int) (ev_ixT (fun (x : (T4 Int Str (Tup Int) Int)) => x.a) (0) (fun _ => ⟨_, rfl, rfl⟩) (ev_var (v := v_row) (i := 2)) ev_int)))) (fun x7 => (ev_var (v := x7) (i := 9)))) (fun v9 => (blk_freeze (α := (T4 Int Str (Tup Int) Int)) (v := v9) 7 (hb := (blk_at [some (.fr (Enc.enc (v_store))), some (.fr (Enc.enc (v_box))), some (.fr (Enc.enc (v_row))), some (.fr (Enc.enc (v_deed))), some (.fr (Enc.enc (v1.1))), some (.fr (Enc.enc (v1.2))), some (.fr (Enc.enc (v2))), some (.fr (Enc.enc (v9))), none, none] (blk_cons (st_set (α := (List (T4 Str Int (List (T4 Int Str (Tup Int) Int)) (List (Int × Int))))) 6 (ev_call h_replaced (Nat.le_of_ble_eq_true rfl) rfl (ea_cons (ev_var (v := v_store) (i := 0)) (ea_cons (ev_ixT (fun (x : (T4 Str Int (List (T4 Int Str (Tup Int) Int)) (List (Int × Int)))) => x.a) (0) (fun _ => ⟨_, rfl, rfl⟩) (ev_var (v := v_box) (i := 1)) ev_int) (ea_cons (EN.ev (en_lst (fun x => [x.1]) (fun _ => rfl) (fun _ => Nat.le_of_ble_eq_true rfl) (ea_cons (ev_catT (fun (x : (Str × Int)) (y : ((List (T4 Int Str (Tup Int) Int)) × (List (Int × Int)))) => (T4.mk x.1 x.2 y.1 y.2)) (fun _ _ => ⟨_, _, rfl, rfl, List.cons_ne_nil _ _, List.cons_ne_nil _ _, rfl⟩) (ev_sliceT (fun (x : (T4 Str Int (List (T4 Int Str (Tup Int) Int)) (List (Int × Int)))) => (x.a, x.b)) (ev_var (v := v_box) (i := 1)) eo_none (eo_some ev_int) (fun _ => ⟨_, rfl, show ¬(HT.sIx 4 0 none = 0 ∧ HT.sIx 4 4 (some 2) = 4) by decide, rfl⟩)) (ev_tup (fun x => (x.1, x.2.1)) (fun _ => rfl) (fun _ => Nat.le_of_ble_eq_true rfl) (ea_cons (ev_var (v := v9) (i := 7)) (ea_cons (EN.ev (en_cat (EV.el (ev_ixT (fun (x : (T4 Str Int (List (T4 Int Str (Tup Int) Int)) (List (Int × Int)))) => x.d) (3) (fun _ => ⟨_, rfl, rfl⟩) (ev_var (v := v_box) (i := 1)) ev_int)) (EN.el (en_lst (fun x => [x.1]) (fun _ => rfl) (fun _ => Nat.le_of_ble_eq_true rfl) (ea_cons (ev_tup (fun x => (x.1, x.2.1)) (fun _ => rfl) (fun _ => Nat.le_of_ble_eq_true rfl) (ea_cons (ev_var (v := v1.1) (i := 4)) (ea_cons (ev_ixT (fun (x : (T4 Int Str (Tup Int) Int)) => x.a) (0) (fun _ => ⟨_, rfl, rfl⟩) (ev_var (v := v_row) (i := 2)) ev_int) ea_nil))) ea_nil))))) ea_nil))) (hl := fun _ _ _ _ h1 h2 => by cases h1; cases h2; exact Nat.le_of_ble_eq_true rfl)) ea_nil))) ea_nil))))) (fun v10 => (blk_drop [7] (blk_nil v10))))))))) (blk_drop [7] (blk_nil v2))) (fun v11 => (blk_at [some (.fr (Enc.enc (v_store))), some (.fr (Enc.enc (v_box))), some (.fr (Enc.enc (v_row))), some (.fr (Enc.enc (v_deed))), some (.fr (Enc.enc (v1.1))), some (.fr (Enc.enc (v1.2))), some (.fr (Enc.enc (v11))), none, none, none] (blk_cons (st_ifU (fun (s : Unit) S => S) (et_eqF (ev_ixT (fun (x : (T3 Str Str Int)) => x.a) (0) (fun _ => ⟨_, rfl, rfl⟩) (ev_var (v := v_deed) (i := 3)) ev_int) ev_str) (blk_last (st_ret (ev_tup (fun x => (x.1, x.2.1)) (fun _ => rfl) (fun _ => Nat.le_of_ble_eq_true rfl) (ea_cons (ev_call h_with_boxes (Nat.le_of_ble_eq_true rfl) rfl (ea_cons (ev_var (v := v_store) (i := 0)) (ea_cons (ev_var (v := v1.1) (i := 4)) (ea_cons (ev_var (v := v1.2) (i := 5)) (ea_cons (ev_var (v := v11) (i := 6)) ea_nil))))) (ea_cons (ev_tup (fun x => (T1.mk x.1)) (fun _ => rfl) (fun _ => Nat.le_of_ble_eq_true rfl) (ea_cons ev_str ea_nil)) ea_nil))))) (blk_nil ())) (fun v12 => blk_never)))))))))))), fun C hC => ?_⟩
  obtain ⟨h0, h1, h2, h3, h4⟩ := hC
  dsimp only at h0 h1 h2 h3 h4 ⊢
  rw [if_pos (by rw [pin_iff]; simp [h0])]
  refine lcW_filter (fun r : Row => !peq r.a v_row.a) (fun _ _ _ h => h) (fun _ _ _ _ h => h) (by omega) ⟨szle (by show _ + 1 < _; omega), by show v_store.d.length + 1 < 1000; omega, ?_⟩
  dsimp only
  rw [if_pos (by rw [peq_iff]; exact h0)]
  exact h4

/-- what is moved or copied: the boxes behind the taking away, then behind the laying -/
def away (y : Stor × Bx × Row × T4 Str Str Int Str × Unit) : List Bx := if peq y.2.2.2.1.a (Str.ofString "move") = true then (y.1.d.filter fun b => !peq b.a y.2.1.a) ++ [⟨y.2.1.a, y.2.1.b, kept y.2.2.1.a y.2.1.c, y.2.1.d ++ [(y.1.b + 1, y.2.2.1.a)]⟩] else y.1.d
def m_carry_move : (Stor × Bx × Row × T4 Str Str Int Str × Unit) → ((Stor × Str × Int) → Prop) → Prop := fun y C => (y.2.2.2.1.a = "move" ∨ y.2.2.2.1.a = "copy") ∧ y.1.d.length < 100 ∧ y.2.1.c.length < 1000 ∧ y.2.1.d.length < 1000 ∧
  ∃ goal, atI ((away y).filter fun b => peq b.a y.2.2.2.1.d) 0 = some goal ∧ goal.c.length < 1000 ∧ C (⟨"store", y.1.b + 1, y.1.c + 1, srtK (fun b : Bx => b.a) (((away y).filter fun b => !peq b.a goal.a) ++ [⟨goal.a, goal.b, goal.c ++ [⟨y.1.c, y.2.2.1.b, y.2.2.1.c, y.1.b + 1⟩], goal.d⟩])⟩, "number", y.1.c)
theorem fn_carry_move {B : Bs} (D : DefAt B "carry" s_carry) (h_replaced : Fn B 1 "replaced" m_replaced) (h_with_boxes : Fn B 1 "with_boxes" m_with_boxes) : Fn B 2 "carry" m_carry_move := by
  refine def_ok (τ := Unit) (k := 1) (N := ["store", "box", "row", "deed", "mark", "number", "boxes", "rows", "goal", "one"]) (ps := ["store", "box", "row", "deed"]) (Γ := fun _ _ => List.replicate 10 none) D ⟨rfl, rfl, rfl, by decide +kernel, rfl, by decide +kernel, by decide +kernel⟩ (fun _ => rfl) (by decide +kernel) (fun _ _ _ _ _ _ us hl => match us, hl with | [_, _, _, _], _ => rfl) (fun y => ?_)
  obtain ⟨v_store, v_box, v_row, v_deed, v__⟩ := y
  refine ⟨_, (blk_at [some (.fr (Enc.enc (v_store))), some (.fr (Enc.enc (v_box))), some (.fr (Enc.enc (v_row))), some (.fr (Enc.enc (v_deed))), none, none, none, none, none, none] (blk_cons (st_par2 4 5 (ev_add (ev_ixT (fun (x : (T4 Str Int Int (List (T4 Str Int (List (T4 Int Str (Tup Int) Int)) (List (Int × Int)))))) => x.b) (1) (fun _ => ⟨_, rfl, rfl⟩) (ev_var (v := v_store) (i := 0)) ev_int) ev_int) (ev_ixT (fun (x : (T4 Str Int Int (List (T4 Str Int (List (T4 Int Str (Tup Int) Int)) (List (Int × Int)))))) => x.c) (2) (fun _ => ⟨_, rfl, rfl⟩) (ev_var (v := v_store) (i := 0)) ev_int)) (fun v1 => (blk_at [some (.fr (Enc.enc (v_store))), some (.fr (Enc.enc (v_box))), some (.fr (Enc.enc (v_row))), some (.fr (Enc.enc (v_deed))), some (.fr (Enc.enc (v1.1))), some (.fr (Enc.enc (v1.2))), none, none, none, none] (blk_cons (st_set (α := (List (T4 Str Int (List (T4 Int Str (Tup Int) Int)) (List (Int × Int))))) 6 (ev_ixT (fun (x : (T4 Str Int Int (List (T4 Str Int (List (T4 Int Str (Tup Int) Int)) (List (Int × Int)))))) => x.d) (3) (fun _ => ⟨_, rfl, rfl⟩) (ev_var (v := v_store) (i := 0)) ev_int)) (fun v2 => (blk_at [some (.fr (Enc.enc (v_store))), some (.fr (Enc.enc (v_box))), some (.fr (Enc.enc (v_row))), some (.fr (Enc.enc (v_deed))), some (.fr (Enc.enc (v1.1))), some (.fr (Enc.enc (v1.2))), some (.fr (Enc.enc (v2))), none, none, none] (blk_cons (st_ifU (fun (s : (List (T4 Str Int (List (T4 Int Str (Tup Int) Int)) (List (Int × Int))))) S => (List.set (List.set S 7 none) 6 (some (.fr (Enc.enc (s)))))) (et_inT (fun t => [t.1, t.2]) (fun _ => rfl) (ev_ixT (fun (x : (T4 Str Str Int Str)) => x.a) (0) (fun _ => ⟨_, rfl, rfl⟩) (ev_var (v := v_deed) (i := 3)) ev_int) (ev_tup (fun x => (x.1, x.2.1)) (fun _ => rfl) (fun _ => Nat.le_of_ble_eq_true rfl) (ea_cons ev_str (ea_cons ev_str ea_nil)))) (blk_cons (st_setLc 7 (own := [("one", 9)]) (srcc_list (EV.el (ev_ixT (fun (x : (T4 Str Int (List (T4 Int Str (Tup Int) Int)) (List (Int × Int)))) => x.c) (2) (fun _ => ⟨_, rfl, rfl⟩) (ev_var (v := v_box) (i := 1)) ev_int))) (by exact rfl) (tg_name (α := (T4 Int Str (Tup Int) Int)) 9) (by decide) (fun x7 => (ets_one (et_ne (ev_ixT (fun (x : (T4 Int Str (Tup Int) Int)) => x.a) (0) (fun _ => ⟨_, rfl, rfl⟩) (ev_var (v := x7) (i := 9)) ev_int) (ev_ixT (fun (x : (T4 Int Str (Tup Int) Int)) => x.a) (0) (fun _ => ⟨_, rfl, rfl⟩) (ev_var (v := v_row) (i := 2)) ev_int)))) (fun x7 => (ev_var (v := x7) (i := 9)))) (fun v9 => (blk_freeze (α := (T4 Int Str (Tup Int) Int)) (v := v9) 7 (hb := (blk_at [some (.fr (Enc.enc (v_store))), some (.fr (Enc.enc (v_box))), some (.fr (Enc.enc (v_row))), some (.fr (Enc.enc (v_deed))), some (.fr (Enc.enc (v1.1))), some (.fr (Enc.enc (v1.2))), some (.fr (Enc.enc (v2))), some (.fr (Enc.enc (v9))), none, none] (blk_cons (st_set (α := (List (T4 Str Int (List (T4 Int Str (Tup Int) Int)) (List (Int × Int))))) 6 (ev_call h_replaced (Nat.le_of_ble_eq_true rfl) rfl (ea_cons (ev_var (v := v_store) (i := 0)) (ea_cons (ev_ixT (fun (x : (T4 Str Int (List (T4 Int Str (Tup Int) Int)) (List (Int × Int)))) => x.a) (0) (fun _ => ⟨_, rfl, rfl⟩) (ev_var (v := v_box) (i := 1)) ev_int) (ea_cons (EN.ev (en_lst (fun x => [x.1]) (fun _ => rfl) (fun _ => Nat.le_of_ble_eq_true rfl) (ea_cons (ev_catT (fun (x : (Str × Int)) (y : ((List (T4 Int Str (Tup Int) Int)) × (List (Int × Int)))) => (T4.mk x.1 x.2 y.1 y.2)) (fun _ _ => ⟨_, _, rfl, rfl, List.cons_ne_nil _ _, List.cons_ne_nil _ _, rfl⟩) (ev_sliceT (fun (x : (T4 Str Int (List (T4 Int Str (Tup Int) Int)) (List (Int × Int)))) => (x.a, x.b)) (ev_var (v := v_box) (i := 1)) eo_none (eo_some ev_int) (fun _ => ⟨_, rfl, show ¬(HT.sIx 4 0 none = 0 ∧ HT.sIx 4 4 (some 2) = 4) by decide, rfl⟩)) (ev_tup (fun x => (x.1, x.2.1)) (fun _ => rfl) (fun _ => Nat.le_of_ble_eq_true rfl) (ea_cons (ev_var (v := v9) (i := 7)) (ea_cons (EN.ev (en_cat (EV.el (ev_ixT (fun (x : (T4 Str Int (List (T4 Int Str (Tup Int) Int)) (List (Int × Int)))) => x.d) (3) (fun _ => ⟨_, rfl, rfl⟩) (ev_var (v := v_box) (i := 1)) ev_int)) (EN.el (en_lst (fun x => [x.1]) (fun _ => rfl) (fun _ => Nat.le_of_ble_eq_true rfl) (ea_cons (ev_tup (fun x => (x.1, x.2.1)) (fun _ => rfl) (fun _ => Nat.le_of_ble_eq_true rfl) (ea_cons (ev_var (v := v1.1) (i := 4)) (ea_cons (ev_ixT (fun (x : (T4 Int Str (Tup Int) Int)) => x.a) (0) (fun _ => ⟨_, rfl, rfl⟩) (ev_var (v := v_row) (i := 2)) ev_int) ea_nil))) ea_nil))))) ea_nil))) (hl := fun _ _ _ _ h1 h2 => by cases h1; cases h2; exact Nat.le_of_ble_eq_true rfl)) ea_nil))) ea_nil))))) (fun v10 => (blk_drop [7] (blk_nil v10))))))))) (blk_drop [7] (blk_nil v2))) (fun v11 => (blk_at [some (.fr (Enc.enc (v_store))), some (.fr (Enc.enc (v_box))), some (.fr (Enc.enc (v_row))), some (.fr (Enc.enc (v_deed))), some (.fr (Enc.enc (v1.1))), some (.fr (Enc.enc (v1.2))), some (.fr (Enc.enc (v11))), none, none, none] (blk_cons (st_ifU (fun (s : Unit) S => S) (et_eqF (ev_ixT (fun (x : (T4 Str Str Int Str)) => x.a) (0) (fun _ => ⟨_, rfl, rfl⟩) (ev_var (v := v_deed) (i := 3)) ev_int) ev_str) blk_never (blk_nil ())) (fun v12 => (blk_at [some (.fr (Enc.enc (v_store))), some (.fr (Enc.enc (v_box))), some (.fr (Enc.enc (v_row))), some (.fr (Enc.enc (v_deed))), some (.fr (Enc.enc (v1.1))), some (.fr (Enc.enc (v1.2))), some (.fr (Enc.enc (v11))), none, none, none] (blk_cons (st_set (α := (T4 Str Int (List (T4 Int Str (Tup Int) Int)) (List (Int × Int)))) 8 (ev_ix (EN.el (en_lc (own := [("one", 9)]) (srcc_list (EV.el (ev_var (v := v11) (i := 6)))) (by exact rfl) (tg_name (α := (T4 Str Int (List (T4 Int Str (Tup Int) Int)) (List (Int × Int)))) 9) (by decide) (fun x13 => (ets_one (et_eqF (ev_ixT (fun (x : (T4 Str Int (List (T4 Int Str (Tup Int) Int)) (List (Int × Int)))) => x.a) (0) (fun _ => ⟨_, rfl, rfl⟩) (ev_var (v := x13) (i := 9)) ev_int) (ev_ixT (fun (x : (T4 Str Str Int Str)) => x.d) (3) (fun _ => ⟨_, rfl, rfl⟩) (ev_var (v := v_deed) (i := 3)) ev_int)))) (fun x13 => (ev_var (v := x13) (i := 9))))) ev_int)) (fun v15 => (blk_at [some (.fr (Enc.enc (v_store))), some (.fr (Enc.enc (v_box))), some (.fr (Enc.enc (v_row))), some (.fr (Enc.enc (v_deed))), some (.fr (Enc.enc (v1.1))), some (.fr (Enc.enc (v1.2))), some (.fr (Enc.enc (v11))), none, some (.fr (Enc.enc (v15))), none] (blk_cons (st_set (α := (T4 Str Int (List (T4 Int Str (Tup Int) Int)) (List (Int × Int)))) 8 (ev_catT (fun (x : (Str × Int)) (y : ((List (T4 Int Str (Tup Int) Int)) × (List (Int × Int)))) => (T4.mk x.1 x.2 y.1 y.2)) (fun _ _ => ⟨_, _, rfl, rfl, List.cons_ne_nil _ _, List.cons_ne_nil _ _, rfl⟩) (ev_sliceT (fun (x : (T4 Str Int (List (T4 Int Str (Tup Int) Int)) (List (Int × Int)))) => (x.a, x.b)) (ev_var (v := v15) (i := 8)) eo_none (eo_some ev_int) (fun _ => ⟨_, rfl, show ¬(HT.sIx 4 0 none = 0 ∧ HT.sIx 4 4 (some 2) = 4) by decide, rfl⟩)) (ev_tup (fun x => (x.1, x.2.1)) (fun _ => rfl) (fun _ => Nat.le_of_ble_eq_true rfl) (ea_cons (EN.ev (en_cat (EV.el (ev_ixT (fun (x : (T4 Str Int (List (T4 Int Str (Tup Int) Int)) (List (Int × Int)))) => x.c) (2) (fun _ => ⟨_, rfl, rfl⟩) (ev_var (v := v15) (i := 8)) ev_int)) (EN.el (en_lst (fun x => [x.1]) (fun _ => rfl) (fun _ => Nat.le_of_ble_eq_true rfl) (ea_cons (ev_tup (fun x => (T4.mk x.1 x.2.1 x.2.2.1 x.2.2.2.1)) (fun _ => rfl) (fun _ => Nat.le_of_ble_eq_true rfl) (ea_cons (ev_var (v := v1.2) (i := 5)) (ea_cons (ev_ixT (fun (x : (T4 Int Str (Tup Int) Int)) => x.b) (1) (fun _ => ⟨_, rfl, rfl⟩) (ev_var (v := v_row) (i := 2)) ev_int) (ea_cons (ev_ixT (fun (x : (T4 Int Str (Tup Int) Int)) => x.c) (2) (fun _ => ⟨_, rfl, rfl⟩) (ev_var (v := v_row) (i := 2)) ev_int) (ea_cons (ev_var (v := v1.1) (i := 4)) ea_nil))))) ea_nil))))) (ea_cons (ev_ixT (fun (x : (T4 Str Int (List (T4 Int Str (Tup Int) Int)) (List (Int × Int)))) => x.d) (3) (fun _ => ⟨_, rfl, rfl⟩) (ev_var (v := v15) (i := 8)) ev_int) ea_nil))) (hl := fun _ _ _ _ h1 h2 => by cases h1; cases h2; exact Nat.le_of_ble_eq_true rfl))) (fun v16 => (blk_at [some (.fr (Enc.enc (v_store))), some (.fr (Enc.enc (v_box))), some (.fr (Enc.enc (v_row))), some (.fr (Enc.enc (v_deed))), some (.fr (Enc.enc (v1.1))), some (.fr (Enc.enc (v1.2))), some (.fr (Enc.enc (v11))), none, some (.fr (Enc.enc (v16))), none] (blk_cons (st_set (α := (List (T4 Str Int (List (T4 Int Str (Tup Int) Int)) (List (Int × Int))))) 6 (EN.ev (en_cat (EN.el (en_lc (own := [("one", 9)]) (srcc_list (EV.el (ev_var (v := v11) (i := 6)))) (by exact rfl) (tg_name (α := (T4 Str Int (List (T4 Int Str (Tup Int) Int)) (List (Int × Int)))) 9) (by decide) (fun x17 => (ets_one (et_neF (ev_ixT (fun (x : (T4 Str Int (List (T4 Int Str (Tup Int) Int)) (List (Int × Int)))) => x.a) (0) (fun _ => ⟨_, rfl, rfl⟩) (ev_var (v := x17) (i := 9)) ev_int) (ev_ixT (fun (x : (T4 Str Int (List (T4 Int Str (Tup Int) Int)) (List (Int × Int)))) => x.a) (0) (fun _ => ⟨_, rfl, rfl⟩) (ev_var (v := v16) (i := 8)) ev_int)))) (fun x17 => (ev_var (v := x17) (i := 9))))) (EN.el (en_lst (fun x => [x.1]) (fun _ => rfl) (fun _ => Nat.le_of_ble_eq_true rfl) (ea_cons (ev_var (v := v16) (i := 8)) ea_nil)))))) (fun v19 => (blk_at [some (.fr (Enc.enc (v_store))), some (.fr (Enc.enc (v_box))), some (.fr (Enc.enc (v_row))), some (.fr (Enc.enc (v_deed))), some (.fr (Enc.enc (v1.1))), some (.fr (Enc.enc (v1.2))), some (.fr (Enc.enc (v19))), none, some (.fr (Enc.enc (v16))), none] (blk_last (st_ret (ev_tup (fun x => (x.1, x.2.1)) (fun _ => rfl) (fun _ => Nat.le_of_ble_eq_true rfl) (ea_cons (ev_call h_with_boxes (Nat.le_of_ble_eq_true rfl) rfl (ea_cons (ev_var (v := v_store) (i := 0)) (ea_cons (ev_var (v := v1.1) (i := 4)) (ea_cons (ev_add (ev_var (v := v1.2) (i := 5)) ev_int) (ea_cons (ev_var (v := v19) (i := 6)) ea_nil))))) (ea_cons (ev_tup (fun x => (x.1, x.2.1)) (fun _ => rfl) (fun _ => Nat.le_of_ble_eq_true rfl) (ea_cons ev_str (ea_cons (ev_var (v := v1.2) (i := 5)) ea_nil))) ea_nil))))))))))))))))))))))))))), fun C hC => ?_⟩
  obtain ⟨h0, h1, h2, h3, goal, h4, h5, h6⟩ := hC
  dsimp only at h0 h1 h2 h3 h4 h5 h6 ⊢
  have hne : ¬ peq v_deed.a (Str.ofString "remove") = true := by
    rw [peq_iff]
    intro e
    rw [e] at h0
    revert h0
    decide
  by_cases hm : v_deed.a = Str.ofString "move"
  · have ea : away (v_store, v_box, v_row, v_deed, v__) = (v_store.d.filter fun b => !peq b.a v_box.a) ++ [⟨v_box.a, v_box.b, kept v_row.a v_box.c, v_box.d ++ [(v_store.b + 1, v_row.a)]⟩] := if_pos (by rw [peq_iff]; exact hm)
    rw [ea] at h4 h6
    have hfl := List.length_filter_le (fun b : Bx => !peq b.a v_box.a) v_store.d
    rw [if_pos (by rw [pin_iff]; simp [hm])]
    refine lcW_filter (fun r : Row => !peq r.a v_row.a) (fun _ _ _ h => h) (fun _ _ _ _ h => h) (by omega) ⟨szle (by show _ + 1 < _; omega), by show v_store.d.length + 1 < 1000; omega, ?_⟩
    dsimp only
    rw [if_neg hne]
    refine lcW_filter (fun b : Bx => peq b.a v_deed.d) (fun _ _ _ h => h) (fun _ _ _ _ h => h) (by rw [List.length_append]; show _ + 1 < _; omega) ⟨goal, h4, szle (by show _ + 1 < _; omega), ?_⟩
    refine lcW_filter (fun b : Bx => !peq b.a goal.a) (fun _ _ _ h => h) (fun _ _ _ _ h => h) (by rw [List.length_append]; show _ + 1 < _; omega) ⟨szle ?_, h6⟩
    refine Nat.lt_of_le_of_lt (Nat.add_le_add_right (List.length_filter_le ..) _) ?_
    rw [List.length_append]
    show _ + 1 + 1 < _
    omega
  · have ea : away (v_store, v_box, v_row, v_deed, v__) = v_store.d := if_neg (by rw [peq_iff]; exact hm)
    have hc : v_deed.a = Str.ofString "copy" := h0.resolve_left hm
    rw [ea] at h4 h6
    rw [if_neg (by rw [pin_iff, hc]; decide), if_neg hne]
    refine lcW_filter (fun b : Bx => peq b.a v_deed.d) (fun _ _ _ h => h) (fun _ _ _ _ h => h) (by omega) ⟨goal, h4, szle (by show _ + 1 < _; omega), ?_⟩
    refine lcW_filter (fun b : Bx => !peq b.a goal.a) (fun _ _ _ h => h) (fun _ _ _ _ h => h) (by omega) ⟨szle ?_, h6⟩
    refine Nat.lt_of_le_of_lt (Nat.add_le_add_right (List.length_filter_le ..) _) ?_
    show _ + 1 < _
    omega

def m_do_make : (Stor × (Str × Str) × Unit) → ((Stor × T1 Str) → Prop) → Prop := fun y C => y.2.1.1 = "make" ∧ bxAt y.1 y.2.1.2 = none ∧ m_make (y.1, y.2.1.2, ()) C
theorem fn_do_make {B : Bs} (D : DefAt B "do" s_do) (h_check_deed_make : Fn B 1 "check_deed" m_check_deed_make) (h_box_at : Fn B 1 "box_at" m_box_at) (h_make : Fn B 2 "make" m_make) : Fn B 3 "do" m_do_make := by
  refine def_ok (τ := Unit) (k := 2) (N := ["store", "deed", "box", "row"]) (ps := ["store", "deed"]) (Γ := fun _ _ => List.replicate 4 none) D ⟨rfl, rfl, rfl, by decide +kernel, rfl, by decide +kernel, by decide +kernel⟩ (fun _ => rfl) (by decide +kernel) (fun _ _ _ _ _ _ us hl => match us, hl with | [_, _], _ => rfl) (fun y => ?_)
  obtain ⟨v_store, v_deed, v__⟩ := y
  refine ⟨_, (blk_at [some (.fr (Enc.enc (v_store))), some (.fr (Enc.enc (v_deed))), none, none] (blk_cons (st_expr (ev_call h_check_deed_make (Nat.le_of_ble_eq_true rfl) rfl (ea_cons (ev_var (v := v_deed) (i := 1)) ea_nil))) (fun _ => (blk_at [some (.fr (Enc.enc (v_store))), some (.fr (Enc.enc (v_deed))), none, none] (blk_cons (st_set (α := (Option (T4 Str Int (List (T4 Int Str (Tup Int) Int)) (List (Int × Int))))) 2 (ev_call h_box_at (Nat.le_of_ble_eq_true rfl) rfl (ea_cons (ev_var (v := v_store) (i := 0)) (ea_cons (ev_ixT (fun (x : (Str × Str)) => x.2) (1) (fun _ => ⟨_, rfl, rfl⟩) (ev_var (v := v_deed) (i := 1)) ev_int) ea_nil)))) (fun v1 => (blk_at [some (.fr (Enc.enc (v_store))), some (.fr (Enc.enc (v_deed))), some (.fr (Enc.enc (v1))), none] (blk_cons (st_ifU (fun (s : Unit) S => S) (et_eqF (ev_ixT (fun (x : (Str × Str)) => x.1) (0) (fun _ => ⟨_, rfl, rfl⟩) (ev_var (v := v_deed) (i := 1)) ev_int) ev_str) (blk_last (st_ret (ev_if (et_isN (ev_var (v := v1) (i := 2))) (ev_call h_make (Nat.le_of_ble_eq_true rfl) rfl (ea_cons (ev_var (v := v_store) (i := 0)) (ea_cons (ev_ixT (fun (x : (Str × Str)) => x.2) (1) (fun _ => ⟨_, rfl, rfl⟩) (ev_var (v := v_deed) (i := 1)) ev_int) ea_nil))) (ev_tup (fun x => (x.1, x.2.1)) (fun _ => rfl) (fun _ => Nat.le_of_ble_eq_true rfl) (ea_cons (ev_var (v := v_store) (i := 0)) (ea_cons (ev_tup (fun x => (T1.mk x.1)) (fun _ => rfl) (fun _ => Nat.le_of_ble_eq_true rfl) (ea_cons ev_str ea_nil)) ea_nil)))))) (blk_nil ())) (fun v2 => blk_never))))))))), fun C hC => ?_⟩
  obtain ⟨h0, h1, h2⟩ := hC
  dsimp only at h0 h1 h2 ⊢
  refine ⟨by show v_deed.1 ≠ _; rw [h0]; decide, by show v_deed.1 ≠ _; rw [h0]; decide, by show v_deed.1 ≠ _; rw [h0]; decide, ?_⟩
  dsimp only [m_box_at]
  rw [h1]
  rw [if_pos (by rw [peq_iff]; exact h0), if_pos (by simp)]
  exact h2

def m_do_add : (Stor × T4 Str Str Str (List Int) × Unit) → ((Stor × Str × Int) → Prop) → Prop := fun y C => y.2.1.a = "add" ∧ y.2.1.d = [] ∧ ∃ box, bxAt y.1 y.2.1.b = some box ∧ m_add (y.1, box, y.2.1.c, ⟨[]⟩, ()) C
theorem fn_do_add {B : Bs} (D : DefAt B "do" s_do) (h_check_deed_add : Fn B 1 "check_deed" m_check_deed_add) (h_box_at : Fn B 1 "box_at" m_box_at) (h_add : Fn B 2 "add" m_add) (z_sorted : B.mg "sorted" = none) (z_set : B.mg "set" = none) (z_tuple : B.mg "tuple" = none) : Fn B 3 "do" m_do_add := by
  refine def_ok (τ := Unit) (k := 2) (N := ["store", "deed", "box", "row"]) (ps := ["store", "deed"]) (Γ := fun _ _ => List.replicate 4 none) D ⟨rfl, rfl, rfl, by decide +kernel, rfl, by decide +kernel, by decide +kernel⟩ (fun _ => rfl) (by decide +kernel) (fun _ _ _ _ _ _ us hl => match us, hl with | [_, _], _ => rfl) (fun y => ?_)
  obtain ⟨v_store, v_deed, v__⟩ := y
  refine ⟨_, (blk_at [some (.fr (Enc.enc (v_store))), some (.fr (Enc.enc (v_deed))), none, none] (blk_cons (st_expr (ev_call h_check_deed_add (Nat.le_of_ble_eq_true rfl) rfl (ea_cons (ev_var (v := v_deed) (i := 1)) ea_nil))) (fun _ => (blk_at [some (.fr (Enc.enc (v_store))), some (.fr (Enc.enc (v_deed))), none, none] (blk_cons (st_set (α := (Option (T4 Str Int (List (T4 Int Str (Tup Int) Int)) (List (Int × Int))))) 2 (ev_call h_box_at (Nat.le_of_ble_eq_true rfl) rfl (ea_cons (ev_var (v := v_store) (i := 0)) (ea_cons (ev_ixT (fun (x : (T4 Str Str Str (List Int))) => x.b) (1) (fun _ => ⟨_, rfl, rfl⟩) (ev_var (v := v_deed) (i := 1)) ev_int) ea_nil)))) (fun v1 => (blk_at [some (.fr (Enc.enc (v_store))), some (.fr (Enc.enc (v_deed))), some (.fr (Enc.enc (v1))), none] (blk_cons (st_ifU (fun (s : Unit) S => S) (et_eqF (ev_ixT (fun (x : (T4 Str Str Str (List Int))) => x.a) (0) (fun _ => ⟨_, rfl, rfl⟩) (ev_var (v := v_deed) (i := 1)) ev_int) ev_str) blk_never (blk_nil ())) (fun v2 => (blk_at [some (.fr (Enc.enc (v_store))), some (.fr (Enc.enc (v_deed))), some (.fr (Enc.enc (v1))), none] (blk_cons (st_ifU (fun (s : Unit) S => S) (et_isN (ev_var (v := v1) (i := 2))) blk_never (blk_nil ())) (fun v3 => (blk_at [some (.fr (Enc.enc (v_store))), some (.fr (Enc.enc (v_deed))), some (.fr (Enc.enc (v1))), none] (blk_cons (st_ifU (fun (s : Unit) S => S) (et_inT (fun t => [t.1, t.2]) (fun _ => rfl) (ev_ixT (fun (x : (T4 Str Str Str (List Int))) => x.a) (0) (fun _ => ⟨_, rfl, rfl⟩) (ev_var (v := v_deed) (i := 1)) ev_int) (ev_tup (fun x => (x.1, x.2.1)) (fun _ => rfl) (fun _ => Nat.le_of_ble_eq_true rfl) (ea_cons ev_str (ea_cons ev_str ea_nil)))) blk_never (blk_nil ())) (fun v4 => (blk_at [some (.fr (Enc.enc (v_store))), some (.fr (Enc.enc (v_deed))), some (.fr (Enc.enc (v1))), none] (blk_cons (st_ifU (fun (s : Unit) S => S) (et_eqF (ev_ixT (fun (x : (T4 Str Str Str (List Int))) => x.a) (0) (fun _ => ⟨_, rfl, rfl⟩) (ev_var (v := v_deed) (i := 1)) ev_int) ev_str) (blk_last (st_ret (ev_call h_add (Nat.le_of_ble_eq_true rfl) rfl (ea_cons (ev_var (v := v_store) (i := 0)) (ea_cons (ev_get (ev_var (v := v1) (i := 2))) (ea_cons (ev_ixT (fun (x : (T4 Str Str Str (List Int))) => x.c) (2) (fun _ => ⟨_, rfl, rfl⟩) (ev_var (v := v_deed) (i := 1)) ev_int) (ea_cons (ev_tuple (EN.el (en_sortset (EV.el (ev_ixT (fun (x : (T4 Str Str Str (List Int))) => x.d) (3) (fun _ => ⟨_, rfl, rfl⟩) (ev_var (v := v_deed) (i := 1)) ev_int)) z_sorted z_set)) (hm := z_tuple)) ea_nil))))))) (blk_nil ())) (fun v5 => blk_never)))))))))))))))))), fun C hC => ?_⟩
  obtain ⟨h0, h1, box, h2, h3⟩ := hC
  dsimp only at h0 h1 h2 h3 ⊢
  refine ⟨by show v_deed.a ≠ _; rw [h0]; decide, by show v_deed.a ≠ _; rw [h0]; decide, h1, ?_⟩
  dsimp only [m_box_at]
  rw [h2]
  rw [if_neg (by rw [peq_iff, h0]; decide), if_neg (by simp), if_neg (by rw [pin_iff, h0]; decide), if_pos (by rw [peq_iff]; exact h0)]
  refine ⟨box, rfl, by rw [h1]; decide, ?_⟩
  rw [h1]
  exact h3

def m_do_rem : (Stor × T3 Str Str Int × Unit) → ((Stor × T1 Str) → Prop) → Prop := fun y C => y.2.1.a = "remove" ∧ ∃ box row, bxAt y.1 y.2.1.b = some box ∧ box.c.find? (fun r => peq r.a y.2.1.c) = some row ∧ m_carry_rem (y.1, box, row, y.2.1, ()) C
theorem fn_do_rem {B : Bs} (D : DefAt B "do" s_do) (h_check_deed_rem : Fn B 1 "check_deed" m_check_deed_rem) (h_box_at : Fn B 1 "box_at" m_box_at) (h_row_at : Fn B 1 "row_at" m_row_at) (h_carry_rem : Fn B 2 "carry" m_carry_rem) : Fn B 3 "do" m_do_rem := by
  refine def_ok (τ := Unit) (k := 2) (N := ["store", "deed", "box", "row"]) (ps := ["store", "deed"]) (Γ := fun _ _ => List.replicate 4 none) D ⟨rfl, rfl, rfl, by decide +kernel, rfl, by decide +kernel, by decide +kernel⟩ (fun _ => rfl) (by decide +kernel) (fun _ _ _ _ _ _ us hl => match us, hl with | [_, _], _ => rfl) (fun y => ?_)
  obtain ⟨v_store, v_deed, v__⟩ := y
  refine ⟨_, (blk_at [some (.fr (Enc.enc (v_store))), some (.fr (Enc.enc (v_deed))), none, none] (blk_cons (st_expr (ev_call h_check_deed_rem (Nat.le_of_ble_eq_true rfl) rfl (ea_cons (ev_var (v := v_deed) (i := 1)) ea_nil))) (fun _ => (blk_at [some (.fr (Enc.enc (v_store))), some (.fr (Enc.enc (v_deed))), none, none] (blk_cons (st_set (α := (Option (T4 Str Int (List (T4 Int Str (Tup Int) Int)) (List (Int × Int))))) 2 (ev_call h_box_at (Nat.le_of_ble_eq_true rfl) rfl (ea_cons (ev_var (v := v_store) (i := 0)) (ea_cons (ev_ixT (fun (x : (T3 Str Str Int)) => x.b) (1) (fun _ => ⟨_, rfl, rfl⟩) (ev_var (v := v_deed) (i := 1)) ev_int) ea_nil)))) (fun v1 => (blk_at [some (.fr (Enc.enc (v_store))), some (.fr (Enc.enc (v_deed))), some (.fr (Enc.enc (v1))), none] (blk_cons (st_ifU (fun (s : Unit) S => S) (et_eqF (ev_ixT (fun (x : (T3 Str Str Int)) => x.a) (0) (fun _ => ⟨_, rfl, rfl⟩) (ev_var (v := v_deed) (i := 1)) ev_int) ev_str) blk_never (blk_nil ())) (fun v2 => (blk_at [some (.fr (Enc.enc (v_store))), some (.fr (Enc.enc (v_deed))), some (.fr (Enc.enc (v1))), none] (blk_cons (st_ifU (fun (s : Unit) S => S) (et_isN (ev_var (v := v1) (i := 2))) blk_never (blk_nil ())) (fun v3 => (blk_at [some (.fr (Enc.enc (v_store))), some (.fr (Enc.enc (v_deed))), some (.fr (Enc.enc (v1))), none] (blk_cons (st_ifU (fun (s : Unit) S => S) (et_inT (fun t => [t.1, t.2]) (fun _ => rfl) (ev_ixT (fun (x : (T3 Str Str Int)) => x.a) (0) (fun _ => ⟨_, rfl, rfl⟩) (ev_var (v := v_deed) (i := 1)) ev_int) (ev_tup (fun x => (x.1, x.2.1)) (fun _ => rfl) (fun _ => Nat.le_of_ble_eq_true rfl) (ea_cons ev_str (ea_cons ev_str ea_nil)))) blk_never (blk_nil ())) (fun v4 => (blk_at [some (.fr (Enc.enc (v_store))), some (.fr (Enc.enc (v_deed))), some (.fr (Enc.enc (v1))), none] (blk_cons (st_ifU (fun (s : Unit) S => S) (et_eqF (ev_ixT (fun (x : (T3 Str Str Int)) => x.a) (0) (fun _ => ⟨_, rfl, rfl⟩) (ev_var (v := v_deed) (i := 1)) ev_int) ev_str) blk_never (blk_nil ())) (fun v5 => (blk_at [some (.fr (Enc.enc (v_store))), some (.fr (Enc.enc (v_deed))), some (.fr (Enc.enc (v1))), none] (blk_cons (st_ifU (fun (s : Unit) S => S) (et_eqF (ev_ixT (fun (x : (T3 Str Str Int)) => x.a) (0) (fun _ => ⟨_, rfl, rfl⟩) (ev_var (v := v_deed) (i := 1)) ev_int) ev_str) blk_never (blk_nil ())) (fun v6 => (blk_at [some (.fr (Enc.enc (v_store))), some (.fr (Enc.enc (v_deed))), some (.fr (Enc.enc (v1))), none] (blk_cons (st_set (α := (Option (T4 Int Str (Tup Int) Int))) 3 (ev_call h_row_at (Nat.le_of_ble_eq_true rfl) rfl (ea_cons (ev_get (ev_var (v := v1) (i := 2))) (ea_cons (ev_ixT (fun (x : (T3 Str Str Int)) => x.c) (2) (fun _ => ⟨_, rfl, rfl⟩) (ev_var (v := v_deed) (i := 1)) ev_int) ea_nil)))) (fun v7 => (blk_at [some (.fr (Enc.enc (v_store))), some (.fr (Enc.enc (v_deed))), some (.fr (Enc.enc (v1))), some (.fr (Enc.enc (v7)))] (blk_cons (st_ifU (fun (s : Unit) S => S) (EW.et (ew_or (et_isN (ev_var (v := v7) (i := 3))) (ew_or1 (EW.et (ew_and (et_inT (fun t => [t.1, t.2]) (fun _ => rfl) (ev_ixT (fun (x : (T3 Str Str Int)) => x.a) (0) (fun _ => ⟨_, rfl, rfl⟩) (ev_var (v := v_deed) (i := 1)) ev_int) (ev_tup (fun x => (x.1, x.2.1)) (fun _ => rfl) (fun _ => Nat.le_of_ble_eq_true rfl) (ea_cons ev_str (ea_cons ev_str ea_nil)))) (ew_and1 et_never)))))) blk_never (blk_nil ())) (fun v8 => (blk_at [some (.fr (Enc.enc (v_store))), some (.fr (Enc.enc (v_deed))), some (.fr (Enc.enc (v1))), some (.fr (Enc.enc (v7)))] (blk_cons (st_ifU (fun (s : Unit) S => S) (et_inT (fun t => [t.1, t.2]) (fun _ => rfl) (ev_ixT (fun (x : (T3 Str Str Int)) => x.a) (0) (fun _ => ⟨_, rfl, rfl⟩) (ev_var (v := v_deed) (i := 1)) ev_int) (ev_tup (fun x => (x.1, x.2.1)) (fun _ => rfl) (fun _ => Nat.le_of_ble_eq_true rfl) (ea_cons ev_str (ea_cons ev_str ea_nil)))) blk_never (blk_nil ())) (fun v9 => (blk_at [some (.fr (Enc.enc (v_store))), some (.fr (Enc.enc (v_deed))), some (.fr (Enc.enc (v1))), some (.fr (Enc.enc (v7)))] (blk_last (st_ret (ev_call h_carry_rem (Nat.le_of_ble_eq_true rfl) rfl (ea_cons (ev_var (v := v_store) (i := 0)) (ea_cons (ev_get (ev_var (v := v1) (i := 2))) (ea_cons (ev_get (ev_var (v := v7) (i := 3))) (ea_cons (ev_var (v := v_deed) (i := 1)) ea_nil)))))))))))))))))))))))))))))))))))))), fun C hC => ?_⟩
  obtain ⟨h0, box, row, h2, h3, h4⟩ := hC
  dsimp only at h0 h2 h3 h4 ⊢
  refine ⟨by show v_deed.a ≠ _; rw [h0]; decide, by show v_deed.a ≠ _; rw [h0]; decide, by show v_deed.a ≠ _; rw [h0]; decide, ?_⟩
  dsimp only [m_box_at]
  rw [h2]
  rw [if_neg (by rw [peq_iff, h0]; decide), if_neg (by simp), if_neg (by rw [pin_iff, h0]; decide), if_neg (by rw [peq_iff, h0]; decide), if_neg (by rw [peq_iff, h0]; decide)]
  refine ⟨box, rfl, ?_⟩
  dsimp only [m_row_at]
  rw [h3]
  rw [if_neg (by simp), if_neg (by rw [pin_iff, h0]; decide), if_neg (by simp), if_neg (by rw [pin_iff, h0]; decide)]
  exact ⟨box, rfl, row, rfl, h4⟩

def m_do_move : (Stor × T4 Str Str Int Str × Unit) → ((Stor × Str × Int) → Prop) → Prop := fun y C => (y.2.1.a = "move" ∨ y.2.1.a = "copy") ∧ (bxAt y.1 y.2.1.d).isNone = false ∧ ∃ box row, bxAt y.1 y.2.1.b = some box ∧ box.c.find? (fun r => peq r.a y.2.1.c) = some row ∧ m_carry_move (y.1, box, row, y.2.1, ()) C
theorem fn_do_move {B : Bs} (D : DefAt B "do" s_do) (h_check_deed_move : Fn B 1 "check_deed" m_check_deed_move) (h_box_at : Fn B 1 "box_at" m_box_at) (h_row_at : Fn B 1 "row_at" m_row_at) (h_carry_move : Fn B 2 "carry" m_carry_move) : Fn B 3 "do" m_do_move := by
  refine def_ok (τ := Unit) (k := 2) (N := ["store", "deed", "box", "row"]) (ps := ["store", "deed"]) (Γ := fun _ _ => List.replicate 4 none) D ⟨rfl, rfl, rfl, by decide +kernel, rfl, by decide +kernel, by decide +kernel⟩ (fun _ => rfl) (by decide +kernel) (fun _ _ _ _ _ _ us hl => match us, hl with | [_, _], _ => rfl) (fun y => ?_)
  obtain ⟨v_store, v_deed, v__⟩ := y
  refine ⟨_, (blk_at [some (.fr (Enc.enc (v_store))), some (.fr (Enc.enc (v_deed))), none, none] (blk_cons (st_expr (ev_call h_check_deed_move (Nat.le_of_ble_eq_true rfl) rfl (ea_cons (ev_var (v := v_deed) (i := 1)) ea_nil))) (fun _ => (blk_at [some (.fr (Enc.enc (v_store))), some (.fr (Enc.enc (v_deed))), none, none] (blk_cons (st_set (α := (Option (T4 Str Int (List (T4 Int Str (Tup Int) Int)) (List (Int × Int))))) 2 (ev_call h_box_at (Nat.le_of_ble_eq_true rfl) rfl (ea_cons (ev_var (v := v_store) (i := 0)) (ea_cons (ev_ixT (fun (x : (T4 Str Str Int Str)) => x.b) (1) (fun _ => ⟨_, rfl, rfl⟩) (ev_var (v := v_deed) (i := 1)) ev_int) ea_nil)))) (fun v1 => (blk_at [some (.fr (Enc.enc (v_store))), some (.fr (Enc.enc (v_deed))), some (.fr (Enc.enc (v1))), none] (blk_cons (st_ifU (fun (s : Unit) S => S) (et_eqF (ev_ixT (fun (x : (T4 Str Str Int Str)) => x.a) (0) (fun _ => ⟨_, rfl, rfl⟩) (ev_var (v := v_deed) (i := 1)) ev_int) ev_str) blk_never (blk_nil ())) (fun v2 => (blk_at [some (.fr (Enc.enc (v_store))), some (.fr (Enc.enc (v_deed))), some (.fr (Enc.enc (v1))), none] (blk_cons (st_ifU (fun (s : Unit) S => S) (et_isN (ev_var (v := v1) (i := 2))) blk_never (blk_nil ())) (fun v3 => (blk_at [some (.fr (Enc.enc (v_store))), some (.fr (Enc.enc (v_deed))), some (.fr (Enc.enc (v1))), none] (blk_cons (st_ifU (fun (s : Unit) S => S) (et_inT (fun t => [t.1, t.2]) (fun _ => rfl) (ev_ixT (fun (x : (T4 Str Str Int Str)) => x.a) (0) (fun _ => ⟨_, rfl, rfl⟩) (ev_var (v := v_deed) (i := 1)) ev_int) (ev_tup (fun x => (x.1, x.2.1)) (fun _ => rfl) (fun _ => Nat.le_of_ble_eq_true rfl) (ea_cons ev_str (ea_cons ev_str ea_nil)))) blk_never (blk_nil ())) (fun v4 => (blk_at [some (.fr (Enc.enc (v_store))), some (.fr (Enc.enc (v_deed))), some (.fr (Enc.enc (v1))), none] (blk_cons (st_ifU (fun (s : Unit) S => S) (et_eqF (ev_ixT (fun (x : (T4 Str Str Int Str)) => x.a) (0) (fun _ => ⟨_, rfl, rfl⟩) (ev_var (v := v_deed) (i := 1)) ev_int) ev_str) blk_never (blk_nil ())) (fun v5 => (blk_at [some (.fr (Enc.enc (v_store))), some (.fr (Enc.enc (v_deed))), some (.fr (Enc.enc (v1))), none] (blk_cons (st_ifU (fun (s : Unit) S => S) (et_eqF (ev_ixT (fun (x : (T4 Str Str Int Str)) => x.a) (0) (fun _ => ⟨_, rfl, rfl⟩) (ev_var (v := v_deed) (i := 1)) ev_int) ev_str) blk_never (blk_nil ())) (fun v6 => (blk_at [some (.fr (Enc.enc (v_store))), some (.fr (Enc.enc (v_deed))), some (.fr (Enc.enc (v1))), none] (blk_cons (st_set (α := (Option (T4 Int Str (Tup Int) Int))) 3 (ev_call h_row_at (Nat.le_of_ble_eq_true rfl) rfl (ea_cons (ev_get (ev_var (v := v1) (i := 2))) (ea_cons (ev_ixT (fun (x : (T4 Str Str Int Str)) => x.c) (2) (fun _ => ⟨_, rfl, rfl⟩) (ev_var (v := v_deed) (i := 1)) ev_int) ea_nil)))) (fun v7 => (blk_at [some (.fr (Enc.enc (v_store))), some (.fr (Enc.enc (v_deed))), some (.fr (Enc.enc (v1))), some (.fr (Enc.enc (v7)))] (blk_cons (st_ifU (fun (s : Unit) S => S) (EW.et (ew_or (et_isN (ev_var (v := v7) (i := 3))) (ew_or1 (EW.et (ew_and (et_inT (fun t => [t.1, t.2]) (fun _ => rfl) (ev_ixT (fun (x : (T4 Str Str Int Str)) => x.a) (0) (fun _ => ⟨_, rfl, rfl⟩) (ev_var (v := v_deed) (i := 1)) ev_int) (ev_tup (fun x => (x.1, x.2.1)) (fun _ => rfl) (fun _ => Nat.le_of_ble_eq_true rfl) (ea_cons ev_str (ea_cons ev_str ea_nil)))) (ew_and1 (et_isN (ev_call h_box_at (Nat.le_of_ble_eq_true rfl) rfl (ea_cons (ev_var (v := v_store) (i := 0)) (ea_cons (ev_ixT (fun (x : (T4 Str Str Int Str)) => x.d) (3) (fun _ => ⟨_, rfl, rfl⟩) (ev_var (v := v_deed) (i := 1)) ev_int) ea_nil)))))))))) blk_never (blk_nil ())) (fun v8 => (blk_at [some (.fr (Enc.enc (v_store))), some (.fr (Enc.enc (v_deed))), some (.fr (Enc.enc (v1))), some (.fr (Enc.enc (v7)))] (blk_cons (st_ifU (fun (s : Unit) S => S) (et_inT (fun t => [t.1, t.2]) (fun _ => rfl) (ev_ixT (fun (x : (T4 Str Str Int Str)) => x.a) (0) (fun _ => ⟨_, rfl, rfl⟩) (ev_var (v := v_deed) (i := 1)) ev_int) (ev_tup (fun x => (x.1, x.2.1)) (fun _ => rfl) (fun _ => Nat.le_of_ble_eq_true rfl) (ea_cons ev_str (ea_cons ev_str ea_nil)))) blk_never (blk_nil ())) (fun v9 => (blk_at [some (.fr (Enc.enc (v_store))), some (.fr (Enc.enc (v_deed))), some (.fr (Enc.enc (v1))), some (.fr (Enc.enc (v7)))] (blk_last (st_ret (ev_call h_carry_move (Nat.le_of_ble_eq_true rfl) rfl (ea_cons (ev_var (v := v_store) (i := 0)) (ea_cons (ev_get (ev_var (v := v1) (i := 2))) (ea_cons (ev_get (ev_var (v := v7) (i := 3))) (ea_cons (ev_var (v := v_deed) (i := 1)) ea_nil)))))))))))))))))))))))))))))))))))))), fun C hC => ?_⟩
  obtain ⟨h0, h1, box, row, h2, h3, h4⟩ := hC
  dsimp only at h0 h1 h2 h3 h4 ⊢
  have hd : ∀ x : Str, x ≠ "move" → x ≠ "copy" → v_deed.a ≠ x := fun x h h' e => by
    rcases h0 with q | q
    · exact h (e.symm.trans q)
    · exact h' (e.symm.trans q)
  have hdn : ∀ x y : Str, x ≠ "move" → x ≠ "copy" → y ≠ "move" → y ≠ "copy" → ¬ pin v_deed.a [x, y] = true := fun x y a b c d => by
    rw [pin_iff]
    intro q
    rcases List.mem_cons.mp q with q | q
    · exact hd x a b q
    · exact hd y c d (by simpa using q)
  refine ⟨hd _ (by decide) (by decide), hd _ (by decide) (by decide), hd _ (by decide) (by decide), ?_⟩
  dsimp only [m_box_at]
  rw [h2]
  rw [if_neg (by rw [peq_iff]; exact hd _ (by decide) (by decide)), if_neg (by simp), if_neg (hdn _ _ (by decide) (by decide) (by decide) (by decide)), if_neg (by rw [peq_iff]; exact hd _ (by decide) (by decide)), if_neg (by rw [peq_iff]; exact hd _ (by decide) (by decide))]
  refine ⟨box, rfl, ?_⟩
  dsimp only [m_row_at]
  rw [h3]
  rw [if_neg (by simp), if_pos (by rw [pin_iff]; rcases h0 with q | q <;> rw [q] <;> decide)]
  show (if (bxAt v_store v_deed.d).isNone = true then _ else _)
  rw [if_neg (by rw [h1]; decide), if_neg (hdn _ _ (by decide) (by decide) (by decide) (by decide))]
  exact ⟨box, rfl, row, rfl, h4⟩

def m_view : (Stor × Str × Unit) → (Option (List (T3 Int Str (Tup Int))) → Prop) → Prop := fun y C => (∀ b, bxAt y.1 y.2.1 = some b → b.c.length < 1000) ∧ C ((bxAt y.1 y.2.1).map fun b => b.c.map fun r => T3.mk r.a r.b r.c)
theorem fn_view {B : Bs} (D : DefAt B "view" s_view) (h_box_at : Fn B 1 "box_at" m_box_at) : Fn B 2 "view" m_view := by
  refine def_ok (τ := Unit) (k := 1) (N := ["store", "name", "box", "row"]) (ps := ["store", "name"]) (Γ := fun _ _ => List.replicate 4 none) D ⟨rfl, rfl, rfl, by decide +kernel, rfl, by decide +kernel, by decide +kernel⟩ (fun _ => rfl) (by decide +kernel) (fun _ _ _ _ _ _ us hl => match us, hl with | [_, _], _ => rfl) (fun y => ?_)
  obtain ⟨v_store, v_name, v__⟩ := y
  refine ⟨_, (blk_at [some (.fr (Enc.enc (v_store))), some (.fr (Enc.enc (v_name))), none, none] (blk_cons (st_set (α := (Option (T4 Str Int (List (T4 Int Str (Tup Int) Int)) (List (Int × Int))))) 2 (ev_call h_box_at (Nat.le_of_ble_eq_true rfl) rfl (ea_cons (ev_var (v := v_store) (i := 0)) (ea_cons (ev_var (v := v_name) (i := 1)) ea_nil)))) (fun v1 => (blk_at [some (.fr (Enc.enc (v_store))), some (.fr (Enc.enc (v_name))), some (.fr (Enc.enc (v1))), none] (blk_last (st_ret (ev_if (et_isN (ev_var (v := v1) (i := 2))) (ev_none (α := (List (T3 Int Str (Tup Int))))) (ev_some (EN.ev (en_lc (own := [("row", 3)]) (srcc_list (EV.el (ev_ixT (fun (x : (T4 Str Int (List (T4 Int Str (Tup Int) Int)) (List (Int × Int)))) => x.c) (2) (fun _ => ⟨_, rfl, rfl⟩) (ev_get (ev_var (v := v1) (i := 2))) ev_int))) (by exact rfl) (tg_name (α := (T4 Int Str (Tup Int) Int)) 3) (by decide) (fun x2 => ets_nil) (fun x2 => (ev_sliceT (fun (x : (T4 Int Str (Tup Int) Int)) => (T3.mk x.a x.b x.c)) (ev_var (v := x2) (i := 3)) eo_none (eo_some ev_int) (fun _ => ⟨_, rfl, show ¬(HT.sIx 4 0 none = 0 ∧ HT.sIx 4 4 (some 3) = 4) by decide, rfl⟩))))))))))))), fun C hC => ?_⟩
  obtain ⟨h1, h2⟩ := hC
  dsimp only at h1 h2 ⊢
  dsimp only [m_box_at]
  cases e : bxAt v_store v_name with
  | none =>
    rw [e] at h2
    rw [if_pos (by simp)]
    exact h2
  | some b =>
    rw [e] at h2
    rw [if_neg (by simp)]
    have hl := h1 b e
    exact ⟨b, rfl, lcW_map (fun x : Row => T3.mk x.a x.b x.c) (fun _ _ _ h => h) (fun _ _ _ h => h) (by omega) h2⟩

def m_place_of : (Stor × Str × Int × Unit) → (Option Int → Prop) → Prop := fun y C => ∃ (b : Bx) (j : Nat), bxAt y.1 y.2.1 = some b ∧ b.c.length < 1000 ∧ (b.c.map (·.a))[j]? = some y.2.2.1 ∧ (∀ m, m < j → (b.c.map (·.a))[m]? ≠ some y.2.2.1) ∧ C (some ((j : Int) + 1))
theorem fn_place_of {B : Bs} (D : DefAt B "place_of" s_place_of) (h_view : Fn B 2 "view" m_view) : Fn B 3 "place_of" m_place_of := by
  refine def_ok (τ := Unit) (k := 2) (N := ["store", "name", "number", "rows", "numbers", "row"]) (ps := ["store", "name", "number"]) (Γ := fun _ _ => List.replicate 6 none) D ⟨rfl, rfl, rfl, by decide +kernel, rfl, by decide +kernel, by decide +kernel⟩ (fun _ => rfl) (by decide +kernel) (fun _ _ _ _ _ _ us hl => match us, hl with | [_, _, _], _ => rfl) (fun y => ?_)
  obtain ⟨v_store, v_name, v_number, v__⟩ := y
  refine ⟨_, (blk_at [some (.fr (Enc.enc (v_store))), some (.fr (Enc.enc (v_name))), some (.fr (Enc.enc (v_number))), none, none, none] (blk_cons (st_set (α := (Option (List (T3 Int Str (Tup Int))))) 3 (ev_call h_view (Nat.le_of_ble_eq_true rfl) rfl (ea_cons (ev_var (v := v_store) (i := 0)) (ea_cons (ev_var (v := v_name) (i := 1)) ea_nil)))) (fun v1 => (blk_at [some (.fr (Enc.enc (v_store))), some (.fr (Enc.enc (v_name))), some (.fr (Enc.enc (v_number))), some (.fr (Enc.enc (v1))), none, none] (blk_cons (st_set (α := (List Int)) 4 (ev_if (et_isN (ev_var (v := v1) (i := 3))) (EN.ev (en_nil (α := Int))) (EN.ev (en_lc (own := [("row", 5)]) (SRC.cc (src_list (ev_get (ev_var (v := v1) (i := 3))))) (by exact rfl) (tg_name (α := (T3 Int Str (Tup Int))) 5) (by decide) (fun x2 => ets_nil) (fun x2 => (ev_ixT (fun (x : (T3 Int Str (Tup Int))) => x.a) (0) (fun _ => ⟨_, rfl, rfl⟩) (ev_var (v := x2) (i := 5)) ev_int)))))) (fun v4 => (blk_at [some (.fr (Enc.enc (v_store))), some (.fr (Enc.enc (v_name))), some (.fr (Enc.enc (v_number))), some (.fr (Enc.enc (v1))), some (.fr (Enc.enc (v4))), none] (blk_last (st_ret (ev_if (et_inF (ev_var (v := v_number) (i := 2)) (EV.el (ev_var (v := v4) (i := 4)))) (ev_some (ev_add (ev_index (EV.el (ev_var (v := v4) (i := 4))) (ev_var (v := v_number) (i := 2))) ev_int)) (ev_none (α := Int)))))))))))), fun C hC => ?_⟩
  obtain ⟨b, j, h1, h2, h3, h4, h5⟩ := hC
  dsimp only at h1 h2 h3 h4 h5 ⊢
  refine ⟨fun b' e => ?_, ?_⟩
  · have e : bxAt v_store v_name = some b' := e
    rw [h1] at e
    cases e
    exact h2
  dsimp only
  rw [h1]
  dsimp only [Option.map]
  rw [if_neg (by simp)]
  refine ⟨_, rfl, lcW_map (fun x : T3 Int Str (Tup Int) => x.a) (fun _ _ _ h => h) (fun _ _ _ h => h) (by rw [List.length_map]; omega) ?_⟩
  rw [List.map_map]
  have h3' : (b.c.map ((fun x : T3 Int Str (Tup Int) => x.a) ∘ fun r : Row => T3.mk r.a r.b r.c))[j]? = some v_number := h3
  have h4' : ∀ m, m < j → (b.c.map ((fun x : T3 Int Str (Tup Int) => x.a) ∘ fun r : Row => T3.mk r.a r.b r.c))[m]? ≠ some v_number := h4
  rw [if_pos (by rw [pin_iff]; exact List.mem_of_getElem? h3')]
  refine ⟨j, v_number, h3', peq_iff.mpr rfl, fun m z' hm hz => ?_, h5⟩
  rw [peq_i, decide_eq_false_iff_not]
  intro e
  rw [e] at hz
  exact h4' m hm hz

section
variable {B : Bs}
theorem state_reads {f : Fm} (hf : f = fmD B ["script", "cells", "cell"] (defScope s_law_state) 0) (ns : List Int) (z_abs : B.mg "abs" = none) (z_len : B.mg "len" = none) :
    ∃ s1 s2 s3, defBody s_law_state = [s1, s2, s3] ∧ ∃ (m1 : MB Unit (List Int) Unit Empty) (m2 : List Int → MB Unit (List Int) Unit Empty),
      ST f W0 [some (.fr (enc ns)), none, none] s1 (β := Unit) (fun v : List Int => [some (.fr (enc ns)), some (.ow (.lst (v.map enc))), none]) (fun e : Empty => nomatch e) m1 ∧
      (∀ v : List Int, ST f W0 [some (.fr (enc ns)), some (.ow (.lst (v.map enc))), none] s2 (β := Unit) (fun v : List Int => [some (.fr (enc ns)), some (.ow (.lst (v.map enc))), none]) (fun e : Empty => nomatch e) (m2 v)) ∧
      (∀ P : Po Unit (List Int) Unit Empty, ns.length ≤ 63 → (∀ v, v.length ≤ 63 → (∀ x ∈ v, 0 ≤ x) → P.nx v ()) → m1 () P) ∧ (∀ v : List Int, ∀ P : Po Unit (List Int) Unit Empty, v.length ≤ 63 → (∀ x ∈ v, 0 ≤ x) → (∀ u, u ≠ [] → u.length ≤ 63 → (∀ x ∈ u, 0 ≤ x) → P.nx u ()) → m2 v () P) := by
  subst hf
  refine ⟨_, _, _, rfl, _, _, st_setLc (α := Int) 1 (own := [("cell", 2)]) (srcc_list (EN.el (en_slice (EV.el (ev_var (v := ns) (i := 0))) eo_none (eo_some ev_int)))) (by exact rfl) (tg_name (α := Int) 2) (by decide) (fun _ => ets_nil) (fun _ => (ev_abs (ev_var (i := 2)) (hm := z_abs))),
    fun v => st_ifU (fun (s : List Int) S => List.set S 1 (some (.ow (.lst (s.map enc))))) (et_eq (ev_len (el_own (v := v) (i := 1)) (hm := z_len)) ev_int) (blk_cons (st_setN 1 (en_lst (α := Int) (fun x => [x.1]) (fun _ => rfl) (fun _ => Nat.le_of_ble_eq_true rfl) (ea_cons ev_int ea_nil))) (fun _ => blk_nil _)) (blk_nil _), ?_, ?_⟩
  · intro P hl h
    dsimp only
    have hc : (cut ns none (some 63)).length ≤ 63 := by
      unfold cut
      rw [List.length_take]
      have : HT.sIx ns.length ns.length (some 63) ≤ ns.length := by
        rw [show HT.sIx ns.length ns.length (some 63) = min 63 ns.length from HT.sIx_nat ns.length ns.length 63]
        omega
      omega
    refine lcW_map iabs (fun _ _ _ h => h) (fun _ _ _ h => h) (by omega) (h _ (by rw [List.length_map]; exact hc) fun x hx => ?_)
    obtain ⟨y, _, rfl⟩ := List.mem_map.mp hx
    unfold iabs
    split <;> omega
  · intro v P hl hp h
    dsimp only
    by_cases h0 : peq (v.length : Int) (0 : Int) = true
    · rw [if_pos h0]
      exact h [0] (by simp) (by simp) (by simp)
    · rw [if_neg h0]
      refine h v (fun e => h0 ?_) hl hp
      rw [e, peq_iff]
      rfl
theorem fn_law_state (D : DefAt B "_law_state" s_law_state) (z_abs : B.mg "abs" = none) (z_len : B.mg "len" = none) : StateFn B := by
  obtain ⟨fa, fd, F, hm⟩ := D.ex
  have Sc : FnScope ["script", "cells", "cell"] ["script"] (defScope s_law_state) := ⟨rfl, rfl, rfl, by decide +kernel, rfl, by decide +kernel, by decide +kernel⟩
  refine ⟨fa, fd, F.ok Sc (fun vs H Q E h => ?_) (fun cdv A outer s H vs Q E hr h => ?_), hm, F.kp, F.binds (fun _ _ _ _ _ _ us hl => match us, hl with | [_], _ => rfl)⟩
  · obtain ⟨a, ns, rfl, _⟩ := h
    rfl
  · obtain ⟨a, ns, rfl, hs, hl, hQ⟩ := h
    obtain ⟨s1, s2, s3, eb, m1, m2, ⟨t1, a1, a2⟩, hst2, hm1, hm2⟩ := state_reads (f := fmD B ["script", "cells", "cell"] (defScope s_law_state) 0) rfl ns z_abs z_len
    have hX := fmAt_of (B := B) (H := H) (E := E) (fa := fa) (cdv := cdv) (outer := outer) hr Sc.nd (by decide +kernel)
    have w : Wf W0 (⟨H, H, fun _ => False, ()⟩ : Cfg Unit) := ⟨fun _ _ h => h, fun b h => h.elim, fun b h => h.elim, trivial⟩
    have hd : DpAll B.K H [.ref a] [enc ns] := .cons (.lst hs (ints_dp ns)) .nil
    have r0 : Rel B.K W0 ⟨H, H, fun _ => False, ()⟩ [some (.fr (enc ns)), none, none] (L2.start ["script", "cells", "cell"] [.ref a]) ⟨H, H, fun _ => False, ()⟩ := rel_start (N := ["script", "cells", "cell"]) w hd
    refine ⟨tSeq t1 (tSeq (fun D σ H => ∃ t : TS, (∀ X, FmAt (fmD B ["script", "cells", "cell"] (defScope s_law_state) 0) X → PS X s2 t) ∧ t D σ H) (tRet (tLst (tCons (tC (.int 0)) (tCons (tVar 1) tNil))))), ?_, ?_⟩
    · rw [eb]
      refine pss_cons (a1 _ hX) (pss_cons ⟨fun pins s σ H D I h => ?_⟩ (pss_one ?_))
      · obtain ⟨t, h1, h2⟩ := h
        exact (h1 _ hX).run pins s σ H D I h2
      · obtain ⟨rfl, e2⟩ := List.cons.inj eb
        obtain ⟨rfl, e3⟩ := List.cons.inj e2
        obtain ⟨rfl, _⟩ := List.cons.inj e3
        exact ps_ret (pe_lst (pa_cons pe_int (pa_cons (pv 1) pa_nil)))
    · refine a2 _ _ _ r0 ⟨fun v _ => v.length ≤ 63 ∧ ∀ x ∈ v, 0 ≤ x, fun _ _ => False, (fun e _ => nomatch e), (fun e _ => nomatch e)⟩ _ (hm1 _ hl fun v h1 h2 => ⟨h1, h2⟩) (fun v σ1 c1 r1 _ q1 => ?_) (fun _ _ _ _ _ _ q => q.elim) (fun e => nomatch e) (fun e => nomatch e)
      obtain ⟨t2, b1, b2⟩ := (hst2 v).run
      refine ⟨t2, b1, b2 _ _ _ r1 ⟨fun u _ => u ≠ [] ∧ u.length ≤ 63 ∧ ∀ x ∈ u, 0 ≤ x, fun _ _ => False, (fun e _ => nomatch e), (fun e _ => nomatch e)⟩ _ (hm2 v _ q1.1 q1.2 fun u h1 h2 h3 => ⟨h1, h2, h3⟩) (fun u σ2 c2 r2 _ q2 => ?_) (fun _ _ _ _ _ _ q => q.elim) (fun e => nomatch e) (fun e => nomatch e)⟩
      obtain ⟨q, o, e, k1, k2, k3, k4, k5⟩ := r2.ok 1 _ rfl
      cases o with
      | lst vs =>
        have ev := dpAll_ints (show DpAll B.K c2.F vs (u.map enc) from k2)
        subst ev
        refine ⟨.ref q, e, by show 2 ≤ _; rw [sizeLine_eq]; omega, fun p np => ?_⟩
        have hpq : p ≠ q := fun z => by rw [z, k1] at np; cases np
        refine hQ _ p q (fun b x hb => same_upd np b x (r2.ext.keep b x hb (fun h => h))) ?_ k5 ⟨0, u, upd_same, by rw [upd_ne hpq.symm]; exact k1, hpq, by omega, q2.1, q2.2.1, q2.2.2⟩
        cases z : H p with
        | none => rfl
        | some x => exact absurd np (r2.ext.dom p (some_ne z))
      | _ => exact (show False from k2).elim
end

section
variable {B : Bs}
theorem st_len {H : Hp} {p q : Addr} (h : StAt H p q) : ∃ (k : Int) (cells : List Int), H p = some (.lst [.int k, .ref q]) ∧ H q = some (.lst (cells.map V.int)) ∧ p ≠ q ∧ 0 ≤ k ∧ 0 < cells.length ∧ cells.length ≤ 63 ∧ ∀ x ∈ cells, 0 ≤ x := by
  obtain ⟨k, cells, h1, h2, h3, h4, h5, h6, h7⟩ := h
  exact ⟨k, cells, h1, h2, h3, h4, List.length_pos_iff.mpr h5, h6, h7⟩
theorem at01 {k : Int} {q : Addr} : atI [V.int k, V.ref q] 1 = some (.ref q) := rfl
theorem at00 {k : Int} {q : Addr} : atI [V.int k, V.ref q] 0 = some (.int k) := rfl
theorem ext_write {c : Cfg Unit} {p : Addr} {o : HO} (hv : c.vol p) : Ext c (c.made p o) :=
  ⟨fun b x e n => by
    show upd c.H p o b = some x
    rw [upd_ne (fun z => n (by rw [z]; exact hv))]
    exact e, Same.refl _, fun _ _ => rfl, fun _ h => h, fun _ h _ => h, fun b h => by
    show upd c.H p o b ≠ none
    by_cases z : b = p
    · rw [z, upd_same]; exact fun w => nomatch w
    · rw [upd_ne z]; exact h⟩
theorem wf_write {c : Cfg Unit} {p q : Addr} {o : HO} (w : Wf (LawW p) c) {b : Addr} (hb : c.vol b) (hi : (LawW p).I c.g c.vol (upd c.H b o)) : Wf (LawW p) (c.made b o) where
  sub := fun a x e => by
    have hx : c.F a = some x := e
    have ne : a ≠ b := fun z => by
      have := w.vf b hb
      rw [← z] at this
      rw [this] at hx
      cases hx
    show upd c.H b o a = some x
    rw [upd_ne ne]
    exact w.sub _ _ hx
  vf := w.vf
  vh := fun a h => by
    show upd c.H b o a ≠ none
    by_cases z : a = b
    · rw [z, upd_same]; exact fun w => nomatch w
    · rw [upd_ne z]; exact w.vh a h
  inv := hi
theorem fnW_law_take (D : DefAt B "_law_take" s_law_take) (z_len : B.mg "len" = none) (z_int : B.mg "int" = none) : FnW B 1 "_law_take" m_law_take := by
  obtain ⟨fa, fd, F, hm⟩ := D.ex
  have Sc : FnScope ["state", "most", "cells", "at", "cell", "mixed"] ["state", "most"] (defScope s_law_take) := ⟨rfl, rfl, rfl, by decide +kernel, rfl, by decide +kernel, by decide +kernel⟩
  refine ⟨fa, fd, _, F.ok Sc (fun vs H Q E h => ?_) (fun cdv A outer s H vs Q E hr h => ?_), hm, F.kp, F.binds (fun _ _ _ _ _ _ us hl => match us, hl with | [_, _], _ => rfl)⟩
  · obtain ⟨p, us, c, y, C, rfl, _, _, h2, _⟩ := h
    rw [List.length_cons, dpAll_len h2]
    rfl
  · obtain ⟨p, us, c, ⟨most, u0⟩, C, rfl, rfl, w, hd, hC, hQ⟩ := h
    obtain ⟨hp0, hp1, hC⟩ := hC
    obtain ⟨q, hst, hv⟩ := w.inv
    obtain ⟨k, cells, h1, h2, h3, h4, h5, h6, h7⟩ := st_len hst
    have hus : us = [.int most] := by
      cases hd with
      | cons a t => cases t; rw [dp_int a]
    subst hus
    refine ⟨_, pss_cons (ps_set (i := 2) Sc.nd rfl (.inl rfl) (pe_ix ix_list (pv 0) pe_int (fun _ _ => rfl)))
      (pss_cons (ps_set (i := 3) Sc.nd rfl (.inl rfl) (pe_op op_mod (pe_ix ix_list (pv 0) pe_int (fun _ _ => rfl)) (pe_callB call_len_seq (by rfl) z_len PySem.boot_len (pa_cons (pv 2) pa_nil))))
      (pss_cons (ps_set (i := 4) Sc.nd rfl (.inl rfl) (pe_ix ix_list (pv 2) (pv 3) (fun _ _ => rfl)))
      (pss_cons (ps_if (pt_cmpR op_ge (pv 4) pe_int (nomark _)) (pss_cons (ps_asg (pe_op op_fdivN (pv 4) (pv 1)) (pg_sub (pv 2) (pv 3) set_list (fun _ => rfl))) (pss_one (ps_ret (pe_op op_mod (pv 4) (pv 1))))) pss_nil)
      (pss_cons (ps_asg (pe_op op_add (pe_ix ix_list (pv 0) pe_int (fun _ _ => rfl)) pe_int) (pg_sub (pv 0) pe_int set_list (fun _ => rfl)))
      (pss_cons (ps_set (i := 5) Sc.nd rfl (.inl rfl) (pe_op op_mod (pe_callTy call_int1 (by rfl) z_int (by decide +kernel) (pa_cons (pe_op op_add (pe_op op_mul (pv 4) pe_int) (pe_op op_mul (pe_ix ix_list (pv 0) pe_int (fun _ _ => rfl)) pe_int)) pa_nil)) pe_int))
      (pss_cons (ps_set (i := 5) Sc.nd rfl (.inl rfl) (pe_op op_mod (pe_callTy call_int1 (by rfl) z_int (by decide +kernel) (pa_cons (pe_op op_add (pe_op op_mul (pv 5) pe_int) (pe_op op_mul (pe_ix ix_list (pv 0) pe_int (fun _ _ => rfl)) pe_int)) pa_nil)) pe_int))
      (pss_one (ps_ret (pe_op op_mod (pe_op op_fdivN (pv 5) pe_int) (pv 1)))))))))), ?_⟩
    have hvp : c.vol p := (hv p).mpr (.inl rfl)
    have hvq : c.vol q := (hv q).mpr (.inr rfl)
    -- cells = state[1]
    refine ⟨.ref p, rfl, p, _, 1, .ref q, rfl, rfl, .inl (.inl h1), at01, ?_⟩
    -- at = state[0] % len(cells)
    refine ⟨.ref p, rfl, p, _, 0, .int k, rfl, rfl, .inl (.inl h1), at00, .ref q, rfl, q, cells.map V.int, rfl, .inl (.inl (.inl h2)), ?_⟩
    rw [List.length_map]
    refine ⟨k, (cells.length : Int), rfl, rfl, by omega, ?_⟩
    have hm0 : 0 ≤ k % (cells.length : Int) := Int.emod_nonneg _ (by omega)
    have hm1 : k % (cells.length : Int) < cells.length := Int.emod_lt_of_pos _ (by omega)
    obtain ⟨j, hj⟩ := Int.eq_ofNat_of_zero_le hm0
    have hjl : j < cells.length := by omega
    have hcell : (cells.map V.int)[j]? = some (.int cells[j]) := by rw [List.getElem?_map, List.getElem?_eq_getElem hjl]; rfl
    have hc0 : 0 ≤ cells[j] := h7 _ (List.getElem_mem hjl)
    -- cell = cells[at]
    refine ⟨.ref q, rfl, .int (k % (cells.length : Int)), rfl, q, cells.map V.int, k % (cells.length : Int), .int cells[j], rfl, rfl, .inl (.inl h2), by rw [hj]; exact atI_nat hcell, ?_⟩
    refine ⟨.int cells[j], rfl, cells[j], _, rfl, rfl, _, rfl, ite2 (fun hbig => ?_) (fun hbig => ?_)⟩
    · refine ⟨.int cells[j], rfl, .int most, rfl, cells[j], most, rfl, rfl, ⟨by omega, by omega⟩, ?_⟩
      refine ⟨.ref q, rfl, .int (k % (cells.length : Int)), rfl, q, cells.map V.int, k % (cells.length : Int), j, rfl, rfl, h2, by rw [List.length_map, hj]; unfold ixN; rw [if_pos (by omega), if_pos (by omega)]; simp, ?_⟩
      refine ⟨.int cells[j], rfl, .int most, rfl, cells[j], most, rfl, rfl, hp0, ?_⟩
      refine hQ (cells[j] % most) _ (c.made q (.lst ((cells.map V.int).set j (.int (cells[j].fdiv most))))) (ext_write hvq) (wf_write (q := q) w hvq ⟨q, ⟨k, cells.set j (cells[j].fdiv most), ?_, ?_, h3, h4, ?_, ?_, ?_⟩, hv⟩) (.int _) (hC _ (Int.emod_nonneg _ (by omega)) (Int.emod_lt_of_pos _ hp0))
      · rw [upd_ne h3]; exact h1
      · rw [upd_same, List.map_set]
      · rw [ne_eq, ← List.length_eq_zero_iff, List.length_set]; omega
      · rw [List.length_set]; exact h6
      · intro x hx
        rcases List.mem_or_eq_of_mem_set hx with hx | hx
        · exact h7 x hx
        · rw [hx, Int.fdiv_eq_ediv_of_nonneg _ (by omega)]
          exact Int.ediv_nonneg hc0 (by omega)
    · -- state[0] = state[0] + 1
      refine ⟨.ref p, rfl, p, _, 0, .int k, rfl, rfl, .inl (.inl h1), at00, k, 1, rfl, rfl, ?_⟩
      refine ⟨.ref p, rfl, p, _, 0, 0, rfl, rfl, h1, rfl, ?_⟩
      have h1' : upd c.H p (.lst [.int (k + 1), .ref q]) p = some (.lst [.int (k + 1), .ref q]) := upd_same
      have sm : ∀ m : Int, CMul m 48271 := fun m => .inr ⟨by decide, by decide⟩
      -- mixed
      refine ⟨.int cells[j], rfl, cells[j], 48271, rfl, rfl, .inr ⟨by decide, by decide⟩, ?_⟩
      refine ⟨.ref p, rfl, p, _, 0, .int (k + 1), rfl, rfl, .inl (.inl h1'), at00, k + 1, 69621, rfl, rfl, .inr ⟨by decide, by decide⟩, _, _, rfl, rfl, .inl ⟨_, rfl, ?_⟩⟩
      refine ⟨_, 2147483647, rfl, rfl, show (0 : Int) < 2147483647 by decide, ?_⟩
      obtain ⟨x1, hx1⟩ : ∃ x, x = (cells[j] * 48271 + (k + 1) * 69621) % 2147483647 := ⟨_, rfl⟩
      refine ⟨.int x1, by rw [hx1]; rfl, x1, 16807, rfl, rfl, .inr ⟨by decide, by decide⟩, ?_⟩
      refine ⟨.ref p, rfl, p, _, 0, .int (k + 1), rfl, rfl, .inl (.inl h1'), at00, k + 1, 7919, rfl, rfl, .inr ⟨by decide, by decide⟩, _, _, rfl, rfl, .inl ⟨_, rfl, ?_⟩⟩
      refine ⟨_, 1000000007, rfl, rfl, show (0 : Int) < 1000000007 by decide, ?_⟩
      obtain ⟨x2, hx2⟩ : ∃ x, x = (x1 * 16807 + (k + 1) * 7919) % 1000000007 := ⟨_, rfl⟩
      refine ⟨.int x2, by rw [hx2]; rfl, x2, 7, rfl, rfl, ⟨by decide, by decide⟩, .int most, rfl, _, most, rfl, rfl, hp0, ?_⟩
      refine hQ _ _ (c.made p (.lst [.int (k + 1), .ref q])) (ext_write hvp) (wf_write (q := q) w hvp ⟨q, ⟨k + 1, cells, upd_same, ?_, h3, by omega, ?_, h6, h7⟩, hv⟩) (.int _) (hC _ (Int.emod_nonneg _ (by omega)) (Int.emod_lt_of_pos _ hp0))
      · rw [upd_ne h3.symm]; exact h2
      · exact List.length_pos_iff.mp h5
end

/-! ### the plain law -/
theorem bx_in {mk n mi mo : Int} {A B : List Row} {da db : List (Int × Int)} : bxAt (stOf mk n mi mo A B da db) (Str.ofString "in") = some ⟨"in", mi, A, da⟩ := by
  unfold bxAt stOf
  exact List.find?_cons_of_pos (by rw [peq_iff])
theorem bx_old {mk n mi mo : Int} {A B : List Row} {da db : List (Int × Int)} : bxAt (stOf mk n mi mo A B da db) (Str.ofString "old") = some ⟨"old", mo, B, db⟩ := by
  unfold bxAt stOf
  refine (List.find?_cons_of_neg (by rw [peq_iff]; exact io_ne)).trans ?_
  exact List.find?_cons_of_pos (by rw [peq_iff])
theorem fil_in {x y : Bx} (hx : x.a = Str.ofString "in") (hy : y.a = Str.ofString "old") : ([x, y].filter fun b => !peq b.a (Str.ofString "in")) = [y] := by
  rw [List.filter_cons_of_neg (by rw [peq_s]; simp [hx]), List.filter_cons_of_pos (by rw [peq_s, hy]; decide), List.filter_nil]
theorem fil_old {x y : Bx} (hx : x.a = Str.ofString "in") (hy : y.a = Str.ofString "old") : ([x, y].filter fun b => !peq b.a (Str.ofString "old")) = [x] := by
  rw [List.filter_cons_of_pos (by rw [peq_s, hx]; decide), List.filter_cons_of_neg (by rw [peq_s]; simp [hy]), List.filter_nil]
theorem fil_old' {x y : Bx} (hx : x.a = Str.ofString "old") (hy : y.a = Str.ofString "in") : ([x, y].filter fun b => !peq b.a (Str.ofString "old")) = [y] := by
  rw [List.filter_cons_of_neg (by rw [peq_s]; simp [hx]), List.filter_cons_of_pos (by rw [peq_s, hy]; decide), List.filter_nil]
theorem pil_old {x y : Bx} (hx : x.a = Str.ofString "in") (hy : y.a = Str.ofString "old") : ([x, y].filter fun b => peq b.a (Str.ofString "old")) = [y] := by
  rw [List.filter_cons_of_neg (by rw [peq_s, hx]; decide), List.filter_cons_of_pos (by rw [peq_s]; simp [hy]), List.filter_nil]
theorem pil_old' {x y : Bx} (hx : x.a = Str.ofString "old") (hy : y.a = Str.ofString "in") : ([x, y].filter fun b => peq b.a (Str.ofString "old")) = [x] := by
  rw [List.filter_cons_of_pos (by rw [peq_s]; simp [hx]), List.filter_cons_of_neg (by rw [peq_s, hy]; decide), List.filter_nil]
theorem srt_io {x y : Bx} (hx : x.a = Str.ofString "in") (hy : y.a = Str.ofString "old") : srtK (fun b : Bx => b.a) [x, y] = [x, y] := by
  rw [srtK_two, if_neg (by rw [hx, hy, plt_oi]; decide)]
theorem srt_oi {x y : Bx} (hx : x.a = Str.ofString "old") (hy : y.a = Str.ofString "in") : srtK (fun b : Bx => b.a) [x, y] = [y, x] := by
  rw [srtK_two, if_pos (by rw [hx, hy, plt_io])]
section
variable {mk n mi mo : Int} {A B : List Row} {da db : List (Int × Int)}
theorem do_add_in {t : Str} {C : (Stor × Str × Int) → Prop} (h : A.length < 1000) (hC : C (stOf (mk + 1) (n + 1) mi mo (A ++ [⟨n, t, ⟨[]⟩, mk + 1⟩]) B da db, "number", n)) : m_do_add (stOf mk n mi mo A B da db, ⟨"add", "in", t, []⟩, ()) C := by
  refine ⟨rfl, rfl, _, bx_in, by show 2 < 100; decide, h, ?_⟩
  dsimp only [stOf]
  rw [fil_in rfl rfl, List.singleton_append, srt_oi rfl rfl]
  exact hC
theorem do_add_old {t : Str} {C : (Stor × Str × Int) → Prop} (h : B.length < 1000) (hC : C (stOf (mk + 1) (n + 1) mi mo A (B ++ [⟨n, t, ⟨[]⟩, mk + 1⟩]) da db, "number", n)) : m_do_add (stOf mk n mi mo A B da db, ⟨"add", "old", t, []⟩, ()) C := by
  refine ⟨rfl, rfl, _, bx_old, by show 2 < 100; decide, h, ?_⟩
  dsimp only [stOf]
  rw [fil_old rfl rfl, List.singleton_append, srt_io rfl rfl]
  exact hC
theorem do_rem_in {k : Int} {row : Row} {C : (Stor × T1 Str) → Prop} (h : A.length < 1000) (h' : da.length < 1000) (hr : A.find? (fun r => peq r.a k) = some row) (hk : row.a = k)
    (hC : C (stOf (mk + 1) n mi mo (kept k A) B (da ++ [(mk + 1, k)]) db, ⟨"done"⟩)) : m_do_rem (stOf mk n mi mo A B da db, ⟨"remove", "in", k⟩, ()) C := by
  subst hk
  refine ⟨rfl, _, row, bx_in, hr, rfl, by show 2 < 100; decide, h, h', ?_⟩
  dsimp only [stOf]
  rw [fil_in rfl rfl, List.singleton_append, srt_oi rfl rfl]
  exact hC
theorem do_copy {k : Int} {row : Row} {C : (Stor × Str × Int) → Prop} (h : A.length < 1000) (h' : da.length < 1000) (hb : B.length < 1000) (hr : A.find? (fun r => peq r.a k) = some row)
    (hC : C (stOf (mk + 1) (n + 1) mi mo A (B ++ [⟨n, row.b, row.c, mk + 1⟩]) da db, "number", n)) : m_do_move (stOf mk n mi mo A B da db, ⟨"copy", "in", k, "old"⟩, ()) C := by
  have ea : ∀ d : List Bx, away (⟨"store", mk, n, d⟩, ⟨"in", mi, A, da⟩, row, ⟨"copy", "in", k, "old"⟩, ()) = d := fun d => if_neg (by rw [peq_iff]; show ¬ (Str.ofString "copy" = Str.ofString "move"); decide)
  refine ⟨.inr rfl, by rw [bx_old]; rfl, _, row, bx_in, hr, .inr rfl, by show 2 < 100; decide, h, h', ⟨"old", mo, B, db⟩, ?_, hb, ?_⟩
  · dsimp only [stOf]
    rw [ea, pil_old rfl rfl]
    rfl
  · dsimp only [stOf]
    rw [ea, fil_old rfl rfl, List.singleton_append, srt_io rfl rfl]
    exact hC
theorem do_move {k : Int} {row : Row} {C : (Stor × Str × Int) → Prop} (h : A.length < 1000) (h' : da.length < 1000) (hb : B.length < 1000) (hr : A.find? (fun r => peq r.a k) = some row) (hk : row.a = k)
    (hC : C (stOf (mk + 1) (n + 1) mi mo (kept k A) (B ++ [⟨n, row.b, row.c, mk + 1⟩]) (da ++ [(mk + 1, k)]) db, "number", n)) : m_do_move (stOf mk n mi mo A B da db, ⟨"move", "in", k, "old"⟩, ()) C := by
  subst hk
  have ea : ∀ d : List Bx, away (⟨"store", mk, n, d⟩, ⟨"in", mi, A, da⟩, row, ⟨"move", "in", row.a, "old"⟩, ()) = (d.filter fun b => !peq b.a (Str.ofString "in")) ++ [⟨"in", mi, kept row.a A, da ++ [(mk + 1, row.a)]⟩] := fun d => if_pos (by rw [peq_iff])
  refine ⟨.inl rfl, by rw [bx_old]; rfl, _, row, bx_in, hr, .inl rfl, by show 2 < 100; decide, h, h', ⟨"old", mo, B, db⟩, ?_, hb, ?_⟩
  · dsimp only [stOf]
    rw [ea, fil_in rfl rfl, List.singleton_append, pil_old' rfl rfl]
    rfl
  · dsimp only [stOf]
    rw [ea, fil_in rfl rfl, List.singleton_append, fil_old' rfl rfl, List.singleton_append, srt_io rfl rfl]
    exact hC
theorem view_in {C : Option (List (T3 Int Str (Tup Int))) → Prop} (h : A.length < 1000) (hC : C (some (A.map fun r => T3.mk r.a r.b r.c))) : m_view (stOf mk n mi mo A B da db, Str.ofString "in", ()) C := by
  refine ⟨fun b hb => ?_, ?_⟩
  · dsimp only at hb
    rw [bx_in] at hb
    cases hb
    exact h
  · dsimp only
    rw [bx_in]
    exact hC
theorem view_old {C : Option (List (T3 Int Str (Tup Int))) → Prop} (h : B.length < 1000) (hC : C (some (B.map fun r => T3.mk r.a r.b r.c))) : m_view (stOf mk n mi mo A B da db, Str.ofString "old", ()) C := by
  refine ⟨fun b hb => ?_, ?_⟩
  · dsimp only at hb
    rw [bx_old] at hb
    cases hb
    exact h
  · dsimp only
    rw [bx_old]
    exact hC
end
/-- numbers that go up -/
def Up (l : List Int) : Prop := l.Pairwise (· < ·)
theorem find_up {α : Type} (f : α → Int) {l : List α} (hp : Up (l.map f)) {x : α} (hx : x ∈ l) : l.find? (fun y => peq (f y) (f x)) = some x := by
  obtain ⟨i, hi, rfl⟩ := List.getElem_of_mem hx
  rw [List.find?_eq_some_iff_getElem]
  refine ⟨by rw [peq_iff], i, hi, rfl, fun j hj => ?_⟩
  unfold Up at hp
  rw [List.pairwise_iff_getElem] at hp
  have := hp j i (by rw [List.length_map]; omega) (by rw [List.length_map]; exact hi) hj
  rw [List.getElem_map, List.getElem_map] at this
  rw [peq_i]
  simp
  omega
theorem up_snoc {l : List Int} {n : Int} (h : Up l) (hn : ∀ x ∈ l, x < n) : Up (l ++ [n]) := by
  unfold Up
  rw [List.pairwise_append]
  exact ⟨h, by simp, fun a ha b hb => by rw [List.mem_singleton] at hb; rw [hb]; exact hn a ha⟩
def rowsOf (v : List Int) (n : Int) : List (Int × Int) := (enumI v).map fun x => (x.2, n + x.1)
theorem rowsOf_len {v : List Int} {n : Int} : (rowsOf v n).length = v.length := by
  unfold rowsOf enumI
  rw [List.length_map, List.length_mapIdx]
theorem rowsOf_get {v : List Int} {n : Int} {i : Nat} (h : i < v.length) : (rowsOf v n)[i]? = some (v[i], n + i) := by
  unfold rowsOf enumI
  rw [List.getElem?_map, List.getElem?_mapIdx, List.getElem?_eq_getElem h]
  rfl
theorem rowsOf_fst {v : List Int} {n : Int} : (rowsOf v n).map (·.1) = v := by
  refine List.ext_getElem? fun i => ?_
  rw [List.getElem?_map]
  by_cases h : i < v.length
  · rw [rowsOf_get h, List.getElem?_eq_getElem h]
    rfl
  · rw [List.getElem?_eq_none (by rw [rowsOf_len]; omega), List.getElem?_eq_none (by omega)]
    rfl
theorem rowsOf_snd {v : List Int} {n : Int} : (rowsOf v n).map (·.2) = rangeI n v.length := by
  refine List.ext_getElem? fun i => ?_
  unfold rangeI
  rw [List.getElem?_map, List.getElem?_map]
  by_cases h : i < v.length
  · rw [rowsOf_get h, List.getElem?_range h]
    rfl
  · rw [List.getElem?_eq_none (by rw [rowsOf_len]; omega), List.getElem?_eq_none (by rw [List.length_range]; omega)]
    rfl
theorem rowsOf_up {v : List Int} {n : Int} (h : Up v) : (rowsOf v n).Pairwise fun a b => a.1 < b.1 := by
  have : Up ((rowsOf v n).map (·.1)) := by rw [rowsOf_fst]; exact h
  unfold Up at this
  rw [List.pairwise_map] at this
  exact this
theorem new_at {v : List Int} {n : Int} (h : Up v) {i : Nat} (hi : i < v.length) : ((rowsOf v n).find? fun r => peq r.1 v[i]).map (·.2) = some (n + i) := by
  have q := find_up (fun r : Int × Int => r.1) (l := rowsOf v n) (by rw [rowsOf_fst]; exact h) (List.mem_of_getElem? (rowsOf_get (n := n) hi))
  dsimp only at q
  rw [q]
  rfl
theorem new_none {v : List Int} {n k : Int} (h : k ∉ v) : ((rowsOf v n).find? fun r => peq r.1 k).map (·.2) = none := by
  have q : (rowsOf v n).find? (fun r => peq r.1 k) = none := by
    rw [List.find?_eq_none]
    intro x hx hq
    rw [peq_iff] at hq
    refine h ?_
    rw [← rowsOf_fst (v := v) (n := n), ← hq]
    exact List.mem_map_of_mem hx
  rw [q]
  rfl
theorem range_snoc {n : Int} {k : Nat} : rangeI n (k + 1) = rangeI n k ++ [n + k] := by
  unfold rangeI
  rw [List.range_succ, List.map_append]
  rfl
theorem kept_out {k : Int} {A : List Row} (h : k ∉ A.map (·.a)) : kept k A = A := by
  unfold kept
  rw [List.filter_eq_self]
  intro r hr
  rw [peq_i]
  simp
  exact fun e => h (by rw [← e]; exact List.mem_map_of_mem hr)
theorem kept_head {x : Row} {A : List Row} (h : Up ((x :: A).map (·.a))) : kept x.a (x :: A) = A := by
  unfold kept
  rw [List.filter_cons_of_neg (by rw [peq_i]; simp)]
  refine kept_out ?_
  unfold Up at h
  rw [List.map_cons, List.pairwise_cons] at h
  intro hm
  have := h.1 _ hm
  omega
theorem kept_sub {k : Int} {A : List Row} : ((kept k A).map (·.a)).Sublist (A.map (·.a)) := (List.filter_sublist ..).map _
theorem kept_mem {k j : Int} {A : List Row} (h : j ∈ A.map (·.a)) (hk : j ≠ k) : j ∈ (kept k A).map (·.a) := by
  obtain ⟨r, hr, rfl⟩ := List.mem_map.mp h
  refine List.mem_map_of_mem (List.mem_filter.mpr ⟨hr, ?_⟩)
  rw [peq_i]
  simp [hk]
/-- a store that the law's stores look like -/
def Good (c : Nat) (s : Stor) (A B : List Row) : Prop := ∃ mk n mi mo da db, s = stOf mk n mi mo A B da db ∧ Up (A.map (·.a)) ∧ Up (B.map (·.a)) ∧ (∀ x ∈ A.map (·.a), x < n) ∧ (∀ x ∈ B.map (·.a), x < n) ∧ A.length + B.length ≤ c ∧ da.length ≤ c
theorem good_add {s : Stor} {A B : List Row} {c : Nat} (h : Good c s A B) (hc : c < 500) {t : Str} {C : (Stor × Str × Int) → Prop} (x : Str) (hx : x = "in" ∨ x = "old") (hC : ∀ s' A' B' z, Good (c + 1) s' A' B' → C (s', z)) : m_do_add (s, ⟨"add", x, t, []⟩, ()) C := by
  obtain ⟨mk, n, mi, mo, da, db, rfl, h1, h2, h3, h4, h5, h6⟩ := h
  rcases hx with rfl | rfl
  · refine do_add_in (by omega) (hC _ (A ++ [⟨n, t, ⟨[]⟩, mk + 1⟩]) B _ ⟨mk + 1, n + 1, mi, mo, da, db, rfl, ?_, h2, ?_, fun x hx => by have := h4 x hx; omega, by rw [List.length_append]; show _ + 1 + _ ≤ _; omega, by omega⟩)
    · rw [List.map_append]
      exact up_snoc h1 h3
    · intro x hx
      rw [List.map_append] at hx
      rcases List.mem_append.mp hx with hx | hx
      · have := h3 x hx; omega
      · rw [List.map_singleton, List.mem_singleton] at hx
        dsimp only at hx
        omega
  · refine do_add_old (by omega) (hC _ A (B ++ [⟨n, t, ⟨[]⟩, mk + 1⟩]) _ ⟨mk + 1, n + 1, mi, mo, da, db, rfl, h1, ?_, fun x hx => by have := h3 x hx; omega, ?_, by rw [List.length_append]; show _ + (_ + 1) ≤ _; omega, by omega⟩)
    · rw [List.map_append]
      exact up_snoc h2 h4
    · intro x hx
      rw [List.map_append] at hx
      rcases List.mem_append.mp hx with hx | hx
      · have := h4 x hx; omega
      · rw [List.map_singleton, List.mem_singleton] at hx
        dsimp only at hx
        omega
theorem find_a {A : List Row} (h : Up (A.map (·.a))) {k : Int} (hk : k ∈ A.map (·.a)) : ∃ row, A.find? (fun r => peq r.a k) = some row ∧ row.a = k := by
  obtain ⟨r, hr, rfl⟩ := List.mem_map.mp hk
  exact ⟨r, find_up (fun r : Row => r.a) h hr, rfl⟩
theorem good_rem {s : Stor} {A B : List Row} {c : Nat} (h : Good c s A B) (hc : c < 500) {k : Int} (hk : k ∈ A.map (·.a)) {C : (Stor × T1 Str) → Prop} (hC : ∀ s' z, Good (c + 1) s' (kept k A) B → C (s', z)) : m_do_rem (s, ⟨"remove", "in", k⟩, ()) C := by
  obtain ⟨mk, n, mi, mo, da, db, rfl, h1, h2, h3, h4, h5, h6⟩ := h
  obtain ⟨row, e1, e2⟩ := find_a h1 hk
  refine do_rem_in (by omega) (by omega) e1 e2 (hC _ _ ⟨mk + 1, n, mi, mo, _, db, rfl, h1.sublist kept_sub, h2, fun x hx => h3 x (kept_sub.subset hx), h4, ?_, by rw [List.length_append]; show _ + 1 ≤ _; omega⟩)
  have := (kept_sub (k := k) (A := A)).length_le
  rw [List.length_map, List.length_map] at this
  omega
/-- the numbers come one by one -/
structure Gone (word : Str) (mi mo n : Int) (A0 B0 : List Row) (done : Nat) (s : Stor) : Prop where
  ex : ∃ mk A B da db, s = stOf mk (n + done) mi mo A B da db ∧ A = (if word = Str.ofString "copy" then A0 else A0.drop done) ∧ B.map (·.a) = B0.map (·.a) ++ rangeI n done ∧ da.length ≤ 100 + done
theorem gone_step {word : Str} (hw : word = "copy" ∨ word = "move") {mi mo n : Int} {A0 B0 : List Row} {done : Nat} {s : Stor} (h : Gone word mi mo n A0 B0 done s) (hA : Up (A0.map (·.a))) (hd : done < A0.length) (hl : A0.length < 100) (hb : B0.length < 100) {C : (Stor × Str × Int) → Prop}
    (hC : ∀ s', Gone word mi mo n A0 B0 (done + 1) s' → C (s', "number", n + done)) : m_do_move (s, ⟨word, "in", A0[done].a, "old"⟩, ()) C := by
  obtain ⟨mk, A, B, da, db, rfl, hA', hB, hda⟩ := h.ex
  have hbl : B.length = B0.length + done := by
    have := congrArg List.length hB
    rw [List.length_map, List.length_append, List.length_map] at this
    unfold rangeI at this
    rw [List.length_map, List.length_range] at this
    exact this
  rcases hw with rfl | rfl
  · rw [if_pos rfl] at hA'
    rw [hA']
    obtain ⟨row, e1, e2⟩ := find_a hA (k := A0[done].a) (List.mem_map_of_mem (List.getElem_mem hd))
    refine do_copy (by omega) (by omega) (by omega) e1 (hC _ ⟨mk + 1, A0, _, da, db, by rw [show n + ((done + 1 : Nat) : Int) = n + done + 1 by omega], (if_pos rfl).symm, ?_, by omega⟩)
    rw [List.map_append, hB, range_snoc, List.append_assoc]
    rfl
  · have hne : ¬ Str.ofString "move" = Str.ofString "copy" := by decide
    rw [if_neg hne] at hA'
    have hdr : A = A0[done] :: A0.drop (done + 1) := by rw [hA', List.drop_eq_getElem_cons hd]
    have hup : Up ((A0[done] :: A0.drop (done + 1)).map (·.a)) := by
      rw [← hdr, hA', List.map_drop]
      exact hA.sublist (List.drop_sublist _ _)
    have hal : A.length ≤ A0.length := by rw [hA', List.length_drop]; omega
    have e1 : A.find? (fun r => peq r.a A0[done].a) = some A0[done] := by rw [hdr]; exact List.find?_cons_of_pos (by rw [peq_iff])
    refine do_move (by omega) (by omega) (by omega) e1 rfl (hC _ ⟨mk + 1, kept A0[done].a A, _, _, db, by rw [show n + ((done + 1 : Nat) : Int) = n + done + 1 by omega], ?_, ?_, by rw [List.length_append]; show _ + 1 ≤ _; omega⟩)
    · rw [if_neg hne, hdr, kept_head hup]
    · rw [List.map_append, hB, range_snoc, List.append_assoc]
      rfl
theorem sq_num {k : Int} : Sq.ok ((Str.ofString "number", k) : Str × Int) := ⟨show PyData.canLay0 (.str (Str.ofString "number")) = true by decide +kernel, trivial⟩
theorem map_t3 {A : List Row} : ((A.map fun r => T3.mk r.a r.b r.c).map fun x : T3 Int Str (Tup Int) => x.a) = A.map (·.a) := by
  rw [List.map_map]
  rfl
theorem Good.mono {c c' : Nat} {s : Stor} {A B : List Row} (h : Good c s A B) (hc : c ≤ c') : Good c' s A B := by
  obtain ⟨mk, n, mi, mo, da, db, e, h1, h2, h3, h4, h5, h6⟩ := h
  exact ⟨mk, n, mi, mo, da, db, e, h1, h2, h3, h4, by omega, by omega⟩
theorem take_of {n : Int} {C : Int → Prop} (h0 : 0 < n) (h1 : n < 1073741824) (h : ∀ r : Int, 0 ≤ r → r < n → C r) : m_law_take (n, ()) C := ⟨h0, h1, h⟩
theorem nt_of {v : List Int} {n : Int} {C : (List (Int × Int) × Int) → Prop} (h : v.length < 1000) (hC : C (rowsOf v n, n + v.length)) : m_numbers_there (v, n, ()) C := ⟨h, hC⟩
theorem nn_of {v : List Int} {n k : Int} {C : Option Int → Prop} (h : Up v) (hC : C (((rowsOf v n).find? fun r => peq r.1 k).map (·.2))) : m_new_number (rowsOf v n, k, ()) C := ⟨rowsOf_up h, hC⟩
theorem two_makes {P : Po Unit Stor Bool Empty} (h : ∀ s, Good 0 s [] [] → P.nx s ()) : forW (fun s3 x4 g (P : Po Unit Stor Bool Stor) => m_do_make (s3, (Str.ofString "make", x4), ()) fun z => P.nx z.fst g) [Str.ofString "in", Str.ofString "old"] ⟨"store", 0, 1, []⟩ () P := by
  show m_do_make (⟨"store", 0, 1, []⟩, (Str.ofString "make", Str.ofString "in"), ()) (fun z => m_do_make (z.1, (Str.ofString "make", Str.ofString "old"), ()) (fun z => P.nx z.1 ()))
  refine ⟨rfl, rfl, by show 0 < 1000; decide, ?_⟩
  dsimp only
  rw [List.nil_append, srtK_one]
  refine ⟨rfl, ?_, by show 1 < 1000; decide, ?_⟩
  · exact (List.find?_cons_of_neg (by rw [peq_iff]; exact io_ne)).trans rfl
  · dsimp only
    rw [List.singleton_append, srt_io rfl rfl]
    exact h _ ⟨_, _, _, _, [], [], rfl, List.Pairwise.nil, List.Pairwise.nil, (fun x hx => nomatch hx), (fun x hx => nomatch hx), Nat.le_refl 0, Nat.le_refl 0⟩
theorem up_range {n : Int} {k : Nat} {l : List Int} (h : Up l) (hn : ∀ x ∈ l, x < n) : Up (l ++ rangeI n k) ∧ ∀ x ∈ l ++ rangeI n k, x < n + k := by
  induction k with
  | zero =>
    have e : rangeI n 0 = [] := rfl
    rw [e, List.append_nil]
    exact ⟨h, fun x hx => by have := hn x hx; omega⟩
  | succ k ih =>
    rw [range_snoc, ← List.append_assoc]
    refine ⟨up_snoc ih.1 ih.2, fun x hx => ?_⟩
    rcases List.mem_append.mp hx with hx | hx
    · have := ih.2 x hx; omega
    · rw [List.mem_singleton] at hx; omega
theorem range_len {n : Int} {k : Nat} : (rangeI n k).length = k := by
  unfold rangeI
  rw [List.length_map, List.length_range]
theorem tail_ok {v b0 : List Int} {n mk n' mi mo : Int} {A B : List Row} {da db : List (Int × Int)} {PP : Po Unit Unit Bool Empty} (hv : Up v) (hb : Up b0) (hb' : ∀ x ∈ b0, x < n) (hB : B.map (·.a) = b0 ++ rangeI n v.length) (hBl : B.length < 1000) (hP : PP.nx () ()) :
    forW (fun (_ : Unit) (x47 : Int) (g : Unit) (P : Po Unit Unit Bool Unit) => ∃ x, atI (rowsOf v n) x47 = some x ∧ m_place_of (stOf mk n' mi mo A B da db, Str.ofString "old", x.snd, ()) fun z_2 =>
      if (!peq z_2 ((b0.length : Int) + x47 + 1)) = true then (if true = true then P.rt false g else P.nx () g)
      else ∃ x, atI (rowsOf v n) x47 = some x ∧ m_new_number (rowsOf v n, x.fst, ()) fun z_3 => ∃ x, atI (rowsOf v n) x47 = some x ∧ if (!peq z_3 x.snd) = true then P.rt false g else P.nx () g) (rangeI 0 ((rowsOf v n).length : Int).toNat) () () PP := by
  have hup := up_range (k := v.length) hb hb'
  refine forW_inv (fun xs _ => ∃ d : Nat, d + xs.length = v.length ∧ xs = rangeI d (v.length - d)) ⟨0, ?_, ?_⟩ (fun _ _ => hP) (fun x xs _ hI P' hn _ _ _ => ?_)
  · rw [range_len, rowsOf_len]; omega
  · rw [rowsOf_len]; rfl
  · obtain ⟨d, h1, h2⟩ := hI
    have hdl : d < v.length := by rw [List.length_cons] at h1; omega
    have hx : x = d ∧ xs = rangeI ((d + 1 : Nat) : Int) (v.length - (d + 1)) := by
      have e : v.length - d = (v.length - (d + 1)) + 1 := by omega
      rw [e] at h2
      unfold rangeI at h2
      rw [List.range_succ_eq_map, List.map_cons, List.map_map] at h2
      obtain ⟨a, b⟩ := List.cons.inj h2
      refine ⟨by rw [a]; simp, ?_⟩
      rw [b]
      unfold rangeI
      refine List.map_congr_left fun i _ => ?_
      simp
      omega
    obtain ⟨rfl, hxs⟩ := hx
    have hat : atI (rowsOf v n) (d : Int) = some (v[d], n + d) := atI_nat (rowsOf_get hdl)
    refine ⟨_, hat, ⟨"old", mo, B, db⟩, b0.length + d, bx_old, hBl, ?_, fun m hm he => ?_, ?_⟩
    · dsimp only
      rw [hB, List.getElem?_append_right (by omega), Nat.add_sub_cancel_left]
      unfold rangeI
      rw [List.getElem?_map, List.getElem?_range hdl]
      rfl
    · dsimp only at he
      rw [hB] at he
      have hu := hup.1
      unfold Up at hu
      rw [List.pairwise_iff_getElem] at hu
      have hl : (b0 ++ rangeI n v.length).length = b0.length + v.length := by rw [List.length_append, range_len]
      have q := hu m (b0.length + d) (by omega) (by omega) hm
      rw [List.getElem?_eq_getElem (by omega)] at he
      have he := Option.some.inj he
      rw [he] at q
      have q2 : (b0 ++ rangeI n v.length)[b0.length + d]'(by omega) = n + d := by
        rw [List.getElem_append_right (by omega)]
        unfold rangeI
        rw [List.getElem_map, List.getElem_range]
        simp
      omega
    · dsimp only
      rw [if_neg (by rw [show peq (some (((b0.length + d : Nat) : Int) + 1)) ((b0.length : Int) + d + 1) = peq (((b0.length + d : Nat) : Int) + 1) ((b0.length : Int) + d + 1) from rfl, peq_i]; simp)]
      refine ⟨_, hat, nn_of hv ?_⟩
      rw [new_at hv hdl]
      refine ⟨_, hat, ?_⟩
      dsimp only
      rw [if_neg (by rw [show peq (some (n + (d : Int))) (n + (d : Int)) = peq (n + (d : Int)) (n + (d : Int)) from rfl, peq_i]; simp)]
      exact hn () ⟨d + 1, by rw [List.length_cons] at h1; omega, hxs⟩

theorem law_reads {B : Bs} (hst : StateFn B) (h_empty_store : Fn B 1 "empty_store" m_empty_store) (h_do_make : Fn B 3 "do" m_do_make) (h_law_take : FnW B 1 "_law_take" m_law_take) (h_do_add : Fn B 3 "do" m_do_add) (h_view : Fn B 2 "view" m_view) (h_do_rem : Fn B 3 "do" m_do_rem) (h_numbers_there : Fn B 1 "numbers_there" m_numbers_there) (h_do_move : Fn B 3 "do" m_do_move) (h_new_number : Fn B 1 "new_number" m_new_number) (h_place_of : Fn B 3 "place_of" m_place_of) (z_range : B.mg "range" = none) (z_int : B.mg "int" = none) (z_len : B.mg "len" = none) {fa : Addr} {fd : FuncData} (F : Fun B.K "law" "law" s_law fa fd) : FnOk B.prog B.w B.K B.mg B.base CX0 4 fa fd ["script"] (spLaw B.K) := by
  refine law_ok (τ := Unit) (N := ["script", "state", "store", "box", "told", "many", "k", "number", "message", "flags", "numbers", "before", "rows", "after", "word", "old", "new"]) (k := 3) (Γ := fun _ _ => List.replicate 17 none) F hst ⟨rfl, rfl, rfl, by decide +kernel, rfl, by decide +kernel, by decide +kernel⟩ rfl rfl rfl rfl (by first | exact Or.inl rfl | exact Or.inr (Or.inl rfl)) (by first | exact Or.inl rfl | exact Or.inr rfl) (by decide) (by decide +kernel) (fun p => ?_)
  refine ⟨_, (blk_at [none, some (.raw (.ref p)), none, none, none, none, none, none, none, none, none, none, none, none, none, none, none] (blk_cons (st_set (α := (T4 Str Int Int (List (T4 Str Int (List (T4 Int Str (Tup Int) Int)) (List (Int × Int)))))) 2 (ev_call0 h_empty_store (Nat.le_of_ble_eq_true rfl) rfl)) (fun v1 => (blk_at [none, some (.raw (.ref p)), some (.fr (Enc.enc (v1))), none, none, none, none, none, none, none, none, none, none, none, none, none, none] (blk_drop [4, 3] (blk_cons (st_forU (fun (s : (T4 Str Int Int (List (T4 Str Int (List (T4 Int Str (Tup Int) Int)) (List (Int × Int)))))) S => (List.set S 2 (some (.fr (Enc.enc (s)))))) v1 (src_list (EN.ev (en_lst (fun x => [x.1, x.2.1]) (fun _ => rfl) (fun _ => Nat.le_of_ble_eq_true rfl) (ea_cons ev_str (ea_cons ev_str ea_nil))))) (fun s3 => (tg_name (α := Str) 3)) (fun s3 x4 => (blk_at [none, some (.raw (.ref p)), some (.fr (Enc.enc (s3))), some (.fr (Enc.enc (x4))), none, none, none, none, none, none, none, none, none, none, none, none, none] (blk_cons (st_asg (tg_tup (n := 2) (fun (x : ((T4 Str Int Int (List (T4 Str Int (List (T4 Int Str (Tup Int) Int)) (List (Int × Int))))) × (T1 Str))) => (x.1, x.2, ())) (fun _ => rfl) (fun _ => rfl) (tgs_cons (tg_name (α := (T4 Str Int Int (List (T4 Str Int (List (T4 Int Str (Tup Int) Int)) (List (Int × Int)))))) 2) (fun _ => (tgs_cons (tg_name (α := (T1 Str)) 4) (fun _ => tgs_nil))))) (ev_call h_do_make (Nat.le_of_ble_eq_true rfl) rfl (ea_cons (ev_var (v := s3) (i := 2)) (ea_cons (ev_tup (fun x => (x.1, x.2.1)) (fun _ => rfl) (fun _ => Nat.le_of_ble_eq_true rfl) (ea_cons ev_str (ea_cons (ev_var (v := x4) (i := 3)) ea_nil))) ea_nil)))) (fun v6 => (blk_drop [4, 3] (blk_nil (v6).1))))))) (fun s5 => (blk_at [none, some (.raw (.ref p)), some (.fr (Enc.enc (s5))), none, none, none, none, none, none, none, none, none, none, none, none, none, none] (blk_cons (st_set (α := Int) 5 (ev_callW (i := 1) h_law_take (Nat.le_of_ble_eq_true rfl) rfl (ea_cons ev_int ea_nil))) (fun v7 => (blk_at [none, some (.raw (.ref p)), some (.fr (Enc.enc (s5))), none, none, some (.fr (Enc.enc (v7))), none, none, none, none, none, none, none, none, none, none, none] (blk_drop [4, 6] (blk_cons (st_forU (fun (s : (T4 Str Int Int (List (T4 Str Int (List (T4 Int Str (Tup Int) Int)) (List (Int × Int)))))) S => (List.set S 2 (some (.fr (Enc.enc (s)))))) s5 (src_range1 (ev_var (v := v7) (i := 5)) (hm := z_range)) (fun s9 => (tg_name (α := Int) 6)) (fun s9 x10 => (blk_at [none, some (.raw (.ref p)), some (.fr (Enc.enc (s9))), none, none, some (.fr (Enc.enc (v7))), some (.fr (Enc.enc (x10))), none, none, none, none, none, none, none, none, none, none] (blk_cons (st_asg (tg_tup (n := 2) (fun (x : ((T4 Str Int Int (List (T4 Str Int (List (T4 Int Str (Tup Int) Int)) (List (Int × Int))))) × (Str × Int))) => (x.1, x.2, ())) (fun _ => rfl) (fun _ => rfl) (tgs_cons (tg_name (α := (T4 Str Int Int (List (T4 Str Int (List (T4 Int Str (Tup Int) Int)) (List (Int × Int)))))) 2) (fun _ => (tgs_cons (tg_name (α := (Str × Int)) 4) (fun _ => tgs_nil))))) (ev_call h_do_add (Nat.le_of_ble_eq_true rfl) rfl (ea_cons (ev_var (v := s9) (i := 2)) (ea_cons (ev_tup (fun x => (T4.mk x.1 x.2.1 x.2.2.1 x.2.2.2.1)) (fun _ => rfl) (fun _ => Nat.le_of_ble_eq_true rfl) (ea_cons ev_str (ea_cons (ev_ix (EN.el (en_lst (fun x => [x.1, x.2.1]) (fun _ => rfl) (fun _ => Nat.le_of_ble_eq_true rfl) (ea_cons ev_str (ea_cons ev_str ea_nil)))) (ev_intB (ev_eq (ev_callW (i := 1) h_law_take (Nat.le_of_ble_eq_true rfl) rfl (ea_cons ev_int ea_nil)) ev_int) (hm := z_int))) (ea_cons ev_str (ea_cons (EN.ev (en_nil (α := Int))) ea_nil))))) ea_nil)))) (fun v12 => (blk_drop [4, 6] (blk_nil (v12).1))))))) (fun s11 => (blk_at [none, some (.raw (.ref p)), some (.fr (Enc.enc (s11))), none, none, some (.fr (Enc.enc (v7))), none, none, none, none, none, none, none, none, none, none, none] (blk_drop [4, 7, 8, 9] (blk_cons (st_forU (fun (s : (T4 Str Int Int (List (T4 Str Int (List (T4 Int Str (Tup Int) Int)) (List (Int × Int)))))) S => (List.set S 2 (some (.fr (Enc.enc (s)))))) s11 (src_list (ev_get (ev_call h_view (Nat.le_of_ble_eq_true rfl) rfl (ea_cons (ev_var (v := s11) (i := 2)) (ea_cons ev_str ea_nil))))) (fun s16 => (tg_tup (n := 3) (fun (x : (T3 Int Str (Tup Int))) => (x.a, x.b, x.c, ())) (fun _ => rfl) (fun _ => rfl) (tgs_cons (tg_name (α := Int) 7) (fun _ => (tgs_cons (tg_name (α := Str) 8) (fun _ => (tgs_cons (tg_name (α := (Tup Int)) 9) (fun _ => tgs_nil)))))))) (fun s16 x17 => (blk_at [none, some (.raw (.ref p)), some (.fr (Enc.enc (s16))), none, none, some (.fr (Enc.enc (v7))), none, some (.fr (Enc.enc ((x17).a))), some (.fr (Enc.enc ((x17).b))), some (.fr (Enc.enc ((x17).c))), none, none, none, none, none, none, none] (blk_cons (st_ifU (fun (s : (T4 Str Int Int (List (T4 Str Int (List (T4 Int Str (Tup Int) Int)) (List (Int × Int)))))) S => (List.set (List.set S 4 none) 2 (some (.fr (Enc.enc (s)))))) (et_eq (ev_callW (i := 1) h_law_take (Nat.le_of_ble_eq_true rfl) rfl (ea_cons ev_int ea_nil)) ev_int) (blk_cons (st_asg (tg_tup (n := 2) (fun (x : ((T4 Str Int Int (List (T4 Str Int (List (T4 Int Str (Tup Int) Int)) (List (Int × Int))))) × (T1 Str))) => (x.1, x.2, ())) (fun _ => rfl) (fun _ => rfl) (tgs_cons (tg_name (α := (T4 Str Int Int (List (T4 Str Int (List (T4 Int Str (Tup Int) Int)) (List (Int × Int)))))) 2) (fun _ => (tgs_cons (tg_name (α := (T1 Str)) 4) (fun _ => tgs_nil))))) (ev_call h_do_rem (Nat.le_of_ble_eq_true rfl) rfl (ea_cons (ev_var (v := s16) (i := 2)) (ea_cons (ev_tup (fun x => (T3.mk x.1 x.2.1 x.2.2.1)) (fun _ => rfl) (fun _ => Nat.le_of_ble_eq_true rfl) (ea_cons ev_str (ea_cons ev_str (ea_cons (ev_var (v := (x17).a) (i := 7)) ea_nil)))) ea_nil)))) (fun v20 => (blk_drop [4] (blk_nil (v20).1)))) (blk_drop [4] (blk_nil s16))) (fun v21 => (blk_drop [4, 7, 8, 9] (blk_nil v21))))))) (fun s18 => (blk_at [none, some (.raw (.ref p)), some (.fr (Enc.enc (s18))), none, none, some (.fr (Enc.enc (v7))), none, none, none, none, none, none, none, none, none, none, none] (blk_cons (st_setLc 10 (own := [("number", 7), ("message", 8), ("flags", 9)]) (SRC.cc (src_list (ev_get (ev_call h_view (Nat.le_of_ble_eq_true rfl) rfl (ea_cons (ev_var (v := s18) (i := 2)) (ea_cons ev_str ea_nil)))))) (by exact rfl) (tg_tup (n := 3) (fun (x : (T3 Int Str (Tup Int))) => (x.a, x.b, x.c, ())) (fun _ => rfl) (fun _ => rfl) (tgs_cons (tg_name (α := Int) 7) (fun _ => (tgs_cons (tg_name (α := Str) 8) (fun _ => (tgs_cons (tg_name (α := (Tup Int)) 9) (fun _ => tgs_nil))))))) (by decide) (fun x22 => ets_nil) (fun x22 => (ev_var (v := (x22).a) (i := 7)))) (fun v24 => (blk_freeze (α := Int) (v := v24) 10 (hb := (blk_at [none, some (.raw (.ref p)), some (.fr (Enc.enc (s18))), none, none, some (.fr (Enc.enc (v7))), none, none, none, none, some (.fr (Enc.enc (v24))), none, none, none, none, none, none] (blk_cons (st_setLc 11 (own := [("number", 7), ("message", 8), ("flags", 9)]) (SRC.cc (src_list (ev_get (ev_call h_view (Nat.le_of_ble_eq_true rfl) rfl (ea_cons (ev_var (v := s18) (i := 2)) (ea_cons ev_str ea_nil)))))) (by exact rfl) (tg_tup (n := 3) (fun (x : (T3 Int Str (Tup Int))) => (x.a, x.b, x.c, ())) (fun _ => rfl) (fun _ => rfl) (tgs_cons (tg_name (α := Int) 7) (fun _ => (tgs_cons (tg_name (α := Str) 8) (fun _ => (tgs_cons (tg_name (α := (Tup Int)) 9) (fun _ => tgs_nil))))))) (by decide) (fun x25 => ets_nil) (fun x25 => (ev_var (v := (x25).a) (i := 7)))) (fun v27 => (blk_freeze (α := Int) (v := v27) 11 (hb := (blk_at [none, some (.raw (.ref p)), some (.fr (Enc.enc (s18))), none, none, some (.fr (Enc.enc (v7))), none, none, none, none, some (.fr (Enc.enc (v24))), some (.fr (Enc.enc (v27))), none, none, none, none, none] (blk_cons (st_asg (tg_tup (n := 2) (fun (x : ((List (Int × Int)) × Int)) => (x.1, x.2, ())) (fun _ => rfl) (fun _ => rfl) (tgs_cons (tg_name (α := (List (Int × Int))) 12) (fun _ => (tgs_cons (tg_name (α := Int) 13) (fun _ => tgs_nil))))) (ev_call h_numbers_there (Nat.le_of_ble_eq_true rfl) rfl (ea_cons (ev_var (v := v24) (i := 10)) (ea_cons (ev_ixT (fun (x : (T4 Str Int Int (List (T4 Str Int (List (T4 Int Str (Tup Int) Int)) (List (Int × Int)))))) => x.c) (2) (fun _ => ⟨_, rfl, rfl⟩) (ev_var (v := s18) (i := 2)) ev_int) ea_nil)))) (fun v28 => (blk_at [none, some (.raw (.ref p)), some (.fr (Enc.enc (s18))), none, none, some (.fr (Enc.enc (v7))), none, none, none, none, some (.fr (Enc.enc (v24))), some (.fr (Enc.enc (v27))), some (.fr (Enc.enc ((v28).1))), some (.fr (Enc.enc ((v28).2))), none, none, none] (blk_cons (st_set (α := Str) 14 (ev_ix (EN.el (en_lst (fun x => [x.1, x.2.1]) (fun _ => rfl) (fun _ => Nat.le_of_ble_eq_true rfl) (ea_cons ev_str (ea_cons ev_str ea_nil)))) (ev_callW (i := 1) h_law_take (Nat.le_of_ble_eq_true rfl) rfl (ea_cons ev_int ea_nil)))) (fun v29 => (blk_at [none, some (.raw (.ref p)), some (.fr (Enc.enc (s18))), none, none, some (.fr (Enc.enc (v7))), none, none, none, none, some (.fr (Enc.enc (v24))), some (.fr (Enc.enc (v27))), some (.fr (Enc.enc ((v28).1))), some (.fr (Enc.enc ((v28).2))), some (.fr (Enc.enc (v29))), none, none] (blk_drop [4, 7] (blk_cons (st_forU (fun (s : (T4 Str Int Int (List (T4 Str Int (List (T4 Int Str (Tup Int) Int)) (List (Int × Int)))))) S => (List.set S 2 (some (.fr (Enc.enc (s)))))) s18 (src_list (ev_var (v := v24) (i := 10))) (fun s32 => (tg_name (α := Int) 7)) (fun s32 x33 => (blk_at [none, some (.raw (.ref p)), some (.fr (Enc.enc (s32))), none, none, some (.fr (Enc.enc (v7))), none, some (.fr (Enc.enc (x33))), none, none, some (.fr (Enc.enc (v24))), some (.fr (Enc.enc (v27))), some (.fr (Enc.enc ((v28).1))), some (.fr (Enc.enc ((v28).2))), some (.fr (Enc.enc (v29))), none, none] (blk_cons (st_asg (tg_tup (n := 2) (fun (x : ((T4 Str Int Int (List (T4 Str Int (List (T4 Int Str (Tup Int) Int)) (List (Int × Int))))) × (Str × Int))) => (x.1, x.2, ())) (fun _ => rfl) (fun _ => rfl) (tgs_cons (tg_name (α := (T4 Str Int Int (List (T4 Str Int (List (T4 Int Str (Tup Int) Int)) (List (Int × Int)))))) 2) (fun _ => (tgs_cons (tg_name (α := (Str × Int)) 4) (fun _ => tgs_nil))))) (ev_call h_do_move (Nat.le_of_ble_eq_true rfl) rfl (ea_cons (ev_var (v := s32) (i := 2)) (ea_cons (ev_tup (fun x => (T4.mk x.1 x.2.1 x.2.2.1 x.2.2.2.1)) (fun _ => rfl) (fun _ => Nat.le_of_ble_eq_true rfl) (ea_cons (ev_var (v := v29) (i := 14)) (ea_cons ev_str (ea_cons (ev_var (v := x33) (i := 7)) (ea_cons ev_str ea_nil))))) ea_nil)))) (fun v35 => (blk_at [none, some (.raw (.ref p)), some (.fr (Enc.enc ((v35).1))), none, some (.fr (Enc.enc ((v35).2))), some (.fr (Enc.enc (v7))), none, some (.fr (Enc.enc (x33))), none, none, some (.fr (Enc.enc (v24))), some (.fr (Enc.enc (v27))), some (.fr (Enc.enc ((v28).1))), some (.fr (Enc.enc ((v28).2))), some (.fr (Enc.enc (v29))), none, none] (blk_cons (st_ifU (fun (s : Unit) S => S) (et_neC (ev_var (v := (v35).2) (i := 4)) (ev_tup (fun x => (x.1, x.2.1)) (fun _ => rfl) (fun _ => Nat.le_of_ble_eq_true rfl) (ea_cons ev_str (ea_cons (ev_get (ev_call h_new_number (Nat.le_of_ble_eq_true rfl) rfl (ea_cons (ev_var (v := (v28).1) (i := 12)) (ea_cons (ev_var (v := x33) (i := 7)) ea_nil)))) ea_nil)))) (blk_last (st_ret ev_bl)) (blk_nil ())) (fun v36 => (blk_drop [4, 7] (blk_nil (v35).1)))))))))) (fun s34 => (blk_at [none, some (.raw (.ref p)), some (.fr (Enc.enc (s34))), none, none, some (.fr (Enc.enc (v7))), none, none, none, none, some (.fr (Enc.enc (v24))), some (.fr (Enc.enc (v27))), some (.fr (Enc.enc ((v28).1))), some (.fr (Enc.enc ((v28).2))), some (.fr (Enc.enc (v29))), none, none] (blk_cons (st_ifU (fun (s : Unit) S => S) (EW.et (ew_or (et_ne (ev_ixT (fun (x : (T4 Str Int Int (List (T4 Str Int (List (T4 Int Str (Tup Int) Int)) (List (Int × Int)))))) => x.c) (2) (fun _ => ⟨_, rfl, rfl⟩) (ev_var (v := s34) (i := 2)) ev_int) (ev_var (v := (v28).2) (i := 13))) (ew_or1 (et_ne (EN.ev (en_lc (own := [("number", 7), ("message", 8), ("flags", 9)]) (SRC.cc (src_list (ev_get (ev_call h_view (Nat.le_of_ble_eq_true rfl) rfl (ea_cons (ev_var (v := s34) (i := 2)) (ea_cons ev_str ea_nil)))))) (by exact rfl) (tg_tup (n := 3) (fun (x : (T3 Int Str (Tup Int))) => (x.a, x.b, x.c, ())) (fun _ => rfl) (fun _ => rfl) (tgs_cons (tg_name (α := Int) 7) (fun _ => (tgs_cons (tg_name (α := Str) 8) (fun _ => (tgs_cons (tg_name (α := (Tup Int)) 9) (fun _ => tgs_nil))))))) (by decide) (fun x37 => ets_nil) (fun x37 => (ev_var (v := (x37).a) (i := 7))))) (EN.ev (en_cat (EV.el (ev_var (v := v27) (i := 11))) (EN.el (en_lc (own := [("old", 15), ("new", 16)]) (srcc_list (EV.el (ev_var (v := (v28).1) (i := 12)))) (by exact rfl) (tg_tup (n := 2) (fun (x : (Int × Int)) => (x.1, x.2, ())) (fun _ => rfl) (fun _ => rfl) (tgs_cons (tg_name (α := Int) 15) (fun _ => (tgs_cons (tg_name (α := Int) 16) (fun _ => tgs_nil))))) (by decide) (fun x39 => ets_nil) (fun x39 => (ev_var (v := (x39).2) (i := 16))))))))))) (blk_last (st_ret ev_bl)) (blk_nil ())) (fun v41 => (blk_at [none, some (.raw (.ref p)), some (.fr (Enc.enc (s34))), none, none, some (.fr (Enc.enc (v7))), none, none, none, none, some (.fr (Enc.enc (v24))), some (.fr (Enc.enc (v27))), some (.fr (Enc.enc ((v28).1))), some (.fr (Enc.enc ((v28).2))), some (.fr (Enc.enc (v29))), none, none] (blk_cons (st_ifU (fun (s : Unit) S => S) (et_ne (EN.ev (en_lc (own := [("number", 7), ("message", 8), ("flags", 9)]) (SRC.cc (src_list (ev_get (ev_call h_view (Nat.le_of_ble_eq_true rfl) rfl (ea_cons (ev_var (v := s34) (i := 2)) (ea_cons ev_str ea_nil)))))) (by exact rfl) (tg_tup (n := 3) (fun (x : (T3 Int Str (Tup Int))) => (x.a, x.b, x.c, ())) (fun _ => rfl) (fun _ => rfl) (tgs_cons (tg_name (α := Int) 7) (fun _ => (tgs_cons (tg_name (α := Str) 8) (fun _ => (tgs_cons (tg_name (α := (Tup Int)) 9) (fun _ => tgs_nil))))))) (by decide) (fun x42 => ets_nil) (fun x42 => (ev_var (v := (x42).a) (i := 7))))) (ev_if (et_eqF (ev_var (v := v29) (i := 14)) ev_str) (ev_var (v := v24) (i := 10)) (EN.ev (en_nil (α := Int))))) (blk_last (st_ret ev_bl)) (blk_nil ())) (fun v44 => (blk_at [none, some (.raw (.ref p)), some (.fr (Enc.enc (s34))), none, none, some (.fr (Enc.enc (v7))), none, none, none, none, some (.fr (Enc.enc (v24))), some (.fr (Enc.enc (v27))), some (.fr (Enc.enc ((v28).1))), some (.fr (Enc.enc ((v28).2))), some (.fr (Enc.enc (v29))), none, none] (blk_drop [6] (blk_cons (st_forU (fun (_ : Unit) S => S) () (src_range1 (ev_len (EV.el (ev_var (v := (v28).1) (i := 12))) (hm := z_len)) (hm := z_range)) (fun s46 => (tg_name (α := Int) 6)) (fun s46 x47 => (blk_at [none, some (.raw (.ref p)), some (.fr (Enc.enc (s34))), none, none, some (.fr (Enc.enc (v7))), some (.fr (Enc.enc (x47))), none, none, none, some (.fr (Enc.enc (v24))), some (.fr (Enc.enc (v27))), some (.fr (Enc.enc ((v28).1))), some (.fr (Enc.enc ((v28).2))), some (.fr (Enc.enc (v29))), none, none] (blk_cons (st_ifU (fun (s : Unit) S => S) (EW.et (ew_or (et_ne (ev_call h_place_of (Nat.le_of_ble_eq_true rfl) rfl (ea_cons (ev_var (v := s34) (i := 2)) (ea_cons ev_str (ea_cons (ev_ixT (fun (x : (Int × Int)) => x.2) (1) (fun _ => ⟨_, rfl, rfl⟩) (ev_ix (EV.el (ev_var (v := (v28).1) (i := 12))) (ev_var (v := x47) (i := 6))) ev_int) ea_nil)))) (ev_add (ev_add (ev_len (EV.el (ev_var (v := v27) (i := 11))) (hm := z_len)) (ev_var (v := x47) (i := 6))) ev_int)) (ew_or1 (et_ne (ev_call h_new_number (Nat.le_of_ble_eq_true rfl) rfl (ea_cons (ev_var (v := (v28).1) (i := 12)) (ea_cons (ev_ixT (fun (x : (Int × Int)) => x.1) (0) (fun _ => ⟨_, rfl, rfl⟩) (ev_ix (EV.el (ev_var (v := (v28).1) (i := 12))) (ev_var (v := x47) (i := 6))) ev_int) ea_nil))) (ev_ixT (fun (x : (Int × Int)) => x.2) (1) (fun _ => ⟨_, rfl, rfl⟩) (ev_ix (EV.el (ev_var (v := (v28).1) (i := 12))) (ev_var (v := x47) (i := 6))) ev_int))))) (blk_last (st_ret ev_bl)) (blk_nil ())) (fun v49 => (blk_drop [6] (blk_nil ()))))))) (fun s48 => (blk_at [none, some (.raw (.ref p)), some (.fr (Enc.enc (s34))), none, none, some (.fr (Enc.enc (v7))), none, none, none, none, some (.fr (Enc.enc (v24))), some (.fr (Enc.enc (v27))), some (.fr (Enc.enc ((v28).1))), some (.fr (Enc.enc ((v28).2))), some (.fr (Enc.enc (v29))), none, none] (blk_last (st_ret (ev_isN (ev_call h_new_number (Nat.le_of_ble_eq_true rfl) rfl (ea_cons (ev_var (v := (v28).1) (i := 12)) (ea_cons (ev_add (ev_var (v := (v28).2) (i := 13)) ev_int) ea_nil))))))))))))))))))))))))))))))))))))))))))))))))))))))), ?_⟩
  dsimp only
  dsimp only [m_empty_store]
  refine two_makes fun s hs => ?_
  dsimp only
  refine take_of (by decide) (by decide) fun r hr0 hr1 => ⟨small62 (by omega) (by omega), ?_⟩
  refine forW_inv (fun xs s => ∃ A B, Good (8 - xs.length) s A B ∧ xs.length ≤ 8) ⟨[], [], hs.mono (Nat.zero_le _), by rw [range_len]; omega⟩ (fun s hI => ?_) (fun x xs s hI P' hn _ _ _ => ?_)
  case refine_2 =>
    obtain ⟨A, B, hg, hx⟩ := hI
    rw [List.length_cons] at hg hx
    refine take_of (by decide) (by decide) fun r _ _ => ?_
    have hq : ∃ x, atI [Str.ofString "in", Str.ofString "old"] (if peq r (0 : Int) = true then 1 else 0) = some x ∧ (x = Str.ofString "in" ∨ x = Str.ofString "old") := by
      by_cases h : peq r (0 : Int) = true
      · rw [if_pos h]; exact ⟨_, rfl, .inr rfl⟩
      · rw [if_neg h]; exact ⟨_, rfl, .inl rfl⟩
    obtain ⟨w, e, hw⟩ := hq
    exact ⟨w, e, good_add hg (by omega) w hw fun s' A' B' z h' => hn _ ⟨A', B', by rw [show 8 - xs.length = 8 - (xs.length + 1) + 1 by omega]; exact h', by omega⟩⟩
  obtain ⟨A0, B, hg, -⟩ := hI
  have hg : Good 8 s A0 B := hg
  dsimp only
  obtain ⟨mk, n, mi, mo, da, db, rfl, g1, g2, g3, g4, g5, g6⟩ := id hg
  refine view_in (by omega) ⟨_, rfl, ?_⟩
  refine forW_inv (fun xs s => ∃ A, Good (16 - xs.length) s A B ∧ xs.length ≤ 8 ∧ Up (xs.map (·.a)) ∧ ∀ x ∈ xs.map (·.a), x ∈ A.map (·.a)) ⟨A0, hg.mono (by rw [List.length_map]; omega), by rw [List.length_map]; omega, by rw [map_t3]; exact g1, by rw [map_t3]; exact fun x h => h⟩ (fun s hI => ?_) (fun x xs s hI P' hn _ _ _ => ?_)
  case refine_2 =>
    obtain ⟨A, hg, hx, hu, hm⟩ := hI
    rw [List.length_cons] at hg hx
    unfold Up at hu
    rw [List.map_cons, List.pairwise_cons] at hu
    refine take_of (by decide) (by decide) fun r _ _ => ?_
    by_cases h : peq r (0 : Int) = true
    · rw [if_pos h]
      refine good_rem hg (by omega) (hm _ (by rw [List.map_cons]; exact List.mem_cons_self)) fun s' z h' => hn _ ⟨kept x.a A, h'.mono (by omega), by omega, hu.2, fun y hy => kept_mem (hm y (by rw [List.map_cons]; exact List.mem_cons_of_mem _ hy)) ?_⟩
      have := hu.1 y hy
      omega
    · rw [if_neg h]
      exact hn _ ⟨A, hg.mono (by omega), by omega, hu.2, fun y hy => hm y (by rw [List.map_cons]; exact List.mem_cons_of_mem _ hy)⟩
  obtain ⟨A, hg, -⟩ := hI
  have hg : Good 16 s A B := hg
  clear g1 g2 g3 g4 g5 g6
  dsimp only
  obtain ⟨mk, n, mi, mo, da, db, rfl, g1, g2, g3, g4, g5, g6⟩ := hg
  refine view_in (by omega) ⟨_, rfl, lcW_map (fun x : T3 Int Str (Tup Int) => x.a) (fun _ _ _ h => h) (fun _ _ _ h => h) (by rw [List.length_map]; omega) ?_⟩
  rw [map_t3]
  refine view_old (by omega) ⟨_, rfl, lcW_map (fun x : T3 Int Str (Tup Int) => x.a) (fun _ _ _ h => h) (fun _ _ _ h => h) (by rw [List.length_map]; omega) ?_⟩
  rw [map_t3]
  refine nt_of (by rw [List.length_map]; omega) ?_
  dsimp only
  rw [show (stOf mk n mi mo A B da db).c = n from rfl]
  refine take_of (by decide) (by decide) fun r hr0 hr1 => ?_
  have hq : ∃ x, atI [Str.ofString "copy", Str.ofString "move"] r = some x ∧ (x = Str.ofString "copy" ∨ x = Str.ofString "move") := by
    have : r = 0 ∨ r = 1 := by omega
    rcases this with rfl | rfl
    · exact ⟨_, rfl, .inl rfl⟩
    · exact ⟨_, rfl, .inr rfl⟩
  obtain ⟨word, e, hw⟩ := hq
  refine ⟨word, e, ?_⟩
  have hAl : (A.map (·.a)).length = A.length := List.length_map ..
  refine forW_inv (fun xs s => ∃ done : Nat, done + xs.length = A.length ∧ xs = (A.map (·.a)).drop done ∧ Gone word mi mo n A B done s) ⟨0, by rw [hAl]; omega, rfl, ⟨mk, A, B, da, db, by rw [show n + ((0 : Nat) : Int) = n by omega], by split <;> rfl, by rw [show rangeI n 0 = [] from rfl, List.append_nil], by omega⟩⟩ (fun s hI => ?_) (fun x xs s hI P' hn _ _ _ => ?_)
  case refine_2 =>
    obtain ⟨done, h1, h2, h3⟩ := hI
    rw [List.length_cons] at h1
    have hd : done < A.length := by omega
    rw [List.drop_eq_getElem_cons (by rw [hAl]; exact hd)] at h2
    obtain ⟨h2a, h2b⟩ := List.cons.inj h2
    rw [List.getElem_map] at h2a
    subst h2a
    refine gone_step hw h3 g1 hd (by omega) (by omega) fun s' h' => nn_of g1 ?_
    have q := new_at (n := n) g1 (i := done) (by rw [hAl]; exact hd)
    rw [List.getElem_map] at q
    rw [q]
    refine ⟨_, rfl, sq_num, sq_num, ?_⟩
    rw [if_neg (by rw [peq_dec]; simp)]
    exact hn _ ⟨done + 1, by omega, h2b, h'⟩
  obtain ⟨done, h1, h2, h3⟩ := hI
  have hdone : done = A.length := h1
  subst hdone
  obtain ⟨mk', A', B', da', db', rfl, k1, k2, k3⟩ := h3.ex
  have hBl : B'.length = B.length + A.length := by
    have := congrArg List.length k2
    rw [List.length_map, List.length_append, List.length_map, range_len] at this
    exact this
  have hA'l : A'.length ≤ A.length := by
    rw [k1]
    split
    · exact Nat.le_refl _
    · rw [List.length_drop]; omega
  dsimp only
  rw [if_neg (by rw [hAl, peq_i]; simp [stOf])]
  refine view_old (by omega) ⟨_, rfl, lcW_map (fun x : T3 Int Str (Tup Int) => x.a) (fun _ _ _ h => h) (fun _ _ _ h => h) (by rw [List.length_map]; omega) ?_⟩
  rw [map_t3, k2]
  refine lcW_map (fun x : Int × Int => x.2) (fun _ _ _ h => h) (fun _ _ _ h => h) (by rw [rowsOf_len, hAl]; omega) ⟨szle (by rw [List.length_map, List.length_map, rowsOf_len, hAl]; omega), ?_⟩
  rw [rowsOf_snd, hAl, if_neg (by rw [peq_dec]; simp)]
  refine view_in (by omega) ⟨_, rfl, lcW_map (fun x : T3 Int Str (Tup Int) => x.a) (fun _ _ _ h => h) (fun _ _ _ h => h) (by rw [List.length_map]; omega) ?_⟩
  rw [map_t3]
  have hlast : m_new_number (rowsOf (A.map (·.a)) n, n + (A.length : Int) + 5, ()) fun z => z.isNone = true := by
    refine nn_of g1 ?_
    rw [new_none fun hm => by have := g3 _ hm; omega]
    rfl
  rcases hw with rfl | rfl
  · rw [if_pos rfl] at k1
    rw [if_pos (by rw [peq_iff]), if_neg (by rw [k1, peq_dec]; simp)]
    refine ⟨small62 (by rw [rowsOf_len, hAl]; omega) (by rw [rowsOf_len, hAl]; omega), ?_⟩
    exact tail_ok g1 g2 g4 (by rw [hAl]; exact k2) (by omega) hlast
  · rw [if_neg (by decide), List.drop_length] at k1
    rw [if_neg (by rw [peq_iff]; decide), if_neg (by rw [k1]; decide)]
    refine ⟨small62 (by rw [rowsOf_len, hAl]; omega) (by rw [rowsOf_len, hAl]; omega), ?_⟩
    exact tail_ok g1 g2 g4 (by rw [hAl]; exact k2) (by omega) hlast

theorem law_end {P : Program} {w : World} {K : PySem.W.Frag} {mg : Str → Option Value} {base : Heap} (D_law_state : DefAt ⟨P, w, K, mg, base⟩ "_law_state" s_law_state) (D_law_take : DefAt ⟨P, w, K, mg, base⟩ "_law_take" s_law_take) (D_numbers_there : DefAt ⟨P, w, K, mg, base⟩ "numbers_there" s_numbers_there) (D_new_number : DefAt ⟨P, w, K, mg, base⟩ "new_number" s_new_number) (D_empty_store : DefAt ⟨P, w, K, mg, base⟩ "empty_store" s_empty_store) (D_box_at : DefAt ⟨P, w, K, mg, base⟩ "box_at" s_box_at) (D_row_at : DefAt ⟨P, w, K, mg, base⟩ "row_at" s_row_at) (D_with_boxes : DefAt ⟨P, w, K, mg, base⟩ "with_boxes" s_with_boxes) (D_replaced : DefAt ⟨P, w, K, mg, base⟩ "replaced" s_replaced) (D_make : DefAt ⟨P, w, K, mg, base⟩ "make" s_make) (D_add : DefAt ⟨P, w, K, mg, base⟩ "add" s_add) (D_check_deed : DefAt ⟨P, w, K, mg, base⟩ "check_deed" s_check_deed) (D_carry : DefAt ⟨P, w, K, mg, base⟩ "carry" s_carry) (D_do : DefAt ⟨P, w, K, mg, base⟩ "do" s_do) (D_view : DefAt ⟨P, w, K, mg, base⟩ "view" s_view) (D_place_of : DefAt ⟨P, w, K, mg, base⟩ "place_of" s_place_of) (D_name_of : DefAt ⟨P, w, K, mg, base⟩ "name_of" s_name_of) (z_len : (⟨P, w, K, mg, base⟩ : Bs).mg "len" = none) (z_abs : (⟨P, w, K, mg, base⟩ : Bs).mg "abs" = none) (z_int : (⟨P, w, K, mg, base⟩ : Bs).mg "int" = none) (z_enumerate : (⟨P, w, K, mg, base⟩ : Bs).mg "enumerate" = none) (z_sorted : (⟨P, w, K, mg, base⟩ : Bs).mg "sorted" = none) (z_all : (⟨P, w, K, mg, base⟩ : Bs).mg "all" = none) (z_set : (⟨P, w, K, mg, base⟩ : Bs).mg "set" = none) (z_tuple : (⟨P, w, K, mg, base⟩ : Bs).mg "tuple" = none) (z_range : (⟨P, w, K, mg, base⟩ : Bs).mg "range" = none) (c_EMPTY : ConstAt ⟨P, w, K, mg, base⟩ "EMPTY" cv_EMPTY) (c_FLAGS : ConstAt ⟨P, w, K, mg, base⟩ "FLAGS" cv_FLAGS) {fa : Addr} {fd : FuncData} (F : Fun K "law" "law" s_law fa fd) : FnOk P w K mg base CX0 4 fa fd ["script"] (spLaw K) := by
  have k_name_of : KeyFn ⟨P, w, K, mg, base⟩ "name_of" := keyFn_mk D_name_of rfl ⟨rfl, rfl, rfl, by decide +kernel, rfl, by decide +kernel, by decide +kernel⟩ rfl (fun _ _ _ _ _ _ us hl => match us, hl with | [_], _ => rfl)
  have h_law_take : FnW ⟨P, w, K, mg, base⟩ 1 "_law_take" m_law_take := fnW_law_take D_law_take z_len z_int
  have hst : StateFn ⟨P, w, K, mg, base⟩ := fn_law_state D_law_state z_abs z_len
  have h_numbers_there := fn_numbers_there D_numbers_there z_enumerate z_len
  have h_new_number := fn_new_number D_new_number z_len
  have h_empty_store := fn_empty_store D_empty_store c_EMPTY
  have h_box_at := fn_box_at D_box_at
  have h_row_at := fn_row_at D_row_at
  have h_with_boxes := fn_with_boxes D_with_boxes k_name_of z_sorted
  have h_replaced := fn_replaced D_replaced
  have h_make := fn_make D_make h_with_boxes
  have h_add := fn_add D_add h_replaced h_with_boxes
  have h_check_deed_make := fn_check_deed_make D_check_deed
  have h_check_deed_add := fn_check_deed_add D_check_deed c_FLAGS z_all
  have h_check_deed_rem := fn_check_deed_rem D_check_deed
  have h_check_deed_move := fn_check_deed_move D_check_deed c_FLAGS
  have h_carry_rem := fn_carry_rem D_carry h_replaced h_with_boxes
  have h_carry_move := fn_carry_move D_carry h_replaced h_with_boxes
  have h_do_make := fn_do_make D_do h_check_deed_make h_box_at h_make
  have h_do_add := fn_do_add D_do h_check_deed_add h_box_at h_add z_sorted z_set z_tuple
  have h_do_rem := fn_do_rem D_do h_check_deed_rem h_box_at h_row_at h_carry_rem
  have h_do_move := fn_do_move D_do h_check_deed_move h_box_at h_row_at h_carry_move
  have h_view := fn_view D_view h_box_at
  have h_place_of := fn_place_of D_place_of h_view
  exact law_reads (B := ⟨P, w, K, mg, base⟩) hst h_empty_store h_do_make h_law_take h_do_add h_view h_do_rem h_numbers_there h_do_move h_new_number h_place_of z_range z_int z_len F
end M3
open PySem PySem.W PyProof.Rows
set_option maxHeartbeats 0 in
theorem PySem.Challenge.cw_mailwright_k85_numbers_there_are_those_o_holds : PySem.Challenge.rw_mailwright_k85_numbers_there_are_those_o.Holds := by
  w_on; o_law; k_head; (case hw => w_witness2)
  k_fill
  refine L2.walk_of (l := PySem.Challenge.rw_mailwright_k85_numbers_there_are_those_o) (n := 63) (k := 4) (x := "script") (CX := fun _ => L2.CX0) (sp := fun w => M3.spLaw _) rfl (by decide) rfl ⟨rfl, by decide, by decide⟩ (fun w h Y => PySem.W.kIn_of Y) ?F (fun _ _ a ns hl _ hS => ⟨a, ns, rfl, hS, hl, fun _ => rfl⟩) (fun _ _ _ _ _ h => h)
  case F =>
    intro w mg fa h KX G hmg
    refine' M3.end_mk (st := M3.s_law) KX G hmg ?a ?l ?c ?kk (fun s v => .of_eq rfl) ?H
    (case a => k_is); (case l => k_is); (case c => k_is); (case kk => k_is)
    case H =>
      intro base fd F
      refine' M3.law_end ?D0 ?D1 ?D2 ?D3 ?D4 ?D5 ?D6 ?D7 ?D8 ?D9 ?D10 ?D11 ?D12 ?D13 ?D14 ?D15 ?D16 ?z0 ?z1 ?z2 ?z3 ?z4 ?z5 ?z6 ?z7 ?z8 ?c0 ?c1 F
      (case D0 => refine' M3.defAt_mk KX G ?a0 ?l0 ?c0_ ?k0; (case a0 => k_is); (case l0 => k_is); (case c0_ => k_is); (case k0 => k_is))
      (case D1 => refine' M3.defAt_mk KX G ?a1 ?l1 ?c1_ ?k1; (case a1 => k_is); (case l1 => k_is); (case c1_ => k_is); (case k1 => k_is))
      (case D2 => refine' M3.defAt_mk KX G ?a2 ?l2 ?c2_ ?k2; (case a2 => k_is); (case l2 => k_is); (case c2_ => k_is); (case k2 => k_is))
      (case D3 => refine' M3.defAt_mk KX G ?a3 ?l3 ?c3_ ?k3; (case a3 => k_is); (case l3 => k_is); (case c3_ => k_is); (case k3 => k_is))
      (case D4 => refine' M3.defAt_mk KX G ?a4 ?l4 ?c4_ ?k4; (case a4 => k_is); (case l4 => k_is); (case c4_ => k_is); (case k4 => k_is))
      (case D5 => refine' M3.defAt_mk KX G ?a5 ?l5 ?c5_ ?k5; (case a5 => k_is); (case l5 => k_is); (case c5_ => k_is); (case k5 => k_is))
      (case D6 => refine' M3.defAt_mk KX G ?a6 ?l6 ?c6_ ?k6; (case a6 => k_is); (case l6 => k_is); (case c6_ => k_is); (case k6 => k_is))
      (case D7 => refine' M3.defAt_mk KX G ?a7 ?l7 ?c7_ ?k7; (case a7 => k_is); (case l7 => k_is); (case c7_ => k_is); (case k7 => k_is))
      (case D8 => refine' M3.defAt_mk KX G ?a8 ?l8 ?c8_ ?k8; (case a8 => k_is); (case l8 => k_is); (case c8_ => k_is); (case k8 => k_is))
      (case D9 => refine' M3.defAt_mk KX G ?a9 ?l9 ?c9_ ?k9; (case a9 => k_is); (case l9 => k_is); (case c9_ => k_is); (case k9 => k_is))
      (case D10 => refine' M3.defAt_mk KX G ?a10 ?l10 ?c10_ ?k10; (case a10 => k_is); (case l10 => k_is); (case c10_ => k_is); (case k10 => k_is))
      (case D11 => refine' M3.defAt_mk KX G ?a11 ?l11 ?c11_ ?k11; (case a11 => k_is); (case l11 => k_is); (case c11_ => k_is); (case k11 => k_is))
      (case D12 => refine' M3.defAt_mk KX G ?a12 ?l12 ?c12_ ?k12; (case a12 => k_is); (case l12 => k_is); (case c12_ => k_is); (case k12 => k_is))
      (case D13 => refine' M3.defAt_mk KX G ?a13 ?l13 ?c13_ ?k13; (case a13 => k_is); (case l13 => k_is); (case c13_ => k_is); (case k13 => k_is))
      (case D14 => refine' M3.defAt_mk KX G ?a14 ?l14 ?c14_ ?k14; (case a14 => k_is); (case l14 => k_is); (case c14_ => k_is); (case k14 => k_is))
      (case D15 => refine' M3.defAt_mk KX G ?a15 ?l15 ?c15_ ?k15; (case a15 => k_is); (case l15 => k_is); (case c15_ => k_is); (case k15 => k_is))
      (case D16 => refine' M3.defAt_mk KX G ?a16 ?l16 ?c16_ ?k16; (case a16 => k_is); (case l16 => k_is); (case c16_ => k_is); (case k16 => k_is))
      (case z0 => refine' M3.none_mk KX G ?y0; (case y0 => k_is))
      (case z1 => refine' M3.none_mk KX G ?y1; (case y1 => k_is))
      (case z2 => refine' M3.none_mk KX G ?y2; (case y2 => k_is))
      (case z3 => refine' M3.none_mk KX G ?y3; (case y3 => k_is))
      (case z4 => refine' M3.none_mk KX G ?y4; (case y4 => k_is))
      (case z5 => refine' M3.none_mk KX G ?y5; (case y5 => k_is))
      (case z6 => refine' M3.none_mk KX G ?y6; (case y6 => k_is))
      (case z7 => refine' M3.none_mk KX G ?y7; (case y7 => k_is))
      (case z8 => refine' M3.none_mk KX G ?y8; (case y8 => k_is))
      (case c0 => refine' M3.const_tup KX G ?qe0 ?qf0 ?qg0; (case qe0 => k_is); (case qf0 => k_is); (case qg0 => exact ⟨rfl, rfl, Nat.le_of_ble_eq_true rfl⟩))
      (case c1 => refine' M3.const_tup KX G ?qe1 ?qf1 ?qg1; (case qe1 => k_is); (case qf1 => k_is); (case qg1 => exact ⟨rfl, rfl, Nat.le_of_ble_eq_true rfl⟩))

