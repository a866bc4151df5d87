import PyProof.Rows.All
import Wide.All
import OpenK.AllK
import Wide.FinOn
import HandS.ForMost
import HandS.Walk
import HandS.Deep
import HandS.TupAny
import HandS.Flow
import HandS.Conv
import KE.DataAny
import KE.DataEq
import KE.DataIsa
import KE.DataMinMax
import KE.DataFind
import KE.SortData
import HandS.Defaults
import HandS.HeadEnd
import HandS.HeadHook1
import HandS.HeadHook2
import HandS.TupMul
import HandS.More
import HandS.RaiseMore
import PyProof.ReprRoads
import KE.KIndexOf
import HandS.Iter
import KE.GoesEnum
import KE.GoesMore
import KE.GoesZip
import HandS.Strs
import HandS.Star
import HandS.Style
import HandS.Words
import HandS.Head0
import HandS.Head1
import HandS.Head2
import HandS.Ends
import HandS.IterVal
import KE.KStateDown
import HandS.Comp
import PySem.Challenge.RW_togethersafe_k11_marks_of_all_parts
set_option Elab.async false
set_option linter.all false
set_option maxRecDepth 100000
set_option maxHeartbeats 4000000
/-! VLCore: a value-level reading over the hand layer: pure data (PyData) in a frozen part of the heap, slots that are shared, owned or raw, and the simulation of the layer's readings by readings without a heap. -/
namespace VL
open PySem PySem.Spec L2
abbrev St := L2.St

/-! ### data on the heap -/
def kD : Key → PyData
  | .inl i => .int i
  | .inr x => .str x
mutual
inductive R (K : PySem.W.Frag) (F : Hp) : V → PyData → Prop
  | non : R K F .non .none
  | bl (b : Bool) : R K F (.bl b) (.bool b)
  | int (i : Int) : R K F (.int i) (.int i)
  | str (x : Str) : x.length ≤ sizeLine → R K F (.str x) (.str x)
  | lst {a : Addr} {xs : List V} {ds : List PyData} : F a = some (.lst xs) → ds.length ≤ sizeLine → RL K F xs ds → R K F (.ref a) (.list ds)
  | tup {a : Addr} {xs : List V} {ds : List PyData} : SqT K F a xs → ds.length ≤ sizeLine → RL K F xs ds → R K F (.ref a) (.tuple ds)
  | dct {a : Addr} {kvs : List (Key × V)} {ds : List (PyData × PyData)} : F a = some (.dK kvs) → ds.length ≤ sizeLine → RK K F kvs ds → R K F (.ref a) (.dict ds)
inductive RL (K : PySem.W.Frag) (F : Hp) : List V → List PyData → Prop
  | nil : RL K F [] []
  | cons {v : V} {vs : List V} {d : PyData} {ds : List PyData} : R K F v d → RL K F vs ds → RL K F (v :: vs) (d :: ds)
inductive RK (K : PySem.W.Frag) (F : Hp) : List (Key × V) → List (PyData × PyData) → Prop
  | nil : RK K F [] []
  | cons {k : Key} {v : V} {kvs : List (Key × V)} {d : PyData} {ds : List (PyData × PyData)} : R K F v d → RK K F kvs ds → RK K F ((k, v) :: kvs) ((kD k, d) :: ds)
end
section
variable {K : PySem.W.Frag} {F F' : Hp}
theorem sqT_mono (h : Same F F') {a : Addr} {xs : List V} (s : SqT K F a xs) : SqT K F' a xs := by
  rcases s with (s | ⟨o, s⟩) | s
  · exact .inl (.inl (h _ _ s))
  · exact .inl (.inr ⟨o, h _ _ s⟩)
  · exact .inr s
mutual
theorem R.mono (h : Same F F') : ∀ {v : V} {d : PyData}, R K F v d → R K F' v d
  | _, _, .non => .non
  | _, _, .bl b => .bl b
  | _, _, .int i => .int i
  | _, _, .str x l => .str x l
  | _, _, .lst e l r => .lst (h _ _ e) l (r.mono h)
  | _, _, .tup e l r => .tup (sqT_mono h e) l (r.mono h)
  | _, _, .dct e l r => .dct (h _ _ e) l (r.mono h)
theorem RL.mono (h : Same F F') : ∀ {vs : List V} {ds : List PyData}, RL K F vs ds → RL K F' vs ds
  | _, _, .nil => .nil
  | _, _, .cons a b => .cons (a.mono h) (b.mono h)
theorem RK.mono (h : Same F F') : ∀ {vs : List (Key × V)} {ds : List (PyData × PyData)}, RK K F vs ds → RK K F' vs ds
  | _, _, .nil => .nil
  | _, _, .cons a b => .cons (a.mono h) (b.mono h)
end
theorem RL.length : ∀ {vs : List V} {ds : List PyData}, RL K F vs ds → vs.length = ds.length
  | _, _, .nil => rfl
  | _, _, .cons _ b => by rw [List.length_cons, List.length_cons, b.length]
theorem RK.length : ∀ {vs : List (Key × V)} {ds : List (PyData × PyData)}, RK K F vs ds → vs.length = ds.length
  | _, _, .nil => rfl
  | _, _, .cons _ b => by rw [List.length_cons, List.length_cons, b.length]
theorem RL.get : ∀ {vs : List V} {ds : List PyData} {i : Nat} {v : V}, RL K F vs ds → vs[i]? = some v → ∃ d, ds[i]? = some d ∧ R K F v d
  | _, _, _, _, .nil, e => by simp at e
  | _, _, 0, _, .cons a _, e => by simp at e; subst e; exact ⟨_, rfl, a⟩
  | _, _, i + 1, v, .cons _ b, e => by
    obtain ⟨d, h1, h2⟩ := RL.get (i := i) (v := v) b (by simpa using e)
    exact ⟨d, by simpa using h1, h2⟩
theorem RL.get' : ∀ {vs : List V} {ds : List PyData} {i : Nat} {d : PyData}, RL K F vs ds → ds[i]? = some d → ∃ v, vs[i]? = some v ∧ R K F v d
  | _, _, _, _, .nil, e => by simp at e
  | _, _, 0, _, .cons a _, e => by simp at e; subst e; exact ⟨_, rfl, a⟩
  | _, _, i + 1, v, .cons _ b, e => by
    obtain ⟨d, h1, h2⟩ := RL.get' (i := i) b (by simpa using e)
    exact ⟨d, by simpa using h1, h2⟩
theorem RL.append : ∀ {vs ws : List V} {ds es : List PyData}, RL K F vs ds → RL K F ws es → RL K F (vs ++ ws) (ds ++ es)
  | _, _, _, _, .nil, s => s
  | _, _, _, _, .cons a b, s => .cons a (b.append s)
theorem RL.snoc {vs : List V} {ds : List PyData} {v : V} {d : PyData} (r : RL K F vs ds) (s : R K F v d) : RL K F (vs ++ [v]) (ds ++ [d]) := r.append (.cons s .nil)
theorem RL.drop : ∀ {vs : List V} {ds : List PyData} (n : Nat), RL K F vs ds → RL K F (vs.drop n) (ds.drop n)
  | _, _, 0, r => r
  | _, _, _ + 1, .nil => .nil
  | _, _, n + 1, .cons _ b => RL.drop n b
theorem RL.take : ∀ {vs : List V} {ds : List PyData} (n : Nat), RL K F vs ds → RL K F (vs.take n) (ds.take n)
  | _, _, 0, _ => .nil
  | _, _, _ + 1, .nil => .nil
  | _, _, n + 1, .cons a b => .cons a (RL.take n b)
theorem RL.set : ∀ {vs : List V} {ds : List PyData} {v : V} {d : PyData} (i : Nat), RL K F vs ds → R K F v d → RL K F (vs.set i v) (ds.set i d)
  | _, _, _, _, _, .nil, _ => .nil
  | _, _, _, _, 0, .cons _ b, s => .cons s b
  | _, _, _, _, i + 1, .cons a b, s => .cons a (RL.set i b s)
theorem RL.eraseIdx : ∀ {vs : List V} {ds : List PyData} (i : Nat), RL K F vs ds → RL K F (vs.eraseIdx i) (ds.eraseIdx i)
  | _, _, _, .nil => .nil
  | _, _, 0, .cons _ b => b
  | _, _, i + 1, .cons a b => .cons a (RL.eraseIdx i b)
theorem RL.dropLast : ∀ {vs : List V} {ds : List PyData}, RL K F vs ds → RL K F vs.dropLast ds.dropLast
  | _, _, .nil => .nil
  | _, _, .cons _ .nil => .nil
  | _, _, .cons a (.cons b c) => .cons a (RL.dropLast (.cons b c))
theorem RL.reverse : ∀ {vs : List V} {ds : List PyData}, RL K F vs ds → RL K F vs.reverse ds.reverse
  | _, _, .nil => .nil
  | _, _, .cons a b => by rw [List.reverse_cons, List.reverse_cons]; exact b.reverse.append (.cons a .nil)
end

/-! ### the setting: the module's part, a region that stands apart (the draws' source), what holds of it -/
structure Cfg where
  K : PySem.W.Frag
  S : Addr → Prop
  ok : Hp → Prop
  src : Option V
  loc : ∀ H H' : Hp, (∀ a, S a → H' a = H a) → ok H → ok H'
  alloc : ∀ (H : Hp) a, ok H → S a → H a ≠ none

/-- the frozen part F of the heap H -/
structure Good (C : Cfg) (F H : Hp) : Prop where
  fh : Same F H
  ok : C.ok H
  fs : ∀ a, C.S a → F a = none
/-- from F, H to F', H': the frozen part grows by new objects, what stood stands but for the region -/
structure Ext (C : Cfg) (F H F' H' : Hp) : Prop where
  ff : Same F F'
  g : Good C F' H'
  hh : ∀ a o, H a = some o → ¬ C.S a → H' a = some o
  nw : ∀ a o, F' a = some o → F a = some o ∨ H a = none
section
variable {C : Cfg} {F H F1 H1 F2 H2 : Hp}
theorem Ext.refl (g : Good C F H) : Ext C F H F H := ⟨.refl _, g, fun _ _ e _ => e, fun _ _ e => .inl e⟩
theorem Ext.trans (x : Ext C F H F1 H1) (y : Ext C F1 H1 F2 H2) : Ext C F H F2 H2 := by
  refine ⟨x.ff.trans y.ff, y.g, fun a o e n => y.hh a o (x.hh a o e n) n, fun a o e => ?_⟩
  rcases y.nw a o e with h | h
  · exact x.nw a o h
  · right
    cases q : H a with
    | none => rfl
    | some u =>
      have n : ¬ C.S a := fun s => by
        have := y.g.fs a s
        rw [e] at this; cases this
      have := x.hh a u q n
      rw [h] at this; cases this
theorem Good.noS (g : Good C F H) {p : Addr} (h : H p = none) : ¬ C.S p := fun s => C.alloc H p g.ok s h
theorem Good.fnone (g : Good C F H) {p : Addr} (h : H p = none) : F p = none := g.fh.free h
/-- a new frozen object -/
theorem Ext.new (g : Good C F H) {p : Addr} (h : H p = none) (o : HO) : Ext C F H (upd F p o) (upd H p o) := by
  have nS := g.noS h
  have nF := g.fnone h
  refine ⟨fun b u e => by rw [upd_ne (ne_of_none e nF)]; exact e, ⟨fun b u e => ?_, C.loc H _ (fun a s => upd_ne (fun z : a = p => nS (z ▸ s))) g.ok, fun a s => by rw [upd_ne (fun z : a = p => nS (z ▸ s))]; exact g.fs a s⟩,
    fun a u e _ => by rw [upd_ne (ne_of_none e h)]; exact e, fun a u e => ?_⟩
  · by_cases hb : b = p
    · subst hb; rw [upd_same] at e ⊢; exact e
    · rw [upd_ne hb] at e ⊢; exact g.fh b u e
  · by_cases hb : a = p
    · subst hb; exact .inr h
    · rw [upd_ne hb] at e; exact .inl e
/-- a new object that isn't frozen -/
theorem Ext.newO (g : Good C F H) {p : Addr} (h : H p = none) (o : HO) : Ext C F H F (upd H p o) := by
  have nS := g.noS h
  refine ⟨.refl _, ⟨fun b u e => ?_, C.loc H _ (fun a s => upd_ne (fun z : a = p => nS (z ▸ s))) g.ok, g.fs⟩, fun a u e _ => by rw [upd_ne (ne_of_none e h)]; exact e, fun a u e => .inl e⟩
  rw [upd_ne (ne_of_none (g.fh b u e) h)]; exact g.fh b u e
end

/-! ### slots -/
inductive Slot where
  | un
  | sh (d : PyData)
  | ow (d : PyData)
  | raw (v : V)
  | so
abbrev Vn := List Slot
/-- what stands at a as a list or dict of its own -/
def Cont (K : PySem.W.Frag) (F H : Hp) (a : Addr) : PyData → Prop
  | .list ds => ∃ vs, H a = some (.lst vs) ∧ ds.length ≤ sizeLine ∧ RL K F vs ds
  | .dict ds => ∃ kvs, H a = some (.dK kvs) ∧ ds.length ≤ sizeLine ∧ RK K F kvs ds
  | _ => False
theorem Cont.there {K : PySem.W.Frag} {F H : Hp} {a : Addr} {d : PyData} (h : Cont K F H a d) : ∃ o, H a = some o := by
  cases d with
  | list ds => obtain ⟨_, e, _⟩ := h; exact ⟨_, e⟩
  | dict ds => obtain ⟨_, e, _⟩ := h; exact ⟨_, e⟩
  | _ => exact h.elim
theorem Cont.mono {K : PySem.W.Frag} {F H F' H' : Hp} {a : Addr} {d : PyData} (h : Cont K F H a d) (ff : Same F F') (e : H' a = H a) : Cont K F' H' a d := by
  cases d with
  | list ds => obtain ⟨vs, q, l, r⟩ := h; exact ⟨vs, e.trans q, l, r.mono ff⟩
  | dict ds => obtain ⟨vs, q, l, r⟩ := h; exact ⟨vs, e.trans q, l, r.mono ff⟩
  | _ => exact h
structure Own (C : Cfg) (H0 F H : Hp) (a : Addr) (d : PyData) : Prop where
  nf : F a = none
  n0 : H0 a = none
  ns : ¬ C.S a
  ct : Cont C.K F H a d
theorem Own.ext {C : Cfg} {H0 F H F' H' : Hp} {a : Addr} {d : PyData} (o : Own C H0 F H a d) (x : Ext C F H F' H') : Own C H0 F' H' a d := by
  obtain ⟨u, e⟩ := o.ct.there
  refine ⟨?_, o.n0, o.ns, o.ct.mono x.ff ((x.hh a u e o.ns).trans e.symm)⟩
  cases q : F' a with
  | none => rfl
  | some w =>
    rcases x.nw a w q with z | z
    · rw [o.nf] at z; cases z
    · rw [e] at z; cases z
def SlotR (C : Cfg) (H0 F H : Hp) : Slot → Option V → Prop
  | .un, _ => True
  | .sh d, o => ∃ v, o = some v ∧ R C.K F v d
  | .ow d, o => ∃ a, o = some (.ref a) ∧ Own C H0 F H a d
  | .raw v, o => o = some v
  | .so, o => C.src ≠ none ∧ o = C.src
structure Slots (C : Cfg) (H0 F H : Hp) (σ : St) (ρ : Vn) : Prop where
  len : σ.length = ρ.length
  get : ∀ (i : Nat) s o, ρ[i]? = some s → σ[i]? = some o → SlotR C H0 F H s o
  apart : ∀ (i j : Nat) a d e, i ≠ j → ρ[i]? = some (.ow d) → ρ[j]? = some (.ow e) → σ[i]? = some (some (.ref a)) → σ[j]? = some (some (.ref a)) → False
section
variable {C : Cfg} {H0 F H F' H' : Hp} {σ : St} {ρ : Vn}
theorem SlotR.ext {s : Slot} {o : Option V} (r : SlotR C H0 F H s o) (x : Ext C F H F' H') : SlotR C H0 F' H' s o := by
  cases s with
  | un => trivial
  | sh d => obtain ⟨v, e, q⟩ := r; exact ⟨v, e, q.mono x.ff⟩
  | ow d => obtain ⟨a, e, q⟩ := r; exact ⟨a, e, q.ext x⟩
  | raw v => exact r
  | so => exact r
theorem Slots.ext (S : Slots C H0 F H σ ρ) (x : Ext C F H F' H') : Slots C H0 F' H' σ ρ := ⟨S.len, fun i s o e1 e2 => (S.get i s o e1 e2).ext x, S.apart⟩
theorem Slots.at (S : Slots C H0 F H σ ρ) {i : Nat} {s : Slot} (e : ρ[i]? = some s) : ∃ o, σ[i]? = some o ∧ SlotR C H0 F H s o := by
  have h : i < σ.length := by rw [S.len]; exact (List.getElem?_eq_some_iff.mp e).1
  exact ⟨σ[i], by simp [h], S.get i s _ e (by simp [h])⟩
theorem Slots.set (S : Slots C H0 F H σ ρ) (i : Nat) {s : Slot} {v : V} (r : SlotR C H0 F H s (some v))
    (ap : ∀ a d, s = .ow d → v = .ref a → ∀ j e, j ≠ i → ρ[j]? = some (.ow e) → σ[j]? = some (some (.ref a)) → False) : Slots C H0 F H (σ.set i (some v)) (ρ.set i s) := by
  refine ⟨by rw [List.length_set, List.length_set, S.len], fun j t o e1 e2 => ?_, fun j k a d e hne e1 e2 e3 e4 => ?_⟩
  · by_cases h : i = j
    · subst h
      have hi : i < ρ.length := by
        have := (List.getElem?_eq_some_iff.mp e1).1
        rwa [List.length_set] at this
      rw [List.getElem?_set_self hi] at e1
      rw [List.getElem?_set_self (by rw [S.len]; exact hi)] at e2
      cases e1; cases e2
      exact r
    · rw [List.getElem?_set_ne h] at e1 e2
      exact S.get j t o e1 e2
  · by_cases h1 : i = j
    · subst h1
      have hi : i < ρ.length := by
        have := (List.getElem?_eq_some_iff.mp e1).1
        rwa [List.length_set] at this
      rw [List.getElem?_set_self hi] at e1
      rw [List.getElem?_set_self (by rw [S.len]; exact hi)] at e3
      rw [List.getElem?_set_ne hne] at e2 e4
      cases e1; cases e3
      exact ap a d rfl rfl k e (Ne.symm hne) e2 e4
    · by_cases h2 : i = k
      · subst h2
        have hi : i < ρ.length := by
          have := (List.getElem?_eq_some_iff.mp e2).1
          rwa [List.length_set] at this
        rw [List.getElem?_set_self hi] at e2
        rw [List.getElem?_set_self (by rw [S.len]; exact hi)] at e4
        rw [List.getElem?_set_ne h1] at e1 e3
        cases e2; cases e4
        exact ap a e rfl rfl j d (fun z => h1 z.symm) e1 e3
      · rw [List.getElem?_set_ne h1] at e1 e3
        rw [List.getElem?_set_ne h2] at e2 e4
        exact S.apart j k a d e hne e1 e2 e3 e4
/-- slots forgotten -/
@[simp] def wipeE (ρ : Vn) : List Nat → Vn
  | [] => ρ
  | v :: vs => (wipeE ρ vs).set v .un
theorem Slots.wipe (S : Slots C H0 F H σ ρ) : ∀ vs : List Nat, Slots C H0 F H (L2.wipe σ vs) (wipeE ρ vs)
  | [] => S
  | v :: vs => by
    have T := Slots.wipe S vs
    unfold L2.wipe wipeE
    refine ⟨by rw [List.length_set, List.length_set, T.len], fun j t o e1 e2 => ?_, fun j k a d e hne e1 e2 e3 e4 => ?_⟩
    · by_cases h : v = j
      · subst h
        have hi : v < (wipeE ρ vs).length := by
          have := (List.getElem?_eq_some_iff.mp e1).1
          rwa [List.length_set] at this
        rw [List.getElem?_set_self hi] at e1
        cases e1
        trivial
      · rw [List.getElem?_set_ne h] at e1 e2
        exact T.get j t o e1 e2
    · have n1 : v ≠ j := fun z => by
        subst z
        have hi : v < (wipeE ρ vs).length := by
          have := (List.getElem?_eq_some_iff.mp e1).1
          rwa [List.length_set] at this
        rw [List.getElem?_set_self hi] at e1
        cases e1
      have n2 : v ≠ k := fun z => by
        subst z
        have hi : v < (wipeE ρ vs).length := by
          have := (List.getElem?_eq_some_iff.mp e2).1
          rwa [List.length_set] at this
        rw [List.getElem?_set_self hi] at e2
        cases e2
      rw [List.getElem?_set_ne n1] at e1 e3
      rw [List.getElem?_set_ne n2] at e2 e4
      exact T.apart j k a d e hne e1 e2 e3 e4
end
/-- what may be read: frozen data, or an own list or dict -/
def RP (C : Cfg) (F H : Hp) (v : V) (d : PyData) : Prop := R C.K F v d ∨ ∃ a, v = .ref a ∧ ¬ C.S a ∧ Cont C.K F H a d
section
variable {C : Cfg} {H0 F H F' H' : Hp} {v : V} {d : PyData}
theorem RP.ext (r : RP C F H v d) (x : Ext C F H F' H') : RP C F' H' v d := by
  rcases r with r | ⟨a, e, n, c⟩
  · exact .inl (r.mono x.ff)
  · obtain ⟨u, q⟩ := c.there
    exact .inr ⟨a, e, n, c.mono x.ff ((x.hh a u q n).trans q.symm)⟩
/-- read off the whole heap -/
theorem RP.all (r : RP C F H v d) (g : Good C F H) : R C.K H v d := by
  rcases r with r | ⟨a, e, n, c⟩
  · exact r.mono g.fh
  · subst e
    cases d with
    | list ds => obtain ⟨vs, q, l, r⟩ := c; exact .lst q l (r.mono g.fh)
    | dict ds => obtain ⟨vs, q, l, r⟩ := c; exact .dct q l (r.mono g.fh)
    | _ => exact c.elim
/-- a list that may be read, its items frozen -/
theorem RP.list {ds : List PyData} (r : RP C F H v (.list ds)) (g : Good C F H) : ∃ a vs, v = .ref a ∧ ¬ C.S a ∧ H a = some (.lst vs) ∧ ds.length ≤ sizeLine ∧ RL C.K F vs ds := by
  rcases r with r | ⟨a, e, n, vs, q, l, r⟩
  · cases r with
    | lst e l r =>
      rename_i a vs
      exact ⟨a, vs, rfl, (fun s => by have := g.fs a s; rw [e] at this; cases this), g.fh _ _ e, l, r⟩
  · exact ⟨a, vs, e, n, q, l, r⟩
theorem RP.tuple {ds : List PyData} (r : RP C F H v (.tuple ds)) : ∃ a vs, v = .ref a ∧ SqT C.K F a vs ∧ ds.length ≤ sizeLine ∧ RL C.K F vs ds := by
  rcases r with r | ⟨a, e, n, c⟩
  · cases r with
    | tup e l r => exact ⟨_, _, rfl, e, l, r⟩
  · exact c.elim
theorem RP.dict {ds : List (PyData × PyData)} (r : RP C F H v (.dict ds)) (g : Good C F H) : ∃ a kvs, v = .ref a ∧ ¬ C.S a ∧ H a = some (.dK kvs) ∧ ds.length ≤ sizeLine ∧ RK C.K F kvs ds := by
  rcases r with r | ⟨a, e, n, vs, q, l, r⟩
  · cases r with
    | dct e l r =>
      rename_i a vs
      exact ⟨a, vs, rfl, (fun s => by have := g.fs a s; rw [e] at this; cases this), g.fh _ _ e, l, r⟩
  · exact ⟨a, vs, e, n, q, l, r⟩
end

/-! ### readings without a heap -/
abbrev DE := Vn → (PyData → Prop) → Prop
abbrev DT := Vn → (Bool → Prop) → Prop
/-- an argument: data or raw -/
inductive AV where
  | d (x : PyData)
  | r (v : V)
  | s
abbrev DA := Vn → (List AV → Prop) → Prop
inductive RV where
  | sh (d : PyData)
  | ow (d : PyData)
structure Ctl where
  nx : Vn → Prop
  rt : RV → Prop
  bk : Vn → Prop := fun _ => False
  ct : Vn → Prop := fun _ => False
abbrev DS := Ctl → Vn → Prop

/-- the reading th is simulated by t: shared results -/
def SimE (C : Cfg) (th : TE) (t : DE) : Prop :=
  ∀ (H0 F H : Hp) (σ : St) (ρ : Vn) (Qd : PyData → Prop) (Q : VK), Good C F H → Slots C H0 F H σ ρ → t ρ Qd →
    (∀ v F' H' d, Ext C F H F' H' → R C.K F' v d → Qd d → Q v H') → th σ H Q
/-- .. results that may be read -/
def SimP (C : Cfg) (th : TE) (t : DE) : Prop :=
  ∀ (H0 F H : Hp) (σ : St) (ρ : Vn) (Qd : PyData → Prop) (Q : VK), Good C F H → Slots C H0 F H σ ρ → t ρ Qd →
    (∀ v F' H' d, Ext C F H F' H' → RP C F' H' v d → Qd d → Q v H') → th σ H Q
/-- .. results that are new lists or dicts -/
def SimF (C : Cfg) (th : TE) (t : DE) : Prop :=
  ∀ (H0 F H : Hp) (σ : St) (ρ : Vn) (Qd : PyData → Prop) (Q : VK), Good C F H → Slots C H0 F H σ ρ → t ρ Qd →
    (∀ a F' H' d, Ext C F H F' H' → Own C H F' H' a d → Qd d → Q (.ref a) H') → th σ H Q
def SimT (C : Cfg) (th : TT) (t : DT) : Prop :=
  ∀ (H0 F H : Hp) (σ : St) (ρ : Vn) (Qd : Bool → Prop) (Q : Bool → Hp → Prop), Good C F H → Slots C H0 F H σ ρ → t ρ Qd →
    (∀ b F' H', Ext C F H F' H' → Qd b → Q b H') → th σ H Q
def AVR (C : Cfg) (F : Hp) : AV → V → Prop
  | .d x, v => R C.K F v x
  | .r w, v => v = w
  | .s, v => C.src = some v
inductive AVs (C : Cfg) (F : Hp) : List AV → List V → Prop
  | nil : AVs C F [] []
  | cons {a : AV} {as : List AV} {v : V} {vs : List V} : AVR C F a v → AVs C F as vs → AVs C F (a :: as) (v :: vs)
theorem AVR.mono {C : Cfg} {F F' : Hp} (h : Same F F') {a : AV} {v : V} (r : AVR C F a v) : AVR C F' a v := by
  cases a with
  | d x => exact R.mono h r
  | r w => exact r
  | s => exact r
theorem AVs.mono {C : Cfg} {F F' : Hp} (h : Same F F') : ∀ {as : List AV} {vs : List V}, AVs C F as vs → AVs C F' as vs
  | _, _, .nil => .nil
  | _, _, .cons a b => .cons (a.mono h) (b.mono h)
theorem AVs.length {C : Cfg} {F : Hp} : ∀ {as : List AV} {vs : List V}, AVs C F as vs → as.length = vs.length
  | _, _, .nil => rfl
  | _, _, .cons _ b => by rw [List.length_cons, List.length_cons, b.length]
def SimA (C : Cfg) (th : TA) (t : DA) : Prop :=
  ∀ (H0 F H : Hp) (σ : St) (ρ : Vn) (Qd : List AV → Prop) (Q : List V → Hp → Prop), Good C F H → Slots C H0 F H σ ρ → t ρ Qd →
    (∀ vs F' H' as, Ext C F H F' H' → AVs C F' as vs → Qd as → Q vs H') → th σ H Q
def RVR (C : Cfg) (H0 F H : Hp) : RV → V → Prop
  | .sh d, v => R C.K F v d
  | .ow d, v => ∃ a, v = .ref a ∧ Own C H0 F H a d
structure Lnk (C : Cfg) (F0 H0 : Hp) (D : Ctl) (DH : Ends) : Prop where
  nx : ∀ F H σ ρ, Ext C F0 H0 F H → Slots C H0 F H σ ρ → D.nx ρ → DH.nx σ H
  rt : ∀ F H v rv, Ext C F0 H0 F H → RVR C H0 F H rv v → D.rt rv → DH.rt v H
  bk : ∀ F H σ ρ, Ext C F0 H0 F H → Slots C H0 F H σ ρ → D.bk ρ → DH.bk σ H
  ct : ∀ F H σ ρ, Ext C F0 H0 F H → Slots C H0 F H σ ρ → D.ct ρ → DH.ct σ H
def SimS (C : Cfg) (th : TS) (t : DS) : Prop :=
  ∀ (F0 H0 F H : Hp) (σ : St) (ρ : Vn) (D : Ctl) (DH : Ends), Ext C F0 H0 F H → Slots C H0 F H σ ρ → t D ρ → Lnk C F0 H0 D DH → th DH σ H

section
variable {C : Cfg} {th ta tb : TE} {t u w : DE}
theorem SimE.p (h : SimE C th t) : SimP C th t := fun H0 F H σ ρ Qd Q g S ht k => h H0 F H σ ρ Qd Q g S ht fun v F' H' d x r q => k v F' H' d x (.inl r) q
/-- a new list is frozen -/
theorem freeze {F H F' H' : Hp} {a : Addr} {d : PyData} (x : Ext C F H F' H') (o : Own C H F' H' a d) : ∃ F'', Ext C F H F'' H' ∧ R C.K F'' (.ref a) d := by
  obtain ⟨u, e⟩ := o.ct.there
  have ff : Same F' (upd F' a u) := fun b z q => by rw [upd_ne (ne_of_none q o.nf)]; exact q
  refine ⟨upd F' a u, ⟨x.ff.trans ff, ⟨fun b z q => ?_, x.g.ok, fun b s => ?_⟩, x.hh, fun b z q => ?_⟩, ?_⟩
  · by_cases hb : b = a
    · subst hb; rw [upd_same] at q; cases q; exact e
    · rw [upd_ne hb] at q; exact x.g.fh b z q
  · rw [upd_ne (fun z : b = a => o.ns (z ▸ s))]; exact x.g.fs b s
  · by_cases hb : b = a
    · subst hb; exact .inr o.n0
    · rw [upd_ne hb] at q; exact x.nw b z q
  · have c := o.ct
    cases d with
    | list ds =>
      obtain ⟨vs, q, l, r⟩ := c
      rw [e] at q; cases q
      exact .lst upd_same l (r.mono ff)
    | dict ds =>
      obtain ⟨vs, q, l, r⟩ := c
      rw [e] at q; cases q
      exact .dct upd_same l (r.mono ff)
    | _ => exact c.elim
theorem SimF.e (h : SimF C th t) : SimE C th t := fun H0 F H σ ρ Qd Q g S ht k => h H0 F H σ ρ Qd Q g S ht fun a F' H' d x o q => by
  obtain ⟨F'', x', r⟩ := freeze x o
  exact k _ F'' H' d x' r q
end
end VL

set_option Elab.async false
set_option linter.all false
set_option maxRecDepth 100000
set_option maxHeartbeats 4000000
/-! VLOps: the layer's rules by values, over data. -/
namespace VL
open PySem PySem.Spec L2

section
variable {X : Cx} {pins : List (Addr × Obj)} {σ : St} {H : Hp} {s : Shared}
mutual
theorem R.reads (I : Inv X pins σ H s) : ∀ (d : PyData) (v : V) (u : Value), d.plain = true → R X.K H v d → RelV v u → ∃ as, Reads s.heap u d as
  | .none, _, _, _, h, r => by
    cases h
    cases r
    exact ⟨_, Reads.none⟩
  | .bool b, _, _, _, h, r => by
    cases h
    cases r
    exact ⟨_, Reads.bool b⟩
  | .int i, _, _, _, h, r => by
    cases h
    obtain ⟨t, rfl⟩ := r
    exact ⟨_, Reads.int i t⟩
  | .str x, _, _, _, h, r => by
    cases h
    obtain ⟨t, rfl⟩ := r
    exact ⟨_, Reads.str x t⟩
  | .list ds, _, _, hp, h, r => by
    cases h with
    | lst hs _ ha =>
      cases r
      obtain ⟨its, rv, ⟨o, n, ho, hc, _, hd⟩, _⟩ := I.list (SqL.of hs)
      obtain ⟨as, hr⟩ := RL.reads I ds _ its (by simpa [PyData.plain] using hp) ha rv
      exact ⟨_, Reads.list ho hc hd hr⟩
  | .tuple ds, _, _, hp, h, r => by
    cases h with
    | tup hs _ ha =>
      cases r
      obtain ⟨its, rv, ⟨o, ho, hc, n, hd⟩, _⟩ := I.tuple hs
      obtain ⟨as, hr⟩ := RL.reads I ds _ its (by simpa [PyData.plain] using hp) ha rv
      exact ⟨_, Reads.tuple ho hc hd hr⟩
  | .dict _, _, _, hp, _, _ => by simp [PyData.plain] at hp
theorem RL.reads (I : Inv X pins σ H s) : ∀ (ds : List PyData) (vs : List V) (us : List Value), PyData.plainAll ds = true → RL X.K H vs ds → Vals vs us → ∃ as, ReadsAll s.heap us ds as
  | [], _, _, _, h, r => by
    cases h
    cases r
    exact ⟨_, ReadsAll.nil⟩
  | d :: ds, _, _, hp, h, r => by
    have hp' : d.plain = true ∧ PyData.plainAll ds = true := by simpa [PyData.plainAll] using hp
    cases h with
    | cons h1 h2 =>
      cases r with
      | cons r1 r2 =>
        obtain ⟨as, q1⟩ := R.reads I d _ _ hp'.1 h1 r1
        obtain ⟨bs, q2⟩ := RL.reads I ds _ _ hp'.2 h2 r2
        exact ⟨_, ReadsAll.cons q1 q2⟩
end
end
/-- data that may be compared: no dict within, not too deep -/
def okD (d : PyData) : Prop := d.plain = true ∧ d.depth ≤ 60
section
variable {X : Cx}
def rEqR (K : PySem.W.Frag) : R2 := fun x y H Q => ∃ d e, R K H x d ∧ R K H y e ∧ okD d ∧ okD e ∧ Q (.bl (PyData.eqv d e)) H
def rNeR (K : PySem.W.Frag) : R2 := fun x y H Q => ∃ d e, R K H x d ∧ R K H y e ∧ okD d ∧ okD e ∧ Q (.bl (!PyData.eqv d e)) H
theorem op_eqR (hu : X.A.units + 200 < cLine) : OpR X (compareOp .Eq) (rEqR X.K) := by
  intro pins s σ H x y v u Q I rx ry h
  obtain ⟨d, e, hd, he, sd, se, q⟩ := h
  obtain ⟨as, r1⟩ := R.reads I d x v sd.1 hd rx
  obtain ⟨bs, r2⟩ := R.reads I e y u se.1 he ry
  have := sd.2
  exact SeqAt.eq_plain r1 r2 sd.1 se.1 (by omega) ⟨.bl _, H, I, rfl, q⟩
theorem op_neR (hu : X.A.units + 200 < cLine) : OpR X (compareOp .NotEq) (rNeR X.K) := by
  intro pins s σ H x y v u Q I rx ry h
  obtain ⟨d, e, hd, he, sd, se, q⟩ := h
  obtain ⟨as, r1⟩ := R.reads I d x v sd.1 hd rx
  obtain ⟨bs, r2⟩ := R.reads I e y u se.1 he ry
  have := sd.2
  exact SeqAt.ne_plain r1 r2 sd.1 se.1 (by omega) ⟨.bl _, H, I, rfl, q⟩
end
end VL

set_option Elab.async false
set_option linter.all false
set_option maxRecDepth 100000
set_option maxHeartbeats 4000000
/-! VLSim: the layer's readings simulated, construct by construct. -/
namespace VL
open PySem PySem.Spec L2

section
variable {C : Cfg} {th tha thb thc : TE} {t ta tb tc : DE}
/-! ### names, constants -/
def dVar (i : Nat) : DE := fun ρ Q => match ρ[i]? with
  | some (.sh d) => Q d
  | _ => False
@[simp] theorem dVar_sh {i : Nat} {ρ : Vn} {d : PyData} {Q : PyData → Prop} (h : ρ[i]? = some (.sh d)) : dVar i ρ Q = Q d := by unfold dVar; rw [h]
theorem sim_var {i : Nat} : SimE C (tVar i) (dVar i) := by
  intro H0 F H σ ρ Qd Q g S ht k
  unfold dVar at ht
  split at ht
  · rename_i d e
    obtain ⟨o, e2, v, e3, r⟩ := S.at e
    subst e3
    exact ⟨v, e2, k v F H d (.refl g) r ht⟩
  · exact ht.elim
def dVarP (i : Nat) : DE := fun ρ Q => match ρ[i]? with
  | some (.sh d) => Q d
  | some (.ow d) => Q d
  | _ => False
@[simp] theorem dVarP_sh {i : Nat} {ρ : Vn} {d : PyData} {Q : PyData → Prop} (h : ρ[i]? = some (.sh d)) : dVarP i ρ Q = Q d := by unfold dVarP; rw [h]
@[simp] theorem dVarP_ow {i : Nat} {ρ : Vn} {d : PyData} {Q : PyData → Prop} (h : ρ[i]? = some (.ow d)) : dVarP i ρ Q = Q d := by unfold dVarP; rw [h]
theorem sim_varP {i : Nat} : SimP C (tVar i) (dVarP i) := by
  intro H0 F H σ ρ Qd Q g S ht k
  unfold dVarP at ht
  split at ht
  · rename_i d e
    obtain ⟨o, e2, v, e3, r⟩ := S.at e
    subst e3
    exact ⟨v, e2, k v F H d (.refl g) (.inl r) ht⟩
  · rename_i d e
    obtain ⟨o, e2, a, e3, r⟩ := S.at e
    subst e3
    exact ⟨.ref a, e2, k _ F H d (.refl g) (.inr ⟨a, rfl, r.ns, r.ct⟩) ht⟩
  · exact ht.elim
@[simp] def dC (d : PyData) : DE := fun _ Q => Q d
theorem sim_c {v : V} {d : PyData} (h : ∀ F, R C.K F v d) : SimE C (tC v) (dC d) := fun H0 F H σ ρ Qd Q g S ht k => k v F H d (.refl g) (h F) ht
theorem sim_int {i : Int} : SimE C (tC (.int i)) (dC (.int i)) := sim_c fun _ => .int i
theorem sim_bl {i : Bool} : SimE C (tC (.bl i)) (dC (.bool i)) := sim_c fun _ => .bl i
theorem sim_non : SimE C (tC .non) (dC .none) := sim_c fun _ => .non
theorem sim_str {x : Str} (h : x.length ≤ sizeLine) : SimE C (tC (.str x)) (dC (.str x)) := sim_c fun _ => .str x h

/-! ### operators -/
abbrev D1 := PyData → (PyData → Prop) → Prop
abbrev D2 := PyData → PyData → (PyData → Prop) → Prop
def SimOp (C : Cfg) (r : R2) (f : D2) : Prop := ∀ (F H : Hp) (x y : V) (d e : PyData) (Qd : PyData → Prop) (Q : VK), Good C F H → RP C F H x d → RP C F H y e → f d e Qd →
  (∀ v F' H' z, Ext C F H F' H' → R C.K F' v z → Qd z → Q v H') → r x y H Q
def SimU (C : Cfg) (r : V → Hp → VK → Prop) (f : D1) : Prop := ∀ (F H : Hp) (x : V) (d : PyData) (Qd : PyData → Prop) (Q : VK), Good C F H → RP C F H x d → f d Qd →
  (∀ v F' H' z, Ext C F H F' H' → R C.K F' v z → Qd z → Q v H') → r x H Q
@[simp] def dOp (f : D2) (ta tb : DE) : DE := fun ρ Q => ta ρ fun x => tb ρ fun y => f x y Q
theorem sim_op {r : R2} {f : D2} (ho : SimOp C r f) (ha : SimP C tha ta) (hb : SimP C thb tb) : SimE C (tOp r tha thb) (dOp f ta tb) := by
  intro H0 F H σ ρ Qd Q g S ht k
  refine ha H0 F H σ ρ _ _ g S ht fun v F1 H1 d x1 r1 q1 => ?_
  refine hb H0 F1 H1 σ ρ _ _ x1.g (S.ext x1) q1 fun w F2 H2 e x2 r2 q2 => ?_
  exact ho F2 H2 v w d e Qd Q x2.g (r1.ext x2) r2 q2 fun u F3 H3 z x3 r3 q3 => k u F3 H3 z (x1.trans (x2.trans x3)) r3 q3
@[simp] def dUn (f : D1) (ta : DE) : DE := fun ρ Q => ta ρ fun x => f x Q
theorem sim_un {r : V → Hp → VK → Prop} {f : D1} (ho : SimU C r f) (ha : SimP C tha ta) : SimE C (tUn r tha) (dUn f ta) := by
  intro H0 F H σ ρ Qd Q g S ht k
  refine ha H0 F H σ ρ _ _ g S ht fun v F1 H1 d x1 r1 q1 => ?_
  exact ho F1 H1 v d Qd Q x1.g r1 q1 fun u F3 H3 z x3 r3 q3 => k u F3 H3 z (x1.trans x3) r3 q3
/-- a chain a r b r' c -/
@[simp] def dChain (f f' : D2) (ta tb tc : DE) : DE := fun ρ Q => ta ρ fun x => tb ρ fun y => f x y fun z => match z with
  | .bool b => if b = true then tc ρ fun w => f' y w Q else Q (.bool false)
  | _ => False
theorem sim_chain {r r' : R2} {f f' : D2} (ho : SimOp C r f) (ho' : SimOp C r' f') (ha : SimP C tha ta) (hb : SimP C thb tb) (hc : SimP C thc tc) : SimE C (tChain r r' tha thb thc) (dChain f f' ta tb tc) := by
  intro H0 F H σ ρ Qd Q g S ht k
  refine ha H0 F H σ ρ _ _ g S ht fun v F1 H1 d x1 r1 q1 => ?_
  refine hb H0 F1 H1 σ ρ _ _ x1.g (S.ext x1) q1 fun w F2 H2 e x2 r2 q2 => ?_
  refine ho F2 H2 v w d e _ _ x2.g (r1.ext x2) r2 q2 fun u F3 H3 z x3 r3 q3 => ?_
  cases z with
  | bool b =>
    cases r3
    refine ⟨b, rfl, ?_⟩
    cases b with
    | true =>
      refine hc H0 F3 H3 σ ρ _ _ x3.g (S.ext (x1.trans (x2.trans x3))) q3 fun w' F4 H4 e' x4 r4 q4 => ?_
      exact ho' F4 H4 w w' e e' Qd Q x4.g (r2.ext (x3.trans x4)) r4 q4 fun u F5 H5 z x5 r5 q5 => k u F5 H5 z (x1.trans (x2.trans (x3.trans (x4.trans x5)))) r5 q5
    | false => exact k _ F3 H3 _ (x1.trans (x2.trans x3)) (.bl false) q3
  | _ => exact q3.elim

/-! ### tests -/
variable {tth tthb : TT} {u w : DT}
@[simp] def dTst (t : DE) : DT := fun ρ Q => t ρ fun d => match d with
  | .bool b => Q b
  | _ => False
theorem sim_tst (h : SimP C th t) : SimT C (tTest th) (dTst t) := by
  intro H0 F H σ ρ Qd Q g S ht k
  refine h H0 F H σ ρ _ _ g S ht fun v F1 H1 d x1 r1 q1 => ?_
  cases d with
  | bool b =>
    rcases r1 with r1 | ⟨a, e, n, c⟩
    · cases r1
      exact ⟨b, rfl, k b F1 H1 x1 q1⟩
    · exact c.elim
  | _ => exact q1.elim
/-- truth of data without a dict's -/
def truQ (d : PyData) (Q : Bool → Prop) : Prop := Q d.truthy
theorem tru_of {F H : Hp} {v : V} {d : PyData} (g : Good C F H) (r : RP C F H v d) : TruV C.K v H d.truthy := by
  have r' := r.all g
  cases r' with
  | non => rfl
  | bl b => rfl
  | int i => rfl
  | str x l => exact ⟨l, rfl⟩
  | lst e l q =>
    refine .inl ⟨_, SqL.of e, ?_⟩
    clear r l e
    cases q <;> rfl
  | tup e l q =>
    refine .inr (.inl ⟨_, e, ?_⟩)
    clear r l e
    cases q <;> rfl
  | dct e l q =>
    refine .inr (.inr ⟨_, e, ?_⟩)
    clear r l e
    cases q <;> rfl
@[simp] def dTru (t : DE) : DT := fun ρ Q => t ρ fun d => Q d.truthy
theorem sim_tru (h : SimP C th t) : SimT C (fun σ H Q => th σ H fun x H' => ∃ k, TruV C.K x H' k ∧ Q k H') (dTru t) := by
  intro H0 F H σ ρ Qd Q g S ht k
  exact h H0 F H σ ρ _ _ g S ht fun v F1 H1 d x1 r1 q1 => ⟨_, tru_of x1.g r1, k _ F1 H1 x1 q1⟩
@[simp] def dAnd (u w : DT) : DT := fun ρ Q => u ρ fun b => if b = true then w ρ Q else Q false
@[simp] def dOr (u w : DT) : DT := fun ρ Q => u ρ fun b => if b = true then Q true else w ρ Q
@[simp] def dNot (u : DT) : DT := fun ρ Q => u ρ fun b => Q (!b)
theorem sim_and (h : SimT C tth u) (h' : SimT C tthb w) : SimT C (tAnd tth tthb) (dAnd u w) := by
  intro H0 F H σ ρ Qd Q g S ht k
  refine h H0 F H σ ρ _ _ g S ht fun b F1 H1 x1 q1 => ?_
  cases b with
  | true => exact h' H0 F1 H1 σ ρ _ _ x1.g (S.ext x1) q1 fun b F2 H2 x2 q2 => k b F2 H2 (x1.trans x2) q2
  | false => exact k _ F1 H1 x1 q1
theorem sim_or (h : SimT C tth u) (h' : SimT C tthb w) : SimT C (tOr tth tthb) (dOr u w) := by
  intro H0 F H σ ρ Qd Q g S ht k
  refine h H0 F H σ ρ _ _ g S ht fun b F1 H1 x1 q1 => ?_
  cases b with
  | false => exact h' H0 F1 H1 σ ρ _ _ x1.g (S.ext x1) q1 fun b F2 H2 x2 q2 => k b F2 H2 (x1.trans x2) q2
  | true => exact k _ F1 H1 x1 q1
theorem sim_not (h : SimT C tth u) : SimT C (tNot tth) (dNot u) := fun H0 F H σ ρ Qd Q g S ht k => h H0 F H σ ρ _ _ g S ht fun b F1 H1 x1 q1 => k _ F1 H1 x1 q1
/-- and, or, not as values, by truth -/
@[simp] def dAndT (ta tb : DE) : DE := fun ρ Q => ta ρ fun x => if x.truthy = true then tb ρ Q else Q x
@[simp] def dOrT (ta tb : DE) : DE := fun ρ Q => ta ρ fun x => if x.truthy = true then Q x else tb ρ Q
@[simp] def dNotT (ta : DE) : DE := fun ρ Q => ta ρ fun x => Q (.bool (!x.truthy))
theorem sim_andT (ha : SimE C tha ta) (hb : SimE C thb tb) : SimE C (tAndT C.K tha thb) (dAndT ta tb) := by
  intro H0 F H σ ρ Qd Q g S ht k
  refine ha H0 F H σ ρ _ _ g S ht fun v F1 H1 d x1 r1 q1 => ⟨_, tru_of x1.g (.inl r1), ?_⟩
  cases hd : d.truthy with
  | true =>
    rw [hd] at q1
    exact hb H0 F1 H1 σ ρ _ _ x1.g (S.ext x1) q1 fun w F2 H2 e x2 r2 q2 => k w F2 H2 e (x1.trans x2) r2 q2
  | false =>
    rw [hd] at q1
    exact k v F1 H1 d x1 r1 q1
theorem sim_orT (ha : SimE C tha ta) (hb : SimE C thb tb) : SimE C (tOrT C.K tha thb) (dOrT ta tb) := by
  intro H0 F H σ ρ Qd Q g S ht k
  refine ha H0 F H σ ρ _ _ g S ht fun v F1 H1 d x1 r1 q1 => ⟨_, tru_of x1.g (.inl r1), ?_⟩
  cases hd : d.truthy with
  | false =>
    rw [hd] at q1
    exact hb H0 F1 H1 σ ρ _ _ x1.g (S.ext x1) q1 fun w F2 H2 e x2 r2 q2 => k w F2 H2 e (x1.trans x2) r2 q2
  | true =>
    rw [hd] at q1
    exact k v F1 H1 d x1 r1 q1
theorem sim_notT (ha : SimP C tha ta) : SimE C (tNotT C.K tha) (dNotT ta) := by
  intro H0 F H σ ρ Qd Q g S ht k
  exact ha H0 F H σ ρ _ _ g S ht fun v F1 H1 d x1 r1 q1 => ⟨_, tru_of x1.g r1, k _ F1 H1 _ x1 (.bl _) q1⟩
@[simp] def dIfE (u : DT) (ta tb : DE) : DE := fun ρ Q => u ρ fun b => if b = true then ta ρ Q else tb ρ Q
theorem sim_ifE (hc : SimT C tth u) (ha : SimE C tha ta) (hb : SimE C thb tb) : SimE C (tIf tth tha thb) (dIfE u ta tb) := by
  intro H0 F H σ ρ Qd Q g S ht k
  refine hc H0 F H σ ρ _ _ g S ht fun b F1 H1 x1 q1 => ?_
  cases b with
  | true => exact ha H0 F1 H1 σ ρ _ _ x1.g (S.ext x1) q1 fun v F2 H2 d x2 r2 q2 => k v F2 H2 d (x1.trans x2) r2 q2
  | false => exact hb H0 F1 H1 σ ρ _ _ x1.g (S.ext x1) q1 fun v F2 H2 d x2 r2 q2 => k v F2 H2 d (x1.trans x2) r2 q2
theorem simP_ifE (hc : SimT C tth u) (ha : SimP C tha ta) (hb : SimP C thb tb) : SimP C (tIf tth tha thb) (dIfE u ta tb) := by
  intro H0 F H σ ρ Qd Q g S ht k
  refine hc H0 F H σ ρ _ _ g S ht fun b F1 H1 x1 q1 => ?_
  cases b with
  | true => exact ha H0 F1 H1 σ ρ _ _ x1.g (S.ext x1) q1 fun v F2 H2 d x2 r2 q2 => k v F2 H2 d (x1.trans x2) r2 q2
  | false => exact hb H0 F1 H1 σ ρ _ _ x1.g (S.ext x1) q1 fun v F2 H2 d x2 r2 q2 => k v F2 H2 d (x1.trans x2) r2 q2

/-! ### lists of expressions -/
abbrev DL := Vn → (List PyData → Prop) → Prop
variable {tA tB : TA} {l m : DL}
inductive RPs (C : Cfg) (F H : Hp) : List V → List PyData → Prop
  | nil : RPs C F H [] []
  | cons {v : V} {vs : List V} {d : PyData} {ds : List PyData} : RP C F H v d → RPs C F H vs ds → RPs C F H (v :: vs) (d :: ds)
theorem RPs.ext {F H F' H' : Hp} (x : Ext C F H F' H') : ∀ {vs : List V} {ds : List PyData}, RPs C F H vs ds → RPs C F' H' vs ds
  | _, _, .nil => .nil
  | _, _, .cons a b => .cons (a.ext x) (b.ext x)
def SimL (C : Cfg) (th : TA) (t : DL) : Prop :=
  ∀ (H0 F H : Hp) (σ : St) (ρ : Vn) (Qd : List PyData → Prop) (Q : List V → Hp → Prop), Good C F H → Slots C H0 F H σ ρ → t ρ Qd →
    (∀ vs F' H' ds, Ext C F H F' H' → RL C.K F' vs ds → Qd ds → Q vs H') → th σ H Q
def SimLP (C : Cfg) (th : TA) (t : DL) : Prop :=
  ∀ (H0 F H : Hp) (σ : St) (ρ : Vn) (Qd : List PyData → Prop) (Q : List V → Hp → Prop), Good C F H → Slots C H0 F H σ ρ → t ρ Qd →
    (∀ vs F' H' ds, Ext C F H F' H' → RPs C F' H' vs ds → Qd ds → Q vs H') → th σ H Q
@[simp] def lNil : DL := fun _ Q => Q []
@[simp] def lCons (t : DE) (l : DL) : DL := fun ρ Q => t ρ fun x => l ρ fun xs => Q (x :: xs)
theorem sim_lnil : SimL C tNil lNil := fun H0 F H σ ρ Qd Q g S ht k => k [] F H [] (.refl g) .nil ht
theorem sim_lcons (ha : SimE C tha ta) (hl : SimL C tA l) : SimL C (tCons tha tA) (lCons ta l) := by
  intro H0 F H σ ρ Qd Q g S ht k
  refine ha H0 F H σ ρ _ _ g S ht fun v F1 H1 d x1 r1 q1 => ?_
  exact hl H0 F1 H1 σ ρ _ _ x1.g (S.ext x1) q1 fun vs F2 H2 ds x2 r2 q2 => k (v :: vs) F2 H2 (d :: ds) (x1.trans x2) (.cons (r1.mono x2.ff) r2) q2
theorem sim_pnil : SimLP C tNil lNil := fun H0 F H σ ρ Qd Q g S ht k => k [] F H [] (.refl g) .nil ht
theorem sim_pcons (ha : SimP C tha ta) (hl : SimLP C tA l) : SimLP C (tCons tha tA) (lCons ta l) := by
  intro H0 F H σ ρ Qd Q g S ht k
  refine ha H0 F H σ ρ _ _ g S ht fun v F1 H1 d x1 r1 q1 => ?_
  exact hl H0 F1 H1 σ ρ _ _ x1.g (S.ext x1) q1 fun vs F2 H2 ds x2 r2 q2 => k (v :: vs) F2 H2 (d :: ds) (x1.trans x2) (.cons (r1.ext x2) r2) q2
/-- arguments of a def -/
@[simp] def aNil : DA := fun _ Q => Q []
@[simp] def aCons (t : DE) (u : DA) : DA := fun ρ Q => t ρ fun x => u ρ fun xs => Q (.d x :: xs)
def aRaw (i : Nat) (u : DA) : DA := fun ρ Q => match ρ[i]? with
  | some (.raw v) => u ρ fun xs => Q (.r v :: xs)
  | _ => False
@[simp] theorem aRaw_r {i : Nat} {u : DA} {ρ : Vn} {v : V} {Q : List AV → Prop} (h : ρ[i]? = some (.raw v)) : aRaw i u ρ Q = u ρ fun xs => Q (.r v :: xs) := by unfold aRaw; rw [h]
def aVal (v : V) (u : DA) : DA := fun ρ Q => u ρ fun xs => Q (.r v :: xs)
theorem sim_anil : SimA C tNil aNil := fun H0 F H σ ρ Qd Q g S ht k => k [] F H [] (.refl g) .nil ht
theorem sim_acons {a : DA} (ha : SimE C tha ta) (hl : SimA C tA a) : SimA C (tCons tha tA) (aCons ta a) := by
  intro H0 F H σ ρ Qd Q g S ht k
  refine ha H0 F H σ ρ _ _ g S ht fun v F1 H1 d x1 r1 q1 => ?_
  exact hl H0 F1 H1 σ ρ _ _ x1.g (S.ext x1) q1 fun vs F2 H2 ds x2 r2 q2 => k (v :: vs) F2 H2 (.d d :: ds) (x1.trans x2) (.cons (show R _ _ _ _ from r1.mono x2.ff) r2) q2
theorem sim_araw {a : DA} {i : Nat} (hl : SimA C tA a) : SimA C (tCons (tVar i) tA) (aRaw i a) := by
  intro H0 F H σ ρ Qd Q g S ht k
  unfold aRaw at ht
  split at ht
  · rename_i v e
    obtain ⟨o, e2, e3⟩ := S.at e
    cases (show o = some v from e3)
    exact ⟨v, e2, hl H0 F H σ ρ _ _ g S ht fun vs F2 H2 ds x2 r2 q2 => k (v :: vs) F2 H2 (.r v :: ds) x2 (.cons rfl r2) q2⟩
  · exact ht.elim
def aSrc (i : Nat) (u : DA) : DA := fun ρ Q => match ρ[i]? with
  | some .so => u ρ fun xs => Q (.s :: xs)
  | _ => False
@[simp] theorem aSrc_so {i : Nat} {u : DA} {ρ : Vn} {Q : List AV → Prop} (h : ρ[i]? = some .so) : aSrc i u ρ Q = u ρ fun xs => Q (.s :: xs) := by unfold aSrc; rw [h]
theorem sim_asrc {a : DA} {i : Nat} (hl : SimA C tA a) : SimA C (tCons (tVar i) tA) (aSrc i a) := by
  intro H0 F H σ ρ Qd Q g S ht k
  unfold aSrc at ht
  split at ht
  · rename_i e
    obtain ⟨o, e2, e3, e4⟩ := S.at e
    subst e4
    cases hc : C.src with
    | none => exact absurd hc e3
    | some v =>
      rw [hc] at e2
      exact ⟨v, e2, hl H0 F H σ ρ _ _ g S ht fun vs F2 H2 as x2 r2 q2 => k (v :: vs) F2 H2 (.s :: as) x2 (.cons hc r2) q2⟩
  · exact ht.elim
theorem sim_aval {a : DA} {v : V} (hl : SimA C tA a) : SimA C (tCons (tC v) tA) (aVal v a) := fun H0 F H σ ρ Qd Q g S ht k =>
  hl H0 F H σ ρ _ _ g S ht fun vs F2 H2 ds x2 r2 q2 => k (v :: vs) F2 H2 (.r v :: ds) x2 (.cons rfl r2) q2

/-! ### displays -/
@[simp] def dTup (l : DL) : DE := fun ρ Q => l ρ fun ds => ds.length ≤ sizeLine ∧ Q (.tuple ds)
@[simp] def dLst (l : DL) : DE := fun ρ Q => l ρ fun ds => ds.length ≤ sizeLine ∧ Q (.list ds)
theorem own_new {F H : Hp} {p : Addr} {o : HO} {d : PyData} (g : Good C F H) (hp : H p = none) (c : Cont C.K F (upd H p o) p d) : Own C H F (upd H p o) p d := ⟨g.fnone hp, hp, g.noS hp, c⟩
theorem sim_tup (hl : SimL C tA l) : SimE C (tTup tA) (dTup l) := by
  intro H0 F H σ ρ Qd Q g S ht k
  refine hl H0 F H σ ρ _ _ g S ht fun vs F1 H1 ds x1 r1 ⟨z, q1⟩ => ⟨by rw [r1.length]; exact z, fun p hp => ?_⟩
  have n := Ext.new x1.g hp (.tup vs)
  exact k _ _ _ _ (x1.trans n) (.tup (SqT.of upd_same) z (r1.mono n.ff)) q1
theorem simF_lst (hl : SimL C tA l) : SimF C (tLst tA) (dLst l) := by
  intro H0 F H σ ρ Qd Q g S ht k
  refine hl H0 F H σ ρ _ _ g S ht fun vs F1 H1 ds x1 r1 ⟨z, q1⟩ => ⟨by rw [r1.length]; exact z, fun p hp => ?_⟩
  have n := Ext.newO x1.g hp (.lst vs)
  have hp0 : H p = none := by
    cases e : H p with
    | none => rfl
    | some u =>
      by_cases s : C.S p
      · exact absurd hp (C.alloc H1 p x1.g.ok s)
      · rw [x1.hh p u e s] at hp; cases hp
  exact k _ _ _ (.list ds) (x1.trans n) ⟨x1.g.fnone hp, hp0, x1.g.noS hp, vs, upd_same, z, r1⟩ q1
theorem sim_lst (hl : SimL C tA l) : SimE C (tLst tA) (dLst l) := (simF_lst hl).e
theorem Ext.free {F H F1 H1 : Hp} (x : Ext C F H F1 H1) {p : Addr} (hp : H1 p = none) : H p = none := by
  cases e : H p with
  | none => rfl
  | some u =>
    by_cases s : C.S p
    · exact absurd hp (C.alloc H1 p x.g.ok s)
    · rw [x.hh p u e s] at hp; cases hp
/-- an own object since a later state is own since an earlier one -/
theorem Own.back {F H F1 H1 F2 H2 : Hp} {a : Addr} {d : PyData} (x : Ext C F H F1 H1) (o : Own C H1 F2 H2 a d) : Own C H F2 H2 a d := ⟨o.nf, x.free o.n0, o.ns, o.ct⟩

/-! ### calls -/
/-- a def's promise by data: shared result; own result -/
def spS (C : Cfg) (wp : List AV → (PyData → Prop) → Prop) : Sp := fun vs H Q _ => ∃ (F : Hp) (as : List AV) (Qd : PyData → Prop), Good C F H ∧ AVs C F as vs ∧ wp as Qd ∧
  ∀ v F' H' d, Ext C F H F' H' → R C.K F' v d → Qd d → Q v H'
def spO (C : Cfg) (wp : List AV → (PyData → Prop) → Prop) : Sp := fun vs H Q _ => ∃ (F : Hp) (as : List AV) (Qd : PyData → Prop), Good C F H ∧ AVs C F as vs ∧ wp as Qd ∧
  ∀ a F' H' d, Ext C F H F' H' → Own C H F' H' a d → Qd d → Q (.ref a) H'
/-- a call, sealed (nothing looks through it by unfolding) -/
structure Cl (wp : List AV → (PyData → Prop) → Prop) (as : List AV) (Q : PyData → Prop) : Prop where
  go : wp as Q
@[simp] def dCall (wp : List AV → (PyData → Prop) → Prop) (a : DA) : DE := fun ρ Q => a ρ fun as => Cl wp as Q
theorem sim_call {wp : List AV → (PyData → Prop) → Prop} {E : XK} {a : DA} (ha : SimA C tA a) : SimE C (tCall (spS C wp) [] E tA) (dCall wp a) := by
  intro H0 F H σ ρ Qd Q g S ht k
  refine ha H0 F H σ ρ _ _ g S ht fun vs F1 H1 as x1 r1 q1 => ?_
  rw [List.append_nil]
  exact ⟨F1, as, Qd, x1.g, r1, q1.go, fun v F2 H2 d x2 r2 q2 => k v F2 H2 d (x1.trans x2) r2 q2⟩
theorem simF_call {wp : List AV → (PyData → Prop) → Prop} {E : XK} {a : DA} (ha : SimA C tA a) : SimF C (tCall (spO C wp) [] E tA) (dCall wp a) := by
  intro H0 F H σ ρ Qd Q g S ht k
  refine ha H0 F H σ ρ _ _ g S ht fun vs F1 H1 as x1 r1 q1 => ?_
  rw [List.append_nil]
  exact ⟨F1, as, Qd, x1.g, r1, q1.go, fun v F2 H2 d x2 r2 q2 => k v F2 H2 d (x1.trans x2) (r2.back x1) q2⟩
/-- a built-in's call by its arguments' data -/
abbrev DB := List PyData → (PyData → Prop) → Prop
def SimB (C : Cfg) (r : List V → Hp → VK → Prop) (f : DB) : Prop := ∀ (F H : Hp) (xs : List V) (ds : List PyData) (Qd : PyData → Prop) (Q : VK), Good C F H → RPs C F H xs ds → f ds Qd →
  (∀ v F' H' z, Ext C F H F' H' → R C.K F' v z → Qd z → Q v H') → r xs H Q
def SimBF (C : Cfg) (r : List V → Hp → VK → Prop) (f : DB) : Prop := ∀ (F H : Hp) (xs : List V) (ds : List PyData) (Qd : PyData → Prop) (Q : VK), Good C F H → RPs C F H xs ds → f ds Qd →
  (∀ a F' H' z, Ext C F H F' H' → Own C H F' H' a z → Qd z → Q (.ref a) H') → r xs H Q
theorem SimBF.b {r : List V → Hp → VK → Prop} {f : DB} (h : SimBF C r f) : SimB C r f := fun F H xs ds Qd Q g rs ht k => h F H xs ds Qd Q g rs ht fun a F' H' z x o q => by
  obtain ⟨F'', x', r⟩ := freeze x o
  exact k _ F'' H' z x' r q
@[simp] def dB (f : DB) (l : DL) : DE := fun ρ Q => l ρ fun ds => f ds Q
theorem sim_b {r : List V → Hp → VK → Prop} {f : DB} (hb : SimB C r f) (hl : SimLP C tA l) : SimE C (tCB r tA) (dB f l) := by
  intro H0 F H σ ρ Qd Q g S ht k
  refine hl H0 F H σ ρ _ _ g S ht fun vs F1 H1 ds x1 r1 q1 => ?_
  exact hb F1 H1 vs ds Qd Q x1.g r1 q1 fun v F2 H2 z x2 r2 q2 => k v F2 H2 z (x1.trans x2) r2 q2
theorem simF_b {r : List V → Hp → VK → Prop} {f : DB} (hb : SimBF C r f) (hl : SimLP C tA l) : SimF C (tCB r tA) (dB f l) := by
  intro H0 F H σ ρ Qd Q g S ht k
  refine hl H0 F H σ ρ _ _ g S ht fun vs F1 H1 ds x1 r1 q1 => ?_
  exact hb F1 H1 vs ds Qd Q x1.g r1 q1 fun v F2 H2 z x2 r2 q2 => k v F2 H2 z (x1.trans x2) (r2.back x1) q2
/-- a method by the receiver's and the arguments' data; it changes nothing -/
abbrev DM := PyData → List PyData → (PyData → Prop) → Prop
def SimM (C : Cfg) (T : String) (r : V → List V → Hp → VK → Prop) (f : DM) : Prop := ∀ (F H F' H' : Hp) (x : V) (d : PyData) (xs : List V) (ds : List PyData) (Qd : PyData → Prop) (Q : VK), Good C F H → RP C F H x d → Ext C F H F' H' → RPs C F' H' xs ds → f d ds Qd →
  (∀ v F2 H2 z, Ext C F' H' F2 H2 → R C.K F2 v z → Qd z → Q v H2) → r x xs H' Q
def tyD (T : String) : PyData → Prop
  | .str _ => T = "str"
  | .int _ => T = "int"
  | .list _ => T = "list"
  | .dict _ => T = "dict"
  | _ => False
theorem tyD_ok {T : String} {F H : Hp} {v : V} {d : PyData} (g : Good C F H) (r : RP C F H v d) (h : tyD T d) : tyV C.K T v H := by
  have r' := r.all g
  cases r' with
  | str x l => exact h
  | int i => exact h
  | lst e l r => exact .inl ⟨h, _, SqL.of e⟩
  | dct e l r => exact .inr (.inr (.inl ⟨h, .inl ⟨_, e⟩⟩))
  | _ => exact h.elim
@[simp] def dM (T : String) (f : DM) (t : DE) (l : DL) : DE := fun ρ Q => t ρ fun d => tyD T d ∧ l ρ fun ds => f d ds Q
theorem sim_m {T : String} {r : V → List V → Hp → VK → Prop} {f : DM} (hm : SimM C T r f) (ha : SimP C tha ta) (hl : SimLP C tA l) : SimE C (tBM C.K T r tha tA) (dM T f ta l) := by
  intro H0 F H σ ρ Qd Q g S ht k
  refine ha H0 F H σ ρ _ _ g S ht fun v F1 H1 d x1 r1 ⟨ty, q1⟩ => ⟨tyD_ok x1.g r1 ty, ?_⟩
  refine hl H0 F1 H1 σ ρ _ _ x1.g (S.ext x1) q1 fun vs F2 H2 ds x2 r2 q2 => ?_
  exact hm F1 H1 F2 H2 v d vs ds Qd Q x1.g r1 x2 r2 q2 fun u F3 H3 z x3 r3 q3 => k u F3 H3 z (x1.trans (x2.trans x3)) r3 q3
theorem sim_m0 {T : String} {r : V → List V → Hp → VK → Prop} {f : DM} (hm : SimM C T r f) (ha : SimP C tha ta) : SimE C (tBM0 C.K T r tha) (dM T f ta lNil) := by
  intro H0 F H σ ρ Qd Q g S ht k
  refine ha H0 F H σ ρ _ _ g S ht fun v F1 H1 d x1 r1 ⟨ty, q1⟩ => ⟨tyD_ok x1.g r1 ty, ?_⟩
  exact hm F1 H1 F1 H1 v d [] [] Qd Q x1.g r1 (.refl x1.g) .nil q1 fun u F3 H3 z x3 r3 q3 => k u F3 H3 z (x1.trans x3) r3 q3
end

/-! ### slices -/
abbrev DO := Vn → (Option Int → Prop) → Prop
abbrev DSl := PyData → Option Int → Option Int → (PyData → Prop) → Prop
section
variable {C : Cfg} {th tha thb thc : TE} {t ta tb tc : DE}
def SimO (C : Cfg) (th : TO) (t : DO) : Prop :=
  ∀ (H0 F H : Hp) (σ : St) (ρ : Vn) (Qd : Option Int → Prop) (Q : Option Int → Hp → Prop), Good C F H → Slots C H0 F H σ ρ → t ρ Qd →
    (∀ o F' H', Ext C F H F' H' → Qd o → Q o H') → th σ H Q
@[simp] def oNo : DO := fun _ Q => Q none
@[simp] def oYes (t : DE) : DO := fun ρ Q => t ρ fun d => match d with
  | .int i => Q (some i)
  | _ => False
theorem sim_ono : SimO C tNoPart oNo := fun H0 F H σ ρ Qd Q g S ht k => k none F H (.refl g) ht
theorem sim_oyes (h : SimP C th t) : SimO C (tPart th) (oYes t) := by
  intro H0 F H σ ρ Qd Q g S ht k
  refine h H0 F H σ ρ _ _ g S ht fun v F1 H1 d x1 r1 q1 => ?_
  cases d with
  | int i =>
    rcases r1 with r1 | ⟨a, e, n, c⟩
    · cases r1
      exact ⟨i, rfl, k _ F1 H1 x1 q1⟩
    · exact c.elim
  | _ => exact q1.elim
def SimSl (C : Cfg) (r : V → Option Int → Option Int → Hp → VK → Prop) (f : DSl) : Prop := ∀ (F H : Hp) (x : V) (d : PyData) (lo hi : Option Int) (Qd : PyData → Prop) (Q : VK), Good C F H → RP C F H x d → f d lo hi Qd →
  (∀ v F' H' z, Ext C F H F' H' → R C.K F' v z → Qd z → Q v H') → r x lo hi H Q
@[simp] def dSl (f : DSl) (t : DE) (l u : DO) : DE := fun ρ Q => t ρ fun d => l ρ fun lo => u ρ fun hi => f d lo hi Q
theorem sim_sl {r : V → Option Int → Option Int → Hp → VK → Prop} {f : DSl} {tl tu : TO} {l u : DO} (hs : SimSl C r f) (h : SimP C th t) (hl : SimO C tl l) (hu : SimO C tu u) : SimE C (tSl r th tl tu) (dSl f t l u) := by
  intro H0 F H σ ρ Qd Q g S ht k
  refine h H0 F H σ ρ _ _ g S ht fun v F1 H1 d x1 r1 q1 => ?_
  refine hl H0 F1 H1 σ ρ _ _ x1.g (S.ext x1) q1 fun lo F2 H2 x2 q2 => ?_
  refine hu H0 F2 H2 σ ρ _ _ x2.g (S.ext (x1.trans x2)) q2 fun hi F3 H3 x3 q3 => ?_
  exact hs F3 H3 v d lo hi Qd Q x3.g (r1.ext (x2.trans x3)) q3 fun u F4 H4 z x4 r4 q4 => k u F4 H4 z (x1.trans (x2.trans (x3.trans x4))) r4 q4
end

/-! ### what is walked -/
structure ItOk (C : Cfg) (F0 : Hp) (G : Hp → Prop) (J : It) (ds : List PyData) : Prop where
  go : ∀ i H, i < ds.length → G H → J.go i H
  stop : ∀ H, G H → J.stop ds.length H
  yld : ∀ (i : Nat) F H x H' d, ds[i]? = some d → G H → Good C F H → Same F0 F → J.yld i H x H' → ∃ F', Ext C F H F' H' ∧ R C.K F' x d
section
variable {C : Cfg}
/-- for loops: what is walked is frozen -/
def SimI (C : Cfg) (th : TI) (t : DL) : Prop :=
  ∀ (H0 F H : Hp) (σ : St) (ρ : Vn) (Qd : List PyData → Prop) (Q : It → Hp → Prop), Good C F H → Slots C H0 F H σ ρ → t ρ Qd →
    (∀ J F' H' ds G, Ext C F H F' H' → ItOk C F' G J ds → (∀ H'', Same F' H'' → G H'') → ds.length ≤ sizeLine → Qd ds → Q J H') → th σ H Q
/-- comprehensions: it may be read -/
def SimIP (C : Cfg) (th : TI) (t : DL) : Prop :=
  ∀ (H0 F H : Hp) (σ : St) (ρ : Vn) (Qd : List PyData → Prop) (Q : It → Hp → Prop), Good C F H → Slots C H0 F H σ ρ → t ρ Qd →
    (∀ J F' H' ds G, Ext C F H F' H' → ItOk C F' G J ds → (∀ F2 H2, Ext C F' H' F2 H2 → G H2) → ds.length ≤ sizeLine → Qd ds → Q J H') → th σ H Q
theorem SimI.p {th : TI} {t : DL} (h : SimI C th t) : SimIP C th t := fun H0 F H σ ρ Qd Q g S ht k => h H0 F H σ ρ Qd Q g S ht fun J F' H' ds G x io st z q =>
  k J F' H' ds G x io (fun F2 H2 y => st _ (y.ff.trans y.g.fh)) z q
theorem Ext.updO {F H F' H' : Hp} {D : Addr} {o : HO} (x : Ext C F H F' H') (h0 : H D = none) (hF : F' D = none) (nS : ¬ C.S D) : Ext C F H F' (upd H' D o) := by
  refine ⟨x.ff, ⟨fun b u e => by rw [upd_ne (ne_of_none e hF)]; exact x.g.fh b u e, C.loc H' _ (fun a s => upd_ne (fun z : a = D => nS (z ▸ s))) x.g.ok, x.g.fs⟩, fun a u e n => ?_, x.nw⟩
  rw [upd_ne (ne_of_none e h0)]
  exact x.hh a u e n

/-! ### targets -/
abbrev DG := PyData → Vn → (Vn → Prop) → Prop
abbrev DGs := List PyData → Vn → (Vn → Prop) → Prop
/-- only the slots ks change -/
def Only (ks : List Nat) (σ σ' : St) : Prop := σ'.length = σ.length ∧ ∀ j, j ∉ ks → σ'[j]? = σ[j]?
def SimG (C : Cfg) (ks : List Nat) (g : TG) (gd : DG) : Prop :=
  ∀ (H0 F H : Hp) (σ : St) (ρ : Vn) (v : V) (d : PyData) (Qd : Vn → Prop) (Q : St → Hp → Prop), Good C F H → Slots C H0 F H σ ρ → R C.K F v d → gd d ρ Qd →
    (∀ F' H' σ' ρ', Ext C F H F' H' → Slots C H0 F' H' σ' ρ' → Only ks σ σ' → Qd ρ' → Q σ' H') → g v σ H Q
def SimGs (C : Cfg) (ks : List Nat) (g : TGs) (gd : DGs) : Prop :=
  ∀ (H0 F H : Hp) (σ : St) (ρ : Vn) (vs : List V) (ds : List PyData) (Qd : Vn → Prop) (Q : St → Hp → Prop), Good C F H → Slots C H0 F H σ ρ → RL C.K F vs ds → gd ds ρ Qd →
    (∀ F' H' σ' ρ', Ext C F H F' H' → Slots C H0 F' H' σ' ρ' → Only ks σ σ' → Qd ρ' → Q σ' H') → g vs σ H Q
theorem Only.refl {ks : List Nat} {σ : St} : Only ks σ σ := ⟨rfl, fun _ _ => rfl⟩
theorem Only.trans {ks ls : List Nat} {σ σ1 σ2 : St} (a : Only ks σ σ1) (b : Only ls σ1 σ2) : Only (ks ++ ls) σ σ2 := ⟨b.1.trans a.1, fun j hj => by
  rw [List.mem_append, not_or] at hj
  rw [b.2 j hj.2, a.2 j hj.1]⟩
theorem wipe_get {σ : St} {j : Nat} : ∀ {vs : List Nat}, j ∈ vs → j < σ.length → (L2.wipe σ vs)[j]? = some none
  | v :: vs, h, hl => by
    unfold L2.wipe
    by_cases e : v = j
    · subst e
      rw [List.getElem?_set_self (by rw [L2.wipe_length]; exact hl)]
    · rw [List.getElem?_set_ne e]
      exact wipe_get (by rcases List.mem_cons.mp h with z | z; exact absurd z.symm e; exact z) hl
theorem wipe_other {σ : St} {j : Nat} : ∀ {vs : List Nat}, j ∉ vs → (L2.wipe σ vs)[j]? = σ[j]?
  | [], _ => rfl
  | v :: vs, h => by
    unfold L2.wipe
    rw [List.mem_cons, not_or] at h
    rw [List.getElem?_set_ne (fun e => h.1 e.symm)]
    exact wipe_other h.2
theorem Only.wipe {ks vs : List Nat} {σ σ' : St} (o : Only ks σ σ') (h : ∀ k ∈ ks, k ∈ vs) : L2.wipe σ' vs = L2.wipe σ vs := by
  refine List.ext_getElem? fun j => ?_
  by_cases hj : j ∈ vs
  · by_cases hl : j < σ.length
    · rw [wipe_get hj (by rw [o.1]; exact hl), wipe_get hj hl]
    · rw [List.getElem?_eq_none (by rw [L2.wipe_length, o.1]; omega), List.getElem?_eq_none (by rw [L2.wipe_length]; omega)]
  · rw [wipe_other hj, wipe_other hj]
    exact o.2 j fun z => hj (h j z)
@[simp] def dgName (i : Nat) : DG := fun d ρ Q => Q (ρ.set i (.sh d))
theorem simg_name {i : Nat} : SimG C [i] (gName i) (dgName i) := by
  intro H0 F H σ ρ v d Qd Q g S r ht k
  refine k F H _ _ (.refl g) (S.set i (s := .sh d) ⟨v, rfl, r⟩ fun a e z => nomatch z) ⟨List.length_set, fun j hj => ?_⟩ ht
  rw [List.getElem?_set_ne]
  intro e
  exact hj (by rw [e]; exact List.mem_singleton.mpr rfl)
@[simp] def dgNil : DGs := fun ds ρ Q => ds = [] ∧ Q ρ
@[simp] def dgCons (g : DG) (h : DGs) : DGs := fun ds ρ Q => match ds with
  | d :: r => g d ρ fun ρ' => h r ρ' Q
  | [] => False
theorem simgs_nil : SimGs C [] gNil dgNil := by
  intro H0 F H σ ρ vs ds Qd Q g S r ht k
  obtain ⟨e, q⟩ := ht
  subst e
  cases r
  exact ⟨rfl, k F H σ ρ (.refl g) S .refl q⟩
theorem simgs_cons {ks ls : List Nat} {tg : TG} {tgs : TGs} {dg : DG} {dgs : DGs} (h1 : SimG C ks tg dg) (h2 : SimGs C ls tgs dgs) : SimGs C (ks ++ ls) (gCons tg tgs) (dgCons dg dgs) := by
  intro H0 F H σ ρ vs ds Qd Q g S r ht k
  cases r with
  | nil => exact ht.elim
  | cons a b =>
    refine ⟨_, _, rfl, h1 H0 F H σ ρ _ _ _ _ g S a ht fun F1 H1 σ1 ρ1 x1 S1 o1 q1 => ?_⟩
    exact h2 H0 F1 H1 σ1 ρ1 _ _ _ _ x1.g S1 (b.mono x1.ff) q1 fun F2 H2 σ2 ρ2 x2 S2 o2 q2 => k F2 H2 σ2 ρ2 (x1.trans x2) S2 (o1.trans o2) q2
@[simp] def dgTup (n : Nat) (h : DGs) : DG := fun d ρ Q => match d with
  | .tuple ds => ds.length = n ∧ h ds ρ Q
  | _ => False
theorem simg_tup {ks : List Nat} {n : Nat} {tgs : TGs} {dgs : DGs} (h : SimGs C ks tgs dgs) : SimG C ks (gTup C.K n tgs) (dgTup n dgs) := by
  intro H0 F H σ ρ v d Qd Q g S r ht k
  cases d with
  | tuple ds =>
    obtain ⟨a, vs, e, q, l, rr⟩ := RP.tuple (C := C) (H := H) (.inl r)
    subst e
    exact ⟨a, vs, rfl, sqT_mono g.fh q, by rw [rr.length]; exact ht.1, h H0 F H σ ρ vs ds Qd Q g S rr ht.2 k⟩
  | _ => exact ht.elim

/-! ### list comprehensions -/
@[simp] def lcD (g : DG) (u : DT) (te : DE) (ρ : Vn) : List PyData → List PyData → (PyData → Prop) → Prop
  | [], acc, Q => Q (.list acc)
  | d :: ds, acc, Q => g d ρ fun ρ1 => u ρ1 fun b => if b = true then te ρ1 fun y => lcD g u te ρ ds (acc ++ [y]) Q else lcD g u te ρ ds acc Q
@[simp] def dLc (ti : DL) (g : DG) (u : DT) (te : DE) (vs : List Nat) : DE := fun ρ Q => ti ρ fun ds => lcD g u te (wipeE ρ vs) ds [] Q
@[simp] def dYes : DT := fun _ Q => Q true
theorem sim_yes : SimT C tYes dYes := fun H0 F H σ ρ Qd Q g S ht k => k true F H (.refl g) ht
/-- what a comprehension goes through once its iterator has come -/
def tLcB (J : It) (g : TG) (tt : TT) (te : TE) (vs : List Nat) (σ : St) (H1 : Hp) (Q : VK) : Prop := ∀ D, H1 D = none → ∃ W : Nat → Nat → Hp → Prop, (∃ m, W 0 m (upd H1 D (.lst []))) ∧ ∀ i m H, W i m H →
  (J.stop i H ∧ Q (.ref D) H) ∨ (J.go i H ∧ ∃ Nx : Hp → Prop, (∀ H', Nx H' → ∃ m', m' < m ∧ W (i + 1) m' H') ∧ ∀ x H', J.yld i H x H' → g x (L2.wipe σ vs) H' fun σ2 H2 => L2.wipe σ2 vs = L2.wipe σ vs ∧ tt σ2 H2 fun b H3 =>
    if b = true then te σ2 H3 fun y H4 => ∃ acc, H4 D = some (.lst acc) ∧ acc.length < sizeLine ∧ Nx (upd H4 D (.lst (acc ++ [y]))) else Nx H3)
theorem lc_body {J : It} {g : TG} {tt : TT} {te : TE} {gd : DG} {u : DT} {t : DE} {ks vs : List Nat} {ds : List PyData} {G : Hp → Prop} {H0 F H F1 H1 : Hp} {σ : St} {ρ : Vn} {Qd : PyData → Prop} {Q : VK} (hg : SimG C ks g gd) (hu : SimT C tt u) (he : SimE C te t) (hk : ∀ k ∈ ks, k ∈ vs)
    (S : Slots C H0 F H σ ρ) (x1 : Ext C F H F1 H1) (io : ItOk C F1 G J ds) (st : ∀ F2 H2, Ext C F1 H1 F2 H2 → G H2) (z : ds.length ≤ sizeLine) (q1 : lcD gd u t (wipeE ρ vs) ds [] Qd)
    (k : ∀ a F' H' d, Ext C F H F' H' → Own C H F' H' a d → Qd d → Q (.ref a) H') : tLcB J g tt te vs σ H1 Q := by
  intro D hD
  have hD0 : H D = none := x1.free hD
  have nS : ¬ C.S D := x1.g.noS hD
  refine ⟨fun i m Hi => m = ds.length - i ∧ i ≤ ds.length ∧ ∃ (Fi : Hp) (acc : List V) (as : List PyData), Ext C F1 H1 Fi Hi ∧ Fi D = none ∧ Hi D = some (.lst acc) ∧ acc.length ≤ i ∧ RL C.K Fi acc as ∧ lcD gd u t (wipeE ρ vs) (ds.drop i) as Qd,
    ⟨_, rfl, Nat.zero_le _, F1, [], [], .newO x1.g hD _, x1.g.fnone hD, upd_same, Nat.le_refl _, .nil, by rw [List.drop_zero]; exact q1⟩, ?_⟩
  rintro i m Hi ⟨rfl, hle, Fi, acc, as, xi, fD, eD, la, ra, qi⟩
  have gi := st Fi Hi xi
  by_cases hlt : i < ds.length
  · refine .inr ⟨io.go i Hi hlt gi, fun H' => i + 1 ≤ ds.length ∧ ∃ (Fi : Hp) (acc : List V) (as : List PyData), Ext C F1 H1 Fi H' ∧ Fi D = none ∧ H' D = some (.lst acc) ∧ acc.length ≤ i + 1 ∧ RL C.K Fi acc as ∧ lcD gd u t (wipeE ρ vs) (ds.drop (i + 1)) as Qd,
      fun H' ⟨a, b, c⟩ => ⟨ds.length - (i + 1), by omega, rfl, a, b, c⟩, fun x H' hy => ?_⟩
    have hd : ds[i]? = some ds[i] := by simp [hlt]
    have hdr : ds.drop i = ds[i] :: ds.drop (i + 1) := List.drop_eq_getElem_cons hlt
    obtain ⟨F2, x2, r2⟩ := io.yld i Fi Hi x H' _ hd gi xi.g xi.ff hy
    rw [hdr] at qi
    have S2 : Slots C H0 F2 H' (L2.wipe σ vs) (wipeE ρ vs) := ((S.ext (x1.trans (xi.trans x2))).wipe vs)
    refine hg H0 F2 H' _ _ x _ _ _ x2.g S2 r2 qi fun F3 H3 σ3 ρ3 x3 S3 o3 q3 => ⟨?_, ?_⟩
    · rw [o3.wipe hk]
      refine List.ext_getElem? fun j => ?_
      by_cases hj : j ∈ vs
      · by_cases hl : j < σ.length
        · rw [wipe_get hj (by rw [L2.wipe_length]; exact hl), wipe_get hj hl]
        · rw [List.getElem?_eq_none (by rw [L2.wipe_length, L2.wipe_length]; omega), List.getElem?_eq_none (by rw [L2.wipe_length]; omega)]
      · rw [wipe_other hj]
    · refine hu H0 F3 H3 σ3 ρ3 _ _ x3.g S3 q3 fun b F4 H4 x4 q4 => ?_
      have y4 : Ext C Fi Hi F4 H4 := x2.trans (x3.trans x4)
      have keepD : ∀ {F' H'' : Hp}, Ext C Fi Hi F' H'' → F' D = none ∧ H'' D = some (.lst acc) := fun {F' H''} y => by
        have e2 := y.hh D _ eD nS
        refine ⟨?_, e2⟩
        cases q : F' D with
        | none => rfl
        | some w =>
          rcases y.nw D w q with z | z
          · rw [fD] at z; cases z
          · rw [eD] at z; cases z
      cases b with
      | false =>
        rw [if_neg (by decide)] at q4
        rw [if_neg (by decide)]
        obtain ⟨k1, k2⟩ := keepD y4
        exact ⟨hlt, F4, acc, as, xi.trans y4, k1, k2, Nat.le_succ_of_le la, ra.mono y4.ff, q4⟩
      | true =>
        rw [if_pos rfl] at q4
        rw [if_pos rfl]
        refine he H0 F4 H4 σ3 ρ3 _ _ x4.g (S3.ext x4) q4 fun y F5 H5 d5 x5 r5 q5 => ?_
        have y5 : Ext C Fi Hi F5 H5 := y4.trans x5
        obtain ⟨k1, k2⟩ := keepD y5
        have z' : (sizeLine : Nat) = sizeLine := rfl
        exact ⟨acc, k2, by omega, hlt, F5, acc ++ [y], as ++ [d5], (xi.trans y5).updO hD k1 nS, k1, upd_same, by rw [List.length_append]; simp; omega, (ra.mono y5.ff).snoc r5, q5⟩
  · have e : i = ds.length := by omega
    subst e
    refine .inl ⟨io.stop Hi gi, ?_⟩
    rw [List.drop_length] at qi
    exact k D Fi Hi (.list as) (x1.trans xi) ⟨fD, hD0, nS, acc, eD, by have := ra.length; omega, ra⟩ qi
theorem simF_lc {wi : TI} {g : TG} {tt : TT} {te : TE} {ti : DL} {gd : DG} {u : DT} {t : DE} {ks vs : List Nat} (hi : SimIP C wi ti) (hg : SimG C ks g gd) (hu : SimT C tt u) (he : SimE C te t) (hk : ∀ k ∈ ks, k ∈ vs) :
    SimF C (tLc wi g tt te vs) (dLc ti gd u t vs) := by
  intro H0 F H σ ρ Qd Q g0 S ht k
  exact hi H0 F H σ ρ _ _ g0 S ht fun J F1 H1 ds G x1 io st z q1 => lc_body hg hu he hk S x1 io st z q1 k
end
end VL

set_option Elab.async false
set_option linter.all false
set_option maxRecDepth 100000
set_option maxHeartbeats 4000000
/-! VLStmt: statements simulated; a def's promise from its body. -/
namespace VL
open PySem PySem.Spec L2

section
variable {C : Cfg} {th tha thb : TE} {t ta tb : DE} {ts us : TS} {a b : DS}
theorem Lnk.nxt {F0 H0 : Hp} {D : Ctl} {DH : Ends} (L : Lnk C F0 H0 D DH) {nd : Vn → Prop} {nh : St → Hp → Prop} (h : ∀ F H σ ρ, Ext C F0 H0 F H → Slots C H0 F H σ ρ → nd ρ → nh σ H) :
    Lnk C F0 H0 { D with nx := nd } { DH with nx := nh } := ⟨h, L.rt, L.bk, L.ct⟩
@[simp] def dNext : DS := fun D ρ => D.nx ρ
theorem sims_next : SimS C tNext dNext := fun F0 H0 F H σ ρ D DH x S h L => L.nx F H σ ρ x S h
@[simp] def dSeq (a b : DS) : DS := fun D ρ => a { D with nx := b D } ρ
theorem sims_seq (h1 : SimS C ts a) (h2 : SimS C us b) : SimS C (tSeq ts us) (dSeq a b) := fun F0 H0 F H σ ρ D DH x S h L =>
  h1 F0 H0 F H σ ρ _ _ x S h (L.nxt fun F' H' σ' ρ' x' S' q => h2 F0 H0 F' H' σ' ρ' D DH x' S' q L)
/-- name = e -/
@[simp] def dSet (i : Nat) (t : DE) : DS := fun D ρ => t ρ fun d => D.nx (ρ.set i (.sh d))
theorem sims_set {i : Nat} (h : SimE C th t) : SimS C (tAsg th (gName i)) (dSet i t) := fun F0 H0 F H σ ρ D DH x S ht L =>
  h H0 F H σ ρ _ _ x.g S ht fun v F1 H1 d x1 r1 q1 => L.nx F1 H1 _ _ (x.trans x1) ((S.ext x1).set i (s := .sh d) ⟨v, rfl, r1⟩ fun _ _ z => nomatch z) q1
theorem Own.since {F0 H0 F H F' H' : Hp} {p : Addr} {d : PyData} (x : Ext C F0 H0 F H) (o : Own C H F' H' p d) : Own C H0 F' H' p d := o.back x
/-- a new own list stands apart from the slots' own ones -/
theorem apart_new {H0 F H F1 H1 : Hp} {σ : St} {ρ : Vn} (S : Slots C H0 F H σ ρ) {p : Addr} (hp : H p = none) {i : Nat} : ∀ q d, Slot.ow d = .ow d → V.ref p = .ref q → ∀ j e, j ≠ i → ρ[j]? = some (.ow e) → σ[j]? = some (some (.ref q)) → False := by
  intro q d _ e1 j e _ e2 e3
  cases e1
  obtain ⟨c, e4, o⟩ := S.get j _ _ e2 e3
  cases e4
  obtain ⟨u, e5⟩ := o.ct.there
  rw [hp] at e5; cases e5
@[simp] def dSetO (i : Nat) (t : DE) : DS := fun D ρ => t ρ fun d => D.nx (ρ.set i (.ow d))
theorem sims_setO {i : Nat} (h : SimF C th t) : SimS C (tAsg th (gName i)) (dSetO i t) := fun F0 H0 F H σ ρ D DH x S ht L =>
  h H0 F H σ ρ _ _ x.g S ht fun p F1 H1 d x1 o1 q1 => L.nx F1 H1 _ _ (x.trans x1) ((S.ext x1).set i (s := .ow d) ⟨p, rfl, o1.back x⟩ fun q e z1 z2 j f hj e1 e2 => by
    cases z2
    obtain ⟨c, e4, o⟩ := S.get j _ _ e1 e2
    cases e4
    obtain ⟨u, e5⟩ := o.ct.there
    rw [o1.n0] at e5; cases e5) q1
/-- name = a raw name, a constant that is raw -/
def dSetR (i j : Nat) : DS := fun D ρ => match ρ[j]? with
  | some (.raw v) => D.nx (ρ.set i (.raw v))
  | _ => False
@[simp] theorem dSetR_r {i j : Nat} {D : Ctl} {ρ : Vn} {v : V} (h : ρ[j]? = some (.raw v)) : dSetR i j D ρ = D.nx (ρ.set i (.raw v)) := by unfold dSetR; rw [h]
theorem sims_setR {i j : Nat} : SimS C (tAsg (tVar j) (gName i)) (dSetR i j) := by
  intro F0 H0 F H σ ρ D DH x S ht L
  unfold dSetR at ht
  split at ht
  · rename_i v e
    obtain ⟨o, e2, e3⟩ := S.at e
    cases (show o = some v from e3)
    exact ⟨v, e2, L.nx F H _ _ x (S.set i (s := .raw v) rfl fun _ _ z => nomatch z) ht⟩
  · exact ht.elim
/-- target = e -/
@[simp] def dAsg (t : DE) (g : DG) : DS := fun D ρ => t ρ fun d => g d ρ D.nx
theorem sims_asg {ks : List Nat} {g : TG} {gd : DG} (h : SimE C th t) (hg : SimG C ks g gd) : SimS C (tAsg th g) (dAsg t gd) := fun F0 H0 F H σ ρ D DH x S ht L =>
  h H0 F H σ ρ _ _ x.g S ht fun v F1 H1 d x1 r1 q1 => hg H0 F1 H1 σ ρ v d _ _ x1.g (S.ext x1) r1 q1 fun F2 H2 σ2 ρ2 x2 S2 _ q2 => L.nx F2 H2 σ2 ρ2 (x.trans (x1.trans x2)) S2 q2
@[simp] def dDrop (t : DE) : DS := fun D ρ => t ρ fun _ => D.nx ρ
theorem sims_drop (h : SimE C th t) : SimS C (tDrop th) (dDrop t) := fun F0 H0 F H σ ρ D DH x S ht L =>
  h H0 F H σ ρ _ _ x.g S ht fun v F1 H1 d x1 r1 q1 => L.nx F1 H1 σ ρ (x.trans x1) (S.ext x1) q1
/-- a, b = e, f (stored at once); each may be a new list kept as one's own -/
@[simp] def dPar (i j : Nat) (t u : DE) : DS := fun D ρ => t ρ fun d => u ρ fun e => D.nx ((ρ.set i (.sh d)).set j (.sh e))
@[simp] def dParFE (i j : Nat) (t u : DE) : DS := fun D ρ => t ρ fun d => u ρ fun e => D.nx ((ρ.set i (.ow d)).set j (.sh e))
@[simp] def dParEF (i j : Nat) (t u : DE) : DS := fun D ρ => t ρ fun d => u ρ fun e => D.nx ((ρ.set i (.sh d)).set j (.ow e))
@[simp] def dParFF (i j : Nat) (t u : DE) : DS := fun D ρ => t ρ fun d => u ρ fun e => D.nx ((ρ.set i (.ow d)).set j (.ow e))
theorem set_own {F0 H0 F H F1 H1 : Hp} {σ : St} {ρ : Vn} {p : Addr} {d : PyData} (x : Ext C F0 H0 F H) (S : Slots C H0 F H σ ρ) (x1 : Ext C F H F1 H1) (o1 : Own C H F1 H1 p d) (i : Nat) : Slots C H0 F1 H1 (σ.set i (some (.ref p))) (ρ.set i (.ow d)) :=
  (S.ext x1).set i (s := .ow d) ⟨p, rfl, o1.back x⟩ fun q e z1 z2 j f hj e1 e2 => by
    cases z2
    obtain ⟨c, e4, o⟩ := S.get j _ _ e1 e2
    cases e4
    obtain ⟨u, e5⟩ := o.ct.there
    rw [o1.n0] at e5; cases e5
theorem set_sh {H0 F H F1 H1 : Hp} {σ : St} {ρ : Vn} {v : V} {d : PyData} (S : Slots C H0 F H σ ρ) (x1 : Ext C F H F1 H1) (r : R C.K F1 v d) (i : Nat) : Slots C H0 F1 H1 (σ.set i (some v)) (ρ.set i (.sh d)) :=
  (S.ext x1).set i (s := .sh d) ⟨v, rfl, r⟩ fun _ _ z => nomatch z
theorem sims_par {i j : Nat} (h1 : SimE C tha ta) (h2 : SimE C thb tb) : SimS C (tPar i j (tCons tha (tCons thb tNil))) (dPar i j ta tb) := fun F0 H0 F H σ ρ D DH x S ht L => by
  refine h1 H0 F H σ ρ _ _ x.g S ht fun v F1 H1 d x1 r1 q1 => ?_
  refine h2 H0 F1 H1 σ ρ _ _ x1.g (S.ext x1) q1 fun w F2 H2 e x2 r2 q2 => ?_
  exact ⟨v, w, rfl, L.nx F2 H2 _ _ (x.trans (x1.trans x2)) (set_sh (set_sh (S.ext x1) x2 (r1.mono x2.ff) i) (.refl x2.g) r2 j) q2⟩
theorem sims_parFE {i j : Nat} (h1 : SimF C tha ta) (h2 : SimE C thb tb) : SimS C (tPar i j (tCons tha (tCons thb tNil))) (dParFE i j ta tb) := fun F0 H0 F H σ ρ D DH x S ht L => by
  refine h1 H0 F H σ ρ _ _ x.g S ht fun p F1 H1 d x1 o1 q1 => ?_
  refine h2 H0 F1 H1 σ ρ _ _ x1.g (S.ext x1) q1 fun w F2 H2 e x2 r2 q2 => ?_
  exact ⟨_, w, rfl, L.nx F2 H2 _ _ (x.trans (x1.trans x2)) (set_sh (set_own x S (x1.trans x2) (o1.ext x2) i) (.refl x2.g) r2 j) q2⟩
theorem sims_parEF {i j : Nat} (h1 : SimE C tha ta) (h2 : SimF C thb tb) : SimS C (tPar i j (tCons tha (tCons thb tNil))) (dParEF i j ta tb) := fun F0 H0 F H σ ρ D DH x S ht L => by
  refine h1 H0 F H σ ρ _ _ x.g S ht fun v F1 H1 d x1 r1 q1 => ?_
  refine h2 H0 F1 H1 σ ρ _ _ x1.g (S.ext x1) q1 fun w F2 H2 e x2 o2 q2 => ?_
  exact ⟨v, _, rfl, L.nx F2 H2 _ _ (x.trans (x1.trans x2)) (set_own (x.trans x1) (set_sh S x1 r1 i) x2 o2 j) q2⟩
theorem sims_parFF {i j : Nat} (h1 : SimF C tha ta) (h2 : SimF C thb tb) : SimS C (tPar i j (tCons tha (tCons thb tNil))) (dParFF i j ta tb) := fun F0 H0 F H σ ρ D DH x S ht L => by
  refine h1 H0 F H σ ρ _ _ x.g S ht fun p F1 H1 d x1 o1 q1 => ?_
  refine h2 H0 F1 H1 σ ρ _ _ x1.g (S.ext x1) q1 fun w F2 H2 e x2 o2 q2 => ?_
  exact ⟨_, _, rfl, L.nx F2 H2 _ _ (x.trans (x1.trans x2)) (set_own (x.trans x1) (set_own x S x1 o1 i) x2 o2 j) q2⟩
/-! ### if, return, break -/
@[simp] def dIf (c : DT) (a b : DS) : DS := fun D ρ => c ρ fun k => if k = true then a D ρ else b D ρ
theorem sims_if {tc : TT} {c : DT} (hc : SimT C tc c) (h1 : SimS C ts a) (h2 : SimS C us b) : SimS C (tIfS tc ts us) (dIf c a b) := fun F0 H0 F H σ ρ D DH x S ht L => by
  refine hc H0 F H σ ρ _ _ x.g S ht fun k F1 H1 x1 q1 => ?_
  cases k with
  | true => exact h1 F0 H0 F1 H1 σ ρ D DH (x.trans x1) (S.ext x1) q1 L
  | false => exact h2 F0 H0 F1 H1 σ ρ D DH (x.trans x1) (S.ext x1) q1 L
@[simp] def dRet (t : DE) : DS := fun D ρ => t ρ fun d => D.rt (.sh d)
theorem sims_ret (h : SimE C th t) : SimS C (tRet th) (dRet t) := fun F0 H0 F H σ ρ D DH x S ht L =>
  h H0 F H σ ρ _ _ x.g S ht fun v F1 H1 d x1 r1 q1 => L.rt F1 H1 v (.sh d) (x.trans x1) r1 q1
@[simp] def dRetO (t : DE) : DS := fun D ρ => t ρ fun d => D.rt (.ow d)
theorem sims_retO (h : SimF C th t) : SimS C (tRet th) (dRetO t) := fun F0 H0 F H σ ρ D DH x S ht L =>
  h H0 F H σ ρ _ _ x.g S ht fun p F1 H1 d x1 o1 q1 => L.rt F1 H1 _ (.ow d) (x.trans x1) ⟨p, rfl, o1.back x⟩ q1
/-- return name, the name's own list -/
def dRetV (i : Nat) : DS := fun D ρ => match ρ[i]? with
  | some (.ow d) => D.rt (.ow d)
  | some (.sh d) => D.rt (.sh d)
  | _ => False
@[simp] theorem dRetV_ow {i : Nat} {D : Ctl} {ρ : Vn} {d : PyData} (h : ρ[i]? = some (.ow d)) : dRetV i D ρ = D.rt (.ow d) := by unfold dRetV; rw [h]
@[simp] theorem dRetV_sh {i : Nat} {D : Ctl} {ρ : Vn} {d : PyData} (h : ρ[i]? = some (.sh d)) : dRetV i D ρ = D.rt (.sh d) := by unfold dRetV; rw [h]
theorem sims_retV {i : Nat} : SimS C (tRet (tVar i)) (dRetV i) := by
  intro F0 H0 F H σ ρ D DH x S ht L
  unfold dRetV at ht
  split at ht
  · rename_i d e
    obtain ⟨o, e2, p, e3, r⟩ := S.at e
    subst e3
    exact ⟨_, e2, L.rt F H _ (.ow d) x ⟨p, rfl, r⟩ ht⟩
  · rename_i d e
    obtain ⟨o, e2, v, e3, r⟩ := S.at e
    subst e3
    exact ⟨_, e2, L.rt F H v (.sh d) x r ht⟩
  · exact ht.elim
@[simp] def dRetN : DS := fun D _ => D.rt (.sh .none)
theorem sims_retN : SimS C tRetN dRetN := fun F0 H0 F H σ ρ D DH x S ht L => L.rt F H .non (.sh .none) x .non ht
@[simp] def dBreak : DS := fun D ρ => D.bk ρ
theorem sims_break : SimS C tBreak dBreak := fun F0 H0 F H σ ρ D DH x S ht L => L.bk F H σ ρ x S ht
@[simp] def dCont : DS := fun D ρ => D.ct ρ
theorem sims_cont : SimS C tCont dCont := fun F0 H0 F H σ ρ D DH x S ht L => L.ct F H σ ρ x S ht
/-! ### a slot's own list is frozen -/
@[simp] def frzE (i : Nat) (ρ : Vn) : Vn := match ρ[i]? with
  | some (.ow d) => ρ.set i (.sh d)
  | _ => ρ
theorem Ext.frz {F0 H0 F H : Hp} {p : Addr} {d : PyData} {u : HO} (x : Ext C F0 H0 F H) (o : Own C H0 F H p d) (eu : H p = some u) : Ext C F0 H0 (upd F p u) H := by
  have ff : Same F (upd F p u) := fun b z q => by rw [upd_ne (ne_of_none q o.nf)]; exact q
  refine ⟨x.ff.trans ff, ⟨fun b z q => ?_, x.g.ok, fun b s => ?_⟩, x.hh, fun b z q => ?_⟩
  · by_cases hb : b = p
    · subst hb; rw [upd_same] at q; cases q; exact eu
    · rw [upd_ne hb] at q; exact x.g.fh b z q
  · rw [upd_ne (fun z : b = p => o.ns (z ▸ s))]; exact x.g.fs b s
  · by_cases hb : b = p
    · subst hb; exact .inr o.n0
    · rw [upd_ne hb] at q; exact x.nw b z q
theorem Cont.frz {K : PySem.W.Frag} {F H : Hp} {p : Addr} {d : PyData} {u : HO} (c : Cont K F H p d) (nf : F p = none) (eu : H p = some u) : R K (upd F p u) (.ref p) d := by
  have ff : Same F (upd F p u) := fun b z q => by rw [upd_ne (ne_of_none q nf)]; exact q
  cases d with
  | list ds =>
    obtain ⟨vs, q, l, r⟩ := c
    rw [eu] at q; cases q
    exact .lst upd_same l (r.mono ff)
  | dict ds =>
    obtain ⟨vs, q, l, r⟩ := c
    rw [eu] at q; cases q
    exact .dct upd_same l (r.mono ff)
  | _ => exact c.elim
theorem frz_ok {F0 H0 F H : Hp} {σ : St} {ρ : Vn} (i : Nat) (x : Ext C F0 H0 F H) (S : Slots C H0 F H σ ρ) : ∃ F', Ext C F0 H0 F' H ∧ Slots C H0 F' H σ (frzE i ρ) := by
  unfold frzE
  split
  · rename_i d e
    obtain ⟨o, e2, p, e3, r⟩ := S.at e
    subst e3
    have hi : i < ρ.length := (List.getElem?_eq_some_iff.mp e).1
    obtain ⟨u, eu⟩ := r.ct.there
    have ff : Same F (upd F p u) := fun b z q => by rw [upd_ne (ne_of_none q r.nf)]; exact q
    refine ⟨upd F p u, x.frz r eu, by rw [List.length_set, S.len], fun j t o e4 e5 => ?_, fun j k a d' e' hne e4 e5 e6 e7 => ?_⟩
    · by_cases h : i = j
      · subst h
        rw [List.getElem?_set_self hi] at e4
        rw [e2] at e5
        cases e4; cases e5
        exact ⟨_, rfl, r.ct.frz r.nf eu⟩
      · rw [List.getElem?_set_ne h] at e4
        have q := S.get j t o e4 e5
        cases t with
        | un => trivial
        | sh d => obtain ⟨v, q1, q2⟩ := q; exact ⟨v, q1, q2.mono ff⟩
        | raw v => exact q
        | so => exact q
        | ow d' =>
          obtain ⟨a, q1, q2⟩ := q
          subst q1
          have ne : a ≠ p := fun z => by
            subst z
            exact S.apart i j a d d' h e e4 e2 e5
          exact ⟨a, rfl, by rw [upd_ne ne]; exact q2.nf, q2.n0, q2.ns, q2.ct.mono ff rfl⟩
    · have n1 : i ≠ j := fun z => by
        subst z
        rw [List.getElem?_set_self hi] at e4; cases e4
      have n2 : i ≠ k := fun z => by
        subst z
        rw [List.getElem?_set_self hi] at e5; cases e5
      rw [List.getElem?_set_ne n1] at e4
      rw [List.getElem?_set_ne n2] at e5
      exact S.apart j k a d' e' hne e4 e5 e6 e7
  · exact ⟨F, x, S⟩
@[simp] def dFrz (i : Nat) (a : DS) : DS := fun D ρ => a D (frzE i ρ)
theorem sims_frz {i : Nat} (h : SimS C ts a) : SimS C ts (dFrz i a) := fun F0 H0 F H σ ρ D DH x S ht L => by
  obtain ⟨F', x', S'⟩ := frz_ok i x S
  exact h F0 H0 F' H σ _ D DH x' S' ht L

/-! ### loops -/
theorem Ext.rebase {F0 H0 F1 H1 F H : Hp} (x1 : Ext C F0 H0 F1 H1) (s : Same F1 F) (x : Ext C F0 H0 F H) : Ext C F1 H0 F H := ⟨s, x.g, x.hh, fun a o e => by
  rcases x.nw a o e with z | z
  · exact .inl (x1.ff a o z)
  · exact .inr z⟩
theorem Ext.unbase {F0 H0 F1 H1 F H : Hp} (x1 : Ext C F0 H0 F1 H1) (x : Ext C F1 H0 F H) : Ext C F0 H0 F H := ⟨x1.ff.trans x.ff, x.g, x.hh, fun a o e => by
  rcases x.nw a o e with z | z
  · exact x1.nw a o z
  · exact .inr z⟩
@[simp] def forD (g : DG) (b : DS) (D : Ctl) : List PyData → Vn → Prop
  | [], ρ => D.nx ρ
  | d :: ds, ρ => g d ρ fun ρ1 => b { D with nx := forD g b D ds, ct := forD g b D ds, bk := D.nx } ρ1
@[simp] def dFor (ti : DL) (g : DG) (b : DS) : DS := fun D ρ => ti ρ fun ds => forD g b D ds ρ
theorem sims_for {wi : TI} {ti : DL} {g : TG} {gd : DG} {ks : List Nat} (hi : SimI C wi ti) (hg : SimG C ks g gd) (hb : SimS C ts a) : SimS C (tFor wi g ts) (dFor ti gd a) := fun F0 H0 F H σ ρ D DH x S ht L => by
  refine hi H0 F H σ ρ _ _ x.g S ht fun J F1 H1 ds G x1 io st z q1 => ?_
  have y1 := x.trans x1
  let P : Nat → St → Hp → Prop := fun i σ' H' => i ≤ ds.length ∧ ∃ (F' : Hp) (ρ' : Vn), Ext C F1 H0 F' H' ∧ Slots C H0 F' H' σ' ρ' ∧ forD gd a D (ds.drop i) ρ'
  refine ⟨fun i m σ' H' => m = ds.length - i ∧ P i σ' H', ⟨_, rfl, Nat.zero_le _, F1, ρ, y1.rebase (.refl _) y1, S.ext x1, by rw [List.drop_zero]; exact q1⟩, ?_⟩
  rintro i m σ' H' ⟨rfl, hle, F', ρ', x', S', q'⟩
  have gi : G H' := st H' (x'.ff.trans x'.g.fh)
  by_cases hlt : i < ds.length
  · refine .inr ⟨io.go i H' hlt gi, P (i + 1), fun σ2 H2 p2 => ⟨ds.length - (i + 1), by omega, rfl, p2⟩, fun v H2 hy => ?_⟩
    have hd : ds[i]? = some ds[i] := by simp [hlt]
    rw [List.drop_eq_getElem_cons hlt] at q'
    obtain ⟨F2, x2, r2⟩ := io.yld i F' H' v H2 _ hd gi x'.g x'.ff hy
    refine hg H0 F2 H2 σ' ρ' v _ _ _ x2.g (S'.ext x2) r2 q' fun F3 H3 σ3 ρ3 x3 S3 _ q3 => ?_
    refine hb F1 H0 F3 H3 σ3 ρ3 _ _ (x'.trans (x2.trans x3)) S3 q3 ⟨fun F4 H4 σ4 ρ4 x4 S4 q4 => ⟨hlt, F4, ρ4, x4, S4, q4⟩, fun F4 H4 v4 rv x4 r4 q4 => L.rt F4 H4 v4 rv (y1.unbase x4) r4 q4, fun F4 H4 σ4 ρ4 x4 S4 q4 => L.nx F4 H4 σ4 ρ4 (y1.unbase x4) S4 q4, fun F4 H4 σ4 ρ4 x4 S4 q4 => ⟨hlt, F4, ρ4, x4, S4, q4⟩⟩
  · have e : i = ds.length := by omega
    subst e
    rw [List.drop_length] at q'
    exact .inl ⟨io.stop H' gi, L.nx F' H' σ' ρ' (y1.unbase x') S' q'⟩
def whileD (c : DT) (b : DS) (D : Ctl) : Nat → Vn → Prop
  | 0, _ => False
  | n + 1, ρ => c ρ fun k => if k = true then b { D with nx := whileD c b D n, ct := whileD c b D n, bk := D.nx } ρ else D.nx ρ
def dWhile (c : DT) (b : DS) : DS := fun D ρ => ∃ n, whileD c b D n ρ
theorem sims_while {tc : TT} {c : DT} (hc : SimT C tc c) (hb : SimS C ts a) : SimS C (tWhile tc ts) (dWhile c a) := fun F0 H0 F H σ ρ D DH x S ⟨n, hn⟩ L => by
  refine ⟨fun m σ' H' => ∃ (F' : Hp) (ρ' : Vn), Ext C F0 H0 F' H' ∧ Slots C H0 F' H' σ' ρ' ∧ whileD c a D m ρ', ⟨n, F, ρ, x, S, hn⟩, ?_⟩
  rintro m σ' H' ⟨F', ρ', x', S', q'⟩
  cases m with
  | zero => exact q'.elim
  | succ m =>
    refine hc H0 F' H' σ' ρ' _ _ x'.g S' q' fun k F1 H1 x1 q1 => ?_
    cases k with
    | false => exact L.nx F1 H1 σ' ρ' (x'.trans x1) (S'.ext x1) q1
    | true =>
      refine ⟨fun σ2 H2 => ∃ (F2 : Hp) (ρ2 : Vn), Ext C F0 H0 F2 H2 ∧ Slots C H0 F2 H2 σ2 ρ2 ∧ whileD c a D m ρ2, fun σ2 H2 h2 => ⟨m, Nat.lt_succ_self _, h2⟩, ?_⟩
      exact hb F0 H0 F1 H1 σ' ρ' _ _ (x'.trans x1) (S'.ext x1) q1 ⟨fun F4 H4 σ4 ρ4 x4 S4 q4 => ⟨F4, ρ4, x4, S4, q4⟩, L.rt, fun F4 H4 σ4 ρ4 x4 S4 q4 => L.nx F4 H4 σ4 ρ4 x4 S4 q4, fun F4 H4 σ4 ρ4 x4 S4 q4 => ⟨F4, ρ4, x4, S4, q4⟩⟩

/-! ### changes of a slot's own list -/
theorem own_write {F0 H0 F H : Hp} {σ : St} {ρ : Vn} {i : Nat} {p : Addr} {d d' : PyData} {o' : HO} (x : Ext C F0 H0 F H) (S : Slots C H0 F H σ ρ) (e : ρ[i]? = some (.ow d)) (e2 : σ[i]? = some (some (.ref p))) (r : Own C H0 F H p d)
    (c : Cont C.K F (upd H p o') p d') : Ext C F0 H0 F (upd H p o') ∧ Slots C H0 F (upd H p o') σ (ρ.set i (.ow d')) := by
  have hi : i < ρ.length := (List.getElem?_eq_some_iff.mp e).1
  refine ⟨x.updO r.n0 r.nf r.ns, by rw [List.length_set, S.len], fun j t o e4 e5 => ?_, fun j k a f g hne e4 e5 e6 e7 => ?_⟩
  · by_cases h : i = j
    · subst h
      rw [List.getElem?_set_self hi] at e4
      rw [e2] at e5
      cases e4; cases e5
      exact ⟨p, rfl, r.nf, r.n0, r.ns, c⟩
    · rw [List.getElem?_set_ne h] at e4
      have q := S.get j t o e4 e5
      cases t with
      | un => trivial
      | sh d => exact q
      | raw v => exact q
      | so => exact q
      | ow d2 =>
        obtain ⟨a, q1, q2⟩ := q
        subst q1
        have ne : a ≠ p := fun z => by
          subst z
          exact S.apart i j a d d2 h e e4 e2 e5
        exact ⟨a, rfl, q2.nf, q2.n0, q2.ns, q2.ct.mono (.refl _) (upd_ne ne)⟩
  · by_cases h1 : i = j
    · subst h1
      rw [List.getElem?_set_ne hne] at e5
      exact S.apart i k a d g hne e e5 e6 e7
    · rw [List.getElem?_set_ne h1] at e4
      by_cases h2 : i = k
      · subst h2
        exact S.apart j i a f d hne e4 e e6 e7
      · rw [List.getElem?_set_ne h2] at e5
        exact S.apart j k a f g hne e4 e5 e6 e7
def dApp (i : Nat) (t : DE) : DS := fun D ρ => match ρ[i]? with
  | some (.ow (.list ds)) => t ρ fun d => ds.length < sizeLine ∧ D.nx (ρ.set i (.ow (.list (ds ++ [d]))))
  | _ => False
@[simp] theorem dApp_ow {i : Nat} {t : DE} {D : Ctl} {ρ : Vn} {ds : List PyData} (h : ρ[i]? = some (.ow (.list ds))) : dApp i t D ρ = t ρ fun d => ds.length < sizeLine ∧ D.nx (ρ.set i (.ow (.list (ds ++ [d])))) := by unfold dApp; rw [h]
theorem sims_app {i : Nat} (h : SimE C th t) : SimS C (tDrop (tBM C.K "list" rAppend (tVar i) (tCons th tNil))) (dApp i t) := by
  intro F0 H0 F H σ ρ D DH x S ht L
  unfold dApp at ht
  split at ht
  · rename_i ds e
    obtain ⟨o, e2, p, e3, r⟩ := S.at e
    subst e3
    obtain ⟨vs, ev, l, rv⟩ := id r.ct
    refine ⟨_, e2, .inl ⟨rfl, vs, SqL.of ev⟩, ?_⟩
    refine h H0 F H σ ρ _ _ x.g S ht fun v F1 H1 d x1 r1 ⟨z, q1⟩ => ?_
    have S1 := S.ext x1
    obtain ⟨vs1, ev1, l1, rv1⟩ := id (r.ext x1).ct
    have hl := rv1.length
    obtain ⟨y, T⟩ := own_write (o' := .lst (vs1 ++ [v])) (d' := .list (ds ++ [d])) (x.trans x1) S1 e e2 (r.ext x1) ⟨_, upd_same, by rw [List.length_append]; simp; omega, rv1.snoc r1⟩
    exact ⟨p, vs1, v, rfl, rfl, ev1, by omega, L.nx F1 _ σ _ y T q1⟩
  · exact ht.elim
@[simp] def dExt (i : Nat) (t : DE) : DS := fun D ρ => match ρ[i]? with
  | some (.ow (.list ds)) => t ρ fun d => match d with
    | .list es => ds.length + es.length ≤ sizeLine ∧ D.nx (ρ.set i (.ow (.list (ds ++ es))))
    | _ => False
  | _ => False
theorem sims_ext {i : Nat} (h : SimE C th t) : SimS C (tDrop (tBM C.K "list" rExtend (tVar i) (tCons th tNil))) (dExt i t) := by
  intro F0 H0 F H σ ρ D DH x S ht L
  unfold dExt at ht
  split at ht
  · rename_i ds e
    obtain ⟨o, e2, p, e3, r⟩ := S.at e
    subst e3
    obtain ⟨vs, ev, l, rv⟩ := id r.ct
    refine ⟨_, e2, .inl ⟨rfl, vs, SqL.of ev⟩, ?_⟩
    refine h H0 F H σ ρ _ _ x.g S ht fun v F1 H1 d x1 r1 q1 => ?_
    cases d with
    | list es =>
      obtain ⟨z, q1⟩ := q1
      have S1 := S.ext x1
      obtain ⟨vs1, ev1, l1, rv1⟩ := id (r.ext x1).ct
      have hl := rv1.length
      cases r1 with
      | lst eb lb rb =>
        have hlb := rb.length
        obtain ⟨y, T⟩ := own_write (o' := .lst (vs1 ++ _)) (d' := .list (ds ++ es)) (x.trans x1) S1 e e2 (r.ext x1) ⟨_, upd_same, by rw [List.length_append]; omega, rv1.append rb⟩
        exact ⟨p, _, vs1, _, rfl, rfl, ev1, x1.g.fh _ _ eb, by omega, L.nx F1 _ σ _ y T q1⟩
    | _ => exact q1.elim
  · exact ht.elim
/-- name = xs.pop(), xs.pop(k) -/
@[simp] def dPop (i j : Nat) : DS := fun D ρ => match ρ[i]? with
  | some (.ow (.list ds)) => ∃ d, ds[ds.length - 1]? = some d ∧ D.nx ((ρ.set i (.ow (.list ds.dropLast))).set j (.sh d))
  | _ => False
theorem sims_pop {i j : Nat} : SimS C (tAsg (tBM0 C.K "list" rPop (tVar i)) (gName j)) (dPop i j) := by
  intro F0 H0 F H σ ρ D DH x S ht L
  unfold dPop at ht
  split at ht
  · rename_i ds e
    obtain ⟨o, e2, p, e3, r⟩ := S.at e
    subst e3
    obtain ⟨vs, ev, l, rv⟩ := id r.ct
    obtain ⟨d, hd, q⟩ := ht
    have hl := rv.length
    obtain ⟨v, hv, rd⟩ := rv.get' hd
    refine ⟨_, e2, .inl ⟨rfl, vs, SqL.of ev⟩, p, vs, v, rfl, rfl, ev, by rw [hl]; exact hv, ?_⟩
    obtain ⟨y, T⟩ := own_write (o' := .lst vs.dropLast) (d' := .list ds.dropLast) x S e e2 r ⟨_, upd_same, by rw [List.length_dropLast]; omega, rv.dropLast⟩
    exact L.nx F _ _ _ y (set_sh T (.refl y.g) rd j) q
  · exact ht.elim
@[simp] def dPopAt (i j : Nat) (t : DE) : DS := fun D ρ => match ρ[i]? with
  | some (.ow (.list ds)) => t ρ fun e => match e with
    | .int n => ∃ k d, -(2 ^ 63) ≤ n ∧ n < 2 ^ 63 ∧ seqIndex? n ds.length = some k ∧ ds[k]? = some d ∧ D.nx ((ρ.set i (.ow (.list (ds.eraseIdx k)))).set j (.sh d))
    | _ => False
  | _ => False
theorem sims_popAt {i j : Nat} (h : SimP C th t) : SimS C (tAsg (tBM C.K "list" rPopAt (tVar i) (tCons th tNil)) (gName j)) (dPopAt i j t) := by
  intro F0 H0 F H σ ρ D DH x S ht L
  unfold dPopAt at ht
  split at ht
  · rename_i ds e
    obtain ⟨o, e2, p, e3, r⟩ := S.at e
    subst e3
    obtain ⟨vs, ev, l, rv⟩ := id r.ct
    refine ⟨_, e2, .inl ⟨rfl, vs, SqL.of ev⟩, ?_⟩
    refine h H0 F H σ ρ _ _ x.g S ht fun v F1 H1 z x1 r1 q1 => ?_
    cases z with
    | int n =>
      obtain ⟨k, d, h1, h2, h3, h4, q⟩ := q1
      have S1 := S.ext x1
      obtain ⟨vs1, ev1, l1, rv1⟩ := id (r.ext x1).ct
      have hl := rv1.length
      obtain ⟨w, hw, rd⟩ := rv1.get' h4
      have ev2 : v = .int n := by
        rcases r1 with r1 | ⟨a, _, _, c⟩
        · cases r1; rfl
        · exact c.elim
      subst ev2
      obtain ⟨y, T⟩ := own_write (o' := .lst (vs1.eraseIdx k)) (d' := .list (ds.eraseIdx k)) (x.trans x1) S1 e e2 (r.ext x1) ⟨_, upd_same, Nat.le_trans (List.length_eraseIdx_le _ _) l1, rv1.eraseIdx k⟩
      exact ⟨p, vs1, n, k, w, rfl, rfl, ev1, h1, h2, by rw [hl]; exact h3, hw, L.nx F1 _ _ _ y (set_sh T (.refl y.g) rd j) q⟩
    | _ => exact q1.elim
  · exact ht.elim
/-! ### x op= e -/
def dAug (f : D2) (i : Nat) (t : DE) : DS := fun D ρ => match ρ[i]? with
  | some (.sh d) => t ρ fun e => f d e fun z => D.nx (ρ.set i (.sh z))
  | _ => False
@[simp] theorem dAug_sh {f : D2} {i : Nat} {t : DE} {D : Ctl} {ρ : Vn} {d : PyData} (h : ρ[i]? = some (.sh d)) : dAug f i t D ρ = t ρ fun e => f d e fun z => D.nx (ρ.set i (.sh z)) := by unfold dAug; rw [h]
theorem sims_aug {r : R2} {f : D2} {i : Nat} (ho : SimOp C r f) (h : SimP C th t) : SimS C (tAug i th r) (dAug f i t) := by
  intro F0 H0 F H σ ρ D DH x S ht L
  unfold dAug at ht
  split at ht
  · rename_i d e
    obtain ⟨o, e2, v, e3, r⟩ := S.at e
    subst e3
    refine ⟨v, e2, ?_⟩
    refine h H0 F H σ ρ _ _ x.g S ht fun w F1 H1 e x1 r1 q1 => ?_
    exact ho F1 H1 v w d e _ _ x1.g (.inl (r.mono x1.ff)) r1 q1 fun u F2 H2 z x2 r2 q2 => L.nx F2 H2 _ _ (x.trans (x1.trans x2)) (set_sh (S.ext x1) x2 r2 i) q2
  · exact ht.elim
end

/-! ### a def's promise, from its body -/
def slotOf : AV → Slot
  | .d x => .sh x
  | .r v => .raw v
  | .s => .so
def env0 (n : Nat) (as : List AV) : Vn := as.map slotOf ++ List.replicate (n - as.length) .un
theorem slots0 {C : Cfg} {F H : Hp} {N : List Str} {as : List AV} {vs : List V} (g : Good C F H) (r : AVs C F as vs) : Slots C H F H (L2.start N vs) (env0 N.length as) := by
  have hl := r.length
  have noOw : ∀ i d, (env0 N.length as)[i]? ≠ some (Slot.ow d) := fun (i : Nat) (d : PyData) e => by
    unfold env0 at e
    rw [List.getElem?_append] at e
    split at e
    · rw [List.getElem?_map] at e
      cases q : as[i]? with
      | none => rw [q] at e; cases e
      | some a => rw [q] at e; cases a <;> cases e
    · rw [List.getElem?_replicate] at e
      split at e <;> cases e
  refine ⟨by unfold env0 L2.start; simp [hl], fun i s o e1 e2 => ?_, fun i j a d e _ e1 _ _ _ => absurd e1 (noOw i d)⟩
  unfold env0 at e1
  unfold L2.start at e2
  rw [List.getElem?_append] at e1 e2
  simp only [List.length_map, hl] at e1 e2
  by_cases hi : i < vs.length
  · rw [if_pos hi] at e1 e2
    rw [List.getElem?_map] at e1 e2
    cases q : as[i]? with
    | none => rw [q] at e1; cases e1
    | some a =>
      cases q' : vs[i]? with
      | none => rw [q'] at e2; cases e2
      | some v =>
        rw [q] at e1
        rw [q'] at e2
        cases e1; cases e2
        have rr : ∀ {as : List AV} {vs : List V} {i : Nat} {a : AV} {v : V}, AVs C F as vs → as[i]? = some a → vs[i]? = some v → AVR C F a v := by
          intro as vs i a v h
          induction h generalizing i with
          | nil => intro e; simp at e
          | cons h1 h2 ih =>
            intro e1 e2
            cases i with
            | zero => simp at e1 e2; subst e1; subst e2; exact h1
            | succ i => exact ih (by simpa using e1) (by simpa using e2)
        have := rr r q q'
        cases a with
        | d x => exact ⟨v, rfl, this⟩
        | r w => exact congrArg some this
        | s =>
          have t : C.src = some v := this
          exact ⟨by rw [t]; simp, t.symm⟩
  · rw [if_neg hi] at e1 e2
    rw [List.getElem?_replicate] at e1
    split at e1
    · cases e1; trivial
    · cases e1
abbrev Wp := List AV → (PyData → Prop) → Prop
def ctlS (Qd : PyData → Prop) : Ctl := { nx := fun _ => Qd .none, rt := fun rv => match rv with
  | .sh d => Qd d
  | .ow d => Qd d }
def ctlO (Qd : PyData → Prop) : Ctl := { nx := fun _ => False, rt := fun rv => match rv with
  | .sh d => False
  | .ow d => Qd d }
theorem spS_of {C : Cfg} {N : List Str} {wp : Wp} {th : TS} {t : DS} (hs : SimS C th t) (hb : ∀ as Qd, wp as Qd → t (ctlS Qd) (env0 N.length as)) (vs : List V) (H : Hp) (Q : VK) (E : XK) (h : spS C wp vs H Q E) :
    th { nx := fun _ H' => Q .non H', rt := Q } (L2.start N vs) H := by
  obtain ⟨F, as, Qd, g, r, w, k⟩ := h
  refine hs F H F H _ _ (ctlS Qd) _ (.refl g) (slots0 g r) (hb as Qd w) ⟨fun F' H' σ ρ x S q => k .non F' H' .none x .non q, fun F' H' v rv x rr q => ?_, fun _ _ _ _ _ _ q => q.elim, fun _ _ _ _ _ _ q => q.elim⟩
  cases rv with
  | sh d => exact k v F' H' d x rr q
  | ow d =>
    obtain ⟨a, e, o⟩ := rr
    subst e
    obtain ⟨F'', x', r'⟩ := freeze x o
    exact k _ F'' H' d x' r' q
theorem spO_of {C : Cfg} {N : List Str} {wp : Wp} {th : TS} {t : DS} (hs : SimS C th t) (hb : ∀ as Qd, wp as Qd → t (ctlO Qd) (env0 N.length as)) (vs : List V) (H : Hp) (Q : VK) (E : XK) (h : spO C wp vs H Q E) :
    th { nx := fun _ H' => Q .non H', rt := Q } (L2.start N vs) H := by
  obtain ⟨F, as, Qd, g, r, w, k⟩ := h
  refine hs F H F H _ _ (ctlO Qd) _ (.refl g) (slots0 g r) (hb as Qd w) ⟨fun F' H' σ ρ x S q => q.elim, fun F' H' v rv x rr q => ?_, fun _ _ _ _ _ _ q => q.elim, fun _ _ _ _ _ _ q => q.elim⟩
  cases rv with
  | sh d => exact q.elim
  | ow d =>
    obtain ⟨a, e, o⟩ := rr
    subst e
    exact k a F' H' d x o q
theorem spS_len {C : Cfg} {wp : Wp} {n : Nat} (hn : ∀ as Qd, wp as Qd → as.length = n) (vs : List V) (H : Hp) (Q : VK) (E : XK) (h : spS C wp vs H Q E) : vs.length = n := by
  obtain ⟨F, as, Qd, g, r, w, k⟩ := h
  rw [← r.length]; exact hn as Qd w
theorem spO_len {C : Cfg} {wp : Wp} {n : Nat} (hn : ∀ as Qd, wp as Qd → as.length = n) (vs : List V) (H : Hp) (Q : VK) (E : XK) (h : spO C wp vs H Q E) : vs.length = n := by
  obtain ⟨F, as, Qd, g, r, w, k⟩ := h
  rw [← r.length]; exact hn as Qd w
end VL

set_option Elab.async false
set_option linter.all false
set_option maxRecDepth 100000
set_option maxHeartbeats 4000000
/-! VLFn: promises of defs that are called where no repr runs (what the model asks of repr), by data. -/
namespace VL
open PySem PySem.Spec L2

/-- a def's promise, where the row of running reprs is known to be empty -/
structure FnG (P : Program) (w : World) (K : PySem.W.Frag) (mg : Str → Option Value) (base : Heap) (CX : CXT) (k : Nat) (f : Addr) (fd : FuncData) (ps : List Str) (sp : Sp) : Prop where
  len : ∀ vs H Q E, sp vs H Q E → vs.length = ps.length
  run : ∀ (A : Around) (outer : List Env) (s : Shared) (H : Hp) (args : Args) (us : List Value) (vs : List V) (Q : VK) (E : XK), A.guards = some [] → Room k A →
    Env0 P w K mg base A outer s H → BindsTo s fd args (ps.zip us) → Vals vs us → sp vs H Q E → codeAny (model P w) A (.call (.ref f) args) (CR CX outer P w H s Q E) s
section
variable {P : Program} {w : World} {K : PySem.W.Frag} {mg : Str → Option Value} {base : Heap} {CX : CXT} {k j : Nat} {f : Addr} {fd : FuncData} {ps : List Str} {sp : Sp}
theorem FnG.mono (G : FnG P w K mg base CX j f fd ps sp) (h : j ≤ k) : FnG P w K mg base CX k f fd ps sp :=
  ⟨G.len, fun A outer s H args us vs Q E hg hr => G.run A outer s H args us vs Q E hg (hr.mono h)⟩
theorem FnG.imp {sp' : Sp} (G : FnG P w K mg base CX k f fd ps sp) (h : ∀ vs H Q E, sp' vs H Q E → sp vs H Q E) : FnG P w K mg base CX k f fd ps sp' :=
  ⟨fun vs H Q E q => G.len vs H Q E (h _ _ _ _ q), fun A outer s H args us vs Q E hg hr he hb hv q => G.run A outer s H args us vs Q E hg hr he hb hv (h _ _ _ _ q)⟩
/-- a promise that nobody asks for -/
theorem FnG.never (h : ∀ vs H Q E, ¬ sp vs H Q E) : FnG P w K mg base CX k f fd ps sp :=
  ⟨fun vs H Q E q => (h _ _ _ _ q).elim, fun A outer s H args us vs Q E _ _ _ _ _ q => (h _ _ _ _ q).elim⟩
end
/-- the promise of a def of the text from its body's reading -/
theorem fnG_of {CX : CXT} {P : Program} {w : World} {K : PySem.W.Frag} {mg : Str → Option Value} {base : Heap} {k : Nat} {f : Addr} {x qual : Str} {params : Arguments} {body : List Stmt} {scope : Scope} {dvs : List V} {kws : List (Str × V)} {fd : FuncData}
    {N ps : List Str} {sp : Sp} (F : FunD K x qual params body scope dvs kws f fd) (S : FnScope N ps scope) (len : ∀ vs H Q E, sp vs H Q E → vs.length = ps.length)
    (hbody : ∀ (cdv : Value) (A : Around) (outer : List Env) (s : Shared) (H : Hp) (vs : List V) (Q : VK) (E : XK), A.guards = some [] → Room k (A.deeper (PyProof.Rows.envOfC qual scope s.heap.objs.size f cdv)) → sp vs H Q E →
      ∃ t, PSs (cxOf CX P w K mg base N qual scope f cdv A outer s H E) body t ∧ t { nx := fun _ H' => Q .non H', rt := Q } (L2.start N vs) H) : FnG P w K mg base CX (k + 1) f fd ps sp := by
  refine ⟨len, ?_⟩
  intro A outer s H args us vs Q E hg hr e0 hb r hsp
  -- one entry at a time: at this entry alone the body's reading is wanted
  obtain ⟨oc, od, dV, kV, doc, pm, an, cdv, ct, osl, rfl, lk, hcd, _, _⟩ := F.ex
  have hl := len _ _ _ _ hsp
  have KX : K.In s.heap := e0.mod.kin.keeps (fun b o e => (e0.bs b o e).1)
  have lim : s.heap.NoLimit := e0.mod.nolimit.keeps (fun b o e => (e0.bs b o e).1)
  have kinds : ∀ y ∈ ps.zip us, scope.names.lookup y.1 = some .local ∨ (scope.names.lookup y.1 = some .cell ∧ ((PySem.cellsFrom (s.heap.objs.size + 1) scope.names []).lookup y.1).isSome = true) := by
    intro y hy
    obtain ⟨n, v⟩ := y
    rcases S.par n (List.of_mem_zip hy).1 with q | q
    · exact Or.inl q
    · exact Or.inr ⟨q, PySem.W.cellsFrom_some _ _ _ (Or.inl q)⟩
  refine codeAny_call_function hr.depth (KX _ _ lk) rfl S.co S.gen rfl (PySem.W.codeRec_of KX hcd) (hb _ _ _ _ ?_)
  refine wpAny_newFunctionEnv_cells S.kind kinds (fun env he s1 x => ?_)
  cases he
  refine ⟨lim.keeps x.toInCall.keep, codeAny_func ?_⟩
  obtain ⟨t, ht, hq⟩ := hbody cdv A outer s H vs Q E hg (hr.deeper _) hsp
  have I : Inv (cxOf CX P w K mg base N qual scope f cdv A outer s H E) [] (L2.start N vs) H s1 := inv_start S hr.hd e0 hl r x
  have fin : ∀ {σ' : St} {H' : Hp} {v : V} {u : Value} {s' : Shared}, Inv (cxOf CX P w K mg base N qual scope f cdv A outer s H E) [] σ' H' s' → RelV v u → Q v H' → CE outer P w H s Q u s' :=
    fun {σ' H' v u s'} J rv q => ⟨v, H', J.os, J.bare, J.base, J.hok, rv, q⟩
  refine wpAny_mono (ht.run [] s1 (L2.start N vs) H _ I hq) (fun fl s' hs => ?_) (fun e s' hs => hs)
  match fl, hs with
  | .ret u, ⟨v, σ', H', J, rv, q⟩ => exact fin J rv q
  | .next, ⟨σ', H', J, q⟩ => exact fin (v := V.non) (u := Value.none) J rfl q
  | .brk, ⟨_, _, _, q⟩ => exact False.elim q
  | .cont, ⟨_, _, _, q⟩ => exact False.elim q
section
variable {X : Cx} {CX : CXT} {k : Nat} {f : Addr} {fd : FuncData} {ps : List Str} {sp : Sp} {dvs : List V} {ds : List Value} {E : XK} {x : Str} {p pos : Pos} {e : Expr} {es : List Expr} {t : TA}
theorem run_fnG {pins : List (Addr × Obj)} {σ : St} {H : Hp} {s : Shared} {Q : VK} {us : List Value} {vs : List V} (F : FnG X.prog X.w X.K X.mg X.base CX k f fd ps sp) (hg : X.A.guards = some []) (hr : Room k X.A) (hb : Binds X.K fd ps ds)
    (hd : Vals dvs ds) (hx : Passes CX X E) (I : Inv X pins σ H s) (r : Vals vs us) (h : sp (vs ++ dvs) H Q E) : wpAny (model X.prog X.w) X.A (call (.ref f) us) (EP X pins σ Q) X.xe s := by
  have r2 : Vals (vs ++ dvs) (us ++ ds) := r.append hd
  have hl : (us ++ ds).length = ps.length := r2.length ▸ F.len _ _ _ _ h
  have c := F.run X.A X.stack s H ⟨us, []⟩ (us ++ ds) (vs ++ dvs) Q E hg hr I.env0 (hb s us I.kIn hl) r2 h
  refine wpAny_call (codeAny_mono c (fun r s' hq => ?_))
  match r, hq with
  | .error e, hq => exact hx pins σ H s e s' I hq
  | .ok (.ret u), hq => exact I.after hq
  | .ok .next, hq => exact False.elim hq
  | .ok .brk, hq => exact False.elim hq
  | .ok .cont, hq => exact False.elim hq
theorem pe_callG (F : FnG X.prog X.w X.K X.mg X.base CX k f fd ps sp) (hG : X.A.guards = some []) (hr : Room k X.A) (hg : Gl X x) (hm : X.mg x = some (.ref f)) (hk : PySem.W.keepIn X.K (.ref f) = true) (hb : Binds X.K fd ps ds) (hd : Vals dvs ds) (hx : Passes CX X E)
    (ha : PA X (e :: es) t) (hdb : (x == ("__debug__" : Str)) = false := by decide) (he : starEach (e :: es) X.env = (false, eval e X.env) :: starEach es X.env := by rfl) (hpl : (backTo pos (starEach es X.env)).any (·.1) = false := by rfl) :
    PE X (.Call (.Name x p) (e :: es) [] pos) (tCall sp dvs E t) :=
  ⟨fun pins s σ H Q I h => wpAny_Call_Name_kw (ld_glob I hg hm (PySem.W.callWith_K (h₀ := X.base) I.ok.mod.kin hk (thn (ha.run pos pins s σ H _ I h) fun us s1 ⟨vs, H1, I1, r, q⟩ => ⟨I1.kIn, run_fnG F hG hr hb hd hx I1 r q⟩) he hpl) hdb)⟩
theorem pe_callG0 (F : FnG X.prog X.w X.K X.mg X.base CX k f fd ps sp) (hG : X.A.guards = some []) (hr : Room k X.A) (hg : Gl X x) (hm : X.mg x = some (.ref f)) (hk : PySem.W.keepIn X.K (.ref f) = true) (hb : Binds X.K fd ps ds) (hd : Vals dvs ds) (hx : Passes CX X E)
    (hdb : (x == ("__debug__" : Str)) = false := by decide) : PE X (.Call (.Name x p) [] [] pos) (tCall sp dvs E tNil) :=
  ⟨fun pins s σ H Q I h => wpAny_Call_Name_kw (ld_glob I hg hm (PySem.W.callWith_K0 I.kIn hk (run_fnG (us := []) F hG hr hb hd hx I .nil h)) hdb)⟩
end
end VL

set_option Elab.async false
set_option linter.all false
set_option maxRecDepth 100000
set_option maxHeartbeats 4000000
/-! VLLib1: operators, subscripts, slices, over data. -/
namespace VL
open PySem PySem.Spec L2

section
variable {C : Cfg}
theorem rp_int {F H : Hp} {v : V} {i : Int} (r : RP C F H v (.int i)) : v = .int i := by
  rcases r with r | ⟨_, _, _, c⟩
  · cases r; rfl
  · exact c.elim
theorem rp_bool {F H : Hp} {v : V} {b : Bool} (r : RP C F H v (.bool b)) : v = .bl b := by
  rcases r with r | ⟨_, _, _, c⟩
  · cases r; rfl
  · exact c.elim
theorem rp_str {F H : Hp} {v : V} {x : Str} (r : RP C F H v (.str x)) : v = .str x ∧ x.length ≤ sizeLine := by
  rcases r with r | ⟨_, _, _, c⟩
  · cases r; exact ⟨rfl, by assumption⟩
  · exact c.elim
theorem rp_none {F H : Hp} {v : V} (r : RP C F H v .none) : v = .non := by
  rcases r with r | ⟨_, _, _, c⟩
  · cases r; rfl
  · exact c.elim

/-! ### == and != -/
@[simp] def dEq : D2 := fun d e Q => okD d ∧ okD e ∧ Q (.bool (PyData.eqv d e))
@[simp] def dNe : D2 := fun d e Q => okD d ∧ okD e ∧ Q (.bool (!PyData.eqv d e))
theorem so_eq : SimOp C (rEqR C.K) dEq := fun F H x y d e Qd Q g rx ry ⟨h1, h2, q⟩ k => ⟨d, e, rx.all g, ry.all g, h1, h2, k _ F H _ (.refl g) (.bl _) q⟩
theorem so_ne : SimOp C (rNeR C.K) dNe := fun F H x y d e Qd Q g rx ry ⟨h1, h2, q⟩ k => ⟨d, e, rx.all g, ry.all g, h1, h2, k _ F H _ (.refl g) (.bl _) q⟩
/-! ### order of ints -/
@[simp] def dCmp (p : Int → Int → Bool) : D2 := fun d e Q => match d, e with
  | .int i, .int j => Q (.bool (p i j))
  | _, _ => False
theorem so_cmp {p : Int → Int → Bool} : SimOp C (rI0 fun i j => .bl (p i j)) (dCmp p) := by
  intro F H x y d e Qd Q g rx ry h k
  unfold dCmp at h
  split at h
  · cases rp_int rx
    cases rp_int ry
    exact ⟨_, _, rfl, rfl, k _ F H _ (.refl g) (.bl _) h⟩
  · exact h.elim
abbrev dLt : D2 := dCmp fun i j => decide (i < j)
abbrev dLe : D2 := dCmp fun i j => decide (i ≤ j)
abbrev dGt : D2 := dCmp fun i j => decide (j < i)
abbrev dGe : D2 := dCmp fun i j => decide (j ≤ i)
/-! ### is None, is a truth value -/
def isNoneD : PyData → Bool
  | .none => true
  | _ => false
@[simp] def dIs (neg : Bool) : D2 := fun d e Q => match e with
  | .none => Q (.bool (if neg then !isNoneD d else isNoneD d))
  | _ => False
theorem nonV_iff {F H : Hp} {v : V} {d : PyData} (r : RP C F H v d) : decide (v = V.non) = isNoneD d := by
  rcases r with r | ⟨a, e, _, c⟩
  · cases r <;> simp [isNoneD]
  · subst e
    cases d <;> first | exact c.elim | simp [isNoneD]
def rIs (neg : Bool) : R2 := fun x y H Q => y = .non ∧ Q (.bl (if neg then !decide (x = .non) else decide (x = .non))) H
theorem op_is {X : Cx} : OpR X (compareOp .Is) (rIs false) := fun pins s σ H x y v u Q I rx ry h => op_isN pins s σ H x y v u Q I rx ry h
theorem op_isnot {X : Cx} : OpR X (compareOp .IsNot) (rIs true) := fun pins s σ H x y v u Q I rx ry h => op_notN pins s σ H x y v u Q I rx ry h
theorem so_is {neg : Bool} : SimOp C (rIs neg) (dIs neg) := by
  intro F H x y d e Qd Q g rx ry h k
  unfold dIs at h
  split at h
  · cases rp_none ry
    refine ⟨rfl, ?_⟩
    rw [nonV_iff rx]
    exact k _ F H _ (.refl g) (.bl _) h
  · exact h.elim
/-! ### arithmetic, concatenation -/
def rAddAll (K : PySem.W.Frag) : R2 := fun x y H Q => (((rI0 (fun i j => .int (i + j)) x y H Q) ∨ (∃ i j, x = .str i ∧ y = .str j ∧ i.length + j.length ≤ sizeLine ∧ Q (.str (i ++ j)) H)) ∨ rCat x y H Q) ∨ rCatA K x y H Q
theorem op_addAll {X : Cx} : OpR X (binaryOp .Add) (rAddAll X.K) := ((op_add.or op_add_str).or op_cat).or op_catA
@[simp] def dAdd : D2 := fun d e Q => match d, e with
  | .int i, .int j => Q (.int (i + j))
  | .str x, .str y => x.length + y.length ≤ sizeLine ∧ Q (.str (x ++ y))
  | .list xs, .list ys => xs.length + ys.length ≤ sizeLine ∧ Q (.list (xs ++ ys))
  | .tuple xs, .tuple ys => xs.length + ys.length ≤ sizeLine ∧ Q (.tuple (xs ++ ys))
  | _, _ => False
theorem str_app_length (x y : Str) : (x ++ y).length = x.length + y.length := by
  show (x.cps ++ y.cps).size = x.cps.size + y.cps.size
  exact Array.size_append
theorem so_add : SimOp C (rAddAll C.K) dAdd := by
  intro F H x y d e Qd Q g rx ry h k
  unfold dAdd at h
  split at h
  · cases rp_int rx
    cases rp_int ry
    exact .inl (.inl (.inl ⟨_, _, rfl, rfl, k _ F H _ (.refl g) (.int _) h⟩))
  · obtain ⟨e1, l1⟩ := rp_str rx
    obtain ⟨e2, l2⟩ := rp_str ry
    subst e1 e2
    exact .inl (.inl (.inr ⟨_, _, rfl, rfl, h.1, k _ F H _ (.refl g) (.str _ (by rw [str_app_length]; exact h.1)) h.2⟩))
  · obtain ⟨a, vs, e1, n1, q1, l1, r1⟩ := rx.list g
    obtain ⟨b, ws, e2, n2, q2, l2, r2⟩ := ry.list g
    subst e1 e2
    refine .inl (.inr ⟨a, b, vs, ws, rfl, rfl, q1, q2, by rw [r1.length, r2.length]; exact h.1, fun p hp => ?_⟩)
    have n := Ext.new g hp (.lst (vs ++ ws))
    exact k _ _ _ _ n (.lst upd_same (by rw [List.length_append]; exact h.1) ((r1.append r2).mono n.ff)) h.2
  · obtain ⟨a, vs, e1, q1, l1, r1⟩ := rx.tuple
    obtain ⟨b, ws, e2, q2, l2, r2⟩ := ry.tuple
    subst e1 e2
    refine .inr ⟨a, b, vs, ws, rfl, rfl, sqT_mono g.fh q1, sqT_mono g.fh q2, by rw [r1.length, r2.length]; exact h.1, fun ez => ?_, fun n1 ez => ?_, fun n1 n2 p hp => ?_⟩
    · subst ez
      cases r1
      exact k _ F H _ (.refl g) (.tup q2 l2 r2) h.2
    · subst ez
      cases r2
      exact k _ F H _ (.refl g) (.tup q1 (by rw [List.append_nil]; exact l1) (by rw [List.append_nil]; exact r1)) h.2
    · have n := Ext.new g hp (.tup (vs ++ ws))
      exact k _ _ _ _ n (.tup (SqT.of upd_same) (by rw [List.length_append]; exact h.1) ((r1.append r2).mono n.ff)) h.2
  · exact h.elim
@[simp] def dSub : D2 := fun d e Q => match d, e with
  | .int i, .int j => Q (.int (i - j))
  | _, _ => False
theorem so_sub : SimOp C (rI0 fun i j => .int (i - j)) dSub := by
  intro F H x y d e Qd Q g rx ry h k
  unfold dSub at h
  split at h
  · cases rp_int rx
    cases rp_int ry
    exact ⟨_, _, rfl, rfl, k _ F H _ (.refl g) (.int _) h⟩
  · exact h.elim
@[simp] def dFdiv : D2 := fun d e Q => match d, e with
  | .int i, .int j => CDiv i j ∧ Q (.int (i / j))
  | _, _ => False
theorem so_fdiv : SimOp C (rI CDiv fun i j => .int (i / j)) dFdiv := by
  intro F H x y d e Qd Q g rx ry h k
  unfold dFdiv at h
  split at h
  · cases rp_int rx
    cases rp_int ry
    exact ⟨_, _, rfl, rfl, h.1, k _ F H _ (.refl g) (.int _) h.2⟩
  · exact h.elim
@[simp] def dMod : D2 := fun d e Q => match d, e with
  | .int i, .int j => 0 < j ∧ Q (.int (i % j))
  | _, _ => False
theorem so_mod : SimOp C (rI (fun _ j => 0 < j) fun i j => .int (i % j)) dMod := by
  intro F H x y d e Qd Q g rx ry h k
  unfold dMod at h
  split at h
  · cases rp_int rx
    cases rp_int ry
    exact ⟨_, _, rfl, rfl, h.1, k _ F H _ (.refl g) (.int _) h.2⟩
  · exact h.elim
def rMulAll (K : PySem.W.Frag) : R2 := fun x y H Q => (rI CMul (fun i j => .int (i * j)) x y H Q ∨ rRep x y H Q) ∨ rRepT K x y H Q
theorem op_mulAll {X : Cx} : OpR X (binaryOp .Mult) (rMulAll X.K) := (op_mul.or op_rep).or op_repT

theorem RL.rep {K : PySem.W.Frag} {F : Hp} {vs : List V} {ds : List PyData} (r : RL K F vs ds) : ∀ n : Nat, RL K F (List.replicate n vs).flatten (List.replicate n ds).flatten
  | 0 => .nil
  | n + 1 => by
    rw [List.replicate_succ, List.replicate_succ, List.flatten_cons, List.flatten_cons]
    exact r.append (RL.rep r n)
@[simp] def dMul : D2 := fun d e Q => match d, e with
  | .int i, .int j => CMul i j ∧ Q (.int (i * j))
  | .list xs, .int j => (-(2 ^ 63) ≤ j ∧ j < 2 ^ 63 ∧ xs.length * j.toNat ≤ sizeLine) ∧ Q (.list (List.replicate j.toNat xs).flatten)
  | .tuple xs, .int j => (xs ≠ [] ∧ 2 ≤ j ∧ j ≤ 1000 ∧ xs.length ≤ 1000) ∧ Q (.tuple (List.replicate j.toNat xs).flatten)
  | _, _ => False
theorem rep_len {α : Type} (xs : List α) : ∀ n : Nat, (List.replicate n xs).flatten.length = xs.length * n
  | 0 => by simp
  | n + 1 => by rw [List.replicate_succ, List.flatten_cons, List.length_append, rep_len xs n, Nat.mul_succ, Nat.add_comm]
theorem so_mul : SimOp C (rMulAll C.K) dMul := by
  intro F H x y d e Qd Q g rx ry h k
  unfold dMul at h
  split at h
  · cases rp_int rx
    cases rp_int ry
    exact .inl (.inl ⟨_, _, rfl, rfl, h.1, k _ F H _ (.refl g) (.int _) h.2⟩)
  · rename_i xs j
    obtain ⟨a, vs, e1, n1, q1, l1, r1⟩ := rx.list g
    cases rp_int ry
    subst e1
    obtain ⟨⟨h1, h2, h3⟩, h4⟩ := h
    refine .inl (.inr ⟨a, _, vs, rfl, rfl, q1, h1, h2, by rw [r1.length]; exact h3, fun p hp => ?_⟩)
    have n := Ext.new g hp (.lst (List.replicate j.toNat vs).flatten)
    exact k _ _ _ _ n (.lst upd_same (by rw [rep_len]; exact h3) ((r1.rep _).mono n.ff)) h4
  · rename_i xs j
    obtain ⟨a, vs, e1, q1, l1, r1⟩ := rx.tuple
    cases rp_int ry
    subst e1
    obtain ⟨⟨h1, h2, h3, h5⟩, h4⟩ := h
    refine .inr ⟨a, _, vs, rfl, rfl, sqT_mono g.fh q1, fun z => ?_, h2, h3, by rw [r1.length]; exact h5, fun p hp => ?_⟩
    · subst z; cases r1; exact h1 rfl
    have n := Ext.new g hp (.tup (List.replicate j.toNat vs).flatten)
    refine k _ _ _ _ n (.tup (SqT.of upd_same) ?_ ((r1.rep _).mono n.ff)) h4
    rw [rep_len]
    have e2 : (sizeLine : Nat) = 16777216 := sizeLine_eq
    have e3 := Nat.mul_le_mul h5 (show j.toNat ≤ 1000 by omega)
    omega
  · exact h.elim
/-! ### minus -/
@[simp] def dNeg : D1 := fun d Q => match d with
  | .int i => Q (.int (-i))
  | _ => False
theorem su_neg : SimU C (rU fun i => .int (-i)) dNeg := by
  intro F H x d Qd Q g rx h k
  unfold dNeg at h
  split at h
  · cases rp_int rx
    exact ⟨_, rfl, k _ F H _ (.refl g) (.int _) h⟩
  · exact h.elim

/-! ### in, not in -/
def keyD : PyData → Option Key
  | .int i => some (.inl i)
  | .str x => some (.inr x)
  | _ => none
theorem keyD_kD (k : Key) : keyD (kD k) = some k := by cases k <;> rfl
/-- what a dict holds at a key -/
def getD (kvs : List (PyData × PyData)) (k : Key) : Option PyData := (kvs.find? fun kv => decide (keyD kv.1 = some k)).map (·.2)
theorem RK.val {K : PySem.W.Frag} {F : Hp} (k : Key) : ∀ {kvs : List (Key × V)} {ds : List (PyData × PyData)}, RK K F kvs ds → (valV kvs k = none ∧ getD ds k = none) ∨ ∃ v d, valV kvs k = some v ∧ getD ds k = some d ∧ R K F v d
  | _, _, .nil => .inl ⟨rfl, rfl⟩
  | _, _, .cons (k := k') (v := v) (d := d) (kvs := kvs) (ds := ds) r rs => by
    by_cases e : k' = k
    · subst e
      refine .inr ⟨v, d, valV_pos rfl, ?_, r⟩
      unfold getD
      rw [List.find?_cons_of_pos (by simp [keyD_kD])]
      rfl
    · have e2 : getD ((kD k', d) :: ds) k = getD ds k := by
        unfold getD
        rw [List.find?_cons_of_neg (by simp [keyD_kD, e])]
      rw [valV_neg (p := (k', v)) e, e2]
      exact RK.val k rs
def rInAll (K : PySem.W.Frag) (neg : Bool) : R2 := fun x y H Q =>
  (∃ d ds, R K H x d ∧ (R K H y (.list ds) ∨ R K H y (.tuple ds)) ∧ PyData.plainAll ds = true ∧ okD d ∧ Q (.bl (if neg then !ds.any fun z => PyData.eqv z d else ds.any fun z => PyData.eqv z d)) H) ∨
  (∃ c z, x = .str ⟨#[c]⟩ ∧ y = .str z ∧ Q (.bl (if neg then !decide (c ∈ z.cps.toList) else decide (c ∈ z.cps.toList))) H) ∨
  ∃ a kvs k, y = .ref a ∧ H a = some (.dK kvs) ∧ x = kV k ∧ Q (.bl (if neg then !(valV kvs k).isSome else (valV kvs k).isSome)) H
section
variable {X : Cx}
theorem op_inAll (hu : X.A.units + 200 < cLine) : OpR X (compareOp .In) (rInAll X.K false) := by
  intro pins s σ H x y v u Q I rx ry h
  rcases h with ⟨d, ds, hd, hc, pl, ok, q⟩ | ⟨c, z, e1, e2, q⟩ | ⟨a, kvs, k, e1, e2, e3, q⟩
  · obtain ⟨as, r1⟩ := R.reads I d x v ok.1 hd rx
    have := ok.2
    have hb : X.A.units + 1 + min (PyData.depthAll ds) d.depth < cLine := by omega
    rcases hc with hc | hc
    · obtain ⟨bs, r2⟩ := R.reads I (.list ds) y u (by simpa [PyData.plain] using pl) hc ry
      exact SeqAt.in_list_data r2 r1 pl ok.1 hb ⟨.bl _, H, I, rfl, q⟩
    · obtain ⟨bs, r2⟩ := R.reads I (.tuple ds) y u (by simpa [PyData.plain] using pl) hc ry
      exact SeqAt.in_tuple_data r2 r1 pl ok.1 hb ⟨.bl _, H, I, rfl, q⟩
  · exact op_in_sign pins s σ H x y v u Q I rx ry ⟨c, z, e1, e2, q⟩
  · subst e1
    obtain rfl : u = Value.ref a := ry
    exact d_in (by omega) I (.inl ⟨kvs, k, .inl e2, e3, rfl⟩) rx fun s3 I3 => ⟨.bl _, H, I3, rfl, q⟩
theorem op_notInAll (hu : X.A.units + 200 < cLine) : OpR X (compareOp .NotIn) (rInAll X.K true) := by
  intro pins s σ H x y v u Q I rx ry h
  rcases h with ⟨d, ds, hd, hc, pl, ok, q⟩ | ⟨c, z, e1, e2, q⟩ | ⟨a, kvs, k, e1, e2, e3, q⟩
  · obtain ⟨as, r1⟩ := R.reads I d x v ok.1 hd rx
    have := ok.2
    have hb : X.A.units + 1 + min (PyData.depthAll ds) d.depth < cLine := by omega
    rcases hc with hc | hc
    · obtain ⟨bs, r2⟩ := R.reads I (.list ds) y u (by simpa [PyData.plain] using pl) hc ry
      exact SeqAt.notIn_list_data r2 r1 pl ok.1 hb ⟨.bl _, H, I, rfl, q⟩
    · obtain ⟨bs, r2⟩ := R.reads I (.tuple ds) y u (by simpa [PyData.plain] using pl) hc ry
      exact SeqAt.notIn_tuple_data r2 r1 pl ok.1 hb ⟨.bl _, H, I, rfl, q⟩
  · exact op_notIn_sign pins s σ H x y v u Q I rx ry ⟨c, z, e1, e2, q⟩
  · subst e1
    obtain rfl : u = Value.ref a := ry
    exact d_notIn (by omega) I (.inl ⟨kvs, k, .inl e2, e3, rfl⟩) rx fun s3 I3 => ⟨.bl _, H, I3, rfl, q⟩
end
/-- one sign of a text -/
def signOf (x : Str) : Option Nat := match x.cps.toList with
  | [c] => some c
  | _ => none
@[simp] def dIn (neg : Bool) : D2 := fun d e Q => match e with
  | .list ds => PyData.plainAll ds = true ∧ okD d ∧ Q (.bool (if neg then !ds.any fun z => PyData.eqv z d else ds.any fun z => PyData.eqv z d))
  | .tuple ds => PyData.plainAll ds = true ∧ okD d ∧ Q (.bool (if neg then !ds.any fun z => PyData.eqv z d else ds.any fun z => PyData.eqv z d))
  | .str z => match d with
    | .str x => match signOf x with
      | some c => Q (.bool (if neg then !decide (c ∈ z.cps.toList) else decide (c ∈ z.cps.toList)))
      | none => False
    | _ => False
  | .dict kvs => match keyD d with
    | some k => Q (.bool (if neg then !(getD kvs k).isSome else (getD kvs k).isSome))
    | none => False
  | _ => False
theorem signOf_eq {x : Str} {c : Nat} (h : signOf x = some c) : x = ⟨#[c]⟩ := by
  unfold signOf at h
  split at h
  · rename_i c' e
    cases h
    obtain ⟨a⟩ := x
    obtain ⟨l⟩ := a
    have e' : l = [c] := e
    subst e'
    rfl
  · cases h
theorem keyD_rel {F H : Hp} {x : V} {d : PyData} {k : Key} (r : RP C F H x d) (h : keyD d = some k) : x = kV k := by
  cases d with
  | int i => cases h; exact rp_int r
  | str z => cases h; exact (rp_str r).1
  | _ => cases h
theorem so_in {neg : Bool} : SimOp C (rInAll C.K neg) (dIn neg) := by
  intro F H x y d e Qd Q g rx ry h k
  unfold dIn at h
  cases e with
  | list ds => exact .inl ⟨d, ds, rx.all g, .inl (ry.all g), h.1, h.2.1, k _ F H _ (.refl g) (.bl _) h.2.2⟩
  | tuple ds => exact .inl ⟨d, ds, rx.all g, .inr (ry.all g), h.1, h.2.1, k _ F H _ (.refl g) (.bl _) h.2.2⟩
  | str z =>
    simp only at h
    split at h
    · split at h
      · rename_i c e
        have e' := signOf_eq e
        subst e'
        exact .inr (.inl ⟨c, z, (rp_str rx).1, (rp_str ry).1, k _ F H _ (.refl g) (.bl _) h⟩)
      · exact h.elim
    · exact h.elim
  | dict kvs =>
    simp only at h
    split at h
    · rename_i key e
      obtain ⟨a, ks, e1, _, q1, l1, r1⟩ := ry.dict g
      subst e1
      refine .inr (.inr ⟨a, ks, key, rfl, q1, keyD_rel rx e, ?_⟩)
      rcases r1.val key with ⟨z1, z2⟩ | ⟨v, dd, z1, z2, _⟩
      · rw [z1]; rw [z2] at h; exact k _ F H _ (.refl g) (.bl _) h
      · rw [z1]; rw [z2] at h; exact k _ F H _ (.refl g) (.bl _) h
    · exact h.elim
  | _ => exact h.elim
end
end VL

set_option Elab.async false
set_option linter.all false
set_option maxRecDepth 100000
set_option maxHeartbeats 4000000
/-! VLLib2: subscripts, slices, built-ins, methods, over data. -/
namespace VL
open PySem PySem.Spec L2

section
variable {C : Cfg} {X : Cx}
/-! ### subscripts -/
theorem ixN_lt {n : Nat} {i : Int} {j : Nat} (h : ixN n i = some j) : j < n := by
  unfold ixN at h
  split at h
  · split at h
    · cases h; omega
    · cases h
  · split at h
    · cases h; omega
    · cases h
theorem RL.atI {K : PySem.W.Frag} {F : Hp} {vs : List V} {ds : List PyData} {i : Int} {d : PyData} (r : RL K F vs ds) (h : L2.atI ds i = some d) : ∃ v, L2.atI vs i = some v ∧ R K F v d := by
  unfold L2.atI at h ⊢
  rw [r.length]
  cases e : ixN ds.length i with
  | none => rw [e] at h; cases h
  | some j =>
    rw [e] at h
    obtain ⟨v, h1, h2⟩ := r.get' (show ds[j]? = some d from h)
    exact ⟨v, h1, h2⟩
def rIxDk : R2 := fun x y H Q => ∃ a kvs k v, x = .ref a ∧ H a = some (.dK kvs) ∧ y = kV k ∧ valV kvs k = some v ∧ Q v H
theorem ix_dict (hu : X.A.units + 200 < cLine) : IxR X rIxDk := by
  intro value slice pins s σ H x y v u Q I rx ry h hs
  obtain ⟨a, kvs, k, z, rfl, e2, e3, e4, q⟩ := h
  obtain rfl : v = Value.ref a := rx
  have g : DGet H a y (some z) := .inl ⟨kvs, k, .inl e2, e3, e4.symm⟩
  have hT := dict_typeIs I g
  unfold PyProof.Rows.subscriptTail
  refine wpAny_bind ?_
  rw [getitemInPython_of_ne hT.not_modules]
  have fin : wpAny (model X.prog X.w) X.A (subscripted slice false (.ref a) u) (fun r s₃ => wpAny (model X.prog X.w) X.A (letTemporaryGo value (.ref a) r >>= fun _ => pure r) (EP X pins σ Q) X.xe s₃) X.xe s := by
    rw [hs]
    refine wpAny_operating (d_getItem (by omega) I g ry fun w' s3 I3 rw' => ?_)
    exact wpAny_bind (wpAny_letTemporaryGo (wpAny_pure ⟨z, H, I3, rw', q⟩))
  refine wpAny_bind (wpAny_specialOf hT PySem.F.slot_dict_getitem.lookup ?_)
  first
    | exact wpAny_pure (wpAny_bind fin)
    | exact wpAny_bind (wpAny_pure (wpAny_bind fin))
    | exact wpAny_bind fin
def rIxAll (K : PySem.W.Frag) : R2 := fun x y H Q => rIx K x y H Q ∨ rIxDk x y H Q
theorem ix_all (hu : X.A.units + 200 < cLine) : IxR X (rIxAll X.K) := ix_seq.or (ix_dict hu)
@[simp] def dIx : D2 := fun d e Q => match d, e with
  | .list ds, .int i => match L2.atI ds i with
    | some z => Q z
    | none => False
  | .tuple ds, .int i => match L2.atI ds i with
    | some z => Q z
    | none => False
  | .str x, .int i => match L2.atI x.cps.toList i with
    | some c => Q (.str ⟨#[c]⟩)
    | none => False
  | .dict kvs, e => match keyD e with
    | some k => match getD kvs k with
      | some z => Q z
      | none => False
    | none => False
  | _, _ => False
theorem one_line : (1 : Nat) ≤ sizeLine := by rw [sizeLine_eq]; decide
theorem so_ix : SimOp C (rIxAll C.K) dIx := by
  intro F H x y d e Qd Q g rx ry h k
  unfold dIx at h
  split at h
  · split at h
    · rename_i e'
      obtain ⟨a, vs, e1, _, q1, l1, r1⟩ := rx.list g
      cases rp_int ry
      subst e1
      obtain ⟨v, h1, h2⟩ := r1.atI e'
      exact .inl (.inl ⟨a, vs, _, v, rfl, rfl, SqL.of q1, h1, k v F H _ (.refl g) h2 h⟩)
    · exact h.elim
  · split at h
    · rename_i e'
      obtain ⟨a, vs, e1, q1, l1, r1⟩ := rx.tuple
      cases rp_int ry
      subst e1
      obtain ⟨v, h1, h2⟩ := r1.atI e'
      exact .inl (.inr (.inl ⟨a, vs, _, v, rfl, rfl, sqT_mono g.fh q1, h1, k v F H _ (.refl g) h2 h⟩))
    · exact h.elim
  · split at h
    · rename_i c e'
      obtain ⟨e1, l⟩ := rp_str rx
      cases rp_int ry
      subst e1
      exact .inl (.inr (.inr ⟨_, _, c, rfl, rfl, l, e', k _ F H _ (.refl g) (.str _ one_line) h⟩))
    · exact h.elim
  · split at h
    · rename_i key ek
      split at h
      · rename_i z ez
        obtain ⟨a, ks, e1, _, q1, l1, r1⟩ := rx.dict g
        subst e1
        rcases r1.val key with ⟨z1, z2⟩ | ⟨v, dd, z1, z2, rr⟩
        · rw [z2] at ez; cases ez
        · rw [z2] at ez; cases ez
          exact .inr ⟨a, ks, key, v, rfl, q1, keyD_rel ry ek, z1, k v F H _ (.refl g) rr h⟩
      · exact h.elim
    · exact h.elim
  · exact h.elim
/-! ### slices -/
def cutL {α : Type} (xs : List α) (lo hi : Option Int) : List α := (xs.drop (HT.sIx xs.length 0 lo)).take (HT.sIx xs.length xs.length hi - HT.sIx xs.length 0 lo)
theorem cutL_len {α : Type} (xs : List α) (lo hi : Option Int) : (cutL xs lo hi).length ≤ xs.length := by
  unfold cutL
  rw [List.length_take, List.length_drop]
  omega
theorem RL.cut {K : PySem.W.Frag} {F : Hp} {vs : List V} {ds : List PyData} (r : RL K F vs ds) (lo hi : Option Int) : RL K F (cutV vs lo hi) (cutL ds lo hi) := by
  unfold cutL cutV
  rw [r.length]
  exact (r.drop _).take _
def rSlAll (K : PySem.W.Frag) : V → Option Int → Option Int → Hp → VK → Prop := fun x lo hi H Q => (rSlL K x lo hi H Q ∨ rSlA K x lo hi H Q) ∨ rSlS x lo hi H Q
theorem sl_all : SlR X (rSlAll X.K) := (sl_list.or sl_tupA).or sl_str
@[simp] def dCut : DSl := fun d lo hi Q => match d with
  | .list ds => Q (.list (cutL ds lo hi))
  | .tuple ds => Q (.tuple (cutL ds lo hi))
  | .str z => Q (.str (cutS z lo hi))
  | _ => False
theorem cutS_len (z : Str) (lo hi : Option Int) : (cutS z lo hi).length ≤ z.length := by
  unfold cutS
  show (List.toArray _).size ≤ z.cps.size
  rw [List.size_toArray, List.length_take, List.length_drop]
  have : z.cps.toList.length = z.cps.size := Array.length_toList
  omega
theorem cutV_whole {xs : List V} {lo hi : Option Int} (h : HT.sIx xs.length 0 lo = 0 ∧ HT.sIx xs.length xs.length hi = xs.length) : cutV xs lo hi = xs := by
  unfold cutV
  rw [h.1, h.2, List.drop_zero, Nat.sub_zero, List.take_length]
theorem cutL_whole {α : Type} {xs : List α} {lo hi : Option Int} (h : HT.sIx xs.length 0 lo = 0 ∧ HT.sIx xs.length xs.length hi = xs.length) : cutL xs lo hi = xs := by
  unfold cutL
  rw [h.1, h.2, List.drop_zero, Nat.sub_zero, List.take_length]
theorem ss_cut : SimSl C (rSlAll C.K) dCut := by
  intro F H x d lo hi Qd Q g rx h k
  unfold dCut at h
  split at h
  · obtain ⟨a, vs, e1, _, q1, l1, r1⟩ := rx.list g
    subst e1
    refine .inl (.inl ⟨a, vs, rfl, SqL.of q1, fun p hp => ?_⟩)
    have n := Ext.new g hp (.lst (cutV vs lo hi))
    exact k _ _ _ _ n (.lst upd_same (Nat.le_trans (cutL_len _ _ _) l1) ((r1.cut lo hi).mono n.ff)) h
  · obtain ⟨a, vs, e1, q1, l1, r1⟩ := rx.tuple
    subst e1
    refine .inl (.inr ⟨a, vs, rfl, sqT_mono g.fh q1, fun hw => ?_, fun _ p hp => ?_⟩)
    · rw [cutL_whole (by rw [← r1.length]; exact hw)] at h
      exact k _ F H _ (.refl g) (.tup q1 l1 r1) h
    · have n := Ext.new g hp (.tup (cutV vs lo hi))
      exact k _ _ _ _ n (.tup (SqT.of upd_same) (Nat.le_trans (cutL_len _ _ _) l1) ((r1.cut lo hi).mono n.ff)) h
  · obtain ⟨e1, l⟩ := rp_str rx
    subst e1
    exact .inr ⟨_, rfl, l, k _ F H _ (.refl g) (.str _ (Nat.le_trans (cutS_len _ _ _) l)) h⟩
  · exact h.elim
/-! ### built-ins of one argument -/
theorem rps1 {F H : Hp} {xs : List V} {d : PyData} (r : RPs C F H xs [d]) : ∃ v, xs = [v] ∧ RP C F H v d := by
  cases r with
  | cons a b => cases b; exact ⟨_, rfl, a⟩
theorem rps2 {F H : Hp} {xs : List V} {d e : PyData} (r : RPs C F H xs [d, e]) : ∃ v w, xs = [v, w] ∧ RP C F H v d ∧ RP C F H w e := by
  cases r with
  | cons a b => cases b with
    | cons c d => cases d; exact ⟨_, _, rfl, a, c⟩
def rLenAll (K : PySem.W.Frag) : List V → Hp → VK → Prop := fun xs H Q => (∃ x n, xs = [x] ∧ LenV K x H n ∧ Q (.int n) H) ∨ ∃ a kvs, xs = [V.ref a] ∧ H a = some (.dK kvs) ∧ Q (.int kvs.length) H
theorem call_lenAll : CallR X (.builtin "len") (rLenAll X.K) := call_len.or call_lenD
@[simp] def dLen : DB := fun xs Q => match xs with
  | [.list ds] => Q (.int ds.length)
  | [.tuple ds] => Q (.int ds.length)
  | [.str z] => Q (.int z.length)
  | [.dict kvs] => Q (.int kvs.length)
  | _ => False
theorem sb_len : SimB C (rLenAll C.K) dLen := by
  intro F H xs ds Qd Q g rs h k
  unfold dLen at h
  split at h
  · obtain ⟨v, e, r⟩ := rps1 rs
    obtain ⟨a, vs, e1, _, q1, l1, r1⟩ := r.list g
    subst e e1
    exact .inl ⟨_, vs.length, rfl, .inl ⟨vs, SqL.of q1, rfl⟩, k _ F H _ (.refl g) (by rw [r1.length]; exact .int _) h⟩
  · obtain ⟨v, e, r⟩ := rps1 rs
    obtain ⟨a, vs, e1, q1, l1, r1⟩ := r.tuple
    subst e e1
    exact .inl ⟨_, vs.length, rfl, .inr ⟨vs, sqT_mono g.fh q1, rfl⟩, k _ F H _ (.refl g) (by rw [r1.length]; exact .int _) h⟩
  · obtain ⟨v, e, r⟩ := rps1 rs
    obtain ⟨e1, l⟩ := rp_str r
    subst e e1
    exact .inl ⟨_, _, rfl, ⟨l, rfl⟩, k _ F H _ (.refl g) (.int _) h⟩
  · obtain ⟨v, e, r⟩ := rps1 rs
    obtain ⟨a, ks, e1, _, q1, l1, r1⟩ := r.dict g
    subst e e1
    exact .inr ⟨a, ks, rfl, q1, k _ F H _ (.refl g) (by rw [r1.length]; exact .int _) h⟩
  · exact h.elim
/-- tuple(x) -/
@[simp] def dTuple : DB := fun xs Q => match xs with
  | [.list ds] => Q (.tuple ds)
  | [.tuple ds] => Q (.tuple ds)
  | _ => False
def rTupleOf (K : PySem.W.Frag) : List V → Hp → VK → Prop := fun xs H Q => ∃ p ys, xs = [.ref p] ∧ ((SqL K H p ys ∧ ∀ l, H l = none → Q (.ref l) (upd H l (.tup ys))) ∨ (SqT K H p ys ∧ Q (.ref p) H))
theorem sb_tuple : SimB C (rTupleOf C.K) dTuple := by
  intro F H xs ds Qd Q g rs h k
  unfold dTuple at h
  split at h
  · obtain ⟨v, e, r⟩ := rps1 rs
    obtain ⟨a, vs, e1, _, q1, l1, r1⟩ := r.list g
    subst e e1
    refine ⟨a, vs, rfl, .inl ⟨SqL.of q1, fun p hp => ?_⟩⟩
    have n := Ext.new g hp (.tup vs)
    exact k _ _ _ _ n (.tup (SqT.of upd_same) l1 (r1.mono n.ff)) h
  · obtain ⟨v, e, r⟩ := rps1 rs
    obtain ⟨a, vs, e1, q1, l1, r1⟩ := r.tuple
    subst e e1
    exact ⟨a, vs, rfl, .inr ⟨sqT_mono g.fh q1, k _ F H _ (.refl g) (.tup q1 l1 r1) h⟩⟩
  · exact h.elim
/-- list(x): a new list -/
def dList : DB := fun xs Q => match xs with
  | [.list ds] => Q (.list ds)
  | [.tuple ds] => Q (.list ds)
  | [.dict kvs] => Q (.list (kvs.map (·.1)))
  | _ => False
def rListOf (K : PySem.W.Frag) : List V → Hp → VK → Prop := fun xs H Q => (∃ p ys, xs = [.ref p] ∧ (SqL K H p ys ∨ SqT K H p ys) ∧ ∀ l, H l = none → Q (.ref l) (upd H l (.lst ys))) ∨
  ∃ (a : Addr) (kvs : List (Key × V)), xs = [.ref a] ∧ Rd H a (.dK kvs) ∧ ∀ p, H p = none → Q (.ref p) (upd H p (.lst (kvs.map fun kv => kV kv.1)))
theorem call_listAll (hc : X.calm = true) : CallR X (.type "list") (rListOf X.K) := call_list_of.or (call_listD hc)
/-- keys that are ints, or texts within the line -/
theorem RK.keys {K : PySem.W.Frag} {F : Hp} : ∀ {kvs : List (Key × V)} {ds : List (PyData × PyData)}, RK K F kvs ds → (∀ x, PyData.str x ∈ ds.map (·.1) → x.length ≤ sizeLine) → RL K F (kvs.map fun kv => kV kv.1) (ds.map (·.1))
  | _, _, .nil, _ => .nil
  | _, _, .cons (k := k) r rs, h => by
    refine .cons ?_ (RK.keys rs fun x hx => h x (List.mem_cons_of_mem _ hx))
    cases k with
    | inl i => exact .int i
    | inr x => exact .str x (h x List.mem_cons_self)
def keysOk (kvs : List (PyData × PyData)) : Prop := ∀ x, PyData.str x ∈ kvs.map (·.1) → x.length ≤ sizeLine
@[simp] def dListF : DB := fun xs Q => match xs with
  | [.list ds] => Q (.list ds)
  | [.tuple ds] => Q (.list ds)
  | [.dict kvs] => keysOk kvs ∧ Q (.list (kvs.map (·.1)))
  | _ => False
theorem sbF_list : SimBF C (rListOf C.K) dListF := by
  intro F H xs ds Qd Q g rs h k
  unfold dListF at h
  split at h
  · obtain ⟨v, e, r⟩ := rps1 rs
    obtain ⟨a, vs, e1, _, q1, l1, r1⟩ := r.list g
    subst e e1
    refine .inl ⟨a, vs, rfl, .inl (SqL.of q1), fun p hp => ?_⟩
    exact k p _ _ (.list _) (Ext.newO g hp _) ⟨g.fnone hp, hp, g.noS hp, vs, upd_same, l1, r1⟩ h
  · obtain ⟨v, e, r⟩ := rps1 rs
    obtain ⟨a, vs, e1, q1, l1, r1⟩ := r.tuple
    subst e e1
    refine .inl ⟨a, vs, rfl, .inr (sqT_mono g.fh q1), fun p hp => ?_⟩
    exact k p _ _ (.list _) (Ext.newO g hp _) ⟨g.fnone hp, hp, g.noS hp, vs, upd_same, l1, r1⟩ h
  · obtain ⟨v, e, r⟩ := rps1 rs
    obtain ⟨a, ks, e1, _, q1, l1, r1⟩ := r.dict g
    subst e e1
    refine .inr ⟨a, ks, rfl, .inl q1, fun p hp => ?_⟩
    exact k p _ _ (.list _) (Ext.newO g hp _) ⟨g.fnone hp, hp, g.noS hp, _, upd_same, by rw [List.length_map]; exact l1, r1.keys h.1⟩ h.2
  · exact h.elim
/-- int(x), abs(x), str(x) -/
def rIntAll : List V → Hp → VK → Prop := fun xs H Q => ((∃ i, xs = [.int i] ∧ Q (.int i) H) ∨ ∃ k, xs = [.bl k] ∧ Q (.int (if k then 1 else 0)) H) ∨ ∃ a n, xs = [.str a] ∧ PySem.intText? a = some n ∧ a.length ≤ 640 ∧ Q (.int n) H
theorem call_intAll : CallR X (.type "int") rIntAll := call_int1.or call_int_str
@[simp] def dInt : DB := fun xs Q => match xs with
  | [.int i] => Q (.int i)
  | [.bool b] => Q (.int (if b then 1 else 0))
  | [.str a] => match PySem.intText? a with
    | some n => a.length ≤ 640 ∧ Q (.int n)
    | none => False
  | _ => False
theorem sb_int : SimB C rIntAll dInt := by
  intro F H xs ds Qd Q g rs h k
  unfold dInt at h
  split at h
  · obtain ⟨v, e, r⟩ := rps1 rs
    cases rp_int r
    subst e
    exact .inl (.inl ⟨_, rfl, k _ F H _ (.refl g) (.int _) h⟩)
  · obtain ⟨v, e, r⟩ := rps1 rs
    cases rp_bool r
    subst e
    exact .inl (.inr ⟨_, rfl, k _ F H _ (.refl g) (.int _) h⟩)
  · obtain ⟨v, e, r⟩ := rps1 rs
    obtain ⟨e1, l⟩ := rp_str r
    subst e e1
    split at h
    · rename_i n en
      exact .inr ⟨_, n, rfl, en, h.1, k _ F H _ (.refl g) (.int _) h.2⟩
    · exact h.elim
  · exact h.elim
def rAbs : List V → Hp → VK → Prop := fun xs H Q => ∃ i, xs = [.int i] ∧ Q (.int (if i < 0 then -i else i)) H
@[simp] def dAbs : DB := fun xs Q => match xs with
  | [.int i] => Q (.int (if i < 0 then -i else i))
  | _ => False
theorem sb_abs : SimB C rAbs dAbs := by
  intro F H xs ds Qd Q g rs h k
  unfold dAbs at h
  split at h
  · obtain ⟨v, e, r⟩ := rps1 rs
    cases rp_int r
    subst e
    exact ⟨_, rfl, k _ F H _ (.refl g) (.int _) h⟩
  · exact h.elim
def rMax2 : List V → Hp → VK → Prop := fun xs H Q => ∃ i j, xs = [.int i, .int j] ∧ Q (.int (if j > i then j else i)) H
def rMin2 : List V → Hp → VK → Prop := fun xs H Q => ∃ i j, xs = [.int i, .int j] ∧ Q (.int (if j < i then j else i)) H
@[simp] def dMax2 : DB := fun xs Q => match xs with
  | [.int i, .int j] => Q (.int (if j > i then j else i))
  | _ => False
@[simp] def dMin2 : DB := fun xs Q => match xs with
  | [.int i, .int j] => Q (.int (if j < i then j else i))
  | _ => False
theorem sb_max2 : SimB C rMax2 dMax2 := by
  intro F H xs ds Qd Q g rs h k
  unfold dMax2 at h
  split at h
  · obtain ⟨v, w, e, r, r'⟩ := rps2 rs
    cases rp_int r
    cases rp_int r'
    subst e
    exact ⟨_, _, rfl, k _ F H _ (.refl g) (.int _) h⟩
  · exact h.elim
theorem sb_min2 : SimB C rMin2 dMin2 := by
  intro F H xs ds Qd Q g rs h k
  unfold dMin2 at h
  split at h
  · obtain ⟨v, w, e, r, r'⟩ := rps2 rs
    cases rp_int r
    cases rp_int r'
    subst e
    exact ⟨_, _, rfl, k _ F H _ (.refl g) (.int _) h⟩
  · exact h.elim
/-! ### any, all, sum -/
def atomB (b : Bool) : PyData := .bool b
def fitsD (ds : List PyData) : Prop := ∀ x ∈ ds, x.fits63
theorem len63 {n : Nat} (l : n ≤ sizeLine) : (n : Int) < 2 ^ 63 := by
  have e2 : (sizeLine : Nat) = 16777216 := sizeLine_eq
  omega
theorem R.fits {K : PySem.W.Frag} {F : Hp} {v : V} {d : PyData} (r : R K F v d) : d.fits63 := by
  have e2 : (sizeLine : Nat) = 16777216 := sizeLine_eq
  cases r with
  | str x l => exact len63 l
  | lst _ l _ => exact len63 l
  | tup _ l _ => exact len63 l
  | _ => trivial
theorem RL.fits {K : PySem.W.Frag} {F : Hp} : ∀ {vs : List V} {ds : List PyData}, RL K F vs ds → ∀ x ∈ ds, x.fits63
  | _, _, .nil, x, h => nomatch h
  | _, _, .cons a b, x, h => by
    rcases List.mem_cons.mp h with e | h
    · subst e; exact a.fits
    · exact b.fits x h
def rAnyR (K : PySem.W.Frag) (b : Bool) : List V → Hp → VK → Prop := fun xs H Q => ∃ v ds, xs = [v] ∧ (R K H v (.list ds) ∨ R K H v (.tuple ds)) ∧ PyData.plainAll ds = true ∧ Q (.bl (if b then ds.all PyData.truthy else ds.any PyData.truthy)) H
theorem R.listAt {pins : List (Addr × Obj)} {σ : St} {H : Hp} {s : Shared} {v : V} {u : Value} {ds : List PyData} (I : Inv X pins σ H s) (hp : PyData.plainAll ds = true) (h : R X.K H v (.list ds)) (r : RelV v u) :
    ∃ l vs as, u = .ref l ∧ s.heap.IsList l vs ∧ ReadsAll s.heap vs.toList ds as ∧ ∀ x ∈ ds, x.fits63 := by
  cases h with
  | lst hs _ ha =>
    cases r
    obtain ⟨its, rv, pl, _⟩ := I.list (SqL.of hs)
    obtain ⟨as, hr⟩ := RL.reads I ds _ its hp ha rv
    exact ⟨_, its.toArray, as, rfl, pl.isList, hr, ha.fits⟩
theorem R.tupAt {pins : List (Addr × Obj)} {σ : St} {H : Hp} {s : Shared} {v : V} {u : Value} {ds : List PyData} (I : Inv X pins σ H s) (hp : PyData.plainAll ds = true) (h : R X.K H v (.tuple ds)) (r : RelV v u) :
    ∃ l vs as, u = .ref l ∧ s.heap.IsTuple l vs ∧ ReadsAll s.heap vs.toList ds as ∧ ∀ x ∈ ds, x.fits63 := by
  cases h with
  | tup hs _ ha =>
    cases r
    obtain ⟨its, rv, pl, _⟩ := I.tuple hs
    obtain ⟨as, hr⟩ := RL.reads I ds _ its hp ha rv
    exact ⟨_, its.toArray, as, rfl, pl, hr, ha.fits⟩
theorem call_anyR (hc : X.calm = true) : CallR X (.builtin "any") (rAnyR X.K false) := by
  intro pins s σ H xs us Q I r h
  obtain ⟨v, ds, rfl, hl, hp, q⟩ := h
  obtain ⟨u, rfl, rx⟩ := vals1 r
  rcases hl with hl | hl
  · obtain ⟨l, vs, as, rfl, il, hr, hf⟩ := R.listAt I hp hl rx
    exact PySem.W.any_list_data (I.ok.hd hc) il hr hp hf fun h' tk kp => ⟨.bl _, H, I.kept (t' := tk) kp, rfl, q⟩
  · obtain ⟨l, vs, as, rfl, il, hr, hf⟩ := R.tupAt I hp hl rx
    exact PySem.W.any_tuple_data (I.ok.hd hc) il hr hp hf fun h' tk kp => ⟨.bl _, H, I.kept (t' := tk) kp, rfl, q⟩
theorem call_allR (hc : X.calm = true) : CallR X (.builtin "all") (rAnyR X.K true) := by
  intro pins s σ H xs us Q I r h
  obtain ⟨v, ds, rfl, hl, hp, q⟩ := h
  obtain ⟨u, rfl, rx⟩ := vals1 r
  rcases hl with hl | hl
  · obtain ⟨l, vs, as, rfl, il, hr, hf⟩ := R.listAt I hp hl rx
    exact PySem.W.all_list_data (I.ok.hd hc) il hr hp hf fun h' tk kp => ⟨.bl _, H, I.kept (t' := tk) kp, rfl, q⟩
  · obtain ⟨l, vs, as, rfl, il, hr, hf⟩ := R.tupAt I hp hl rx
    exact PySem.W.all_tuple_data (I.ok.hd hc) il hr hp hf fun h' tk kp => ⟨.bl _, H, I.kept (t' := tk) kp, rfl, q⟩
@[simp] def dAny (b : Bool) : DB := fun xs Q => match xs with
  | [.list ds] => PyData.plainAll ds = true ∧ Q (.bool (if b then ds.all PyData.truthy else ds.any PyData.truthy))
  | [.tuple ds] => PyData.plainAll ds = true ∧ Q (.bool (if b then ds.all PyData.truthy else ds.any PyData.truthy))
  | _ => False
theorem sb_any {b : Bool} : SimB C (rAnyR C.K b) (dAny b) := by
  intro F H xs ds Qd Q g rs h k
  unfold dAny at h
  split at h
  · obtain ⟨v, e, r⟩ := rps1 rs
    exact ⟨v, _, e, .inl (r.all g), h.1, k _ F H _ (.refl g) (.bl _) h.2⟩
  · obtain ⟨v, e, r⟩ := rps1 rs
    exact ⟨v, _, e, .inr (r.all g), h.1, k _ F H _ (.refl g) (.bl _) h.2⟩
  · exact h.elim
/-- the ints of a list -/
def intsOf : List PyData → Option (List Int)
  | [] => some []
  | .int i :: r => (intsOf r).map (i :: ·)
  | _ :: _ => none
theorem intsOf_map : ∀ {ds : List PyData} {ns : List Int}, intsOf ds = some ns → ds = ns.map .int
  | [], ns, h => by cases h; rfl
  | d :: r, ns, h => by
    cases d with
    | int i =>
      simp only [intsOf] at h
      cases e : intsOf r with
      | none => rw [e] at h; cases h
      | some ms =>
        rw [e] at h
        cases h
        rw [List.map_cons, ← intsOf_map e]
    | _ => simp [intsOf] at h
theorem intsOf_of (ns : List Int) : intsOf (ns.map .int) = some ns := by
  induction ns with
  | nil => rfl
  | cons n r ih => simp [intsOf, ih]
theorem RL.ints {K : PySem.W.Frag} {F : Hp} : ∀ {vs : List V} {ns : List Int}, RL K F vs (ns.map .int) → vs = ns.map V.int
  | _, [], .nil => rfl
  | _, n :: r, .cons a b => by cases a; rw [b.ints]; rfl
@[simp] def dSum : DB := fun xs Q => match xs with
  | [.list ds] => match intsOf ds with
    | some ns => Q (.int ns.sum)
    | none => False
  | _ => False
theorem sb_sum : SimB C (rSum C.K) dSum := by
  intro F H xs ds Qd Q g rs h k
  unfold dSum at h
  split at h
  · obtain ⟨v, e, r⟩ := rps1 rs
    obtain ⟨a, vs, e1, _, q1, l1, r1⟩ := r.list g
    split at h
    · rename_i ns en
      have e3 := intsOf_map en
      subst e e1 e3
      have e4 := r1.ints
      subst e4
      exact ⟨a, ns, rfl, SqL.of q1, k _ F H _ (.refl g) (.int _) h⟩
    · exact h.elim
  · exact h.elim
end
end VL

set_option Elab.async false
set_option linter.all false
set_option maxRecDepth 100000
set_option maxHeartbeats 4000000
/-! VLIter: what is walked: lists, tuples, texts of any kind; enumerate and zip of such. -/
namespace VL
open PySem PySem.Spec L2

/-- what may be walked -/
inductive Src where
  | lst (a : Addr)
  | tup (a : Addr)
  | txt (x : Str)
namespace Src
def V : Src → L2.V
  | .lst a => .ref a
  | .tup a => .ref a
  | .txt x => .str x
def is (K : PySem.W.Frag) (H : Hp) : Src → List L2.V → Prop
  | .lst a, xs => SqL K H a xs
  | .tup a, xs => SqT K H a xs
  | .txt x, xs => xs = x.cps.toList.map fun c => L2.V.str ⟨#[c]⟩
/-- its iterator at it, i items drawn -/
def at_ : Src → Addr → Nat → Heap → Prop
  | .lst a, it, i, h => h.IsListIter it a i
  | .tup a, it, i, h => h.IsTupleIter it a i
  | .txt x, it, i, h => ∃ t, h.IsStrIter it (strIterType x) x t i
theorem inj {X : Cx} {pins : List (Addr × Obj)} {σ : St} {H : Hp} {s : Shared} (I : Inv X pins σ H s) : ∀ {r : Src} {xs ys : List L2.V}, r.is X.K H xs → r.is X.K H ys → xs = ys
  | .lst _, _, _, h, h' => I.list_inj h h'
  | .tup _, _, _, h, h' => I.tuple_inj h h'
  | .txt _, _, _, h, h' => by rw [show _ = _ from h, show _ = _ from h']
theorem keep : ∀ {r : Src} {it : Addr} {i : Nat} {h h' : Heap}, r.at_ it i h → (∀ o, h.get? it = some o → h'.get? it = some o) → r.at_ it i h'
  | .lst _, _, _, _, _, st, k => st.at k
  | .tup _, _, _, _, _, st, k => st.at k
  | .txt _, _, _, _, _, ⟨t, o, ho, r⟩, k => ⟨t, o, k o ho, r⟩
theorem there : ∀ {r : Src} {it : Addr} {i : Nat} {h : Heap}, r.at_ it i h → ∃ o, h.get? it = some o ∧ ∀ v, o.data ≠ .cell v
  | .lst _, _, _, _, ⟨o, ho, _, hd⟩ => ⟨o, ho, fun v q => by rw [hd] at q; cases q⟩
  | .tup _, _, _, _, ⟨o, ho, _, hd⟩ => ⟨o, ho, fun v q => by rw [hd] at q; cases q⟩
  | .txt _, _, _, _, ⟨t, o, ho, _, hd⟩ => ⟨o, ho, fun v q => by rw [hd] at q; cases q⟩
end Src
/-- an address that the walk's own cells are not -/
def Fixed (X : Cx) (H : Hp) (b : Addr) : Prop := H b ≠ none ∨ ∃ o, X.base.get? b = some o
theorem fp_ne {X : Cx} {pins : List (Addr × Obj)} {H : Hp} {σ : St} {s : Shared} {e b : Addr} (I : Inv X pins σ H s) (f : FpOk X pins H e) (h : Fixed X H b) : e ≠ b := by
  intro z
  subst z
  rcases h with h | ⟨o, h⟩
  · exact h f.1
  · rcases f.2.2.2.1 with q | q
    · exact I.ok.noex _ _ h q
    · exact absurd (Nat.lt_of_lt_of_le (Heap.lt_size (I.ok.bs _ _ h).1) q) (Nat.lt_irrefl _)
theorem sqL_fixed {X : Cx} {pins : List (Addr × Obj)} {H : Hp} {σ : St} {s : Shared} {a : Addr} {xs : List V} (I : Inv X pins σ H s) (h : SqL X.K H a xs) : Fixed X H a := by
  rcases h with (h | ⟨o, h⟩) | ⟨o, its, n, h, _⟩
  · exact .inl (by rw [h]; simp)
  · exact .inl (by rw [h]; simp)
  · exact .inr ⟨o, I.ok.mod.kin a o h⟩
theorem sqT_fixed {X : Cx} {pins : List (Addr × Obj)} {H : Hp} {σ : St} {s : Shared} {a : Addr} {xs : List V} (I : Inv X pins σ H s) (h : SqT X.K H a xs) : Fixed X H a := by
  rcases h with (h | ⟨o, h⟩) | ⟨o, its, n, h, _⟩
  · exact .inl (by rw [h]; simp)
  · exact .inl (by rw [h]; simp)
  · exact .inr ⟨o, I.ok.mod.kin a o h⟩
/-- what its iterator draws -/
structure Drawn (X : Cx) (A : Around) (H : Hp) (s : Shared) (r : Src) (xs : List V) (it : Addr) (i : Nat) : Prop where
  ex : ∃ (fp : List Addr) (P : Nat → Value → Prop) (T : Nat → Heap → Prop), PySem.Draws X.prog X.w A it fp xs.length P T ∧ (r.at_ it i s.heap → T i s.heap) ∧ (∀ j h, T j h → r.at_ it j h) ∧ (∀ j v, P j v → ∃ x, xs[j]? = some x ∧ RelV x v) ∧
    it ∈ fp ∧ ∀ b ∈ fp, b = it ∨ Fixed X H b
theorem drawn {X : Cx} {A : Around} {pins : List (Addr × Obj)} {σ : St} {H : Hp} {s : Shared} {it : Addr} (i : Nat) (I : Inv X pins σ H s) (hA : A.handled = none) (f : FpOk X pins H it) : ∀ {r : Src} {xs : List V}, r.is X.K H xs → r.at_ it i s.heap → Drawn X A H s r xs it i
  | .lst a, xs, h, st => by
    obtain ⟨its, rv, p, hz⟩ := I.list h
    have hn : its.toArray.size = xs.length := by rw [List.size_toArray, rv.length]
    refine ⟨_, _, _, hn ▸ PySem.Draws.list hA it a (Ne.symm (fp_ne I f (sqL_fixed I h))) its.toArray, fun st => ⟨st, p.isList⟩, fun j h st => st.1, fun j v hv => ?_, by simp, fun b hb => ?_⟩
    · have hj : j < xs.length := by
        have := (Array.getElem?_eq_some_iff.mp hv).1
        rwa [hn] at this
      obtain ⟨u, hu, ru⟩ := rv.get (i := j) (x := xs[j]) (by simp [hj])
      have e : v = u := by
        have h1 : its.toArray[j]? = some v := hv
        rw [List.getElem?_toArray, hu] at h1
        exact (Option.some.inj h1).symm
      exact ⟨xs[j], by simp [hj], e ▸ ru⟩
    · have : b = it ∨ b = a := by simpa using hb
      rcases this with z | z
      · exact .inl z
      · exact .inr (by rw [z]; exact sqL_fixed I h)
  | .tup a, xs, h, st => by
    obtain ⟨its, rv, p, hz⟩ := I.tuple h
    have hn : its.toArray.size = xs.length := by rw [List.size_toArray, rv.length]
    refine ⟨_, _, _, hn ▸ PySem.Draws.tuple hA it a (Ne.symm (fp_ne I f (sqT_fixed I h))) its.toArray, fun st => ⟨st, p⟩, fun j h st => st.1, fun j v hv => ?_, by simp, fun b hb => ?_⟩
    · have hj : j < xs.length := by
        have := (Array.getElem?_eq_some_iff.mp hv).1
        rwa [hn] at this
      obtain ⟨u, hu, ru⟩ := rv.get (i := j) (x := xs[j]) (by simp [hj])
      have e : v = u := by
        have h1 : its.toArray[j]? = some v := hv
        rw [List.getElem?_toArray, hu] at h1
        exact (Option.some.inj h1).symm
      exact ⟨xs[j], by simp [hj], e ▸ ru⟩
    · have : b = it ∨ b = a := by simpa using hb
      rcases this with z | z
      · exact .inl z
      · exact .inr (by rw [z]; exact sqT_fixed I h)
  | .txt x, xs, h, ⟨t, st⟩ => by
    have e : xs = x.cps.toList.map fun c => V.str ⟨#[c]⟩ := h
    have hn : x.cps.size = xs.length := by rw [e, List.length_map, Array.length_toList]
    refine ⟨_, _, _, hn ▸ PySem.Draws.text hA it x t, fun _ => st, fun j h st => ⟨t, st⟩, fun j v ⟨c, u, hc, hv⟩ => ⟨.str ⟨#[c]⟩, ?_, u, hv⟩, by simp, fun b hb => .inl (by simpa using hb)⟩
    rw [e, List.getElem?_map, Array.getElem?_toList, hc]
    rfl
/-- its value stands for it; its iterator begins -/
def Src.ok (X : Cx) (H : Hp) (r : Src) : Prop := ∃ xs, r.is X.K H xs
theorem src_begins {X : Cx} {pins : List (Addr × Obj)} {σ : St} {H : Hp} {s : Shared} (I : Inv X pins σ H s) : ∀ {r : Src} {u : Value}, r.ok X H → RelV r.V u → ∃ (o : Obj) (G : Heap → Prop), PySem.Begins u o G ∧ G s.heap ∧ (∀ (it : Addr) (h : Heap), h.get? it = some o → r.at_ it 0 h) ∧ o.dict = none
  | .lst a, u, ⟨xs, h⟩, rv => by
    obtain rfl : u = Value.ref a := rv
    obtain ⟨its, _, p, _⟩ := I.list h
    exact ⟨_, _, PySem.begins_list a its.toArray, p.isList, fun it h e => ⟨_, e, rfl, rfl⟩, rfl⟩
  | .tup a, u, ⟨xs, h⟩, rv => by
    obtain rfl : u = Value.ref a := rv
    obtain ⟨its, _, p, _⟩ := I.tuple h
    exact ⟨_, _, PySem.begins_tuple a its.toArray, p, fun it h e => ⟨_, e, rfl, rfl⟩, rfl⟩
  | .txt x, u, _, ⟨t, e⟩ => by
    subst e
    exact ⟨_, _, PySem.begins_text x t, trivial, fun it h e => ⟨t, _, e, rfl, rfl⟩, rfl⟩
end VL

set_option Elab.async false
set_option linter.all false
set_option maxRecDepth 100000
set_option maxHeartbeats 4000000
/-! VLIter2: lists, tuples, texts walked; enumerate and zip of them; range. -/
namespace VL
open PySem PySem.Spec PyProof.Rows L2

theorem enum_new1 {v : Value} {o : Obj} {H : Heap → Prop} (B : Begins v o H) :
    Meets (Builtin.«enumerate.__new__» ⟨[.type "enumerate", v], []⟩) (fun _ R s => H s.heap ∧ R (.ok (.ret (.ref (s.heap.push o).objs.size)))
      { s with heap := (s.heap.push o).push { cls := .type "enumerate", data := .fields #[.none, .bool false, .ref s.heap.objs.size, rawInt 0, .none, .none] } }) :=
  .of_wp fun prog w A R s h => by
    obtain ⟨hp, g, d, tk, os⟩ := s
    obtain ⟨h1, h⟩ := h
    have hsub := sub_enumerate
    have q1 : ∀ {A' : Around} {E : Value → Shared → Prop} {Q : Value → Shared → Prop}, Q (.ref hp.objs.size) ⟨hp.push o, g, d, tk, os⟩ → wpAny (model prog w) A' (pyIter v) Q E ⟨hp, g, d, tk, os⟩ := fun q => B.iter prog w _ _ ⟨hp, g, d, tk, os⟩ _ h1 q
    wp_walk
    refine wpAny_stack_any fun st => wpAny_pure ?_
    split
    · rename_i c _ _ _ _ _
      cases (c == Value.type "enumerate")
      · wp_walk using q1
        exact ⟨_, rfl, h⟩
      · wp_walk using q1
        exact ⟨_, rfl, h⟩
    · wp_walk using q1
      exact ⟨_, rfl, h⟩
theorem enum_from {prog : Program} {w : World} {A : Around} {E : Value → Shared → Prop} {s : Shared} {v : Value} {o : Obj} {G : Heap → Prop} {Q : Value → Shared → Prop} (B : Begins v o G) (h1 : G s.heap)
    (h : ∀ h', IsEnum h' (s.heap.objs.size + 1) s.heap.objs.size 0 .none → h'.get? s.heap.objs.size = some o → (∀ b u, s.heap.get? b = some u → h'.get? b = some u) → Q (.ref (s.heap.objs.size + 1)) { s with heap := h' }) :
    wpAny (model prog w) A (call (.type "enumerate") [v]) Q E s := by
  refine callType_new F.called_enumerate (by decide) (F.typeCall_enumerate_1 _) (F.newCall_enumerate_1 _) (fun obj => F.args_object_init_2 obj _) F.entry_enumerate_new (enum_new1 B) ⟨h1, ?_⟩
  have hz : (s.heap.push o).objs.size = s.heap.objs.size + 1 := Heap.size_push ..
  show _ ∧ _
  rw [hz]
  have he : IsEnum ((s.heap.push o).push { cls := .type "enumerate", data := .fields #[.none, .bool false, .ref s.heap.objs.size, rawInt 0, .none, .none] }) (s.heap.objs.size + 1) s.heap.objs.size 0 .none := by
    have := Heap.get?_push_size (s.heap.push o) (o := { cls := .type "enumerate", data := .fields #[.none, .bool false, .ref s.heap.objs.size, rawInt 0, .none, .none] }) rfl
    rw [hz] at this; exact this
  exact ⟨⟨_, he, rfl⟩, h _ he (Heap.get?_push_of_some _ (Heap.get?_push_size _ B.free)) fun b u x => Heap.get?_push_of_some _ (Heap.get?_push_of_some _ x)⟩
theorem at_obj {r : Src} {it : Addr} {i : Nat} {h : Heap} (st : r.at_ it i h) : ∃ o, h.get? it = some o ∧ ∀ v, o.data ≠ .cell v := Src.there st
/-! ### any source -/
def ItA (K : PySem.W.Frag) : Src → It
  | .lst a => Itl K a
  | .tup a => Itt K a
  | .txt x => Its x
def iAny (K : PySem.W.Frag) (te : TE) : TI := fun σ H R => te σ H fun v H1 => ∃ (r : Src) (xs : List V), v = r.V ∧ r.is K H1 xs ∧ R (ItA K r) H1
theorem pi_any {X : Cx} {tg e : Expr} {te : TE} (he : PE X e te) : PI X tg e (iAny X.K te) := by
  refine ⟨fun pins s σ H R I h => ?_⟩
  refine thn (he.run pins s σ H _ I h) fun v s1 ⟨x, H1, I1, r1, q1⟩ => ?_
  obtain ⟨r, xs, e, hq, q⟩ := q1
  subst e
  cases r with
  | lst a =>
    cases r1
    obtain ⟨its, rv, p, hz⟩ := I1.list hq
    exact wpAny_pyIter_list p.isList (pi_one (tk := s1.toks) I1 _ (turn_list a _) ⟨_, Heap.get?_push_size _ rfl, rfl, rfl⟩ q)
  | tup a =>
    cases r1
    obtain ⟨its, rv, p, hz⟩ := I1.tuple hq
    exact wpAny_pyIter_tuple (show s1.heap.IsTuple a its.toArray from p) (pi_one (tk := s1.toks) I1 _ (turn_tuple a _) ⟨_, Heap.get?_push_size _ rfl, rfl, rfl⟩ q)
  | txt x =>
    obtain ⟨t, rfl⟩ := r1
    cases ha : x.cps.all (· < 128) with
    | true => exact wpAny_pyIter_ascii ha (pi_one (tk := s1.toks) I1 _ (turn_str _ x t "str_ascii_iterator" (.inl rfl)) ⟨_, Heap.get?_push_size _ rfl, rfl, rfl⟩ q)
    | false => exact wpAny_pyIter_wide ha (pi_one (tk := s1.toks) I1 _ (turn_str _ x t "str_iterator" (.inr rfl)) ⟨_, Heap.get?_push_size _ rfl, rfl, rfl⟩ q)
/-! ### enumerate -/
def ItE (K : PySem.W.Frag) (r : Src) : It :=
  ⟨fun i H => ∃ (xs : List V) (x : V), r.is K H xs ∧ xs[i]? = some x,
    fun i H v H' => ∃ T x, v = .ref T ∧ H T = none ∧ H' = upd H T (.tup [.int (i : Nat), x]) ∧ ∀ xs, r.is K H xs → xs[i]? = some x,
    fun i H => ∃ xs : List V, r.is K H xs ∧ xs.length = i⟩
theorem turn_enumS {P : Program} {w : World} {K : PySem.W.Frag} {elts : List Expr} {kk : Nat} {tpos : Pos} (r : Src) (e it : Addr) :
    Turn P w K (.Tuple elts kk tpos) (ItE K r) [e, it] e (fun i h => (∃ old, IsEnum h e it ((i : Nat) : Int) old) ∧ r.at_ it i h ∧ e ≠ it) where
  mem := by simp
  obj := fun i h st b hb => by
    obtain ⟨⟨old, he⟩, hi, _⟩ := st
    have e' : b = e ∨ b = it := by simpa using hb
    rcases e' with z | z
    · rw [z]; exact ⟨_, he, fun v q => nomatch q⟩
    · rw [z]; exact at_obj hi
  keep := fun i h h' ⟨⟨old, he⟩, hi, hne⟩ k => ⟨⟨old, k e (by simp) _ he⟩, Src.keep hi fun o q => k it (by simp) o q, hne⟩
  item := by
    intro X hP hw hK hc i pins s σ H E I hf st hg
    subst hP hw hK
    obtain ⟨⟨old, he⟩, hit, hne⟩ := st
    obtain ⟨xs, x, hq, hx⟩ := hg
    have fe := hf e (by simp)
    have fi := hf it (by simp)
    obtain ⟨fp, Pv, T, D, inT, ofT, hPv, mem, fix⟩ := (drawn (A := X.A.in1) i I (I.ok.hd hc) fi hq hit).ex
    have nfp : e ∉ fp := fun hb => by
      rcases fix e hb with z | z
      · exact hne z
      · exact fp_ne I fe z rfl
    have hel : e < s.heap.objs.size := Heap.lt_size he
    have hil : it < s.heap.objs.size := by obtain ⟨o, q, _⟩ := at_obj hit; exact Heap.lt_size q
    have hlt : i < xs.length := (List.getElem?_eq_some_iff.mp hx).1
    refine wpAny_pyNext_enum_itemD D he (inT hit) hlt hne nfp fun u h' tk hu ho hit' hT hsz hk => ?_
    obtain ⟨x', hx', ru⟩ := hPv i u hu
    obtain rfl : x' = x := by rw [hx] at hx'; exact (Option.some.inj hx').symm
    refine ⟨_, rfl, wpAny_letOwnedTupleGo_enum (s := { s with heap := h', toks := tk + 1 }) ho fun h'' he' sb => ?_⟩
    have hT2 : h''.get? s.heap.objs.size = some { cls := .type "tuple", data := .seq #[.int i tk, u] } := (sb.2 _ (Nat.ne_of_gt hel)).trans hT
    have new : ObjOk X.prog X.w (upd H s.heap.objs.size (.tup [.int (i : Nat), x'])) h'' s.heap.objs.size (.tup [.int (i : Nat), x']) :=
      ⟨by show 2 ≤ sizeLine; decide, [.int i tk, u], .cons ⟨_, rfl⟩ (.cons ru .nil), ⟨_, hT2, rfl, _, rfl⟩⟩
    have I1 : Inv X pins σ (upd H s.heap.objs.size (.tup [.int (i : Nat), x'])) { s with heap := h'', toks := tk + 1 } :=
      I.turnedNew (ch := [e, it]) (fun b ob hb q => (sb.2 b (fun z => hb (by simp [z]))).trans (hk b ob (fun z => hb (by simp [z])) (fun z => hb (by simp [z])) q)) hf (Nat.le_refl _) new
    refine ⟨.ref s.heap.objs.size, _, I1, rfl, ⟨_, x', rfl, I.hok.fresh (Nat.le_refl _), rfl, fun ys hy => by rw [Src.inj I hy hq]; exact hx⟩, ⟨⟨u, ?_⟩, Src.keep (ofT _ _ hit') fun o q => (sb.2 it (Ne.symm hne)).trans q, hne⟩, fun b hb => ?_⟩
    · have e1 : ((i + 1 : Nat) : Int) = (i : Int) + 1 := by omega
      rw [e1]; exact he'
    · have hb' : b < s.heap.objs.size := by
        have e' : b = e ∨ b = it := by simpa using hb
        rcases e' with z | z
        · rw [z]; exact hel
        · rw [z]; exact hil
      rw [upd_ne (Nat.ne_of_lt hb')]
      exact (hf b hb).1
  done := by
    intro X hP hw hK hc i pins s σ H E I hf st hg
    subst hP hw hK
    obtain ⟨⟨old, he⟩, hit, hne⟩ := st
    obtain ⟨xs, hq, hx⟩ := hg
    subst hx
    have fi := hf it (by simp)
    obtain ⟨fp, Pv, T, D, inT, ofT, hPv, mem, fix⟩ := (drawn (A := X.A.in1) xs.length I (I.ok.hd hc) fi hq hit).ex
    obtain ⟨f0, f1, f2, f3, f4, f5⟩ := fi
    exact wpAny_pyNext_enum_endD D he (inT hit) fun h' eb => ⟨rfl, I.turned (t' := s.toks) (fun b o hb q => eb b o hb q) f0 f1 f3 f4 f5⟩
  self := fun A i s Q E ⟨⟨_, he⟩, _⟩ h => wpAny_pyIter_enum he h
def iEnumA (K : PySem.W.Frag) (ta : TA) : TI := fun σ H R => ta σ H fun vs H1 => ∃ (r : Src) (xs : List V), vs = [r.V] ∧ r.is K H1 xs ∧ R (ItE K r) H1
theorem pi_enumA {X : Cx} {e : Expr} {ta : TA} {p pos tpos : Pos} {elts : List Expr} {kk : Nat} (hg : Gl X "enumerate") (hm : X.mg "enumerate" = none) (ha : PA X [e] ta) (hs : starEach [e] X.env = [(false, eval e X.env)] := by rfl) :
    PI X (.Tuple elts kk tpos) (.Call (.Name "enumerate" p) [e] [] pos) (iEnumA X.K ta) := by
  refine ⟨fun pins s σ H R I h => ?_⟩
  refine Call_ (ld_blt I hg hm boot_enumerate (PyProof.Rows.callWith_type1 (thn (ha.run pos pins s σ H _ I h) fun us s1 ⟨vs, H1, I1, r1, q1⟩ => ?_) hs rfl))
  obtain ⟨r, xs, ex, hq, q⟩ := q1
  subst ex
  cases r1 with
  | cons rv rr =>
    cases rr
    obtain ⟨o, G, B, hG, hst, hd⟩ := src_begins I1 (r := r) ⟨xs, hq⟩ rv
    refine enum_from B hG fun h' he hit hk => wpAny_pyIter_enum he ?_
    have I2 : Inv X pins σ H1 { s1 with heap := h' } := I1.kept (t' := s1.toks) hk
    refine ⟨s1.heap.objs.size + 1, [s1.heap.objs.size + 1, s1.heap.objs.size], _, _, H1, rfl, I2, turn_enumS r (s1.heap.objs.size + 1) s1.heap.objs.size, ⟨⟨.none, he⟩, hst _ _ hit, Nat.succ_ne_self _⟩, fun b hb => ?_, q⟩
    have e' : b = s1.heap.objs.size + 1 ∨ b = s1.heap.objs.size := by simpa using hb
    have hle : s1.heap.objs.size ≤ b := by
      rcases e' with z | z
      · rw [z]; exact Nat.le_add_right _ _
      · rw [z]; exact Nat.le_refl _
    exact I1.fpOk hle (I1.hok.fresh hle)
/-! ### zip of two -/
def ItZ (K : PySem.W.Frag) (r1 r2 : Src) : It :=
  ⟨fun i H => ∃ (xs ys : List V) (x y : V), r1.is K H xs ∧ r2.is K H ys ∧ xs[i]? = some x ∧ ys[i]? = some y,
    fun i H v H' => ∃ T x y, v = .ref T ∧ H T = none ∧ H' = upd H T (.tup [x, y]) ∧ (∀ xs, r1.is K H xs → xs[i]? = some x) ∧ ∀ ys, r2.is K H ys → ys[i]? = some y,
    fun i H => ∃ xs ys : List V, r1.is K H xs ∧ r2.is K H ys ∧ i ≤ xs.length ∧ i ≤ ys.length ∧ (i = xs.length ∨ i = ys.length)⟩
/-- the five cells stand apart -/
structure Five (z TI TO i1 i2 : Addr) : Prop where
  a : TI ≠ z
  b : TO ≠ z
  c : TI ≠ TO
  d : TI ≠ i1
  e : TI ≠ i2
  f : z ≠ i1
  g : z ≠ i2
  h : TO ≠ i1
  i : TO ≠ i2
  j : i1 ≠ i2
theorem turn_zipS {P : Program} {w : World} {K : PySem.W.Frag} {elts : List Expr} {kk : Nat} {tpos : Pos} {r1 r2 : Src} {z TI TO i1 i2 : Addr} (A5 : Five z TI TO i1 i2) :
    Turn P w K (.Tuple elts kk tpos) (ItZ K r1 r2) [z, TI, TO, i1, i2] z (fun i h => IsZip h z TI TO .none ∧ IsTupOf2 h TI (.ref i1) (.ref i2) ∧ (∃ x y, IsTupOf2 h TO x y) ∧ r1.at_ i1 i h ∧ r2.at_ i2 i h) where
  mem := by simp
  obj := fun i h st c hc => by
    obtain ⟨hz, hTI, ⟨x, y, hTO⟩, h1, h2⟩ := st
    have e' : c = z ∨ c = TI ∨ c = TO ∨ c = i1 ∨ c = i2 := by simpa using hc
    rcases e' with q | q | q | q | q
    · rw [q]; exact ⟨_, hz, fun v q => nomatch q⟩
    · rw [q]; exact ⟨_, hTI, fun v q => nomatch q⟩
    · rw [q]; exact ⟨_, hTO, fun v q => nomatch q⟩
    · rw [q]; exact at_obj h1
    · rw [q]; exact at_obj h2
  keep := fun i h h' st k => by
    obtain ⟨hz, hTI, ⟨x, y, hTO⟩, h1, h2⟩ := st
    exact ⟨k z (by simp) _ hz, k TI (by simp) _ hTI, ⟨x, y, k TO (by simp) _ hTO⟩, Src.keep h1 fun o q => k i1 (by simp) o q, Src.keep h2 fun o q => k i2 (by simp) o q⟩
  item := by
    intro X hP hw hK hc i pins s σ H E I hf st hg
    subst hP hw hK
    obtain ⟨hz, hTI, ⟨x0, y0, hTO⟩, h1, h2⟩ := st
    obtain ⟨xs, ys, x, y, hqx, hqy, hx, hy⟩ := hg
    have f1 := hf i1 (by simp)
    have f2 := hf i2 (by simp)
    have fz := hf z (by simp)
    have fO := hf TO (by simp)
    obtain ⟨fp1, P1, T1, D1, in1, of1, hP1, mem1, fix1⟩ := (drawn (A := X.A.in1) i I (I.ok.hd hc) f1 hqx h1).ex
    obtain ⟨fp2, P2, T2, D2, in2, of2, hP2, mem2, fix2⟩ := (drawn (A := X.A.in1) i I (I.ok.hd hc) f2 hqy h2).ex
    have out1 : ∀ {b}, FpOk X pins H b → b ≠ i1 → b ∉ fp1 := fun {b} fb nb hb => by
      rcases fix1 b hb with q | q
      · exact nb q
      · exact fp_ne I fb q rfl
    have out2 : ∀ {b}, FpOk X pins H b → b ≠ i2 → b ∉ fp2 := fun {b} fb nb hb => by
      rcases fix2 b hb with q | q
      · exact nb q
      · exact fp_ne I fb q rfl
    have S : ZipSep2 z TI TO i1 i2 fp1 fp2 := ⟨A5.a, A5.b, A5.c, A5.d, mem1, out1 fz A5.f, out1 fO A5.h, A5.e, mem2, out2 fz A5.g, out2 fO A5.i, out2 f1 A5.j, out1 f2 (Ne.symm A5.j)⟩
    have hzl : z < s.heap.objs.size := Heap.lt_size hz
    refine wpAny_pyNext_zipD2_item S D1 D2 hz hTI hTO (in1 h1) (in2 h2) (List.getElem?_eq_some_iff.mp hx).1 (List.getElem?_eq_some_iff.mp hy).1 fun u u2 h' tk hu hu2 z' TO' h1' h2' hT hsz hk => ?_
    obtain ⟨x', hx', ru⟩ := hP1 i u hu
    obtain ⟨y', hy', ru2⟩ := hP2 i u2 hu2
    obtain rfl : x' = x := by rw [hx] at hx'; exact (Option.some.inj hx').symm
    obtain rfl : y' = y := by rw [hy] at hy'; exact (Option.some.inj hy').symm
    refine ⟨_, rfl, wpAny_letOwnedTupleGo_zip (s := { s with heap := h', toks := tk }) z' fun h'' z'' sb => ?_⟩
    have hT2 : h''.get? s.heap.objs.size = some { cls := .type "tuple", data := .seq #[u, u2] } := (sb.2 _ (Nat.ne_of_gt hzl)).trans hT
    have new : ObjOk X.prog X.w (upd H s.heap.objs.size (.tup [x', y'])) h'' s.heap.objs.size (.tup [x', y']) :=
      ⟨by show 2 ≤ sizeLine; decide, [u, u2], .cons ru (.cons ru2 .nil), ⟨_, hT2, rfl, _, rfl⟩⟩
    have I1 : Inv X pins σ (upd H s.heap.objs.size (.tup [x', y'])) { s with heap := h'', toks := tk } :=
      I.turnedNew (ch := [z, TI, TO, i1, i2]) (fun c o hb q => (sb.2 c (fun q' => hb (by simp [q']))).trans (hk c o (fun q' => hb (by simp [q'])) (fun q' => hb (by simp [q'])) (fun q' => hb (by simp [q'])) (fun q' => hb (by simp [q'])) q)) hf (Nat.le_refl _) new
    refine ⟨.ref s.heap.objs.size, _, I1, rfl, ⟨_, x', y', rfl, I.hok.fresh (Nat.le_refl _), rfl, fun l hl => by rw [Src.inj I hl hqx]; exact hx, fun l hl => by rw [Src.inj I hl hqy]; exact hy⟩, ⟨z'', ?_, ⟨u, u2, ?_⟩, ?_, ?_⟩, fun c hcm => ?_⟩
    · exact (sb.2 _ A5.a).trans (hk _ _ A5.a A5.c A5.d A5.e hTI)
    · exact (sb.2 _ A5.b).trans TO'
    · exact Src.keep (of1 _ _ h1') fun o q => (sb.2 _ (Ne.symm A5.f)).trans q
    · exact Src.keep (of2 _ _ h2') fun o q => (sb.2 _ (Ne.symm A5.g)).trans q
    · have hlt : c < s.heap.objs.size := by
        have e' : c = z ∨ c = TI ∨ c = TO ∨ c = i1 ∨ c = i2 := by simpa using hcm
        rcases e' with q | q | q | q | q
        · rw [q]; exact hzl
        · rw [q]; exact Heap.lt_size hTI
        · rw [q]; exact Heap.lt_size hTO
        · rw [q]; obtain ⟨_, e1, _⟩ := at_obj h1; exact Heap.lt_size e1
        · rw [q]; obtain ⟨_, e1, _⟩ := at_obj h2; exact Heap.lt_size e1
      rw [upd_ne (Nat.ne_of_lt hlt)]
      exact (hf c hcm).1
  done := by
    intro X hP hw hK hc i pins s σ H E I hf st hg
    subst hP hw hK
    obtain ⟨hz, hTI, ⟨x0, y0, hTO⟩, h1, h2⟩ := st
    obtain ⟨xs, ys, hqx, hqy, l1, l2, hend⟩ := hg
    have f1 := hf i1 (by simp)
    have f2 := hf i2 (by simp)
    have fz := hf z (by simp)
    have fO := hf TO (by simp)
    obtain ⟨fp1, P1, T1, D1, in1, of1, hP1, mem1, fix1⟩ := (drawn (A := X.A.in1) i I (I.ok.hd hc) f1 hqx h1).ex
    obtain ⟨fp2, P2, T2, D2, in2, of2, hP2, mem2, fix2⟩ := (drawn (A := X.A.in1) i I (I.ok.hd hc) f2 hqy h2).ex
    have out1 : ∀ {b}, FpOk X pins H b → b ≠ i1 → b ∉ fp1 := fun {b} fb nb hb => by
      rcases fix1 b hb with q | q
      · exact nb q
      · exact fp_ne I fb q rfl
    have out2 : ∀ {b}, FpOk X pins H b → b ≠ i2 → b ∉ fp2 := fun {b} fb nb hb => by
      rcases fix2 b hb with q | q
      · exact nb q
      · exact fp_ne I fb q rfl
    have S : ZipSep2 z TI TO i1 i2 fp1 fp2 := ⟨A5.a, A5.b, A5.c, A5.d, mem1, out1 fz A5.f, out1 fO A5.h, A5.e, mem2, out2 fz A5.g, out2 fO A5.i, out2 f1 A5.j, out1 f2 (Ne.symm A5.j)⟩
    exact wpAny_pyNext_zipD2_end S D1 D2 hz hTI hTO (in1 h1) (in2 h2) l1 l2 hend fun h' tk hk => ⟨rfl, I.turnedL (t' := tk) (ch := [z, TI, TO, i1, i2]) (fun c o hb q =>
      hk c o (fun q' => hb (by simp [q'])) (fun q' => hb (by simp [q'])) (fun q' => hb (by simp [q'])) (fun q' => hb (by simp [q'])) q) hf⟩
  self := fun A i s Q E st h => wpAny_pyIter_zip st.1 h
def iZipA (K : PySem.W.Frag) (ta : TA) : TI := fun σ H R => ta σ H fun vs H1 => ∃ (r1 r2 : Src) (xs ys : List V), vs = [r1.V, r2.V] ∧ r1.is K H1 xs ∧ r2.is K H1 ys ∧ R (ItZ K r1 r2) H1
theorem pi_zipA {X : Cx} {e e2 : Expr} {ta : TA} {p pos tpos : Pos} {elts : List Expr} {kk : Nat} (hg : Gl X "zip") (hm : X.mg "zip" = none) (ha : PA X [e, e2] ta)
    (hs : starEach [e, e2] X.env = (false, eval e X.env) :: starEach [e2] X.env := by rfl) (hpl : (backTo pos (starEach [e2] X.env)).any (·.1) = false := by rfl) :
    PI X (.Tuple elts kk tpos) (.Call (.Name "zip" p) [e, e2] [] pos) (iZipA X.K ta) := by
  refine ⟨fun pins s σ H R I h => ?_⟩
  refine Call_ (ld_blt I hg hm PyProof.Rows.boot_zip (PyProof.Rows.callWith_type1 (thn (ha.run pos pins s σ H _ I h) fun us s1 ⟨vs, H1, I1, r1, q1⟩ => ?_) hs hpl))
  obtain ⟨s1', s2', xs, ys, ex, hqx, hqy, q⟩ := q1
  subst ex
  cases r1 with
  | cons r rr =>
    cases rr with
    | cons r' rr =>
      cases rr
      obtain ⟨o1, G1, B1, hG1, hst1, hd1⟩ := src_begins I1 (r := s1') ⟨xs, hqx⟩ r
      obtain ⟨o2, G2, B2, hG2, hst2, hd2⟩ := src_begins I1 (r := s2') ⟨ys, hqy⟩ r'
      refine zip_begins2 B1 B2 hG1 hG2 fun h' hz hTI hTO h1 h2 hsz hk => wpAny_pyIter_zip hz ?_
      have I2 : Inv X pins σ H1 { s1 with heap := h' } := I1.kept (t' := s1.toks) hk
      generalize hn : s1.heap.objs.size = n at *
      refine ⟨n + 4, [n + 4, n + 2, n + 3, n, n + 1], _, _, H1, rfl, I2, turn_zipS ⟨?_, ?_, ?_, ?_, ?_, ?_, ?_, ?_, ?_, ?_⟩, ⟨hz, hTI, ⟨_, _, hTO⟩, hst1 _ _ h1, hst2 _ _ h2⟩, fun c hcm => ?_, q⟩
      iterate 10 (show (_ : Nat) ≠ _; omega)
      have e' : c = n + 4 ∨ c = n + 2 ∨ c = n + 3 ∨ c = n ∨ c = n + 1 := by simpa using hcm
      have hle : n ≤ c := by
        rcases e' with z | z | z | z | z
        · rw [z]; exact Nat.le_add_right _ _
        · rw [z]; exact Nat.le_add_right _ _
        · rw [z]; exact Nat.le_add_right _ _
        · rw [z]; exact Nat.le_refl _
        · rw [z]; exact Nat.le_add_right _ _
      rw [← hn] at hle
      exact I1.fpOk hle (I1.hok.fresh hle)
end VL

set_option Elab.async false
set_option linter.all false
set_option maxRecDepth 100000
set_option maxHeartbeats 4000000
/-! VLIter3: walks by data. -/
namespace VL
open PySem PySem.Spec L2

@[simp] def srcD : PyData → Option (List PyData)
  | .list ds => some ds
  | .tuple ds => some ds
  | .str x => some (x.cps.toList.map fun c => .str ⟨#[c]⟩)
  | _ => none
theorem rl_chars {K : PySem.W.Frag} {F : Hp} : ∀ l : List Nat, RL K F (l.map fun c => V.str ⟨#[c]⟩) (l.map fun c => PyData.str ⟨#[c]⟩)
  | [] => .nil
  | c :: l => .cons (.str _ (by show (1 : Nat) ≤ sizeLine; decide)) (rl_chars l)
theorem src_sh {K : PySem.W.Frag} {F : Hp} {v : V} {d : PyData} {ds : List PyData} (r : R K F v d) (e : srcD d = some ds) :
    ∃ (s : Src) (xs : List V), v = s.V ∧ (∀ H, Same F H → s.is K H xs) ∧ RL K F xs ds ∧ ds.length ≤ sizeLine := by
  cases r with
  | lst q l r => cases e; exact ⟨.lst _, _, rfl, fun H s => SqL.of (s _ _ q), r, l⟩
  | tup q l r => cases e; exact ⟨.tup _, _, rfl, fun H s => sqT_mono s q, r, l⟩
  | str x l =>
    cases e
    exact ⟨.txt x, _, rfl, fun H s => rfl, rl_chars _, by rw [List.length_map, Array.length_toList]; exact l⟩
  | _ => cases e
section
variable {C : Cfg}
theorem src_rp {F H : Hp} {v : V} {d : PyData} {ds : List PyData} (g : Good C F H) (r : RP C F H v d) (e : srcD d = some ds) :
    ∃ (s : Src) (xs : List V), v = s.V ∧ (∀ F2 H2, Ext C F H F2 H2 → s.is C.K H2 xs) ∧ RL C.K F xs ds ∧ ds.length ≤ sizeLine := by
  rcases r with r | ⟨a, q, n, c⟩
  · obtain ⟨s, xs, h1, h2, h3, h4⟩ := src_sh r e
    exact ⟨s, xs, h1, fun F2 H2 x => h2 H2 (x.ff.trans x.g.fh), h3, h4⟩
  · subst q
    cases d with
    | list es =>
      cases e
      obtain ⟨vs, q, l, r⟩ := c
      exact ⟨.lst a, vs, rfl, fun F2 H2 x => SqL.of (x.hh a _ q n), r, l⟩
    | dict es => cases e
    | _ => exact c.elim
theorem itA_ok {F0 : Hp} {r : Src} {xs : List V} {ds : List PyData} (rl : RL C.K F0 xs ds) : ItOk C F0 (fun H => r.is C.K H xs) (ItA C.K r) ds := by
  have hl := rl.length
  have get : ∀ i, i < ds.length → ∃ x, xs[i]? = some x := fun i h => ⟨xs[i]'(by omega), by simp [show i < xs.length by omega]⟩
  have yl : ∀ (i : Nat) F H x d, ds[i]? = some d → Good C F H → Same F0 F → xs[i]? = some x → ∃ F', Ext C F H F' H ∧ R C.K F' x d := fun i F H x d hd g s hx => by
    obtain ⟨d', h1, h2⟩ := rl.get hx
    rw [hd] at h1; cases h1
    exact ⟨F, .refl g, h2.mono s⟩
  cases r with
  | lst a =>
    refine ⟨fun i H h g => ?_, fun H g => ⟨xs, g, by omega⟩, fun i F H x H' d hd g gd s hy => ?_⟩
    · obtain ⟨x, hx⟩ := get i h
      exact ⟨xs, x, g, hx⟩
    · obtain ⟨e, hy⟩ := hy
      subst e
      exact yl i F _ x d hd gd s (hy xs g)
  | tup a =>
    refine ⟨fun i H h g => ?_, fun H g => ⟨xs, g, by omega⟩, fun i F H x H' d hd g gd s hy => ?_⟩
    · obtain ⟨x, hx⟩ := get i h
      exact ⟨xs, x, g, hx⟩
    · obtain ⟨e, hy⟩ := hy
      subst e
      exact yl i F _ x d hd gd s (hy xs g)
  | txt t =>
    refine ⟨fun i H h g => ?_, fun H g => ?_, fun i F H x H' d hd g gd s hy => ?_⟩
    · have e : xs = t.cps.toList.map fun c => V.str ⟨#[c]⟩ := g
      have hn : xs.length = t.cps.size := by rw [e, List.length_map, Array.length_toList]
      show i < t.cps.size
      omega
    · have e : xs = t.cps.toList.map fun c => V.str ⟨#[c]⟩ := g
      have hn : xs.length = t.cps.size := by rw [e, List.length_map, Array.length_toList]
      show t.cps.size ≤ ds.length
      omega
    · obtain ⟨e, c, hc, hx⟩ := hy
      subst e hx
      have e : xs = t.cps.toList.map fun c => V.str ⟨#[c]⟩ := g
      exact yl i F _ _ d hd gd s (by rw [e, List.getElem?_map, Array.getElem?_toList, hc]; rfl)
theorem is_get {r : Src} {xs : List V} {i : Nat} {x : V} {H : Hp} (g : r.is C.K H xs) (h : ∀ ys, r.is C.K H ys → ys[i]? = some x) : xs[i]? = some x := h xs g
def enumD (ds : List PyData) : List PyData := ds.mapIdx fun i d => .tuple [.int (i : Nat), d]
def zipD (ds es : List PyData) : List PyData := List.zipWith (fun a b => .tuple [a, b]) ds es
theorem pair_new {F H : Hp} {T : Addr} {v w : V} {d e : PyData} (g : Good C F H) (hT : H T = none) (h1 : R C.K F v d) (h2 : R C.K F w e) : ∃ F', Ext C F H F' (upd H T (.tup [v, w])) ∧ R C.K F' (.ref T) (.tuple [d, e]) := by
  have n := Ext.new g hT (.tup [v, w])
  exact ⟨_, n, .tup (SqT.of upd_same) (by show (2 : Nat) ≤ sizeLine; decide) (.cons (h1.mono n.ff) (.cons (h2.mono n.ff) .nil))⟩
theorem itE_ok {F0 : Hp} {r : Src} {xs : List V} {ds : List PyData} (rl : RL C.K F0 xs ds) : ItOk C F0 (fun H => r.is C.K H xs) (ItE C.K r) (enumD ds) := by
  have hl := rl.length
  have hn : (enumD ds).length = ds.length := by unfold enumD; simp
  refine ⟨fun i H h g => ⟨xs, xs[i]'(by omega), g, by simp [show i < xs.length by omega]⟩, fun H g => ⟨xs, g, by omega⟩, fun i F H x H' d hd g gd s hy => ?_⟩
  obtain ⟨T, y, e1, e2, e3, e4⟩ := hy
  subst e1 e3
  have hx := e4 xs g
  obtain ⟨d', h1, h2⟩ := rl.get hx
  unfold enumD at hd
  rw [List.getElem?_mapIdx, h1] at hd
  cases hd
  exact pair_new gd e2 (.int i) (h2.mono s)
theorem itZ_ok {F0 : Hp} {r1 r2 : Src} {xs ys : List V} {ds es : List PyData} (rl : RL C.K F0 xs ds) (rm : RL C.K F0 ys es) :
    ItOk C F0 (fun H => r1.is C.K H xs ∧ r2.is C.K H ys) (ItZ C.K r1 r2) (zipD ds es) := by
  have hl := rl.length
  have hm := rm.length
  have hn : (zipD ds es).length = min ds.length es.length := by unfold zipD; simp
  refine ⟨fun i H h g => ⟨xs, ys, xs[i]'(by omega), ys[i]'(by omega), g.1, g.2, by simp [show i < xs.length by omega], by simp [show i < ys.length by omega]⟩, fun H g => ⟨xs, ys, g.1, g.2, by omega, by omega, by omega⟩, fun i F H x H' d hd g gd s hy => ?_⟩
  obtain ⟨T, y, z, e1, e2, e3, e4, e5⟩ := hy
  subst e1 e3
  obtain ⟨d1, h1, h2⟩ := rl.get (e4 xs g.1)
  obtain ⟨d2, h3, h4⟩ := rm.get (e5 ys g.2)
  unfold zipD at hd
  rw [List.getElem?_zipWith, h1, h3] at hd
  cases hd
  exact pair_new gd e2 (h2.mono s) (h4.mono s)
def rngD (lo : Int) (n : Nat) : List PyData := (List.range n).map fun (i : Nat) => .int (lo + i)
theorem itR_ok {F0 : Hp} (lo : Int) (n : Nat) : ItOk C F0 (fun _ => True) (Itr lo n) (rngD lo n) := by
  have hn : (rngD lo n).length = n := by unfold rngD; simp
  refine ⟨fun i H h g => by show i < n; omega, fun H g => by show n ≤ _; omega, fun i F H x H' d hd g gd s hy => ?_⟩
  obtain ⟨e1, e2⟩ := hy
  subst e1 e2
  refine ⟨F, .refl gd, ?_⟩
  unfold rngD at hd
  rw [List.getElem?_map] at hd
  have hi : i < n := by
    apply Decidable.byContradiction
    intro h
    rw [List.getElem?_eq_none (by simp; omega)] at hd
    cases hd
  rw [List.getElem?_range hi] at hd
  cases hd
  exact .int _

/-! ### the walks' rules -/
@[simp] def dIt (t : DE) : DL := fun ρ Q => t ρ fun d => match srcD d with
  | some ds => Q ds
  | none => False
theorem simI_any {th : TE} {t : DE} (h : SimE C th t) : SimI C (iAny C.K th) (dIt t) := by
  intro H0 F H σ ρ Qd Q g S ht k
  refine h H0 F H σ ρ _ _ g S ht fun v F1 H1 d x1 r1 q1 => ?_
  split at q1
  · rename_i ds e
    obtain ⟨s, xs, e1, e2, e3, e4⟩ := src_sh r1 e
    exact ⟨s, xs, e1, e2 _ x1.g.fh, k _ F1 H1 ds _ x1 (itA_ok e3) e2 e4 q1⟩
  · exact q1.elim
theorem simIP_any {th : TE} {t : DE} (h : SimP C th t) : SimIP C (iAny C.K th) (dIt t) := by
  intro H0 F H σ ρ Qd Q g S ht k
  refine h H0 F H σ ρ _ _ g S ht fun v F1 H1 d x1 r1 q1 => ?_
  split at q1
  · rename_i ds e
    obtain ⟨s, xs, e1, e2, e3, e4⟩ := src_rp x1.g r1 e
    exact ⟨s, xs, e1, e2 _ _ (.refl x1.g), k _ F1 H1 ds _ x1 (itA_ok e3) e2 e4 q1⟩
  · exact q1.elim
@[simp] def dEnum (l : DL) : DL := fun ρ Q => l ρ fun as => match as with
  | [d] => (match srcD d with
    | some ds => Q (enumD ds)
    | none => False)
  | _ => False
theorem enum_len {ds : List PyData} : (enumD ds).length = ds.length := by unfold enumD; simp
theorem zip_len {ds es : List PyData} : (zipD ds es).length ≤ ds.length := by unfold zipD; simp; omega
theorem simI_enum {th : TA} {l : DL} (h : SimL C th l) : SimI C (iEnumA C.K th) (dEnum l) := by
  intro H0 F H σ ρ Qd Q g S ht k
  refine h H0 F H σ ρ _ _ g S ht fun vs F1 H1 as x1 r1 q1 => ?_
  split at q1
  · rename_i d
    split at q1
    · rename_i ds e
      cases r1 with
      | cons r1 rr =>
        cases rr
        obtain ⟨s, xs, e1, e2, e3, e4⟩ := src_sh r1 e
        subst e1
        exact ⟨s, xs, rfl, e2 _ x1.g.fh, k _ F1 H1 _ _ x1 (itE_ok e3) e2 (by rw [enum_len]; exact e4) q1⟩
    · exact q1.elim
  · exact q1.elim
theorem simIP_enum {th : TA} {l : DL} (h : SimLP C th l) : SimIP C (iEnumA C.K th) (dEnum l) := by
  intro H0 F H σ ρ Qd Q g S ht k
  refine h H0 F H σ ρ _ _ g S ht fun vs F1 H1 as x1 r1 q1 => ?_
  split at q1
  · rename_i d
    split at q1
    · rename_i ds e
      cases r1 with
      | cons r1 rr =>
        cases rr
        obtain ⟨s, xs, e1, e2, e3, e4⟩ := src_rp x1.g r1 e
        subst e1
        exact ⟨s, xs, rfl, e2 _ _ (.refl x1.g), k _ F1 H1 _ _ x1 (itE_ok e3) e2 (by rw [enum_len]; exact e4) q1⟩
    · exact q1.elim
  · exact q1.elim
@[simp] def dZip (l : DL) : DL := fun ρ Q => l ρ fun as => match as with
  | [d, d'] => (match srcD d, srcD d' with
    | some ds, some es => Q (zipD ds es)
    | _, _ => False)
  | _ => False
theorem simI_zip {th : TA} {l : DL} (h : SimL C th l) : SimI C (iZipA C.K th) (dZip l) := by
  intro H0 F H σ ρ Qd Q g S ht k
  refine h H0 F H σ ρ _ _ g S ht fun vs F1 H1 as x1 r1 q1 => ?_
  split at q1
  · rename_i d d'
    split at q1
    · rename_i ds es e e'
      cases r1 with
      | cons r1 rr =>
        cases rr with
        | cons r2 rr =>
          cases rr
          obtain ⟨s, xs, e1, e2, e3, e4⟩ := src_sh r1 e
          obtain ⟨s', ys, f1, f2, f3, f4⟩ := src_sh r2 e'
          subst e1 f1
          exact ⟨s, s', xs, ys, rfl, e2 _ x1.g.fh, f2 _ x1.g.fh, k _ F1 H1 _ _ x1 (itZ_ok e3 f3) (fun H s => ⟨e2 H s, f2 H s⟩) (Nat.le_trans zip_len e4) q1⟩
    · exact q1.elim
  · exact q1.elim
theorem simIP_zip {th : TA} {l : DL} (h : SimLP C th l) : SimIP C (iZipA C.K th) (dZip l) := by
  intro H0 F H σ ρ Qd Q g S ht k
  refine h H0 F H σ ρ _ _ g S ht fun vs F1 H1 as x1 r1 q1 => ?_
  split at q1
  · rename_i d d'
    split at q1
    · rename_i ds es e e'
      cases r1 with
      | cons r1 rr =>
        cases rr with
        | cons r2 rr =>
          cases rr
          obtain ⟨s, xs, e1, e2, e3, e4⟩ := src_rp x1.g r1 e
          obtain ⟨s', ys, f1, f2, f3, f4⟩ := src_rp x1.g r2 e'
          subst e1 f1
          exact ⟨s, s', xs, ys, rfl, e2 _ _ (.refl x1.g), f2 _ _ (.refl x1.g), k _ F1 H1 _ _ x1 (itZ_ok e3 f3) (fun F2 H2 y => ⟨e2 F2 H2 y, f2 F2 H2 y⟩) (Nat.le_trans zip_len e4) q1⟩
    · exact q1.elim
  · exact q1.elim
@[simp] def intD : PyData → Option Int
  | .int i => some i
  | _ => none
theorem rp_intD {F H : Hp} {v : V} {d : PyData} {i : Int} (r : RP C F H v d) (e : intD d = some i) : v = .int i := by
  cases d with
  | int j =>
    cases e
    rcases r with r | ⟨a, _, _, c⟩
    · cases r; rfl
    · exact c.elim
  | _ => cases e
@[simp] def dRng1 (l : DL) : DL := fun ρ Q => l ρ fun as => match as with
  | [d] => (match intD d with
    | some j => -(2 ^ 62) ≤ j ∧ j ≤ (sizeLine : Nat) ∧ Q (rngD 0 j.toNat)
    | none => False)
  | _ => False
@[simp] def dRng2 (l : DL) : DL := fun ρ Q => l ρ fun as => match as with
  | [d, d'] => (match intD d, intD d' with
    | some i, some j => (-(2 ^ 62) ≤ i ∧ i < 2 ^ 62 ∧ -(2 ^ 62) ≤ j ∧ j < 2 ^ 62) ∧ j - i ≤ (sizeLine : Nat) ∧ Q (rngD i (j - i).toNat)
    | _, _ => False)
  | _ => False
theorem rng_len {lo : Int} {n : Nat} : (rngD lo n).length = n := by unfold rngD; simp
theorem line_lt : ((sizeLine : Nat) : Int) < 2 ^ 62 := by decide
theorem simI_rng1 {th : TA} {l : DL} (h : SimLP C th l) : SimI C (iRng1 th) (dRng1 l) := by
  intro H0 F H σ ρ Qd Q g S ht k
  refine h H0 F H σ ρ _ _ g S ht fun vs F1 H1 as x1 r1 q1 => ?_
  split at q1
  · rename_i d
    split at q1
    · rename_i j e
      obtain ⟨b1, b2, q1⟩ := q1
      cases r1 with
      | cons r1 rr =>
        cases rr
        have ev := rp_intD r1 e
        subst ev
        have := line_lt
        exact ⟨j, rfl, b1, by omega, k _ F1 H1 _ _ x1 (itR_ok 0 j.toNat) (fun _ _ => trivial) (by rw [rng_len]; omega) q1⟩
    · exact q1.elim
  · exact q1.elim
theorem simI_rng2 {th : TA} {l : DL} (h : SimLP C th l) : SimI C (iRng2 th) (dRng2 l) := by
  intro H0 F H σ ρ Qd Q g S ht k
  refine h H0 F H σ ρ _ _ g S ht fun vs F1 H1 as x1 r1 q1 => ?_
  split at q1
  · rename_i d d'
    split at q1
    · rename_i i j e e'
      obtain ⟨b1, b2, q1⟩ := q1
      cases r1 with
      | cons r1 rr =>
        cases rr with
        | cons r2 rr =>
          cases rr
          have ev := rp_intD r1 e
          have ev' := rp_intD r2 e'
          subst ev ev'
          exact ⟨i, j, rfl, b1, k _ F1 H1 _ _ x1 (itR_ok i (j - i).toNat) (fun _ _ => trivial) (by rw [rng_len]; omega) q1⟩
    · exact q1.elim
  · exact q1.elim
end
end VL

set_option Elab.async false
set_option linter.all false
set_option maxRecDepth 100000
set_option maxHeartbeats 4000000
/-! VLLib3: repr, index, sorted, dict, range as a value, defs as values, starred items. -/
namespace VL
open PySem PySem.Spec PyProof.Rows L2
open PySem.W (EachIs AllAlike Sortable dataLe sorted_data)
abbrev L2d := PyData → PyData

section
variable {C : Cfg} {X : Cx}
/-! ### repr -/
def rRepr (K : PySem.W.Frag) : List V → Hp → VK → Prop := fun xs H Q => ∃ v d, xs = [v] ∧ R K H v d ∧ okD d ∧ d.showable = true ∧ d.shown.length ≤ sizeLine ∧ Q (.str d.shown) H
mutual
theorem noDict_of_plain : ∀ d : PyData, d.plain = true → d.hasDict = false
  | .none, _ => rfl
  | .bool _, _ => rfl
  | .int _, _ => rfl
  | .str _, _ => rfl
  | .list xs, h => by
    have := noDicts_of_plain xs (by simpa [PyData.plain] using h)
    simpa [PyData.hasDict] using this
  | .tuple xs, h => by
    have := noDicts_of_plain xs (by simpa [PyData.plain] using h)
    simpa [PyData.hasDict] using this
  | .dict _, h => by simp [PyData.plain] at h
theorem noDicts_of_plain : ∀ xs : List PyData, PyData.plainAll xs = true → PyData.hasDictAll xs = false
  | [], _ => rfl
  | x :: xs, h => by
    have h' : x.plain = true ∧ PyData.plainAll xs = true := by simpa [PyData.plainAll] using h
    simp [PyData.hasDictAll, noDict_of_plain x h'.1, noDicts_of_plain xs h'.2]
end
theorem call_reprR (hg : X.A.guards = some []) (hu : X.A.units + 200 < cLine) : CallR X (.builtin "repr") (rRepr X.K) := by
  intro pins s σ H xs us Q I r h
  obtain ⟨v, d, rfl, rd, hp, hs, hl, q⟩ := h
  obtain ⟨u, rfl, rx⟩ := vals1 r
  obtain ⟨as, rr⟩ := R.reads I d v u hp.1 rd rx
  have big : ∀ (w : Addr), u = .ref w → wpAny (model X.prog X.w) X.A (call (.builtin "repr") [.ref w]) (EP X pins σ Q) X.xe s := fun w e => by
    subst e
    have := hp.2
    refine repr_of_reads' rr hs (fun z => by rw [noDict_of_plain d hp.1] at z; cases z) hg (by omega) (fun _ _ e => e) (fun h' u tk kp => ⟨.str d.shown, H, I.kept (t' := tk) kp, ⟨u, rfl⟩, q⟩) hl
  cases rd with
  | non =>
    obtain rfl : u = Value.none := rx
    exact PySem.P.repr_of_none ⟨.str _, H, I.tok _, ⟨_, rfl⟩, q⟩
  | bl b =>
    obtain rfl : u = Value.bool b := rx
    refine PySem.P.repr_of_bool ⟨.str _, H, I.tok _, ⟨_, rfl⟩, ?_⟩
    cases b <;> exact q
  | int i =>
    obtain ⟨t, rfl⟩ := rx
    exact PySem.P.repr_of_int (by simpa [PyData.showable] using hs) ⟨.str _, H, I.tok _, ⟨_, rfl⟩, q⟩
  | str x l =>
    obtain ⟨t, rfl⟩ := rx
    exact PySem.P.repr_of_str ⟨.str _, H, I.tok _, ⟨_, rfl⟩, q⟩ (by simpa [PyData.shown] using hl)
  | lst e l r => exact (show u = _ from rx) ▸ big _ rx
  | tup e l r => exact (show u = _ from rx) ▸ big _ rx
  | dct e l r => exact (show u = _ from rx) ▸ big _ rx
@[simp] def dRepr : DB := fun xs Q => match xs with
  | [d] => okD d ∧ d.showable = true ∧ d.shown.length ≤ sizeLine ∧ Q (.str d.shown)
  | _ => False
theorem sb_repr : SimB C (rRepr C.K) dRepr := by
  intro F H xs ds Qd Q g rs h k
  unfold dRepr at h
  split at h
  · obtain ⟨v, e, r⟩ := rps1 rs
    exact ⟨v, _, e, r.all g, h.1, h.2.1, h.2.2.1, k _ F H _ (.refl g) (.str _ h.2.2.1) h.2.2.2⟩
  · exact h.elim
/-! ### index -/
def rIdxL (K : PySem.W.Frag) : V → List V → Hp → VK → Prop := fun x xs H Q => ∃ (y : V) (d : PyData) (ds : List PyData) (j : Nat), xs = [y] ∧ R K H x (.list ds) ∧ R K H y d ∧ PyData.plainAll ds = true ∧ okD d ∧ SeqAt.dataPlace ds d = some j ∧ Q (.int (j : Nat)) H
def rIdxT (K : PySem.W.Frag) : V → List V → Hp → VK → Prop := fun x xs H Q => ∃ (y : V) (d : PyData) (ds : List PyData) (j : Nat), xs = [y] ∧ R K H x (.tuple ds) ∧ R K H y d ∧ PyData.plainAll ds = true ∧ okD d ∧ SeqAt.dataPlace ds d = some j ∧ Q (.int (j : Nat)) H
theorem mt_idxL (hu : X.A.units + 200 < cLine) : MtR X "list.index" (rIdxL X.K) := by
  intro pins s σ H x xs v us Q I rx rxs h
  obtain ⟨y, d, ds, j, rfl, hl, hy, hp, hd, hj, q⟩ := h
  obtain ⟨uy, rfl, ry⟩ := vals1 rxs
  obtain ⟨bs, r1⟩ := R.reads I d y uy hd.1 hy ry
  cases hl with
  | lst hs hz ha =>
    obtain rfl : v = Value.ref _ := rx
    obtain ⟨its, rv, ⟨⟨cls, dd, data, sls⟩, n, ho, hc, hdn, hdt⟩, hlen⟩ := I.list (SqL.of hs)
    simp only at hc hdt
    subst hc hdt
    obtain ⟨as, rs⟩ := RL.reads I ds _ its hp ha rv
    have rs' : ReadsAll s.heap its.toArray.toList ds as := rs
    obtain ⟨hj1, hit, hno⟩ := SeqAt.hit_at rs' hp hj
    have hn := SeqAt.len_at rs'
    have := hd.2
    have hmin : min (PyData.depthAll ds) d.depth ≤ 60 := Nat.le_trans (Nat.min_le_right _ _) hd.2
    have hsl := sizeLine_eq
    exact call_meets PySem.F.slot_list_index ⟨_, ho, rfl⟩ PySem.F.entry_list_index (PySem.F.args_list_index_2 _ _) (SeqAt.list_indexAt _ its.toArray n dd sls uy _ j hj1 (by omega) hit hno)
      ⟨ho, SeqAt.items_plain rs' r1 hp hd.1 (by omega), ⟨.int (j : Nat), H, I.tok _, ⟨_, rfl⟩, q⟩⟩
theorem mt_idxT (hu : X.A.units + 200 < cLine) : MtR X "tuple.index" (rIdxT X.K) := by
  intro pins s σ H x xs v us Q I rx rxs h
  obtain ⟨y, d, ds, j, rfl, hl, hy, hp, hd, hj, q⟩ := h
  obtain ⟨uy, rfl, ry⟩ := vals1 rxs
  obtain ⟨bs, r1⟩ := R.reads I d y uy hd.1 hy ry
  cases hl with
  | tup hs hz ha =>
    obtain rfl : v = Value.ref _ := rx
    obtain ⟨its, rv, ⟨⟨cls, dd, data, sls⟩, ho, hc, n, hdt⟩, hlen⟩ := I.tuple hs
    simp only at hc hdt
    subst hc hdt
    obtain ⟨as, rs⟩ := RL.reads I ds _ its hp ha rv
    have rs' : ReadsAll s.heap its.toArray.toList ds as := rs
    obtain ⟨hj1, hit, hno⟩ := SeqAt.hit_at rs' hp hj
    have hmin : min (PyData.depthAll ds) d.depth ≤ 60 := Nat.le_trans (Nat.min_le_right _ _) hd.2
    exact call_meets PySem.F.slot_tuple_index ⟨_, ho, rfl⟩ PySem.F.entry_tuple_index (PySem.F.args_tuple_index_2 _ _) (TI.tuple_indexAt _ its.toArray n dd sls uy _ j hj1 hit hno)
      ⟨ho, SeqAt.items_plain rs' r1 hp hd.1 (by omega), ⟨.int (j : Nat), H, I.tok _, ⟨_, rfl⟩, q⟩⟩
@[simp] def dIdxL : DM := fun x xs Q => match x, xs with
  | .list ds, [d] => PyData.plainAll ds = true ∧ okD d ∧ ∃ j, SeqAt.dataPlace ds d = some j ∧ Q (.int (j : Nat))
  | _, _ => False
@[simp] def dIdxT : DM := fun x xs Q => match x, xs with
  | .tuple ds, [d] => PyData.plainAll ds = true ∧ okD d ∧ ∃ j, SeqAt.dataPlace ds d = some j ∧ Q (.int (j : Nat))
  | _, _ => False
theorem sm_idxL : SimM C "list" (rIdxL C.K) dIdxL := by
  intro F H F' H' x d xs ds Qd Q g rx e rs h k
  unfold dIdxL at h
  split at h
  · obtain ⟨y, ey, ry⟩ := rps1 rs
    obtain ⟨h1, h2, j, h3, h4⟩ := h
    exact ⟨y, _, _, j, ey, (rx.ext e).all e.g, ry.all e.g, h1, h2, h3, k _ F' H' _ (.refl e.g) (.int _) h4⟩
  · exact h.elim
theorem sm_idxT : SimM C "tuple" (rIdxT C.K) dIdxT := by
  intro F H F' H' x d xs ds Qd Q g rx e rs h k
  unfold dIdxT at h
  split at h
  · obtain ⟨y, ey, ry⟩ := rps1 rs
    obtain ⟨h1, h2, j, h3, h4⟩ := h
    exact ⟨y, _, _, j, ey, (rx.ext e).all e.g, ry.all e.g, h1, h2, h3, k _ F' H' _ (.refl e.g) (.int _) h4⟩
  · exact h.elim
/-- a method of a constant of the module -/
@[simp] def dMc (f : DM) (d : PyData) (l : DL) : DE := fun ρ Q => l ρ fun ds => f d ds Q
theorem sim_mc {T : String} {r : V → List V → Hp → VK → Prop} {f : DM} {v : V} {d : PyData} {tA : TA} {l : DL} (hm : SimM C T r f) (ty : ∀ H, tyV C.K T v H) (hv : ∀ F, R C.K F v d) (hl : SimLP C tA l) : SimE C (tBM C.K T r (tC v) tA) (dMc f d l) := by
  intro H0 F H σ ρ Qd Q g S ht k
  refine ⟨ty H, hl H0 F H σ ρ _ _ g S ht fun vs F2 H2 ds x2 r2 q2 => ?_⟩
  exact hm F H F2 H2 v d vs ds Qd Q g (.inl (hv F)) x2 r2 q2 fun u F3 H3 z x3 r3 q3 => k u F3 H3 z (x2.trans x3) r3 q3
/-! ### sorted -/
def keyLe : PyData → PyData → Bool := dataLe false id
def rSortD (K : PySem.W.Frag) : List V → Hp → VK → Prop := fun xs H Q => ∃ a vs ds F, xs = [V.ref a] ∧ SqL K H a vs ∧ Same F H ∧ RL K F vs ds ∧ ds.length ≤ sizeLine ∧ PyData.plainAll ds = true ∧ AllAlike ds ∧ Sortable ds ∧ PyData.depthAll ds ≤ 60 ∧
  ∀ ys q, RL K F ys (ds.mergeSort keyLe) → H q = none → Q (.ref q) (upd H q (.lst ys))
theorem depth_mem : ∀ {ds : List PyData} {d : PyData}, d ∈ ds → d.depth ≤ PyData.depthAll ds
  | x :: xs, d, h => by
    simp only [PyData.depthAll]
    rcases List.mem_cons.mp h with z | z
    · rw [z]; exact Nat.le_max_left _ _
    · exact Nat.le_trans (depth_mem z) (Nat.le_max_right _ _)
theorem each_of {K : PySem.W.Frag} {H : Hp} {h : Heap} : ∀ {vs : List V} {ds : List PyData} {us : List Value} {as : List Addr}, RL K H vs ds → Vals vs us → ReadsAll h us ds as →
    EachIs (fun u (b : V × PyData) => RelV b.1 u ∧ R K H b.1 b.2) us (vs.zip ds) ∧ EachIs (fun u (b : V × PyData) => ∃ as, Reads h u b.2 as) us (vs.zip ds)
  | _, _, _, _, .nil, .nil, .nil => ⟨.nil, .nil⟩
  | _, _, _, _, .cons a r, .cons b t, .cons c e => ⟨.cons ⟨b, a⟩ (each_of r t e).1, .cons ⟨_, c⟩ (each_of r t e).2⟩
theorem each_back {K : PySem.W.Frag} {H : Hp} : ∀ {us : List Value} {bs : List (V × PyData)}, EachIs (fun u (b : V × PyData) => RelV b.1 u ∧ R K H b.1 b.2) us bs → Vals (bs.map (·.1)) us ∧ RL K H (bs.map (·.1)) (bs.map (·.2))
  | _, _, .nil => ⟨.nil, .nil⟩
  | _, _, .cons a r => ⟨.cons a.1 (each_back r).1, .cons a.2 (each_back r).2⟩
theorem zip_snd {α β : Type} : ∀ {xs : List α} {ys : List β}, xs.length = ys.length → (xs.zip ys).map (·.2) = ys
  | [], [], _ => rfl
  | x :: xs, y :: ys, h => by
    rw [List.zip_cons_cons, List.map_cons, zip_snd (by simpa using h)]
theorem call_sortedR (hu : X.A.units + 200 < cLine) : CallR X (.builtin "sorted") (rSortD X.K) := by
  intro pins s σ H xs us Q I r h
  obtain ⟨a, vs, ds, F, rfl, hs, hF, ha, hz, hp, hal, hk, hdp, q⟩ := h
  obtain ⟨u, rfl, rx⟩ := vals1 r
  obtain rfl : u = Value.ref _ := rx
  obtain ⟨its, rv, p, hlen⟩ := I.list hs
  obtain ⟨as, rs⟩ := RL.reads I ds _ its hp (ha.mono hF) rv
  obtain ⟨e1, e2⟩ := each_of ha rv rs
  have hzs := zip_snd ha.length
  refine sorted_data (enc := fun b : V × PyData => b.2) p.isList e1 e2 (by rw [hzs]; exact hal) (by rw [hzs]; exact hk) (by rw [List.length_zip, ha.length, Nat.min_self]; exact hz) (fun b hb => ?_) fun out ho eo => ?_
  · have : b.2 ∈ ds := by rw [← hzs]; exact List.mem_map.mpr ⟨b, hb, rfl⟩
    have := depth_mem this
    omega
  · obtain ⟨rv2, rl2⟩ := each_back eo
    obtain ⟨c, hc⟩ := sortedAll_at s.heap its out.toArray
    have em : ((vs.zip ds).mergeSort (dataLe false fun b : V × PyData => b.2)).map (·.2) = ds.mergeSort keyLe := by
      have q := List.map_mergeSort (r := dataLe false fun b : V × PyData => b.2) (s := keyLe) (f := fun b : V × PyData => b.2) (l := vs.zip ds) (fun a _ b _ => rfl)
      rw [hzs] at q
      exact q
    rw [em] at rl2
    refine ⟨.ref (s.heap.objs.size + 1), upd H (s.heap.objs.size + 1) (.lst _), I.laid (t' := s.toks) (fun b o e => sortedAll_old e) (Nat.le_succ _) (show ObjOk X.prog X.w _ _ _ (.lst _) from ⟨?_, out, c, rv2, hc⟩), rfl, q _ _ rl2 (I.hok.fresh (Nat.le_succ _))⟩
    rw [rl2.length, List.length_mergeSort]; exact hz
@[simp] def dSorted : DB := fun xs Q => match xs with
  | [.list ds] => PyData.plainAll ds = true ∧ AllAlike ds ∧ Sortable ds ∧ PyData.depthAll ds ≤ 60 ∧ Q (.list (ds.mergeSort keyLe))
  | _ => False
theorem own_at {F H : Hp} {q : Addr} {o : HO} {d : PyData} (g : Good C F H) (hq : H q = none) (c : Cont C.K F (upd H q o) q d) : Own C H F (upd H q o) q d := ⟨g.fnone hq, hq, g.noS hq, c⟩
theorem sbF_sorted : SimBF C (rSortD C.K) dSorted := by
  intro F H xs ds Qd Q g rs h k
  unfold dSorted at h
  split at h
  · obtain ⟨v, e, r⟩ := rps1 rs
    rename_i es
    obtain ⟨h1, h2, h3, h4, h5⟩ := h
    obtain ⟨a, vs, rfl, nS, hv, l, rl⟩ := r.list g
    refine ⟨a, vs, es, F, e, SqL.of hv, g.fh, rl, l, h1, h2, h3, h4, fun ys q hy hq => ?_⟩
    exact k q F _ (.list (es.mergeSort keyLe)) (.newO g hq _) (own_at g hq ⟨ys, upd_same, by rw [List.length_mergeSort]; exact l, hy⟩) h5
  · exact h.elim
/-! ### dicts -/
def putDv (ds : List (PyData × PyData)) (k : Key) (d : PyData) : List (PyData × PyData) :=
  if (ds.any fun kv => decide (keyD kv.1 = some k)) = true then ds.map (fun kv => if keyD kv.1 = some k then (kv.1, d) else kv) else ds ++ [(kD k, d)]
theorem RK.any {K : PySem.W.Frag} {F : Hp} (k : Key) : ∀ {kvs : List (Key × V)} {ds : List (PyData × PyData)}, RK K F kvs ds → (ds.any fun kv => decide (keyD kv.1 = some k)) = kvs.any fun kv => decide (kv.1 = k)
  | _, _, .nil => rfl
  | _, _, .cons a r => by
    rw [List.any_cons, List.any_cons, r.any k, keyD_kD]
    simp
theorem RK.setAll {K : PySem.W.Frag} {F : Hp} {k : Key} {v : V} {d : PyData} (hv : R K F v d) : ∀ {kvs : List (Key × V)} {ds : List (PyData × PyData)}, RK K F kvs ds →
    RK K F (kvs.map fun kv => if kv.1 = k then (kv.1, v) else kv) (ds.map fun kv => if keyD kv.1 = some k then (kv.1, d) else kv)
  | _, _, .nil => .nil
  | _, _, .cons (k := k') a r => by
    rw [List.map_cons, List.map_cons]
    simp only [keyD_kD, Option.some.injEq]
    by_cases h : k' = k
    · rw [if_pos h, if_pos h]; exact .cons hv (r.setAll hv)
    · rw [if_neg h, if_neg h]; exact .cons a (r.setAll hv)
theorem RK.snoc {K : PySem.W.Frag} {F : Hp} {k : Key} {v : V} {d : PyData} (hv : R K F v d) : ∀ {kvs : List (Key × V)} {ds : List (PyData × PyData)}, RK K F kvs ds → RK K F (kvs ++ [(k, v)]) (ds ++ [(kD k, d)])
  | _, _, .nil => .cons hv .nil
  | _, _, .cons a r => .cons a (r.snoc hv)
theorem RK.put {K : PySem.W.Frag} {F : Hp} {k : Key} {v : V} {d : PyData} (hv : R K F v d) {kvs : List (Key × V)} {ds : List (PyData × PyData)} (r : RK K F kvs ds) : RK K F (putK kvs k v) (putDv ds k d) := by
  unfold putK putDv
  rw [r.any k]
  by_cases h : (kvs.any fun kv => decide (kv.1 = k)) = true
  · rw [if_pos h, if_pos h]; exact r.setAll hv
  · rw [if_neg h, if_neg h]; exact r.snoc hv
def mergeD (ds : List (PyData × PyData)) (kds : List (Key × PyData)) : List (PyData × PyData) := kds.foldl (fun acc kv => putDv acc kv.1 kv.2) ds
def pairsD : List PyData → Option (List (Key × PyData))
  | [] => some []
  | .tuple [k, d] :: r => match keyD k, pairsD r with
    | some k, some l => some ((k, d) :: l)
    | _, _ => none
  | _ => none
theorem keyD_R {K : PySem.W.Frag} {F : Hp} {v : V} {d : PyData} {k : Key} (r : R K F v d) (h : keyD d = some k) : v = kV k := by
  cases r with
  | int i => cases h; rfl
  | str x l => cases h; rfl
  | _ => cases h
theorem pairs_of {K : PySem.W.Frag} {F : Hp} : ∀ {ds : List PyData} {vs : List V} {kds : List (Key × PyData)}, RL K F vs ds → pairsD ds = some kds →
    ∃ (ps : List Addr) (kvs : List (Key × V)), vs = ps.map V.ref ∧ Paired (fun p kv => SqT K F p [kV kv.1, kv.2]) ps kvs ∧ (∀ {as bs}, RK K F as bs → RK K F (mergeK as kvs) (mergeD bs kds)) ∧ kvs.length = ds.length := by
  intro ds
  induction ds with
  | nil =>
    intro vs kds r e
    cases r; cases e
    exact ⟨[], [], rfl, .nil, fun h => h, rfl⟩
  | cons d ds ih =>
    intro vs kds r e
    cases r with
    | cons a t =>
      cases a with
      | tup hs l rr =>
        unfold pairsD at e
        split at e
        · rename_i h; cases h
        · rename_i k d' r' h
          injection h with h1 h2
          injection h1 with h1
          subst h1 h2
          split at e
          · rename_i k1 l1 e1 e2
            cases e
            obtain ⟨ps, kvs, h3, h4, h5, h6⟩ := ih t e2
            cases rr with
            | cons r1 rr =>
              cases rr with
              | cons r2 rr =>
                cases rr
                have := keyD_R r1 e1
                subst this
                refine ⟨_ :: ps, (k1, _) :: kvs, by rw [h3]; rfl, .cons hs h4, fun {as bs} h => h5 (h.put r2), by simp [h6]⟩
          · cases e
        · cases e
      | _ => cases e
def rDictOf (K : PySem.W.Frag) : List V → Hp → VK → Prop := fun xs H Q => (∃ (a : Addr) (ps : List Addr) (kvs : List (Key × V)), xs = [.ref a] ∧ SqL K H a (ps.map V.ref) ∧ Paired (fun p kv => SqT K H p [kV kv.1, kv.2]) ps kvs ∧
    ∀ p, H p = none → Q (.ref p) (upd H p (.dK (mergeK [] kvs)))) ∨ ∃ (a : Addr) (kvs : List (Key × V)), xs = [.ref a] ∧ Rd H a (.dK kvs) ∧ ∀ p, H p = none → Q (.ref p) (upd H p (.dK kvs))
theorem call_dictOf (hc : X.calm = true) : CallR X (.type "dict") (rDictOf X.K) := (call_dictP hc).or call_dictD
@[simp] def dDictOf : DB := fun xs Q => match xs with
  | [.list ds] => ∃ kds, pairsD ds = some kds ∧ Q (.dict (mergeD [] kds))
  | [.dict kvs] => Q (.dict kvs)
  | _ => False
theorem paired_mono {K : PySem.W.Frag} {F H : Hp} (s : Same F H) {ps : List Addr} {kvs : List (Key × V)} (h : Paired (fun p kv => SqT K F p [kV kv.1, kv.2]) ps kvs) : Paired (fun p kv => SqT K H p [kV kv.1, kv.2]) ps kvs := by
  induction h with
  | nil => exact .nil
  | cons a r ih => exact .cons (sqT_mono s a) ih
theorem sbF_dict : SimBF C (rDictOf C.K) dDictOf := by
  intro F H xs ds Qd Q g rs h k
  unfold dDictOf at h
  split at h
  · obtain ⟨v, e, r⟩ := rps1 rs
    obtain ⟨kds, h1, h2⟩ := h
    obtain ⟨a, vs, rfl, nS, hv, l, rl⟩ := r.list g
    obtain ⟨ps, kvs, e1, e2, e3, e4⟩ := pairs_of rl h1
    subst e1
    refine .inl ⟨a, ps, kvs, e, SqL.of hv, paired_mono g.fh e2, fun p hp => ?_⟩
    have rk := e3 (as := []) (bs := []) .nil
    refine k p F _ (.dict _) (.newO g hp _) (own_at g hp ⟨_, upd_same, ?_, rk⟩) h2
    rw [← rk.length]
    have := length_mergeK kvs []
    simp at this
    omega
  · obtain ⟨v, e, r⟩ := rps1 rs
    obtain ⟨a, kvs, rfl, nS, hv, l, rk⟩ := r.dict g
    exact .inr ⟨a, kvs, e, .of hv, fun p hp => k p F _ (.dict _) (.newO g hp _) (own_at g hp ⟨_, upd_same, l, rk⟩) h⟩
  · exact h.elim
@[simp] def dPut (i : Nat) (tk tv : DE) : DS := fun D ρ => tv ρ fun d => match ρ[i]? with
  | some (.ow (.dict kvs)) => tk ρ fun k => ∃ k', keyD k = some k' ∧ kvs.length < sizeLine ∧ D.nx (ρ.set i (.ow (.dict (putDv kvs k' d))))
  | _ => False
theorem putDv_len (ds : List (PyData × PyData)) (k : Key) (d : PyData) : (putDv ds k d).length ≤ ds.length + 1 := by
  unfold putDv
  split
  · rw [List.length_map]; omega
  · rw [List.length_append]; simp
theorem sims_put {i : Nat} {ty tv : TE} {tk tD : DE} (hk : SimE C ty tk) (hv : SimE C tv tD) : SimS C (sDPut (tVar i) ty tv) (dPut i tk tD) := by
  intro F0 H0 F H σ ρ D DH x S ht L
  refine hv H0 F H σ ρ _ _ x.g S ht fun v F1 H1 d x1 r1 q1 => ?_
  have S1 := S.ext x1
  split at q1
  · rename_i ds e
    obtain ⟨o, e2, p, e3, r⟩ := S1.at e
    subst e3
    refine ⟨_, e2, ?_⟩
    refine hk H0 F1 H1 σ ρ _ _ x1.g S1 q1 fun w F2 H2 k x2 r2 ⟨k', ek, z, q2⟩ => ?_
    have S2 := S1.ext x2
    obtain ⟨kvs, ev, l, rv⟩ := id (r.ext x2).ct
    have hl := rv.length
    obtain ⟨y, T⟩ := own_write (o' := .dK (putK kvs k' v)) (d' := .dict (putDv ds k' d)) (x.trans (x1.trans x2)) S2 e e2 (r.ext x2) ⟨_, upd_same, by have := putDv_len ds k' d; omega, rv.put (r1.mono x2.ff)⟩
    exact ⟨p, _, rfl, by rw [keyD_R r2 ek]; exact DPut.k ev (by omega), L.nx F2 _ σ _ y T q2⟩
  · exact q1.elim
/-! ### range as a value -/
abbrev TRg := St → Hp → (Int → Int → Hp → Prop) → Prop
abbrev DRg := Vn → (Int → Int → Prop) → Prop
def SimRg (C : Cfg) (th : TRg) (t : DRg) : Prop :=
  ∀ (H0 F H : Hp) (σ : St) (ρ : Vn) (Qd : Int → Int → Prop) (Q : Int → Int → Hp → Prop), Good C F H → Slots C H0 F H σ ρ → t ρ Qd →
    (∀ a b F' H', Ext C F H F' H' → Qd a b → Q a b H') → th σ H Q
@[simp] def dRg1 (t : DE) : DRg := fun ρ Q => t ρ fun d => match d with
  | .int n => Q 0 n
  | _ => False
@[simp] def dRg2 (t u : DE) : DRg := fun ρ Q => t ρ fun d => u ρ fun e => match d, e with
  | .int i, .int j => Q i j
  | _, _ => False
variable {ta tb : TE} {t u : DE}
theorem sim_rg1 (h : SimP C ta t) : SimRg C (tRg1 ta) (dRg1 t) := by
  intro H0 F H σ ρ Qd Q g S ht k
  refine h H0 F H σ ρ _ _ g S ht fun v F1 H1 d x1 r1 q1 => ?_
  split at q1
  · exact ⟨_, rp_int r1, k _ _ F1 H1 x1 q1⟩
  · exact q1.elim
theorem sim_rg2 (h : SimP C ta t) (h' : SimP C tb u) : SimRg C (tRg2 ta tb) (dRg2 t u) := by
  intro H0 F H σ ρ Qd Q g S ht k
  refine h H0 F H σ ρ _ _ g S ht fun v F1 H1 d x1 r1 q1 => ?_
  refine h' H0 F1 H1 σ ρ _ _ x1.g (S.ext x1) q1 fun w F2 H2 e x2 r2 q2 => ?_
  split at q2
  · exact ⟨_, _, rp_int r1, rp_int r2, k _ _ F2 H2 (x1.trans x2) q2⟩
  · exact q2.elim
theorem rl_rg {K : PySem.W.Frag} {F : Hp} (a b : Int) : RL K F (rgV a b) ((List.range (b - a).toNat).map fun (i : Nat) => .int (a + i)) := by
  unfold rgV
  generalize List.range (b - a).toNat = l
  induction l with
  | nil => exact .nil
  | cons i l ih => exact .cons (.int _) ih
@[simp] def dListRg (t : DRg) : DE := fun ρ Q => t ρ fun a b => RgOk a b ∧ Q (.list ((List.range (b - a).toNat).map fun (i : Nat) => .int (a + i)))
@[simp] def dTupRg (t : DRg) : DE := fun ρ Q => t ρ fun a b => RgOk a b ∧ Q (.tuple ((List.range (b - a).toNat).map fun (i : Nat) => .int (a + i)))
theorem simF_listRg {th : TRg} {t : DRg} (h : SimRg C th t) : SimF C (tLstRg th) (dListRg t) := by
  intro H0 F H σ ρ Qd Q g S ht k
  refine h H0 F H σ ρ _ _ g S ht fun a b F1 H1 x1 ⟨ok, q1⟩ => ⟨ok, fun q hq => ?_⟩
  have n := Ext.newO x1.g hq (.lst (rgV a b))
  exact k q F1 _ (.list _) (x1.trans n) ⟨x1.g.fnone hq, x1.free hq, x1.g.noS hq, _, upd_same, by simp; have := ok.2.2.2.2; rw [sizeLine_eq]; omega, rl_rg a b⟩ q1
theorem sim_tupRg {th : TRg} {t : DRg} (h : SimRg C th t) : SimE C (tTupRg th) (dTupRg t) := by
  intro H0 F H σ ρ Qd Q g S ht k
  refine h H0 F H σ ρ _ _ g S ht fun a b F1 H1 x1 ⟨ok, q1⟩ => ⟨ok, fun q hq => ?_⟩
  have n := Ext.new x1.g hq (.tup (rgV a b))
  exact k _ _ _ (.tuple _) (x1.trans n) (.tup (SqT.of upd_same) (by simp; have := ok.2.2.2.2; rw [sizeLine_eq]; omega) (rl_rg a b)) q1
/-! ### a starred item -/
@[simp] def lStar (t : DE) (l : DL) : DL := fun ρ Q => t ρ fun d => match d with
  | .tuple ds => l ρ fun es => Q (ds ++ es)
  | .list ds => l ρ fun es => Q (ds ++ es)
  | _ => False
theorem sim_lstar {tA : TA} {l : DL} (h : SimE C ta t) (hl : SimL C tA l) : SimL C (StX.tStar C.K ta tA) (lStar t l) := by
  intro H0 F H σ ρ Qd Q g S ht k
  refine h H0 F H σ ρ _ _ g S ht fun v F1 H1 d x1 r1 q1 => ?_
  split at q1
  · rename_i ds
    obtain ⟨a, vs, rfl, hs, lz, rl⟩ := RP.tuple (C := C) (H := H1) (.inl r1)
    refine ⟨a, vs, rfl, .inl (sqT_mono x1.g.fh hs), ?_⟩
    exact hl H0 F1 H1 σ ρ _ _ x1.g (S.ext x1) q1 fun ws F2 H2 es x2 r2 q2 => k _ F2 H2 _ (x1.trans x2) ((rl.mono x2.ff).append r2) q2
  · rename_i ds
    obtain ⟨a, vs, rfl, nS, hs, lz, rl⟩ := RP.list (C := C) (H := H1) (.inl r1) x1.g
    refine ⟨a, vs, rfl, .inr (SqL.of hs), ?_⟩
    exact hl H0 F1 H1 σ ρ _ _ x1.g (S.ext x1) q1 fun ws F2 H2 es x2 r2 q2 => k _ F2 H2 _ (x1.trans x2) ((rl.mono x2.ff).append r2) q2
  · exact q1.elim
/-! ### three names at once -/
@[simp] def dPar3 (i j l : Nat) (t u w : DE) : DS := fun D ρ => t ρ fun d => u ρ fun e => w ρ fun f => D.nx (((ρ.set i (.sh d)).set j (.sh e)).set l (.sh f))
theorem sims_par3 {i j l : Nat} {tc : TE} {w : DE} (h1 : SimE C ta t) (h2 : SimE C tb u) (h3 : SimE C tc w) : SimS C (tPar3 i j l (tCons ta (tCons tb (tCons tc tNil)))) (dPar3 i j l t u w) := fun F0 H0 F H σ ρ D DH x S ht L => by
  refine h1 H0 F H σ ρ _ _ x.g S ht fun v F1 H1 d x1 r1 q1 => ?_
  refine h2 H0 F1 H1 σ ρ _ _ x1.g (S.ext x1) q1 fun w F2 H2 e x2 r2 q2 => ?_
  refine h3 H0 F2 H2 σ ρ _ _ x2.g (S.ext (x1.trans x2)) q2 fun y F3 H3 f x3 r3 q3 => ?_
  exact ⟨v, w, y, rfl, L.nx F3 H3 _ _ (x.trans (x1.trans (x2.trans x3))) (set_sh (set_sh (set_sh (S.ext (x1.trans x2)) x3 (r1.mono (x2.trans x3).ff) i) (.refl x3.g) (r2.mono x3.ff) j) (.refl x3.g) r3 l) q3⟩
end
end VL

set_option Elab.async false
set_option linter.all false
set_option maxRecDepth 100000
set_option maxHeartbeats 4000000
/-! VLVal: defs as values: picked off a display, held by a name, called. -/
namespace VL
open PySem PySem.Spec PyProof.Rows L2

abbrev DV := Vn → (V → Prop) → Prop
def SimV (C : Cfg) (th : TE) (t : DV) : Prop :=
  ∀ (H0 F H : Hp) (σ : St) (ρ : Vn) (Qd : V → Prop) (Q : VK), Good C F H → Slots C H0 F H σ ρ → t ρ Qd → (∀ v F' H', Ext C F H F' H' → Qd v → Q v H') → th σ H Q
section
variable {C : Cfg} {th tb : TE} {t u : DE}
def vVar (i : Nat) : DV := fun ρ Q => match ρ[i]? with
  | some (.raw v) => Q v
  | _ => False
@[simp] theorem vVar_r {i : Nat} {ρ : Vn} {v : V} {Q : V → Prop} (h : ρ[i]? = some (.raw v)) : vVar i ρ Q = Q v := by unfold vVar; rw [h]
theorem simv_var {i : Nat} : SimV C (tVar i) (vVar i) := by
  intro H0 F H σ ρ Qd Q g S ht k
  unfold vVar at ht
  split at ht
  · rename_i v e
    obtain ⟨o, e2, e3⟩ := S.at e
    cases (show o = some v from e3)
    exact ⟨v, e2, k v F H (.refl g) ht⟩
  · exact ht.elim
@[simp] def vC (v : V) : DV := fun _ Q => Q v
theorem simv_c {v : V} : SimV C (tC v) (vC v) := fun H0 F H σ ρ Qd Q g S ht k => k v F H (.refl g) ht
/-- a display of values of the module, by texts -/
def selTr (kvs : List (Str × V)) : List (TE × TE) := kvs.map fun kv => (tC (.str kv.1), tC kv.2)
theorem sel_pairs (σ : St) (H : Hp) (Q : List (V × V) → Hp → Prop) : ∀ (kvs : List (Str × V)), Q (kvs.map fun kv => (V.str kv.1, kv.2)) H → tPairs (selTr kvs) σ H Q := by
  intro kvs
  induction kvs generalizing Q with
  | nil => intro h; exact h
  | cons kv kvs ih => intro h; exact ih (fun ps H' => Q ((V.str kv.1, kv.2) :: ps) H') h
theorem merge_nodup : ∀ (more acc : List (Key × V)), ((acc ++ more).map (·.1)).Nodup → mergeK acc more = acc ++ more := by
  intro more
  induction more with
  | nil => intro acc _; simp [mergeK]
  | cons p more ih =>
    intro acc h
    have hp : putK acc p.1 p.2 = acc ++ [p] := by
      unfold putK
      rw [if_neg]
      intro hz
      obtain ⟨q, hq, e⟩ := List.any_eq_true.mp hz
      have e' := of_decide_eq_true e
      rw [List.map_append, List.nodup_append] at h
      exact h.2.2 q.1 (List.mem_map.mpr ⟨q, hq, rfl⟩) p.1 (by simp) e'
    show mergeK (putK acc p.1 p.2) more = _
    rw [hp, ih _ (by simpa using h)]
    simp
theorem sel_val {kvs : List (Str × V)} {x : Str} {v : V} (h : kvs.lookup x = some v) : valV (kvs.map fun kv => ((Sum.inr kv.1 : Key), kv.2)) (.inr x) = some v := by
  induction kvs with
  | nil => cases h
  | cons p r ih =>
    rw [List.map_cons]
    by_cases e : p.1 = x
    · rw [valV_pos (by simp [e])]
      obtain ⟨p1, p2⟩ := p
      subst e
      simpa using h
    · rw [valV_neg (by simpa using e)]
      refine ih ?_
      obtain ⟨p1, p2⟩ := p
      have e2 : (x == p1) = false := by simpa using fun z : x = p1 => e z.symm
      rw [List.lookup_cons, e2] at h
      exact h
@[simp] def vSel (kvs : List (Str × V)) (t : DE) : DV := fun ρ Q => t ρ fun d => match d with
  | .str x => ∃ v, kvs.lookup x = some v ∧ Q v
  | _ => False
theorem simv_sel {kvs : List (Str × V)} {ks : List Str} {trs : List (TE × TE)} (he : trs = selTr kvs) (hks : kvs.map (·.1) = ks) (hn0 : ks.Nodup) (h0 : ks.length ≤ 15) (h : SimP C tb t) : SimV C (tOp rIxDk (tDisp trs) tb) (vSel kvs t) := by
  intro H0 F H σ ρ Qd Q g S ht k
  subst he
  have hn : (kvs.map (·.1)).Nodup := by rw [hks]; exact hn0
  have h15 : kvs.length ≤ 15 := by rw [← hks, List.length_map] at h0; exact h0
  intro p hp
  refine sel_pairs σ _ _ kvs ?_
  have nS := g.noS hp
  refine ⟨upd_same, kvs.map fun kv => ((Sum.inr kv.1 : Key), kv.2), ?_, by rw [List.length_map]; exact h15, ?_⟩
  · rw [List.map_map]; rfl
  · have hk : (((kvs.map fun kv => ((Sum.inr kv.1 : Key), kv.2)).map (·.1))).Nodup := by
      rw [List.map_map]
      have := List.Pairwise.map (R := (· ≠ ·)) (S := (· ≠ ·)) (Sum.inr : Str → Key) (fun a b (hab : a ≠ b) => by simpa using hab) hn
      rw [List.map_map] at this
      exact this
    rw [merge_nodup _ [] (by simpa using hk), List.nil_append]
    have x0 : Ext C F H F (upd (upd H p (.dK [])) p (.dK (kvs.map fun kv => ((Sum.inr kv.1 : Key), kv.2)))) := (Ext.newO g hp (.dK [])).updO hp (g.fnone hp) nS
    refine h H0 F _ σ ρ _ _ x0.g (S.ext x0) ht fun w F1 H1 d x1 r1 q1 => ?_
    split at q1
    · obtain ⟨v, e, q⟩ := q1
      exact ⟨p, _, .inr _, v, rfl, x1.hh p _ upd_same nS, (rp_str r1).1, sel_val e, k v F1 H1 (x0.trans x1) q⟩
    · exact q1.elim
@[simp] def dSetV (i : Nat) (t : DV) : DS := fun D ρ => t ρ fun v => D.nx (ρ.set i (.raw v))
theorem sims_setV {i : Nat} {t : DV} (h : SimV C th t) : SimS C (tAsg th (gName i)) (dSetV i t) := fun F0 H0 F H σ ρ D DH x S ht L =>
  h H0 F H σ ρ _ _ x.g S ht fun v F1 H1 x1 q1 => L.nx F1 H1 _ _ (x.trans x1) ((S.ext x1).set i (s := .raw v) rfl fun _ _ z => nomatch z) q1
/-- a call of a value -/
def tCallX (tf : TE) (S : Addr → Sp → Prop) (E : XK) (t : TA) : TE := fun σ H Q => tf σ H fun v H1 => ∃ f sp, v = .ref f ∧ S f sp ∧ t σ H1 fun vs H2 => sp vs H2 Q E
@[simp] def dCallX (t : DV) (W : List (V × Wp)) (a : DA) : DE := fun ρ Q => t ρ fun v => ∃ wp, (v, wp) ∈ W ∧ a ρ fun as => Cl wp as Q
theorem sim_callX {tf : TE} {t : DV} {W : List (V × Wp)} {S : Addr → Sp → Prop} {E : XK} {tA : TA} {a : DA} (hS : ∀ v wp, (v, wp) ∈ W → ∃ f sp, v = .ref f ∧ S f sp ∧ ∀ vs H Q E, spS C wp vs H Q E → sp vs H Q E) (hf : SimV C tf t) (ha : SimA C tA a) :
    SimE C (tCallX tf S E tA) (dCallX t W a) := by
  intro H0 F H σ ρ Qd Q g S ht k
  refine hf H0 F H σ ρ _ _ g S ht fun v F1 H1 x1 ⟨wp, hw, q1⟩ => ?_
  obtain ⟨f, sp, e, h1, h2⟩ := hS v wp hw
  refine ⟨f, sp, e, h1, ?_⟩
  refine ha H0 F1 H1 σ ρ _ _ x1.g (S.ext x1) q1 fun vs F2 H2 as x2 r2 q2 => ?_
  exact h2 _ _ _ _ ⟨F2, as, Qd, x2.g, r2, q2.go, fun v F3 H3 d x3 r3 q3 => k v F3 H3 d (x1.trans (x2.trans x3)) r3 q3⟩
end
/-- a def that a value may be -/
structure HeldG (P : Program) (w : World) (K : PySem.W.Frag) (mg : Str → Option Value) (base : Heap) (CX : CXT) (k : Nat) (f : Addr) (sp : Sp) : Prop where
  ex : ∃ (fd : FuncData) (ps : List Str), FnG P w K mg base CX k f fd ps sp ∧ PySem.W.keepIn K (.ref f) = true ∧ Binds K fd ps []
section
variable {X : Cx} {CX : CXT} {k : Nat} {S : Addr → Sp → Prop} {E : XK} {fe e : Expr} {es : List Expr} {tf : TE} {t : TA} {pos : Pos}
theorem pe_callX (A : ∀ f sp, S f sp → HeldG X.prog X.w X.K X.mg X.base CX k f sp) (hG : X.A.guards = some []) (hr : Room k X.A) (hx : Passes CX X E) (hf : PE X fe tf) (ha : PA X (e :: es) t)
    (hc : eval (.Call fe (e :: es) [] pos) X.env = (do callWith pos (← eval fe X.env) [] (backTo pos (starEach (e :: es) X.env)) (backToKw pos (keywordEach [] X.env))) := by rfl)
    (he : starEach (e :: es) X.env = (false, eval e X.env) :: starEach es X.env := by rfl) (hpl : (backTo pos (starEach es X.env)).any (·.1) = false := by rfl) : PE X (.Call fe (e :: es) [] pos) (tCallX tf S E t) := by
  refine ⟨fun pins s σ H Q I h => ?_⟩
  refine Call_ (thn (hf.run pins s σ H _ I h) fun u s1 ⟨v, H1, I1, r1, f, sp, ev, hS, q1⟩ => ?_) hc
  subst ev
  cases r1
  obtain ⟨fd, ps, F, hk, hb⟩ := (A f sp hS).ex
  refine PySem.W.callWith_K (h₀ := X.base) I1.ok.mod.kin hk (thn (ha.run pos pins s1 σ H1 _ I1 q1) fun us s2 ⟨vs, H2, I2, r, q⟩ => ⟨I2.kIn, ?_⟩) he hpl
  exact run_fnG F hG hr hb .nil hx I2 r (by rw [List.append_nil]; exact q)
end
end VL

set_option Elab.async false
set_option linter.all false
set_option maxRecDepth 100000
set_option maxHeartbeats 4000000
/-! VLGen: the draws' source as a region, defs by names, constants by names, the law's end. -/
namespace VL
open PySem PySem.Spec PyProof.Rows L2

/-! ### the setting with and without a source of draws -/
def sKey (x : Str) : Key := .inr x
def srcKv (c : Addr) (left mixed turn : Int) : List (Key × V) := [(sKey "cells", .ref c), (sKey "left", .int left), (sKey "mixed", .int mixed), (sKey "turn", .int turn)]
structure SrcOk (s c : Addr) (H : Hp) : Prop where
  ne : s ≠ c
  ex : ∃ (left mixed turn : Int) (cells : List Int), H s = some (.dK (srcKv c left mixed turn)) ∧ H c = some (.lst (cells.map V.int)) ∧ cells.length ≤ sizeLine
def cfS : Option (Addr × Addr) → Addr → Prop
  | none, _ => False
  | some p, a => a = p.1 ∨ a = p.2
def cfOk : Option (Addr × Addr) → Hp → Prop
  | none, _ => True
  | some p, H => SrcOk p.1 p.2 H
def cfSrc : Option (Addr × Addr) → Option V
  | none => none
  | some p => some (.ref p.1)
theorem cf_loc : ∀ (o : Option (Addr × Addr)) (H H' : Hp), (∀ a, cfS o a → H' a = H a) → cfOk o H → cfOk o H'
  | none, _, _, _, h => h
  | some (s, c), H, H', e, h => ⟨h.ne, by
    obtain ⟨l, m, t, cs, h1, h2, h3⟩ := h.ex
    exact ⟨l, m, t, cs, (e s (.inl rfl)).trans h1, (e c (.inr rfl)).trans h2, h3⟩⟩
theorem cf_alloc : ∀ (o : Option (Addr × Addr)) (H : Hp) (a : Addr), cfOk o H → cfS o a → H a ≠ none
  | none, _, _, _, h => h.elim
  | some (s, c), H, a, h, hs => by
    obtain ⟨l, m, t, cs, h1, h2, h3⟩ := h.ex
    rcases hs with z | z
    · rw [z, h1]; simp
    · rw [z, h2]; simp
def Cf (K : PySem.W.Frag) (o : Option (Addr × Addr)) : Cfg := ⟨K, cfS o, cfOk o, cfSrc o, cf_loc o, cf_alloc o⟩
/-- a def's promise in every setting -/
def spA (K : PySem.W.Frag) (wp : Wp) : Sp := fun vs H Q E => ∃ o, spS (Cf K o) wp vs H Q E
def spB (K : PySem.W.Frag) (wp : Wp) : Sp := fun vs H Q E => ∃ o, spO (Cf K o) wp vs H Q E
section
variable {K : PySem.W.Frag} {o : Option (Addr × Addr)} {tA : TA} {wp : Wp} {E : XK} {a : DA}
theorem sim_callA (ha : SimA (Cf K o) tA a) : SimE (Cf K o) (tCall (spA K wp) [] E tA) (dCall wp a) := by
  intro H0 F H σ ρ Qd Q g S ht k
  have h := sim_call (wp := wp) (E := E) ha H0 F H σ ρ Qd Q g S ht k
  refine ha H0 F H σ ρ _ _ g S ht fun vs F1 H1 as x1 r1 q1 => ?_
  rw [List.append_nil]
  exact ⟨o, F1, as, Qd, x1.g, r1, q1.go, fun v F2 H2 d x2 r2 q2 => k v F2 H2 d (x1.trans x2) r2 q2⟩
theorem simF_callA (ha : SimA (Cf K o) tA a) : SimF (Cf K o) (tCall (spB K wp) [] E tA) (dCall wp a) := by
  intro H0 F H σ ρ Qd Q g S ht k
  refine ha H0 F H σ ρ _ _ g S ht fun vs F1 H1 as x1 r1 q1 => ?_
  rw [List.append_nil]
  exact ⟨o, F1, as, Qd, x1.g, r1, q1.go, fun v F2 H2 d x2 r2 q2 => k v F2 H2 d (x1.trans x2) (r2.back x1) q2⟩
theorem spA_of {N : List Str} {th : TS} {t : DS} (hs : ∀ o, SimS (Cf K o) th t) (hb : ∀ as Qd, wp as Qd → t (ctlS Qd) (env0 N.length as)) (vs : List V) (H : Hp) (Q : VK) (E : XK) (h : spA K wp vs H Q E) :
    th { nx := fun _ H' => Q .non H', rt := Q } (L2.start N vs) H := by
  obtain ⟨o, h⟩ := h
  exact spS_of (hs o) hb vs H Q E h
theorem spB_of {N : List Str} {th : TS} {t : DS} (hs : ∀ o, SimS (Cf K o) th t) (hb : ∀ as Qd, wp as Qd → t (ctlO Qd) (env0 N.length as)) (vs : List V) (H : Hp) (Q : VK) (E : XK) (h : spB K wp vs H Q E) :
    th { nx := fun _ H' => Q .non H', rt := Q } (L2.start N vs) H := by
  obtain ⟨o, h⟩ := h
  exact spO_of (hs o) hb vs H Q E h
theorem spA_len {n : Nat} (hn : ∀ as Qd, wp as Qd → as.length = n) (vs : List V) (H : Hp) (Q : VK) (E : XK) (h : spA K wp vs H Q E) : vs.length = n := by
  obtain ⟨o, h⟩ := h
  exact spS_len hn vs H Q E h
theorem spB_len {n : Nat} (hn : ∀ as Qd, wp as Qd → as.length = n) (vs : List V) (H : Hp) (Q : VK) (E : XK) (h : spB K wp vs H Q E) : vs.length = n := by
  obtain ⟨o, h⟩ := h
  exact spO_len hn vs H Q E h
end
theorem hu_of {k : Nat} {A : Around} (r : Room k A) : A.units + 200 < cLine := by have := r.un; omega

/-! ### defs by names -/
abbrev CXn : CXT := fun _ _ _ _ _ _ => False
abbrev En : XK := fun _ _ _ => False
theorem passN {X : Cx} {E : XK} : Passes CXn X E := fun _ _ _ _ _ _ _ h => h.elim
structure OkF (P : Program) (w : World) (K : PySem.W.Frag) (mg : Str → Option Value) (base : Heap) (k : Nat) (x : Str) (sp : Sp) : Prop where
  ex : ∃ fd ps, FnG P w K mg base CXn k (He.ga K x) fd ps sp ∧ Binds K fd ps [] ∧ PySem.W.keepIn K (.ref (He.ga K x)) = true ∧ mg x = some (.ref (He.ga K x))
section
variable {P : Program} {w : World} {K : PySem.W.Frag} {mg : Str → Option Value} {base : Heap} {k j : Nat} {x : Str} {sp : Sp}
theorem OkF.mono (G : OkF P w K mg base j x sp) (h : j ≤ k) : OkF P w K mg base k x sp := by
  obtain ⟨fd, ps, F, b, kp, g⟩ := G.ex
  exact ⟨fd, ps, F.mono h, b, kp, g⟩
theorem OkF.held (G : OkF P w K mg base j x sp) (h : j ≤ k) : HeldG P w K mg base CXn k (He.ga K x) sp := by
  obtain ⟨fd, ps, F, b, kp, g⟩ := G.ex
  exact ⟨fd, ps, F.mono h, kp, b⟩
theorem okF_of {st : Stmt} {N ps : List Str} (F : ∃ fd, FunD K x x (defArgs st) (defBody st) (defScope st) [] [] (He.ga K x) fd) (gm : mg x = some (.ref (He.ga K x))) (S : FnScope N ps (defScope st))
    (hb : ∀ (kV doc pm : Value) (an : Option Addr) (cdv ct : Value) (us : List Value), us.length = ps.length → bindArgs (PySem.W.fnOf x x (defArgs st) (defBody st) (defScope st) .none kV doc pm an cdv ct) ⟨us, []⟩ = pure (ps.zip us))
    (len : ∀ vs H Q E, sp vs H Q E → vs.length = ps.length)
    (hbody : ∀ (fd : FuncData) (cdv : Value) (A : Around) (outer : List Env) (s : Shared) (H : Hp) (vs : List V) (Q : VK) (E : XK), A.guards = some [] → Room k (A.deeper (envOfC x (defScope st) s.heap.objs.size (He.ga K x) cdv)) → sp vs H Q E →
      ∃ t, PSs (cxOf CXn P w K mg base N x (defScope st) (He.ga K x) cdv A outer s H E) (defBody st) t ∧ t { nx := fun _ H' => Q .non H', rt := Q } (L2.start N vs) H) : OkF P w K mg base (k + 1) x sp := by
  obtain ⟨fd, F⟩ := F
  exact ⟨fd, ps, fnG_of F S len fun cdv A outer s H vs Q E hg hr h => hbody fd cdv A outer s H vs Q E hg hr h, F.bindsN hb, F.kp, gm⟩
/-- a promise that nobody asks for -/
theorem okF_never {st : Stmt} {ps : List Str} (F : ∃ fd, FunD K x x (defArgs st) (defBody st) (defScope st) [] [] (He.ga K x) fd) (gm : mg x = some (.ref (He.ga K x)))
    (hb : ∀ (kV doc pm : Value) (an : Option Addr) (cdv ct : Value) (us : List Value), us.length = ps.length → bindArgs (PySem.W.fnOf x x (defArgs st) (defBody st) (defScope st) .none kV doc pm an cdv ct) ⟨us, []⟩ = pure (ps.zip us))
    (h : ∀ vs H Q E, ¬ sp vs H Q E) : OkF P w K mg base k x sp := by
  obtain ⟨fd, F⟩ := F
  exact ⟨fd, ps, FnG.never h, F.bindsN hb, F.kp, gm⟩
theorem spA_never {wp : Wp} (h : ∀ as Qd, ¬ wp as Qd) (vs : List V) (H : Hp) (Q : VK) (E : XK) : ¬ spA K wp vs H Q E := fun ⟨_, _, as, Qd, _, _, z, _⟩ => h as Qd z
theorem spB_never {wp : Wp} (h : ∀ as Qd, ¬ wp as Qd) (vs : List V) (H : Hp) (Q : VK) (E : XK) : ¬ spB K wp vs H Q E := fun ⟨_, _, as, Qd, _, _, z, _⟩ => h as Qd z
end
section
variable {X : Cx} {j k : Nat} {sp : Sp} {E : XK} {x : Str} {p pos : Pos} {e fe : Expr} {es : List Expr} {t : TA} {tf : TE}
theorem pe_callO (G : OkF X.prog X.w X.K X.mg X.base j x sp) (hG : X.A.guards = some []) (hr : Room k X.A) (hj : j ≤ k) (hg : Gl X x) (ha : PA X (e :: es) t)
    (hdb : (x == ("__debug__" : Str)) = false := by decide) (he : starEach (e :: es) X.env = (false, eval e X.env) :: starEach es X.env := by rfl) (hpl : (backTo pos (starEach es X.env)).any (·.1) = false := by rfl) :
    PE X (.Call (.Name x p) (e :: es) [] pos) (tCall sp [] En t) := by
  obtain ⟨fd, ps, F, b, kp, g⟩ := G.ex
  exact pe_callG (F.mono hj) hG hr hg g kp b .nil passN ha hdb he hpl
theorem pe_callO0 (G : OkF X.prog X.w X.K X.mg X.base j x sp) (hG : X.A.guards = some []) (hr : Room k X.A) (hj : j ≤ k) (hg : Gl X x)
    (hdb : (x == ("__debug__" : Str)) = false := by decide) : PE X (.Call (.Name x p) [] [] pos) (tCall sp [] En tNil) := by
  obtain ⟨fd, ps, F, b, kp, g⟩ := G.ex
  exact pe_callG0 (F.mono hj) hG hr hg g kp b .nil passN hdb
theorem pe_callXO {S : Addr → Sp → Prop} (A : ∀ f sp, S f sp → HeldG X.prog X.w X.K X.mg X.base CXn k f sp) (hG : X.A.guards = some []) (hr : Room k X.A) (hf : PE X fe tf) (ha : PA X (e :: es) t)
    (hc : eval (.Call fe (e :: es) [] pos) X.env = (do callWith pos (← eval fe X.env) [] (backTo pos (starEach (e :: es) X.env)) (backToKw pos (keywordEach [] X.env))) := by rfl)
    (he : starEach (e :: es) X.env = (false, eval e X.env) :: starEach es X.env := by rfl) (hpl : (backTo pos (starEach es X.env)).any (·.1) = false := by rfl) : PE X (.Call fe (e :: es) [] pos) (tCallX tf S En t) :=
  pe_callX A hG hr passN hf ha hc he hpl
end
/-- the defs that a value may be, by names -/
def tabS (K : PySem.W.Frag) (W : List (Str × Wp)) : Addr → Sp → Prop := fun f sp => ∃ x wp, (x, wp) ∈ W ∧ f = He.ga K x ∧ sp = spA K wp
def tabW (K : PySem.W.Frag) (W : List (Str × Wp)) : List (V × Wp) := W.map fun p => (.ref (He.ga K p.1), p.2)
theorem tab_ok {K : PySem.W.Frag} {o : Option (Addr × Addr)} {W : List (Str × Wp)} (v : V) (wp : Wp) (h : (v, wp) ∈ tabW K W) : ∃ f sp, v = .ref f ∧ tabS K W f sp ∧ ∀ vs H Q E, spS (Cf K o) wp vs H Q E → sp vs H Q E := by
  obtain ⟨p, hp, e⟩ := List.mem_map.mp h
  obtain ⟨x, wp'⟩ := p
  cases e
  exact ⟨_, _, rfl, ⟨x, wp', hp, rfl, rfl⟩, fun vs H Q E z => ⟨o, z⟩⟩
theorem tab_held {P : Program} {w : World} {K : PySem.W.Frag} {mg : Str → Option Value} {base : Heap} {k : Nat} : ∀ {W : List (Str × Wp)}, (∀ p ∈ W, OkF P w K mg base k p.1 (spA K p.2)) → ∀ f sp, tabS K W f sp → HeldG P w K mg base CXn k f sp := by
  rintro W h f sp ⟨x, wp, hm, rfl, rfl⟩
  exact (h _ hm).held (Nat.le_refl _)

/-! ### constants by names -/
mutual
def datB (K : PySem.W.Frag) : PyData → Value → Bool
  | .none, .none => true
  | .bool b, .bool c => b == c
  | .int i, .int j _ => decide (i = j)
  | .str x, .str y _ => decide (x = y) && decide (x.length ≤ sizeLine)
  | .tuple ds, .ref a => match K.lookup a with
    | some ⟨.type c, none, .seq its _, _⟩ => decide (c = "tuple") && (decide (its.size ≤ sizeLine) && datsB K ds its.toList)
    | _ => false
  | _, _ => false
def datsB (K : PySem.W.Frag) : List PyData → List Value → Bool
  | [], [] => true
  | d :: ds, u :: us => datB K d u && datsB K ds us
  | _, _ => false
end
mutual
theorem datB_ok {K : PySem.W.Frag} : ∀ (d : PyData) (u : Value), datB K d u = true → ∃ v, RelV v u ∧ (∀ F, R K F v d) ∧ ∀ ds, d = .tuple ds → ∀ H, tyV K "tuple" v H
  | .none, u, h => by
    cases u with
    | none => exact ⟨.non, rfl, fun _ => .non, fun _ z => nomatch z⟩
    | _ => simp [datB] at h
  | .bool b, u, h => by
    cases u with
    | bool c =>
      have e : b = c := by simpa [datB] using h
      subst e
      exact ⟨.bl b, rfl, fun _ => .bl b, fun _ z => nomatch z⟩
    | _ => simp [datB] at h
  | .int i, u, h => by
    cases u with
    | int j t =>
      have e : i = j := by simpa [datB] using h
      subst e
      exact ⟨.int i, ⟨t, rfl⟩, fun _ => .int i, fun _ z => nomatch z⟩
    | _ => simp [datB] at h
  | .str x, u, h => by
    cases u with
    | str y t =>
      have e : x = y ∧ x.length ≤ sizeLine := by simpa [datB] using h
      obtain ⟨e, l⟩ := e
      subst e
      exact ⟨.str x, ⟨t, rfl⟩, fun _ => .str x l, fun _ z => nomatch z⟩
    | _ => simp [datB] at h
  | .tuple ds, u, h => by
    cases u with
    | ref a =>
      unfold datB at h
      split at h
      · rename_i c its n sl q
        obtain ⟨h1, h2⟩ := Bool.and_eq_true_iff.mp h
        obtain ⟨h3, h4⟩ := Bool.and_eq_true_iff.mp h2
        obtain ⟨vs, rv, rl⟩ := datsB_ok ds its.toList h4
        have hc := of_decide_eq_true h1
        subst hc
        refine ⟨.ref a, rfl, fun F => .tup (.inr ⟨_, its, n, q, rfl, rfl, of_decide_eq_true h3, rv⟩) ?_ (rl F), fun ds' z H => .inr (.inl ⟨rfl, _, q, rfl, rfl⟩)⟩
        rw [← (rl F).length, rv.length, Array.length_toList]
        exact of_decide_eq_true h3
      · cases h
    | _ => simp [datB] at h
  | .list _, u, h => by cases u <;> simp [datB] at h
  | .dict _, u, h => by cases u <;> simp [datB] at h
theorem datsB_ok {K : PySem.W.Frag} : ∀ (ds : List PyData) (us : List Value), datsB K ds us = true → ∃ vs, Vals vs us ∧ ∀ F, RL K F vs ds
  | [], [], _ => ⟨[], .nil, fun _ => .nil⟩
  | [], _ :: _, h => by simp [datsB] at h
  | _ :: _, [], h => by simp [datsB] at h
  | d :: ds, u :: us, h => by
    have h' : datB K d u = true ∧ datsB K ds us = true := by simpa [datsB] using h
    obtain ⟨v, h1, h2, _⟩ := datB_ok d u h'.1
    obtain ⟨vs, h3, h4⟩ := datsB_ok ds us h'.2
    exact ⟨v :: vs, .cons h1 h3, fun F => .cons (h2 F) (h4 F)⟩
end
def conB (K : PySem.W.Frag) (p : Str × PyData) : Bool := match PySem.W.nsIn K mainGlobals p.1 with
  | some (some u) => datB K p.2 u
  | _ => false
/-- the module's name x stands for the data d -/
structure Con (K : PySem.W.Frag) (mg : Str → Option Value) (x : Str) (d : PyData) : Prop where
  ex : ∃ v u, mg x = some u ∧ RelV v u ∧ (∀ F, R K F v d) ∧ ∀ ds, d = .tuple ds → ∀ H, tyV K "tuple" v H
theorem con_ok {K : PySem.W.Frag} {h : Heap} {mg : Str → Option Value} (X : K.In h) (G : h.Ns mainGlobals mg) {p : Str × PyData} (c : conB K p = true) : Con K mg p.1 p.2 := by
  unfold conB at c
  split at c
  · rename_i u e
    obtain ⟨v, h1, h2, h3⟩ := datB_ok _ _ c
    exact ⟨v, u, PySem.W.mg_of X G e, h1, h2, h3⟩
  · cases c

/-! ### what the run of the top is looked at for -/
open He in
def obsV (fa : List Fa) (gs : List (Str × PyData)) (fn : List DefD) (K : PySem.W.Frag) : AlD := (((fa.all fun f => f.ok K) && gs.all fun g => conB K g) && fn.all fun d => d.ok K, fn.map fun d => fnW K d.at_)
open He in
def SaysV (fa : List Fa) (gs : List (Str × PyData)) (fn : List DefD) (K : PySem.W.Frag) : Prop := obsV fa gs fn K = valD fn
open He in
def obsVG (n : Nat) (fa : List Fa) (gs : List (Str × PyData)) (fn : List DefD) (g : Addr → Option Obj) : AlD := obsV fa gs fn (frG g (asD g n))
open He in
def hookV (n : Nat) (fa : List Fa) (gs : List (Str × PyData)) (fn : List DefD) : PySem.W.Hook where
  α := AlD
  obs := fun s => obsVG n fa gs fn s.heap.get?
  val := fun _ => valD fn
  says := fun _ h => ∃ K : PySem.W.Frag, K.In h ∧ SaysV fa gs fn K
  of := fun _ _ e => ⟨_, frG_in, e⟩
  keeps := fun _ _ _ ⟨K, hK, c⟩ k => ⟨K, PySem.W.Frag.In.keeps hK k, c⟩
theorem obsVG_eq {n : Nat} {fa : List He.Fa} {gs : List (Str × PyData)} {fn : List He.DefD} {g : Addr → Option Obj} {s : Shared} (h : ∀ a, g a = s.heap.get? a) : obsVG n fa gs fn g = (hookV n fa gs fn).obs s := by
  have e : g = s.heap.get? := funext h
  subst e
  rfl
section
variable {fa : List He.Fa} {gs : List (Str × PyData)} {fn : List He.DefD} {K : PySem.W.Frag}
theorem SaysV.bools (c : SaysV fa gs fn K) : ((fa.all fun f => f.ok K) = true ∧ (gs.all fun g => conB K g) = true) ∧ (fn.all fun d => d.ok K) = true := by
  have c1 : (((fa.all fun f => f.ok K) && gs.all fun g => conB K g) && fn.all fun d => d.ok K) = true := congrArg (fun z : He.AlD => z.1) c
  simpa only [Bool.and_eq_true] using c1
theorem SaysV.fact (c : SaysV fa gs fn K) (i : Nat) {f : He.Fa} (h : fa[i]? = some f := by rfl) : f.ok K = true := List.all_eq_true.mp c.bools.1.1 f (List.mem_of_getElem? h)
theorem SaysV.con (c : SaysV fa gs fn K) (i : Nat) {g : Str × PyData} (h : gs[i]? = some g := by rfl) : conB K g = true := List.all_eq_true.mp c.bools.1.2 g (List.mem_of_getElem? h)
theorem SaysV.def_ (c : SaysV fa gs fn K) (i : Nat) {d : He.DefD} (h : fn[i]? = some d := by rfl) : ∃ fd, FunD K d.name d.qual d.params d.body d.scope (d.dvs K) (d.kws K) (He.fAd K d.at_) fd := by
  have e : fn.map (fun d => He.fnW K d.at_) = fn.map He.DefD.val := congrArg (fun z : He.AlD => z.2) c
  have e2 : (fn.map fun d => He.fnW K d.at_)[i]? = (fn.map He.DefD.val)[i]? := by rw [e]
  rw [List.getElem?_map, List.getElem?_map, h] at e2
  exact He.DefD.funD (Option.some.inj e2) (List.all_eq_true.mp c.bools.2 d (List.mem_of_getElem? h))
end
end VL
namespace VL
open PySem PySem.Spec PyProof.Rows L2
/-- a def of the module's top -/
def dd (x : Str) (st : Stmt) : He.DefD := ⟨(x, none), x, x, defArgs st, defBody st, defScope st, [], []⟩
/-- what a walk leans on -/
structure Fx (fa : List He.Fa) (gs : List (Str × PyData)) (fn : List He.DefD) (K : PySem.W.Frag) (mg : Str → Option Value) : Prop where
  ex : ∃ h : Heap, K.In h ∧ h.Ns mainGlobals mg ∧ SaysV fa gs fn K
section
variable {fa : List He.Fa} {gs : List (Str × PyData)} {fn : List He.DefD} {K : PySem.W.Frag} {mg : Str → Option Value}
theorem Fx.glo (c : Fx fa gs fn K mg) (i : Nat) (x : Str) (h : fa[i]? = some (.glo x) := by rfl) : mg x = some (.ref (He.ga K x)) := by
  obtain ⟨hp, X, G, s⟩ := c.ex
  exact He.glo_ok X G (s.fact i h)
theorem Fx.free (c : Fx fa gs fn K mg) (i : Nat) (x : Str) (h : fa[i]? = some (.free x) := by rfl) : mg x = none := by
  obtain ⟨hp, X, G, s⟩ := c.ex
  exact He.free_ok X G (s.fact i h)
theorem Fx.con (c : Fx fa gs fn K mg) (i : Nat) (x : Str) (d : PyData) (h : gs[i]? = some (x, d) := by rfl) : Con K mg x d := by
  obtain ⟨hp, X, G, s⟩ := c.ex
  exact con_ok X G (p := (x, d)) (s.con i h)
theorem Fx.fd (c : Fx fa gs fn K mg) (i : Nat) (x : Str) (st : Stmt) (h : fn[i]? = some (dd x st) := by rfl) : ∃ fd, FunD K x x (defArgs st) (defBody st) (defScope st) [] [] (He.ga K x) fd := by
  obtain ⟨hp, X, G, s⟩ := c.ex
  exact s.def_ i h
end
end VL

set_option Elab.async false
set_option linter.all false
set_option maxRecDepth 100000
set_option maxHeartbeats 4000000
/-! VLLib4: += and *= of whole numbers. -/
namespace VL
open PySem PySem.Spec L2
section
variable {C : Cfg}
@[simp] def dAddI : D2 := fun d e Q => match d, e with
  | .int i, .int j => Q (.int (i + j))
  | _, _ => False
theorem so_addI : SimOp C (rI0 fun i j => .int (i + j)) dAddI := by
  intro F H x y d e Qd Q g rx ry h k
  unfold dAddI at h
  split at h
  · cases rp_int rx
    cases rp_int ry
    exact ⟨_, _, rfl, rfl, k _ F H _ (.refl g) (.int _) h⟩
  · exact h.elim
@[simp] def dMulI : D2 := fun d e Q => match d, e with
  | .int i, .int j => CMul i j ∧ Q (.int (i * j))
  | _, _ => False
theorem so_mulI : SimOp C (rI CMul fun i j => .int (i * j)) dMulI := by
  intro F H x y d e Qd Q g rx ry h k
  unfold dMulI at h
  split at h
  · cases rp_int rx
    cases rp_int ry
    exact ⟨_, _, rfl, rfl, h.1, k _ F H _ (.refl g) (.int _) h.2⟩
  · exact h.elim
end
end VL

set_option Elab.async false
set_option linter.all false
set_option maxRecDepth 100000
set_option maxHeartbeats 4000000
/-! VLEnd: from the promise of the law's def to the statement. -/
namespace VL
open PySem PySem.Spec PyProof.Rows L2
/-- the script's object -/
abbrev scrO (vs : List Value) : Obj := { cls := .type "list", data := .seq vs.toArray }
/-- the heap as it is tracked when the law is called: the script alone, locked (nothing, if the module holds it) -/
def scrH (K : PySem.W.Frag) (a : Addr) (vs : List Value) (ns : List Int) : Hp := fun b => if b = a ∧ K.lookup a = none then some (.frz (scrO vs) (.lst (ns.map V.int))) else none
section
variable {P : Program} {w : World} {K : PySem.W.Frag} {mg mb : Str → Option Value} {k : Nat} {fa a : Addr} {fd : FuncData} {x : Str} {sp : Sp} {s : Shared} {vs : List Value} {ns : List Int}
theorem scrH_some {b : Addr} {u : HO} (h : scrH K a vs ns b = some u) : b = a ∧ K.lookup a = none ∧ u = .frz (scrO vs) (.lst (ns.map V.int)) := by
  unfold scrH at h
  split at h
  · rename_i q
    cases h
    exact ⟨q.1, q.2, rfl⟩
  · cases h
theorem scr_only : L2.Only (scrH K a vs ns) := fun b => by
  cases e : scrH K a vs ns b with
  | none => exact .inl rfl
  | some u => exact .inr ⟨_, _, by rw [(scrH_some e).2.2]⟩
theorem scr_ok (ha : s.heap.get? a = some (scrO vs)) (hi : IntsAre vs ns) (hl : ns.length ≤ sizeLine) : HOk P w (scrH K a vs ns) s.heap := fun b u e => by
  obtain ⟨rfl, _, rfl⟩ := scrH_some e
  exact ⟨ha, by rw [List.length_map]; exact hl, vs, _, vals_ints hi, ha⟩
theorem scr_list (KX : K.In s.heap) (ha : s.heap.get? a = some (scrO vs)) (hi : IntsAre vs ns) (hl : ns.length ≤ sizeLine) : SqL K (scrH K a vs ns) a (ns.map V.int) := by
  cases q : K.lookup a with
  | none => exact .inl (.inr ⟨_, if_pos ⟨rfl, q⟩⟩)
  | some o =>
    have e : o = scrO vs := by
      have z := KX a o q
      rw [ha] at z
      exact (Option.some.inj z).symm
    subst e
    exact .inr ⟨_, vs.toArray, _, q, rfl, rfl, rfl, by rw [List.size_toArray, hi.length]; exact hl, by simpa using vals_ints hi⟩
/-- behind the top, with nothing tracked but the script -/
theorem scr_env (KX : K.In s.heap) (G : s.heap.Ns mainGlobals mg) (hb : s.heap.Ns builtinsNs mb) (hbb : ∀ x : Str, x ≠ "__name__" → mb x = bootBuiltins x) (lim : s.heap.NoLimit) (hg : s.gens = #[])
    (ha : s.heap.get? a = some (scrO vs)) (hi : IntsAre vs ns) (hl : ns.length ≤ sizeLine) :
    K.In (hidT s.heap (scrH K a vs ns)) ∧ (hidT s.heap (scrH K a vs ns)).Ns mainGlobals mg ∧ Env0 P w K mg (hidT s.heap (scrH K a vs ns)) callerA [] s (scrH K a vs ns) := by
  have isd : ∀ {b : Addr} {o : Obj} {es : Array DictEntry} {ep : Nat}, s.heap.get? b = some o → o.data = .dict es ep → scrH K a vs ns b = none := fun {b o es ep} e d => by
    cases q : scrH K a vs ns b with
    | none => rfl
    | some u =>
      obtain ⟨rfl, _, _⟩ := scrH_some q
      rw [ha] at e
      obtain rfl := Option.some.inj e
      exact nomatch (show Data.seq vs.toArray _ = Data.dict es ep from d)
  have low : ∀ {b : Addr} {m : Str → Option Value}, s.heap.Ns b m → (hidT s.heap (scrH K a vs ns)).Ns b m := fun {b m} z => by
    obtain ⟨o, es, ep, e, d, r⟩ := z
    exact ⟨o, es, ep, hidT_get e (isd e d), d, r⟩
  have KB : K.In (hidT s.heap (scrH K a vs ns)) := fun b o e => hidT_get (KX b o e) (by
    cases q : scrH K a vs ns b with
    | none => rfl
    | some u =>
      obtain ⟨rfl, z, _⟩ := scrH_some q
      rw [z] at e
      cases e)
  obtain ⟨mc, m1, m2⟩ := lim
  refine ⟨KB, low G, rfl, ⟨KB, low G, ⟨mb, low hb, hbb⟩, mc, low m1, m2⟩, fun b o e => of_hidT e, Nat.le_of_eq (hidT_size _ _), trivial, fun b hm => absurd (show b ∈ ([] : List Addr) from hm) (by simp), scr_ok ha hi hl, .of_eq hg⟩
theorem law_callG (KX : K.In s.heap) (G : s.heap.Ns mainGlobals mg) (hb : s.heap.Ns builtinsNs mb) (hbb : ∀ x : Str, x ≠ "__name__" → mb x = bootBuiltins x) (lim : s.heap.NoLimit) (hg : s.gens = #[])
    (ha : s.heap.get? a = some (scrO vs)) (hi : IntsAre vs ns) (hl : ns.length ≤ sizeLine) (hr : Room k callerA)
    (F : ∀ base : Heap, K.In base → base.Ns mainGlobals mg → FnG P w K mg base CXn k fa fd [x] sp) (hbind : ∀ (s : Shared) (u : Value), BindsTo s fd ⟨[u], []⟩ [(x, u)])
    (hsp : ∀ H : Hp, L2.Only H → SqL K H a (ns.map V.int) → sp [.ref a] H (fun v _ => v = .bl true) fun _ _ _ => False) :
    codeAny (model P w) callerA (.call (.ref fa) ⟨[.ref a], []⟩) (fun r s' => r = .ok (.ret (.bool true)) ∧ OldK s.heap s'.heap ∧ s'.os = s.os ∧ AllBare s'.gens) s := by
  obtain ⟨k1, k2, e0⟩ := scr_env (P := P) (w := w) KX G hb hbb lim hg ha hi hl
  refine codeAny_mono ((F _ k1 k2).run callerA [] s _ ⟨[.ref a], []⟩ [.ref a] [.ref a] _ _ rfl hr e0 (hbind s (.ref a)) (.cons rfl .nil) (hsp _ scr_only (scr_list KX ha hi hl))) fun r s' h => ?_
  match r, h with
  | .error e, h => exact False.elim h
  | .ok .next, h => exact False.elim h
  | .ok .brk, h => exact False.elim h
  | .ok .cont, h => exact False.elim h
  | .ok (.ret u), ⟨v, H', os, bare, un, hok, rv, q⟩ =>
    obtain rfl : v = V.bl true := q
    obtain rfl : u = Value.bool true := rv
    refine ⟨rfl, OldK.of_keep fun b o e => ?_, os, bare⟩
    cases q : scrH K a vs ns b with
    | none => exact un.keep b o e q (fun z => absurd (show b ∈ ([] : List Addr) from z) (by simp)) (by simp)
    | some u =>
      obtain ⟨_, _, z⟩ := scrH_some q
      have t := un.frzs b _ _ (q.trans (congrArg some z))
      have t1 := (hok b _ t).1
      have t2 := (scr_ok (P := P) (w := w) (K := K) ha hi hl b u q)
      subst z
      have t3 := t2.1
      rw [t3] at e
      obtain rfl := Option.some.inj e
      exact t1
end
/-- a law of the text: F gives the written part, the def, its promise -/
theorem end_law {l : PySem.W.OpenLaw} {n k : Nat} {q : Program} {loose : List Str} {XP : (Str → Option Value) → Heap → Prop} {YP : World → Heap → Prop} {d : DefRec} {x : Str} (hn : l.most = some n) (hn2 : n ≤ sizeLine) (hdf : d.params.defaults = []) (hr : Room k callerA)
    (F : ∀ (w : World) (mg : Str → Option Value) (fa : Addr) (h : Heap), YP w h → h.Ns mainGlobals mg → mg d.name = some (.ref fa) → ∃ (K : PySem.W.Frag) (fd : FuncData) (sp : Sp), K.In h ∧ (∀ (s : Shared) (u : Value), BindsTo s fd ⟨[u], []⟩ [(x, u)]) ∧
      (∀ (H : Hp) (a : Addr) (ns : List Int), ns.length ≤ n → L2.Only H → SqL K H a (ns.map V.int) → sp [.ref a] H (fun v _ => v = .bl true) fun _ _ _ => False) ∧ ∀ base : Heap, K.In base → base.Ns mainGlobals mg → FnG l.prog w K mg base CXn k fa fd [x] sp) :
    PySem.W.WalkO q loose XP YP l.row.toRowW d [] (fun f vs => PySem.call f vs) :=
  Att.attach_call hn hdf fun w s₀ s₁ mg mb fa o pm cd doc a vs ns G Y ho hd hcd hmg hobj hints hlen hg => by
    obtain ⟨K, fd, sp, KX, hb, hsp, hF⟩ := F w mg fa _ Y G.T.g hmg
    exact law_callG KX G.T.g G.T.b G.T.builtins G.T.nolimit hg hobj hints (Nat.le_trans hlen hn2) hr hF hb fun H hO hS => hsp H a ns hlen hO hS
end VL

set_option Elab.async false
set_option linter.all false
set_option maxRecDepth 100000
set_option maxHeartbeats 4000000
/-! VLSrc: the source of draws. -/
namespace VL
open PySem PySem.Spec PyProof.Rows L2
/-- a draw: any number below m (0, if there is none) -/
def wpPick (_ : PySem.W.Frag) : Wp := fun as Qd => ∃ m : Int, as = [.s, .d (.int m)] ∧ m < 1073741824 ∧ ∀ r : Int, 0 ≤ r → (r < m ∨ r = 0) → Qd (.int r)
/-- any order of a list or a tuple -/
def wpAnyOrder (_ : PySem.W.Frag) : Wp := fun as Qd => ∃ d ds, as = [.s, .d d] ∧ (d = .list ds ∨ d = .tuple ds) ∧ ds.length < 1073741824 ∧ ∀ es : List PyData, es.Perm ds → Qd (.list es)
def wpNone (_ : PySem.W.Frag) : Wp := fun _ _ => False

theorem ne_cl : ("cells" : Str) ≠ "left" := by decide +kernel
theorem ne_cm : ("cells" : Str) ≠ "mixed" := by decide +kernel
theorem ne_ct : ("cells" : Str) ≠ "turn" := by decide +kernel
theorem ne_lc : ("left" : Str) ≠ "cells" := by decide +kernel
theorem ne_lm : ("left" : Str) ≠ "mixed" := by decide +kernel
theorem ne_lt : ("left" : Str) ≠ "turn" := by decide +kernel
theorem ne_mc : ("mixed" : Str) ≠ "cells" := by decide +kernel
theorem ne_ml : ("mixed" : Str) ≠ "left" := by decide +kernel
theorem ne_mt : ("mixed" : Str) ≠ "turn" := by decide +kernel
theorem ne_tc : ("turn" : Str) ≠ "cells" := by decide +kernel
theorem ne_tl : ("turn" : Str) ≠ "left" := by decide +kernel
theorem ne_tm : ("turn" : Str) ≠ "mixed" := by decide +kernel
section
variable {K : PySem.W.Frag} {s c : Addr} {F H : Hp}
/-- the source's numbers -/
inductive SrcN : Str → Prop
  | left : SrcN "left"
  | mixed : SrcN "mixed"
  | turn : SrcN "turn"
theorem src_get {l m t : Int} {x : Str} (h : SrcN x) : ∃ i : Int, valV (srcKv c l m t) (sKey x) = some (.int i) := by
  cases h
  · exact ⟨l, by simp [valV, srcKv, sKey, List.find?_cons, ne_cl, ne_cm, ne_ct, ne_lc, ne_lm, ne_lt, ne_mc, ne_ml, ne_mt, ne_tc, ne_tl, ne_tm]⟩
  · exact ⟨m, by simp [valV, srcKv, sKey, List.find?_cons, ne_cl, ne_cm, ne_ct, ne_lc, ne_lm, ne_lt, ne_mc, ne_ml, ne_mt, ne_tc, ne_tl, ne_tm]⟩
  · exact ⟨t, by simp [valV, srcKv, sKey, List.find?_cons, ne_cl, ne_cm, ne_ct, ne_lc, ne_lm, ne_lt, ne_mc, ne_ml, ne_mt, ne_tc, ne_tl, ne_tm]⟩
theorem src_left {l m t : Int} : valV (srcKv c l m t) (sKey "left") = some (.int l) := by simp [valV, srcKv, sKey, List.find?_cons, ne_cl, ne_cm, ne_ct, ne_lc, ne_lm, ne_lt, ne_mc, ne_ml, ne_mt, ne_tc, ne_tl, ne_tm]
theorem src_cells {l m t : Int} : valV (srcKv c l m t) (sKey "cells") = some (.ref c) := by simp [valV, srcKv, sKey, List.find?_cons, ne_cl, ne_cm, ne_ct, ne_lc, ne_lm, ne_lt, ne_mc, ne_ml, ne_mt, ne_tc, ne_tl, ne_tm]
theorem src_put {l m t i : Int} {x : Str} (h : SrcN x) : ∃ l' m' t' : Int, putK (srcKv c l m t) (sKey x) (.int i) = srcKv c l' m' t' := by
  cases h
  · exact ⟨i, m, t, by simp [putK, srcKv, sKey, ne_cl, ne_cm, ne_ct, ne_lc, ne_lm, ne_lt, ne_mc, ne_ml, ne_mt, ne_tc, ne_tl, ne_tm]⟩
  · exact ⟨l, i, t, by simp [putK, srcKv, sKey, ne_cl, ne_cm, ne_ct, ne_lc, ne_lm, ne_lt, ne_mc, ne_ml, ne_mt, ne_tc, ne_tl, ne_tm]⟩
  · exact ⟨l, m, i, by simp [putK, srcKv, sKey, ne_cl, ne_cm, ne_ct, ne_lc, ne_lm, ne_lt, ne_mc, ne_ml, ne_mt, ne_tc, ne_tl, ne_tm]⟩
theorem src_putL {l m t i : Int} : putK (srcKv c l m t) (sKey "left") (.int i) = srcKv c i m t := by simp [putK, srcKv, sKey, ne_cl, ne_cm, ne_ct, ne_lc, ne_lm, ne_lt, ne_mc, ne_ml, ne_mt, ne_tc, ne_tl, ne_tm]
theorem srcKv_len {l m t : Int} : (srcKv c l m t).length = 4 := rfl
/-- the source is written -/
theorem Ext.srcPut {l m t : Int} (g : Good (Cf K (some (s, c))) F H) {l' m' t' : Int} (e : H s = some (.dK (srcKv c l m t))) : Ext (Cf K (some (s, c))) F H F (upd H s (.dK (srcKv c l' m' t'))) := by
  have ok : SrcOk s c H := g.ok
  obtain ⟨l0, m0, t0, cs, h1, h2, h3⟩ := ok.ex
  refine ⟨.refl _, ⟨fun b u q => ?_, ?_, g.fs⟩, fun a u q n => ?_, fun a u q => .inl q⟩
  · rw [upd_ne (fun w : b = s => by rw [w, g.fs s (.inl rfl)] at q; cases q)]
    exact g.fh b u q
  · exact ⟨ok.ne, l', m', t', cs, upd_same, by rw [upd_ne (Ne.symm ok.ne)]; exact h2, h3⟩
  · rw [upd_ne (fun w : a = s => n (.inl w))]
    exact q
theorem Ext.cellsPut {cs : List Int} (g : Good (Cf K (some (s, c))) F H) (hl : cs.length ≤ sizeLine) : Ext (Cf K (some (s, c))) F H F (upd H c (.lst (cs.map V.int))) := by
  have ok : SrcOk s c H := g.ok
  obtain ⟨l0, m0, t0, cs0, h1, h2, h3⟩ := ok.ex
  refine ⟨.refl _, ⟨fun b u q => ?_, ?_, g.fs⟩, fun a u q n => ?_, fun a u q => .inl q⟩
  · rw [upd_ne (fun w : b = c => by rw [w, g.fs c (.inr rfl)] at q; cases q)]
    exact g.fh b u q
  · exact ⟨ok.ne, l0, m0, t0, cs, by rw [upd_ne ok.ne]; exact h1, upd_same, hl⟩
  · rw [upd_ne (fun w : a = c => n (.inr w))]
    exact q
end
section
variable {K : PySem.W.Frag} {o : Option (Addr × Addr)} {i : Nat}
theorem so_at {H0 F H : Hp} {σ : St} {ρ : Vn} (S : Slots (Cf K o) H0 F H σ ρ) (e : ρ[i]? = some .so) : ∃ s c, o = some (s, c) ∧ σ[i]? = some (some (.ref s)) := by
  obtain ⟨u, e2, e3, e4⟩ := S.at e
  subst e4
  cases o with
  | none => exact absurd rfl e3
  | some p => exact ⟨p.1, p.2, rfl, e2⟩
/-- source[..]: any number -/
@[simp] def dSrcGet (i : Nat) : DE := fun ρ Q => ρ[i]? = some .so ∧ ∀ n : Int, Q (.int n)
theorem sim_srcGet {x : Str} (hx : SrcN x) : SimE (Cf K o) (tOp (rIxAll K) (tVar i) (tC (.str x))) (dSrcGet i) := by
  intro H0 F H σ ρ Qd Q g S ⟨e, ht⟩ k
  obtain ⟨s, c, rfl, e2⟩ := so_at S e
  obtain ⟨l, m, t, cs, h1, h2, h3⟩ := (show SrcOk s c H from g.ok).ex
  obtain ⟨n, hn⟩ := src_get (c := c) (l := l) (m := m) (t := t) hx
  exact ⟨_, e2, .inr ⟨s, _, sKey x, _, rfl, h1, rfl, hn, k _ F H _ (.refl g) (.int n) (ht n)⟩⟩
/-- source[..] = a number -/
@[simp] def dSrcPut (i : Nat) (t : DE) : DS := fun D ρ => ρ[i]? = some .so ∧ t ρ fun d => ∃ n, d = .int n ∧ D.nx ρ
theorem sims_srcPut {x : Str} {tv : TE} {t : DE} (hx : SrcN x) (h : SimE (Cf K o) tv t) : SimS (Cf K o) (sDPut (tVar i) (tC (.str x)) tv) (dSrcPut i t) := by
  intro F0 H0 F H σ ρ D DH x0 S ⟨e, ht⟩ L
  refine h H0 F H σ ρ _ _ x0.g S ht fun v F1 H1 d x1 r1 ⟨n, ed, q1⟩ => ?_
  subst ed
  have S1 := S.ext x1
  obtain ⟨s, c, rfl, e2⟩ := so_at S1 e
  obtain ⟨l, m, t, cs, h1, h2, h3⟩ := (show SrcOk s c H1 from x1.g.ok).ex
  obtain ⟨l', m', t', ep⟩ := src_put (c := c) (l := l) (m := m) (t := t) (i := n) hx
  have ev : v = .int n := by cases r1; rfl
  subst ev
  have y := Ext.srcPut x1.g (l' := l') (m' := m') (t' := t') h1
  refine ⟨_, e2, s, _, rfl, .inl ⟨_, sKey x, h1, rfl, by rw [srcKv_len, sizeLine_eq]; decide, rfl⟩, ?_⟩
  rw [ep]
  exact L.nx F1 _ σ ρ (x0.trans (x1.trans y)) (S1.ext y) q1
/-! ### one cell after another -/
/-- cells = source['cells']; while source['left'] < 2 and len(cells) > 0: source['left'] = cells.pop() -/
abbrev tFillC (K : PySem.W.Frag) : TT := tAnd (tTest (tOp (rI0 fun i j => .bl (decide (i < j))) (tOp (rIxAll K) (tVar 0) (tC (.str "left"))) (tC (.int 2)))) (tTest (tOp (rI0 fun i j => .bl (decide (j < i))) (tCB (rLenAll K) (tCons (tVar 2) tNil)) (tC (.int 0))))
@[simp] def dFill (b : DS) : DS := fun D ρ => ρ[0]? = some .so ∧ 2 < ρ.length ∧ b D (ρ.set 2 .un)
theorem sims_fill {us : TS} {b : DS} (h : SimS (Cf K o) us b) : SimS (Cf K o)
    (tSeq (tAsg (tOp (rIxAll K) (tVar 0) (tC (.str "cells"))) (gName 2)) (tSeq (tWhile (tFillC K) (sDPut (tVar 0) (tC (.str "left")) (tBM0 K "list" rPop (tVar 2)))) us)) (dFill b) := by
  intro F0 H0 F H σ ρ D DH x0 S ⟨e, hlt, hb⟩ L
  obtain ⟨s, c, rfl, e2⟩ := so_at S e
  obtain ⟨l, m, t, cs, h1, h2, h3⟩ := (show SrcOk s c H from x0.g.ok).ex
  refine ⟨_, e2, .inr ⟨s, _, sKey "cells", _, rfl, h1, rfl, src_cells, ?_⟩⟩
  have e0 : (σ.set 2 (some (V.ref c)))[0]? = some (some (.ref s)) := by rw [List.getElem?_set_ne (by decide)]; exact e2
  have ec : (σ.set 2 (some (V.ref c)))[2]? = some (some (.ref c)) := List.getElem?_set_self (by rw [S.len]; exact hlt)
  have S1 : Slots (Cf K (some (s, c))) H0 F H (σ.set 2 (some (V.ref c))) (ρ.set 2 .un) := S.set 2 (s := .un) trivial fun _ _ w => nomatch w
  refine ⟨fun k σ' H' => σ' = σ.set 2 (some (V.ref c)) ∧ ∃ (l m t : Int) (cs : List Int), k = cs.length ∧ Ext (Cf K (some (s, c))) F0 H0 F H' ∧ Slots (Cf K (some (s, c))) H0 F H' σ' (ρ.set 2 .un) ∧ H' s = some (.dK (srcKv c l m t)) ∧ H' c = some (.lst (cs.map V.int)) ∧ cs.length ≤ sizeLine,
    ⟨_, rfl, l, m, t, cs, rfl, x0, S1, h1, h2, h3⟩, ?_⟩
  rintro k σ' H' ⟨rfl, l, m, t, cs, rfl, x, S', a1, a2, a3⟩
  refine ⟨_, e0, .inr ⟨s, _, sKey "left", _, rfl, a1, rfl, src_left, l, 2, rfl, rfl, _, rfl, ?_⟩⟩
  have done : us DH (σ.set 2 (some (V.ref c))) H' := h F0 H0 F H' _ _ D DH x S' hb L
  by_cases hl : l < 2
  · rw [decide_eq_true hl]
    dsimp only
    rw [if_pos rfl]
    refine ⟨_, ec, .inl ⟨_, _, rfl, .inl ⟨_, SqL.of a2, rfl⟩, _, _, rfl, rfl, _, rfl, ?_⟩⟩
    by_cases hc : 0 < cs.length
    · rw [decide_eq_true (show (0 : Int) < ((cs.map V.int).length : Nat) by rw [List.length_map]; omega)]
      dsimp only
      rw [if_pos rfl]
      refine ⟨fun σ2 H2 => σ2 = σ.set 2 (some (V.ref c)) ∧ ∃ (l m t : Int) (cs' : List Int), cs'.length < cs.length ∧ Ext (Cf K (some (s, c))) F0 H0 F H2 ∧ Slots (Cf K (some (s, c))) H0 F H2 σ2 (ρ.set 2 .un) ∧ H2 s = some (.dK (srcKv c l m t)) ∧ H2 c = some (.lst (cs'.map V.int)) ∧ cs'.length ≤ sizeLine,
        fun σ2 H2 ⟨z, l, m, t, cs', b1, b2⟩ => ⟨cs'.length, b1, z, l, m, t, cs', rfl, b2⟩, ?_⟩
      have hlast : (cs.map V.int)[(cs.map V.int).length - 1]? = some (.int (cs[cs.length - 1]'(by omega))) := by
        rw [List.length_map, List.getElem?_map]
        simp [show cs.length - 1 < cs.length by omega]
      have y1 := Ext.cellsPut x.g (cs := cs.dropLast) (by rw [List.length_dropLast]; omega)
      have n1 : s ≠ c := (show SrcOk s c H' from x.g.ok).ne
      have a1' : upd H' c (.lst (cs.dropLast.map V.int)) s = some (.dK (srcKv c l m t)) := by rw [upd_ne n1]; exact a1
      have y2 := Ext.srcPut y1.g (l' := cs[cs.length - 1]'(by omega)) (m' := m) (t' := t) a1'
      refine ⟨_, ec, .inl ⟨rfl, _, SqL.of a2⟩, c, cs.map V.int, _, rfl, rfl, a2, hlast, _, e0, s, upd (upd H' c (.lst (cs.map V.int).dropLast)) s (.dK (putK (srcKv c l m t) (sKey "left") (.int (cs[cs.length - 1]'(by omega))))), rfl, ?_⟩
      rw [← List.map_dropLast, src_putL]
      refine ⟨.inl ⟨_, sKey "left", a1', rfl, by rw [srcKv_len, sizeLine_eq]; decide, by rw [src_putL]⟩, rfl, cs[cs.length - 1]'(by omega), m, t, cs.dropLast, by rw [List.length_dropLast]; omega, x.trans (y1.trans y2), S'.ext (y1.trans y2), ?_, ?_, by rw [List.length_dropLast]; omega⟩
      · exact upd_same
      · rw [upd_ne (Ne.symm n1)]; exact upd_same
    · rw [decide_eq_false (show ¬ (0 : Int) < ((cs.map V.int).length : Nat) by rw [List.length_map]; omega)]
      dsimp only
      rw [if_neg (by decide)]
      exact done
  · rw [decide_eq_false hl]
    dsimp only
    rw [if_neg (by decide)]
    exact done
/-! ### things popped one after another -/
/-- [xs.pop(pick(source, len(xs))) for lap in range(len(xs))] -/
abbrev tPops (K : PySem.W.Frag) (sp : Sp) : TE := tLc (iRng1 (tCons (tCB (rLenAll K) (tCons (tVar 2) tNil)) tNil)) (gName 3) tYes (tBM K "list" rPopAt (tVar 2) (tCons (tCall sp [] En (tCons (tVar 0) (tCons (tCB (rLenAll K) (tCons (tVar 2) tNil)) tNil))) tNil)) [3]
theorem pops_ok {H0 F H : Hp} {s c p : Addr} {ds : List PyData} {Qd : PyData → Prop} {Q : VK} {σ : St} (x0 : Ext (Cf K (some (s, c))) F H0 F H) (n0 : H0 p = none) (nf : F p = none) (nS : ¬ (Cf K (some (s, c))).S p)
    (e0 : σ[0]? = some (some (.ref s))) (e2 : σ[2]? = some (some (.ref p))) (l3 : 3 < σ.length) {vs : List V} (hp : H p = some (.lst vs)) (hl : ds.length < 1073741824) (hsz : ds.length ≤ sizeLine) (rl : RL K F vs ds) (hq : ∀ es : List PyData, es.Perm ds → Qd (.list es))
    (k : ∀ a F' H' d, Ext (Cf K (some (s, c))) F H0 F' H' → Own (Cf K (some (s, c))) H0 F' H' a d → Qd d → Q (.ref a) H') : tPops K (spA K (wpPick K)) σ H Q := by
  have hn := rl.length
  have hs16 := sizeLine_eq
  refine ⟨_, e2, .inl ⟨_, _, rfl, .inl ⟨vs, SqL.of hp, rfl⟩, (vs.length : Int), rfl, by omega, by omega, ?_⟩⟩
  intro D hD
  have hD0 : H0 D = none := x0.free hD
  have nD : ¬ (Cf K (some (s, c))).S D := x0.g.noS hD
  have hDp : D ≠ p := fun w => by rw [w, hp] at hD; cases hD
  have w3 : L2.wipe σ [3] = σ.set 3 none := rfl
  have e0' : (L2.wipe σ [3])[0]? = some (some (.ref s)) := by rw [w3, List.getElem?_set_ne (by decide)]; exact e0
  have e2' : (L2.wipe σ [3])[2]? = some (some (.ref p)) := by rw [w3, List.getElem?_set_ne (by decide)]; exact e2
  refine ⟨fun i m Hi => m = ds.length - i ∧ i ≤ ds.length ∧ ∃ (Fi : Hp) (acc xs : List V) (as bs : List PyData), Ext (Cf K (some (s, c))) F H0 Fi Hi ∧ Fi D = none ∧ Fi p = none ∧ Hi D = some (.lst acc) ∧ Hi p = some (.lst xs) ∧ RL K Fi acc as ∧ RL K Fi xs bs ∧ as.length = i ∧ bs.length = ds.length - i ∧ (as ++ bs).Perm ds,
    ⟨_, rfl, Nat.zero_le _, F, [], vs, [], ds, x0.updO hD0 (x0.g.fnone hD) nD, x0.g.fnone hD, nf, upd_same, by rw [upd_ne (Ne.symm hDp)]; exact hp, .nil, rl, rfl, by omega, .refl _⟩, ?_⟩
  rintro i m Hi ⟨rfl, hle, Fi, acc, xs, as, bs, xi, fD, fp, eD, ep, ra, rb, la, lb, pm⟩
  have lra := ra.length
  have lrb := rb.length
  by_cases hlt : i < ds.length
  · refine .inr ⟨by show i < _; simp; omega, fun H' => i + 1 ≤ ds.length ∧ ∃ (Fi : Hp) (acc xs : List V) (as bs : List PyData), Ext (Cf K (some (s, c))) F H0 Fi H' ∧ Fi D = none ∧ Fi p = none ∧ H' D = some (.lst acc) ∧ H' p = some (.lst xs) ∧ RL K Fi acc as ∧ RL K Fi xs bs ∧ as.length = i + 1 ∧ bs.length = ds.length - (i + 1) ∧ (as ++ bs).Perm ds,
      fun H' ⟨a, b⟩ => ⟨ds.length - (i + 1), by omega, rfl, a, b⟩, fun y H' hy => ?_⟩
    obtain ⟨rfl, rfl⟩ := hy
    have z0 : ((L2.wipe σ [3]).set 3 (some (V.int (0 + (i : Nat)))))[0]? = some (some (.ref s)) := by rw [List.getElem?_set_ne (by decide)]; exact e0'
    have z2 : ((L2.wipe σ [3]).set 3 (some (V.int (0 + (i : Nat)))))[2]? = some (some (.ref p)) := by rw [List.getElem?_set_ne (by decide)]; exact e2'
    refine ⟨?_, ?_⟩
    · show List.set (List.set (List.set σ 3 none) 3 (some (V.int (0 + (i : Nat))))) 3 none = List.set σ 3 none
      rw [List.set_set, List.set_set]
    · simp only [tYes, if_true]
      refine ⟨_, z2, .inl ⟨rfl, _, SqL.of ep⟩, ?_⟩
      refine ⟨_, z0, _, z2, .inl ⟨_, _, rfl, .inl ⟨xs, SqL.of ep, rfl⟩, ?_⟩⟩
      refine ⟨some (s, c), Fi, [.s, .d (.int (xs.length : Nat))], fun d => ∃ r : Int, d = .int r ∧ 0 ≤ r ∧ (r < (xs.length : Nat) ∨ r = 0), xi.g, .cons rfl (.cons (R.int _) .nil), ⟨_, rfl, by omega, fun r h0 h1 => ⟨r, rfl, h0, h1⟩⟩, fun v F3 H3 d x3 r3 ⟨r, ed, h0, h1⟩ => ?_⟩
      subst ed
      obtain rfl : v = .int r := by cases r3; rfl
      have nS' : ¬ (Cf K (some (s, c))).S p := nS
      have ep3 := x3.hh p _ ep nS'
      have eD3 := x3.hh D _ eD nD
      have hr : r.toNat < xs.length := by omega
      have hx : xs[r.toNat]? = some xs[r.toNat] := List.getElem?_eq_getElem hr
      obtain ⟨d, hd, rd⟩ := rb.get hx
      have fp3 : F3 p = none := by
        cases q : F3 p with
        | none => rfl
        | some w =>
          rcases x3.nw p w q with z | z
          · rw [fp] at z; cases z
          · rw [ep] at z; cases z
      have fD3 : F3 D = none := by
        cases q : F3 D with
        | none => rfl
        | some w =>
          rcases x3.nw D w q with z | z
          · rw [fD] at z; cases z
          · rw [eD] at z; cases z
      have hlt' : r.toNat < bs.length := by omega
      refine ⟨p, xs, r, r.toNat, _, rfl, rfl, ep3, by omega, by omega, ?_, hx, acc, by rw [upd_ne hDp]; exact eD3, by omega, hlt, F3, acc ++ [xs[r.toNat]], xs.eraseIdx r.toNat, as ++ [d], bs.eraseIdx r.toNat, ?_, fD3, fp3, upd_same, ?_, ?_, ?_, ?_, ?_, ?_⟩
      · unfold seqIndex?
        simp
        omega
      · exact ((xi.trans x3).updO n0 fp3 nS').updO hD0 fD3 nD
      · rw [upd_ne (Ne.symm hDp)]; exact upd_same
      · exact (ra.mono x3.ff).snoc (rd.mono x3.ff)
      · exact (rb.mono x3.ff).eraseIdx _
      · rw [List.length_append, la]; rfl
      · rw [List.length_eraseIdx_of_lt hlt']; omega
      · have hb2 : bs = bs.take r.toNat ++ d :: bs.drop (r.toNat + 1) := by
          have e1 : bs[r.toNat] = d := by rw [List.getElem?_eq_getElem hlt'] at hd; exact Option.some.inj hd
          rw [← e1]
          simp
        rw [List.eraseIdx_eq_take_drop_succ]
        refine List.Perm.trans ?_ pm
        conv => rhs; rw [hb2]
        rw [List.append_assoc]
        exact List.Perm.append_left as (by rw [List.singleton_append]; exact List.perm_middle.symm)
  · have e : i = ds.length := by omega
    subst e
    have hb : bs = [] := List.eq_nil_of_length_eq_zero (by omega)
    subst hb
    rw [List.append_nil] at pm
    exact .inl ⟨by show _ ≤ _; simp; omega, k D Fi Hi (.list as) xi ⟨fD, hD0, nD, acc, eD, by omega, ra⟩ (hq as pm)⟩
/-- xs = list(things); return [xs.pop(..) ..] -/
def dAnyO : DS := fun D ρ => ρ[0]? = some .so ∧ 3 < ρ.length ∧ ∃ d ds, ρ[1]? = some (.sh d) ∧ (d = .list ds ∨ d = .tuple ds) ∧ ds.length < 1073741824 ∧ ∀ es : List PyData, es.Perm ds → D.rt (.sh (.list es))
theorem sims_anyO : SimS (Cf K o) (tSeq (tAsg (tCB (rListOf K) (tCons (tVar 1) tNil)) (gName 2)) (tRet (tPops K (spA K (wpPick K))))) dAnyO := by
  intro F0 H0 F H σ ρ D DH x0 S ⟨e, hlt, d, ds, ed, hd, hl, ht⟩ L
  have hv : dB dListF (lCons (dVarP 1) lNil) ρ fun z => z = .list ds := by
    unfold dB lCons dVarP lNil
    rw [ed]
    rcases hd with rfl | rfl
    · exact rfl
    · exact rfl
  refine (simF_b sbF_list (sim_pcons (sim_varP (i := 1)) sim_pnil)) H0 F H σ ρ _ _ x0.g S hv fun p F1 H1 z x1 o1 q1 => ?_
  subst q1
  obtain ⟨s, c, rfl, e2⟩ := so_at S e
  obtain ⟨vs, hp, hsz, rl⟩ := o1.ct
  have y : Ext (Cf K (some (s, c))) F1 H F1 H1 := ⟨.refl _, x1.g, x1.hh, fun a o e => .inl e⟩
  refine pops_ok (H0 := H) (F := F1) (Qd := fun z => D.rt (.sh z)) y o1.n0 o1.nf o1.ns (by rw [List.getElem?_set_ne (by decide)]; exact e2) (List.getElem?_set_self (by rw [S.len]; omega)) (by rw [List.length_set, S.len]; exact hlt) hp hl hsz rl ht fun a F' H' d' x2 o2 q2 => ?_
  have x3 : Ext (Cf K (some (s, c))) F H F' H' := ⟨x1.ff.trans x2.ff, x2.g, x2.hh, fun b o e => by
    rcases x2.nw b o e with w | w
    · exact x1.nw b o w
    · exact .inr w⟩
  obtain ⟨F'', x4, r4⟩ := freeze x3 ⟨o2.nf, o2.n0, o2.ns, o2.ct⟩
  exact L.rt F'' H' _ (.sh d') (x0.trans x4) r4 q2
end
end VL
namespace VL
open PySem PySem.Spec PyProof.Rows L2
/-! ### the source made of the script -/
abbrev Gr (H H' : Hp) : Prop := ∀ b u, H b = some u → H' b = some u
theorem sqL_mono {K : PySem.W.Frag} {H H' : Hp} {a : Addr} {xs : List V} (h : Gr H H') (s : SqL K H a xs) : SqL K H' a xs := by
  rcases s with (s | ⟨o, s⟩) | s
  · exact .inl (.inl (h _ _ s))
  · exact .inl (.inr ⟨o, h _ _ s⟩)
  · exact .inr s
theorem Gr.upd {H H' : Hp} (h : Gr H H') {p : Addr} {o : HO} (hp : H p = none) : Gr H (upd H' p o) := fun b u e => by
  rw [upd_ne (fun w : b = p => by rw [w, hp] at e; cases e)]
  exact h b u e
theorem Gr.free {H H' : Hp} (h : Gr H H') {p : Addr} (hp : H' p = none) : H p = none := by
  cases e : H p with
  | none => rfl
  | some u => rw [h p u e] at hp; cases hp
/-- mixed = int(mixed * 69069 + cell * 31 + 5) % 2147483629 -/
abbrev tStir (K : PySem.W.Frag) : TS := tAsg (tOp (rI (fun _ j => 0 < j) fun i j => .int (i % j)) (tCB rIntAll (tCons (tOp (rAddAll K) (tOp (rAddAll K) (tOp (rMulAll K) (tVar 1) (tC (.int 69069))) (tOp (rMulAll K) (tVar 2) (tC (.int 31)))) (tC (.int 5))) tNil)) (tC (.int 2147483629))) (gName 1)
abbrev tAbsL (K : PySem.W.Frag) : TE := tLc (iAny K (tVar 0)) (gName 2) tYes (tCB rAbs (tCons (tVar 2) tNil)) [2]
abbrev tSrcD (te : TE) : TE := tDisp [(tC (.str "cells"), te), (tC (.str "left"), tC (.int 1)), (tC (.str "mixed"), tVar 1), (tC (.str "turn"), tC (.int 0))]
section
variable {K : PySem.W.Frag} {H : Hp} {a : Addr} {ns : List Int} {σ : St}
theorem stir_ok {D : Ends} {n : Int} (hs : SqL K H a (ns.map V.int)) (h0 : σ[0]? = some (some (.ref a))) (h1 : σ[1]? = some (some (.int n))) (l2 : 2 < σ.length)
    (k : ∀ σ' (m : Int), σ'.length = σ.length → σ'[0]? = some (some (.ref a)) → σ'[1]? = some (some (.int m)) → D.nx σ' H) : tFor (iAny K (tVar 0)) (gName 2) (tStir K) D σ H := by
  refine ⟨_, h0, .lst a, _, rfl, hs, ?_⟩
  refine for_it walk_list (fun _ σ' H' => H' = H ∧ σ'.length = σ.length ∧ σ'[0]? = some (some (.ref a)) ∧ ∃ m : Int, σ'[1]? = some (some (.int m))) ⟨rfl, rfl, h0, n, h1⟩ (fun i σ' H' _ h => h.1 ▸ hs) (fun i x σ' H' H'' hi ⟨e, l, g0, m, g1⟩ y => ?_) fun σ' H' ⟨e, l, g0, m, g1⟩ => ?_
  · obtain ⟨e2, hx⟩ := y
    subst e e2
    rw [List.getElem?_map] at hx
    cases hn : ns[i]? with
    | none => rw [hn] at hx; cases hx
    | some z =>
      rw [hn] at hx
      obtain rfl : V.int z = x := Option.some.inj hx
      have q1 : (σ'.set 2 (some (V.int z)))[1]? = some (some (.int m)) := by rw [List.getElem?_set_ne (by decide)]; exact g1
      have q2 : (σ'.set 2 (some (V.int z)))[2]? = some (some (.int z)) := List.getElem?_set_self (by omega)
      have big : (0 : Int) < 2147483629 := by decide
      refine ⟨_, q1, .inl (.inl ⟨_, _, rfl, rfl, .inr ⟨by decide, by decide⟩, ?_⟩)⟩
      refine ⟨_, q2, .inl (.inl ⟨_, _, rfl, rfl, .inr ⟨by decide, by decide⟩, ?_⟩)⟩
      refine .inl (.inl (.inl ⟨_, _, rfl, rfl, .inl (.inl (.inl ⟨_, _, rfl, rfl, ?_⟩))⟩))
      refine .inl (.inl ⟨_, rfl, _, _, rfl, rfl, big, ?_⟩)
      refine ⟨rfl, by rw [List.length_set, List.length_set]; exact l, by rw [List.getElem?_set_ne (by decide), List.getElem?_set_ne (by decide)]; exact g0, _, List.getElem?_set_self (by rw [List.length_set]; omega)⟩
  · subst e
    exact k σ' m l g0 g1
theorem abs_ok {Q : VK} (hl : ns.length ≤ 1000) (hs : SqL K H a (ns.map V.int)) (h0 : σ[0]? = some (some (.ref a))) (l2 : 2 < σ.length)
    (k : ∀ D H' (cs : List Int), H D = none → Gr H H' → cs.length ≤ ns.length → H' D = some (.lst (cs.map V.int)) → Q (.ref D) H') : tAbsL K σ H Q := by
  refine ⟨_, h0, .lst a, _, rfl, hs, ?_⟩
  intro D hD
  have e2 := sizeLine_eq
  refine lc_it walk_list (fun i H' => Gr H H' ∧ ∃ cs : List Int, cs.length ≤ i ∧ i ≤ ns.length ∧ H' D = some (.lst (cs.map V.int))) ⟨Gr.upd (fun b u e => e) hD, [], Nat.le_refl _, Nat.zero_le _, upd_same⟩ (fun i H' _ h => sqL_mono h.1 hs) (fun i x H' H'' hi ⟨g, cs, c1, c2, c3⟩ y => ?_) fun H' ⟨g, cs, c1, c2, c3⟩ => k D H' cs hD g (by simpa using c1) c3
  obtain ⟨e, hx⟩ := y
  subst e
  rw [List.getElem?_map] at hx
  cases hn : ns[i]? with
  | none => rw [hn] at hx; cases hx
  | some z =>
    rw [hn] at hx
    obtain rfl : V.int z = x := Option.some.inj hx
    have hi' : i < ns.length := by simpa using hi
    refine ⟨by show List.set (List.set (List.set σ 2 none) 2 _) 2 none = List.set σ 2 none; rw [List.set_set, List.set_set], ?_⟩
    simp only [tYes, if_true]
    refine ⟨_, List.getElem?_set_self (by rw [wipe_length]; exact l2), z, rfl, cs.map V.int, c3, by rw [List.length_map]; omega, Gr.upd g hD, cs ++ [if z < 0 then -z else z], by rw [List.length_append]; simp; omega, hi', ?_⟩
    rw [upd_same, List.map_append]
    rfl
theorem srcD_ok {te : TE} {Q : VK} {n : Int} (h1 : σ[1]? = some (some (.int n)))
    (ht : ∀ H', Gr H H' → ∀ R : VK, (∀ (c : Addr) (H2 : Hp) (cs : List Int), H' c = none → Gr H' H2 → cs.length ≤ sizeLine → H2 c = some (.lst (cs.map V.int)) → R (.ref c) H2) → te σ H' R)
    (k : ∀ (s c : Addr) (H' : Hp), H s = none → H c = none → Gr H H' → SrcOk s c H' → Q (.ref s) H') : tSrcD te σ H Q := by
  intro p hp
  have g0 : Gr H (upd H p (.dK [])) := Gr.upd (fun b u e => e) hp
  refine ht _ g0 _ fun c H2 cs hc g hl hH => ?_
  have ncp : c ≠ p := fun w => by rw [w, upd_same] at hc; cases hc
  refine ⟨_, h1, ?_⟩
  have e2 := g p _ upd_same
  refine ⟨e2, srcKv c 1 n 0, rfl, by rw [srcKv_len]; decide, ?_⟩
  have em : mergeK [] (srcKv c 1 n 0) = srcKv c 1 n 0 := by
    rw [merge_nodup _ [] (by simp [srcKv, sKey, ne_cl, ne_cm, ne_ct, ne_lm, ne_lt, ne_mt])]
    rfl
  rw [em]
  have gg : Gr H (upd H2 p (.dK (srcKv c 1 n 0))) := Gr.upd (fun b u e => g b u (g0 b u e)) hp
  exact k p c _ hp (g0.free hc) gg ⟨Ne.symm ncp, 1, n, 0, cs, upd_same, by rw [upd_ne ncp]; exact hH, hl⟩
/-- what the def that makes the source promises -/
def spOpen (K : PySem.W.Frag) : Sp := fun vs H Q _ => ∃ (a : Addr) (ns : List Int), vs = [.ref a] ∧ SqL K H a (ns.map V.int) ∧ ns.length ≤ 63 ∧ ∀ (s c : Addr) (H' : Hp), H s = none → H c = none → Gr H H' → SrcOk s c H' → Q (.ref s) H'
theorem open_ok (vs : List V) (H : Hp) (Q : VK) (E : XK) (h : spOpen K vs H Q E) :
    tSeq (tAsg (tC (.int 11)) (gName 1)) (tSeq (tFor (iAny K (tVar 0)) (gName 2) (tStir K)) (tSeq (tAsg (tAbsL K) (gName 3)) (tRet (tSrcD (tRevL K (tVar 3)))))) { nx := fun _ H' => Q .non H', rt := Q } (L2.start ["script", "stirred", "cell", "cells"] vs) H := by
  obtain ⟨a, ns, rfl, hs, hl, k⟩ := h
  refine stir_ok (σ := [some (.ref a), some (.int 11), none, none]) (n := 11) hs rfl rfl (by simp) fun σ' m l g0 g1 => ?_
  have l' : σ'.length = 4 := l
  show tAbsL K σ' H (fun v H1 => tRet (tSrcD (tRevL K (tVar 3))) { nx := fun _ H' => Q .non H', rt := Q } (σ'.set 3 (some v)) H1)
  refine abs_ok (ns := ns) (by omega) hs g0 (by omega) fun D H' cs hD g hc hH => ?_
  have e2 := sizeLine_eq
  refine srcD_ok (n := m) (by rw [List.getElem?_set_ne (by decide)]; exact g1) (fun H2 g2 R hR => ?_) fun s c H2 hs' hc' g2 ok => k s c H2 (g.free hs') (g.free hc') (fun b u e => g2 b u (g b u e)) ok
  refine ⟨_, List.getElem?_set_self (by omega), D, _, rfl, SqL.of (g2 _ _ hH), fun p hp => ?_⟩
  refine hR p _ cs.reverse hp (Gr.upd (fun b u e => e) hp) (by rw [List.length_reverse]; omega) ?_
  rw [upd_same, List.map_reverse]
end
end VL
namespace VL
open PySem PySem.Spec PyProof.Rows L2
section
variable {P : Program} {w : World} {K : PySem.W.Frag} {mg : Str → Option Value} {base : Heap} {k : Nat} {x : Str} {sp sp' : Sp}
theorem OkF.imp (G : OkF P w K mg base k x sp) (h : ∀ vs H Q E, sp' vs H Q E → sp vs H Q E) : OkF P w K mg base k x sp' := by
  obtain ⟨fd, ps, F, b, kp, g⟩ := G.ex
  exact ⟨fd, ps, F.imp h, b, kp, g⟩
theorem spA_imp {wp wp' : Wp} (h : ∀ as Qd, wp' as Qd → wp as Qd) (vs : List V) (H : Hp) (Q : VK) (E : XK) (q : spA K wp' vs H Q E) : spA K wp vs H Q E := by
  obtain ⟨o, F, as, Qd, g, r, a, k⟩ := q
  exact ⟨o, F, as, Qd, g, r, h as Qd a, k⟩
/-- the law's promise -/
def spLaw (K : PySem.W.Frag) : Sp := fun vs H Q _ => ∃ (a : Addr) (ns : List Int), vs = [.ref a] ∧ SqL K H a (ns.map V.int) ∧ ns.length ≤ 63 ∧ L2.Only H ∧ ∀ H', Q (.bl true) H'
theorem law_start {th : TS} {t : DS} {N : List Str} (hN : 2 ≤ N.length) (hs : ∀ s c, SimS (Cf K (some (s, c))) th t) (hb : t (ctlS fun d => d = .bool true) (.un :: .so :: List.replicate (N.length - 2) .un)) (vs : List V) (H : Hp) (Q : VK) (E : XK) (h : spLaw K vs H Q E) :
    tSeq (tAsg (tCall (spOpen K) [] En (tCons (tVar 0) tNil)) (gName 1)) th { nx := fun _ H' => Q .non H', rt := Q } (L2.start N vs) H := by
  obtain ⟨a, ns, rfl, hq, hl, hO, hQ⟩ := h
  have e0 : (L2.start N [.ref a])[0]? = some (some (V.ref a)) := rfl
  have ln : (L2.start N [.ref a]).length = N.length := by unfold L2.start; simp; omega
  refine ⟨_, e0, a, ns, rfl, hq, hl, fun s c H' hs' hc' g ok => ?_⟩
  have el : L2.start N [.ref a] = some (V.ref a) :: none :: List.replicate (N.length - 2) none := by
    unfold L2.start
    have : N.length - [V.ref a].length = (N.length - 2) + 1 := by simp; omega
    rw [this, List.replicate_succ]
    rfl
  have gd : Good (Cf K (some (s, c))) (fun _ => none) H' := ⟨fun b u e => (nomatch e), ok, fun _ _ => rfl⟩
  have S : Slots (Cf K (some (s, c))) H' (fun _ => none) H' ((L2.start N [.ref a]).set 1 (some (V.ref s))) (.un :: .so :: List.replicate (N.length - 2) .un) := by
    rw [el]
    refine ⟨by simp, fun i t u e1 e2 => ?_, fun i j b d e _ e1 _ _ _ => ?_⟩
    · match i with
      | 0 => cases e1; trivial
      | 1 =>
        cases e1
        cases e2
        exact ⟨fun w => (nomatch (show some (V.ref s) = none from w)), rfl⟩
      | i + 2 =>
        rw [List.getElem?_cons_succ, List.getElem?_cons_succ, List.getElem?_replicate] at e1
        split at e1
        · cases e1; trivial
        · cases e1
    · match i with
      | 0 => cases e1
      | 1 => cases e1
      | i + 2 =>
        rw [List.getElem?_cons_succ, List.getElem?_cons_succ, List.getElem?_replicate] at e1
        split at e1
        · cases e1
        · cases e1
  refine hs s c _ _ _ _ _ _ _ _ (.refl gd) S hb ⟨fun F2 H2 σ2 ρ2 _ _ q => ?_, fun F2 H2 v rv _ r q => ?_, fun _ _ _ _ _ _ q => q.elim, fun _ _ _ _ _ _ q => q.elim⟩
  · cases (show PyData.none = PyData.bool true from q)
  · cases rv with
    | sh d =>
      have e : d = .bool true := q
      subst e
      cases r
      exact hQ H2
    | ow d =>
      have e : d = .bool true := q
      subst e
      obtain ⟨p, _, o⟩ := r
      exact o.ct.elim
end
end VL
namespace VL
open PySem PySem.Spec PyProof.Rows L2
theorem spOpen_len {K : PySem.W.Frag} (vs : List V) (H : Hp) (Q : VK) (E : XK) (h : spOpen K vs H Q E) : vs.length = 1 := by
  obtain ⟨a, ns, rfl, _⟩ := h
  rfl
theorem spLaw_len {K : PySem.W.Frag} (vs : List V) (H : Hp) (Q : VK) (E : XK) (h : spLaw K vs H Q E) : vs.length = 1 := by
  obtain ⟨a, ns, rfl, _⟩ := h
  rfl
theorem anyO_len {K : PySem.W.Frag} (as : List AV) (Qd : PyData → Prop) (h : wpAnyOrder K as Qd) : as.length = 2 := by
  obtain ⟨d, ds, rfl, _⟩ := h
  rfl
theorem anyO_wp {K : PySem.W.Frag} (as : List AV) (Qd : PyData → Prop) (h : wpAnyOrder K as Qd) : dAnyO (ctlS Qd) (env0 4 as) := by
  obtain ⟨d, ds, rfl, h1, h2, h3⟩ := h
  exact ⟨rfl, by show 3 < 4; decide, d, ds, rfl, h1, h2, h3⟩
end VL

set_option Elab.async false
set_option linter.all false
set_option maxRecDepth 100000
set_option maxHeartbeats 4000000
/-! VLK: the rules with the module's part named (within a comprehension's block it may not hang on the block). -/
namespace VL
open PySem PySem.Spec L2
section
variable {X : Cx} (K : PySem.W.Frag)
theorem opK (r : PySem.W.Frag → R2) {f : Value → Value → Sem Value} (h : OpR X f (r X.K)) (hK : X.K = K) : OpR X f (r K) := by subst hK; exact h
theorem ixK (r : PySem.W.Frag → R2) (h : IxR X (r X.K)) (hK : X.K = K) : IxR X (r K) := by subst hK; exact h
theorem slK (r : PySem.W.Frag → V → Option Int → Option Int → Hp → VK → Prop) (h : SlR X (r X.K)) (hK : X.K = K) : SlR X (r K) := by subst hK; exact h
theorem callK (r : PySem.W.Frag → List V → Hp → VK → Prop) {f : Value} (h : CallR X f (r X.K)) (hK : X.K = K) : CallR X f (r K) := by subst hK; exact h
theorem mtK (r : PySem.W.Frag → V → List V → Hp → VK → Prop) {id : String} (h : MtR X id (r X.K)) (hK : X.K = K) : MtR X id (r K) := by subst hK; exact h
variable {a b e o tg : Expr} {es rest : List Expr} {ta tb te to : TE} {t : TA} {pos p apos cpos tpos : Pos}
theorem pe_andK (ha : PE X a ta) (hb : PE X (.BoolOp .And (b :: rest) pos) tb) (hK : X.K = K) : PE X (.BoolOp .And (a :: b :: rest) pos) (tAndT K ta tb) := by subst hK; exact pe_andT ha hb
theorem pe_orK (ha : PE X a ta) (hb : PE X (.BoolOp .Or (b :: rest) pos) tb) (hK : X.K = K) : PE X (.BoolOp .Or (a :: b :: rest) pos) (tOrT K ta tb) := by subst hK; exact pe_orT ha hb
theorem pe_notK (ha : PE X a ta) (hK : X.K = K) : PE X (.UnaryOp .Not a pos) (tNotT K ta) := by subst hK; exact pe_notT ha
def tTru (K : PySem.W.Frag) (ta : TE) : TT := fun σ H Q => ta σ H fun x H' => ∃ k, TruV K x H' k ∧ Q k H'
theorem pt_truK (ha : PE X a ta) (he : ∀ whole, isTrue a X.env whole = (do let v ← whole; standAt a.pos; holding [v] (truthy v))) (hK : X.K = K) : PT X a (tTru K ta) := by subst hK; exact pt_truth ha he
theorem sim_truK {C : Cfg} {th : TE} {t : DE} (h : SimP C th t) : SimT C (tTru C.K th) (dTru t) := sim_tru h
theorem pi_anyK (he : PE X e te) (hK : X.K = K) : PI X tg e (iAny K te) := by subst hK; exact pi_any he
theorem pi_enumK {elts : List Expr} {kk : Nat} (hg : Gl X "enumerate") (hm : X.mg "enumerate" = none) (ha : PA X [e] t) (hK : X.K = K) (hs : starEach [e] X.env = [(false, eval e X.env)] := by rfl) :
    PI X (.Tuple elts kk tpos) (.Call (.Name "enumerate" p) [e] [] pos) (iEnumA K t) := by subst hK; exact pi_enumA hg hm ha hs
theorem pi_zipK {e2 : Expr} {elts : List Expr} {kk : Nat} (hg : Gl X "zip") (hm : X.mg "zip" = none) (ha : PA X [e, e2] t) (hK : X.K = K) (hs : starEach [e, e2] X.env = (false, eval e X.env) :: starEach [e2] X.env := by rfl)
    (hpl : (backTo pos (starEach [e2] X.env)).any (·.1) = false := by rfl) : PI X (.Tuple elts kk tpos) (.Call (.Name "zip" p) [e, e2] [] pos) (iZipA K t) := by subst hK; exact pi_zipA hg hm ha hs hpl
theorem pa_starK (he : PE X e te) (hr : PA X es t) (hK : X.K = K) (hs : starEach (.Starred e p :: es) X.env = (true, eval e X.env) :: starEach es X.env := by rfl) : PA X (.Starred e p :: es) (StX.tStar K te t) := by subst hK; exact StX.pa_star he hr hs
theorem pe_revK {k : Nat} {p1 p2 p3 : Pos} (he : PE X e te) (hK : X.K = K) : PE X (.Subscript e (.Slice none none (some (.UnaryOp .USub (.Constant (.int 1) k p1) p2)) p3) pos) (tRevL K te) := by subst hK; exact pe_revL he
theorem pg_tupK {k : Nat} {u : TGs} {n : Nat} (hc : X.calm = true) (h : PGs X es u) (hK : X.K = K) (hn : (assignEach es X.env).length = n := by rfl) (hst : (assignEach es X.env).findIdx? (·.1) = none := by rfl) : PG X (.Tuple es k pos) (gTup K n u) := by
  subst hK
  exact pg_tup hc h hn hst
theorem peBM {T : String} {r : V → List V → Hp → VK → Prop} (h : PE X e (tBM X.K T r to t)) (hK : X.K = K) : PE X e (tBM K T r to t) := by subst hK; exact h
theorem peBM0 {T : String} {r : V → List V → Hp → VK → Prop} (h : PE X e (tBM0 X.K T r to)) (hK : X.K = K) : PE X e (tBM0 K T r to) := by subst hK; exact h
end
end VL

set_option Elab.async false
set_option linter.all false
set_option maxRecDepth 100000
set_option maxHeartbeats 4000000
/-! VLZip: a zip that a name holds, walked by the next statement. -/
namespace VL
open PySem PySem.Spec PyProof.Rows L2
/-- the five cells as they are tracked -/
def zpH (r1 r2 : Src) (z TI TO i1 i2 : Addr) (H : Hp) : Hp := fun b =>
  if b = z then some (.ext fun h => IsZip h z TI TO .none) else if b = TI then some (.ext fun h => IsTupOf2 h TI (.ref i1) (.ref i2)) else if b = TO then some (.ext fun h => ∃ x y, IsTupOf2 h TO x y) else
  if b = i1 then some (.ext fun h => r1.at_ i1 0 h) else if b = i2 then some (.ext fun h => r2.at_ i2 0 h) else H b
structure ZpNew (n : Nat) (z TI TO i1 i2 : Addr) (H : Hp) : Prop where
  five : Five z TI TO i1 i2
  hz : H z = none ∧ n ≤ z
  hI : H TI = none ∧ n ≤ TI
  hO : H TO = none ∧ n ≤ TO
  h1 : H i1 = none ∧ n ≤ i1
  h2 : H i2 = none ∧ n ≤ i2
section
variable {X : Cx} {pins : List (Addr × Obj)} {σ : St} {H : Hp} {s : Shared} {r1 r2 : Src} {z TI TO i1 i2 : Addr} {n : Nat}
theorem zp_z : zpH r1 r2 z TI TO i1 i2 H z = some (.ext fun h => IsZip h z TI TO .none) := if_pos rfl
theorem zp_I (f : Five z TI TO i1 i2) : zpH r1 r2 z TI TO i1 i2 H TI = some (.ext fun h => IsTupOf2 h TI (.ref i1) (.ref i2)) := by
  unfold zpH
  rw [if_neg f.a, if_pos rfl]
theorem zp_O (f : Five z TI TO i1 i2) : zpH r1 r2 z TI TO i1 i2 H TO = some (.ext fun h => ∃ x y, IsTupOf2 h TO x y) := by
  unfold zpH
  rw [if_neg f.b, if_neg (Ne.symm f.c), if_pos rfl]
theorem zp_1 (f : Five z TI TO i1 i2) : zpH r1 r2 z TI TO i1 i2 H i1 = some (.ext fun h => r1.at_ i1 0 h) := by
  unfold zpH
  rw [if_neg (Ne.symm f.f), if_neg (Ne.symm f.d), if_neg (Ne.symm f.h), if_pos rfl]
theorem zp_2 (f : Five z TI TO i1 i2) : zpH r1 r2 z TI TO i1 i2 H i2 = some (.ext fun h => r2.at_ i2 0 h) := by
  unfold zpH
  rw [if_neg (Ne.symm f.g), if_neg (Ne.symm f.e), if_neg (Ne.symm f.i), if_neg (Ne.symm f.j), if_pos rfl]
theorem zp_old {b : Addr} (h : b ≠ z ∧ b ≠ TI ∧ b ≠ TO ∧ b ≠ i1 ∧ b ≠ i2) : zpH r1 r2 z TI TO i1 i2 H b = H b := by
  unfold zpH
  rw [if_neg h.1, if_neg h.2.1, if_neg h.2.2.1, if_neg h.2.2.2.1, if_neg h.2.2.2.2]
theorem zp_cases (b : Addr) : b = z ∨ b = TI ∨ b = TO ∨ b = i1 ∨ b = i2 ∨ (b ≠ z ∧ b ≠ TI ∧ b ≠ TO ∧ b ≠ i1 ∧ b ≠ i2) := by
  by_cases h1 : b = z
  · exact .inl h1
  by_cases h2 : b = TI
  · exact .inr (.inl h2)
  by_cases h3 : b = TO
  · exact .inr (.inr (.inl h3))
  by_cases h4 : b = i1
  · exact .inr (.inr (.inr (.inl h4)))
  by_cases h5 : b = i2
  · exact .inr (.inr (.inr (.inr (.inl h5))))
  · exact .inr (.inr (.inr (.inr (.inr ⟨h1, h2, h3, h4, h5⟩))))
/-- a thing told by what is true of its one object -/
def extOk (φ : Heap → Prop) (h : Heap) (a : Addr) : Prop := φ h ∧ (∃ o, h.get? a = some o) ∧ ∀ h1 h2 : Heap, φ h1 → (∀ o, h1.get? a = some o → h2.get? a = some o) → φ h2
/-- new things of that kind, several at once -/
theorem inv_lays {H' : Hp} {h' : Heap} {t' : Nat} (I : Inv X pins σ H s) (k : ∀ b u, s.heap.get? b = some u → h'.get? b = some u) (hH : ∀ b, H' b = H b ∨ (s.heap.objs.size ≤ b ∧ ∃ φ, H' b = some (.ext φ) ∧ extOk φ h' b)) :
    Inv X pins σ H' { s with heap := h', toks := t' } := by
  have old : ∀ {b o}, s.heap.get? b = some o → H' b = H b := fun {b o} e => by
    rcases hH b with q | ⟨q, _⟩
    · exact q
    · exact absurd (Nat.lt_of_lt_of_le (Heap.lt_size e) q) (Nat.lt_irrefl _)
  have some' : ∀ b u, H b = some u → H' b = some u := fun b u e => by
    rcases hH b with q | ⟨q, _⟩
    · rw [q, e]
    · rw [I.hok.fresh q] at e; cases e
  refine I.un ⟨fun b o e _ _ _ => k b o e, fun b o e _ _ _ => ⟨o.slots, k b o e⟩, fun b o e nn _ => by rw [old e]; exact nn, fun b o e _ => ⟨o, k b o e⟩, fun b xs e => some' b _ e, fun b o u e => some' b _ e, fun b ps e => ⟨#[], by rw [some' b _ e]; simp⟩⟩ fun b u e => ?_
  rcases hH b with q | ⟨q, φ, e2, e3⟩
  · rw [q] at e
    exact (I.hok b u e).stay (fun c v hc q => k c v q) (fun c z => some' c _ z) fun c xs z => some' c _ z
  · rw [e2] at e
    cases e
    exact e3
/-- they are forgotten -/
theorem inv_drops {H' : Hp} (I : Inv X pins σ H s) (hH : ∀ b, H' b = H b ∨ (H' b = none ∧ ∃ φ, H b = some (.ext φ))) : Inv X pins σ H' s := by
  have keep : ∀ b u, H b = some u → (∀ φ, u ≠ .ext φ) → H' b = some u := fun b u e nn => by
    rcases hH b with q | ⟨_, φ, q⟩
    · rw [q, e]
    · rw [q] at e; exact absurd (Option.some.inj e).symm (nn φ)
  refine I.un (t' := s.toks) ⟨fun b o e _ _ _ => e, fun b o e _ _ _ => ⟨o.slots, e⟩, fun b o e nn _ => ?_, fun b o e _ => ⟨o, e⟩, fun b xs e => keep b _ e fun _ w => (nomatch w), fun b o u e => keep b _ e fun _ w => (nomatch w), fun b ps e => ⟨#[], by rw [keep b _ e fun _ w => (nomatch w)]; simp⟩⟩ fun b u e => ?_
  · rcases hH b with q | ⟨q, _⟩
    · rw [q]; exact nn
    · exact q
  · rcases hH b with q | ⟨q, _⟩
    · rw [q] at e
      exact (I.hok b u e).stay (fun c v _ q => q) (fun c z => keep c _ z fun _ w => (nomatch w)) fun c xs z => keep c _ z fun _ w => (nomatch w)
    · rw [q] at e; cases e
end
def tZipV (K : PySem.W.Frag) (n : Nat) (t : TA) : TE := fun σ H Q => t σ H fun vs H1 => ∃ (r1 r2 : Src) (xs ys : List V), vs = [r1.V, r2.V] ∧ r1.is K H1 xs ∧ r2.is K H1 ys ∧ ∀ z TI TO i1 i2, ZpNew n z TI TO i1 i2 H1 → Q (.ref z) (zpH r1 r2 z TI TO i1 i2 H1)
theorem src_ext {r : Src} {it : Addr} {h : Heap} (st : r.at_ it 0 h) : extOk (fun h => r.at_ it 0 h) h it := ⟨st, (let ⟨o, q, _⟩ := at_obj st; ⟨o, q⟩), fun h1 h2 q k => Src.keep q k⟩
theorem pe_zipV {X : Cx} {e e2 : Expr} {t : TA} {p pos : Pos} (K : PySem.W.Frag) (hg : Gl X "zip") (hm : X.mg "zip" = none) (ha : PA X [e, e2] t) (hK : X.K = K)
    (hs : starEach [e, e2] X.env = (false, eval e X.env) :: starEach [e2] X.env := by rfl) (hpl : (backTo pos (starEach [e2] X.env)).any (·.1) = false := by rfl) :
    PE X (.Call (.Name "zip" p) [e, e2] [] pos) (tZipV K X.s_0.heap.objs.size t) := by
  subst hK
  refine ⟨fun pins s σ H Q I h => ?_⟩
  refine Call_ (ld_blt I hg hm PyProof.Rows.boot_zip (PyProof.Rows.callWith_type1 (thn (ha.run pos pins s σ H _ I h) fun us s1 ⟨vs, H1, I1, rr, q1⟩ => ?_) hs hpl))
  obtain ⟨r1, r2, xs, ys, ex, hqx, hqy, q⟩ := q1
  subst ex
  cases rr with
  | cons a1 rr =>
    cases rr with
    | cons a2 rr =>
      cases rr
      obtain ⟨o1, G1, B1, hG1, hst1, hd1⟩ := src_begins I1 (r := r1) ⟨xs, hqx⟩ a1
      obtain ⟨o2, G2, B2, hG2, hst2, hd2⟩ := src_begins I1 (r := r2) ⟨ys, hqy⟩ a2
      refine zip_begins2 B1 B2 hG1 hG2 fun h' hz hTI hTO h1 h2 hsz hk => ?_
      have sz := I1.sz
      have fr : ∀ j, H1 (s1.heap.objs.size + j) = none := fun j => I1.hok.fresh (Nat.le_add_right _ _)
      have fr0 : H1 s1.heap.objs.size = none := I1.hok.fresh (Nat.le_refl _)
      have new : ZpNew X.s_0.heap.objs.size (s1.heap.objs.size + 4) (s1.heap.objs.size + 2) (s1.heap.objs.size + 3) s1.heap.objs.size (s1.heap.objs.size + 1) H1 := by
        refine ⟨⟨?_, ?_, ?_, ?_, ?_, ?_, ?_, ?_, ?_, ?_⟩, ⟨fr _, ?_⟩, ⟨fr _, ?_⟩, ⟨fr _, ?_⟩, ⟨fr0, ?_⟩, ⟨fr _, ?_⟩⟩
        iterate 10 (show (_ : Nat) ≠ _; omega)
        iterate 5 (show _ ≤ (_ : Nat); omega)
      refine ⟨.ref (s1.heap.objs.size + 4), _, inv_lays (t' := s1.toks) I1 hk (H' := zpH r1 r2 (s1.heap.objs.size + 4) (s1.heap.objs.size + 2) (s1.heap.objs.size + 3) s1.heap.objs.size (s1.heap.objs.size + 1) H1) (fun b => ?_), rfl, q _ _ _ _ _ new⟩
      rcases zp_cases (z := s1.heap.objs.size + 4) (TI := s1.heap.objs.size + 2) (TO := s1.heap.objs.size + 3) (i1 := s1.heap.objs.size) (i2 := s1.heap.objs.size + 1) b with w | w | w | w | w | w
      · subst w; exact .inr ⟨Nat.le_add_right _ _, _, zp_z, hz, ⟨_, hz⟩, fun h1 h2 q k => k _ q⟩
      · subst w; exact .inr ⟨Nat.le_add_right _ _, _, zp_I new.five, hTI, ⟨_, hTI⟩, fun h1 h2 q k => k _ q⟩
      · subst w; exact .inr ⟨Nat.le_add_right _ _, _, zp_O new.five, ⟨_, _, hTO⟩, ⟨_, hTO⟩, fun h1 h2 ⟨x, y, q⟩ k => ⟨x, y, k _ q⟩⟩
      · subst w; exact .inr ⟨Nat.le_refl _, _, zp_1 new.five, src_ext (hst1 _ _ h1)⟩
      · subst w; exact .inr ⟨Nat.le_add_right _ _, _, zp_2 new.five, src_ext (hst2 _ _ h2)⟩
      · exact .inl (zp_old w)
def iZipV (K : PySem.W.Frag) (n i : Nat) : TI := fun σ H R => ∃ (r1 r2 : Src) (xs ys : List V) (z TI TO i1 i2 : Addr) (H1 : Hp), σ[i]? = some (some (.ref z)) ∧ H = zpH r1 r2 z TI TO i1 i2 H1 ∧ ZpNew n z TI TO i1 i2 H1 ∧ r1.is K H1 xs ∧ r2.is K H1 ys ∧ R (ItZ K r1 r2) H1
theorem pi_zipV {X : Cx} {x : Str} {p tpos : Pos} {elts : List Expr} {kk i : Nat} (K : PySem.W.Frag) (hN : X.N[i]? = some x) (hv : Vis X.env.scope x) (hK : X.K = K) (hd : (x == ("__debug__" : Str)) = false := by decide) (hcd : (x == ("__classdict__" : Str)) = false := by decide) :
    PI X (.Tuple elts kk tpos) (.Name x p) (iZipV K X.s_0.heap.objs.size i) := by
  subst hK
  refine ⟨fun pins s σ H R I h => ?_⟩
  obtain ⟨r1, r2, xs, ys, z, TI, TO, i1, i2, H1, hs, rfl, new, hx, hy, q⟩ := h
  refine thn ((pe_var (pos := p) hN hv hd hcd).run pins s σ _ (fun v H2 => v = .ref z ∧ H2 = zpH r1 r2 z TI TO i1 i2 H1) I ⟨.ref z, hs, rfl, rfl⟩) fun u s1 ⟨v, H2, I2, rv, e1, e2⟩ => ?_
  subst e1 e2
  cases rv
  have ez : IsZip s1.heap z TI TO .none := (I2.hok _ _ zp_z).1
  have eI : IsTupOf2 s1.heap TI (.ref i1) (.ref i2) := (I2.hok _ _ (zp_I new.five)).1
  have eO : ∃ x y, IsTupOf2 s1.heap TO x y := (I2.hok _ _ (zp_O new.five)).1
  have e1 : r1.at_ i1 0 s1.heap := (I2.hok _ _ (zp_1 new.five)).1
  have e2 : r2.at_ i2 0 s1.heap := (I2.hok _ _ (zp_2 new.five)).1
  refine wpAny_pyIter_zip ez ?_
  have fpo : ∀ {a : Addr} {φ : Heap → Prop}, zpH r1 r2 z TI TO i1 i2 H1 a = some (.ext φ) → X.s_0.heap.objs.size ≤ a → H1 a = none → FpOk X pins H1 a := fun {a φ} e hn h1 => ⟨h1, (ItX.inv_fp I2 e hn).2⟩
  refine ⟨z, [z, TI, TO, i1, i2], _, _, H1, rfl, inv_drops I2 (fun b => ?_), turn_zipS new.five, ⟨ez, eI, eO, e1, e2⟩, fun c hc => ?_, q⟩
  · rcases zp_cases (z := z) (TI := TI) (TO := TO) (i1 := i1) (i2 := i2) b with w | w | w | w | w | w
    · subst w; exact .inr ⟨new.hz.1, _, zp_z⟩
    · subst w; exact .inr ⟨new.hI.1, _, zp_I new.five⟩
    · subst w; exact .inr ⟨new.hO.1, _, zp_O new.five⟩
    · subst w; exact .inr ⟨new.h1.1, _, zp_1 new.five⟩
    · subst w; exact .inr ⟨new.h2.1, _, zp_2 new.five⟩
    · exact .inl (zp_old w).symm
  · have e' : c = z ∨ c = TI ∨ c = TO ∨ c = i1 ∨ c = i2 := by simpa using hc
    rcases e' with w | w | w | w | w
    · subst w; exact fpo zp_z new.hz.2 new.hz.1
    · subst w; exact fpo (zp_I new.five) new.hI.2 new.hI.1
    · subst w; exact fpo (zp_O new.five) new.hO.2 new.hO.1
    · subst w; exact fpo (zp_1 new.five) new.h1.2 new.h1.1
    · subst w; exact fpo (zp_2 new.five) new.h2.2 new.h2.1
/-- pairs = zip(x, y); return f([.. for .. in pairs if ..]) -/
@[simp] def dZipRet (i : Nat) (l : DL) (f : DB) (gd : DG) (u : DT) (t : DE) (vs : List Nat) : DS := fun D ρ => i < ρ.length ∧ dZip l ρ fun ds => lcD gd u t (wipeE (ρ.set i .un) vs) ds [] fun y => f [y] fun z => D.rt (.sh z)
section
variable {C : Cfg}
theorem sims_zipRet {n i : Nat} {ta : TA} {l : DL} {r : List V → Hp → VK → Prop} {f : DB} {g : TG} {gd : DG} {tt : TT} {u : DT} {te : TE} {t : DE} {ks vs : List Nat} (hl : SimLP C ta l) (hf : SimB C r f) (hg : SimG C ks g gd) (hu : SimT C tt u) (he : SimE C te t) (hk : ∀ k ∈ ks, k ∈ vs) :
    SimS C (tSeq (tAsg (tZipV C.K n ta) (gName i)) (tRet (tCB r (tCons (tLc (iZipV C.K n i) g tt te vs) tNil)))) (dZipRet i l f gd u t vs) := by
  intro F0 H0 F H σ ρ D DH x S ⟨hi, ht⟩ L
  rw [← S.len] at hi
  refine hl H0 F H σ ρ _ _ x.g S ht fun as F1 H1 ds x1 r1 q1 => ?_
  split at q1
  · rename_i d d'
    split at q1
    · rename_i ds es e e'
      cases r1 with
      | cons r1 rr =>
        cases rr with
        | cons r2 rr =>
          cases rr
          obtain ⟨s, xs, e1, e2, e3, e4⟩ := src_rp x1.g r1 e
          obtain ⟨s', ys, f1, f2, f3, f4⟩ := src_rp x1.g r2 e'
          subst e1 f1
          refine ⟨s, s', xs, ys, rfl, e2 _ _ (.refl x1.g), f2 _ _ (.refl x1.g), fun z TI TO i1 i2 new => ?_⟩
          have S1 := S.ext x1
          have S2 : Slots C H0 F1 H1 (σ.set i (some (.ref z))) (ρ.set i .un) := S1.set i (s := .un) trivial fun _ _ w => nomatch w
          refine ⟨s, s', xs, ys, z, TI, TO, i1, i2, H1, by rw [List.getElem?_set_self hi], rfl, new, e2 _ _ (.refl x1.g), f2 _ _ (.refl x1.g), ?_⟩
          refine lc_body (Q := fun v H2 => tNil (σ.set i (some (.ref z))) H2 fun xs H3 => r (v :: xs) H3 DH.rt) hg hu he hk S2 (.refl x1.g) (itZ_ok e3 f3) (fun F2 H2 y => ⟨e2 F2 H2 y, f2 F2 H2 y⟩) (Nat.le_trans zip_len e4) q1 fun a F2 H2 y x2 o2 q2 => ?_
          refine hf F2 H2 [.ref a] [y] _ _ x2.g (.cons (.inr ⟨a, rfl, o2.ns, o2.ct⟩) .nil) q2 fun v F3 H3 w x3 r3 q3 => ?_
          exact L.rt F3 H3 v (.sh w) (x.trans (x1.trans (x2.trans x3))) r3 q3
    · exact q1.elim
  · exact q1.elim
end
end VL

set_option Elab.async false
set_option linter.all false
set_option maxRecDepth 100000
set_option maxHeartbeats 4000000
/-! PLan: plans as data, without any program. -/
namespace PL
open PySem VL
/-! ### running the data level -/
@[simp] theorem line_eq : sizeLine = 16777216 := sizeLine_eq
theorem ofS_inj {a b : String} (h : Str.ofString a = Str.ofString b) : a = b := by
  rw [Str.ofString_eq_toList, Str.ofString_eq_toList] at h
  have h1 : a.toList.map Char.toNat = b.toList.map Char.toNat := by
    have := congrArg (fun s : Str => s.cps.toList) h
    simpa using this
  have h2 : a.toList = b.toList := by
    exact (List.map_inj_right fun x y e => Char.ext (UInt32.toNat_inj.mp e)).mp h1
  exact String.toList_inj.mp h2
@[simp] theorem ofS_eq (a b : String) : (Str.ofString a = Str.ofString b) = (a = b) := propext ⟨ofS_inj, fun h => by rw [h]⟩
@[simp] theorem okD_str (x : Str) : okD (.str x) = True := by simp [okD, PyData.plain, PyData.depth]
@[simp] theorem okD_int (x : Int) : okD (.int x) = True := by simp [okD, PyData.plain, PyData.depth]
@[simp] theorem okD_bool (x : Bool) : okD (.bool x) = True := by simp [okD, PyData.plain, PyData.depth]
@[simp] theorem okD_none : okD .none = True := by simp [okD, PyData.plain, PyData.depth]
@[simp] theorem okD_nil : okD (.list []) = True := by simp [okD, PyData.plain, PyData.plainAll, PyData.depth, PyData.depthAll]
@[simp] theorem okD_nilT : okD (.tuple []) = True := by simp [okD, PyData.plain, PyData.plainAll, PyData.depth, PyData.depthAll]
@[simp] theorem eqv_str (a b : Str) : PyData.eqv (.str a) (.str b) = decide (a = b) := by
  by_cases h : a = b <;> simp [PyData.eqv, h]
@[simp] theorem eqv_int (a b : Int) : PyData.eqv (.int a) (.int b) = decide (a = b) := by
  by_cases h : a = b <;> simp [PyData.eqv, h]
@[simp] theorem eqv_bool (a b : Bool) : PyData.eqv (.bool a) (.bool b) = decide (a = b) := by
  by_cases h : a = b <;> simp [PyData.eqv, h]
@[simp] theorem eqv_list (a b : List PyData) : PyData.eqv (.list a) (.list b) = PyData.eqvAll a b := by simp [PyData.eqv]
@[simp] theorem eqv_tuple (a b : List PyData) : PyData.eqv (.tuple a) (.tuple b) = PyData.eqvAll a b := by simp [PyData.eqv]
@[simp] theorem eqvAll_nn : PyData.eqvAll [] [] = true := by simp [PyData.eqvAll]
@[simp] theorem eqvAll_cn (x : PyData) (xs : List PyData) : PyData.eqvAll (x :: xs) [] = false := by simp [PyData.eqvAll]
@[simp] theorem eqvAll_nc (x : PyData) (xs : List PyData) : PyData.eqvAll [] (x :: xs) = false := by simp [PyData.eqvAll]
@[simp] theorem eqvAll_cc (x y : PyData) (xs ys : List PyData) : PyData.eqvAll (x :: xs) (y :: ys) = (PyData.eqv x y && PyData.eqvAll xs ys) := by simp [PyData.eqvAll]
@[simp] theorem eqvAll_nil (xs : List PyData) : PyData.eqvAll xs [] = xs.isEmpty := by cases xs <;> simp
@[simp] theorem plainAll_nil : PyData.plainAll [] = true := by simp [PyData.plainAll]
@[simp] theorem plainAll_cons (x : PyData) (xs : List PyData) : PyData.plainAll (x :: xs) = (x.plain && PyData.plainAll xs) := by simp [PyData.plainAll]
@[simp] theorem plain_str (x : Str) : PyData.plain (.str x) = true := by simp [PyData.plain]
@[simp] theorem plain_int (x : Int) : PyData.plain (.int x) = true := by simp [PyData.plain]
@[simp] theorem plain_bool (x : Bool) : PyData.plain (.bool x) = true := by simp [PyData.plain]
@[simp] theorem plain_list (x : List PyData) : PyData.plain (.list x) = PyData.plainAll x := by simp [PyData.plain]
@[simp] theorem plain_tuple (x : List PyData) : PyData.plain (.tuple x) = PyData.plainAll x := by simp [PyData.plain]
theorem atI_nat {α : Type} (xs : List α) (n : Nat) : L2.atI xs (n : Int) = xs[n]? := by
  unfold L2.atI L2.ixN
  rw [if_pos (Int.natCast_nonneg n)]
  by_cases h : n < xs.length
  · rw [if_pos (by omega)]; simp
  · rw [if_neg (by omega)]; simp; omega
@[simp] theorem atI_0 {α : Type} (a : α) (l : List α) : L2.atI (a :: l) 0 = some a := atI_nat _ 0
@[simp] theorem atI_1 {α : Type} (a b : α) (l : List α) : L2.atI (a :: b :: l) 1 = some b := atI_nat _ 1
@[simp] theorem atI_2 {α : Type} (a b c : α) (l : List α) : L2.atI (a :: b :: c :: l) 2 = some c := atI_nat _ 2
@[simp] theorem atI_3 {α : Type} (a b c d : α) (l : List α) : L2.atI (a :: b :: c :: d :: l) 3 = some d := atI_nat _ 3
@[simp] theorem atI_4 {α : Type} (a b c d e : α) (l : List α) : L2.atI (a :: b :: c :: d :: e :: l) 4 = some e := atI_nat _ 4
@[simp] theorem truthy_bool (b : Bool) : PyData.truthy (.bool b) = b := by cases b <;> rfl
@[simp] theorem slot_d (x : PyData) : slotOf (.d x) = .sh x := rfl
@[simp] theorem slot_s : slotOf .s = .so := rfl
@[simp] theorem ctlS_sh (Q : PyData → Prop) (d : PyData) : (ctlS Q).rt (.sh d) = Q d := rfl
@[simp] theorem ctlS_ow (Q : PyData → Prop) (d : PyData) : (ctlS Q).rt (.ow d) = Q d := rfl
@[simp] theorem ctlS_nx (Q : PyData → Prop) (ρ : Vn) : (ctlS Q).nx ρ = Q .none := rfl
/-- a comprehension whose parts are functions -/
theorem lcD_fn {α : Type} (enc : α → PyData) (p : α → Bool) (f : α → PyData) {g : DG} {u : DT} {te : DE} {ρ : Vn} {Q : PyData → Prop} : ∀ (xs : List α) (acc : List PyData),
    (∀ x ∈ xs, ∀ k : Option PyData → Prop, k (if p x = true then some (f x) else none) → g (enc x) ρ fun ρ1 => u ρ1 fun b => if b = true then te ρ1 fun y => k (some y) else k none) →
    Q (.list (acc ++ (xs.filter p).map f)) → lcD g u te ρ (xs.map enc) acc Q
  | [], acc, _, h => by simpa using h
  | x :: xs, acc, hs, h => by
    refine hs x (List.mem_cons_self ..) (fun o => match o with
      | some y => lcD g u te ρ (xs.map enc) (acc ++ [y]) Q
      | none => lcD g u te ρ (xs.map enc) acc Q) ?_
    by_cases hp : p x = true
    · rw [if_pos hp]
      refine lcD_fn enc p f xs _ (fun y hy => hs y (List.mem_cons_of_mem _ hy)) ?_
      simpa [List.filter_cons, hp] using h
    · rw [if_neg hp]
      refine lcD_fn enc p f xs _ (fun y hy => hs y (List.mem_cons_of_mem _ hy)) ?_
      simpa [List.filter_cons, hp] using h
/-- .. without a test -/
theorem lcD_map {α : Type} (enc : α → PyData) (f : α → PyData) {g : DG} {te : DE} {ρ : Vn} {Q : PyData → Prop} (xs : List α) (hs : ∀ x ∈ xs, ∀ k : PyData → Prop, k (f x) → g (enc x) ρ fun ρ1 => te ρ1 k) (h : Q (.list (xs.map f))) : lcD g dYes te ρ (xs.map enc) [] Q := by
  refine lcD_fn enc (fun _ => true) f xs [] (fun x hx k hk => ?_) ?_
  · simpa using hs x hx (fun y => k (some y)) (by simpa using hk)
  · have e : xs.filter (fun _ => true) = xs := List.filter_eq_self.mpr fun _ _ => rfl
    rw [e]
    exact h
/-- a loop by what stands before each turn -/
theorem forD_rule {α : Type} (enc : α → PyData) (P : List α → Vn → Prop) {g : DG} {b : DS} {D : Ctl} (hstep : ∀ x xs ρ, P (x :: xs) ρ → ∀ D' : Ctl, D'.rt = D.rt → D'.bk = D.nx → (∀ ρ', P xs ρ' → D'.nx ρ' ∧ D'.ct ρ') → g (enc x) ρ fun ρ1 => b D' ρ1)
    (hdone : ∀ ρ, P [] ρ → D.nx ρ) : ∀ (xs : List α) (ρ : Vn), P xs ρ → forD g b D (xs.map enc) ρ
  | [], ρ, h => hdone ρ h
  | x :: xs, ρ, h => hstep x xs ρ h { D with nx := forD g b D (xs.map enc), ct := forD g b D (xs.map enc), bk := D.nx } rfl rfl fun ρ' h' => ⟨forD_rule enc P hstep hdone xs ρ' h', forD_rule enc P hstep hdone xs ρ' h'⟩
def enumF {α : Type} (enc : α → PyData) : Nat → List α → List PyData
  | _, [] => []
  | i, x :: xs => .tuple [.int (i : Nat), enc x] :: enumF enc (i + 1) xs
theorem enumF_eq {α : Type} (enc : α → PyData) : ∀ (i : Nat) (xs : List α), (xs.map enc).mapIdx (fun j d => PyData.tuple [.int ((i + j : Nat) : Int), d]) = enumF enc i xs
  | _, [] => rfl
  | i, x :: xs => by
    rw [List.map_cons, List.mapIdx_cons, enumF, ← enumF_eq enc (i + 1) xs]
    congr 2
    funext j d
    have e : i + (j + 1) = i + 1 + j := by omega
    rw [e]
theorem enumD_eq {α : Type} (enc : α → PyData) (xs : List α) : enumD (xs.map enc) = enumF enc 0 xs := by
  rw [← enumF_eq]
  unfold enumD
  simp
theorem forE_rule {α : Type} (enc : α → PyData) (P : Nat → List α → Vn → Prop) {g : DG} {b : DS} {D : Ctl} (hstep : ∀ i x xs ρ, P i (x :: xs) ρ → ∀ D' : Ctl, D'.rt = D.rt → D'.bk = D.nx → (∀ ρ', P (i + 1) xs ρ' → D'.nx ρ' ∧ D'.ct ρ') → g (.tuple [.int (i : Nat), enc x]) ρ fun ρ1 => b D' ρ1)
    (hdone : ∀ i ρ, P i [] ρ → D.nx ρ) : ∀ (i : Nat) (xs : List α) (ρ : Vn), P i xs ρ → forD g b D (enumF enc i xs) ρ
  | i, [], ρ, h => hdone i ρ h
  | i, x :: xs, ρ, h => hstep i x xs ρ h { D with nx := forD g b D (enumF enc (i + 1) xs), ct := forD g b D (enumF enc (i + 1) xs), bk := D.nx } rfl rfl fun ρ' h' => ⟨forE_rule enc P hstep hdone (i + 1) xs ρ' h', forE_rule enc P hstep hdone (i + 1) xs ρ' h'⟩
/-- the same, from 0 -/
theorem forE_0 {α : Type} (enc : α → PyData) (P : Nat → List α → Vn → Prop) {g : DG} {b : DS} {D : Ctl} {xs : List α} {ρ : Vn} (h : P 0 xs ρ) (hstep : ∀ i x xs ρ, P i (x :: xs) ρ → ∀ D' : Ctl, D'.rt = D.rt → D'.bk = D.nx → (∀ ρ', P (i + 1) xs ρ' → D'.nx ρ' ∧ D'.ct ρ') → g (.tuple [.int (i : Nat), enc x]) ρ fun ρ1 => b D' ρ1)
    (hdone : ∀ i ρ, P i [] ρ → D.nx ρ) : forD g b D (enumD (xs.map enc)) ρ := by
  rw [enumD_eq]
  exact forE_rule enc P hstep hdone 0 xs ρ h
/-! ### plans -/
inductive Gw where
  | row | side | els
  deriving DecidableEq
inductive Kd where
  | undoable | sure | both | neither
  deriving DecidableEq
inductive Wd where
  | fresh | done | failed | undone
  deriving DecidableEq
def Gw.s : Gw → Str
  | .row => "row"
  | .side => "side"
  | .els => "else"
def Kd.s : Kd → Str
  | .undoable => "undoable"
  | .sure => "sure"
  | .both => "both"
  | .neither => "neither"
def Wd.s : Wd → Str
  | .fresh => "fresh"
  | .done => "done"
  | .failed => "failed"
  | .undone => "undone"
inductive Plan where
  | deed (n : Str) (k : Kd)
  | grp (w : Gw) (ms : List Plan)
namespace Plan
mutual
def d : Plan → PyData
  | deed n k => .tuple [.str "deed", .str n, .str k.s]
  | grp w ms => .tuple [.str w.s, .tuple (ds ms)]
def ds : List Plan → List PyData
  | [] => []
  | p :: ps => d p :: ds ps
end
mutual
def deeds : Plan → List (Str × Kd)
  | deed n k => [(n, k)]
  | grp _ ms => deedsL ms
def deedsL : List Plan → List (Str × Kd)
  | [] => []
  | p :: ps => deeds p ++ deedsL ps
end
mutual
def height : Plan → Nat
  | deed _ _ => 1
  | grp _ ms => heightL ms + 1
def heightL : List Plan → Nat
  | [] => 0
  | p :: ps => max (height p) (heightL ps)
end
mutual
def nodes : Plan → Nat
  | deed _ _ => 1
  | grp _ ms => nodesL ms + 1
def nodesL : List Plan → Nat
  | [] => 0
  | p :: ps => nodes p + nodesL ps
end
mutual
/-- no group is empty -/
def ok : Plan → Prop
  | deed _ _ => True
  | grp _ ms => ms ≠ [] ∧ okL ms
def okL : List Plan → Prop
  | [] => True
  | p :: ps => ok p ∧ okL ps
end
def de (x : Str × Kd) : PyData := .tuple [.str "deed", .str x.1, .str x.2.s]
theorem ds_map : ∀ ms : List Plan, ds ms = ms.map d
  | [] => rfl
  | p :: ps => by rw [ds, ds_map ps]; rfl
theorem deedsL_flat : ∀ ms : List Plan, deedsL ms = (ms.map deeds).flatten
  | [] => rfl
  | p :: ps => by rw [deedsL, deedsL_flat ps]; rfl
theorem okL_mem : ∀ {ms : List Plan}, okL ms → ∀ m ∈ ms, ok m
  | p :: ps, h, m, hm => by
    rcases List.mem_cons.mp hm with z | z
    · rw [z]; exact h.1
    · exact okL_mem h.2 m z
theorem heightL_mem : ∀ {ms : List Plan} {m : Plan}, m ∈ ms → height m ≤ heightL ms
  | p :: ps, m, hm => by
    rw [heightL]
    rcases List.mem_cons.mp hm with z | z
    · rw [z]; exact Nat.le_max_left _ _
    · exact Nat.le_trans (heightL_mem z) (Nat.le_max_right _ _)
theorem nodesL_mem : ∀ {ms : List Plan} {m : Plan}, m ∈ ms → nodes m ≤ nodesL ms
  | p :: ps, m, hm => by
    rw [nodesL]
    rcases List.mem_cons.mp hm with z | z
    · rw [z]; exact Nat.le_add_right _ _
    · exact Nat.le_trans (nodesL_mem z) (Nat.le_add_left _ _)
mutual
theorem deeds_le : ∀ p : Plan, (deeds p).length ≤ nodes p
  | deed n k => Nat.le_refl _
  | grp w ms => by
    rw [deeds, nodes]
    exact Nat.le_succ_of_le (deedsL_le ms)
theorem deedsL_le : ∀ ms : List Plan, (deedsL ms).length ≤ nodesL ms
  | [] => Nat.le_refl _
  | p :: ps => by
    rw [deedsL, nodesL, List.length_append]
    exact Nat.add_le_add (deeds_le p) (deedsL_le ps)
end
theorem len_le_nodesL : ∀ ms : List Plan, ms.length ≤ nodesL ms
  | [] => Nat.le_refl _
  | p :: ps => by
    have h1 : 1 ≤ nodes p := by cases p <;> simp [nodes]
    have h2 := len_le_nodesL ps
    rw [nodesL, List.length_cons]
    omega
@[simp] def mems : Plan → List Plan
  | deed _ _ => []
  | grp _ ms => ms
/-! places -/
mutual
/-- every part with its place, from the top -/
def placed : Plan → List (List Nat × Plan)
  | deed n k => [([], deed n k)]
  | grp w ms => ([], grp w ms) :: placedL 0 ms
def placedL : Nat → List Plan → List (List Nat × Plan)
  | _, [] => []
  | i, p :: ps => ((placed p).map fun q => (i :: q.1, q.2)) ++ placedL (i + 1) ps
end
theorem placed_eq (p : Plan) : placed p = ([], p) :: placedL 0 (mems p) := by cases p <;> rfl
theorem placedL_cons (i : Nat) (p : Plan) (ps : List Plan) : placedL i (p :: ps) = ((placed p).map fun q => (i :: q.1, q.2)) ++ placedL (i + 1) ps := by rw [placedL]
theorem mems_height {p m : Plan} (h : m ∈ mems p) : height m < height p := by
  cases p with
  | deed n k => simp at h
  | grp w ms =>
    have := heightL_mem (show m ∈ ms from h)
    rw [height]
    omega
theorem mems_nodes {p m : Plan} (h : m ∈ mems p) : nodes m < nodes p := by
  cases p with
  | deed n k => simp at h
  | grp w ms =>
    have := nodesL_mem (show m ∈ ms from h)
    rw [nodes]
    omega
@[simp] def pl (q : List Nat) : PyData := .tuple (q.map fun (i : Nat) => .int i)
mutual
theorem placed_len : ∀ p : Plan, (placed p).length = nodes p
  | deed n k => rfl
  | grp w ms => by
    rw [placed, nodes, List.length_cons, placedL_len 0 ms]
theorem placedL_len : ∀ (i : Nat) (ms : List Plan), (placedL i ms).length = nodesL ms
  | _, [] => rfl
  | i, p :: ps => by
    rw [placedL, nodesL, List.length_append, List.length_map, placed_len p, placedL_len (i + 1) ps]
end
def asDeed : Plan → Option (Str × Kd)
  | deed n k => some (n, k)
  | grp _ _ => none
def isDeed : Plan → Bool
  | deed _ _ => true
  | grp _ _ => false
@[simp] theorem isDeed_d (n : Str) (k : Kd) : isDeed (deed n k) = true := rfl
@[simp] theorem isDeed_g (w : Gw) (ms : List Plan) : isDeed (grp w ms) = false := rfl
@[simp] theorem asDeed_d (n : Str) (k : Kd) : asDeed (deed n k) = some (n, k) := rfl
@[simp] theorem asDeed_g (w : Gw) (ms : List Plan) : asDeed (grp w ms) = none := rfl
mutual
theorem placed_deeds : ∀ p : Plan, (placed p).filterMap (fun q => asDeed q.2) = deeds p
  | deed n k => rfl
  | grp w ms => by
    rw [placed, deeds, List.filterMap_cons, ← placedL_deeds 0 ms]
    rfl
theorem placedL_deeds : ∀ (i : Nat) (ms : List Plan), (placedL i ms).filterMap (fun q => asDeed q.2) = deedsL ms
  | _, [] => rfl
  | i, p :: ps => by
    rw [placedL, deedsL, List.filterMap_append, List.filterMap_map, placedL_deeds (i + 1) ps]
    congr 1
    exact placed_deeds p
end
mutual
theorem placed_depth : ∀ (p : Plan) (q : List Nat × Plan), q ∈ placed p → q.1.length < height p ∧ height q.2 ≤ height p ∧ nodes q.2 ≤ nodes p
  | deed n k, q, h => by
    have e : q = ([], deed n k) := by simpa [placed] using h
    subst e
    simp [height]
  | grp w ms, q, h => by
    rw [placed, List.mem_cons] at h
    rcases h with e | h
    · subst e
      simp [height]
    · have := placedL_depth 0 ms q h
      rw [height, nodes]
      omega
theorem placedL_depth : ∀ (i : Nat) (ms : List Plan) (q : List Nat × Plan), q ∈ placedL i ms → q.1.length ≤ heightL ms ∧ height q.2 ≤ heightL ms ∧ nodes q.2 ≤ nodesL ms
  | _, [], q, h => by simp [placedL] at h
  | i, p :: ps, q, h => by
    rw [placedL, List.mem_append] at h
    rw [heightL, nodesL]
    rcases h with h | h
    · obtain ⟨r, hr, e⟩ := List.mem_map.mp h
      subst e
      have := placed_depth p r hr
      simp only [List.length_cons]
      omega
    · have := placedL_depth (i + 1) ps q h
      omega
end
/-! words -/
def wds (σ : Str → Wd) (p : Plan) : PyData := .tuple ((deeds p).map fun x => .str (σ x.1).s)
def hasDone (σ : Str → Wd) (p : Plan) : Bool := (deeds p).any fun x => decide (σ x.1 = .done)
mutual
def lost (σ : Str → Wd) : Plan → Bool
  | deed n _ => decide (σ n = .failed)
  | grp .els ms => lastL σ ms
  | grp .row ms => anyL σ ms
  | grp .side ms => anyL σ ms
/-- the last one is lost -/
def lastL (σ : Str → Wd) : List Plan → Bool
  | [] => false
  | [p] => lost σ p
  | _ :: p :: ps => lastL σ (p :: ps)
def anyL (σ : Str → Wd) : List Plan → Bool
  | [] => false
  | p :: ps => lost σ p || anyL σ ps
end
theorem anyL_eq (σ : Str → Wd) : ∀ ms : List Plan, anyL σ ms = ms.any (lost σ)
  | [] => rfl
  | p :: ps => by rw [anyL, anyL_eq σ ps]; rfl
theorem lastL_eq (σ : Str → Wd) : ∀ ms : List Plan, ms ≠ [] → (ms.map (lost σ)).getLast? = some (lastL σ ms)
  | [p], _ => rfl
  | _ :: p :: ps, _ => by
    rw [lastL, ← lastL_eq σ (p :: ps) (by simp)]
    simp
def stays (σ : Str → Wd) (m : Plan) : Bool := !lost σ m || hasDone σ m
/-- where the force lies -/
def force (σ : Str → Wd) (ms : List Plan) : Nat := if ms.findIdx (stays σ) < ms.length then ms.findIdx (stays σ) else ms.length - 1
theorem force_lt (σ : Str → Wd) {ms : List Plan} (h : ms ≠ []) : force σ ms < ms.length := by
  unfold force
  have : 0 < ms.length := List.length_pos_iff.mpr h
  split <;> omega
mutual
def dead (σ : Str → Wd) : Plan → Bool
  | deed n _ => decide (σ n = .failed) || decide (σ n = .undone)
  | grp .els ms => decide (force σ ms = ms.length - 1) && lastD σ ms
  | grp .row ms => anyD σ ms
  | grp .side ms => anyD σ ms
def lastD (σ : Str → Wd) : List Plan → Bool
  | [] => false
  | [p] => dead σ p
  | _ :: p :: ps => lastD σ (p :: ps)
def anyD (σ : Str → Wd) : List Plan → Bool
  | [] => false
  | p :: ps => dead σ p || anyD σ ps
end
theorem anyD_eq (σ : Str → Wd) : ∀ ms : List Plan, anyD σ ms = ms.any (dead σ)
  | [] => rfl
  | p :: ps => by rw [anyD, anyD_eq σ ps]; rfl
theorem lastD_eq (σ : Str → Wd) : ∀ ms : List Plan, ms ≠ [] → (ms.map (dead σ)).getLast? = some (lastD σ ms)
  | [p], _ => rfl
  | _ :: p :: ps, _ => by
    rw [lastD, ← lastD_eq σ (p :: ps) (by simp)]
    simp
def pm (σ : Str → Wd) (m : Plan) : PyData := .tuple [m.d, wds σ m]
end Plan
/-! ### slices -/
theorem cutL_to {α : Type} (xs : List α) (n : Nat) : cutL xs none (some (n : Int)) = xs.take n := by
  unfold cutL
  rw [HT.sIx_none, HT.sIx_nat]
  simp
theorem cutL_from {α : Type} (xs : List α) (n : Nat) : cutL xs (some (n : Int)) none = xs.drop n := by
  unfold cutL
  rw [HT.sIx_none, HT.sIx_nat]
  rcases Nat.le_total n xs.length with h | h
  · rw [Nat.min_eq_left h, List.take_of_length_le (by simp)]
  · rw [Nat.min_eq_right h, List.drop_of_length_le (Nat.le_refl _), List.drop_of_length_le h]; simp
theorem cutL_mid {α : Type} (a b c : List α) : cutL (a ++ b ++ c) (some (a.length : Int)) (some ((a.length + b.length : Nat) : Int)) = b := by
  unfold cutL
  rw [HT.sIx_nat, HT.sIx_nat]
  have h1 : min a.length (a ++ b ++ c).length = a.length := Nat.min_eq_left (by simp only [List.length_append]; omega)
  have h2 : min (a.length + b.length) (a ++ b ++ c).length = a.length + b.length := Nat.min_eq_left (by simp only [List.length_append]; omega)
  rw [h1, h2]
  simp
theorem atI_last {α : Type} {xs : List α} (h : xs ≠ []) : L2.atI xs (-1) = xs.getLast? := by
  have hl : 0 < xs.length := List.length_pos_iff.mpr h
  unfold L2.atI L2.ixN
  rw [if_neg (by decide), if_pos (by omega)]
  simp
  rw [List.getLast?_eq_getElem?]
  congr 1
  omega
theorem cutL_last {α : Type} (xs : List α) : cutL xs (some (-1)) none = xs.drop (xs.length - 1) := by
  unfold cutL
  rw [HT.sIx_none]
  have e : HT.sIx xs.length 0 (some (-1)) = xs.length - 1 := by
    show (if (-1 : Int) < 0 then ((-1 : Int) + (xs.length : Int)).toNat else min (-1 : Int).toNat xs.length) = _
    rw [if_pos (by decide)]
    omega
  rw [e, List.take_of_length_le (by simp)]
@[simp] theorem plainAll_strs {α : Type} (f : α → Str) (xs : List α) : PyData.plainAll (xs.map fun x => .str (f x)) = true := by
  induction xs with
  | nil => simp
  | cons x xs ih => simp [ih]
@[simp] theorem plainAll_bools {α : Type} (f : α → Bool) (xs : List α) : PyData.plainAll (xs.map fun x => .bool (f x)) = true := by
  induction xs with
  | nil => simp
  | cons x xs ih => simp [ih]
@[simp] theorem Wd.s_eq (a b : Wd) : (a.s = b.s) = (a = b) := by cases a <;> cases b <;> simp [Wd.s]
@[simp] theorem Kd.s_eq (a b : Kd) : (a.s = b.s) = (a = b) := by cases a <;> cases b <;> simp [Kd.s]
@[simp] theorem Wd.is_fresh (a : Wd) : (a.s = Str.ofString "fresh") = (a = .fresh) := by cases a <;> simp [Wd.s]
@[simp] theorem Wd.si_fresh (a : Wd) : (Str.ofString "fresh" = a.s) = (a = .fresh) := by cases a <;> simp [Wd.s]
@[simp] theorem Wd.is_done (a : Wd) : (a.s = Str.ofString "done") = (a = .done) := by cases a <;> simp [Wd.s]
@[simp] theorem Wd.si_done (a : Wd) : (Str.ofString "done" = a.s) = (a = .done) := by cases a <;> simp [Wd.s]
@[simp] theorem Wd.is_failed (a : Wd) : (a.s = Str.ofString "failed") = (a = .failed) := by cases a <;> simp [Wd.s]
@[simp] theorem Wd.si_failed (a : Wd) : (Str.ofString "failed" = a.s) = (a = .failed) := by cases a <;> simp [Wd.s]
@[simp] theorem Wd.is_undone (a : Wd) : (a.s = Str.ofString "undone") = (a = .undone) := by cases a <;> simp [Wd.s]
@[simp] theorem Wd.si_undone (a : Wd) : (Str.ofString "undone" = a.s) = (a = .undone) := by cases a <;> simp [Wd.s]
@[simp] theorem Kd.is_undoable (a : Kd) : (a.s = Str.ofString "undoable") = (a = .undoable) := by cases a <;> simp [Kd.s]
@[simp] theorem Kd.si_undoable (a : Kd) : (Str.ofString "undoable" = a.s) = (a = .undoable) := by cases a <;> simp [Kd.s]
@[simp] theorem Kd.is_sure (a : Kd) : (a.s = Str.ofString "sure") = (a = .sure) := by cases a <;> simp [Kd.s]
@[simp] theorem Kd.si_sure (a : Kd) : (Str.ofString "sure" = a.s) = (a = .sure) := by cases a <;> simp [Kd.s]
@[simp] theorem Kd.is_both (a : Kd) : (a.s = Str.ofString "both") = (a = .both) := by cases a <;> simp [Kd.s]
@[simp] theorem Kd.si_both (a : Kd) : (Str.ofString "both" = a.s) = (a = .both) := by cases a <;> simp [Kd.s]
@[simp] theorem Kd.is_neither (a : Kd) : (a.s = Str.ofString "neither") = (a = .neither) := by cases a <;> simp [Kd.s]
@[simp] theorem Kd.si_neither (a : Kd) : (Str.ofString "neither" = a.s) = (a = .neither) := by cases a <;> simp [Kd.s]
@[simp] theorem Gw.is_row (a : Gw) : (a.s = Str.ofString "row") = (a = .row) := by cases a <;> simp [Gw.s]
@[simp] theorem Gw.si_row (a : Gw) : (Str.ofString "row" = a.s) = (a = .row) := by cases a <;> simp [Gw.s]
@[simp] theorem Gw.is_side (a : Gw) : (a.s = Str.ofString "side") = (a = .side) := by cases a <;> simp [Gw.s]
@[simp] theorem Gw.si_side (a : Gw) : (Str.ofString "side" = a.s) = (a = .side) := by cases a <;> simp [Gw.s]
@[simp] theorem Gw.is_els (a : Gw) : (a.s = Str.ofString "else") = (a = .els) := by cases a <;> simp [Gw.s]
@[simp] theorem Gw.si_els (a : Gw) : (Str.ofString "else" = a.s) = (a = .els) := by cases a <;> simp [Gw.s]
@[simp] theorem Gw.is_deed (a : Gw) : (a.s = Str.ofString "deed") = False := by cases a <;> simp [Gw.s]
@[simp] theorem Gw.si_deed (a : Gw) : (Str.ofString "deed" = a.s) = False := by cases a <;> simp [Gw.s]
@[simp] theorem plainAll_strs0 (xs : List Str) : PyData.plainAll (xs.map PyData.str) = true := plainAll_strs (fun x => x) xs
@[simp] theorem okD_strs {α : Type} (f : α → Str) (xs : List α) : okD (.list (xs.map fun x => .str (f x))) = True := by
  have h : ∀ xs : List α, PyData.depthAll (xs.map fun x => .str (f x)) = 0 := by
    intro xs
    induction xs with
    | nil => rfl
    | cons x xs ih => simp [PyData.depthAll, PyData.depth, ih]
  simp [okD, PyData.depth, h]
@[simp] theorem any_true {α : Type} (f : α → Bool) (xs : List α) : xs.any ((fun z => PyData.eqv z (.bool true)) ∘ fun m => PyData.bool (f m)) = xs.any f := by
  congr 1
  funext x
  cases h : f x <;> simp [h]
@[simp] theorem any_false {α : Type} (f : α → Bool) (xs : List α) : xs.any ((fun z => PyData.eqv z (.bool false)) ∘ fun m => PyData.bool (f m)) = xs.any fun x => !f x := by
  congr 1
  funext x
  cases h : f x <;> simp [h]
@[simp] theorem any_truthy {α : Type} (f : α → Bool) (xs : List α) : xs.any (PyData.truthy ∘ fun m => PyData.bool (f m)) = xs.any f := by
  congr 1
  first
    | done
    | (funext x; simp)
@[simp] theorem all_truthy {α : Type} (f : α → Bool) (xs : List α) : xs.all (PyData.truthy ∘ fun m => PyData.bool (f m)) = xs.all f := by
  congr 1
  first
    | done
    | (funext x; simp)
@[simp] theorem any_str {α : Type} (f : α → Str) (s : Str) (xs : List α) : xs.any ((fun z => PyData.eqv z (.str s)) ∘ fun m => PyData.str (f m)) = xs.any fun x => decide (f x = s) := by
  congr 1
  first
    | done
    | (funext x; simp)
theorem last_bool {α : Type} (f : α → Bool) (xs : List α) (b : Bool) (h : (xs.map f).getLast? = some b) : (xs.map fun m => PyData.bool (f m)).getLast? = some (.bool b) := by
  have e : (xs.map fun m => PyData.bool (f m)) = (xs.map f).map PyData.bool := by simp
  rw [e, List.getLast?_map, h]
  rfl
/-! ### marks -/
structure Mk where
  good : Bool
  sure : Bool
  loose : Bool
  ready : Bool
  whole : Bool
def Mk.d (m : Mk) : PyData := .tuple [.bool m.good, .bool m.sure, .bool m.loose, .bool m.ready, .bool m.whole]
def come : List Mk → List Mk
  | [] => []
  | r :: rs => if r.sure = true then [r] else r :: come rs
def hinge (sel : Mk → Bool) (rows : List Mk) (i : Nat) : Bool := (rows.take i).all (·.loose) && ((rows[i]?.map sel).getD false && (rows.drop (i + 1)).all (·.sure))
def hinges (sel : Mk → Bool) (rows : List Mk) : List Nat := (List.range rows.length).filter (hinge sel rows)
structure M4 where
  sure : Bool
  loose : Bool
  ready : Bool
  whole : Bool
def M4.d (m : M4) : PyData := .tuple [.bool m.sure, .bool m.loose, .bool m.ready, .bool m.whole]
def rowM (rows : List Mk) : M4 := ⟨rows.all (·.sure), rows.all (·.loose), !(hinges (·.ready) rows).isEmpty, !(hinges (·.whole) rows).isEmpty⟩
def late (rows : List Mk) : List Mk := rows.filter fun r => !r.ready
def sideM (rows : List Mk) : M4 := ⟨rows.all (·.sure), rows.all (·.loose), (late rows).isEmpty, (late rows).isEmpty || (decide ((late rows).length = 1) && ((late rows).head?.map (·.whole)).getD false)⟩
def elseM (rows : List Mk) : M4 := ⟨((come rows).getLast?.map (·.sure)).getD false && (come rows).all (·.whole), (come rows).all (·.loose), rows.all (·.ready), (come rows).all (·.whole)⟩
namespace Plan
def good (σ : Str → Wd) (pins : List Str) (p : Plan) : Bool := (deeds p).any fun x => decide (σ x.1 = .done) && (!(decide (x.2 = .undoable) || decide (x.2 = .both)) || decide (x.1 ∈ pins))
def deedM (σ : Str → Wd) (n : Str) (k : Kd) : M4 := ⟨decide (σ n = .done) || (decide (k = .sure) || decide (k = .both)), decide (σ n = .done) || (decide (k = .undoable) || decide (k = .both)), !decide (k = .neither), true⟩
/-- the marks, from whether it is good, whether it is dead, and the marks of its kind -/
def mkOf (g dd : Bool) (m : M4) : Mk := if dd = true then (if g = true then ⟨true, false, false, false, false⟩ else ⟨false, false, true, true, true⟩) else if g = true then ⟨true, m.sure, false, m.sure, m.sure⟩ else ⟨false, m.sure, m.loose, m.sure || m.ready, m.whole⟩
mutual
def marks (σ : Str → Wd) (pins : List Str) : Plan → Mk
  | deed n k => mkOf (good σ pins (deed n k)) (dead σ (deed n k)) (deedM σ n k)
  | grp .row ms => mkOf (good σ pins (grp .row ms)) (dead σ (grp .row ms)) (rowM (marksL σ pins ms))
  | grp .side ms => mkOf (good σ pins (grp .side ms)) (dead σ (grp .side ms)) (sideM (marksL σ pins ms))
  | grp .els ms => mkOf (good σ pins (grp .els ms)) (dead σ (grp .els ms)) (elseM ((marksL σ pins ms).drop (force σ ms)))
def marksL (σ : Str → Wd) (pins : List Str) : List Plan → List Mk
  | [] => []
  | p :: ps => marks σ pins p :: marksL σ pins ps
end
theorem marksL_eq (σ : Str → Wd) (pins : List Str) : ∀ ms : List Plan, marksL σ pins ms = ms.map (marks σ pins)
  | [] => rfl
  | p :: ps => by rw [marksL, marksL_eq σ pins ps]; rfl
def pinD (pins : List Str) : PyData := .tuple (pins.map .str)
end Plan
theorem come_ne : ∀ {rows : List Mk}, rows ≠ [] → come rows ≠ []
  | r :: rs, _ => by
    unfold come
    split <;> simp
theorem drop_last {α : Type} (f : α → Bool) (xs : List α) (b : Bool) (h : (xs.map f).getLast? = some b) : (xs.drop (xs.length - 1)).any f = b := by
  rcases List.eq_nil_or_concat xs with e | ⟨ys, y, e⟩
  · subst e
    simp at h
  · subst e
    simpa using h
theorem zipD_map {α : Type} (f g : α → PyData) (xs : List α) : zipD (xs.map f) (xs.map g) = xs.map fun x => .tuple [f x, g x] := by
  unfold zipD
  induction xs with
  | nil => rfl
  | cons x xs ih => simpa using ih
theorem hinge_at {sel : Mk → Bool} {done r : List Mk} {m : Mk} : hinge sel (done ++ m :: r) done.length = (done.all (·.loose) && (sel m && r.all (·.sure))) := by
  unfold hinge
  simp
theorem range_filter (f : Nat → Bool) (j : Nat) : (List.range (j + 1)).filter f = (List.range j).filter f ++ (if f j = true then [j] else []) := by
  rw [List.range_succ, List.filter_append]
  congr 1
  by_cases h : f j = true <;> simp [h]
theorem str_pins (pins : List Str) : PyData.plainAll (pins.map PyData.str) = true := plainAll_strs (fun x => x) pins
@[simp] theorem any_strs (s : Str) (xs : List Str) : xs.any ((fun z => PyData.eqv z (.str s)) ∘ PyData.str) = decide (s ∈ xs) := by
  induction xs with
  | nil => rfl
  | cons x xs ih =>
    rw [List.any_cons, ih]
    by_cases h : x = s
    · simp [h]
    · have h2 : ¬ s = x := fun q => h q.symm
      simp [h, h2]
theorem seq_go {a b : DS} {D : Ctl} {ρ : Vn} (h : a { D with nx := b D } ρ) : dSeq a b D ρ := h
@[simp] theorem okD_mk0 (L : List Mk) : okD (.list (L.map Mk.d)) = True := by
  have h : ∀ xs : List Mk, PyData.depthAll (xs.map Mk.d) ≤ 1 ∧ PyData.plainAll (xs.map Mk.d) = true := by
    intro xs
    induction xs with
    | nil => exact ⟨Nat.zero_le _, rfl⟩
    | cons x xs ih =>
      obtain ⟨h1, h2⟩ := ih
      refine ⟨?_, ?_⟩
      · simp only [List.map_cons, PyData.depthAll]
        have : x.d.depth = 1 := by simp [Mk.d, PyData.depth, PyData.depthAll]
        omega
      · simp [h2, Mk.d]
  have := h L
  simp only [okD, PyData.depth, plain_list, this.2, true_and, eq_iff_iff, iff_true]
  omega
@[simp] theorem okD_ints (L : List Nat) : okD (.list (L.map fun (j : Nat) => .int j)) = True := by
  have h : ∀ xs : List Nat, PyData.depthAll (xs.map fun (j : Nat) => PyData.int j) = 0 ∧ PyData.plainAll (xs.map fun (j : Nat) => PyData.int j) = true := by
    intro xs
    induction xs with
    | nil => exact ⟨rfl, rfl⟩
    | cons x xs ih => exact ⟨by simp [PyData.depthAll, PyData.depth, ih.1], by simp [ih.2]⟩
  have := h L
  simp only [okD, PyData.depth, plain_list, this.2, this.1, true_and, eq_iff_iff, iff_true]
  omega
end PL

set_option Elab.async false
set_option linter.all false
set_option maxRecDepth 100000
set_option maxHeartbeats 4000000
/-! PRep: what repr asks of data: plain, not deep, to be shown, not long. -/
namespace PL
open PySem VL
theorem len_app (a b : Str) : (a ++ b).length = a.length + b.length := by
  show (a.cps ++ b.cps).size = _
  rw [Array.size_append]; rfl
theorem len_ofS (s : String) : (Str.ofString s).length = s.length := by
  rw [Str.ofString_eq_toList]
  show (Array.size _) = _
  simp [String.length_toList]
mutual
def W : PyData → Nat
  | .none => 4
  | .bool _ => 5
  | .int i => (Str.ofString (toString i)).length
  | .str x => (reprText x).length
  | .list xs => WL xs + 3
  | .tuple xs => WL xs + 3
  | .dict _ => 0
def WL : List PyData → Nat
  | [] => 0
  | x :: xs => W x + 2 + WL xs
end
theorem join_len : ∀ (ts : List Str), (Str.join ", " ts).length ≤ (ts.map fun t => t.length + 2).sum
  | [] => Nat.zero_le _
  | [t] => by
    show t.length ≤ _
    simp
  | t :: t2 :: ts => by
    have := join_len (t2 :: ts)
    show (t ++ (Str.ofString ", ") ++ Str.join ", " (t2 :: ts)).length ≤ _
    rw [len_app, len_app, len_ofS, List.map_cons, List.sum_cons]
    show t.length + 2 + _ ≤ _
    omega
mutual
/-- no dict within -/
def noD : PyData → Bool
  | .dict _ => false
  | .list xs => noDL xs
  | .tuple xs => noDL xs
  | _ => true
def noDL : List PyData → Bool
  | [] => true
  | x :: xs => noD x && noDL xs
end
mutual
theorem shown_W : ∀ d : PyData, d.plain = true → d.shown.length ≤ W d
  | .none, _ => by rw [PyData.shown_none, len_ofS, W]; decide
  | .bool b, _ => by rw [PyData.shown_bool, W]; cases b <;> (simp only [if_true, if_false, Bool.false_eq_true]; rw [len_ofS]; decide)
  | .int i, _ => by rw [PyData.shown_int, W]; exact Nat.le_refl _
  | .str x, _ => by rw [PyData.shown_str, W]; exact Nat.le_refl _
  | .list xs, h => by
    rw [PyData.shown_list, W, len_app, len_app, len_ofS, len_ofS]
    have a := join_len (PyData.shownAll xs)
    have b := shown_WL xs (by simpa using h)
    show 1 + _ + 1 ≤ _
    omega
  | .tuple xs, h => by
    rw [PyData.shown_tuple, W, len_app, len_app, len_ofS, len_ofS]
    have a := join_len (PyData.shownAll xs)
    have b := shown_WL xs (by simpa using h)
    have c : (if xs.length == 1 then ",)" else ")" : String).length ≤ 2 := by split <;> decide
    show 1 + _ + _ ≤ _
    omega
  | .dict _, h => by simp [PyData.plain] at h
theorem shown_WL : ∀ xs : List PyData, PyData.plainAll xs = true → ((PyData.shownAll xs).map fun t => t.length + 2).sum ≤ WL xs
  | [], _ => Nat.zero_le _
  | x :: xs, h => by
    rw [plainAll_cons, Bool.and_eq_true] at h
    have a := shown_W x h.1
    have b := shown_WL xs h.2
    rw [PyData.shownAll_cons, List.map_cons, List.sum_cons, WL]
    omega
end
/-- k: how deep at most; n: how long at most -/
structure Nice (k n : Nat) (d : PyData) : Prop where
  plain : d.plain = true
  depth : d.depth ≤ k
  show_ : d.showable = true
  len : W d ≤ n
theorem Nice.mono {k k' n n' : Nat} {d : PyData} (h : Nice k n d) (hk : k ≤ k') (hn : n ≤ n') : Nice k' n' d := ⟨h.plain, Nat.le_trans h.depth hk, h.show_, Nat.le_trans h.len hn⟩
theorem Nice.rep {n : Nat} {d : PyData} (h : Nice 60 n d) (hn : n ≤ 16777216) {Q : PyData → Prop} (q : Q (.str d.shown)) : dRepr [d] Q := by
  refine ⟨⟨h.plain, h.depth⟩, h.show_, ?_, q⟩
  have := shown_W d h.plain
  have := h.len
  simp only [line_eq]
  omega
theorem Nice.ok {n : Nat} {d : PyData} (h : Nice 60 n d) : okD d := ⟨h.plain, h.depth⟩
theorem nice_bool (b : Bool) : Nice 0 5 (.bool b) := ⟨by simp, Nat.le_refl _, by simp [PyData.showable], Nat.le_refl _⟩
theorem nice_none : Nice 0 4 .none := ⟨by simp [PyData.plain], Nat.le_refl _, by simp [PyData.showable], Nat.le_refl _⟩
theorem nice_str {x : Str} {n : Nat} (h : (reprText x).length ≤ n) : Nice 0 n (.str x) := ⟨by simp, Nat.le_refl _, by simp [PyData.showable], by rw [W]; exact h⟩
theorem nice_int {i : Int} (h : i.natAbs < 10 ^ 9) : Nice 0 10 (.int i) := by
  refine ⟨by simp, Nat.le_refl _, ?_, ?_⟩
  · simp [PyData.showable]
    have h2 : i.natAbs < 2 ^ 1920 := Nat.lt_of_lt_of_le h (by decide +kernel)
    by_cases h0 : i.natAbs = 0
    · rw [h0]; decide
    · exact (Nat.log2_lt h0).mpr h2
  · rw [W, len_ofS]
    exact int_text_length_le10 (k := 9) (by decide) h
theorem nice_nat {i : Nat} (h : i < 10 ^ 9) : Nice 0 10 (.int (i : Int)) := nice_int (by simpa using h)
structure NiceL (k n : Nat) (xs : List PyData) : Prop where
  plain : PyData.plainAll xs = true
  depth : PyData.depthAll xs ≤ k
  show_ : PyData.showableAll xs = true
  len : WL xs ≤ n
theorem niceL_nil {k n : Nat} : NiceL k n [] := ⟨rfl, Nat.zero_le _, by simp [PyData.showableAll], Nat.zero_le _⟩
theorem niceL_cons {k k1 n a b : Nat} {x : PyData} {xs : List PyData} (h : Nice k1 a x) (hs : NiceL k b xs) (hk : k1 ≤ k := by omega) (hn : a + 2 + b ≤ n := by omega) : NiceL k n (x :: xs) := by
  refine ⟨by simp [h.plain, hs.plain], ?_, by simp [PyData.showableAll, h.show_, hs.show_], ?_⟩
  · simp only [PyData.depthAll]
    exact Nat.max_le.mpr ⟨Nat.le_trans h.depth hk, hs.depth⟩
  · rw [WL]
    have := h.len
    have := hs.len
    omega
theorem niceL_all {k c m n : Nat} {xs : List PyData} (h : ∀ x ∈ xs, Nice k c x) (hm : xs.length ≤ m) (hn : (c + 2) * m ≤ n) : NiceL k n xs := by
  have : NiceL k ((c + 2) * xs.length) xs := by
    clear hm hn
    induction xs with
    | nil => exact niceL_nil
    | cons x xs ih =>
      refine niceL_cons (h x (List.mem_cons_self ..)) (ih fun y hy => h y (List.mem_cons_of_mem _ hy)) (Nat.le_refl _) ?_
      rw [List.length_cons, Nat.mul_succ]
      omega
  exact ⟨this.plain, this.depth, this.show_, Nat.le_trans this.len (Nat.le_trans (Nat.mul_le_mul_left _ hm) hn)⟩
theorem niceL_map {α : Type} {f : α → PyData} {k c m n : Nat} {xs : List α} (h : ∀ x ∈ xs, Nice k c (f x)) (hm : xs.length ≤ m) (hn : (c + 2) * m ≤ n) : NiceL k n (xs.map f) :=
  niceL_all (fun y hy => by obtain ⟨x, hx, e⟩ := List.mem_map.mp hy; rw [← e]; exact h x hx) (by rw [List.length_map]; exact hm) hn
theorem nice_list {k n m : Nat} {xs : List PyData} (h : NiceL k m xs) (hn : m + 3 ≤ n := by omega) : Nice (k + 1) n (.list xs) :=
  ⟨by simp [h.plain], by simp only [PyData.depth]; have := h.depth; omega, by simp [PyData.showable, h.show_], by rw [W]; have := h.len; omega⟩
theorem nice_tuple {k n m : Nat} {xs : List PyData} (h : NiceL k m xs) (hn : m + 3 ≤ n := by omega) : Nice (k + 1) n (.tuple xs) :=
  ⟨by simp [h.plain], by simp only [PyData.depth]; have := h.depth; omega, by simp [PyData.showable, h.show_], by rw [W]; have := h.len; omega⟩
theorem nice_place {q : List Nat} {m : Nat} (h : ∀ i ∈ q, i < 1000) (hm : q.length ≤ m) : Nice 1 (12 * m + 3) (Plan.pl q) :=
  nice_tuple (niceL_map (c := 10) (fun i hi => nice_nat (by have := h i hi; omega)) hm (Nat.le_refl _)) (Nat.le_refl _)
theorem nice_strs {xs : List Str} {c m : Nat} (h : ∀ x ∈ xs, (reprText x).length ≤ c) (hm : xs.length ≤ m) : NiceL 0 ((c + 2) * m) (xs.map .str) := niceL_map (fun x hx => nice_str (h x hx)) hm (Nat.le_refl _)
namespace Plan
theorem kd_len (k : Kd) : (reprText k.s).length ≤ 10 := by cases k <;> decide +kernel
theorem gw_len (w : Gw) : (reprText w.s).length ≤ 6 := by cases w <;> decide +kernel
theorem wd_len (w : Wd) : (reprText w.s).length ≤ 8 := by cases w <;> decide +kernel
mutual
theorem nice_plan : ∀ p : Plan, (∀ x ∈ deeds p, (reprText x.1).length ≤ 20) → Nice (2 * height p) (102 * nodes p - 2) p.d
  | deed n k, h => by
    have hn := h (n, k) (by simp [deeds])
    rw [Plan.d]
    exact (nice_tuple (k := 0) (m := 60) (n := 100) (niceL_cons (b := 40) (nice_str (n := 6) (by decide +kernel)) (niceL_cons (b := 12) (nice_str hn) (niceL_cons (b := 0) (nice_str (kd_len k)) niceL_nil)))).mono (by simp [height]) (by simp [nodes])
  | grp w ms, h => by
    have a := nice_planL ms (by simpa [deeds] using h)
    have b := nice_tuple a (Nat.le_refl _)
    rw [Plan.d]
    refine (nice_tuple (m := 102 * nodesL ms + 20) (n := 102 * nodesL ms + 30) (niceL_cons (b := 102 * nodesL ms + 5) (nice_str (gw_len w)) (niceL_cons (n := 102 * nodesL ms + 5) (b := 0) b niceL_nil (Nat.le_refl _) (by omega)) (by omega) (by omega)) (by omega)).mono (by rw [height]; omega) (by rw [nodes]; omega)
theorem nice_planL : ∀ ms : List Plan, (∀ x ∈ deedsL ms, (reprText x.1).length ≤ 20) → NiceL (2 * heightL ms) (102 * nodesL ms) (ds ms)
  | [], _ => niceL_nil
  | p :: ps, h => by
    have a := nice_plan p fun x hx => h x (by rw [deedsL]; exact List.mem_append_left _ hx)
    have b := nice_planL ps fun x hx => h x (by rw [deedsL]; exact List.mem_append_right _ hx)
    have h1 : 1 ≤ nodes p := by cases p <;> simp [nodes]
    rw [ds]
    have hm : 2 * height p ≤ 2 * heightL (p :: ps) := by rw [heightL]; omega
    have hm2 : 2 * heightL ps ≤ 2 * heightL (p :: ps) := by rw [heightL]; omega
    exact niceL_cons a ⟨b.plain, Nat.le_trans b.depth hm2, b.show_, b.len⟩ hm (by rw [nodesL]; omega)
end
end Plan
end PL

set_option Elab.async false
set_option linter.all false
set_option maxRecDepth 100000
set_option maxHeartbeats 4000000
/-! the walk of law_k11_marks_of_all_parts, printed by walk.py -/
namespace W_k11
open PySem PySem.Spec PyProof.Rows L2 VL
def bd_can_be_undone (K : PySem.W.Frag) : DS := dRet (dOp (dIn false) (dVar 0) (dTup (lCons (dC (.str "undoable")) (lCons (dC (.str "both")) (lNil)))))
def wp_can_be_undone (K : PySem.W.Frag) : Wp := fun as Qd => as.length = 1 ∧ bd_can_be_undone K (ctlS Qd) (env0 1 as)
def bd_is_sure (K : PySem.W.Frag) : DS := dRet (dOp (dIn false) (dVar 0) (dTup (lCons (dC (.str "sure")) (lCons (dC (.str "both")) (lNil)))))
def wp_is_sure (K : PySem.W.Frag) : Wp := fun as Qd => as.length = 1 ∧ bd_is_sure K (ctlS Qd) (env0 1 as)
def bd_members_of (K : PySem.W.Frag) : DS := dRet (dIfE (dTst (dOp (dIn false) (dOp dIx (dVar 0) (dC (.int 0))) (dC (.tuple [.str "row", .str "side", .str "else"])))) (dOp dIx (dVar 0) (dC (.int 1))) (dTup (lNil)))
def wp_members_of (K : PySem.W.Frag) : Wp := fun as Qd => as.length = 1 ∧ bd_members_of K (ctlS Qd) (env0 1 as)
def bd_placed (K : PySem.W.Frag) (r : Nat → Wp) : DS := dSeq (dSet 1 (dLst (lCons (dTup (lCons (dTup (lNil)) (lCons (dVar 0) (lNil)))) (lNil)))) (dSeq (dFor (dEnum (lCons (dCall ((wp_members_of) K) (aCons (dVar 0) (aNil))) (lNil))) (dgTup 2 (dgCons (dgName 2) (dgCons (dgName 3) (dgNil)))) (dSet 1 (dOp dAdd (dVar 1) (dLc (dIt (dCall (r 0) (aCons (dVar 3) (aNil)))) (dgTup 2 (dgCons (dgName 4) (dgCons (dgName 5) (dgNil)))) (dYes) (dTup (lCons (dOp dAdd (dTup (lCons (dVar 2) (lNil))) (dVar 4)) (lCons (dVar 5) (lNil)))) [4, 5])))) (dRet (dVar 1)))
def wpR_placed (K : PySem.W.Frag) : Nat → Nat → Wp
  | 0, _ => fun _ _ => False
  | n + 1, _ => fun as Qd => as.length = 1 ∧ bd_placed K (wpR_placed K n) (ctlS Qd) (env0 6 as)
def bd_parts_of (K : PySem.W.Frag) : DS := dRet (dLc (dIt (dCall ((fun K => wpR_placed K 24 0) K) (aCons (dVar 0) (aNil)))) (dgTup 2 (dgCons (dgName 1) (dgCons (dgName 2) (dgNil)))) (dYes) (dVar 2) [1, 2])
def wp_parts_of (K : PySem.W.Frag) : Wp := fun as Qd => as.length = 1 ∧ bd_parts_of K (ctlS Qd) (env0 3 as)
def bd_places_of (K : PySem.W.Frag) : DS := dRet (dLc (dIt (dCall ((fun K => wpR_placed K 24 0) K) (aCons (dVar 0) (aNil)))) (dgTup 2 (dgCons (dgName 1) (dgCons (dgName 2) (dgNil)))) (dYes) (dVar 1) [1, 2])
def wp_places_of (K : PySem.W.Frag) : Wp := fun as Qd => as.length = 1 ∧ bd_places_of K (ctlS Qd) (env0 3 as)
def bd_deeds_of (K : PySem.W.Frag) : DS := dRet (dLc (dIt (dCall ((wp_parts_of) K) (aCons (dVar 0) (aNil)))) (dgName 1) (dTst (dOp (dEq) (dOp dIx (dVar 1) (dC (.int 0))) (dC (.str "deed")))) (dVar 1) [1])
def wp_deeds_of (K : PySem.W.Frag) : Wp := fun as Qd => as.length = 1 ∧ bd_deeds_of K (ctlS Qd) (env0 2 as)
def bd_shared (K : PySem.W.Frag) : DS := dSeq (dParFE 2 3 (dLst (lNil)) (dC (.int 0))) (dSeq (dFor (dIt (dOp dIx (dVar 0) (dC (.int 1)))) (dgName 4) (dSeq (dSet 5 (dB (dLen) (lCons (dCall ((wp_deeds_of) K) (aCons (dVar 4) (aNil))) (lNil)))) (dSeq (dApp 2 (dTup (lCons (dVar 4) (lCons (dSl dCut (dVar 1) (oYes (dVar 3)) (oYes (dOp dAdd (dVar 3) (dVar 5)))) (lNil))))) (dAug dAddI 3 (dVar 5))))) (dRetV 2))
def wp_shared (K : PySem.W.Frag) : Wp := fun as Qd => as.length = 2 ∧ bd_shared K (ctlS Qd) (env0 6 as)
def bd_is_cleared (K : PySem.W.Frag) : DS := dRet (dOp (dIn true) (dC (.str "done")) (dVar 0))
def wp_is_cleared (K : PySem.W.Frag) : Wp := fun as Qd => as.length = 1 ∧ bd_is_cleared K (ctlS Qd) (env0 1 as)
def bd_is_lost (K : PySem.W.Frag) (r : Nat → Wp) : DS := dSeq (dIf (dTst (dOp (dEq) (dOp dIx (dVar 0) (dC (.int 0))) (dC (.str "deed")))) (dRet (dOp (dEq) (dOp dIx (dVar 1) (dC (.int 0))) (dC (.str "failed")))) (dNext)) (dSeq (dSet 2 (dLc (dIt (dCall ((wp_shared) K) (aCons (dVar 0) (aCons (dVar 1) (aNil))))) (dgTup 2 (dgCons (dgName 3) (dgCons (dgName 4) (dgNil)))) (dYes) (dCall (r 0) (aCons (dVar 3) (aCons (dVar 4) (aNil)))) [3, 4])) (dRet (dIfE (dTst (dOp (dEq) (dOp dIx (dVar 0) (dC (.int 0))) (dC (.str "else")))) (dOp dIx (dVar 2) (dUn dNeg (dC (.int 1)))) (dOp (dIn false) (dC (.bool true)) (dVar 2)))))
def wpR_is_lost (K : PySem.W.Frag) : Nat → Nat → Wp
  | 0, _ => fun _ _ => False
  | n + 1, _ => fun as Qd => as.length = 2 ∧ bd_is_lost K (wpR_is_lost K n) (ctlS Qd) (env0 5 as)
def bd_force_in (K : PySem.W.Frag) : DS := dSeq (dFor (dEnum (lCons (dCall ((wp_shared) K) (aCons (dVar 0) (aCons (dVar 1) (aNil)))) (lNil))) (dgTup 2 (dgCons (dgName 2) (dgCons (dgTup 2 (dgCons (dgName 3) (dgCons (dgName 4) (dgNil)))) (dgNil)))) (dIf (dOr (dNot (dTru (dCall ((fun K => wpR_is_lost K 24 0) K) (aCons (dVar 3) (aCons (dVar 4) (aNil)))))) (dNot (dTru (dCall ((wp_is_cleared) K) (aCons (dVar 4) (aNil)))))) (dRet (dVar 2)) (dNext))) (dRet (dOp dSub (dB (dLen) (lCons (dOp dIx (dVar 0) (dC (.int 1))) (lNil))) (dC (.int 1))))
def wp_force_in (K : PySem.W.Frag) : Wp := fun as Qd => as.length = 2 ∧ bd_force_in K (ctlS Qd) (env0 5 as)
def bd_is_dead (K : PySem.W.Frag) (r : Nat → Wp) : DS := dSeq (dIf (dTst (dOp (dEq) (dOp dIx (dVar 0) (dC (.int 0))) (dC (.str "deed")))) (dRet (dOp (dIn false) (dOp dIx (dVar 1) (dC (.int 0))) (dTup (lCons (dC (.str "failed")) (lCons (dC (.str "undone")) (lNil)))))) (dNext)) (dSeq (dSet 2 (dCall ((wp_shared) K) (aCons (dVar 0) (aCons (dVar 1) (aNil))))) (dSeq (dIf (dTst (dOp (dEq) (dOp dIx (dVar 0) (dC (.int 0))) (dC (.str "else")))) (dSet 2 (dIfE (dTst (dOp (dEq) (dCall ((wp_force_in) K) (aCons (dVar 0) (aCons (dVar 1) (aNil)))) (dOp dSub (dB (dLen) (lCons (dVar 2) (lNil))) (dC (.int 1))))) (dSl dCut (dVar 2) (oYes (dUn dNeg (dC (.int 1)))) oNo) (dLst (lNil)))) (dNext)) (dRet (dB (dAny false) (lCons (dLc (dIt (dVar 2)) (dgTup 2 (dgCons (dgName 3) (dgCons (dgName 4) (dgNil)))) (dYes) (dCall (r 0) (aCons (dVar 3) (aCons (dVar 4) (aNil)))) [3, 4]) (lNil))))))
def wpR_is_dead (K : PySem.W.Frag) : Nat → Nat → Wp
  | 0, _ => fun _ _ => False
  | n + 1, _ => fun as Qd => as.length = 2 ∧ bd_is_dead K (wpR_is_dead K n) (ctlS Qd) (env0 5 as)
def bd_found_at (K : PySem.W.Frag) : DS := dSeq (dPar3 3 4 5 (dVar 0) (dOp dIx (dVar 1) (dC (.int 0))) (dC (.int 0))) (dSeq (dFor (dIt (dVar 2)) (dgName 6) (dSeq (dSet 7 (dCall ((wp_shared) K) (aCons (dVar 3) (aCons (dVar 4) (aNil))))) (dSeq (dAug dAddI 5 (dB (dSum) (lCons (dLc (dIt (dSl dCut (dVar 7) oNo (oYes (dVar 6)))) (dgTup 2 (dgCons (dgName 8) (dgCons (dgName 9) (dgNil)))) (dYes) (dB (dLen) (lCons (dVar 9) (lNil))) [8, 9]) (lNil)))) (dAsg (dOp dIx (dVar 7) (dVar 6)) (dgTup 2 (dgCons (dgName 3) (dgCons (dgName 4) (dgNil)))))))) (dRet (dTup (lCons (dVar 3) (lCons (dVar 4) (lCons (dVar 5) (lNil)))))))
def wp_found_at (K : PySem.W.Frag) : Wp := fun as Qd => as.length = 3 ∧ bd_found_at K (ctlS Qd) (env0 10 as)
def bd_with_step (K : PySem.W.Frag) : DS := dSeq (dAsg (dVar 1) (dgTup 2 (dgCons (dgName 3) (dgCons (dgName 4) (dgNil))))) (dSeq (dIf (dTst (dOp (dEq) (dVar 2) (dTup (lCons (dC (.str "left")) (lNil))))) (dRet (dTup (lCons (dVar 3) (lCons (dC (.bool true)) (lNil))))) (dNext)) (dSeq (dSet 5 (dLc (dIt (dCall ((wp_deeds_of) K) (aCons (dVar 0) (aNil)))) (dgName 7) (dYes) (dOp dIx (dVar 7) (dC (.int 1))) [7])) (dSeq (dSet 6 (dM "list" dIdxL (dVar 5) (lCons (dOp dIx (dVar 2) (dC (.int 1))) (lNil)))) (dRet (dTup (lCons (dOp dAdd (dOp dAdd (dSl dCut (dVar 3) oNo (oYes (dVar 6))) (dSl dCut (dVar 2) oNo (oYes (dC (.int 1))))) (dSl dCut (dVar 3) (oYes (dOp dAdd (dVar 6) (dC (.int 1)))) oNo)) (lCons (dVar 4) (lNil))))))))
def wp_with_step (K : PySem.W.Frag) : Wp := fun as Qd => as.length = 3 ∧ bd_with_step K (ctlS Qd) (env0 8 as)
def bd_is_good_in (K : PySem.W.Frag) : DS := dZipRet 3 (lCons (dCall ((wp_deeds_of) K) (aCons (dVar 0) (aNil))) (lCons (dVar 1) (lNil))) (dAny false) (dgTup 2 (dgCons (dgName 4) (dgCons (dgName 5) (dgNil)))) (dYes) (dAndT (dOp (dEq) (dVar 5) (dC (.str "done"))) (dOrT (dNotT (dCall ((wp_can_be_undone) K) (aCons (dOp dIx (dVar 4) (dC (.int 2))) (aNil)))) (dOp (dIn false) (dOp dIx (dVar 4) (dC (.int 1))) (dVar 2)))) [4, 5]
def wp_is_good_in (K : PySem.W.Frag) : Wp := fun as Qd => as.length = 3 ∧ bd_is_good_in K (ctlS Qd) (env0 6 as)
def bd_coming (K : PySem.W.Frag) : DS := dSeq (dFor (dEnum (lCons (dVar 0) (lNil))) (dgTup 2 (dgCons (dgName 1) (dgCons (dgName 2) (dgNil)))) (dIf (dTru (dOp dIx (dVar 2) (dC (.int (1))))) (dRet (dSl dCut (dVar 0) oNo (oYes (dOp dAdd (dVar 1) (dC (.int 1)))))) (dNext))) (dRet (dVar 0))
def wp_coming (K : PySem.W.Frag) : Wp := fun as Qd => as.length = 1 ∧ bd_coming K (ctlS Qd) (env0 3 as)
def bd_hinges_of (K : PySem.W.Frag) : DS := dSeq (dSetO 2 (dLst (lNil))) (dSeq (dFor (dEnum (lCons (dVar 0) (lNil))) (dgTup 2 (dgCons (dgName 3) (dgCons (dgName 4) (dgNil)))) (dSeq (dSet 5 (dB (dAny true) (lCons (dLc (dIt (dSl dCut (dVar 0) oNo (oYes (dVar 3)))) (dgName 6) (dYes) (dOp dIx (dVar 6) (dC (.int (2)))) [6]) (lNil)))) (dIf (dAnd (dTru (dVar 5)) (dAnd (dTru (dOp dIx (dVar 4) (dVar 1))) (dTru (dB (dAny true) (lCons (dLc (dIt (dSl dCut (dVar 0) (oYes (dOp dAdd (dVar 3) (dC (.int 1)))) oNo)) (dgName 6) (dYes) (dOp dIx (dVar 6) (dC (.int (1)))) [6]) (lNil)))))) (dApp 2 (dVar 3)) (dNext)))) (dRetV 2))
def wp_hinges_of (K : PySem.W.Frag) : Wp := fun as Qd => as.length = 2 ∧ bd_hinges_of K (ctlS Qd) (env0 7 as)
def bd_marked_deed (K : PySem.W.Frag) : DS := dRet (dTup (lCons (dOrT (dOp (dEq) (dVar 1) (dC (.str "done"))) (dCall ((wp_is_sure) K) (aCons (dVar 0) (aNil)))) (lCons (dOrT (dOp (dEq) (dVar 1) (dC (.str "done"))) (dCall ((wp_can_be_undone) K) (aCons (dVar 0) (aNil)))) (lCons (dOp (dNe) (dVar 0) (dC (.str "neither"))) (lCons (dC (.bool true)) (lNil))))))
def wp_marked_deed (K : PySem.W.Frag) : Wp := fun as Qd => as.length = 2 ∧ bd_marked_deed K (ctlS Qd) (env0 2 as)
def bd_marked_row (K : PySem.W.Frag) : DS := dSeq (dPar 1 2 (dB (dAny true) (lCons (dLc (dIt (dVar 0)) (dgName 3) (dYes) (dOp dIx (dVar 3) (dC (.int (1)))) [3]) (lNil))) (dB (dAny true) (lCons (dLc (dIt (dVar 0)) (dgName 3) (dYes) (dOp dIx (dVar 3) (dC (.int (2)))) [3]) (lNil)))) (dRet (dTup (lCons (dVar 1) (lCons (dVar 2) (lCons (dOp (dNe) (dCall ((wp_hinges_of) K) (aCons (dVar 0) (aCons (dC (.int (3))) (aNil)))) (dLst (lNil))) (lCons (dOp (dNe) (dCall ((wp_hinges_of) K) (aCons (dVar 0) (aCons (dC (.int (4))) (aNil)))) (dLst (lNil))) (lNil)))))))
def wp_marked_row (K : PySem.W.Frag) : Wp := fun as Qd => as.length = 1 ∧ bd_marked_row K (ctlS Qd) (env0 4 as)
def bd_marked_side (K : PySem.W.Frag) : DS := dSeq (dSet 1 (dLc (dIt (dVar 0)) (dgName 3) (dNot (dTru (dOp dIx (dVar 3) (dC (.int (3)))))) (dVar 3) [3])) (dSeq (dSet 2 (dOrT (dOp (dEq) (dVar 1) (dLst (lNil))) (dAndT (dOp (dEq) (dB (dLen) (lCons (dVar 1) (lNil))) (dC (.int 1))) (dOp dIx (dOp dIx (dVar 1) (dC (.int 0))) (dC (.int (4))))))) (dRet (dTup (lCons (dB (dAny true) (lCons (dLc (dIt (dVar 0)) (dgName 3) (dYes) (dOp dIx (dVar 3) (dC (.int (1)))) [3]) (lNil))) (lCons (dB (dAny true) (lCons (dLc (dIt (dVar 0)) (dgName 3) (dYes) (dOp dIx (dVar 3) (dC (.int (2)))) [3]) (lNil))) (lCons (dOp (dEq) (dVar 1) (dLst (lNil))) (lCons (dVar 2) (lNil))))))))
def wp_marked_side (K : PySem.W.Frag) : Wp := fun as Qd => as.length = 1 ∧ bd_marked_side K (ctlS Qd) (env0 4 as)
def bd_marked_else (K : PySem.W.Frag) : DS := dSeq (dSet 1 (dCall ((wp_coming) K) (aCons (dVar 0) (aNil)))) (dSeq (dSet 2 (dB (dAny true) (lCons (dLc (dIt (dVar 1)) (dgName 3) (dYes) (dOp dIx (dVar 3) (dC (.int (4)))) [3]) (lNil)))) (dRet (dTup (lCons (dAndT (dOp dIx (dOp dIx (dVar 1) (dUn dNeg (dC (.int 1)))) (dC (.int (1)))) (dVar 2)) (lCons (dB (dAny true) (lCons (dLc (dIt (dVar 1)) (dgName 3) (dYes) (dOp dIx (dVar 3) (dC (.int (2)))) [3]) (lNil))) (lCons (dB (dAny true) (lCons (dLc (dIt (dVar 0)) (dgName 3) (dYes) (dOp dIx (dVar 3) (dC (.int (3)))) [3]) (lNil))) (lCons (dVar 2) (lNil))))))))
def wp_marked_else (K : PySem.W.Frag) : Wp := fun as Qd => as.length = 1 ∧ bd_marked_else K (ctlS Qd) (env0 4 as)
def bd_rows_of (K : PySem.W.Frag) (r : Nat → Wp) : DS := dSeq (dSet 3 (dLc (dIt (dCall ((wp_shared) K) (aCons (dVar 0) (aCons (dVar 1) (aNil))))) (dgTup 2 (dgCons (dgName 4) (dgCons (dgName 5) (dgNil)))) (dYes) (dCall (r 1) (aCons (dVar 4) (aCons (dVar 5) (aCons (dVar 2) (aNil))))) [4, 5])) (dRet (dIfE (dTst (dOp (dEq) (dOp dIx (dVar 0) (dC (.int 0))) (dC (.str "else")))) (dSl dCut (dVar 3) (oYes (dCall ((wp_force_in) K) (aCons (dVar 0) (aCons (dVar 1) (aNil))))) oNo) (dVar 3)))
def bd_marked (K : PySem.W.Frag) (r : Nat → Wp) : DS := dSeq (dSet 3 (dCall ((wp_is_good_in) K) (aCons (dVar 0) (aCons (dVar 1) (aCons (dVar 2) (aNil)))))) (dSeq (dIf (dTru (dCall ((fun K => wpR_is_dead K 24 0) K) (aCons (dVar 0) (aCons (dVar 1) (aNil))))) (dRet (dIfE (dTru (dVar 3)) (dTup (lCons (dC (.bool true)) (lCons (dC (.bool false)) (lCons (dC (.bool false)) (lCons (dC (.bool false)) (lCons (dC (.bool false)) (lNil))))))) (dTup (lCons (dC (.bool false)) (lCons (dC (.bool false)) (lCons (dC (.bool true)) (lCons (dC (.bool true)) (lCons (dC (.bool true)) (lNil))))))))) (dNext)) (dSeq (dIf (dTst (dOp (dEq) (dOp dIx (dVar 0) (dC (.int 0))) (dC (.str "deed")))) (dAsg (dCall ((wp_marked_deed) K) (aCons (dOp dIx (dVar 0) (dC (.int 2))) (aCons (dOp dIx (dVar 1) (dC (.int 0))) (aNil)))) (dgTup 4 (dgCons (dgName 4) (dgCons (dgName 5) (dgCons (dgName 6) (dgCons (dgName 7) (dgNil))))))) (dSeq (dSetV 8 (vSel [("row", V.ref (He.ga K "marked_row")), ("side", V.ref (He.ga K "marked_side")), ("else", V.ref (He.ga K "marked_else"))] (dOp dIx (dVar 0) (dC (.int 0))))) (dAsg (dCallX (vVar 8) (tabW K [("marked_row", ((wp_marked_row) K)), ("marked_side", ((wp_marked_side) K)), ("marked_else", ((wp_marked_else) K))]) (aCons (dCall (r 0) (aCons (dVar 0) (aCons (dVar 1) (aCons (dVar 2) (aNil))))) (aNil))) (dgTup 4 (dgCons (dgName 4) (dgCons (dgName 5) (dgCons (dgName 6) (dgCons (dgName 7) (dgNil))))))))) (dRet (dIfE (dTru (dVar 3)) (dTup (lCons (dC (.bool true)) (lCons (dVar 4) (lCons (dC (.bool false)) (lCons (dVar 4) (lCons (dVar 4) (lNil))))))) (dTup (lCons (dC (.bool false)) (lCons (dVar 4) (lCons (dVar 5) (lCons (dOrT (dVar 4) (dVar 6)) (lCons (dVar 7) (lNil)))))))))))
def wpR_rows_of (K : PySem.W.Frag) : Nat → Nat → Wp
  | 0, _ => fun _ _ => False
  | n + 1, 0 => fun as Qd => as.length = 3 ∧ bd_rows_of K (wpR_rows_of K n) (ctlS Qd) (env0 6 as)
  | n + 1, _ => fun as Qd => as.length = 3 ∧ bd_marked K (wpR_rows_of K n) (ctlS Qd) (env0 9 as)
def bd_marked_at (K : PySem.W.Frag) : DS := dSeq (dAsg (dCall ((wp_found_at) K) (aCons (dVar 0) (aCons (dVar 1) (aCons (dVar 3) (aNil))))) (dgTup 3 (dgCons (dgName 4) (dgCons (dgName 5) (dgCons (dgName 6) (dgNil)))))) (dRet (dCall ((fun K => wpR_rows_of K 24 1) K) (aCons (dVar 4) (aCons (dVar 5) (aCons (dVar 2) (aNil))))))
def wp_marked_at (K : PySem.W.Frag) : Wp := fun as Qd => as.length = 4 ∧ bd_marked_at K (ctlS Qd) (env0 7 as)
def bd_is_good (K : PySem.W.Frag) : DS := dRet (dOp dIx (dCall ((wp_marked_at) K) (aCons (dVar 0) (aCons (dVar 1) (aCons (dVar 2) (aCons (dVar 3) (aNil)))))) (dC (.int 0)))
def wp_is_good (K : PySem.W.Frag) : Wp := fun as Qd => as.length = 4 ∧ bd_is_good K (ctlS Qd) (env0 4 as)
def bd_has_mark (K : PySem.W.Frag) : DS := dRet (dOp dIx (dCall ((wp_marked_at) K) (aCons (dVar 0) (aCons (dVar 1) (aCons (dVar 2) (aCons (dVar 3) (aNil)))))) (dMc dIdxT (.tuple [.str "good", .str "sure", .str "loose", .str "ready", .str "whole"]) (lCons (dVar 4) (lNil))))
def wp_has_mark (K : PySem.W.Frag) : Wp := fun as Qd => as.length = 5 ∧ bd_has_mark K (ctlS Qd) (env0 5 as)
def bd_comes_to (K : PySem.W.Frag) : DS := dSeq (dAsg (dCall ((wp_found_at) K) (aCons (dVar 0) (aCons (dVar 1) (aCons (dVar 3) (aNil))))) (dgTup 3 (dgCons (dgName 4) (dgCons (dgName 5) (dgCons (dgName 6) (dgNil)))))) (dSeq (dSet 7 (dCall ((wp_force_in) K) (aCons (dVar 4) (aCons (dVar 5) (aNil))))) (dRet (dTupRg (dRg2 (dVar 7) (dOp dAdd (dVar 7) (dB (dLen) (lCons (dCall ((wp_coming) K) (aCons (dCall ((fun K => wpR_rows_of K 24 0) K) (aCons (dVar 4) (aCons (dVar 5) (aCons (dVar 2) (aNil))))) (aNil))) (lNil))))))))
def wp_comes_to (K : PySem.W.Frag) : Wp := fun as Qd => as.length = 4 ∧ bd_comes_to K (ctlS Qd) (env0 8 as)
def bd_hinges (K : PySem.W.Frag) : DS := dSeq (dAsg (dCall ((wp_found_at) K) (aCons (dVar 0) (aCons (dVar 1) (aCons (dVar 3) (aNil))))) (dgTup 3 (dgCons (dgName 5) (dgCons (dgName 6) (dgCons (dgName 7) (dgNil)))))) (dRet (dB (dTuple) (lCons (dCall ((wp_hinges_of) K) (aCons (dCall ((fun K => wpR_rows_of K 24 0) K) (aCons (dVar 5) (aCons (dVar 6) (aCons (dVar 2) (aNil))))) (aCons (dMc dIdxT (.tuple [.str "good", .str "sure", .str "loose", .str "ready", .str "whole"]) (lCons (dVar 4) (lNil))) (aNil)))) (lNil))))
def wp_hinges (K : PySem.W.Frag) : Wp := fun as Qd => as.length = 5 ∧ bd_hinges K (ctlS Qd) (env0 8 as)
def bd_marks (K : PySem.W.Frag) : DS := dRet (dB (dTuple) (lCons (dLc (dIt (dCall ((wp_places_of) K) (aCons (dVar 0) (aNil)))) (dgName 3) (dYes) (dTup (lCons (dVar 3) (lStar (dCall ((wp_marked_at) K) (aCons (dVar 0) (aCons (dVar 1) (aCons (dVar 2) (aCons (dVar 3) (aNil)))))) (lNil)))) [3]) (lNil)))
def wp_marks (K : PySem.W.Frag) : Wp := fun as Qd => as.length = 3 ∧ bd_marks K (ctlS Qd) (env0 4 as)
def bd_answers_to (K : PySem.W.Frag) : DS := dSeq (dSet 2 (dOp dIx (dLc (dIt (dCall ((wp_deeds_of) K) (aCons (dVar 0) (aNil)))) (dgName 3) (dTst (dOp (dEq) (dOp dIx (dVar 3) (dC (.int 1))) (dVar 1))) (dOp dIx (dVar 3) (dC (.int 2))) [3]) (dC (.int 0)))) (dRet (dIfE (dTru (dCall ((wp_is_sure) K) (aCons (dVar 2) (aNil)))) (dLst (lCons (dC (.str "done")) (lNil))) (dLst (lCons (dC (.str "done")) (lCons (dC (.str "failed")) (lNil))))))
def wp_answers_to (K : PySem.W.Frag) : Wp := fun as Qd => as.length = 2 ∧ bd_answers_to K (ctlS Qd) (env0 4 as)
def bd_lost_by (K : PySem.W.Frag) : DS := dSeq (dSet 4 (dLc (dIt (dCall ((wp_answers_to) K) (aCons (dVar 0) (aCons (dVar 3) (aNil))))) (dgName 5) (dYes) (dTup (lCons (dVar 5) (lCons (dCall ((wp_with_step) K) (aCons (dVar 0) (aCons (dVar 1) (aCons (dTup (lCons (dVar 5) (lCons (dVar 3) (lNil)))) (aNil))))) (lNil)))) [5])) (dRet (dB (dTuple) (lCons (dLc (dIt (dVar 4)) (dgTup 2 (dgCons (dgName 5) (dgCons (dgName 6) (dgNil)))) (dNot (dTru (dCall ((wp_has_mark) K) (aCons (dVar 0) (aCons (dVar 6) (aCons (dVar 2) (aCons (dTup (lNil)) (aCons (dC (.str "whole")) (aNil))))))))) (dVar 5) [5, 6]) (lNil))))
def wp_lost_by (K : PySem.W.Frag) : Wp := fun as Qd => as.length = 4 ∧ bd_lost_by K (ctlS Qd) (env0 7 as)
def bd__law_pick (K : PySem.W.Frag) : DS := dSeq (dIf (dTst (dOp (dCmp fun i j => decide (i < j)) (dVar 1) (dC (.int 2)))) (dRet (dC (.int 0))) (dNext)) (dFill (dSeq (dSet 3 (dSrcGet 0)) (dSeq (dIf (dTst (dOp (dCmp fun i j => decide (j < i)) (dVar 3) (dC (.int 1)))) (dSeq (dSrcPut 0 (dOp dFdiv (dVar 3) (dVar 1))) (dRet (dOp dMod (dB (dInt) (lCons (dVar 3) (lNil))) (dVar 1)))) (dNext)) (dSeq (dSrcPut 0 (dOp dAdd (dSrcGet 0) (dC (.int 1)))) (dSeq (dSet 4 (dSrcGet 0)) (dSeq (dSet 5 (dOp dMod (dB (dInt) (lCons (dOp dAdd (dSrcGet 0) (dOp dMul (dVar 4) (dC (.int 104729)))) (lNil))) (dC (.int 998244353)))) (dSeq (dSet 5 (dOp dMod (dB (dInt) (lCons (dOp dAdd (dOp dMul (dVar 5) (dVar 5)) (dOp dMul (dVar 4) (dC (.int 17)))) (lNil))) (dC (.int 2147483647)))) (dRet (dOp dMod (dB (dInt) (lCons (dOp dFdiv (dVar 5) (dC (.int 16))) (lNil))) (dVar 1))))))))))
def wp__law_pick (K : PySem.W.Frag) : Wp := fun as Qd => as.length = 2 ∧ bd__law_pick K (ctlS Qd) (env0 6 as)
def bd__law_draw_plan (K : PySem.W.Frag) (r : Nat → Wp) : DS := dSeq (dIf (dAnd (dTst (dOp (dEq) (dB (dLen) (lCons (dVar 1) (lNil))) (dC (.int 1)))) (dOr (dTst (dOp (dCmp fun i j => decide (j < i)) (dVar 2) (dC (.int 2)))) (dTst (dOp (dCmp fun i j => decide (j < i)) (dCall ((wpPick) K) (aSrc 0 (aCons (dC (.int 6)) (aNil)))) (dC (.int 0)))))) (dSeq (dSet 3 (dLst (lCons (dC (.str "undoable")) (lCons (dC (.str "undoable")) (lCons (dC (.str "neither")) (lCons (dC (.str "sure")) (lCons (dC (.str "both")) (lCons (dC (.str "neither")) (lCons (dC (.str "undoable")) (lNil)))))))))) (dRet (dTup (lCons (dC (.str "deed")) (lCons (dOp dIx (dVar 1) (dC (.int 0))) (lCons (dOp dIx (dVar 3) (dCall ((wpPick) K) (aSrc 0 (aCons (dC (.int 7)) (aNil))))) (lNil))))))) (dNext)) (dSeq (dSet 4 (dOp dIx (dLst (lCons (dC (.str "row")) (lCons (dC (.str "side")) (lCons (dC (.str "side")) (lCons (dC (.str "else")) (lCons (dC (.str "else")) (lNil))))))) (dCall ((wpPick) K) (aSrc 0 (aCons (dC (.int 5)) (aNil)))))) (dSeq (dIf (dTst (dOp (dEq) (dB (dLen) (lCons (dVar 1) (lNil))) (dC (.int 1)))) (dRet (dTup (lCons (dOp dIx (dLst (lCons (dC (.str "row")) (lCons (dC (.str "side")) (lNil)))) (dCall ((wpPick) K) (aSrc 0 (aCons (dC (.int 2)) (aNil))))) (lCons (dTup (lCons (dCall (r 0) (aSrc 0 (aCons (dVar 1) (aCons (dOp dAdd (dVar 2) (dC (.int 1))) (aNil))))) (lNil))) (lNil))))) (dNext)) (dSeq (dSet 5 (dOp dAdd (dC (.int 2)) (dB (dInt) (lCons (dAndT (dOp (dCmp fun i j => decide (j < i)) (dB (dLen) (lCons (dVar 1) (lNil))) (dC (.int 2))) (dOp (dEq) (dCall ((wpPick) K) (aSrc 0 (aCons (dC (.int 3)) (aNil)))) (dC (.int 0)))) (lNil))))) (dSeq (dSet 6 (dB (dSorted) (lCons (dSl dCut (dCall ((wpAnyOrder) K) (aSrc 0 (aCons (dListRg (dRg2 (dC (.int 1)) (dB (dLen) (lCons (dVar 1) (lNil))))) (aNil)))) oNo (oYes (dOp dSub (dVar 5) (dC (.int 1))))) (lNil)))) (dSeq (dSet 7 (dOp dAdd (dOp dAdd (dLst (lCons (dC (.int 0)) (lNil))) (dVar 6)) (dLst (lCons (dB (dLen) (lCons (dVar 1) (lNil))) (lNil))))) (dSeq (dSet 8 (dLc (dRng1 (lCons (dVar 5) (lNil))) (dgName 9) (dYes) (dCall (r 0) (aSrc 0 (aCons (dSl dCut (dVar 1) (oYes (dOp dIx (dVar 7) (dVar 9))) (oYes (dOp dIx (dVar 7) (dOp dAdd (dVar 9) (dC (.int 1)))))) (aCons (dOp dAdd (dVar 2) (dC (.int 1))) (aNil))))) [9])) (dRet (dTup (lCons (dVar 4) (lCons (dB (dTuple) (lCons (dVar 8) (lNil))) (lNil)))))))))))
def wpR__law_draw_plan (K : PySem.W.Frag) : Nat → Nat → Wp
  | 0, _ => fun _ _ => False
  | n + 1, _ => fun as Qd => as.length = 3 ∧ bd__law_draw_plan K (wpR__law_draw_plan K n) (ctlS Qd) (env0 10 as)
def bd__law_draw_whole_plan (K : PySem.W.Frag) : DS := dSeq (dSet 2 (dOp dAdd (dC (.int 1)) (dCall ((wpPick) K) (aSrc 0 (aCons (dVar 1) (aNil)))))) (dSeq (dSet 3 (dSl dCut (dCall ((wpAnyOrder) K) (aSrc 0 (aCons (dLst (lCons (dC (.str "a")) (lCons (dC (.str "b1")) (lCons (dC (.str "cd")) (lCons (dC (.str "do")) (lCons (dC (.str "e")) (lCons (dC (.str "f0")) (lCons (dC (.str "go")) (lCons (dC (.str "h")) (lCons (dC (.str "ij")) (lCons (dC (.str "k")) (lCons (dC (.str "lo")) (lCons (dC (.str "m2")) (lNil)))))))))))))) (aNil)))) oNo (oYes (dVar 2)))) (dRet (dCall ((fun K => wpR__law_draw_plan K 24 0) K) (aSrc 0 (aCons (dVar 3) (aCons (dC (.int 0)) (aNil)))))))
def wp__law_draw_whole_plan (K : PySem.W.Frag) : Wp := fun as Qd => as.length = 2 ∧ bd__law_draw_whole_plan K (ctlS Qd) (env0 4 as)
def bd__law_deeds (K : PySem.W.Frag) (r : Nat → Wp) : DS := dSeq (dIf (dTst (dOp (dEq) (dOp dIx (dVar 0) (dC (.int 0))) (dC (.str "deed")))) (dRet (dLst (lCons (dVar 0) (lNil)))) (dNext)) (dSeq (dSet 1 (dLst (lNil))) (dSeq (dFor (dIt (dOp dIx (dVar 0) (dC (.int 1)))) (dgName 2) (dSet 1 (dOp dAdd (dVar 1) (dCall (r 0) (aCons (dVar 2) (aNil)))))) (dRet (dVar 1))))
def wpR__law_deeds (K : PySem.W.Frag) : Nat → Nat → Wp
  | 0, _ => fun _ _ => False
  | n + 1, _ => fun as Qd => as.length = 1 ∧ bd__law_deeds K (wpR__law_deeds K n) (ctlS Qd) (env0 3 as)
def bd__law_is_lost (K : PySem.W.Frag) (r : Nat → Wp) : DS := dSeq (dIf (dTst (dOp (dEq) (dOp dIx (dVar 0) (dC (.int 0))) (dC (.str "deed")))) (dRet (dOp (dEq) (dOp dIx (dVar 1) (dOp dIx (dVar 0) (dC (.int 1)))) (dC (.str "failed")))) (dNext)) (dSeq (dSet 2 (dLc (dIt (dOp dIx (dVar 0) (dC (.int 1)))) (dgName 3) (dYes) (dCall (r 0) (aCons (dVar 3) (aCons (dVar 1) (aNil)))) [3])) (dRet (dIfE (dTst (dOp (dEq) (dOp dIx (dVar 0) (dC (.int 0))) (dC (.str "else")))) (dOp dIx (dVar 2) (dUn dNeg (dC (.int 1)))) (dB (dAny false) (lCons (dVar 2) (lNil))))))
def wpR__law_is_lost (K : PySem.W.Frag) : Nat → Nat → Wp
  | 0, _ => fun _ _ => False
  | n + 1, _ => fun as Qd => as.length = 2 ∧ bd__law_is_lost K (wpR__law_is_lost K n) (ctlS Qd) (env0 4 as)
def bd__law_has_done (K : PySem.W.Frag) : DS := dRet (dB (dAny false) (lCons (dLc (dIt (dCall ((fun K => wpR__law_deeds K 24 0) K) (aCons (dVar 0) (aNil)))) (dgName 2) (dYes) (dOp (dEq) (dOp dIx (dVar 1) (dOp dIx (dVar 2) (dC (.int 1)))) (dC (.str "done"))) [2]) (lNil)))
def wp__law_has_done (K : PySem.W.Frag) : Wp := fun as Qd => as.length = 2 ∧ bd__law_has_done K (ctlS Qd) (env0 3 as)
def bd__law_force (K : PySem.W.Frag) : DS := dSeq (dSet 2 (dLc (dEnum (lCons (dOp dIx (dVar 0) (dC (.int 1))) (lNil))) (dgTup 2 (dgCons (dgName 3) (dgCons (dgName 4) (dgNil)))) (dOr (dNot (dTru (dCall ((fun K => wpR__law_is_lost K 24 0) K) (aCons (dVar 4) (aCons (dVar 1) (aNil)))))) (dTru (dCall ((wp__law_has_done) K) (aCons (dVar 4) (aCons (dVar 1) (aNil)))))) (dVar 3) [3, 4])) (dRet (dIfE (dTst (dOp (dNe) (dVar 2) (dLst (lNil)))) (dOp dIx (dVar 2) (dC (.int 0))) (dOp dSub (dB (dLen) (lCons (dOp dIx (dVar 0) (dC (.int 1))) (lNil))) (dC (.int 1)))))
def wp__law_force (K : PySem.W.Frag) : Wp := fun as Qd => as.length = 2 ∧ bd__law_force K (ctlS Qd) (env0 5 as)
def bd__law_is_done (K : PySem.W.Frag) (r : Nat → Wp) : DS := dSeq (dIf (dTst (dOp (dEq) (dOp dIx (dVar 0) (dC (.int 0))) (dC (.str "deed")))) (dRet (dOp (dEq) (dOp dIx (dVar 1) (dOp dIx (dVar 0) (dC (.int 1)))) (dC (.str "done")))) (dNext)) (dSeq (dSet 2 (dIfE (dTst (dOp (dNe) (dOp dIx (dVar 0) (dC (.int 0))) (dC (.str "else")))) (dOp dIx (dVar 0) (dC (.int 1))) (dLst (lCons (dOp dIx (dOp dIx (dVar 0) (dC (.int 1))) (dCall ((wp__law_force) K) (aCons (dVar 0) (aCons (dVar 1) (aNil))))) (lNil))))) (dRet (dB (dAny true) (lCons (dLc (dIt (dVar 2)) (dgName 3) (dYes) (dCall (r 0) (aCons (dVar 3) (aCons (dVar 1) (aNil)))) [3]) (lNil)))))
def wpR__law_is_done (K : PySem.W.Frag) : Nat → Nat → Wp
  | 0, _ => fun _ _ => False
  | n + 1, _ => fun as Qd => as.length = 2 ∧ bd__law_is_done K (wpR__law_is_done K n) (ctlS Qd) (env0 4 as)
def bd__law_is_dead (K : PySem.W.Frag) (r : Nat → Wp) : DS := dSeq (dIf (dTst (dOp (dEq) (dOp dIx (dVar 0) (dC (.int 0))) (dC (.str "deed")))) (dRet (dOp (dIn false) (dOp dIx (dVar 1) (dOp dIx (dVar 0) (dC (.int 1)))) (dTup (lCons (dC (.str "failed")) (lCons (dC (.str "undone")) (lNil)))))) (dNext)) (dSeq (dIf (dTst (dOp (dEq) (dOp dIx (dVar 0) (dC (.int 0))) (dC (.str "else")))) (dRet (dAndT (dOp (dEq) (dCall ((wp__law_force) K) (aCons (dVar 0) (aCons (dVar 1) (aNil)))) (dOp dSub (dB (dLen) (lCons (dOp dIx (dVar 0) (dC (.int 1))) (lNil))) (dC (.int 1)))) (dCall (r 0) (aCons (dOp dIx (dOp dIx (dVar 0) (dC (.int 1))) (dUn dNeg (dC (.int 1)))) (aCons (dVar 1) (aNil)))))) (dNext)) (dRet (dB (dAny false) (lCons (dLc (dIt (dOp dIx (dVar 0) (dC (.int 1)))) (dgName 2) (dYes) (dCall (r 0) (aCons (dVar 2) (aCons (dVar 1) (aNil)))) [2]) (lNil)))))
def wpR__law_is_dead (K : PySem.W.Frag) : Nat → Nat → Wp
  | 0, _ => fun _ _ => False
  | n + 1, _ => fun as Qd => as.length = 2 ∧ bd__law_is_dead K (wpR__law_is_dead K n) (ctlS Qd) (env0 3 as)
def bd__law_going (K : PySem.W.Frag) (r : Nat → Wp) : DS := dSeq (dIf (dTst (dOp (dEq) (dOp dIx (dVar 0) (dC (.int 0))) (dC (.str "deed")))) (dRet (dIfE (dAnd (dTru (dVar 2)) (dTst (dOp (dEq) (dOp dIx (dVar 1) (dOp dIx (dVar 0) (dC (.int 1)))) (dC (.str "done"))))) (dLst (lCons (dOp dIx (dVar 0) (dC (.int 1))) (lNil))) (dLst (lNil)))) (dNext)) (dSeq (dSet 3 (dLst (lNil))) (dSeq (dFor (dEnum (lCons (dOp dIx (dVar 0) (dC (.int 1))) (lNil))) (dgTup 2 (dgCons (dgName 4) (dgCons (dgName 5) (dgNil)))) (dSeq (dSet 6 (dAndT (dOp (dEq) (dOp dIx (dVar 0) (dC (.int 0))) (dC (.str "else"))) (dAndT (dOp (dCmp fun i j => decide (i < j)) (dVar 4) (dOp dSub (dB (dLen) (lCons (dOp dIx (dVar 0) (dC (.int 1))) (lNil))) (dC (.int 1)))) (dCall ((fun K => wpR__law_is_lost K 24 0) K) (aCons (dVar 5) (aCons (dVar 1) (aNil))))))) (dSet 3 (dOp dAdd (dVar 3) (dCall (r 0) (aCons (dVar 5) (aCons (dVar 1) (aCons (dOrT (dVar 2) (dVar 6)) (aNil))))))))) (dRet (dVar 3))))
def wpR__law_going (K : PySem.W.Frag) : Nat → Nat → Wp
  | 0, _ => fun _ _ => False
  | n + 1, _ => fun as Qd => as.length = 3 ∧ bd__law_going K (wpR__law_going K n) (ctlS Qd) (env0 7 as)
def bd__law_may_try (K : PySem.W.Frag) (r : Nat → Wp) : DS := dSeq (dIf (dTru (dCall ((fun K => wpR__law_is_dead K 24 0) K) (aCons (dVar 0) (aCons (dVar 1) (aNil))))) (dRet (dLst (lNil))) (dNext)) (dSeq (dIf (dTst (dOp (dEq) (dOp dIx (dVar 0) (dC (.int 0))) (dC (.str "deed")))) (dRet (dIfE (dTst (dOp (dEq) (dOp dIx (dVar 1) (dOp dIx (dVar 0) (dC (.int 1)))) (dC (.str "fresh")))) (dLst (lCons (dVar 0) (lNil))) (dLst (lNil)))) (dNext)) (dSeq (dIf (dTst (dOp (dEq) (dOp dIx (dVar 0) (dC (.int 0))) (dC (.str "else")))) (dRet (dCall (r 0) (aCons (dOp dIx (dOp dIx (dVar 0) (dC (.int 1))) (dCall ((wp__law_force) K) (aCons (dVar 0) (aCons (dVar 1) (aNil))))) (aCons (dVar 1) (aNil))))) (dNext)) (dSeq (dSet 2 (dLst (lNil))) (dSeq (dFor (dIt (dOp dIx (dVar 0) (dC (.int 1)))) (dgName 3) (dSeq (dSet 2 (dOp dAdd (dVar 2) (dCall (r 0) (aCons (dVar 3) (aCons (dVar 1) (aNil)))))) (dIf (dAnd (dTst (dOp (dEq) (dOp dIx (dVar 0) (dC (.int 0))) (dC (.str "row")))) (dNot (dTru (dCall ((fun K => wpR__law_is_done K 24 0) K) (aCons (dVar 3) (aCons (dVar 1) (aNil))))))) (dRet (dVar 2)) (dNext)))) (dRet (dVar 2))))))
def wpR__law_may_try (K : PySem.W.Frag) : Nat → Nat → Wp
  | 0, _ => fun _ _ => False
  | n + 1, _ => fun as Qd => as.length = 2 ∧ bd__law_may_try K (wpR__law_may_try K n) (ctlS Qd) (env0 4 as)
def bd__law_is_firm (K : PySem.W.Frag) : DS := dRet (dAndT (dOp (dEq) (dOp dIx (dVar 1) (dOp dIx (dVar 0) (dC (.int 1)))) (dC (.str "done"))) (dOrT (dOp (dIn false) (dOp dIx (dVar 0) (dC (.int 2))) (dTup (lCons (dC (.str "sure")) (lCons (dC (.str "neither")) (lNil))))) (dOp (dIn false) (dOp dIx (dVar 0) (dC (.int 1))) (dVar 2))))
def wp__law_is_firm (K : PySem.W.Frag) : Wp := fun as Qd => as.length = 3 ∧ bd__law_is_firm K (ctlS Qd) (env0 3 as)
def bd__law_answers (K : PySem.W.Frag) : DS := dRet (dIfE (dTst (dOp (dIn false) (dOp dIx (dVar 0) (dC (.int 2))) (dTup (lCons (dC (.str "sure")) (lCons (dC (.str "both")) (lNil)))))) (dLst (lCons (dC (.str "done")) (lNil))) (dLst (lCons (dC (.str "done")) (lCons (dC (.str "failed")) (lNil)))))
def wp__law_answers (K : PySem.W.Frag) : Wp := fun as Qd => as.length = 1 ∧ bd__law_answers K (ctlS Qd) (env0 1 as)
def bd__law_with (K : PySem.W.Frag) : DS := dSeq (dSetO 3 (dB (dDictOf) (lCons (dVar 0) (lNil)))) (dSeq (dPut 3 (dVar 1) (dVar 2)) (dRetV 3))
def wp__law_with (K : PySem.W.Frag) : Wp := fun as Qd => as.length = 3 ∧ bd__law_with K (ctlS Qd) (env0 4 as)
def bd__law_standing (K : PySem.W.Frag) : DS := dRet (dTup (lCons (dB (dTuple) (lCons (dLc (dIt (dCall ((fun K => wpR__law_deeds K 24 0) K) (aCons (dVar 0) (aNil)))) (dgName 2) (dYes) (dOp dIx (dVar 1) (dOp dIx (dVar 2) (dC (.int 1)))) [2]) (lNil))) (lCons (dC (.bool false)) (lNil))))
def wp__law_standing (K : PySem.W.Frag) : Wp := fun as Qd => as.length = 2 ∧ bd__law_standing K (ctlS Qd) (env0 3 as)
def bd__law_hinges (K : PySem.W.Frag) : DS := dSeq (dSetO 2 (dLst (lNil))) (dSeq (dFor (dEnum (lCons (dVar 0) (lNil))) (dgTup 2 (dgCons (dgName 3) (dgCons (dgName 4) (dgNil)))) (dIf (dAnd (dTru (dOp dIx (dVar 4) (dVar 1))) (dAnd (dTst (dOp (dIn true) (dC (.bool false)) (dLc (dIt (dSl dCut (dVar 0) oNo (oYes (dVar 3)))) (dgName 5) (dYes) (dOp dIx (dVar 5) (dC (.int 2))) [5]))) (dTst (dOp (dIn true) (dC (.bool false)) (dLc (dIt (dSl dCut (dVar 0) (oYes (dOp dAdd (dVar 3) (dC (.int 1)))) oNo)) (dgName 5) (dYes) (dOp dIx (dVar 5) (dC (.int 1))) [5]))))) (dApp 2 (dVar 3)) (dNext))) (dRetV 2))
def wp__law_hinges (K : PySem.W.Frag) : Wp := fun as Qd => as.length = 2 ∧ bd__law_hinges K (ctlS Qd) (env0 6 as)
def bd__law_row_marks (K : PySem.W.Frag) : DS := dSeq (dSetO 1 (dLst (lCons (dB (dAny true) (lCons (dLc (dIt (dVar 0)) (dgName 3) (dYes) (dOp dIx (dVar 3) (dC (.int 1))) [3]) (lNil))) (lCons (dB (dAny true) (lCons (dLc (dIt (dVar 0)) (dgName 3) (dYes) (dOp dIx (dVar 3) (dC (.int 2))) [3]) (lNil))) (lNil))))) (dSeq (dFor (dIt (dTup (lCons (dC (.int 3)) (lCons (dC (.int 4)) (lNil))))) (dgName 2) (dApp 1 (dOp (dNe) (dCall ((wp__law_hinges) K) (aCons (dVar 0) (aCons (dVar 2) (aNil)))) (dLst (lNil))))) (dRet (dB (dTuple) (lCons (dVarP 1) (lNil)))))
def wp__law_row_marks (K : PySem.W.Frag) : Wp := fun as Qd => as.length = 1 ∧ bd__law_row_marks K (ctlS Qd) (env0 4 as)
def bd__law_side_marks (K : PySem.W.Frag) : DS := dSeq (dSet 1 (dLc (dIt (dVar 0)) (dgName 3) (dNot (dTru (dOp dIx (dVar 3) (dC (.int 3))))) (dVar 3) [3])) (dSeq (dSet 2 (dOrT (dOp (dEq) (dVar 1) (dLst (lNil))) (dAndT (dOp (dEq) (dB (dLen) (lCons (dVar 1) (lNil))) (dC (.int 1))) (dOp dIx (dOp dIx (dVar 1) (dC (.int 0))) (dC (.int 4)))))) (dRet (dTup (lCons (dB (dAny true) (lCons (dLc (dIt (dVar 0)) (dgName 3) (dYes) (dOp dIx (dVar 3) (dC (.int 1))) [3]) (lNil))) (lCons (dB (dAny true) (lCons (dLc (dIt (dVar 0)) (dgName 3) (dYes) (dOp dIx (dVar 3) (dC (.int 2))) [3]) (lNil))) (lCons (dOp (dEq) (dVar 1) (dLst (lNil))) (lCons (dVar 2) (lNil))))))))
def wp__law_side_marks (K : PySem.W.Frag) : Wp := fun as Qd => as.length = 1 ∧ bd__law_side_marks K (ctlS Qd) (env0 4 as)
def bd__law_come (K : PySem.W.Frag) : DS := dSeq (dSet 1 (dLc (dEnum (lCons (dVar 0) (lNil))) (dgTup 2 (dgCons (dgName 2) (dgCons (dgName 3) (dgNil)))) (dTru (dOp dIx (dVar 3) (dC (.int 1)))) (dVar 2) [2, 3])) (dRet (dIfE (dTst (dOp (dNe) (dVar 1) (dLst (lNil)))) (dOp dAdd (dOp dIx (dVar 1) (dC (.int 0))) (dC (.int 1))) (dB (dLen) (lCons (dVar 0) (lNil)))))
def wp__law_come (K : PySem.W.Frag) : Wp := fun as Qd => as.length = 1 ∧ bd__law_come K (ctlS Qd) (env0 4 as)
def bd__law_else_marks (K : PySem.W.Frag) : DS := dSeq (dSet 1 (dSl dCut (dVar 0) oNo (oYes (dCall ((wp__law_come) K) (aCons (dVar 0) (aNil)))))) (dSeq (dSet 2 (dB (dAny true) (lCons (dLc (dIt (dVar 1)) (dgName 4) (dYes) (dOp dIx (dVar 4) (dC (.int 4))) [4]) (lNil)))) (dSeq (dSet 3 (dAndT (dOp dIx (dOp dIx (dVar 1) (dUn dNeg (dC (.int 1)))) (dC (.int 1))) (dVar 2))) (dRet (dTup (lCons (dVar 3) (lCons (dB (dAny true) (lCons (dLc (dIt (dVar 1)) (dgName 4) (dYes) (dOp dIx (dVar 4) (dC (.int 2))) [4]) (lNil))) (lCons (dOrT (dVar 3) (dB (dAny true) (lCons (dLc (dIt (dVar 0)) (dgName 4) (dYes) (dOp dIx (dVar 4) (dC (.int 3))) [4]) (lNil)))) (lCons (dVar 2) (lNil)))))))))
def wp__law_else_marks (K : PySem.W.Frag) : Wp := fun as Qd => as.length = 1 ∧ bd__law_else_marks K (ctlS Qd) (env0 5 as)
def bd__law_marks (K : PySem.W.Frag) (r : Nat → Wp) : DS := dSeq (dSet 3 (dB (dAny false) (lCons (dLc (dIt (dCall ((fun K => wpR__law_deeds K 24 0) K) (aCons (dVar 0) (aNil)))) (dgName 11) (dYes) (dCall ((wp__law_is_firm) K) (aCons (dVar 11) (aCons (dVar 1) (aCons (dVar 2) (aNil))))) [11]) (lNil)))) (dSeq (dIf (dTru (dCall ((fun K => wpR__law_is_dead K 24 0) K) (aCons (dVar 0) (aCons (dVar 1) (aNil))))) (dRet (dTup (lCons (dVar 3) (lCons (dC (.bool false)) (lCons (dNotT (dVar 3)) (lCons (dNotT (dVar 3)) (lCons (dNotT (dVar 3)) (lNil)))))))) (dNext)) (dSeq (dIf (dTst (dOp (dEq) (dOp dIx (dVar 0) (dC (.int 0))) (dC (.str "deed")))) (dSeq (dPar 4 5 (dOp (dEq) (dOp dIx (dVar 1) (dOp dIx (dVar 0) (dC (.int 1)))) (dC (.str "fresh"))) (dOrT (dOp (dEq) (dOp dIx (dVar 1) (dOp dIx (dVar 0) (dC (.int 1)))) (dC (.str "done"))) (dOp (dIn false) (dOp dIx (dVar 0) (dC (.int 2))) (dTup (lCons (dC (.str "sure")) (lCons (dC (.str "both")) (lNil))))))) (dSeq (dSet 6 (dAndT (dNotT (dVar 3)) (dOrT (dNotT (dVar 4)) (dOp (dIn false) (dOp dIx (dVar 0) (dC (.int 2))) (dTup (lCons (dC (.str "undoable")) (lCons (dC (.str "both")) (lNil)))))))) (dRet (dTup (lCons (dVar 3) (lCons (dVar 5) (lCons (dVar 6) (lCons (dOrT (dVar 5) (dOp (dNe) (dOp dIx (dVar 0) (dC (.int 2))) (dC (.str "neither")))) (lCons (dC (.bool true)) (lNil)))))))))) (dNext)) (dSeq (dSet 7 (dIfE (dTst (dOp (dEq) (dOp dIx (dVar 0) (dC (.int 0))) (dC (.str "else")))) (dSl dCut (dOp dIx (dVar 0) (dC (.int 1))) (oYes (dCall ((wp__law_force) K) (aCons (dVar 0) (aCons (dVar 1) (aNil))))) oNo) (dOp dIx (dVar 0) (dC (.int 1))))) (dSeq (dSet 8 (dLc (dIt (dVar 7)) (dgName 10) (dYes) (dCall (r 0) (aCons (dVar 10) (aCons (dVar 1) (aCons (dVar 2) (aNil))))) [10])) (dSeq (dSet 9 (dCallX (vSel [("row", V.ref (He.ga K "_law_row_marks")), ("side", V.ref (He.ga K "_law_side_marks")), ("else", V.ref (He.ga K "_law_else_marks"))] (dOp dIx (dVar 0) (dC (.int 0)))) (tabW K [("_law_row_marks", ((wp__law_row_marks) K)), ("_law_side_marks", ((wp__law_side_marks) K)), ("_law_else_marks", ((wp__law_else_marks) K))]) (aCons (dVar 8) (aNil)))) (dSeq (dIf (dTru (dVar 3)) (dRet (dTup (lCons (dVar 3) (lCons (dOp dIx (dVar 9) (dC (.int 0))) (lCons (dC (.bool false)) (lCons (dOp dIx (dVar 9) (dC (.int 0))) (lCons (dOp dIx (dVar 9) (dC (.int 0))) (lNil)))))))) (dNext)) (dRet (dOp dAdd (dTup (lCons (dVar 3) (lNil))) (dVar 9)))))))))
def wpR__law_marks (K : PySem.W.Frag) : Nat → Nat → Wp
  | 0, _ => fun _ _ => False
  | n + 1, _ => fun as Qd => as.length = 3 ∧ bd__law_marks K (wpR__law_marks K n) (ctlS Qd) (env0 12 as)
def bd__law_places (K : PySem.W.Frag) (r : Nat → Wp) : DS := dSeq (dSet 2 (dLst (lCons (dVar 1) (lNil)))) (dSeq (dFor (dEnum (lCons (dIfE (dTst (dOp (dNe) (dOp dIx (dVar 0) (dC (.int 0))) (dC (.str "deed")))) (dOp dIx (dVar 0) (dC (.int 1))) (dTup (lNil))) (lNil))) (dgTup 2 (dgCons (dgName 3) (dgCons (dgName 4) (dgNil)))) (dSet 2 (dOp dAdd (dVar 2) (dCall (r 0) (aCons (dVar 4) (aCons (dOp dAdd (dVar 1) (dTup (lCons (dVar 3) (lNil)))) (aNil))))))) (dRet (dVar 2)))
def wpR__law_places (K : PySem.W.Frag) : Nat → Nat → Wp
  | 0, _ => fun _ _ => False
  | n + 1, _ => fun as Qd => as.length = 2 ∧ bd__law_places K (wpR__law_places K n) (ctlS Qd) (env0 5 as)
def bd__law_at (K : PySem.W.Frag) : DS := dSeq (dSet 2 (dVar 0)) (dSeq (dFor (dIt (dVar 1)) (dgName 3) (dSet 2 (dOp dIx (dOp dIx (dVar 2) (dC (.int 1))) (dVar 3)))) (dRet (dVar 2)))
def wp__law_at (K : PySem.W.Frag) : Wp := fun as Qd => as.length = 2 ∧ bd__law_at K (ctlS Qd) (env0 4 as)
def bd__law_led (K : PySem.W.Frag) : DS := dSeq (dSet 3 (dB (dDictOf) (lCons (dLc (dIt (dCall ((fun K => wpR__law_deeds K 24 0) K) (aCons (dVar 1) (aNil)))) (dgName 7) (dYes) (dTup (lCons (dOp dIx (dVar 7) (dC (.int 1))) (lCons (dC (.str "fresh")) (lNil)))) [7]) (lNil)))) (dSeq (dFor (dRng1 (lCons (dCall ((wpPick) K) (aSrc 0 (aCons (dVar 2) (aNil)))) (lNil))) (dgName 4) (dSeq (dSet 5 (dCall ((fun K => wpR__law_going K 24 0) K) (aCons (dVar 1) (aCons (dVar 3) (aCons (dCall ((fun K => wpR__law_is_lost K 24 0) K) (aCons (dVar 1) (aCons (dVar 3) (aNil)))) (aNil)))))) (dSeq (dIf (dAnd (dTst (dOp (dNe) (dVar 5) (dLst (lNil)))) (dTst (dOp (dEq) (dCall ((wpPick) K) (aSrc 0 (aCons (dC (.int 8)) (aNil)))) (dC (.int 0))))) (dRet (dVar 3)) (dNext)) (dSeq (dSet 6 (dLc (dIt (dCall ((fun K => wpR__law_deeds K 24 0) K) (aCons (dVar 1) (aNil)))) (dgName 7) (dTst (dOp (dIn false) (dOp dIx (dVar 7) (dC (.int 1))) (dVar 5))) (dVar 7) [7])) (dSeq (dIf (dOr (dTru (dB (dAny false) (lCons (dLc (dIt (dVar 6)) (dgName 7) (dYes) (dCall ((wp__law_is_firm) K) (aCons (dVar 7) (aCons (dVar 3) (aCons (dTup (lNil)) (aNil))))) [7]) (lNil)))) (dAnd (dTru (dCall ((fun K => wpR__law_is_lost K 24 0) K) (aCons (dVar 1) (aCons (dVar 3) (aNil))))) (dTst (dOp (dEq) (dVar 5) (dLst (lNil)))))) (dRet (dVar 3)) (dNext)) (dIf (dTst (dOp (dNe) (dVar 5) (dLst (lNil)))) (dSet 3 (dCall ((wp__law_with) K) (aCons (dVar 3) (aCons (dOp dIx (dVar 5) (dUn dNeg (dC (.int 1)))) (aCons (dC (.str "undone")) (aNil)))))) (dIf (dTst (dOp (dNe) (dCall ((fun K => wpR__law_may_try K 24 0) K) (aCons (dVar 1) (aCons (dVar 3) (aNil)))) (dLst (lNil)))) (dSeq (dSet 7 (dOp dIx (dCall ((wpAnyOrder) K) (aSrc 0 (aCons (dCall ((fun K => wpR__law_may_try K 24 0) K) (aCons (dVar 1) (aCons (dVar 3) (aNil)))) (aNil)))) (dC (.int 0)))) (dSeq (dSet 8 (dOp dAdd (dCall ((wp__law_answers) K) (aCons (dVar 7) (aNil))) (dLst (lCons (dC (.str "done")) (lNil))))) (dSet 3 (dCall ((wp__law_with) K) (aCons (dVar 3) (aCons (dOp dIx (dVar 7) (dC (.int 1))) (aCons (dOp dIx (dVar 8) (dCall ((wpPick) K) (aSrc 0 (aCons (dB (dLen) (lCons (dVar 8) (lNil))) (aNil))))) (aNil)))))))) (dNext)))))))) (dRet (dVar 3)))
def wp__law_led (K : PySem.W.Frag) : Wp := fun as Qd => as.length = 3 ∧ bd__law_led K (ctlS Qd) (env0 9 as)
def bd__law_pins (K : PySem.W.Frag) : DS := dSeq (dSet 3 (dCall ((fun K => wpR__law_going K 24 0) K) (aCons (dVar 1) (aCons (dVar 2) (aCons (dCall ((fun K => wpR__law_is_lost K 24 0) K) (aCons (dVar 1) (aCons (dVar 2) (aNil)))) (aNil)))))) (dSeq (dSet 4 (dLc (dIt (dCall ((fun K => wpR__law_deeds K 24 0) K) (aCons (dVar 1) (aNil)))) (dgName 5) (dAnd (dTst (dOp (dEq) (dOp dIx (dVar 2) (dOp dIx (dVar 5) (dC (.int 1)))) (dC (.str "done")))) (dTst (dOp (dIn true) (dOp dIx (dVar 5) (dC (.int 1))) (dVar 3)))) (dOp dIx (dVar 5) (dC (.int 1))) [5])) (dSeq (dIf (dTst (dOp (dEq) (dCall ((wpPick) K) (aSrc 0 (aCons (dC (.int 2)) (aNil)))) (dC (.int 0)))) (dRet (dTup (lNil))) (dNext)) (dRet (dB (dTuple) (lCons (dB (dSorted) (lCons (dLc (dIt (dVar 4)) (dgName 6) (dTst (dOp (dEq) (dCall ((wpPick) K) (aSrc 0 (aCons (dC (.int 3)) (aNil)))) (dC (.int 0)))) (dVar 6) [6]) (lNil))) (lNil))))))
def wp__law_pins (K : PySem.W.Frag) : Wp := fun as Qd => as.length = 3 ∧ bd__law_pins K (ctlS Qd) (env0 7 as)
def bd__law_one_right (K : PySem.W.Frag) : DS := dSeq (dAsg (dTup (lCons (dCall ((fun K => wpR__law_places K 24 0) K) (aCons (dVar 1) (aCons (dTup (lNil)) (aNil)))) (lCons (dCall ((wp__law_standing) K) (aCons (dVar 1) (aCons (dVar 2) (aNil)))) (lNil)))) (dgTup 2 (dgCons (dgName 4) (dgCons (dgName 5) (dgNil))))) (dSeq (dSet 6 (dOp dIx (dVar 4) (dCall ((wpPick) K) (aSrc 0 (aCons (dB (dLen) (lCons (dVar 4) (lNil))) (aNil)))))) (dSeq (dSet 7 (dCall ((wp__law_at) K) (aCons (dVar 1) (aCons (dVar 6) (aNil))))) (dSeq (dSet 8 (dCall ((fun K => wpR__law_marks K 24 0) K) (aCons (dVar 7) (aCons (dVar 2) (aCons (dVar 3) (aNil)))))) (dSeq (dSet 9 (dLst (lCons (dCall ((wp_is_good) K) (aCons (dVar 1) (aCons (dVar 5) (aCons (dVar 3) (aCons (dVar 6) (aNil)))))) (lNil)))) (dSeq (dSet 9 (dOp dAdd (dVar 9) (dLc (dIt (dTup (lCons (dC (.str "sure")) (lCons (dC (.str "loose")) (lCons (dC (.str "ready")) (lCons (dC (.str "whole")) (lNil))))))) (dgName 14) (dYes) (dCall ((wp_has_mark) K) (aCons (dVar 1) (aCons (dVar 5) (aCons (dVar 3) (aCons (dVar 6) (aCons (dVar 14) (aNil))))))) [14]))) (dSeq (dIf (dTst (dOp (dNe) (dB (dRepr) (lCons (dVar 9) (lNil))) (dB (dRepr) (lCons (dB (dListF) (lCons (dVar 8) (lNil))) (lNil))))) (dRet (dC (.bool false))) (dNext)) (dSeq (dIf (dTst (dOp (dEq) (dOp dIx (dVar 7) (dC (.int 0))) (dC (.str "else")))) (dSeq (dSet 10 (dCall ((wp__law_force) K) (aCons (dVar 7) (aCons (dVar 2) (aNil))))) (dSeq (dSet 11 (dCall ((wp__law_come) K) (aCons (dLc (dIt (dSl dCut (dOp dIx (dVar 7) (dC (.int 1))) (oYes (dVar 10)) oNo)) (dgName 15) (dYes) (dCall ((fun K => wpR__law_marks K 24 0) K) (aCons (dVar 15) (aCons (dVar 2) (aCons (dVar 3) (aNil))))) [15]) (aNil)))) (dRet (dOp (dEq) (dB (dRepr) (lCons (dCall ((wp_comes_to) K) (aCons (dVar 1) (aCons (dVar 5) (aCons (dVar 3) (aCons (dVar 6) (aNil)))))) (lNil))) (dB (dRepr) (lCons (dTupRg (dRg2 (dVar 10) (dOp dAdd (dVar 10) (dVar 11)))) (lNil))))))) (dNext)) (dSeq (dIf (dAnd (dTst (dOp (dEq) (dOp dIx (dVar 7) (dC (.int 0))) (dC (.str "row")))) (dNot (dTru (dOp dIx (dVar 8) (dC (.int 0)))))) (dSeq (dSet 12 (dLc (dIt (dOp dIx (dVar 7) (dC (.int 1)))) (dgName 15) (dYes) (dCall ((fun K => wpR__law_marks K 24 0) K) (aCons (dVar 15) (aCons (dVar 2) (aCons (dVar 3) (aNil))))) [15])) (dSeq (dSet 13 (dLc (dIt (dTup (lCons (dC (.str "ready")) (lCons (dC (.str "whole")) (lNil))))) (dgName 14) (dYes) (dCall ((wp_hinges) K) (aCons (dVar 1) (aCons (dVar 5) (aCons (dVar 3) (aCons (dVar 6) (aCons (dVar 14) (aNil))))))) [14])) (dRet (dOp (dEq) (dB (dRepr) (lCons (dVar 13) (lNil))) (dB (dRepr) (lCons (dLc (dIt (dTup (lCons (dC (.int 3)) (lCons (dC (.int 4)) (lNil))))) (dgName 14) (dYes) (dB (dTuple) (lCons (dCall ((wp__law_hinges) K) (aCons (dVar 12) (aCons (dVar 14) (aNil)))) (lNil))) [14]) (lNil))))))) (dNext)) (dRet (dC (.bool true)))))))))))
def wp__law_one_right (K : PySem.W.Frag) : Wp := fun as Qd => as.length = 4 ∧ bd__law_one_right K (ctlS Qd) (env0 16 as)
def bd_law (K : PySem.W.Frag) : DS := dSeq (dFor (dRng1 (lCons (dC (.int 2)) (lNil))) (dgName 2) (dSeq (dSet 3 (dCall ((wp__law_draw_whole_plan) K) (aSrc 1 (aCons (dC (.int 12)) (aNil))))) (dSeq (dSet 4 (dCall ((wp__law_led) K) (aSrc 1 (aCons (dVar 3) (aCons (dC (.int 10)) (aNil)))))) (dSeq (dAsg (dTup (lCons (dCall ((wp__law_pins) K) (aSrc 1 (aCons (dVar 3) (aCons (dVar 4) (aNil))))) (lCons (dCall ((wp__law_standing) K) (aCons (dVar 3) (aCons (dVar 4) (aNil)))) (lNil)))) (dgTup 2 (dgCons (dgName 5) (dgCons (dgName 6) (dgNil))))) (dSeq (dParEF 7 8 (dB (dRepr) (lCons (dLst (lCons (dVar 3) (lCons (dVar 6) (lCons (dVar 5) (lNil))))) (lNil))) (dLst (lNil))) (dSeq (dFor (dIt (dCall ((fun K => wpR__law_places K 24 0) K) (aCons (dVar 3) (aCons (dTup (lNil)) (aNil))))) (dgName 9) (dApp 8 (dOp dAdd (dTup (lCons (dVar 9) (lNil))) (dCall ((fun K => wpR__law_marks K 24 0) K) (aCons (dCall ((wp__law_at) K) (aCons (dVar 3) (aCons (dVar 9) (aNil)))) (aCons (dVar 4) (aCons (dVar 5) (aNil)))))))) (dSeq (dIf (dTst (dOp (dNe) (dB (dRepr) (lCons (dCall ((wp_marks) K) (aCons (dVar 3) (aCons (dVar 6) (aCons (dVar 5) (aNil))))) (lNil))) (dB (dRepr) (lCons (dB (dTuple) (lCons (dVarP 8) (lNil))) (lNil))))) (dRet (dC (.bool false))) (dNext)) (dSeq (dFor (dRng1 (lCons (dC (.int 3)) (lNil))) (dgName 10) (dIf (dNot (dTru (dCall ((wp__law_one_right) K) (aSrc 1 (aCons (dVar 3) (aCons (dVar 4) (aCons (dVar 5) (aNil)))))))) (dRet (dC (.bool false))) (dNext))) (dSeq (dIf (dTst (dOp (dEq) (dCall ((fun K => wpR__law_going K 24 0) K) (aCons (dVar 3) (aCons (dVar 4) (aCons (dCall ((fun K => wpR__law_is_lost K 24 0) K) (aCons (dVar 3) (aCons (dVar 4) (aNil)))) (aNil))))) (dLst (lNil)))) (dFor (dIt (dSl dCut (dCall ((fun K => wpR__law_may_try K 24 0) K) (aCons (dVar 3) (aCons (dVar 4) (aNil)))) oNo (oYes (dC (.int 4))))) (dgName 11) (dSeq (dSet 12 (dLc (dIt (dCall ((wp__law_answers) K) (aCons (dVar 11) (aNil)))) (dgName 14) (dYes) (dTup (lCons (dVar 14) (lCons (dCall ((wp__law_with) K) (aCons (dVar 4) (aCons (dOp dIx (dVar 11) (dC (.int 1))) (aCons (dVar 14) (aNil))))) (lNil)))) [14])) (dSeq (dSet 13 (dB (dTuple) (lCons (dLc (dIt (dVar 12)) (dgTup 2 (dgCons (dgName 14) (dgCons (dgName 15) (dgNil)))) (dNot (dTru (dOp dIx (dCall ((fun K => wpR__law_marks K 24 0) K) (aCons (dVar 3) (aCons (dVar 15) (aCons (dVar 5) (aNil))))) (dC (.int 4))))) (dVar 14) [14, 15]) (lNil)))) (dIf (dTst (dOp (dNe) (dB (dRepr) (lCons (dCall ((wp_lost_by) K) (aCons (dVar 3) (aCons (dVar 6) (aCons (dVar 5) (aCons (dOp dIx (dVar 11) (dC (.int 1))) (aNil)))))) (lNil))) (dB (dRepr) (lCons (dVar 13) (lNil))))) (dRet (dC (.bool false))) (dNext))))) (dNext)) (dIf (dTst (dOp (dNe) (dB (dRepr) (lCons (dLst (lCons (dVar 3) (lCons (dVar 6) (lCons (dVar 5) (lNil))))) (lNil))) (dVar 7))) (dRet (dC (.bool false))) (dNext))))))))))) (dRet (dC (.bool true)))
theorem pick_wp {K : PySem.W.Frag} (as : List AV) (Qd : PyData → Prop) (h : wpPick K as Qd) : wp__law_pick K as Qd := by
  obtain ⟨m, rfl, hm, h⟩ := h
  refine ⟨rfl, ?_⟩
  show bd__law_pick K (ctlS Qd) [.so, .sh (.int m), .un, .un, .un, .un]
  have fin : ∀ x : Int, ¬ m < 2 → Qd (.int (x % m)) := fun x h2 => h _ (Int.emod_nonneg _ (by omega)) (.inl (Int.emod_lt_of_pos _ (by omega)))
  have cm : ∀ i j : Int, -(2 ^ 64) < j → j < 2 ^ 64 → CMul i j := fun i j a b => .inr ⟨a, b⟩
  by_cases h2 : m < 2
  · simp [bd__law_pick, ctlS, h2]
    exact h 0 (Int.le_refl _) (.inr rfl)
  · simp [bd__law_pick, ctlS, h2]
    intro n
    by_cases hn : 1 < n
    · simp [hn]
      exact ⟨⟨by omega, hm⟩, by omega, fin _ h2⟩
    · simp [hn]
      intro a b
      have g1 := Int.emod_nonneg (b + a * 104729) (b := 998244353) (by decide)
      have g2 := Int.emod_lt_of_pos (b + a * 104729) (b := 998244353) (by decide)
      exact ⟨cm _ _ (by decide) (by decide), cm _ _ (by omega) (by omega), cm _ _ (by decide) (by decide), ⟨by decide, by decide⟩, by omega, fin _ h2⟩

def top (i : Nat) : Stmt := PySem.Challenge.pw_togethersafe_k11_marks_of_all_parts.main.body.getD i (.Pass ⟨0, 0, 0, 0⟩)
abbrev st_can_be_undone : Stmt := top 2
abbrev st_is_sure : Stmt := top 3
abbrev st_members_of : Stmt := top 4
abbrev st_placed : Stmt := top 5
abbrev st_parts_of : Stmt := top 6
abbrev st_places_of : Stmt := top 7
abbrev st_deeds_of : Stmt := top 8
abbrev st_shared : Stmt := top 10
abbrev st_is_cleared : Stmt := top 11
abbrev st_is_lost : Stmt := top 12
abbrev st_force_in : Stmt := top 13
abbrev st_is_dead : Stmt := top 14
abbrev st_found_at : Stmt := top 15
abbrev st_with_step : Stmt := top 16
abbrev st_is_good_in : Stmt := top 23
abbrev st_coming : Stmt := top 24
abbrev st_hinges_of : Stmt := top 25
abbrev st_marked_deed : Stmt := top 26
abbrev st_marked_row : Stmt := top 27
abbrev st_marked_side : Stmt := top 28
abbrev st_marked_else : Stmt := top 29
abbrev st_rows_of : Stmt := top 30
abbrev st_marked : Stmt := top 31
abbrev st_marked_at : Stmt := top 32
abbrev st_is_good : Stmt := top 33
abbrev st_has_mark : Stmt := top 34
abbrev st_comes_to : Stmt := top 35
abbrev st_hinges : Stmt := top 36
abbrev st_marks : Stmt := top 37
abbrev st_answers_to : Stmt := top 38
abbrev st_lost_by : Stmt := top 39
abbrev st__law_open_cells : Stmt := top 41
abbrev st__law_pick : Stmt := top 42
abbrev st__law_any_order : Stmt := top 43
abbrev st__law_draw_plan : Stmt := top 44
abbrev st__law_draw_whole_plan : Stmt := top 45
abbrev st__law_deeds : Stmt := top 46
abbrev st__law_is_lost : Stmt := top 47
abbrev st__law_has_done : Stmt := top 48
abbrev st__law_force : Stmt := top 49
abbrev st__law_is_done : Stmt := top 50
abbrev st__law_is_dead : Stmt := top 51
abbrev st__law_going : Stmt := top 52
abbrev st__law_may_try : Stmt := top 53
abbrev st__law_is_firm : Stmt := top 54
abbrev st__law_answers : Stmt := top 55
abbrev st__law_with : Stmt := top 56
abbrev st__law_standing : Stmt := top 57
abbrev st__law_marks : Stmt := top 58
abbrev st__law_row_marks : Stmt := top 59
abbrev st__law_hinges : Stmt := top 60
abbrev st__law_side_marks : Stmt := top 61
abbrev st__law_come : Stmt := top 62
abbrev st__law_else_marks : Stmt := top 63
abbrev st__law_places : Stmt := top 64
abbrev st__law_at : Stmt := top 65
abbrev st__law_led : Stmt := top 66
abbrev st__law_pins : Stmt := top 67
abbrev st__law_one_right : Stmt := top 68
abbrev st_law : Stmt := top 69
theorem sc_can_be_undone : FnScope ["kind"] ["kind"] (defScope st_can_be_undone) := ⟨rfl, rfl, rfl, by decide +kernel, rfl, by decide +kernel, by decide +kernel⟩
theorem sc_is_sure : FnScope ["kind"] ["kind"] (defScope st_is_sure) := ⟨rfl, rfl, rfl, by decide +kernel, rfl, by decide +kernel, by decide +kernel⟩
theorem sc_members_of : FnScope ["plan"] ["plan"] (defScope st_members_of) := ⟨rfl, rfl, rfl, by decide +kernel, rfl, by decide +kernel, by decide +kernel⟩
theorem sc_placed : FnScope ["plan", "found", "number", "member", "place", "part"] ["plan"] (defScope st_placed) := ⟨rfl, rfl, rfl, by decide +kernel, rfl, by decide +kernel, by decide +kernel⟩
theorem sc_parts_of : FnScope ["plan", "place", "part"] ["plan"] (defScope st_parts_of) := ⟨rfl, rfl, rfl, by decide +kernel, rfl, by decide +kernel, by decide +kernel⟩
theorem sc_places_of : FnScope ["plan", "place", "part"] ["plan"] (defScope st_places_of) := ⟨rfl, rfl, rfl, by decide +kernel, rfl, by decide +kernel, by decide +kernel⟩
theorem sc_deeds_of : FnScope ["plan", "part"] ["plan"] (defScope st_deeds_of) := ⟨rfl, rfl, rfl, by decide +kernel, rfl, by decide +kernel, by decide +kernel⟩
theorem sc_shared : FnScope ["part", "words", "found", "first", "member", "many"] ["part", "words"] (defScope st_shared) := ⟨rfl, rfl, rfl, by decide +kernel, rfl, by decide +kernel, by decide +kernel⟩
theorem sc_is_cleared : FnScope ["words"] ["words"] (defScope st_is_cleared) := ⟨rfl, rfl, rfl, by decide +kernel, rfl, by decide +kernel, by decide +kernel⟩
theorem sc_is_lost : FnScope ["part", "words", "lost", "member", "some"] ["part", "words"] (defScope st_is_lost) := ⟨rfl, rfl, rfl, by decide +kernel, rfl, by decide +kernel, by decide +kernel⟩
theorem sc_force_in : FnScope ["part", "words", "number", "member", "some"] ["part", "words"] (defScope st_force_in) := ⟨rfl, rfl, rfl, by decide +kernel, rfl, by decide +kernel, by decide +kernel⟩
theorem sc_is_dead : FnScope ["part", "words", "members", "member", "some"] ["part", "words"] (defScope st_is_dead) := ⟨rfl, rfl, rfl, by decide +kernel, rfl, by decide +kernel, by decide +kernel⟩
theorem sc_found_at : FnScope ["plan", "standing", "place", "part", "words", "first", "number", "members", "member", "some"] ["plan", "standing", "place"] (defScope st_found_at) := ⟨rfl, rfl, rfl, by decide +kernel, rfl, by decide +kernel, by decide +kernel⟩
theorem sc_with_step : FnScope ["plan", "standing", "step", "words", "is_left", "names", "number", "deed"] ["plan", "standing", "step"] (defScope st_with_step) := ⟨rfl, rfl, rfl, by decide +kernel, rfl, by decide +kernel, by decide +kernel⟩
theorem sc_is_good_in : FnScope ["part", "words", "pins", "pairs", "deed", "word"] ["part", "words", "pins"] (defScope st_is_good_in) := ⟨rfl, rfl, rfl, by decide +kernel, rfl, by decide +kernel, by decide +kernel⟩
theorem sc_coming : FnScope ["rows", "number", "row"] ["rows"] (defScope st_coming) := ⟨rfl, rfl, rfl, by decide +kernel, rfl, by decide +kernel, by decide +kernel⟩
theorem sc_hinges_of : FnScope ["rows", "mark", "found", "number", "row", "is_loose", "one"] ["rows", "mark"] (defScope st_hinges_of) := ⟨rfl, rfl, rfl, by decide +kernel, rfl, by decide +kernel, by decide +kernel⟩
theorem sc_marked_deed : FnScope ["kind", "word"] ["kind", "word"] (defScope st_marked_deed) := ⟨rfl, rfl, rfl, by decide +kernel, rfl, by decide +kernel, by decide +kernel⟩
theorem sc_marked_row : FnScope ["rows", "sure", "loose", "row"] ["rows"] (defScope st_marked_row) := ⟨rfl, rfl, rfl, by decide +kernel, rfl, by decide +kernel, by decide +kernel⟩
theorem sc_marked_side : FnScope ["rows", "late", "whole", "row"] ["rows"] (defScope st_marked_side) := ⟨rfl, rfl, rfl, by decide +kernel, rfl, by decide +kernel, by decide +kernel⟩
theorem sc_marked_else : FnScope ["rows", "come", "whole", "row"] ["rows"] (defScope st_marked_else) := ⟨rfl, rfl, rfl, by decide +kernel, rfl, by decide +kernel, by decide +kernel⟩
theorem sc_rows_of : FnScope ["part", "words", "pins", "rows", "member", "some"] ["part", "words", "pins"] (defScope st_rows_of) := ⟨rfl, rfl, rfl, by decide +kernel, rfl, by decide +kernel, by decide +kernel⟩
theorem sc_marked : FnScope ["part", "words", "pins", "good", "sure", "loose", "ready", "whole", "told"] ["part", "words", "pins"] (defScope st_marked) := ⟨rfl, rfl, rfl, by decide +kernel, rfl, by decide +kernel, by decide +kernel⟩
theorem sc_marked_at : FnScope ["plan", "standing", "pins", "place", "part", "words", "first"] ["plan", "standing", "pins", "place"] (defScope st_marked_at) := ⟨rfl, rfl, rfl, by decide +kernel, rfl, by decide +kernel, by decide +kernel⟩
theorem sc_is_good : FnScope ["plan", "standing", "pins", "place"] ["plan", "standing", "pins", "place"] (defScope st_is_good) := ⟨rfl, rfl, rfl, by decide +kernel, rfl, by decide +kernel, by decide +kernel⟩
theorem sc_has_mark : FnScope ["plan", "standing", "pins", "place", "mark"] ["plan", "standing", "pins", "place", "mark"] (defScope st_has_mark) := ⟨rfl, rfl, rfl, by decide +kernel, rfl, by decide +kernel, by decide +kernel⟩
theorem sc_comes_to : FnScope ["plan", "standing", "pins", "place", "part", "words", "first", "force"] ["plan", "standing", "pins", "place"] (defScope st_comes_to) := ⟨rfl, rfl, rfl, by decide +kernel, rfl, by decide +kernel, by decide +kernel⟩
theorem sc_hinges : FnScope ["plan", "standing", "pins", "place", "mark", "part", "words", "first"] ["plan", "standing", "pins", "place", "mark"] (defScope st_hinges) := ⟨rfl, rfl, rfl, by decide +kernel, rfl, by decide +kernel, by decide +kernel⟩
theorem sc_marks : FnScope ["plan", "standing", "pins", "place"] ["plan", "standing", "pins"] (defScope st_marks) := ⟨rfl, rfl, rfl, by decide +kernel, rfl, by decide +kernel, by decide +kernel⟩
theorem sc_answers_to : FnScope ["plan", "name", "kind", "deed"] ["plan", "name"] (defScope st_answers_to) := ⟨rfl, rfl, rfl, by decide +kernel, rfl, by decide +kernel, by decide +kernel⟩
theorem sc_lost_by : FnScope ["plan", "standing", "pins", "deed", "late", "answer", "here"] ["plan", "standing", "pins", "deed"] (defScope st_lost_by) := ⟨rfl, rfl, rfl, by decide +kernel, rfl, by decide +kernel, by decide +kernel⟩
theorem sc__law_open_cells : FnScope ["script", "stirred", "cell", "cells"] ["script"] (defScope st__law_open_cells) := ⟨rfl, rfl, rfl, by decide +kernel, rfl, by decide +kernel, by decide +kernel⟩
theorem sc__law_pick : FnScope ["source", "most", "cells", "others", "lap", "stirred"] ["source", "most"] (defScope st__law_pick) := ⟨rfl, rfl, rfl, by decide +kernel, rfl, by decide +kernel, by decide +kernel⟩
theorem sc__law_any_order : FnScope ["source", "things", "others", "lap"] ["source", "things"] (defScope st__law_any_order) := ⟨rfl, rfl, rfl, by decide +kernel, rfl, by decide +kernel, by decide +kernel⟩
theorem sc__law_draw_plan : FnScope ["source", "names", "deep", "kinds", "word", "many", "cuts", "ends", "members", "k"] ["source", "names", "deep"] (defScope st__law_draw_plan) := ⟨rfl, rfl, rfl, by decide +kernel, rfl, by decide +kernel, by decide +kernel⟩
theorem sc__law_draw_whole_plan : FnScope ["source", "most", "n", "names"] ["source", "most"] (defScope st__law_draw_whole_plan) := ⟨rfl, rfl, rfl, by decide +kernel, rfl, by decide +kernel, by decide +kernel⟩
theorem sc__law_deeds : FnScope ["part", "found", "member"] ["part"] (defScope st__law_deeds) := ⟨rfl, rfl, rfl, by decide +kernel, rfl, by decide +kernel, by decide +kernel⟩
theorem sc__law_is_lost : FnScope ["part", "state", "lost", "member"] ["part", "state"] (defScope st__law_is_lost) := ⟨rfl, rfl, rfl, by decide +kernel, rfl, by decide +kernel, by decide +kernel⟩
theorem sc__law_has_done : FnScope ["part", "state", "deed"] ["part", "state"] (defScope st__law_has_done) := ⟨rfl, rfl, rfl, by decide +kernel, rfl, by decide +kernel, by decide +kernel⟩
theorem sc__law_force : FnScope ["part", "state", "still", "k", "member"] ["part", "state"] (defScope st__law_force) := ⟨rfl, rfl, rfl, by decide +kernel, rfl, by decide +kernel, by decide +kernel⟩
theorem sc__law_is_done : FnScope ["part", "state", "members", "member"] ["part", "state"] (defScope st__law_is_done) := ⟨rfl, rfl, rfl, by decide +kernel, rfl, by decide +kernel, by decide +kernel⟩
theorem sc__law_is_dead : FnScope ["part", "state", "member"] ["part", "state"] (defScope st__law_is_dead) := ⟨rfl, rfl, rfl, by decide +kernel, rfl, by decide +kernel, by decide +kernel⟩
theorem sc__law_going : FnScope ["part", "state", "is_gone", "found", "k", "member", "is_left"] ["part", "state", "is_gone"] (defScope st__law_going) := ⟨rfl, rfl, rfl, by decide +kernel, rfl, by decide +kernel, by decide +kernel⟩
theorem sc__law_may_try : FnScope ["part", "state", "found", "member"] ["part", "state"] (defScope st__law_may_try) := ⟨rfl, rfl, rfl, by decide +kernel, rfl, by decide +kernel, by decide +kernel⟩
theorem sc__law_is_firm : FnScope ["deed", "state", "pins"] ["deed", "state", "pins"] (defScope st__law_is_firm) := ⟨rfl, rfl, rfl, by decide +kernel, rfl, by decide +kernel, by decide +kernel⟩
theorem sc__law_answers : FnScope ["deed"] ["deed"] (defScope st__law_answers) := ⟨rfl, rfl, rfl, by decide +kernel, rfl, by decide +kernel, by decide +kernel⟩
theorem sc__law_with : FnScope ["state", "name", "word", "late"] ["state", "name", "word"] (defScope st__law_with) := ⟨rfl, rfl, rfl, by decide +kernel, rfl, by decide +kernel, by decide +kernel⟩
theorem sc__law_standing : FnScope ["plan", "state", "deed"] ["plan", "state"] (defScope st__law_standing) := ⟨rfl, rfl, rfl, by decide +kernel, rfl, by decide +kernel, by decide +kernel⟩
theorem sc__law_marks : FnScope ["part", "state", "pins", "is_held", "is_new", "is_sure_v", "is_loose", "members", "rows", "told", "member", "deed"] ["part", "state", "pins"] (defScope st__law_marks) := ⟨rfl, rfl, rfl, by decide +kernel, rfl, by decide +kernel, by decide +kernel⟩
theorem sc__law_row_marks : FnScope ["rows", "told", "mark", "row"] ["rows"] (defScope st__law_row_marks) := ⟨rfl, rfl, rfl, by decide +kernel, rfl, by decide +kernel, by decide +kernel⟩
theorem sc__law_hinges : FnScope ["rows", "mark", "found", "t", "row", "one"] ["rows", "mark"] (defScope st__law_hinges) := ⟨rfl, rfl, rfl, by decide +kernel, rfl, by decide +kernel, by decide +kernel⟩
theorem sc__law_side_marks : FnScope ["rows", "unready", "is_whole", "row"] ["rows"] (defScope st__law_side_marks) := ⟨rfl, rfl, rfl, by decide +kernel, rfl, by decide +kernel, by decide +kernel⟩
theorem sc__law_come : FnScope ["rows", "sure", "k", "row"] ["rows"] (defScope st__law_come) := ⟨rfl, rfl, rfl, by decide +kernel, rfl, by decide +kernel, by decide +kernel⟩
theorem sc__law_else_marks : FnScope ["rows", "come", "is_whole", "is_sure_v", "row"] ["rows"] (defScope st__law_else_marks) := ⟨rfl, rfl, rfl, by decide +kernel, rfl, by decide +kernel, by decide +kernel⟩
theorem sc__law_places : FnScope ["part", "place", "found", "k", "member"] ["part", "place"] (defScope st__law_places) := ⟨rfl, rfl, rfl, by decide +kernel, rfl, by decide +kernel, by decide +kernel⟩
theorem sc__law_at : FnScope ["plan", "place", "part", "k"] ["plan", "place"] (defScope st__law_at) := ⟨rfl, rfl, rfl, by decide +kernel, rfl, by decide +kernel, by decide +kernel⟩
theorem sc__law_led : FnScope ["source", "plan", "most", "state", "lap", "gone", "deeds", "deed", "words"] ["source", "plan", "most"] (defScope st__law_led) := ⟨rfl, rfl, rfl, by decide +kernel, rfl, by decide +kernel, by decide +kernel⟩
theorem sc__law_pins : FnScope ["source", "plan", "state", "gone", "done", "deed", "name"] ["source", "plan", "state"] (defScope st__law_pins) := ⟨rfl, rfl, rfl, by decide +kernel, rfl, by decide +kernel, by decide +kernel⟩
theorem sc__law_one_right : FnScope ["source", "plan", "state", "pins", "places", "standing", "place", "part", "due", "told", "first", "many", "rows", "some", "mark", "member"] ["source", "plan", "state", "pins"] (defScope st__law_one_right) := ⟨rfl, rfl, rfl, by decide +kernel, rfl, by decide +kernel, by decide +kernel⟩
theorem sc_law : FnScope ["script", "source", "turn", "plan", "state", "pins", "standing", "shown", "due", "place", "lap", "deed", "late", "answers", "word", "here"] ["script"] (defScope st_law) := ⟨rfl, rfl, rfl, by decide +kernel, rfl, by decide +kernel, by decide +kernel⟩
def fnl : List He.DefD := [dd "can_be_undone" st_can_be_undone, dd "is_sure" st_is_sure, dd "members_of" st_members_of, dd "placed" st_placed, dd "parts_of" st_parts_of, dd "places_of" st_places_of, dd "deeds_of" st_deeds_of, dd "shared" st_shared, dd "is_cleared" st_is_cleared, dd "is_lost" st_is_lost, dd "force_in" st_force_in, dd "is_dead" st_is_dead, dd "found_at" st_found_at, dd "with_step" st_with_step, dd "is_good_in" st_is_good_in, dd "coming" st_coming, dd "hinges_of" st_hinges_of, dd "marked_deed" st_marked_deed, dd "marked_row" st_marked_row, dd "marked_side" st_marked_side, dd "marked_else" st_marked_else, dd "rows_of" st_rows_of, dd "marked" st_marked, dd "marked_at" st_marked_at, dd "is_good" st_is_good, dd "has_mark" st_has_mark, dd "comes_to" st_comes_to, dd "hinges" st_hinges, dd "marks" st_marks, dd "answers_to" st_answers_to, dd "lost_by" st_lost_by, dd "_law_open_cells" st__law_open_cells, dd "_law_pick" st__law_pick, dd "_law_any_order" st__law_any_order, dd "_law_draw_plan" st__law_draw_plan, dd "_law_draw_whole_plan" st__law_draw_whole_plan, dd "_law_deeds" st__law_deeds, dd "_law_is_lost" st__law_is_lost, dd "_law_has_done" st__law_has_done, dd "_law_force" st__law_force, dd "_law_is_done" st__law_is_done, dd "_law_is_dead" st__law_is_dead, dd "_law_going" st__law_going, dd "_law_may_try" st__law_may_try, dd "_law_is_firm" st__law_is_firm, dd "_law_answers" st__law_answers, dd "_law_with" st__law_with, dd "_law_standing" st__law_standing, dd "_law_marks" st__law_marks, dd "_law_row_marks" st__law_row_marks, dd "_law_hinges" st__law_hinges, dd "_law_side_marks" st__law_side_marks, dd "_law_come" st__law_come, dd "_law_else_marks" st__law_else_marks, dd "_law_places" st__law_places, dd "_law_at" st__law_at, dd "_law_led" st__law_led, dd "_law_pins" st__law_pins, dd "_law_one_right" st__law_one_right, dd "law" st_law]
def fal : List He.Fa := [.glo "can_be_undone", .glo "is_sure", .glo "members_of", .glo "placed", .glo "parts_of", .glo "places_of", .glo "deeds_of", .glo "shared", .glo "is_cleared", .glo "is_lost", .glo "force_in", .glo "is_dead", .glo "found_at", .glo "with_step", .glo "is_good_in", .glo "coming", .glo "hinges_of", .glo "marked_deed", .glo "marked_row", .glo "marked_side", .glo "marked_else", .glo "rows_of", .glo "marked", .glo "marked_at", .glo "is_good", .glo "has_mark", .glo "comes_to", .glo "hinges", .glo "marks", .glo "answers_to", .glo "lost_by", .glo "_law_open_cells", .glo "_law_pick", .glo "_law_any_order", .glo "_law_draw_plan", .glo "_law_draw_whole_plan", .glo "_law_deeds", .glo "_law_is_lost", .glo "_law_has_done", .glo "_law_force", .glo "_law_is_done", .glo "_law_is_dead", .glo "_law_going", .glo "_law_may_try", .glo "_law_is_firm", .glo "_law_answers", .glo "_law_with", .glo "_law_standing", .glo "_law_marks", .glo "_law_row_marks", .glo "_law_hinges", .glo "_law_side_marks", .glo "_law_come", .glo "_law_else_marks", .glo "_law_places", .glo "_law_at", .glo "_law_led", .glo "_law_pins", .glo "_law_one_right", .glo "law", .free "enumerate", .free "len", .free "any", .free "sum", .free "zip", .free "all", .free "tuple", .free "range", .free "abs", .free "int", .free "list", .free "sorted", .free "dict", .free "repr"]
def gsl : List (Str × PyData) := [("GROUPS", .tuple [.str "row", .str "side", .str "else"]), ("SURE", .int (1)), ("LOOSE", .int (2)), ("WHOLE", .int (4)), ("READY", .int (3)), ("MARKS", .tuple [.str "good", .str "sure", .str "loose", .str "ready", .str "whole"])]
section
variable {P : Program} {w : World} {K : PySem.W.Frag} {mg : Str → Option Value} {base : Heap}
theorem ok_can_be_undone (fx : Fx fal gsl fnl K mg)  : OkF P w K mg base 1 "can_be_undone" (spA K ((wp_can_be_undone) K)) := by
  refine okF_of (st := st_can_be_undone) (N := ["kind"]) (ps := ["kind"]) (fx.fd 0 "can_be_undone" st_can_be_undone) (fx.glo 0 "can_be_undone") sc_can_be_undone (fun _ _ _ _ _ _ us hl => match us, hl with | [_], _ => rfl) (spA_len fun as Qd h => h.1) (fun fd cdv A outer s H vs Q E hg hr h => ?_)
  have hu := VL.hu_of hr
  have hu1 := L2.hu_of hr
  refine ⟨_, PSs.nox (pss_one (ps_ret (pe_cmpR (opK K (fun K => rInAll K false) (op_inAll hu) (by rfl)) (pv 0) (pe_tup (pa_cons (pe_str) (pa_cons (pe_str) (pa_nil)))) (by rfl)))), ?_⟩
  exact spA_of (fun o => sims_ret (sim_op (so_in (neg := false)) (SimE.p (sim_var)) (SimE.p (sim_tup (sim_lcons ((sim_str (by decide +kernel))) (sim_lcons ((sim_str (by decide +kernel))) (sim_lnil))))))) (fun as Qd h => h.2) vs H Q E h
theorem ok_is_sure (fx : Fx fal gsl fnl K mg)  : OkF P w K mg base 1 "is_sure" (spA K ((wp_is_sure) K)) := by
  refine okF_of (st := st_is_sure) (N := ["kind"]) (ps := ["kind"]) (fx.fd 1 "is_sure" st_is_sure) (fx.glo 1 "is_sure") sc_is_sure (fun _ _ _ _ _ _ us hl => match us, hl with | [_], _ => rfl) (spA_len fun as Qd h => h.1) (fun fd cdv A outer s H vs Q E hg hr h => ?_)
  have hu := VL.hu_of hr
  have hu1 := L2.hu_of hr
  refine ⟨_, PSs.nox (pss_one (ps_ret (pe_cmpR (opK K (fun K => rInAll K false) (op_inAll hu) (by rfl)) (pv 0) (pe_tup (pa_cons (pe_str) (pa_cons (pe_str) (pa_nil)))) (by rfl)))), ?_⟩
  exact spA_of (fun o => sims_ret (sim_op (so_in (neg := false)) (SimE.p (sim_var)) (SimE.p (sim_tup (sim_lcons ((sim_str (by decide +kernel))) (sim_lcons ((sim_str (by decide +kernel))) (sim_lnil))))))) (fun as Qd h => h.2) vs H Q E h
theorem ok_members_of (fx : Fx fal gsl fnl K mg)  : OkF P w K mg base 1 "members_of" (spA K ((wp_members_of) K)) := by
  obtain ⟨cv_GROUPS, cu_GROUPS, cm_GROUPS, cr_GROUPS, cd_GROUPS, ct_GROUPS⟩ := (fx.con 0 "GROUPS" (.tuple [.str "row", .str "side", .str "else"])).ex
  refine okF_of (st := st_members_of) (N := ["plan"]) (ps := ["plan"]) (fx.fd 2 "members_of" st_members_of) (fx.glo 2 "members_of") sc_members_of (fun _ _ _ _ _ _ us hl => match us, hl with | [_], _ => rfl) (spA_len fun as Qd h => h.1) (fun fd cdv A outer s H vs Q E hg hr h => ?_)
  have hu := VL.hu_of hr
  have hu1 := L2.hu_of hr
  refine ⟨_, PSs.nox (pss_one (ps_ret (pe_ifExp (pt_cmpR (opK K (fun K => rInAll K false) (op_inAll hu) (by rfl)) (pe_ix (ixK K rIxAll (ix_all hu) (by rfl)) (pv 0) (pe_int) (by exact fun _ _ => rfl)) (pe_glob (by rfl) cm_GROUPS cr_GROUPS) (by rfl)) (pe_ix (ixK K rIxAll (ix_all hu) (by rfl)) (pv 0) (pe_int) (by exact fun _ _ => rfl)) (pe_tup (pa_nil))))), ?_⟩
  exact spA_of (fun o => sims_ret (sim_ifE (sim_tst (SimE.p (sim_op (so_in (neg := false)) (SimE.p (sim_op so_ix (SimE.p (sim_var)) (SimE.p (sim_int)))) (SimE.p ((sim_c cd_GROUPS)))))) (sim_op so_ix (SimE.p (sim_var)) (SimE.p (sim_int))) (sim_tup (sim_lnil)))) (fun as Qd h => h.2) vs H Q E h
theorem okS_placed (n : Nat) (fx : Fx fal gsl fnl K mg) (G_members_of : OkF P w K mg base 1 "members_of" (spA K ((wp_members_of) K))) (G_placed : OkF P w K mg base (1 + n) "placed" (spA K (wpR_placed K n 0))) : OkF P w K mg base (1 + n + 1) "placed" (spA K (wpR_placed K (n + 1) 0)) := by
  have fr_enumerate := fx.free 60 "enumerate"
  refine okF_of (st := st_placed) (N := ["plan", "found", "number", "member", "place", "part"]) (ps := ["plan"]) (fx.fd 3 "placed" st_placed) (fx.glo 3 "placed") sc_placed (fun _ _ _ _ _ _ us hl => match us, hl with | [_], _ => rfl) (spA_len fun as Qd h => h.1) (fun fd cdv A outer s H vs Q E hg hr h => ?_)
  have hu := VL.hu_of hr
  have hu1 := L2.hu_of hr
  refine ⟨_, PSs.nox (pss_cons (ps_set (i := 1) sc_placed.nd (by rfl) (by exact Or.inl rfl) (pe_lst (pa_cons (pe_tup (pa_cons (pe_tup (pa_nil)) (pa_cons (pv 0) (pa_nil)))) (pa_nil)))) (pss_cons (ps_for PassesOwn.never (by rfl) (pi_enumK K (by rfl) fr_enumerate (pa_cons (pe_callO G_members_of hg hr (by omega) (by rfl) (pa_cons (pv 0) (pa_nil))) (pa_nil)) (by rfl)) (pg_tupK K (n := 2) (by rfl) (pgs_cons (pg_name (i := 2) sc_placed.nd (by rfl) (by first | exact Or.inl rfl | exact Or.inr rfl)) (pgs_cons (pg_name (i := 3) sc_placed.nd (by rfl) (by first | exact Or.inl rfl | exact Or.inr rfl)) (pgs_nil))) (by rfl)) (pss_one (ps_set (i := 1) sc_placed.nd (by rfl) (by exact Or.inl rfl) (pe_op (opK K rAddAll op_addAll (by rfl)) (pv 1) (pe_lc (own := [("place", 4), ("part", 5)]) (by rfl) sc_placed.nd (pi_anyK K (pe_callO G_placed hg hr (by omega) (by rfl) (pa_cons (pv 3) (pa_nil))) (by rfl)) (blkOk_by (N := ["plan", "found", "number", "member", "place", "part"]) (sc := defScope st_placed) (by decide +kernel)) (fun _ _ _ _ _ => pg_tupK K (n := 2) (by rfl) (pgs_cons (pg_name (i := 4) sc_placed.nd (by rfl) (by first | exact Or.inl rfl | exact Or.inr rfl)) (pgs_cons (pg_name (i := 5) sc_placed.nd (by rfl) (by first | exact Or.inl rfl | exact Or.inr rfl)) (pgs_nil))) (by rfl)) (fun _ _ _ _ _ => pts_nil) (fun _ _ _ _ _ => pe_tup (pa_cons (pe_op (opK K rAddAll op_addAll (by rfl)) (pe_tup (pa_cons (pv 2) (pa_nil))) (pv 4)) (pa_cons (pv 5) (pa_nil))))))))) (pss_one (ps_ret (pv 1))))), ?_⟩
  exact spA_of (fun o => sims_seq (sims_set (SimF.e (simF_lst (sim_lcons (sim_tup (sim_lcons (sim_tup (sim_lnil)) (sim_lcons (sim_var) (sim_lnil)))) (sim_lnil))))) (sims_seq (sims_for (simI_enum (sim_lcons (sim_callA (sim_acons (sim_var) (sim_anil))) (sim_lnil))) (simg_tup (n := 2) (simgs_cons (simg_name (i := 2)) (simgs_cons (simg_name (i := 3)) (simgs_nil)))) (sims_set (sim_op so_add (SimE.p (sim_var)) (SimE.p (SimF.e (simF_lc (simIP_any (SimE.p (sim_callA (sim_acons (sim_var) (sim_anil))))) (simg_tup (n := 2) (simgs_cons (simg_name (i := 4)) (simgs_cons (simg_name (i := 5)) (simgs_nil)))) (sim_yes) (sim_tup (sim_lcons (sim_op so_add (SimE.p (sim_tup (sim_lcons (sim_var) (sim_lnil)))) (SimE.p (sim_var))) (sim_lcons (sim_var) (sim_lnil)))) (by decide))))))) (sims_ret (sim_var)))) (fun as Qd h => h.2) vs H Q E h
theorem okT_3 (fx : Fx fal gsl fnl K mg) (G_members_of : OkF P w K mg base 1 "members_of" (spA K ((wp_members_of) K))) : ∀ n : Nat, OkF P w K mg base (1 + n) "placed" (spA K (wpR_placed K n 0))
  | 0 => okF_never (st := st_placed) (ps := ["plan"]) (fx.fd 3 "placed" st_placed) (fx.glo 3 "placed") (fun _ _ _ _ _ _ us hl => match us, hl with | [_], _ => rfl) (spA_never fun _ _ h => h)
  | n + 1 => by
    have ih := okT_3 fx G_members_of n
    exact okS_placed n fx G_members_of ih
theorem ok_parts_of (fx : Fx fal gsl fnl K mg) (G_placed : OkF P w K mg base 25 "placed" (spA K ((fun K => wpR_placed K 24 0) K))) : OkF P w K mg base 26 "parts_of" (spA K ((wp_parts_of) K)) := by
  refine okF_of (st := st_parts_of) (N := ["plan", "place", "part"]) (ps := ["plan"]) (fx.fd 4 "parts_of" st_parts_of) (fx.glo 4 "parts_of") sc_parts_of (fun _ _ _ _ _ _ us hl => match us, hl with | [_], _ => rfl) (spA_len fun as Qd h => h.1) (fun fd cdv A outer s H vs Q E hg hr h => ?_)
  have hu := VL.hu_of hr
  have hu1 := L2.hu_of hr
  refine ⟨_, PSs.nox (pss_one (ps_ret (pe_lc (own := [("place", 1), ("part", 2)]) (by rfl) sc_parts_of.nd (pi_anyK K (pe_callO G_placed hg hr (by omega) (by rfl) (pa_cons (pv 0) (pa_nil))) (by rfl)) (blkOk_by (N := ["plan", "place", "part"]) (sc := defScope st_parts_of) (by decide +kernel)) (fun _ _ _ _ _ => pg_tupK K (n := 2) (by rfl) (pgs_cons (pg_name (i := 1) sc_parts_of.nd (by rfl) (by first | exact Or.inl rfl | exact Or.inr rfl)) (pgs_cons (pg_name (i := 2) sc_parts_of.nd (by rfl) (by first | exact Or.inl rfl | exact Or.inr rfl)) (pgs_nil))) (by rfl)) (fun _ _ _ _ _ => pts_nil) (fun _ _ _ _ _ => pv 2)))), ?_⟩
  exact spA_of (fun o => sims_ret (SimF.e (simF_lc (simIP_any (SimE.p (sim_callA (sim_acons (sim_var) (sim_anil))))) (simg_tup (n := 2) (simgs_cons (simg_name (i := 1)) (simgs_cons (simg_name (i := 2)) (simgs_nil)))) (sim_yes) (sim_var) (by decide)))) (fun as Qd h => h.2) vs H Q E h
theorem ok_places_of (fx : Fx fal gsl fnl K mg) (G_placed : OkF P w K mg base 25 "placed" (spA K ((fun K => wpR_placed K 24 0) K))) : OkF P w K mg base 26 "places_of" (spA K ((wp_places_of) K)) := by
  refine okF_of (st := st_places_of) (N := ["plan", "place", "part"]) (ps := ["plan"]) (fx.fd 5 "places_of" st_places_of) (fx.glo 5 "places_of") sc_places_of (fun _ _ _ _ _ _ us hl => match us, hl with | [_], _ => rfl) (spA_len fun as Qd h => h.1) (fun fd cdv A outer s H vs Q E hg hr h => ?_)
  have hu := VL.hu_of hr
  have hu1 := L2.hu_of hr
  refine ⟨_, PSs.nox (pss_one (ps_ret (pe_lc (own := [("place", 1), ("part", 2)]) (by rfl) sc_places_of.nd (pi_anyK K (pe_callO G_placed hg hr (by omega) (by rfl) (pa_cons (pv 0) (pa_nil))) (by rfl)) (blkOk_by (N := ["plan", "place", "part"]) (sc := defScope st_places_of) (by decide +kernel)) (fun _ _ _ _ _ => pg_tupK K (n := 2) (by rfl) (pgs_cons (pg_name (i := 1) sc_places_of.nd (by rfl) (by first | exact Or.inl rfl | exact Or.inr rfl)) (pgs_cons (pg_name (i := 2) sc_places_of.nd (by rfl) (by first | exact Or.inl rfl | exact Or.inr rfl)) (pgs_nil))) (by rfl)) (fun _ _ _ _ _ => pts_nil) (fun _ _ _ _ _ => pv 1)))), ?_⟩
  exact spA_of (fun o => sims_ret (SimF.e (simF_lc (simIP_any (SimE.p (sim_callA (sim_acons (sim_var) (sim_anil))))) (simg_tup (n := 2) (simgs_cons (simg_name (i := 1)) (simgs_cons (simg_name (i := 2)) (simgs_nil)))) (sim_yes) (sim_var) (by decide)))) (fun as Qd h => h.2) vs H Q E h
theorem ok_deeds_of (fx : Fx fal gsl fnl K mg) (G_parts_of : OkF P w K mg base 26 "parts_of" (spA K ((wp_parts_of) K))) : OkF P w K mg base 27 "deeds_of" (spA K ((wp_deeds_of) K)) := by
  refine okF_of (st := st_deeds_of) (N := ["plan", "part"]) (ps := ["plan"]) (fx.fd 6 "deeds_of" st_deeds_of) (fx.glo 6 "deeds_of") sc_deeds_of (fun _ _ _ _ _ _ us hl => match us, hl with | [_], _ => rfl) (spA_len fun as Qd h => h.1) (fun fd cdv A outer s H vs Q E hg hr h => ?_)
  have hu := VL.hu_of hr
  have hu1 := L2.hu_of hr
  refine ⟨_, PSs.nox (pss_one (ps_ret (pe_lc (own := [("part", 1)]) (by rfl) sc_deeds_of.nd (pi_anyK K (pe_callO G_parts_of hg hr (by omega) (by rfl) (pa_cons (pv 0) (pa_nil))) (by rfl)) (blkOk_by (N := ["plan", "part"]) (sc := defScope st_deeds_of) (by decide +kernel)) (fun _ _ _ _ _ => pg_name (i := 1) sc_deeds_of.nd (by rfl) (by first | exact Or.inl rfl | exact Or.inr rfl)) (fun _ _ _ _ _ => pts_one (pt_cmpR (opK K rEqR (op_eqR hu) (by rfl)) (pe_ix (ixK K rIxAll (ix_all hu) (by rfl)) (pv 1) (pe_int) (by exact fun _ _ => rfl)) (pe_str) (nomark _))) (fun _ _ _ _ _ => pv 1)))), ?_⟩
  exact spA_of (fun o => sims_ret (SimF.e (simF_lc (simIP_any (SimE.p (sim_callA (sim_acons (sim_var) (sim_anil))))) (simg_name (i := 1)) (sim_tst (SimE.p (sim_op so_eq (SimE.p (sim_op so_ix (SimE.p (sim_var)) (SimE.p (sim_int)))) (SimE.p ((sim_str (by decide +kernel))))))) (sim_var) (by decide)))) (fun as Qd h => h.2) vs H Q E h
theorem ok_shared (fx : Fx fal gsl fnl K mg) (G_deeds_of : OkF P w K mg base 27 "deeds_of" (spA K ((wp_deeds_of) K))) : OkF P w K mg base 28 "shared" (spA K ((wp_shared) K)) := by
  have fr_len := fx.free 61 "len"
  refine okF_of (st := st_shared) (N := ["part", "words", "found", "first", "member", "many"]) (ps := ["part", "words"]) (fx.fd 7 "shared" st_shared) (fx.glo 7 "shared") sc_shared (fun _ _ _ _ _ _ us hl => match us, hl with | [_, _], _ => rfl) (spA_len fun as Qd h => h.1) (fun fd cdv A outer s H vs Q E hg hr h => ?_)
  have hu := VL.hu_of hr
  have hu1 := L2.hu_of hr
  refine ⟨_, PSs.nox (pss_cons (ps_par (i := 2) (j := 3) (by rfl) sc_shared.nd (by rfl) (by rfl) (by decide) (by rfl) (by rfl) (pa_cons (pe_lst (pa_nil)) (pa_cons (pe_int) (pa_nil))) (by rfl)) (pss_cons (ps_for PassesOwn.never (by rfl) (pi_anyK K (pe_ix (ixK K rIxAll (ix_all hu) (by rfl)) (pv 0) (pe_int) (by exact fun _ _ => rfl)) (by rfl)) (pg_name (i := 4) sc_shared.nd (by rfl) (by first | exact Or.inl rfl | exact Or.inr rfl)) (pss_cons (ps_set (i := 5) sc_shared.nd (by rfl) (by exact Or.inl rfl) (pe_callB (callK K rLenAll call_lenAll (by rfl)) (by rfl) fr_len boot_len (pa_cons (pe_callO G_deeds_of hg hr (by omega) (by rfl) (pa_cons (pv 4) (pa_nil))) (pa_nil)))) (pss_cons (ps_expr (pe_bm PySem.F.plainAttrs_list PySem.F.slot_list_append PySem.F.type_list_append mt_append (pv 2) (pa_cons (pe_tup (pa_cons (pv 4) (pa_cons (pe_slice (slK K rSlAll sl_all (by rfl)) (pv 1) (po_some (pv 3)) (po_some (pe_op (opK K rAddAll op_addAll (by rfl)) (pv 3) (pv 5)))) (pa_nil)))) pa_nil))) (pss_one (ps_aug (i := 3) sc_shared.nd (by rfl) (by exact Or.inl rfl) (pv 5) iop_add))))) (pss_one (ps_ret (pv 2))))), ?_⟩
  exact spA_of (fun o => sims_seq (sims_parFE (simF_lst (sim_lnil)) (sim_int)) (sims_seq (sims_for (simI_any (sim_op so_ix (SimE.p (sim_var)) (SimE.p (sim_int)))) (simg_name (i := 4)) (sims_seq (sims_set (sim_b sb_len (sim_pcons (SimE.p (sim_callA (sim_acons (sim_var) (sim_anil)))) (sim_pnil)))) (sims_seq (sims_app (sim_tup (sim_lcons (sim_var) (sim_lcons (sim_sl ss_cut (SimE.p (sim_var)) (sim_oyes (SimE.p (sim_var))) (sim_oyes (SimE.p (sim_op so_add (SimE.p (sim_var)) (SimE.p (sim_var)))))) (sim_lnil))))) (sims_aug so_addI (SimE.p (sim_var)))))) (sims_retV))) (fun as Qd h => h.2) vs H Q E h
theorem ok_is_cleared (fx : Fx fal gsl fnl K mg)  : OkF P w K mg base 1 "is_cleared" (spA K ((wp_is_cleared) K)) := by
  refine okF_of (st := st_is_cleared) (N := ["words"]) (ps := ["words"]) (fx.fd 8 "is_cleared" st_is_cleared) (fx.glo 8 "is_cleared") sc_is_cleared (fun _ _ _ _ _ _ us hl => match us, hl with | [_], _ => rfl) (spA_len fun as Qd h => h.1) (fun fd cdv A outer s H vs Q E hg hr h => ?_)
  have hu := VL.hu_of hr
  have hu1 := L2.hu_of hr
  refine ⟨_, PSs.nox (pss_one (ps_ret (pe_cmpR (opK K (fun K => rInAll K true) (op_notInAll hu) (by rfl)) (pe_str) (pv 0) (by rfl)))), ?_⟩
  exact spA_of (fun o => sims_ret (sim_op (so_in (neg := true)) (SimE.p ((sim_str (by decide +kernel)))) (SimE.p (sim_var)))) (fun as Qd h => h.2) vs H Q E h
theorem okS_is_lost (n : Nat) (fx : Fx fal gsl fnl K mg) (G_shared : OkF P w K mg base 28 "shared" (spA K ((wp_shared) K))) (G_is_lost : OkF P w K mg base (28 + n) "is_lost" (spA K (wpR_is_lost K n 0))) : OkF P w K mg base (28 + n + 1) "is_lost" (spA K (wpR_is_lost K (n + 1) 0)) := by
  refine okF_of (st := st_is_lost) (N := ["part", "words", "lost", "member", "some"]) (ps := ["part", "words"]) (fx.fd 9 "is_lost" st_is_lost) (fx.glo 9 "is_lost") sc_is_lost (fun _ _ _ _ _ _ us hl => match us, hl with | [_, _], _ => rfl) (spA_len fun as Qd h => h.1) (fun fd cdv A outer s H vs Q E hg hr h => ?_)
  have hu := VL.hu_of hr
  have hu1 := L2.hu_of hr
  refine ⟨_, PSs.nox (pss_cons (ps_if (pt_cmpR (opK K rEqR (op_eqR hu) (by rfl)) (pe_ix (ixK K rIxAll (ix_all hu) (by rfl)) (pv 0) (pe_int) (by exact fun _ _ => rfl)) (pe_str) (nomark _)) (pss_one (ps_ret (pe_cmpR (opK K rEqR (op_eqR hu) (by rfl)) (pe_ix (ixK K rIxAll (ix_all hu) (by rfl)) (pv 1) (pe_int) (by exact fun _ _ => rfl)) (pe_str) (nomark _)))) (pss_nil)) (pss_cons (ps_setLc (i := 2) (own := [("member", 3), ("some", 4)]) (by rfl) sc_is_lost.nd (by rfl) (by rfl) (sw_true (by rfl) (by rfl) (by rfl) (by decide +kernel)) (pi_anyK K (pe_callO G_shared hg hr (by omega) (by rfl) (pa_cons (pv 0) (pa_cons (pv 1) (pa_nil)))) (by rfl)) (blkOk_by (N := ["part", "words", "lost", "member", "some"]) (sc := defScope st_is_lost) (by decide +kernel)) (fun _ _ _ _ _ => pg_tupK K (n := 2) (by rfl) (pgs_cons (pg_name (i := 3) sc_is_lost.nd (by rfl) (by first | exact Or.inl rfl | exact Or.inr rfl)) (pgs_cons (pg_name (i := 4) sc_is_lost.nd (by rfl) (by first | exact Or.inl rfl | exact Or.inr rfl)) (pgs_nil))) (by rfl)) (fun _ _ _ _ _ => pts_nil) (fun _ _ _ _ _ => pe_callO G_is_lost hg hr (by omega) (by rfl) (pa_cons (pv 3) (pa_cons (pv 4) (pa_nil))))) (pss_one (ps_ret (pe_ifExp (pt_cmpR (opK K rEqR (op_eqR hu) (by rfl)) (pe_ix (ixK K rIxAll (ix_all hu) (by rfl)) (pv 0) (pe_int) (by exact fun _ _ => rfl)) (pe_str) (nomark _)) (pe_ix (ixK K rIxAll (ix_all hu) (by rfl)) (pv 2) (pe_un un_neg (pe_int)) (by exact fun _ _ => rfl)) (pe_cmpR (opK K (fun K => rInAll K false) (op_inAll hu) (by rfl)) (pe_bl) (pv 2) (by rfl))))))), ?_⟩
  exact spA_of (fun o => sims_seq (sims_if (sim_tst (SimE.p (sim_op so_eq (SimE.p (sim_op so_ix (SimE.p (sim_var)) (SimE.p (sim_int)))) (SimE.p ((sim_str (by decide +kernel))))))) (sims_ret (sim_op so_eq (SimE.p (sim_op so_ix (SimE.p (sim_var)) (SimE.p (sim_int)))) (SimE.p ((sim_str (by decide +kernel)))))) (sims_next)) (sims_seq (sims_set (SimF.e (simF_lc (simIP_any (SimE.p (sim_callA (sim_acons (sim_var) (sim_acons (sim_var) (sim_anil)))))) (simg_tup (n := 2) (simgs_cons (simg_name (i := 3)) (simgs_cons (simg_name (i := 4)) (simgs_nil)))) (sim_yes) (sim_callA (sim_acons (sim_var) (sim_acons (sim_var) (sim_anil)))) (by decide)))) (sims_ret (sim_ifE (sim_tst (SimE.p (sim_op so_eq (SimE.p (sim_op so_ix (SimE.p (sim_var)) (SimE.p (sim_int)))) (SimE.p ((sim_str (by decide +kernel))))))) (sim_op so_ix (SimE.p (sim_var)) (SimE.p (sim_un su_neg (SimE.p (sim_int))))) (sim_op (so_in (neg := false)) (SimE.p (sim_bl)) (SimE.p (sim_var))))))) (fun as Qd h => h.2) vs H Q E h
theorem okT_9 (fx : Fx fal gsl fnl K mg) (G_shared : OkF P w K mg base 28 "shared" (spA K ((wp_shared) K))) : ∀ n : Nat, OkF P w K mg base (28 + n) "is_lost" (spA K (wpR_is_lost K n 0))
  | 0 => okF_never (st := st_is_lost) (ps := ["part", "words"]) (fx.fd 9 "is_lost" st_is_lost) (fx.glo 9 "is_lost") (fun _ _ _ _ _ _ us hl => match us, hl with | [_, _], _ => rfl) (spA_never fun _ _ h => h)
  | n + 1 => by
    have ih := okT_9 fx G_shared n
    exact okS_is_lost n fx G_shared ih
theorem ok_force_in (fx : Fx fal gsl fnl K mg) (G_shared : OkF P w K mg base 28 "shared" (spA K ((wp_shared) K))) (G_is_lost : OkF P w K mg base 52 "is_lost" (spA K ((fun K => wpR_is_lost K 24 0) K))) (G_is_cleared : OkF P w K mg base 1 "is_cleared" (spA K ((wp_is_cleared) K))) : OkF P w K mg base 53 "force_in" (spA K ((wp_force_in) K)) := by
  have fr_enumerate := fx.free 60 "enumerate"
  have fr_len := fx.free 61 "len"
  refine okF_of (st := st_force_in) (N := ["part", "words", "number", "member", "some"]) (ps := ["part", "words"]) (fx.fd 10 "force_in" st_force_in) (fx.glo 10 "force_in") sc_force_in (fun _ _ _ _ _ _ us hl => match us, hl with | [_, _], _ => rfl) (spA_len fun as Qd h => h.1) (fun fd cdv A outer s H vs Q E hg hr h => ?_)
  have hu := VL.hu_of hr
  have hu1 := L2.hu_of hr
  refine ⟨_, PSs.nox (pss_cons (ps_for PassesOwn.never (by rfl) (pi_enumK K (by rfl) fr_enumerate (pa_cons (pe_callO G_shared hg hr (by omega) (by rfl) (pa_cons (pv 0) (pa_cons (pv 1) (pa_nil)))) (pa_nil)) (by rfl)) (pg_tupK K (n := 2) (by rfl) (pgs_cons (pg_name (i := 2) sc_force_in.nd (by rfl) (by first | exact Or.inl rfl | exact Or.inr rfl)) (pgs_cons (pg_tupK K (n := 2) (by rfl) (pgs_cons (pg_name (i := 3) sc_force_in.nd (by rfl) (by first | exact Or.inl rfl | exact Or.inr rfl)) (pgs_cons (pg_name (i := 4) sc_force_in.nd (by rfl) (by first | exact Or.inl rfl | exact Or.inr rfl)) (pgs_nil))) (by rfl)) (pgs_nil))) (by rfl)) (pss_one (ps_if (PW.pt (pw_or (pt_not (pt_truK K (pe_callO G_is_lost hg hr (by omega) (by rfl) (pa_cons (pv 3) (pa_cons (pv 4) (pa_nil)))) (by exact fun _ => rfl) (by rfl))) (pw_or1 (pt_not (pt_truK K (pe_callO G_is_cleared hg hr (by omega) (by rfl) (pa_cons (pv 4) (pa_nil))) (by exact fun _ => rfl) (by rfl)))))) (pss_one (ps_ret (pv 2))) (pss_nil)))) (pss_one (ps_ret (pe_op op_sub (pe_callB (callK K rLenAll call_lenAll (by rfl)) (by rfl) fr_len boot_len (pa_cons (pe_ix (ixK K rIxAll (ix_all hu) (by rfl)) (pv 0) (pe_int) (by exact fun _ _ => rfl)) (pa_nil))) (pe_int))))), ?_⟩
  exact spA_of (fun o => sims_seq (sims_for (simI_enum (sim_lcons (sim_callA (sim_acons (sim_var) (sim_acons (sim_var) (sim_anil)))) (sim_lnil))) (simg_tup (n := 2) (simgs_cons (simg_name (i := 2)) (simgs_cons (simg_tup (n := 2) (simgs_cons (simg_name (i := 3)) (simgs_cons (simg_name (i := 4)) (simgs_nil)))) (simgs_nil)))) (sims_if (sim_or (sim_not (sim_truK (SimE.p (sim_callA (sim_acons (sim_var) (sim_acons (sim_var) (sim_anil))))))) (sim_not (sim_truK (SimE.p (sim_callA (sim_acons (sim_var) (sim_anil))))))) (sims_ret (sim_var)) (sims_next))) (sims_ret (sim_op so_sub (SimE.p (sim_b sb_len (sim_pcons (SimE.p (sim_op so_ix (SimE.p (sim_var)) (SimE.p (sim_int)))) (sim_pnil)))) (SimE.p (sim_int))))) (fun as Qd h => h.2) vs H Q E h
theorem okS_is_dead (n : Nat) (fx : Fx fal gsl fnl K mg) (G_shared : OkF P w K mg base 28 "shared" (spA K ((wp_shared) K))) (G_force_in : OkF P w K mg base 53 "force_in" (spA K ((wp_force_in) K))) (G_is_dead : OkF P w K mg base (53 + n) "is_dead" (spA K (wpR_is_dead K n 0))) : OkF P w K mg base (53 + n + 1) "is_dead" (spA K (wpR_is_dead K (n + 1) 0)) := by
  have fr_any := fx.free 62 "any"
  have fr_len := fx.free 61 "len"
  refine okF_of (st := st_is_dead) (N := ["part", "words", "members", "member", "some"]) (ps := ["part", "words"]) (fx.fd 11 "is_dead" st_is_dead) (fx.glo 11 "is_dead") sc_is_dead (fun _ _ _ _ _ _ us hl => match us, hl with | [_, _], _ => rfl) (spA_len fun as Qd h => h.1) (fun fd cdv A outer s H vs Q E hg hr h => ?_)
  have hu := VL.hu_of hr
  have hu1 := L2.hu_of hr
  refine ⟨_, PSs.nox (pss_cons (ps_if (pt_cmpR (opK K rEqR (op_eqR hu) (by rfl)) (pe_ix (ixK K rIxAll (ix_all hu) (by rfl)) (pv 0) (pe_int) (by exact fun _ _ => rfl)) (pe_str) (nomark _)) (pss_one (ps_ret (pe_cmpR (opK K (fun K => rInAll K false) (op_inAll hu) (by rfl)) (pe_ix (ixK K rIxAll (ix_all hu) (by rfl)) (pv 1) (pe_int) (by exact fun _ _ => rfl)) (pe_tup (pa_cons (pe_str) (pa_cons (pe_str) (pa_nil)))) (by rfl)))) (pss_nil)) (pss_cons (ps_set (i := 2) sc_is_dead.nd (by rfl) (by exact Or.inl rfl) (pe_callO G_shared hg hr (by omega) (by rfl) (pa_cons (pv 0) (pa_cons (pv 1) (pa_nil))))) (pss_cons (ps_if (pt_cmpR (opK K rEqR (op_eqR hu) (by rfl)) (pe_ix (ixK K rIxAll (ix_all hu) (by rfl)) (pv 0) (pe_int) (by exact fun _ _ => rfl)) (pe_str) (nomark _)) (pss_one (ps_set (i := 2) sc_is_dead.nd (by rfl) (by exact Or.inl rfl) (pe_ifExp (pt_cmpR (opK K rEqR (op_eqR hu) (by rfl)) (pe_callO G_force_in hg hr (by omega) (by rfl) (pa_cons (pv 0) (pa_cons (pv 1) (pa_nil)))) (pe_op op_sub (pe_callB (callK K rLenAll call_lenAll (by rfl)) (by rfl) fr_len boot_len (pa_cons (pv 2) (pa_nil))) (pe_int)) (nomark _)) (pe_slice (slK K rSlAll sl_all (by rfl)) (pv 2) (po_some (pe_un un_neg (pe_int))) po_none) (pe_lst (pa_nil))))) (pss_nil)) (pss_one (ps_ret (pe_callB (callK K (fun K => rAnyR K false) (call_anyR (by rfl)) (by rfl)) (by rfl) fr_any boot_any (pa_cons (pe_lc (own := [("member", 3), ("some", 4)]) (by rfl) sc_is_dead.nd (pi_anyK K (pv 2) (by rfl)) (blkOk_by (N := ["part", "words", "members", "member", "some"]) (sc := defScope st_is_dead) (by decide +kernel)) (fun _ _ _ _ _ => pg_tupK K (n := 2) (by rfl) (pgs_cons (pg_name (i := 3) sc_is_dead.nd (by rfl) (by first | exact Or.inl rfl | exact Or.inr rfl)) (pgs_cons (pg_name (i := 4) sc_is_dead.nd (by rfl) (by first | exact Or.inl rfl | exact Or.inr rfl)) (pgs_nil))) (by rfl)) (fun _ _ _ _ _ => pts_nil) (fun _ _ _ _ _ => pe_callO G_is_dead hg hr (by omega) (by rfl) (pa_cons (pv 3) (pa_cons (pv 4) (pa_nil))))) (pa_nil)))))))), ?_⟩
  exact spA_of (fun o => sims_seq (sims_if (sim_tst (SimE.p (sim_op so_eq (SimE.p (sim_op so_ix (SimE.p (sim_var)) (SimE.p (sim_int)))) (SimE.p ((sim_str (by decide +kernel))))))) (sims_ret (sim_op (so_in (neg := false)) (SimE.p (sim_op so_ix (SimE.p (sim_var)) (SimE.p (sim_int)))) (SimE.p (sim_tup (sim_lcons ((sim_str (by decide +kernel))) (sim_lcons ((sim_str (by decide +kernel))) (sim_lnil))))))) (sims_next)) (sims_seq (sims_set (sim_callA (sim_acons (sim_var) (sim_acons (sim_var) (sim_anil))))) (sims_seq (sims_if (sim_tst (SimE.p (sim_op so_eq (SimE.p (sim_op so_ix (SimE.p (sim_var)) (SimE.p (sim_int)))) (SimE.p ((sim_str (by decide +kernel))))))) (sims_set (sim_ifE (sim_tst (SimE.p (sim_op so_eq (SimE.p (sim_callA (sim_acons (sim_var) (sim_acons (sim_var) (sim_anil))))) (SimE.p (sim_op so_sub (SimE.p (sim_b sb_len (sim_pcons (SimE.p (sim_var)) (sim_pnil)))) (SimE.p (sim_int))))))) (sim_sl ss_cut (SimE.p (sim_var)) (sim_oyes (SimE.p (sim_un su_neg (SimE.p (sim_int))))) sim_ono) (SimF.e (simF_lst (sim_lnil))))) (sims_next)) (sims_ret (sim_b sb_any (sim_pcons (SimE.p (SimF.e (simF_lc (simIP_any (SimE.p (sim_var))) (simg_tup (n := 2) (simgs_cons (simg_name (i := 3)) (simgs_cons (simg_name (i := 4)) (simgs_nil)))) (sim_yes) (sim_callA (sim_acons (sim_var) (sim_acons (sim_var) (sim_anil)))) (by decide)))) (sim_pnil))))))) (fun as Qd h => h.2) vs H Q E h
theorem okT_11 (fx : Fx fal gsl fnl K mg) (G_shared : OkF P w K mg base 28 "shared" (spA K ((wp_shared) K))) (G_force_in : OkF P w K mg base 53 "force_in" (spA K ((wp_force_in) K))) : ∀ n : Nat, OkF P w K mg base (53 + n) "is_dead" (spA K (wpR_is_dead K n 0))
  | 0 => okF_never (st := st_is_dead) (ps := ["part", "words"]) (fx.fd 11 "is_dead" st_is_dead) (fx.glo 11 "is_dead") (fun _ _ _ _ _ _ us hl => match us, hl with | [_, _], _ => rfl) (spA_never fun _ _ h => h)
  | n + 1 => by
    have ih := okT_11 fx G_shared G_force_in n
    exact okS_is_dead n fx G_shared G_force_in ih
theorem ok_found_at (fx : Fx fal gsl fnl K mg) (G_shared : OkF P w K mg base 28 "shared" (spA K ((wp_shared) K))) : OkF P w K mg base 29 "found_at" (spA K ((wp_found_at) K)) := by
  have fr_len := fx.free 61 "len"
  have fr_sum := fx.free 63 "sum"
  refine okF_of (st := st_found_at) (N := ["plan", "standing", "place", "part", "words", "first", "number", "members", "member", "some"]) (ps := ["plan", "standing", "place"]) (fx.fd 12 "found_at" st_found_at) (fx.glo 12 "found_at") sc_found_at (fun _ _ _ _ _ _ us hl => match us, hl with | [_, _, _], _ => rfl) (spA_len fun as Qd h => h.1) (fun fd cdv A outer s H vs Q E hg hr h => ?_)
  have hu := VL.hu_of hr
  have hu1 := L2.hu_of hr
  refine ⟨_, PSs.nox (pss_cons (ps_par3 (i := 3) (j := 4) (l := 5) (by rfl) sc_found_at.nd (by rfl) (by rfl) (by rfl) (by decide) (by decide) (by decide) (by rfl) (by rfl) (by rfl) (pa_cons (pv 0) (pa_cons (pe_ix (ixK K rIxAll (ix_all hu) (by rfl)) (pv 1) (pe_int) (by exact fun _ _ => rfl)) (pa_cons (pe_int) (pa_nil)))) (by rfl)) (pss_cons (ps_for PassesOwn.never (by rfl) (pi_anyK K (pv 2) (by rfl)) (pg_name (i := 6) sc_found_at.nd (by rfl) (by first | exact Or.inl rfl | exact Or.inr rfl)) (pss_cons (ps_set (i := 7) sc_found_at.nd (by rfl) (by exact Or.inl rfl) (pe_callO G_shared hg hr (by omega) (by rfl) (pa_cons (pv 3) (pa_cons (pv 4) (pa_nil))))) (pss_cons (ps_aug (i := 5) sc_found_at.nd (by rfl) (by exact Or.inl rfl) (pe_callB (callK K rSum (cr_sum (by rfl)) (by rfl)) (by rfl) fr_sum boot_sum (pa_cons (pe_lc (own := [("member", 8), ("some", 9)]) (by rfl) sc_found_at.nd (pi_anyK K (pe_slice (slK K rSlAll sl_all (by rfl)) (pv 7) po_none (po_some (pv 6))) (by rfl)) (blkOk_by (N := ["plan", "standing", "place", "part", "words", "first", "number", "members", "member", "some"]) (sc := defScope st_found_at) (by decide +kernel)) (fun _ _ _ _ _ => pg_tupK K (n := 2) (by rfl) (pgs_cons (pg_name (i := 8) sc_found_at.nd (by rfl) (by first | exact Or.inl rfl | exact Or.inr rfl)) (pgs_cons (pg_name (i := 9) sc_found_at.nd (by rfl) (by first | exact Or.inl rfl | exact Or.inr rfl)) (pgs_nil))) (by rfl)) (fun _ _ _ _ _ => pts_nil) (fun _ _ _ _ _ => pe_callB (callK K rLenAll call_lenAll (by rfl)) (by rfl) fr_len boot_len (pa_cons (pv 9) (pa_nil)))) (pa_nil))) iop_add) (pss_one (ps_asg (pe_ix (ixK K rIxAll (ix_all hu) (by rfl)) (pv 7) (pv 6) (by exact fun _ _ => rfl)) (pg_tupK K (n := 2) (by rfl) (pgs_cons (pg_name (i := 3) sc_found_at.nd (by rfl) (by first | exact Or.inl rfl | exact Or.inr rfl)) (pgs_cons (pg_name (i := 4) sc_found_at.nd (by rfl) (by first | exact Or.inl rfl | exact Or.inr rfl)) (pgs_nil))) (by rfl))))))) (pss_one (ps_ret (pe_tup (pa_cons (pv 3) (pa_cons (pv 4) (pa_cons (pv 5) (pa_nil))))))))), ?_⟩
  exact spA_of (fun o => sims_seq (sims_par3 (sim_var) (sim_op so_ix (SimE.p (sim_var)) (SimE.p (sim_int))) (sim_int)) (sims_seq (sims_for (simI_any (sim_var)) (simg_name (i := 6)) (sims_seq (sims_set (sim_callA (sim_acons (sim_var) (sim_acons (sim_var) (sim_anil))))) (sims_seq (sims_aug so_addI (SimE.p (sim_b sb_sum (sim_pcons (SimE.p (SimF.e (simF_lc (simIP_any (SimE.p (sim_sl ss_cut (SimE.p (sim_var)) sim_ono (sim_oyes (SimE.p (sim_var)))))) (simg_tup (n := 2) (simgs_cons (simg_name (i := 8)) (simgs_cons (simg_name (i := 9)) (simgs_nil)))) (sim_yes) (sim_b sb_len (sim_pcons (SimE.p (sim_var)) (sim_pnil))) (by decide)))) (sim_pnil))))) (sims_asg (sim_op so_ix (SimE.p (sim_var)) (SimE.p (sim_var))) (simg_tup (n := 2) (simgs_cons (simg_name (i := 3)) (simgs_cons (simg_name (i := 4)) (simgs_nil)))))))) (sims_ret (sim_tup (sim_lcons (sim_var) (sim_lcons (sim_var) (sim_lcons (sim_var) (sim_lnil)))))))) (fun as Qd h => h.2) vs H Q E h
theorem ok_with_step (fx : Fx fal gsl fnl K mg) (G_deeds_of : OkF P w K mg base 27 "deeds_of" (spA K ((wp_deeds_of) K))) : OkF P w K mg base 28 "with_step" (spA K ((wp_with_step) K)) := by
  refine okF_of (st := st_with_step) (N := ["plan", "standing", "step", "words", "is_left", "names", "number", "deed"]) (ps := ["plan", "standing", "step"]) (fx.fd 13 "with_step" st_with_step) (fx.glo 13 "with_step") sc_with_step (fun _ _ _ _ _ _ us hl => match us, hl with | [_, _, _], _ => rfl) (spA_len fun as Qd h => h.1) (fun fd cdv A outer s H vs Q E hg hr h => ?_)
  have hu := VL.hu_of hr
  have hu1 := L2.hu_of hr
  refine ⟨_, PSs.nox (pss_cons (ps_asg (pv 1) (pg_tupK K (n := 2) (by rfl) (pgs_cons (pg_name (i := 3) sc_with_step.nd (by rfl) (by first | exact Or.inl rfl | exact Or.inr rfl)) (pgs_cons (pg_name (i := 4) sc_with_step.nd (by rfl) (by first | exact Or.inl rfl | exact Or.inr rfl)) (pgs_nil))) (by rfl))) (pss_cons (ps_if (pt_cmpR (opK K rEqR (op_eqR hu) (by rfl)) (pv 2) (pe_tup (pa_cons (pe_str) (pa_nil))) (nomark _)) (pss_one (ps_ret (pe_tup (pa_cons (pv 3) (pa_cons (pe_bl) (pa_nil)))))) (pss_nil)) (pss_cons (ps_setLc (i := 5) (own := [("deed", 7)]) (by rfl) sc_with_step.nd (by rfl) (by rfl) (sw_true (by rfl) (by rfl) (by rfl) (by decide +kernel)) (pi_anyK K (pe_callO G_deeds_of hg hr (by omega) (by rfl) (pa_cons (pv 0) (pa_nil))) (by rfl)) (blkOk_by (N := ["plan", "standing", "step", "words", "is_left", "names", "number", "deed"]) (sc := defScope st_with_step) (by decide +kernel)) (fun _ _ _ _ _ => pg_name (i := 7) sc_with_step.nd (by rfl) (by first | exact Or.inl rfl | exact Or.inr rfl)) (fun _ _ _ _ _ => pts_nil) (fun _ _ _ _ _ => pe_ix (ixK K rIxAll (ix_all hu) (by rfl)) (pv 7) (pe_int) (by exact fun _ _ => rfl))) (pss_cons (ps_set (i := 6) sc_with_step.nd (by rfl) (by exact Or.inl rfl) (peBM K (pe_bm PySem.F.plainAttrs_list PySem.F.slot_list_index PySem.F.type_list_index (mtK K rIdxL (mt_idxL hu) (by rfl)) (pv 5) (pa_cons (pe_ix (ixK K rIxAll (ix_all hu) (by rfl)) (pv 2) (pe_int) (by exact fun _ _ => rfl)) (pa_nil))) (by rfl))) (pss_one (ps_ret (pe_tup (pa_cons (pe_op (opK K rAddAll op_addAll (by rfl)) (pe_op (opK K rAddAll op_addAll (by rfl)) (pe_slice (slK K rSlAll sl_all (by rfl)) (pv 3) po_none (po_some (pv 6))) (pe_slice (slK K rSlAll sl_all (by rfl)) (pv 2) po_none (po_some (pe_int)))) (pe_slice (slK K rSlAll sl_all (by rfl)) (pv 3) (po_some (pe_op (opK K rAddAll op_addAll (by rfl)) (pv 6) (pe_int))) po_none)) (pa_cons (pv 4) (pa_nil)))))))))), ?_⟩
  exact spA_of (fun o => sims_seq (sims_asg (sim_var) (simg_tup (n := 2) (simgs_cons (simg_name (i := 3)) (simgs_cons (simg_name (i := 4)) (simgs_nil))))) (sims_seq (sims_if (sim_tst (SimE.p (sim_op so_eq (SimE.p (sim_var)) (SimE.p (sim_tup (sim_lcons ((sim_str (by decide +kernel))) (sim_lnil))))))) (sims_ret (sim_tup (sim_lcons (sim_var) (sim_lcons (sim_bl) (sim_lnil))))) (sims_next)) (sims_seq (sims_set (SimF.e (simF_lc (simIP_any (SimE.p (sim_callA (sim_acons (sim_var) (sim_anil))))) (simg_name (i := 7)) (sim_yes) (sim_op so_ix (SimE.p (sim_var)) (SimE.p (sim_int))) (by decide)))) (sims_seq (sims_set (sim_m sm_idxL (SimE.p (sim_var)) (sim_pcons (SimE.p (sim_op so_ix (SimE.p (sim_var)) (SimE.p (sim_int)))) (sim_pnil)))) (sims_ret (sim_tup (sim_lcons (sim_op so_add (SimE.p (sim_op so_add (SimE.p (sim_sl ss_cut (SimE.p (sim_var)) sim_ono (sim_oyes (SimE.p (sim_var))))) (SimE.p (sim_sl ss_cut (SimE.p (sim_var)) sim_ono (sim_oyes (SimE.p (sim_int))))))) (SimE.p (sim_sl ss_cut (SimE.p (sim_var)) (sim_oyes (SimE.p (sim_op so_add (SimE.p (sim_var)) (SimE.p (sim_int))))) sim_ono))) (sim_lcons (sim_var) (sim_lnil))))))))) (fun as Qd h => h.2) vs H Q E h
theorem ok_is_good_in (fx : Fx fal gsl fnl K mg) (G_deeds_of : OkF P w K mg base 27 "deeds_of" (spA K ((wp_deeds_of) K))) (G_can_be_undone : OkF P w K mg base 1 "can_be_undone" (spA K ((wp_can_be_undone) K))) : OkF P w K mg base 28 "is_good_in" (spA K ((wp_is_good_in) K)) := by
  have fr_any := fx.free 62 "any"
  have fr_zip := fx.free 64 "zip"
  refine okF_of (st := st_is_good_in) (N := ["part", "words", "pins", "pairs", "deed", "word"]) (ps := ["part", "words", "pins"]) (fx.fd 14 "is_good_in" st_is_good_in) (fx.glo 14 "is_good_in") sc_is_good_in (fun _ _ _ _ _ _ us hl => match us, hl with | [_, _, _], _ => rfl) (spA_len fun as Qd h => h.1) (fun fd cdv A outer s H vs Q E hg hr h => ?_)
  have hu := VL.hu_of hr
  have hu1 := L2.hu_of hr
  refine ⟨_, PSs.nox (pss_cons (ps_set (i := 3) sc_is_good_in.nd (by rfl) (by exact Or.inl rfl) (pe_zipV K (by rfl) fr_zip (pa_cons (pe_callO G_deeds_of hg hr (by omega) (by rfl) (pa_cons (pv 0) (pa_nil))) (pa_cons (pv 1) (pa_nil))) (by rfl))) (pss_one (ps_ret (pe_callB (callK K (fun K => rAnyR K false) (call_anyR (by rfl)) (by rfl)) (by rfl) fr_any boot_any (pa_cons (pe_lc (own := [("deed", 4), ("word", 5)]) (by rfl) sc_is_good_in.nd (pi_zipV K (i := 3) (by rfl) (by first | exact Or.inl rfl | exact Or.inr (Or.inl rfl)) (by rfl)) (blkOk_by (N := ["part", "words", "pins", "pairs", "deed", "word"]) (sc := defScope st_is_good_in) (by decide +kernel)) (fun _ _ _ _ _ => pg_tupK K (n := 2) (by rfl) (pgs_cons (pg_name (i := 4) sc_is_good_in.nd (by rfl) (by first | exact Or.inl rfl | exact Or.inr rfl)) (pgs_cons (pg_name (i := 5) sc_is_good_in.nd (by rfl) (by first | exact Or.inl rfl | exact Or.inr rfl)) (pgs_nil))) (by rfl)) (fun _ _ _ _ _ => pts_nil) (fun _ _ _ _ _ => pe_andK K (pe_cmpR (opK K rEqR (op_eqR hu) (by rfl)) (pv 5) (pe_str) (nomark _)) (pe_one (pe_orK K (pe_notK K (pe_callO G_can_be_undone hg hr (by omega) (by rfl) (pa_cons (pe_ix (ixK K rIxAll (ix_all hu) (by rfl)) (pv 4) (pe_int) (by exact fun _ _ => rfl)) (pa_nil))) (by rfl)) (pe_one (pe_cmpR (opK K (fun K => rInAll K false) (op_inAll hu) (by rfl)) (pe_ix (ixK K rIxAll (ix_all hu) (by rfl)) (pv 4) (pe_int) (by exact fun _ _ => rfl)) (pv 2) (by rfl))) (by rfl))) (by rfl))) pa_nil))))), ?_⟩
  exact spA_of (fun o => sims_zipRet (sim_pcons (SimE.p (sim_callA (sim_acons (sim_var) (sim_anil)))) (sim_pcons (SimE.p (sim_var)) (sim_pnil))) sb_any (simg_tup (n := 2) (simgs_cons (simg_name (i := 4)) (simgs_cons (simg_name (i := 5)) (simgs_nil)))) (sim_yes) (sim_andT (sim_op so_eq (SimE.p (sim_var)) (SimE.p ((sim_str (by decide +kernel))))) (sim_orT (sim_notT (SimE.p (sim_callA (sim_acons (sim_op so_ix (SimE.p (sim_var)) (SimE.p (sim_int))) (sim_anil))))) (sim_op (so_in (neg := false)) (SimE.p (sim_op so_ix (SimE.p (sim_var)) (SimE.p (sim_int)))) (SimE.p (sim_var))))) (by decide)) (fun as Qd h => h.2) vs H Q E h
theorem ok_coming (fx : Fx fal gsl fnl K mg)  : OkF P w K mg base 1 "coming" (spA K ((wp_coming) K)) := by
  have fr_enumerate := fx.free 60 "enumerate"
  obtain ⟨cv_SURE, cu_SURE, cm_SURE, cr_SURE, cd_SURE, ct_SURE⟩ := (fx.con 1 "SURE" (.int (1))).ex
  refine okF_of (st := st_coming) (N := ["rows", "number", "row"]) (ps := ["rows"]) (fx.fd 15 "coming" st_coming) (fx.glo 15 "coming") sc_coming (fun _ _ _ _ _ _ us hl => match us, hl with | [_], _ => rfl) (spA_len fun as Qd h => h.1) (fun fd cdv A outer s H vs Q E hg hr h => ?_)
  have hu := VL.hu_of hr
  have hu1 := L2.hu_of hr
  refine ⟨_, PSs.nox (pss_cons (ps_for PassesOwn.never (by rfl) (pi_enumK K (by rfl) fr_enumerate (pa_cons (pv 0) (pa_nil)) (by rfl)) (pg_tupK K (n := 2) (by rfl) (pgs_cons (pg_name (i := 1) sc_coming.nd (by rfl) (by first | exact Or.inl rfl | exact Or.inr rfl)) (pgs_cons (pg_name (i := 2) sc_coming.nd (by rfl) (by first | exact Or.inl rfl | exact Or.inr rfl)) (pgs_nil))) (by rfl)) (pss_one (ps_if (pt_truK K (pe_ix (ixK K rIxAll (ix_all hu) (by rfl)) (pv 2) (pe_glob (by rfl) cm_SURE cr_SURE) (by exact fun _ _ => rfl)) (by exact fun _ => rfl) (by rfl)) (pss_one (ps_ret (pe_slice (slK K rSlAll sl_all (by rfl)) (pv 0) po_none (po_some (pe_op (opK K rAddAll op_addAll (by rfl)) (pv 1) (pe_int)))))) (pss_nil)))) (pss_one (ps_ret (pv 0)))), ?_⟩
  exact spA_of (fun o => sims_seq (sims_for (simI_enum (sim_lcons (sim_var) (sim_lnil))) (simg_tup (n := 2) (simgs_cons (simg_name (i := 1)) (simgs_cons (simg_name (i := 2)) (simgs_nil)))) (sims_if (sim_truK (SimE.p (sim_op so_ix (SimE.p (sim_var)) (SimE.p ((sim_c cd_SURE)))))) (sims_ret (sim_sl ss_cut (SimE.p (sim_var)) sim_ono (sim_oyes (SimE.p (sim_op so_add (SimE.p (sim_var)) (SimE.p (sim_int))))))) (sims_next))) (sims_ret (sim_var))) (fun as Qd h => h.2) vs H Q E h
theorem ok_hinges_of (fx : Fx fal gsl fnl K mg)  : OkF P w K mg base 1 "hinges_of" (spA K ((wp_hinges_of) K)) := by
  have fr_all := fx.free 65 "all"
  have fr_enumerate := fx.free 60 "enumerate"
  obtain ⟨cv_LOOSE, cu_LOOSE, cm_LOOSE, cr_LOOSE, cd_LOOSE, ct_LOOSE⟩ := (fx.con 2 "LOOSE" (.int (2))).ex
  obtain ⟨cv_SURE, cu_SURE, cm_SURE, cr_SURE, cd_SURE, ct_SURE⟩ := (fx.con 1 "SURE" (.int (1))).ex
  refine okF_of (st := st_hinges_of) (N := ["rows", "mark", "found", "number", "row", "is_loose", "one"]) (ps := ["rows", "mark"]) (fx.fd 16 "hinges_of" st_hinges_of) (fx.glo 16 "hinges_of") sc_hinges_of (fun _ _ _ _ _ _ us hl => match us, hl with | [_, _], _ => rfl) (spA_len fun as Qd h => h.1) (fun fd cdv A outer s H vs Q E hg hr h => ?_)
  have hu := VL.hu_of hr
  have hu1 := L2.hu_of hr
  refine ⟨_, PSs.nox (pss_cons (ps_set (i := 2) sc_hinges_of.nd (by rfl) (by exact Or.inl rfl) (pe_lst (pa_nil))) (pss_cons (ps_for PassesOwn.never (by rfl) (pi_enumK K (by rfl) fr_enumerate (pa_cons (pv 0) (pa_nil)) (by rfl)) (pg_tupK K (n := 2) (by rfl) (pgs_cons (pg_name (i := 3) sc_hinges_of.nd (by rfl) (by first | exact Or.inl rfl | exact Or.inr rfl)) (pgs_cons (pg_name (i := 4) sc_hinges_of.nd (by rfl) (by first | exact Or.inl rfl | exact Or.inr rfl)) (pgs_nil))) (by rfl)) (pss_cons (ps_set (i := 5) sc_hinges_of.nd (by rfl) (by exact Or.inl rfl) (pe_callB (callK K (fun K => rAnyR K true) (call_allR (by rfl)) (by rfl)) (by rfl) fr_all boot_all (pa_cons (pe_lc (own := [("one", 6)]) (by rfl) sc_hinges_of.nd (pi_anyK K (pe_slice (slK K rSlAll sl_all (by rfl)) (pv 0) po_none (po_some (pv 3))) (by rfl)) (blkOk_by (N := ["rows", "mark", "found", "number", "row", "is_loose", "one"]) (sc := defScope st_hinges_of) (by decide +kernel)) (fun _ _ _ _ _ => pg_name (i := 6) sc_hinges_of.nd (by rfl) (by first | exact Or.inl rfl | exact Or.inr rfl)) (fun _ _ _ _ _ => pts_nil) (fun _ _ _ _ _ => pe_ix (ixK K rIxAll (ix_all hu) (by rfl)) (pv 6) (pe_glob (by rfl) cm_LOOSE cr_LOOSE) (by exact fun _ _ => rfl))) (pa_nil)))) (pss_one (ps_if (PW.pt (pw_and (pt_truK K (pv 5) (by exact fun _ => rfl) (by rfl)) (pw_and (pt_truK K (pe_ix (ixK K rIxAll (ix_all hu) (by rfl)) (pv 4) (pv 1) (by exact fun _ _ => rfl)) (by exact fun _ => rfl) (by rfl)) (pw_and1 (pt_truK K (pe_callB (callK K (fun K => rAnyR K true) (call_allR (by rfl)) (by rfl)) (by rfl) fr_all boot_all (pa_cons (pe_lc (own := [("one", 6)]) (by rfl) sc_hinges_of.nd (pi_anyK K (pe_slice (slK K rSlAll sl_all (by rfl)) (pv 0) (po_some (pe_op (opK K rAddAll op_addAll (by rfl)) (pv 3) (pe_int))) po_none) (by rfl)) (blkOk_by (N := ["rows", "mark", "found", "number", "row", "is_loose", "one"]) (sc := defScope st_hinges_of) (by decide +kernel)) (fun _ _ _ _ _ => pg_name (i := 6) sc_hinges_of.nd (by rfl) (by first | exact Or.inl rfl | exact Or.inr rfl)) (fun _ _ _ _ _ => pts_nil) (fun _ _ _ _ _ => pe_ix (ixK K rIxAll (ix_all hu) (by rfl)) (pv 6) (pe_glob (by rfl) cm_SURE cr_SURE) (by exact fun _ _ => rfl))) (pa_nil))) (by exact fun _ => rfl) (by rfl)))))) (pss_one (ps_expr (pe_bm PySem.F.plainAttrs_list PySem.F.slot_list_append PySem.F.type_list_append mt_append (pv 2) (pa_cons (pv 3) pa_nil)))) (pss_nil))))) (pss_one (ps_ret (pv 2))))), ?_⟩
  exact spA_of (fun o => sims_seq (sims_setO (simF_lst (sim_lnil))) (sims_seq (sims_for (simI_enum (sim_lcons (sim_var) (sim_lnil))) (simg_tup (n := 2) (simgs_cons (simg_name (i := 3)) (simgs_cons (simg_name (i := 4)) (simgs_nil)))) (sims_seq (sims_set (sim_b sb_any (sim_pcons (SimE.p (SimF.e (simF_lc (simIP_any (SimE.p (sim_sl ss_cut (SimE.p (sim_var)) sim_ono (sim_oyes (SimE.p (sim_var)))))) (simg_name (i := 6)) (sim_yes) (sim_op so_ix (SimE.p (sim_var)) (SimE.p ((sim_c cd_LOOSE)))) (by decide)))) (sim_pnil)))) (sims_if (sim_and (sim_truK (SimE.p (sim_var))) (sim_and (sim_truK (SimE.p (sim_op so_ix (SimE.p (sim_var)) (SimE.p (sim_var))))) (sim_truK (SimE.p (sim_b sb_any (sim_pcons (SimE.p (SimF.e (simF_lc (simIP_any (SimE.p (sim_sl ss_cut (SimE.p (sim_var)) (sim_oyes (SimE.p (sim_op so_add (SimE.p (sim_var)) (SimE.p (sim_int))))) sim_ono))) (simg_name (i := 6)) (sim_yes) (sim_op so_ix (SimE.p (sim_var)) (SimE.p ((sim_c cd_SURE)))) (by decide)))) (sim_pnil))))))) (sims_app (sim_var)) (sims_next)))) (sims_retV))) (fun as Qd h => h.2) vs H Q E h
theorem ok_marked_deed (fx : Fx fal gsl fnl K mg) (G_is_sure : OkF P w K mg base 1 "is_sure" (spA K ((wp_is_sure) K))) (G_can_be_undone : OkF P w K mg base 1 "can_be_undone" (spA K ((wp_can_be_undone) K))) : OkF P w K mg base 2 "marked_deed" (spA K ((wp_marked_deed) K)) := by
  refine okF_of (st := st_marked_deed) (N := ["kind", "word"]) (ps := ["kind", "word"]) (fx.fd 17 "marked_deed" st_marked_deed) (fx.glo 17 "marked_deed") sc_marked_deed (fun _ _ _ _ _ _ us hl => match us, hl with | [_, _], _ => rfl) (spA_len fun as Qd h => h.1) (fun fd cdv A outer s H vs Q E hg hr h => ?_)
  have hu := VL.hu_of hr
  have hu1 := L2.hu_of hr
  refine ⟨_, PSs.nox (pss_one (ps_ret (pe_tup (pa_cons (pe_orK K (pe_cmpR (opK K rEqR (op_eqR hu) (by rfl)) (pv 1) (pe_str) (nomark _)) (pe_one (pe_callO G_is_sure hg hr (by omega) (by rfl) (pa_cons (pv 0) (pa_nil)))) (by rfl)) (pa_cons (pe_orK K (pe_cmpR (opK K rEqR (op_eqR hu) (by rfl)) (pv 1) (pe_str) (nomark _)) (pe_one (pe_callO G_can_be_undone hg hr (by omega) (by rfl) (pa_cons (pv 0) (pa_nil)))) (by rfl)) (pa_cons (pe_cmpR (opK K rNeR (op_neR hu) (by rfl)) (pv 0) (pe_str) (nomark _)) (pa_cons (pe_bl) (pa_nil)))))))), ?_⟩
  exact spA_of (fun o => sims_ret (sim_tup (sim_lcons (sim_orT (sim_op so_eq (SimE.p (sim_var)) (SimE.p ((sim_str (by decide +kernel))))) (sim_callA (sim_acons (sim_var) (sim_anil)))) (sim_lcons (sim_orT (sim_op so_eq (SimE.p (sim_var)) (SimE.p ((sim_str (by decide +kernel))))) (sim_callA (sim_acons (sim_var) (sim_anil)))) (sim_lcons (sim_op so_ne (SimE.p (sim_var)) (SimE.p ((sim_str (by decide +kernel))))) (sim_lcons (sim_bl) (sim_lnil))))))) (fun as Qd h => h.2) vs H Q E h
theorem ok_marked_row (fx : Fx fal gsl fnl K mg) (G_hinges_of : OkF P w K mg base 1 "hinges_of" (spA K ((wp_hinges_of) K))) : OkF P w K mg base 2 "marked_row" (spA K ((wp_marked_row) K)) := by
  have fr_all := fx.free 65 "all"
  obtain ⟨cv_SURE, cu_SURE, cm_SURE, cr_SURE, cd_SURE, ct_SURE⟩ := (fx.con 1 "SURE" (.int (1))).ex
  obtain ⟨cv_LOOSE, cu_LOOSE, cm_LOOSE, cr_LOOSE, cd_LOOSE, ct_LOOSE⟩ := (fx.con 2 "LOOSE" (.int (2))).ex
  obtain ⟨cv_WHOLE, cu_WHOLE, cm_WHOLE, cr_WHOLE, cd_WHOLE, ct_WHOLE⟩ := (fx.con 3 "WHOLE" (.int (4))).ex
  obtain ⟨cv_READY, cu_READY, cm_READY, cr_READY, cd_READY, ct_READY⟩ := (fx.con 4 "READY" (.int (3))).ex
  refine okF_of (st := st_marked_row) (N := ["rows", "sure", "loose", "row"]) (ps := ["rows"]) (fx.fd 18 "marked_row" st_marked_row) (fx.glo 18 "marked_row") sc_marked_row (fun _ _ _ _ _ _ us hl => match us, hl with | [_], _ => rfl) (spA_len fun as Qd h => h.1) (fun fd cdv A outer s H vs Q E hg hr h => ?_)
  have hu := VL.hu_of hr
  have hu1 := L2.hu_of hr
  refine ⟨_, PSs.nox (pss_cons (ps_par (i := 1) (j := 2) (by rfl) sc_marked_row.nd (by rfl) (by rfl) (by decide) (by rfl) (by rfl) (pa_cons (pe_callB (callK K (fun K => rAnyR K true) (call_allR (by rfl)) (by rfl)) (by rfl) fr_all boot_all (pa_cons (pe_lc (own := [("row", 3)]) (by rfl) sc_marked_row.nd (pi_anyK K (pv 0) (by rfl)) (blkOk_by (N := ["rows", "sure", "loose", "row"]) (sc := defScope st_marked_row) (by decide +kernel)) (fun _ _ _ _ _ => pg_name (i := 3) sc_marked_row.nd (by rfl) (by first | exact Or.inl rfl | exact Or.inr rfl)) (fun _ _ _ _ _ => pts_nil) (fun _ _ _ _ _ => pe_ix (ixK K rIxAll (ix_all hu) (by rfl)) (pv 3) (pe_glob (by rfl) cm_SURE cr_SURE) (by exact fun _ _ => rfl))) (pa_nil))) (pa_cons (pe_callB (callK K (fun K => rAnyR K true) (call_allR (by rfl)) (by rfl)) (by rfl) fr_all boot_all (pa_cons (pe_lc (own := [("row", 3)]) (by rfl) sc_marked_row.nd (pi_anyK K (pv 0) (by rfl)) (blkOk_by (N := ["rows", "sure", "loose", "row"]) (sc := defScope st_marked_row) (by decide +kernel)) (fun _ _ _ _ _ => pg_name (i := 3) sc_marked_row.nd (by rfl) (by first | exact Or.inl rfl | exact Or.inr rfl)) (fun _ _ _ _ _ => pts_nil) (fun _ _ _ _ _ => pe_ix (ixK K rIxAll (ix_all hu) (by rfl)) (pv 3) (pe_glob (by rfl) cm_LOOSE cr_LOOSE) (by exact fun _ _ => rfl))) (pa_nil))) (pa_nil))) (by rfl)) (pss_one (ps_ret (pe_tup (pa_cons (pv 1) (pa_cons (pv 2) (pa_cons (pe_cmpR (opK K rNeR (op_neR hu) (by rfl)) (pe_callO G_hinges_of hg hr (by omega) (by rfl) (pa_cons (pv 0) (pa_cons (pe_glob (by rfl) cm_READY cr_READY) (pa_nil)))) (pe_lst (pa_nil)) (nomark _)) (pa_cons (pe_cmpR (opK K rNeR (op_neR hu) (by rfl)) (pe_callO G_hinges_of hg hr (by omega) (by rfl) (pa_cons (pv 0) (pa_cons (pe_glob (by rfl) cm_WHOLE cr_WHOLE) (pa_nil)))) (pe_lst (pa_nil)) (nomark _)) (pa_nil))))))))), ?_⟩
  exact spA_of (fun o => sims_seq (sims_par (sim_b sb_any (sim_pcons (SimE.p (SimF.e (simF_lc (simIP_any (SimE.p (sim_var))) (simg_name (i := 3)) (sim_yes) (sim_op so_ix (SimE.p (sim_var)) (SimE.p ((sim_c cd_SURE)))) (by decide)))) (sim_pnil))) (sim_b sb_any (sim_pcons (SimE.p (SimF.e (simF_lc (simIP_any (SimE.p (sim_var))) (simg_name (i := 3)) (sim_yes) (sim_op so_ix (SimE.p (sim_var)) (SimE.p ((sim_c cd_LOOSE)))) (by decide)))) (sim_pnil)))) (sims_ret (sim_tup (sim_lcons (sim_var) (sim_lcons (sim_var) (sim_lcons (sim_op so_ne (SimE.p (sim_callA (sim_acons (sim_var) (sim_acons ((sim_c cd_READY)) (sim_anil))))) (SimE.p (SimF.e (simF_lst (sim_lnil))))) (sim_lcons (sim_op so_ne (SimE.p (sim_callA (sim_acons (sim_var) (sim_acons ((sim_c cd_WHOLE)) (sim_anil))))) (SimE.p (SimF.e (simF_lst (sim_lnil))))) (sim_lnil)))))))) (fun as Qd h => h.2) vs H Q E h
theorem ok_marked_side (fx : Fx fal gsl fnl K mg)  : OkF P w K mg base 1 "marked_side" (spA K ((wp_marked_side) K)) := by
  have fr_all := fx.free 65 "all"
  have fr_len := fx.free 61 "len"
  obtain ⟨cv_READY, cu_READY, cm_READY, cr_READY, cd_READY, ct_READY⟩ := (fx.con 4 "READY" (.int (3))).ex
  obtain ⟨cv_WHOLE, cu_WHOLE, cm_WHOLE, cr_WHOLE, cd_WHOLE, ct_WHOLE⟩ := (fx.con 3 "WHOLE" (.int (4))).ex
  obtain ⟨cv_LOOSE, cu_LOOSE, cm_LOOSE, cr_LOOSE, cd_LOOSE, ct_LOOSE⟩ := (fx.con 2 "LOOSE" (.int (2))).ex
  obtain ⟨cv_SURE, cu_SURE, cm_SURE, cr_SURE, cd_SURE, ct_SURE⟩ := (fx.con 1 "SURE" (.int (1))).ex
  refine okF_of (st := st_marked_side) (N := ["rows", "late", "whole", "row"]) (ps := ["rows"]) (fx.fd 19 "marked_side" st_marked_side) (fx.glo 19 "marked_side") sc_marked_side (fun _ _ _ _ _ _ us hl => match us, hl with | [_], _ => rfl) (spA_len fun as Qd h => h.1) (fun fd cdv A outer s H vs Q E hg hr h => ?_)
  have hu := VL.hu_of hr
  have hu1 := L2.hu_of hr
  refine ⟨_, PSs.nox (pss_cons (ps_setLc (i := 1) (own := [("row", 3)]) (by rfl) sc_marked_side.nd (by rfl) (by rfl) (sw_true (by rfl) (by rfl) (by rfl) (by decide +kernel)) (pi_anyK K (pv 0) (by rfl)) (blkOk_by (N := ["rows", "late", "whole", "row"]) (sc := defScope st_marked_side) (by decide +kernel)) (fun _ _ _ _ _ => pg_name (i := 3) sc_marked_side.nd (by rfl) (by first | exact Or.inl rfl | exact Or.inr rfl)) (fun _ _ _ _ _ => pts_one (pt_not (pt_truK K (pe_ix (ixK K rIxAll (ix_all hu) (by rfl)) (pv 3) (pe_glob (by rfl) cm_READY cr_READY) (by exact fun _ _ => rfl)) (by exact fun _ => rfl) (by rfl)))) (fun _ _ _ _ _ => pv 3)) (pss_cons (ps_set (i := 2) sc_marked_side.nd (by rfl) (by exact Or.inl rfl) (pe_orK K (pe_cmpR (opK K rEqR (op_eqR hu) (by rfl)) (pv 1) (pe_lst (pa_nil)) (nomark _)) (pe_one (pe_andK K (pe_cmpR (opK K rEqR (op_eqR hu) (by rfl)) (pe_callB (callK K rLenAll call_lenAll (by rfl)) (by rfl) fr_len boot_len (pa_cons (pv 1) (pa_nil))) (pe_int) (nomark _)) (pe_one (pe_ix (ixK K rIxAll (ix_all hu) (by rfl)) (pe_ix (ixK K rIxAll (ix_all hu) (by rfl)) (pv 1) (pe_int) (by exact fun _ _ => rfl)) (pe_glob (by rfl) cm_WHOLE cr_WHOLE) (by exact fun _ _ => rfl))) (by rfl))) (by rfl))) (pss_one (ps_ret (pe_tup (pa_cons (pe_callB (callK K (fun K => rAnyR K true) (call_allR (by rfl)) (by rfl)) (by rfl) fr_all boot_all (pa_cons (pe_lc (own := [("row", 3)]) (by rfl) sc_marked_side.nd (pi_anyK K (pv 0) (by rfl)) (blkOk_by (N := ["rows", "late", "whole", "row"]) (sc := defScope st_marked_side) (by decide +kernel)) (fun _ _ _ _ _ => pg_name (i := 3) sc_marked_side.nd (by rfl) (by first | exact Or.inl rfl | exact Or.inr rfl)) (fun _ _ _ _ _ => pts_nil) (fun _ _ _ _ _ => pe_ix (ixK K rIxAll (ix_all hu) (by rfl)) (pv 3) (pe_glob (by rfl) cm_SURE cr_SURE) (by exact fun _ _ => rfl))) (pa_nil))) (pa_cons (pe_callB (callK K (fun K => rAnyR K true) (call_allR (by rfl)) (by rfl)) (by rfl) fr_all boot_all (pa_cons (pe_lc (own := [("row", 3)]) (by rfl) sc_marked_side.nd (pi_anyK K (pv 0) (by rfl)) (blkOk_by (N := ["rows", "late", "whole", "row"]) (sc := defScope st_marked_side) (by decide +kernel)) (fun _ _ _ _ _ => pg_name (i := 3) sc_marked_side.nd (by rfl) (by first | exact Or.inl rfl | exact Or.inr rfl)) (fun _ _ _ _ _ => pts_nil) (fun _ _ _ _ _ => pe_ix (ixK K rIxAll (ix_all hu) (by rfl)) (pv 3) (pe_glob (by rfl) cm_LOOSE cr_LOOSE) (by exact fun _ _ => rfl))) (pa_nil))) (pa_cons (pe_cmpR (opK K rEqR (op_eqR hu) (by rfl)) (pv 1) (pe_lst (pa_nil)) (nomark _)) (pa_cons (pv 2) (pa_nil)))))))))), ?_⟩
  exact spA_of (fun o => sims_seq (sims_set (SimF.e (simF_lc (simIP_any (SimE.p (sim_var))) (simg_name (i := 3)) (sim_not (sim_truK (SimE.p (sim_op so_ix (SimE.p (sim_var)) (SimE.p ((sim_c cd_READY))))))) (sim_var) (by decide)))) (sims_seq (sims_set (sim_orT (sim_op so_eq (SimE.p (sim_var)) (SimE.p (SimF.e (simF_lst (sim_lnil))))) (sim_andT (sim_op so_eq (SimE.p (sim_b sb_len (sim_pcons (SimE.p (sim_var)) (sim_pnil)))) (SimE.p (sim_int))) (sim_op so_ix (SimE.p (sim_op so_ix (SimE.p (sim_var)) (SimE.p (sim_int)))) (SimE.p ((sim_c cd_WHOLE))))))) (sims_ret (sim_tup (sim_lcons (sim_b sb_any (sim_pcons (SimE.p (SimF.e (simF_lc (simIP_any (SimE.p (sim_var))) (simg_name (i := 3)) (sim_yes) (sim_op so_ix (SimE.p (sim_var)) (SimE.p ((sim_c cd_SURE)))) (by decide)))) (sim_pnil))) (sim_lcons (sim_b sb_any (sim_pcons (SimE.p (SimF.e (simF_lc (simIP_any (SimE.p (sim_var))) (simg_name (i := 3)) (sim_yes) (sim_op so_ix (SimE.p (sim_var)) (SimE.p ((sim_c cd_LOOSE)))) (by decide)))) (sim_pnil))) (sim_lcons (sim_op so_eq (SimE.p (sim_var)) (SimE.p (SimF.e (simF_lst (sim_lnil))))) (sim_lcons (sim_var) (sim_lnil))))))))) (fun as Qd h => h.2) vs H Q E h
theorem ok_marked_else (fx : Fx fal gsl fnl K mg) (G_coming : OkF P w K mg base 1 "coming" (spA K ((wp_coming) K))) : OkF P w K mg base 2 "marked_else" (spA K ((wp_marked_else) K)) := by
  have fr_all := fx.free 65 "all"
  obtain ⟨cv_WHOLE, cu_WHOLE, cm_WHOLE, cr_WHOLE, cd_WHOLE, ct_WHOLE⟩ := (fx.con 3 "WHOLE" (.int (4))).ex
  obtain ⟨cv_READY, cu_READY, cm_READY, cr_READY, cd_READY, ct_READY⟩ := (fx.con 4 "READY" (.int (3))).ex
  obtain ⟨cv_LOOSE, cu_LOOSE, cm_LOOSE, cr_LOOSE, cd_LOOSE, ct_LOOSE⟩ := (fx.con 2 "LOOSE" (.int (2))).ex
  obtain ⟨cv_SURE, cu_SURE, cm_SURE, cr_SURE, cd_SURE, ct_SURE⟩ := (fx.con 1 "SURE" (.int (1))).ex
  refine okF_of (st := st_marked_else) (N := ["rows", "come", "whole", "row"]) (ps := ["rows"]) (fx.fd 20 "marked_else" st_marked_else) (fx.glo 20 "marked_else") sc_marked_else (fun _ _ _ _ _ _ us hl => match us, hl with | [_], _ => rfl) (spA_len fun as Qd h => h.1) (fun fd cdv A outer s H vs Q E hg hr h => ?_)
  have hu := VL.hu_of hr
  have hu1 := L2.hu_of hr
  refine ⟨_, PSs.nox (pss_cons (ps_set (i := 1) sc_marked_else.nd (by rfl) (by exact Or.inl rfl) (pe_callO G_coming hg hr (by omega) (by rfl) (pa_cons (pv 0) (pa_nil)))) (pss_cons (ps_set (i := 2) sc_marked_else.nd (by rfl) (by exact Or.inl rfl) (pe_callB (callK K (fun K => rAnyR K true) (call_allR (by rfl)) (by rfl)) (by rfl) fr_all boot_all (pa_cons (pe_lc (own := [("row", 3)]) (by rfl) sc_marked_else.nd (pi_anyK K (pv 1) (by rfl)) (blkOk_by (N := ["rows", "come", "whole", "row"]) (sc := defScope st_marked_else) (by decide +kernel)) (fun _ _ _ _ _ => pg_name (i := 3) sc_marked_else.nd (by rfl) (by first | exact Or.inl rfl | exact Or.inr rfl)) (fun _ _ _ _ _ => pts_nil) (fun _ _ _ _ _ => pe_ix (ixK K rIxAll (ix_all hu) (by rfl)) (pv 3) (pe_glob (by rfl) cm_WHOLE cr_WHOLE) (by exact fun _ _ => rfl))) (pa_nil)))) (pss_one (ps_ret (pe_tup (pa_cons (pe_andK K (pe_ix (ixK K rIxAll (ix_all hu) (by rfl)) (pe_ix (ixK K rIxAll (ix_all hu) (by rfl)) (pv 1) (pe_un un_neg (pe_int)) (by exact fun _ _ => rfl)) (pe_glob (by rfl) cm_SURE cr_SURE) (by exact fun _ _ => rfl)) (pe_one (pv 2)) (by rfl)) (pa_cons (pe_callB (callK K (fun K => rAnyR K true) (call_allR (by rfl)) (by rfl)) (by rfl) fr_all boot_all (pa_cons (pe_lc (own := [("row", 3)]) (by rfl) sc_marked_else.nd (pi_anyK K (pv 1) (by rfl)) (blkOk_by (N := ["rows", "come", "whole", "row"]) (sc := defScope st_marked_else) (by decide +kernel)) (fun _ _ _ _ _ => pg_name (i := 3) sc_marked_else.nd (by rfl) (by first | exact Or.inl rfl | exact Or.inr rfl)) (fun _ _ _ _ _ => pts_nil) (fun _ _ _ _ _ => pe_ix (ixK K rIxAll (ix_all hu) (by rfl)) (pv 3) (pe_glob (by rfl) cm_LOOSE cr_LOOSE) (by exact fun _ _ => rfl))) (pa_nil))) (pa_cons (pe_callB (callK K (fun K => rAnyR K true) (call_allR (by rfl)) (by rfl)) (by rfl) fr_all boot_all (pa_cons (pe_lc (own := [("row", 3)]) (by rfl) sc_marked_else.nd (pi_anyK K (pv 0) (by rfl)) (blkOk_by (N := ["rows", "come", "whole", "row"]) (sc := defScope st_marked_else) (by decide +kernel)) (fun _ _ _ _ _ => pg_name (i := 3) sc_marked_else.nd (by rfl) (by first | exact Or.inl rfl | exact Or.inr rfl)) (fun _ _ _ _ _ => pts_nil) (fun _ _ _ _ _ => pe_ix (ixK K rIxAll (ix_all hu) (by rfl)) (pv 3) (pe_glob (by rfl) cm_READY cr_READY) (by exact fun _ _ => rfl))) (pa_nil))) (pa_cons (pv 2) (pa_nil)))))))))), ?_⟩
  exact spA_of (fun o => sims_seq (sims_set (sim_callA (sim_acons (sim_var) (sim_anil)))) (sims_seq (sims_set (sim_b sb_any (sim_pcons (SimE.p (SimF.e (simF_lc (simIP_any (SimE.p (sim_var))) (simg_name (i := 3)) (sim_yes) (sim_op so_ix (SimE.p (sim_var)) (SimE.p ((sim_c cd_WHOLE)))) (by decide)))) (sim_pnil)))) (sims_ret (sim_tup (sim_lcons (sim_andT (sim_op so_ix (SimE.p (sim_op so_ix (SimE.p (sim_var)) (SimE.p (sim_un su_neg (SimE.p (sim_int)))))) (SimE.p ((sim_c cd_SURE)))) (sim_var)) (sim_lcons (sim_b sb_any (sim_pcons (SimE.p (SimF.e (simF_lc (simIP_any (SimE.p (sim_var))) (simg_name (i := 3)) (sim_yes) (sim_op so_ix (SimE.p (sim_var)) (SimE.p ((sim_c cd_LOOSE)))) (by decide)))) (sim_pnil))) (sim_lcons (sim_b sb_any (sim_pcons (SimE.p (SimF.e (simF_lc (simIP_any (SimE.p (sim_var))) (simg_name (i := 3)) (sim_yes) (sim_op so_ix (SimE.p (sim_var)) (SimE.p ((sim_c cd_READY)))) (by decide)))) (sim_pnil))) (sim_lcons (sim_var) (sim_lnil))))))))) (fun as Qd h => h.2) vs H Q E h
theorem okS_rows_of (n : Nat) (fx : Fx fal gsl fnl K mg) (G_shared : OkF P w K mg base 28 "shared" (spA K ((wp_shared) K))) (G_force_in : OkF P w K mg base 53 "force_in" (spA K ((wp_force_in) K))) (G_marked : OkF P w K mg base (77 + n) "marked" (spA K (wpR_rows_of K n 1))) : OkF P w K mg base (77 + n + 1) "rows_of" (spA K (wpR_rows_of K (n + 1) 0)) := by
  refine okF_of (st := st_rows_of) (N := ["part", "words", "pins", "rows", "member", "some"]) (ps := ["part", "words", "pins"]) (fx.fd 21 "rows_of" st_rows_of) (fx.glo 21 "rows_of") sc_rows_of (fun _ _ _ _ _ _ us hl => match us, hl with | [_, _, _], _ => rfl) (spA_len fun as Qd h => h.1) (fun fd cdv A outer s H vs Q E hg hr h => ?_)
  have hu := VL.hu_of hr
  have hu1 := L2.hu_of hr
  refine ⟨_, PSs.nox (pss_cons (ps_setLc (i := 3) (own := [("member", 4), ("some", 5)]) (by rfl) sc_rows_of.nd (by rfl) (by rfl) (sw_true (by rfl) (by rfl) (by rfl) (by decide +kernel)) (pi_anyK K (pe_callO G_shared hg hr (by omega) (by rfl) (pa_cons (pv 0) (pa_cons (pv 1) (pa_nil)))) (by rfl)) (blkOk_by (N := ["part", "words", "pins", "rows", "member", "some"]) (sc := defScope st_rows_of) (by decide +kernel)) (fun _ _ _ _ _ => pg_tupK K (n := 2) (by rfl) (pgs_cons (pg_name (i := 4) sc_rows_of.nd (by rfl) (by first | exact Or.inl rfl | exact Or.inr rfl)) (pgs_cons (pg_name (i := 5) sc_rows_of.nd (by rfl) (by first | exact Or.inl rfl | exact Or.inr rfl)) (pgs_nil))) (by rfl)) (fun _ _ _ _ _ => pts_nil) (fun _ _ _ _ _ => pe_callO G_marked hg hr (by omega) (by rfl) (pa_cons (pv 4) (pa_cons (pv 5) (pa_cons (pv 2) (pa_nil)))))) (pss_one (ps_ret (pe_ifExp (pt_cmpR (opK K rEqR (op_eqR hu) (by rfl)) (pe_ix (ixK K rIxAll (ix_all hu) (by rfl)) (pv 0) (pe_int) (by exact fun _ _ => rfl)) (pe_str) (nomark _)) (pe_slice (slK K rSlAll sl_all (by rfl)) (pv 3) (po_some (pe_callO G_force_in hg hr (by omega) (by rfl) (pa_cons (pv 0) (pa_cons (pv 1) (pa_nil))))) po_none) (pv 3))))), ?_⟩
  exact spA_of (fun o => sims_seq (sims_set (SimF.e (simF_lc (simIP_any (SimE.p (sim_callA (sim_acons (sim_var) (sim_acons (sim_var) (sim_anil)))))) (simg_tup (n := 2) (simgs_cons (simg_name (i := 4)) (simgs_cons (simg_name (i := 5)) (simgs_nil)))) (sim_yes) (sim_callA (sim_acons (sim_var) (sim_acons (sim_var) (sim_acons (sim_var) (sim_anil))))) (by decide)))) (sims_ret (sim_ifE (sim_tst (SimE.p (sim_op so_eq (SimE.p (sim_op so_ix (SimE.p (sim_var)) (SimE.p (sim_int)))) (SimE.p ((sim_str (by decide +kernel))))))) (sim_sl ss_cut (SimE.p (sim_var)) (sim_oyes (SimE.p (sim_callA (sim_acons (sim_var) (sim_acons (sim_var) (sim_anil)))))) sim_ono) (sim_var)))) (fun as Qd h => h.2) vs H Q E h
theorem okS_marked (n : Nat) (fx : Fx fal gsl fnl K mg) (G_is_good_in : OkF P w K mg base 28 "is_good_in" (spA K ((wp_is_good_in) K))) (G_is_dead : OkF P w K mg base 77 "is_dead" (spA K ((fun K => wpR_is_dead K 24 0) K))) (G_marked_deed : OkF P w K mg base 2 "marked_deed" (spA K ((wp_marked_deed) K))) (G_marked_row : OkF P w K mg base 2 "marked_row" (spA K ((wp_marked_row) K))) (G_marked_side : OkF P w K mg base 1 "marked_side" (spA K ((wp_marked_side) K))) (G_marked_else : OkF P w K mg base 2 "marked_else" (spA K ((wp_marked_else) K))) (G_rows_of : OkF P w K mg base (77 + n) "rows_of" (spA K (wpR_rows_of K n 0))) : OkF P w K mg base (77 + n + 1) "marked" (spA K (wpR_rows_of K (n + 1) 1)) := by
  have gm_marked_else := fx.glo 20 "marked_else"
  have gm_marked_side := fx.glo 19 "marked_side"
  have gm_marked_row := fx.glo 18 "marked_row"
  refine okF_of (st := st_marked) (N := ["part", "words", "pins", "good", "sure", "loose", "ready", "whole", "told"]) (ps := ["part", "words", "pins"]) (fx.fd 22 "marked" st_marked) (fx.glo 22 "marked") sc_marked (fun _ _ _ _ _ _ us hl => match us, hl with | [_, _, _], _ => rfl) (spA_len fun as Qd h => h.1) (fun fd cdv A outer s H vs Q E hg hr h => ?_)
  have hu := VL.hu_of hr
  have hu1 := L2.hu_of hr
  refine ⟨_, PSs.nox (pss_cons (ps_set (i := 3) sc_marked.nd (by rfl) (by exact Or.inl rfl) (pe_callO G_is_good_in hg hr (by omega) (by rfl) (pa_cons (pv 0) (pa_cons (pv 1) (pa_cons (pv 2) (pa_nil)))))) (pss_cons (ps_if (pt_truK K (pe_callO G_is_dead hg hr (by omega) (by rfl) (pa_cons (pv 0) (pa_cons (pv 1) (pa_nil)))) (by exact fun _ => rfl) (by rfl)) (pss_one (ps_ret (pe_ifExp (pt_truK K (pv 3) (by exact fun _ => rfl) (by rfl)) (pe_tup (pa_cons (pe_bl) (pa_cons (pe_bl) (pa_cons (pe_bl) (pa_cons (pe_bl) (pa_cons (pe_bl) (pa_nil))))))) (pe_tup (pa_cons (pe_bl) (pa_cons (pe_bl) (pa_cons (pe_bl) (pa_cons (pe_bl) (pa_cons (pe_bl) (pa_nil)))))))))) (pss_nil)) (pss_cons (ps_if (pt_cmpR (opK K rEqR (op_eqR hu) (by rfl)) (pe_ix (ixK K rIxAll (ix_all hu) (by rfl)) (pv 0) (pe_int) (by exact fun _ _ => rfl)) (pe_str) (nomark _)) (pss_one (ps_asg (pe_callO G_marked_deed hg hr (by omega) (by rfl) (pa_cons (pe_ix (ixK K rIxAll (ix_all hu) (by rfl)) (pv 0) (pe_int) (by exact fun _ _ => rfl)) (pa_cons (pe_ix (ixK K rIxAll (ix_all hu) (by rfl)) (pv 1) (pe_int) (by exact fun _ _ => rfl)) (pa_nil)))) (pg_tupK K (n := 4) (by rfl) (pgs_cons (pg_name (i := 4) sc_marked.nd (by rfl) (by first | exact Or.inl rfl | exact Or.inr rfl)) (pgs_cons (pg_name (i := 5) sc_marked.nd (by rfl) (by first | exact Or.inl rfl | exact Or.inr rfl)) (pgs_cons (pg_name (i := 6) sc_marked.nd (by rfl) (by first | exact Or.inl rfl | exact Or.inr rfl)) (pgs_cons (pg_name (i := 7) sc_marked.nd (by rfl) (by first | exact Or.inl rfl | exact Or.inr rfl)) (pgs_nil))))) (by rfl)))) (pss_cons (ps_set (i := 8) sc_marked.nd (by rfl) (by exact Or.inl rfl) (pe_ix (ix_dict hu) (pe_disp (pps_cons pe_str (pe_glob (v := V.ref (He.ga K "marked_row")) (by rfl) gm_marked_row (by rfl)) (pps_cons pe_str (pe_glob (v := V.ref (He.ga K "marked_side")) (by rfl) gm_marked_side (by rfl)) (pps_cons pe_str (pe_glob (v := V.ref (He.ga K "marked_else")) (by rfl) gm_marked_else (by rfl)) (pps_nil)))) (by rfl) (by rfl) (by simp) (by decide)) (pe_ix (ixK K rIxAll (ix_all hu) (by rfl)) (pv 0) (pe_int) (by exact fun _ _ => rfl)) (by exact fun _ _ => rfl))) (pss_one (ps_asg (pe_callXO (S := tabS K [("marked_row", ((wp_marked_row) K)), ("marked_side", ((wp_marked_side) K)), ("marked_else", ((wp_marked_else) K))]) (tab_held (W := [("marked_row", ((wp_marked_row) K)), ("marked_side", ((wp_marked_side) K)), ("marked_else", ((wp_marked_else) K))]) (by intro p hp; simp only [List.mem_cons, List.not_mem_nil, or_false] at hp; rcases hp with rfl | rfl | rfl <;> first | exact G_marked_row.mono (by omega) | exact G_marked_side.mono (by omega) | exact G_marked_else.mono (by omega))) hg hr (pv 8) (pa_cons (pe_callO G_rows_of hg hr (by omega) (by rfl) (pa_cons (pv 0) (pa_cons (pv 1) (pa_cons (pv 2) (pa_nil))))) (pa_nil))) (pg_tupK K (n := 4) (by rfl) (pgs_cons (pg_name (i := 4) sc_marked.nd (by rfl) (by first | exact Or.inl rfl | exact Or.inr rfl)) (pgs_cons (pg_name (i := 5) sc_marked.nd (by rfl) (by first | exact Or.inl rfl | exact Or.inr rfl)) (pgs_cons (pg_name (i := 6) sc_marked.nd (by rfl) (by first | exact Or.inl rfl | exact Or.inr rfl)) (pgs_cons (pg_name (i := 7) sc_marked.nd (by rfl) (by first | exact Or.inl rfl | exact Or.inr rfl)) (pgs_nil))))) (by rfl)))))) (pss_one (ps_ret (pe_ifExp (pt_truK K (pv 3) (by exact fun _ => rfl) (by rfl)) (pe_tup (pa_cons (pe_bl) (pa_cons (pv 4) (pa_cons (pe_bl) (pa_cons (pv 4) (pa_cons (pv 4) (pa_nil))))))) (pe_tup (pa_cons (pe_bl) (pa_cons (pv 4) (pa_cons (pv 5) (pa_cons (pe_orK K (pv 4) (pe_one (pv 6)) (by rfl)) (pa_cons (pv 7) (pa_nil))))))))))))), ?_⟩
  exact spA_of (fun o => sims_seq (sims_set (sim_callA (sim_acons (sim_var) (sim_acons (sim_var) (sim_acons (sim_var) (sim_anil)))))) (sims_seq (sims_if (sim_truK (SimE.p (sim_callA (sim_acons (sim_var) (sim_acons (sim_var) (sim_anil)))))) (sims_ret (sim_ifE (sim_truK (SimE.p (sim_var))) (sim_tup (sim_lcons (sim_bl) (sim_lcons (sim_bl) (sim_lcons (sim_bl) (sim_lcons (sim_bl) (sim_lcons (sim_bl) (sim_lnil))))))) (sim_tup (sim_lcons (sim_bl) (sim_lcons (sim_bl) (sim_lcons (sim_bl) (sim_lcons (sim_bl) (sim_lcons (sim_bl) (sim_lnil))))))))) (sims_next)) (sims_seq (sims_if (sim_tst (SimE.p (sim_op so_eq (SimE.p (sim_op so_ix (SimE.p (sim_var)) (SimE.p (sim_int)))) (SimE.p ((sim_str (by decide +kernel))))))) (sims_asg (sim_callA (sim_acons (sim_op so_ix (SimE.p (sim_var)) (SimE.p (sim_int))) (sim_acons (sim_op so_ix (SimE.p (sim_var)) (SimE.p (sim_int))) (sim_anil)))) (simg_tup (n := 4) (simgs_cons (simg_name (i := 4)) (simgs_cons (simg_name (i := 5)) (simgs_cons (simg_name (i := 6)) (simgs_cons (simg_name (i := 7)) (simgs_nil))))))) (sims_seq (sims_setV (simv_sel (kvs := [("row", V.ref (He.ga K "marked_row")), ("side", V.ref (He.ga K "marked_side")), ("else", V.ref (He.ga K "marked_else"))]) (ks := ["row", "side", "else"]) rfl rfl (by decide +kernel) (by decide) (SimE.p (sim_op so_ix (SimE.p (sim_var)) (SimE.p (sim_int)))))) (sims_asg (sim_callX (W := tabW K [("marked_row", ((wp_marked_row) K)), ("marked_side", ((wp_marked_side) K)), ("marked_else", ((wp_marked_else) K))]) tab_ok (simv_var) (sim_acons (sim_callA (sim_acons (sim_var) (sim_acons (sim_var) (sim_acons (sim_var) (sim_anil))))) (sim_anil))) (simg_tup (n := 4) (simgs_cons (simg_name (i := 4)) (simgs_cons (simg_name (i := 5)) (simgs_cons (simg_name (i := 6)) (simgs_cons (simg_name (i := 7)) (simgs_nil))))))))) (sims_ret (sim_ifE (sim_truK (SimE.p (sim_var))) (sim_tup (sim_lcons (sim_bl) (sim_lcons (sim_var) (sim_lcons (sim_bl) (sim_lcons (sim_var) (sim_lcons (sim_var) (sim_lnil))))))) (sim_tup (sim_lcons (sim_bl) (sim_lcons (sim_var) (sim_lcons (sim_var) (sim_lcons (sim_orT (sim_var) (sim_var)) (sim_lcons (sim_var) (sim_lnil)))))))))))) (fun as Qd h => h.2) vs H Q E h
theorem okT_21 (fx : Fx fal gsl fnl K mg) (G_shared : OkF P w K mg base 28 "shared" (spA K ((wp_shared) K))) (G_force_in : OkF P w K mg base 53 "force_in" (spA K ((wp_force_in) K))) (G_is_good_in : OkF P w K mg base 28 "is_good_in" (spA K ((wp_is_good_in) K))) (G_is_dead : OkF P w K mg base 77 "is_dead" (spA K ((fun K => wpR_is_dead K 24 0) K))) (G_marked_deed : OkF P w K mg base 2 "marked_deed" (spA K ((wp_marked_deed) K))) (G_marked_row : OkF P w K mg base 2 "marked_row" (spA K ((wp_marked_row) K))) (G_marked_side : OkF P w K mg base 1 "marked_side" (spA K ((wp_marked_side) K))) (G_marked_else : OkF P w K mg base 2 "marked_else" (spA K ((wp_marked_else) K))) : ∀ n : Nat, OkF P w K mg base (77 + n) "rows_of" (spA K (wpR_rows_of K n 0)) ∧ OkF P w K mg base (77 + n) "marked" (spA K (wpR_rows_of K n 1))
  | 0 => ⟨okF_never (st := st_rows_of) (ps := ["part", "words", "pins"]) (fx.fd 21 "rows_of" st_rows_of) (fx.glo 21 "rows_of") (fun _ _ _ _ _ _ us hl => match us, hl with | [_, _, _], _ => rfl) (spA_never fun _ _ h => h), okF_never (st := st_marked) (ps := ["part", "words", "pins"]) (fx.fd 22 "marked" st_marked) (fx.glo 22 "marked") (fun _ _ _ _ _ _ us hl => match us, hl with | [_, _, _], _ => rfl) (spA_never fun _ _ h => h)⟩
  | n + 1 => by
    obtain ⟨h_rows_of, h_marked⟩ := okT_21 fx G_shared G_force_in G_is_good_in G_is_dead G_marked_deed G_marked_row G_marked_side G_marked_else n
    exact ⟨okS_rows_of n fx G_shared G_force_in h_marked, okS_marked n fx G_is_good_in G_is_dead G_marked_deed G_marked_row G_marked_side G_marked_else h_rows_of⟩
theorem ok_marked_at (fx : Fx fal gsl fnl K mg) (G_found_at : OkF P w K mg base 29 "found_at" (spA K ((wp_found_at) K))) (G_marked : OkF P w K mg base 101 "marked" (spA K ((fun K => wpR_rows_of K 24 1) K))) : OkF P w K mg base 102 "marked_at" (spA K ((wp_marked_at) K)) := by
  refine okF_of (st := st_marked_at) (N := ["plan", "standing", "pins", "place", "part", "words", "first"]) (ps := ["plan", "standing", "pins", "place"]) (fx.fd 23 "marked_at" st_marked_at) (fx.glo 23 "marked_at") sc_marked_at (fun _ _ _ _ _ _ us hl => match us, hl with | [_, _, _, _], _ => rfl) (spA_len fun as Qd h => h.1) (fun fd cdv A outer s H vs Q E hg hr h => ?_)
  have hu := VL.hu_of hr
  have hu1 := L2.hu_of hr
  refine ⟨_, PSs.nox (pss_cons (ps_asg (pe_callO G_found_at hg hr (by omega) (by rfl) (pa_cons (pv 0) (pa_cons (pv 1) (pa_cons (pv 3) (pa_nil))))) (pg_tupK K (n := 3) (by rfl) (pgs_cons (pg_name (i := 4) sc_marked_at.nd (by rfl) (by first | exact Or.inl rfl | exact Or.inr rfl)) (pgs_cons (pg_name (i := 5) sc_marked_at.nd (by rfl) (by first | exact Or.inl rfl | exact Or.inr rfl)) (pgs_cons (pg_name (i := 6) sc_marked_at.nd (by rfl) (by first | exact Or.inl rfl | exact Or.inr rfl)) (pgs_nil)))) (by rfl))) (pss_one (ps_ret (pe_callO G_marked hg hr (by omega) (by rfl) (pa_cons (pv 4) (pa_cons (pv 5) (pa_cons (pv 2) (pa_nil)))))))), ?_⟩
  exact spA_of (fun o => sims_seq (sims_asg (sim_callA (sim_acons (sim_var) (sim_acons (sim_var) (sim_acons (sim_var) (sim_anil))))) (simg_tup (n := 3) (simgs_cons (simg_name (i := 4)) (simgs_cons (simg_name (i := 5)) (simgs_cons (simg_name (i := 6)) (simgs_nil)))))) (sims_ret (sim_callA (sim_acons (sim_var) (sim_acons (sim_var) (sim_acons (sim_var) (sim_anil))))))) (fun as Qd h => h.2) vs H Q E h
theorem ok_is_good (fx : Fx fal gsl fnl K mg) (G_marked_at : OkF P w K mg base 102 "marked_at" (spA K ((wp_marked_at) K))) : OkF P w K mg base 103 "is_good" (spA K ((wp_is_good) K)) := by
  refine okF_of (st := st_is_good) (N := ["plan", "standing", "pins", "place"]) (ps := ["plan", "standing", "pins", "place"]) (fx.fd 24 "is_good" st_is_good) (fx.glo 24 "is_good") sc_is_good (fun _ _ _ _ _ _ us hl => match us, hl with | [_, _, _, _], _ => rfl) (spA_len fun as Qd h => h.1) (fun fd cdv A outer s H vs Q E hg hr h => ?_)
  have hu := VL.hu_of hr
  have hu1 := L2.hu_of hr
  refine ⟨_, PSs.nox (pss_one (ps_ret (pe_ix (ixK K rIxAll (ix_all hu) (by rfl)) (pe_callO G_marked_at hg hr (by omega) (by rfl) (pa_cons (pv 0) (pa_cons (pv 1) (pa_cons (pv 2) (pa_cons (pv 3) (pa_nil)))))) (pe_int) (by exact fun _ _ => rfl)))), ?_⟩
  exact spA_of (fun o => sims_ret (sim_op so_ix (SimE.p (sim_callA (sim_acons (sim_var) (sim_acons (sim_var) (sim_acons (sim_var) (sim_acons (sim_var) (sim_anil))))))) (SimE.p (sim_int)))) (fun as Qd h => h.2) vs H Q E h
theorem ok_has_mark (fx : Fx fal gsl fnl K mg) (G_marked_at : OkF P w K mg base 102 "marked_at" (spA K ((wp_marked_at) K))) : OkF P w K mg base 103 "has_mark" (spA K ((wp_has_mark) K)) := by
  obtain ⟨cv_MARKS, cu_MARKS, cm_MARKS, cr_MARKS, cd_MARKS, ct_MARKS⟩ := (fx.con 5 "MARKS" (.tuple [.str "good", .str "sure", .str "loose", .str "ready", .str "whole"])).ex
  refine okF_of (st := st_has_mark) (N := ["plan", "standing", "pins", "place", "mark"]) (ps := ["plan", "standing", "pins", "place", "mark"]) (fx.fd 25 "has_mark" st_has_mark) (fx.glo 25 "has_mark") sc_has_mark (fun _ _ _ _ _ _ us hl => match us, hl with | [_, _, _, _, _], _ => rfl) (spA_len fun as Qd h => h.1) (fun fd cdv A outer s H vs Q E hg hr h => ?_)
  have hu := VL.hu_of hr
  have hu1 := L2.hu_of hr
  refine ⟨_, PSs.nox (pss_one (ps_ret (pe_ix (ixK K rIxAll (ix_all hu) (by rfl)) (pe_callO G_marked_at hg hr (by omega) (by rfl) (pa_cons (pv 0) (pa_cons (pv 1) (pa_cons (pv 2) (pa_cons (pv 3) (pa_nil)))))) (peBM K (pe_bm PySem.F.plainAttrs_tuple PySem.F.slot_tuple_index PySem.F.type_tuple_index (mtK K rIdxT (mt_idxT hu) (by rfl)) (pe_glob (by rfl) cm_MARKS cr_MARKS) (pa_cons (pv 4) (pa_nil))) (by rfl)) (by exact fun _ _ => rfl)))), ?_⟩
  exact spA_of (fun o => sims_ret (sim_op so_ix (SimE.p (sim_callA (sim_acons (sim_var) (sim_acons (sim_var) (sim_acons (sim_var) (sim_acons (sim_var) (sim_anil))))))) (SimE.p (sim_mc sm_idxT (ct_MARKS _ (by rfl)) cd_MARKS (sim_pcons (SimE.p (sim_var)) (sim_pnil)))))) (fun as Qd h => h.2) vs H Q E h
theorem ok_comes_to (fx : Fx fal gsl fnl K mg) (G_found_at : OkF P w K mg base 29 "found_at" (spA K ((wp_found_at) K))) (G_force_in : OkF P w K mg base 53 "force_in" (spA K ((wp_force_in) K))) (G_coming : OkF P w K mg base 1 "coming" (spA K ((wp_coming) K))) (G_rows_of : OkF P w K mg base 101 "rows_of" (spA K ((fun K => wpR_rows_of K 24 0) K))) : OkF P w K mg base 102 "comes_to" (spA K ((wp_comes_to) K)) := by
  have fr_len := fx.free 61 "len"
  have fr_range := fx.free 67 "range"
  have fr_tuple := fx.free 66 "tuple"
  refine okF_of (st := st_comes_to) (N := ["plan", "standing", "pins", "place", "part", "words", "first", "force"]) (ps := ["plan", "standing", "pins", "place"]) (fx.fd 26 "comes_to" st_comes_to) (fx.glo 26 "comes_to") sc_comes_to (fun _ _ _ _ _ _ us hl => match us, hl with | [_, _, _, _], _ => rfl) (spA_len fun as Qd h => h.1) (fun fd cdv A outer s H vs Q E hg hr h => ?_)
  have hu := VL.hu_of hr
  have hu1 := L2.hu_of hr
  refine ⟨_, PSs.nox (pss_cons (ps_asg (pe_callO G_found_at hg hr (by omega) (by rfl) (pa_cons (pv 0) (pa_cons (pv 1) (pa_cons (pv 3) (pa_nil))))) (pg_tupK K (n := 3) (by rfl) (pgs_cons (pg_name (i := 4) sc_comes_to.nd (by rfl) (by first | exact Or.inl rfl | exact Or.inr rfl)) (pgs_cons (pg_name (i := 5) sc_comes_to.nd (by rfl) (by first | exact Or.inl rfl | exact Or.inr rfl)) (pgs_cons (pg_name (i := 6) sc_comes_to.nd (by rfl) (by first | exact Or.inl rfl | exact Or.inr rfl)) (pgs_nil)))) (by rfl))) (pss_cons (ps_set (i := 7) sc_comes_to.nd (by rfl) (by exact Or.inl rfl) (pe_callO G_force_in hg hr (by omega) (by rfl) (pa_cons (pv 4) (pa_cons (pv 5) (pa_nil))))) (pss_one (ps_ret (pe_tupRg (by rfl) (by rfl) fr_tuple (prg_2 (by rfl) fr_range (pv 7) (pe_op (opK K rAddAll op_addAll (by rfl)) (pv 7) (pe_callB (callK K rLenAll call_lenAll (by rfl)) (by rfl) fr_len boot_len (pa_cons (pe_callO G_coming hg hr (by omega) (by rfl) (pa_cons (pe_callO G_rows_of hg hr (by omega) (by rfl) (pa_cons (pv 4) (pa_cons (pv 5) (pa_cons (pv 2) (pa_nil))))) (pa_nil))) (pa_nil)))))))))), ?_⟩
  exact spA_of (fun o => sims_seq (sims_asg (sim_callA (sim_acons (sim_var) (sim_acons (sim_var) (sim_acons (sim_var) (sim_anil))))) (simg_tup (n := 3) (simgs_cons (simg_name (i := 4)) (simgs_cons (simg_name (i := 5)) (simgs_cons (simg_name (i := 6)) (simgs_nil)))))) (sims_seq (sims_set (sim_callA (sim_acons (sim_var) (sim_acons (sim_var) (sim_anil))))) (sims_ret (sim_tupRg (sim_rg2 (SimE.p (sim_var)) (SimE.p (sim_op so_add (SimE.p (sim_var)) (SimE.p (sim_b sb_len (sim_pcons (SimE.p (sim_callA (sim_acons (sim_callA (sim_acons (sim_var) (sim_acons (sim_var) (sim_acons (sim_var) (sim_anil))))) (sim_anil)))) (sim_pnil))))))))))) (fun as Qd h => h.2) vs H Q E h
theorem ok_hinges (fx : Fx fal gsl fnl K mg) (G_found_at : OkF P w K mg base 29 "found_at" (spA K ((wp_found_at) K))) (G_hinges_of : OkF P w K mg base 1 "hinges_of" (spA K ((wp_hinges_of) K))) (G_rows_of : OkF P w K mg base 101 "rows_of" (spA K ((fun K => wpR_rows_of K 24 0) K))) : OkF P w K mg base 102 "hinges" (spA K ((wp_hinges) K)) := by
  have fr_tuple := fx.free 66 "tuple"
  obtain ⟨cv_MARKS, cu_MARKS, cm_MARKS, cr_MARKS, cd_MARKS, ct_MARKS⟩ := (fx.con 5 "MARKS" (.tuple [.str "good", .str "sure", .str "loose", .str "ready", .str "whole"])).ex
  refine okF_of (st := st_hinges) (N := ["plan", "standing", "pins", "place", "mark", "part", "words", "first"]) (ps := ["plan", "standing", "pins", "place", "mark"]) (fx.fd 27 "hinges" st_hinges) (fx.glo 27 "hinges") sc_hinges (fun _ _ _ _ _ _ us hl => match us, hl with | [_, _, _, _, _], _ => rfl) (spA_len fun as Qd h => h.1) (fun fd cdv A outer s H vs Q E hg hr h => ?_)
  have hu := VL.hu_of hr
  have hu1 := L2.hu_of hr
  refine ⟨_, PSs.nox (pss_cons (ps_asg (pe_callO G_found_at hg hr (by omega) (by rfl) (pa_cons (pv 0) (pa_cons (pv 1) (pa_cons (pv 3) (pa_nil))))) (pg_tupK K (n := 3) (by rfl) (pgs_cons (pg_name (i := 5) sc_hinges.nd (by rfl) (by first | exact Or.inl rfl | exact Or.inr rfl)) (pgs_cons (pg_name (i := 6) sc_hinges.nd (by rfl) (by first | exact Or.inl rfl | exact Or.inr rfl)) (pgs_cons (pg_name (i := 7) sc_hinges.nd (by rfl) (by first | exact Or.inl rfl | exact Or.inr rfl)) (pgs_nil)))) (by rfl))) (pss_one (ps_ret (pe_callTy (callK K rTupleOf call_tuple_of (by rfl)) (by rfl) fr_tuple boot_tuple (pa_cons (pe_callO G_hinges_of hg hr (by omega) (by rfl) (pa_cons (pe_callO G_rows_of hg hr (by omega) (by rfl) (pa_cons (pv 5) (pa_cons (pv 6) (pa_cons (pv 2) (pa_nil))))) (pa_cons (peBM K (pe_bm PySem.F.plainAttrs_tuple PySem.F.slot_tuple_index PySem.F.type_tuple_index (mtK K rIdxT (mt_idxT hu) (by rfl)) (pe_glob (by rfl) cm_MARKS cr_MARKS) (pa_cons (pv 4) (pa_nil))) (by rfl)) (pa_nil)))) (pa_nil)))))), ?_⟩
  exact spA_of (fun o => sims_seq (sims_asg (sim_callA (sim_acons (sim_var) (sim_acons (sim_var) (sim_acons (sim_var) (sim_anil))))) (simg_tup (n := 3) (simgs_cons (simg_name (i := 5)) (simgs_cons (simg_name (i := 6)) (simgs_cons (simg_name (i := 7)) (simgs_nil)))))) (sims_ret (sim_b sb_tuple (sim_pcons (SimE.p (sim_callA (sim_acons (sim_callA (sim_acons (sim_var) (sim_acons (sim_var) (sim_acons (sim_var) (sim_anil))))) (sim_acons (sim_mc sm_idxT (ct_MARKS _ (by rfl)) cd_MARKS (sim_pcons (SimE.p (sim_var)) (sim_pnil))) (sim_anil))))) (sim_pnil))))) (fun as Qd h => h.2) vs H Q E h
theorem ok_marks (fx : Fx fal gsl fnl K mg) (G_places_of : OkF P w K mg base 26 "places_of" (spA K ((wp_places_of) K))) (G_marked_at : OkF P w K mg base 102 "marked_at" (spA K ((wp_marked_at) K))) : OkF P w K mg base 103 "marks" (spA K ((wp_marks) K)) := by
  have fr_tuple := fx.free 66 "tuple"
  refine okF_of (st := st_marks) (N := ["plan", "standing", "pins", "place"]) (ps := ["plan", "standing", "pins"]) (fx.fd 28 "marks" st_marks) (fx.glo 28 "marks") sc_marks (fun _ _ _ _ _ _ us hl => match us, hl with | [_, _, _], _ => rfl) (spA_len fun as Qd h => h.1) (fun fd cdv A outer s H vs Q E hg hr h => ?_)
  have hu := VL.hu_of hr
  have hu1 := L2.hu_of hr
  refine ⟨_, PSs.nox (pss_one (ps_ret (pe_callTy (callK K rTupleOf call_tuple_of (by rfl)) (by rfl) fr_tuple boot_tuple (pa_cons (pe_lc (own := [("place", 3)]) (by rfl) sc_marks.nd (pi_anyK K (pe_callO G_places_of hg hr (by omega) (by rfl) (pa_cons (pv 0) (pa_nil))) (by rfl)) (blkOk_by (N := ["plan", "standing", "pins", "place"]) (sc := defScope st_marks) (by decide +kernel)) (fun _ _ _ _ _ => pg_name (i := 3) sc_marks.nd (by rfl) (by first | exact Or.inl rfl | exact Or.inr rfl)) (fun _ _ _ _ _ => pts_nil) (fun _ _ _ _ _ => pe_tup (pa_cons (pv 3) (pa_starK K (pe_callO G_marked_at hg hr (by omega) (by rfl) (pa_cons (pv 0) (pa_cons (pv 1) (pa_cons (pv 2) (pa_cons (pv 3) (pa_nil)))))) (pa_nil) (by rfl))))) (pa_nil))))), ?_⟩
  exact spA_of (fun o => sims_ret (sim_b sb_tuple (sim_pcons (SimE.p (SimF.e (simF_lc (simIP_any (SimE.p (sim_callA (sim_acons (sim_var) (sim_anil))))) (simg_name (i := 3)) (sim_yes) (sim_tup (sim_lcons (sim_var) (sim_lstar (sim_callA (sim_acons (sim_var) (sim_acons (sim_var) (sim_acons (sim_var) (sim_acons (sim_var) (sim_anil)))))) (sim_lnil)))) (by decide)))) (sim_pnil)))) (fun as Qd h => h.2) vs H Q E h
theorem ok_answers_to (fx : Fx fal gsl fnl K mg) (G_is_sure : OkF P w K mg base 1 "is_sure" (spA K ((wp_is_sure) K))) (G_deeds_of : OkF P w K mg base 27 "deeds_of" (spA K ((wp_deeds_of) K))) : OkF P w K mg base 28 "answers_to" (spA K ((wp_answers_to) K)) := by
  refine okF_of (st := st_answers_to) (N := ["plan", "name", "kind", "deed"]) (ps := ["plan", "name"]) (fx.fd 29 "answers_to" st_answers_to) (fx.glo 29 "answers_to") sc_answers_to (fun _ _ _ _ _ _ us hl => match us, hl with | [_, _], _ => rfl) (spA_len fun as Qd h => h.1) (fun fd cdv A outer s H vs Q E hg hr h => ?_)
  have hu := VL.hu_of hr
  have hu1 := L2.hu_of hr
  refine ⟨_, PSs.nox (pss_cons (ps_set (i := 2) sc_answers_to.nd (by rfl) (by exact Or.inl rfl) (pe_ix (ixK K rIxAll (ix_all hu) (by rfl)) (pe_lc (own := [("deed", 3)]) (by rfl) sc_answers_to.nd (pi_anyK K (pe_callO G_deeds_of hg hr (by omega) (by rfl) (pa_cons (pv 0) (pa_nil))) (by rfl)) (blkOk_by (N := ["plan", "name", "kind", "deed"]) (sc := defScope st_answers_to) (by decide +kernel)) (fun _ _ _ _ _ => pg_name (i := 3) sc_answers_to.nd (by rfl) (by first | exact Or.inl rfl | exact Or.inr rfl)) (fun _ _ _ _ _ => pts_one (pt_cmpR (opK K rEqR (op_eqR hu) (by rfl)) (pe_ix (ixK K rIxAll (ix_all hu) (by rfl)) (pv 3) (pe_int) (by exact fun _ _ => rfl)) (pv 1) (nomark _))) (fun _ _ _ _ _ => pe_ix (ixK K rIxAll (ix_all hu) (by rfl)) (pv 3) (pe_int) (by exact fun _ _ => rfl))) (pe_int) (by exact fun _ _ => rfl))) (pss_one (ps_ret (pe_ifExp (pt_truK K (pe_callO G_is_sure hg hr (by omega) (by rfl) (pa_cons (pv 2) (pa_nil))) (by exact fun _ => rfl) (by rfl)) (pe_lst (pa_cons (pe_str) (pa_nil))) (pe_lst (pa_cons (pe_str) (pa_cons (pe_str) (pa_nil)))))))), ?_⟩
  exact spA_of (fun o => sims_seq (sims_set (sim_op so_ix (SimE.p (SimF.e (simF_lc (simIP_any (SimE.p (sim_callA (sim_acons (sim_var) (sim_anil))))) (simg_name (i := 3)) (sim_tst (SimE.p (sim_op so_eq (SimE.p (sim_op so_ix (SimE.p (sim_var)) (SimE.p (sim_int)))) (SimE.p (sim_var))))) (sim_op so_ix (SimE.p (sim_var)) (SimE.p (sim_int))) (by decide)))) (SimE.p (sim_int)))) (sims_ret (sim_ifE (sim_truK (SimE.p (sim_callA (sim_acons (sim_var) (sim_anil))))) (SimF.e (simF_lst (sim_lcons ((sim_str (by decide +kernel))) (sim_lnil)))) (SimF.e (simF_lst (sim_lcons ((sim_str (by decide +kernel))) (sim_lcons ((sim_str (by decide +kernel))) (sim_lnil)))))))) (fun as Qd h => h.2) vs H Q E h
theorem ok_lost_by (fx : Fx fal gsl fnl K mg) (G_with_step : OkF P w K mg base 28 "with_step" (spA K ((wp_with_step) K))) (G_answers_to : OkF P w K mg base 28 "answers_to" (spA K ((wp_answers_to) K))) (G_has_mark : OkF P w K mg base 103 "has_mark" (spA K ((wp_has_mark) K))) : OkF P w K mg base 104 "lost_by" (spA K ((wp_lost_by) K)) := by
  have fr_tuple := fx.free 66 "tuple"
  refine okF_of (st := st_lost_by) (N := ["plan", "standing", "pins", "deed", "late", "answer", "here"]) (ps := ["plan", "standing", "pins", "deed"]) (fx.fd 30 "lost_by" st_lost_by) (fx.glo 30 "lost_by") sc_lost_by (fun _ _ _ _ _ _ us hl => match us, hl with | [_, _, _, _], _ => rfl) (spA_len fun as Qd h => h.1) (fun fd cdv A outer s H vs Q E hg hr h => ?_)
  have hu := VL.hu_of hr
  have hu1 := L2.hu_of hr
  refine ⟨_, PSs.nox (pss_cons (ps_setLc (i := 4) (own := [("answer", 5)]) (by rfl) sc_lost_by.nd (by rfl) (by rfl) (sw_true (by rfl) (by rfl) (by rfl) (by decide +kernel)) (pi_anyK K (pe_callO G_answers_to hg hr (by omega) (by rfl) (pa_cons (pv 0) (pa_cons (pv 3) (pa_nil)))) (by rfl)) (blkOk_by (N := ["plan", "standing", "pins", "deed", "late", "answer", "here"]) (sc := defScope st_lost_by) (by decide +kernel)) (fun _ _ _ _ _ => pg_name (i := 5) sc_lost_by.nd (by rfl) (by first | exact Or.inl rfl | exact Or.inr rfl)) (fun _ _ _ _ _ => pts_nil) (fun _ _ _ _ _ => pe_tup (pa_cons (pv 5) (pa_cons (pe_callO G_with_step hg hr (by omega) (by rfl) (pa_cons (pv 0) (pa_cons (pv 1) (pa_cons (pe_tup (pa_cons (pv 5) (pa_cons (pv 3) (pa_nil)))) (pa_nil))))) (pa_nil))))) (pss_one (ps_ret (pe_callTy (callK K rTupleOf call_tuple_of (by rfl)) (by rfl) fr_tuple boot_tuple (pa_cons (pe_lc (own := [("answer", 5), ("here", 6)]) (by rfl) sc_lost_by.nd (pi_anyK K (pv 4) (by rfl)) (blkOk_by (N := ["plan", "standing", "pins", "deed", "late", "answer", "here"]) (sc := defScope st_lost_by) (by decide +kernel)) (fun _ _ _ _ _ => pg_tupK K (n := 2) (by rfl) (pgs_cons (pg_name (i := 5) sc_lost_by.nd (by rfl) (by first | exact Or.inl rfl | exact Or.inr rfl)) (pgs_cons (pg_name (i := 6) sc_lost_by.nd (by rfl) (by first | exact Or.inl rfl | exact Or.inr rfl)) (pgs_nil))) (by rfl)) (fun _ _ _ _ _ => pts_one (pt_not (pt_truK K (pe_callO G_has_mark hg hr (by omega) (by rfl) (pa_cons (pv 0) (pa_cons (pv 6) (pa_cons (pv 2) (pa_cons (pe_tup (pa_nil)) (pa_cons (pe_str) (pa_nil))))))) (by exact fun _ => rfl) (by rfl)))) (fun _ _ _ _ _ => pv 5)) (pa_nil)))))), ?_⟩
  exact spA_of (fun o => sims_seq (sims_set (SimF.e (simF_lc (simIP_any (SimE.p (sim_callA (sim_acons (sim_var) (sim_acons (sim_var) (sim_anil)))))) (simg_name (i := 5)) (sim_yes) (sim_tup (sim_lcons (sim_var) (sim_lcons (sim_callA (sim_acons (sim_var) (sim_acons (sim_var) (sim_acons (sim_tup (sim_lcons (sim_var) (sim_lcons (sim_var) (sim_lnil)))) (sim_anil))))) (sim_lnil)))) (by decide)))) (sims_ret (sim_b sb_tuple (sim_pcons (SimE.p (SimF.e (simF_lc (simIP_any (SimE.p (sim_var))) (simg_tup (n := 2) (simgs_cons (simg_name (i := 5)) (simgs_cons (simg_name (i := 6)) (simgs_nil)))) (sim_not (sim_truK (SimE.p (sim_callA (sim_acons (sim_var) (sim_acons (sim_var) (sim_acons (sim_var) (sim_acons (sim_tup (sim_lnil)) (sim_acons ((sim_str (by decide +kernel))) (sim_anil)))))))))) (sim_var) (by decide)))) (sim_pnil))))) (fun as Qd h => h.2) vs H Q E h
theorem ok__law_open_cells (fx : Fx fal gsl fnl K mg)  : OkF P w K mg base 1 "_law_open_cells" (spOpen K) := by
  have fr_abs := fx.free 68 "abs"
  have fr_int := fx.free 69 "int"
  refine okF_of (st := st__law_open_cells) (N := ["script", "stirred", "cell", "cells"]) (ps := ["script"]) (fx.fd 31 "_law_open_cells" st__law_open_cells) (fx.glo 31 "_law_open_cells") sc__law_open_cells (fun _ _ _ _ _ _ us hl => match us, hl with | [_], _ => rfl) (spOpen_len) (fun fd cdv A outer s H vs Q E hg hr h => ?_)
  have hu := VL.hu_of hr
  have hu1 := L2.hu_of hr
  refine ⟨_, PSs.nox (pss_cons (ps_set (i := 1) sc__law_open_cells.nd (by rfl) (by exact Or.inl rfl) (pe_int)) (pss_cons (ps_for PassesOwn.never (by rfl) (pi_anyK K (pv 0) (by rfl)) (pg_name (i := 2) sc__law_open_cells.nd (by rfl) (by first | exact Or.inl rfl | exact Or.inr rfl)) (pss_one (ps_set (i := 1) sc__law_open_cells.nd (by rfl) (by exact Or.inl rfl) (pe_op op_mod (pe_callTy call_intAll (by rfl) fr_int boot_int (pa_cons (pe_op (opK K rAddAll op_addAll (by rfl)) (pe_op (opK K rAddAll op_addAll (by rfl)) (pe_op (opK K rMulAll op_mulAll (by rfl)) (pv 1) (pe_int)) (pe_op (opK K rMulAll op_mulAll (by rfl)) (pv 2) (pe_int))) (pe_int)) (pa_nil))) (pe_int))))) (pss_cons (ps_setLc (i := 3) (own := [("cell", 2)]) (by rfl) sc__law_open_cells.nd (by rfl) (by rfl) (sw_true (by rfl) (by rfl) (by rfl) (by decide +kernel)) (pi_anyK K (pv 0) (by rfl)) (blkOk_by (N := ["script", "stirred", "cell", "cells"]) (sc := defScope st__law_open_cells) (by decide +kernel)) (fun _ _ _ _ _ => pg_name (i := 2) sc__law_open_cells.nd (by rfl) (by first | exact Or.inl rfl | exact Or.inr rfl)) (fun _ _ _ _ _ => pts_nil) (fun _ _ _ _ _ => pe_callB call_abs (by rfl) fr_abs boot_abs (pa_cons (pv 2) (pa_nil)))) (pss_one (ps_ret (pe_disp (pps_cons (pe_str) (pe_revK K (pv 3) (by rfl)) (pps_cons (pe_str) (pe_int) (pps_cons (pe_str) (pv 1) (pps_cons (pe_str) (pe_int) (pps_nil))))) (by rfl) (by rfl) (by simp) (by decide))))))), ?_⟩
  exact open_ok vs H Q E h
theorem okW__law_pick (fx : Fx fal gsl fnl K mg)  : OkF P w K mg base 1 "_law_pick" (spA K (wp__law_pick K)) := by
  have fr_int := fx.free 69 "int"
  have fr_len := fx.free 61 "len"
  refine okF_of (st := st__law_pick) (N := ["source", "most", "cells", "others", "lap", "stirred"]) (ps := ["source", "most"]) (fx.fd 32 "_law_pick" st__law_pick) (fx.glo 32 "_law_pick") sc__law_pick (fun _ _ _ _ _ _ us hl => match us, hl with | [_, _], _ => rfl) (spA_len fun as Qd h => h.1) (fun fd cdv A outer s H vs Q E hg hr h => ?_)
  have hu := VL.hu_of hr
  have hu1 := L2.hu_of hr
  refine ⟨_, PSs.nox (pss_cons (ps_if (pt_cmpR op_lt (pv 1) (pe_int) (nomark _)) (pss_one (ps_ret (pe_int))) (pss_nil)) (pss_cons (ps_set (i := 2) sc__law_pick.nd (by rfl) (by exact Or.inl rfl) (pe_ix (ixK K rIxAll (ix_all hu) (by rfl)) (pv 0) (pe_str) (by exact fun _ _ => rfl))) (pss_cons (ps_while PassesOwn.never (PW.pt (pw_and (pt_cmpR op_lt (pe_ix (ixK K rIxAll (ix_all hu) (by rfl)) (pv 0) (pe_str) (by exact fun _ _ => rfl)) (pe_int) (nomark _)) (pw_and1 (pt_cmpR op_gt (pe_callB (callK K rLenAll call_lenAll (by rfl)) (by rfl) fr_len boot_len (pa_cons (pv 2) (pa_nil))) (pe_int) (nomark _))))) (pss_one (ps_dput hu1 (pv 0) (pe_str) (peBM0 K (pe_bm0 PySem.F.plainAttrs_list PySem.F.slot_list_pop PySem.F.type_list_pop mt_pop (pv 2)) (by rfl)) (by rfl)))) (pss_cons (ps_set (i := 3) sc__law_pick.nd (by rfl) (by exact Or.inl rfl) (pe_ix (ixK K rIxAll (ix_all hu) (by rfl)) (pv 0) (pe_str) (by exact fun _ _ => rfl))) (pss_cons (ps_if (pt_cmpR op_gt (pv 3) (pe_int) (nomark _)) (pss_cons (ps_dput hu1 (pv 0) (pe_str) (pe_op op_fdiv (pv 3) (pv 1)) (by rfl)) (pss_one (ps_ret (pe_op op_mod (pe_callTy call_intAll (by rfl) fr_int boot_int (pa_cons (pv 3) (pa_nil))) (pv 1))))) (pss_nil)) (pss_cons (ps_dput hu1 (pv 0) (pe_str) (pe_op (opK K rAddAll op_addAll (by rfl)) (pe_ix (ixK K rIxAll (ix_all hu) (by rfl)) (pv 0) (pe_str) (by exact fun _ _ => rfl)) (pe_int)) (by rfl)) (pss_cons (ps_set (i := 4) sc__law_pick.nd (by rfl) (by exact Or.inl rfl) (pe_ix (ixK K rIxAll (ix_all hu) (by rfl)) (pv 0) (pe_str) (by exact fun _ _ => rfl))) (pss_cons (ps_set (i := 5) sc__law_pick.nd (by rfl) (by exact Or.inl rfl) (pe_op op_mod (pe_callTy call_intAll (by rfl) fr_int boot_int (pa_cons (pe_op (opK K rAddAll op_addAll (by rfl)) (pe_ix (ixK K rIxAll (ix_all hu) (by rfl)) (pv 0) (pe_str) (by exact fun _ _ => rfl)) (pe_op (opK K rMulAll op_mulAll (by rfl)) (pv 4) (pe_int))) (pa_nil))) (pe_int))) (pss_cons (ps_set (i := 5) sc__law_pick.nd (by rfl) (by exact Or.inl rfl) (pe_op op_mod (pe_callTy call_intAll (by rfl) fr_int boot_int (pa_cons (pe_op (opK K rAddAll op_addAll (by rfl)) (pe_op (opK K rMulAll op_mulAll (by rfl)) (pv 5) (pv 5)) (pe_op (opK K rMulAll op_mulAll (by rfl)) (pv 4) (pe_int))) (pa_nil))) (pe_int))) (pss_one (ps_ret (pe_op op_mod (pe_callTy call_intAll (by rfl) fr_int boot_int (pa_cons (pe_op op_fdiv (pv 5) (pe_int)) (pa_nil))) (pv 1))))))))))))), ?_⟩
  exact spA_of (fun o => sims_seq (sims_if (sim_tst (SimE.p (sim_op (so_cmp (p := fun i j => decide (i < j))) (SimE.p (sim_var)) (SimE.p (sim_int))))) (sims_ret (sim_int)) (sims_next)) (sims_fill (sims_seq (sims_set (sim_srcGet .left)) (sims_seq (sims_if (sim_tst (SimE.p (sim_op (so_cmp (p := fun i j => decide (j < i))) (SimE.p (sim_var)) (SimE.p (sim_int))))) (sims_seq (sims_srcPut .left (sim_op so_fdiv (SimE.p (sim_var)) (SimE.p (sim_var)))) (sims_ret (sim_op so_mod (SimE.p (sim_b sb_int (sim_pcons (SimE.p (sim_var)) (sim_pnil)))) (SimE.p (sim_var))))) (sims_next)) (sims_seq (sims_srcPut .turn (sim_op so_add (SimE.p (sim_srcGet .turn)) (SimE.p (sim_int)))) (sims_seq (sims_set (sim_srcGet .turn)) (sims_seq (sims_set (sim_op so_mod (SimE.p (sim_b sb_int (sim_pcons (SimE.p (sim_op so_add (SimE.p (sim_srcGet .mixed)) (SimE.p (sim_op so_mul (SimE.p (sim_var)) (SimE.p (sim_int)))))) (sim_pnil)))) (SimE.p (sim_int)))) (sims_seq (sims_set (sim_op so_mod (SimE.p (sim_b sb_int (sim_pcons (SimE.p (sim_op so_add (SimE.p (sim_op so_mul (SimE.p (sim_var)) (SimE.p (sim_var)))) (SimE.p (sim_op so_mul (SimE.p (sim_var)) (SimE.p (sim_int)))))) (sim_pnil)))) (SimE.p (sim_int)))) (sims_ret (sim_op so_mod (SimE.p (sim_b sb_int (sim_pcons (SimE.p (sim_op so_fdiv (SimE.p (sim_var)) (SimE.p (sim_int)))) (sim_pnil)))) (SimE.p (sim_var)))))))))))) (fun as Qd h => h.2) vs H Q E h
theorem ok__law_pick (fx : Fx fal gsl fnl K mg)  : OkF P w K mg base 1 "_law_pick" (spA K ((wpPick) K)) := (okW__law_pick fx ).imp (spA_imp pick_wp)
theorem ok__law_any_order (fx : Fx fal gsl fnl K mg) (G__law_pick : OkF P w K mg base 1 "_law_pick" (spA K ((wpPick) K))) : OkF P w K mg base 2 "_law_any_order" (spA K ((wpAnyOrder) K)) := by
  have fr_len := fx.free 61 "len"
  have fr_list := fx.free 70 "list"
  have fr_range := fx.free 67 "range"
  refine okF_of (st := st__law_any_order) (N := ["source", "things", "others", "lap"]) (ps := ["source", "things"]) (fx.fd 33 "_law_any_order" st__law_any_order) (fx.glo 33 "_law_any_order") sc__law_any_order (fun _ _ _ _ _ _ us hl => match us, hl with | [_, _], _ => rfl) (spA_len anyO_len) (fun fd cdv A outer s H vs Q E hg hr h => ?_)
  have hu := VL.hu_of hr
  have hu1 := L2.hu_of hr
  refine ⟨_, PSs.nox (pss_cons (ps_set (i := 2) sc__law_any_order.nd (by rfl) (by exact Or.inr rfl) (pe_callTy (callK K rListOf (call_listAll (by rfl)) (by rfl)) (by rfl) fr_list boot_list (pa_cons (pv 1) (pa_nil)))) (pss_one (ps_ret (pe_lc (own := [("lap", 3)]) (by rfl) sc__law_any_order.nd (pi_range1 (by rfl) fr_range (pa_cons (pe_callB (callK K rLenAll call_lenAll (by rfl)) (by rfl) fr_len boot_len (pa_cons (pv 2) (pa_nil))) (pa_nil))) (blkOk_by (N := ["source", "things", "others", "lap"]) (sc := defScope st__law_any_order) (by decide +kernel)) (fun _ _ _ _ _ => pg_name (i := 3) sc__law_any_order.nd (by rfl) (by first | exact Or.inl rfl | exact Or.inr rfl)) (fun _ _ _ _ _ => pts_nil) (fun _ _ _ _ _ => peBM K (pe_bm PySem.F.plainAttrs_list PySem.F.slot_list_pop PySem.F.type_list_pop mt_popAt (pv 2) (pa_cons (pe_callO G__law_pick hg hr (by omega) (by rfl) (pa_cons (pv 0) (pa_cons (pe_callB (callK K rLenAll call_lenAll (by rfl)) (by rfl) fr_len boot_len (pa_cons (pv 2) (pa_nil))) (pa_nil)))) pa_nil)) (by rfl)))))), ?_⟩
  exact spA_of (fun o => sims_anyO) anyO_wp vs H Q E h
theorem okS__law_draw_plan (n : Nat) (fx : Fx fal gsl fnl K mg) (G__law_pick : OkF P w K mg base 1 "_law_pick" (spA K ((wpPick) K))) (G__law_any_order : OkF P w K mg base 2 "_law_any_order" (spA K ((wpAnyOrder) K))) (G__law_draw_plan : OkF P w K mg base (2 + n) "_law_draw_plan" (spA K (wpR__law_draw_plan K n 0))) : OkF P w K mg base (2 + n + 1) "_law_draw_plan" (spA K (wpR__law_draw_plan K (n + 1) 0)) := by
  have fr_int := fx.free 69 "int"
  have fr_len := fx.free 61 "len"
  have fr_list := fx.free 70 "list"
  have fr_range := fx.free 67 "range"
  have fr_sorted := fx.free 71 "sorted"
  have fr_tuple := fx.free 66 "tuple"
  refine okF_of (st := st__law_draw_plan) (N := ["source", "names", "deep", "kinds", "word", "many", "cuts", "ends", "members", "k"]) (ps := ["source", "names", "deep"]) (fx.fd 34 "_law_draw_plan" st__law_draw_plan) (fx.glo 34 "_law_draw_plan") sc__law_draw_plan (fun _ _ _ _ _ _ us hl => match us, hl with | [_, _, _], _ => rfl) (spA_len fun as Qd h => h.1) (fun fd cdv A outer s H vs Q E hg hr h => ?_)
  have hu := VL.hu_of hr
  have hu1 := L2.hu_of hr
  refine ⟨_, PSs.nox (pss_cons (ps_if (PW.pt (pw_and (pt_cmpR (opK K rEqR (op_eqR hu) (by rfl)) (pe_callB (callK K rLenAll call_lenAll (by rfl)) (by rfl) fr_len boot_len (pa_cons (pv 1) (pa_nil))) (pe_int) (nomark _)) (pw_and1 (PW.pt (pw_or (pt_cmpR op_gt (pv 2) (pe_int) (nomark _)) (pw_or1 (pt_cmpR op_gt (pe_callO G__law_pick hg hr (by omega) (by rfl) (pa_cons (pv 0) (pa_cons (pe_int) (pa_nil)))) (pe_int) (nomark _)))))))) (pss_cons (ps_set (i := 3) sc__law_draw_plan.nd (by rfl) (by exact Or.inl rfl) (pe_lst (pa_cons (pe_str) (pa_cons (pe_str) (pa_cons (pe_str) (pa_cons (pe_str) (pa_cons (pe_str) (pa_cons (pe_str) (pa_cons (pe_str) (pa_nil)))))))))) (pss_one (ps_ret (pe_tup (pa_cons (pe_str) (pa_cons (pe_ix (ixK K rIxAll (ix_all hu) (by rfl)) (pv 1) (pe_int) (by exact fun _ _ => rfl)) (pa_cons (pe_ix (ixK K rIxAll (ix_all hu) (by rfl)) (pv 3) (pe_callO G__law_pick hg hr (by omega) (by rfl) (pa_cons (pv 0) (pa_cons (pe_int) (pa_nil)))) (by exact fun _ _ => rfl)) (pa_nil)))))))) (pss_nil)) (pss_cons (ps_set (i := 4) sc__law_draw_plan.nd (by rfl) (by exact Or.inl rfl) (pe_ix (ixK K rIxAll (ix_all hu) (by rfl)) (pe_lst (pa_cons (pe_str) (pa_cons (pe_str) (pa_cons (pe_str) (pa_cons (pe_str) (pa_cons (pe_str) (pa_nil))))))) (pe_callO G__law_pick hg hr (by omega) (by rfl) (pa_cons (pv 0) (pa_cons (pe_int) (pa_nil)))) (by exact fun _ _ => rfl))) (pss_cons (ps_if (pt_cmpR (opK K rEqR (op_eqR hu) (by rfl)) (pe_callB (callK K rLenAll call_lenAll (by rfl)) (by rfl) fr_len boot_len (pa_cons (pv 1) (pa_nil))) (pe_int) (nomark _)) (pss_one (ps_ret (pe_tup (pa_cons (pe_ix (ixK K rIxAll (ix_all hu) (by rfl)) (pe_lst (pa_cons (pe_str) (pa_cons (pe_str) (pa_nil)))) (pe_callO G__law_pick hg hr (by omega) (by rfl) (pa_cons (pv 0) (pa_cons (pe_int) (pa_nil)))) (by exact fun _ _ => rfl)) (pa_cons (pe_tup (pa_cons (pe_callO G__law_draw_plan hg hr (by omega) (by rfl) (pa_cons (pv 0) (pa_cons (pv 1) (pa_cons (pe_op (opK K rAddAll op_addAll (by rfl)) (pv 2) (pe_int)) (pa_nil))))) (pa_nil))) (pa_nil)))))) (pss_nil)) (pss_cons (ps_set (i := 5) sc__law_draw_plan.nd (by rfl) (by exact Or.inl rfl) (pe_op (opK K rAddAll op_addAll (by rfl)) (pe_int) (pe_callTy call_intAll (by rfl) fr_int boot_int (pa_cons (pe_andK K (pe_cmpR op_gt (pe_callB (callK K rLenAll call_lenAll (by rfl)) (by rfl) fr_len boot_len (pa_cons (pv 1) (pa_nil))) (pe_int) (nomark _)) (pe_one (pe_cmpR (opK K rEqR (op_eqR hu) (by rfl)) (pe_callO G__law_pick hg hr (by omega) (by rfl) (pa_cons (pv 0) (pa_cons (pe_int) (pa_nil)))) (pe_int) (nomark _))) (by rfl)) (pa_nil))))) (pss_cons (ps_set (i := 6) sc__law_draw_plan.nd (by rfl) (by exact Or.inl rfl) (pe_callB (callK K rSortD (call_sortedR hu) (by rfl)) (by rfl) fr_sorted boot_sorted (pa_cons (pe_slice (slK K rSlAll sl_all (by rfl)) (pe_callO G__law_any_order hg hr (by omega) (by rfl) (pa_cons (pv 0) (pa_cons (pe_listRg (by rfl) (by rfl) fr_list (prg_2 (by rfl) fr_range (pe_int) (pe_callB (callK K rLenAll call_lenAll (by rfl)) (by rfl) fr_len boot_len (pa_cons (pv 1) (pa_nil))))) (pa_nil)))) po_none (po_some (pe_op op_sub (pv 5) (pe_int)))) (pa_nil)))) (pss_cons (ps_set (i := 7) sc__law_draw_plan.nd (by rfl) (by exact Or.inr rfl) (pe_op (opK K rAddAll op_addAll (by rfl)) (pe_op (opK K rAddAll op_addAll (by rfl)) (pe_lst (pa_cons (pe_int) (pa_nil))) (pv 6)) (pe_lst (pa_cons (pe_callB (callK K rLenAll call_lenAll (by rfl)) (by rfl) fr_len boot_len (pa_cons (pv 1) (pa_nil))) (pa_nil))))) (pss_cons (ps_setLc (i := 8) (own := [("k", 9)]) (by rfl) sc__law_draw_plan.nd (by rfl) (by rfl) (sw_true (by rfl) (by rfl) (by rfl) (by decide +kernel)) (pi_range1 (by rfl) fr_range (pa_cons (pv 5) (pa_nil))) (blkOk_by (N := ["source", "names", "deep", "kinds", "word", "many", "cuts", "ends", "members", "k"]) (sc := defScope st__law_draw_plan) (by decide +kernel)) (fun _ _ _ _ _ => pg_name (i := 9) sc__law_draw_plan.nd (by rfl) (by first | exact Or.inl rfl | exact Or.inr rfl)) (fun _ _ _ _ _ => pts_nil) (fun _ _ _ _ _ => pe_callO G__law_draw_plan hg hr (by omega) (by rfl) (pa_cons (pv 0) (pa_cons (pe_slice (slK K rSlAll sl_all (by rfl)) (pv 1) (po_some (pe_ix (ixK K rIxAll (ix_all hu) (by rfl)) (pv 7) (pv 9) (by exact fun _ _ => rfl))) (po_some (pe_ix (ixK K rIxAll (ix_all hu) (by rfl)) (pv 7) (pe_op (opK K rAddAll op_addAll (by rfl)) (pv 9) (pe_int)) (by exact fun _ _ => rfl)))) (pa_cons (pe_op (opK K rAddAll op_addAll (by rfl)) (pv 2) (pe_int)) (pa_nil)))))) (pss_one (ps_ret (pe_tup (pa_cons (pv 4) (pa_cons (pe_callTy (callK K rTupleOf call_tuple_of (by rfl)) (by rfl) fr_tuple boot_tuple (pa_cons (pv 8) (pa_nil))) (pa_nil))))))))))))), ?_⟩
  exact spA_of (fun o => sims_seq (sims_if (sim_and (sim_tst (SimE.p (sim_op so_eq (SimE.p (sim_b sb_len (sim_pcons (SimE.p (sim_var)) (sim_pnil)))) (SimE.p (sim_int))))) (sim_or (sim_tst (SimE.p (sim_op (so_cmp (p := fun i j => decide (j < i))) (SimE.p (sim_var)) (SimE.p (sim_int))))) (sim_tst (SimE.p (sim_op (so_cmp (p := fun i j => decide (j < i))) (SimE.p (sim_callA (sim_asrc (sim_acons (sim_int) (sim_anil))))) (SimE.p (sim_int))))))) (sims_seq (sims_set (SimF.e (simF_lst (sim_lcons ((sim_str (by decide +kernel))) (sim_lcons ((sim_str (by decide +kernel))) (sim_lcons ((sim_str (by decide +kernel))) (sim_lcons ((sim_str (by decide +kernel))) (sim_lcons ((sim_str (by decide +kernel))) (sim_lcons ((sim_str (by decide +kernel))) (sim_lcons ((sim_str (by decide +kernel))) (sim_lnil))))))))))) (sims_ret (sim_tup (sim_lcons ((sim_str (by decide +kernel))) (sim_lcons (sim_op so_ix (SimE.p (sim_var)) (SimE.p (sim_int))) (sim_lcons (sim_op so_ix (SimE.p (sim_var)) (SimE.p (sim_callA (sim_asrc (sim_acons (sim_int) (sim_anil)))))) (sim_lnil))))))) (sims_next)) (sims_seq (sims_set (sim_op so_ix (SimE.p (SimF.e (simF_lst (sim_lcons ((sim_str (by decide +kernel))) (sim_lcons ((sim_str (by decide +kernel))) (sim_lcons ((sim_str (by decide +kernel))) (sim_lcons ((sim_str (by decide +kernel))) (sim_lcons ((sim_str (by decide +kernel))) (sim_lnil))))))))) (SimE.p (sim_callA (sim_asrc (sim_acons (sim_int) (sim_anil))))))) (sims_seq (sims_if (sim_tst (SimE.p (sim_op so_eq (SimE.p (sim_b sb_len (sim_pcons (SimE.p (sim_var)) (sim_pnil)))) (SimE.p (sim_int))))) (sims_ret (sim_tup (sim_lcons (sim_op so_ix (SimE.p (SimF.e (simF_lst (sim_lcons ((sim_str (by decide +kernel))) (sim_lcons ((sim_str (by decide +kernel))) (sim_lnil)))))) (SimE.p (sim_callA (sim_asrc (sim_acons (sim_int) (sim_anil)))))) (sim_lcons (sim_tup (sim_lcons (sim_callA (sim_asrc (sim_acons (sim_var) (sim_acons (sim_op so_add (SimE.p (sim_var)) (SimE.p (sim_int))) (sim_anil))))) (sim_lnil))) (sim_lnil))))) (sims_next)) (sims_seq (sims_set (sim_op so_add (SimE.p (sim_int)) (SimE.p (sim_b sb_int (sim_pcons (SimE.p (sim_andT (sim_op (so_cmp (p := fun i j => decide (j < i))) (SimE.p (sim_b sb_len (sim_pcons (SimE.p (sim_var)) (sim_pnil)))) (SimE.p (sim_int))) (sim_op so_eq (SimE.p (sim_callA (sim_asrc (sim_acons (sim_int) (sim_anil))))) (SimE.p (sim_int))))) (sim_pnil)))))) (sims_seq (sims_set (SimF.e (simF_b sbF_sorted (sim_pcons (SimE.p (sim_sl ss_cut (SimE.p (sim_callA (sim_asrc (sim_acons (SimF.e (simF_listRg (sim_rg2 (SimE.p (sim_int)) (SimE.p (sim_b sb_len (sim_pcons (SimE.p (sim_var)) (sim_pnil))))))) (sim_anil))))) sim_ono (sim_oyes (SimE.p (sim_op so_sub (SimE.p (sim_var)) (SimE.p (sim_int))))))) (sim_pnil))))) (sims_seq (sims_set (sim_op so_add (SimE.p (sim_op so_add (SimE.p (SimF.e (simF_lst (sim_lcons (sim_int) (sim_lnil))))) (SimE.p (sim_var)))) (SimE.p (SimF.e (simF_lst (sim_lcons (sim_b sb_len (sim_pcons (SimE.p (sim_var)) (sim_pnil))) (sim_lnil))))))) (sims_seq (sims_set (SimF.e (simF_lc (SimI.p (simI_rng1 (sim_pcons (SimE.p (sim_var)) (sim_pnil)))) (simg_name (i := 9)) (sim_yes) (sim_callA (sim_asrc (sim_acons (sim_sl ss_cut (SimE.p (sim_var)) (sim_oyes (SimE.p (sim_op so_ix (SimE.p (sim_var)) (SimE.p (sim_var))))) (sim_oyes (SimE.p (sim_op so_ix (SimE.p (sim_var)) (SimE.p (sim_op so_add (SimE.p (sim_var)) (SimE.p (sim_int)))))))) (sim_acons (sim_op so_add (SimE.p (sim_var)) (SimE.p (sim_int))) (sim_anil))))) (by decide)))) (sims_ret (sim_tup (sim_lcons (sim_var) (sim_lcons (sim_b sb_tuple (sim_pcons (SimE.p (sim_var)) (sim_pnil))) (sim_lnil)))))))))))) (fun as Qd h => h.2) vs H Q E h
theorem okT_33 (fx : Fx fal gsl fnl K mg) (G__law_pick : OkF P w K mg base 1 "_law_pick" (spA K ((wpPick) K))) (G__law_any_order : OkF P w K mg base 2 "_law_any_order" (spA K ((wpAnyOrder) K))) : ∀ n : Nat, OkF P w K mg base (2 + n) "_law_draw_plan" (spA K (wpR__law_draw_plan K n 0))
  | 0 => okF_never (st := st__law_draw_plan) (ps := ["source", "names", "deep"]) (fx.fd 34 "_law_draw_plan" st__law_draw_plan) (fx.glo 34 "_law_draw_plan") (fun _ _ _ _ _ _ us hl => match us, hl with | [_, _, _], _ => rfl) (spA_never fun _ _ h => h)
  | n + 1 => by
    have ih := okT_33 fx G__law_pick G__law_any_order n
    exact okS__law_draw_plan n fx G__law_pick G__law_any_order ih
theorem ok__law_draw_whole_plan (fx : Fx fal gsl fnl K mg) (G__law_draw_plan : OkF P w K mg base 26 "_law_draw_plan" (spA K ((fun K => wpR__law_draw_plan K 24 0) K))) (G__law_pick : OkF P w K mg base 1 "_law_pick" (spA K ((wpPick) K))) (G__law_any_order : OkF P w K mg base 2 "_law_any_order" (spA K ((wpAnyOrder) K))) : OkF P w K mg base 27 "_law_draw_whole_plan" (spA K ((wp__law_draw_whole_plan) K)) := by
  refine okF_of (st := st__law_draw_whole_plan) (N := ["source", "most", "n", "names"]) (ps := ["source", "most"]) (fx.fd 35 "_law_draw_whole_plan" st__law_draw_whole_plan) (fx.glo 35 "_law_draw_whole_plan") sc__law_draw_whole_plan (fun _ _ _ _ _ _ us hl => match us, hl with | [_, _], _ => rfl) (spA_len fun as Qd h => h.1) (fun fd cdv A outer s H vs Q E hg hr h => ?_)
  have hu := VL.hu_of hr
  have hu1 := L2.hu_of hr
  refine ⟨_, PSs.nox (pss_cons (ps_set (i := 2) sc__law_draw_whole_plan.nd (by rfl) (by exact Or.inl rfl) (pe_op (opK K rAddAll op_addAll (by rfl)) (pe_int) (pe_callO G__law_pick hg hr (by omega) (by rfl) (pa_cons (pv 0) (pa_cons (pv 1) (pa_nil)))))) (pss_cons (ps_set (i := 3) sc__law_draw_whole_plan.nd (by rfl) (by exact Or.inl rfl) (pe_slice (slK K rSlAll sl_all (by rfl)) (pe_callO G__law_any_order hg hr (by omega) (by rfl) (pa_cons (pv 0) (pa_cons (pe_lst (pa_cons (pe_str) (pa_cons (pe_str) (pa_cons (pe_str) (pa_cons (pe_str) (pa_cons (pe_str) (pa_cons (pe_str) (pa_cons (pe_str) (pa_cons (pe_str) (pa_cons (pe_str) (pa_cons (pe_str) (pa_cons (pe_str) (pa_cons (pe_str) (pa_nil)))))))))))))) (pa_nil)))) po_none (po_some (pv 2)))) (pss_one (ps_ret (pe_callO G__law_draw_plan hg hr (by omega) (by rfl) (pa_cons (pv 0) (pa_cons (pv 3) (pa_cons (pe_int) (pa_nil))))))))), ?_⟩
  exact spA_of (fun o => sims_seq (sims_set (sim_op so_add (SimE.p (sim_int)) (SimE.p (sim_callA (sim_asrc (sim_acons (sim_var) (sim_anil))))))) (sims_seq (sims_set (sim_sl ss_cut (SimE.p (sim_callA (sim_asrc (sim_acons (SimF.e (simF_lst (sim_lcons ((sim_str (by decide +kernel))) (sim_lcons ((sim_str (by decide +kernel))) (sim_lcons ((sim_str (by decide +kernel))) (sim_lcons ((sim_str (by decide +kernel))) (sim_lcons ((sim_str (by decide +kernel))) (sim_lcons ((sim_str (by decide +kernel))) (sim_lcons ((sim_str (by decide +kernel))) (sim_lcons ((sim_str (by decide +kernel))) (sim_lcons ((sim_str (by decide +kernel))) (sim_lcons ((sim_str (by decide +kernel))) (sim_lcons ((sim_str (by decide +kernel))) (sim_lcons ((sim_str (by decide +kernel))) (sim_lnil))))))))))))))) (sim_anil))))) sim_ono (sim_oyes (SimE.p (sim_var))))) (sims_ret (sim_callA (sim_asrc (sim_acons (sim_var) (sim_acons (sim_int) (sim_anil)))))))) (fun as Qd h => h.2) vs H Q E h
theorem okS__law_deeds (n : Nat) (fx : Fx fal gsl fnl K mg)  (G__law_deeds : OkF P w K mg base (0 + n) "_law_deeds" (spA K (wpR__law_deeds K n 0))) : OkF P w K mg base (0 + n + 1) "_law_deeds" (spA K (wpR__law_deeds K (n + 1) 0)) := by
  refine okF_of (st := st__law_deeds) (N := ["part", "found", "member"]) (ps := ["part"]) (fx.fd 36 "_law_deeds" st__law_deeds) (fx.glo 36 "_law_deeds") sc__law_deeds (fun _ _ _ _ _ _ us hl => match us, hl with | [_], _ => rfl) (spA_len fun as Qd h => h.1) (fun fd cdv A outer s H vs Q E hg hr h => ?_)
  have hu := VL.hu_of hr
  have hu1 := L2.hu_of hr
  refine ⟨_, PSs.nox (pss_cons (ps_if (pt_cmpR (opK K rEqR (op_eqR hu) (by rfl)) (pe_ix (ixK K rIxAll (ix_all hu) (by rfl)) (pv 0) (pe_int) (by exact fun _ _ => rfl)) (pe_str) (nomark _)) (pss_one (ps_ret (pe_lst (pa_cons (pv 0) (pa_nil))))) (pss_nil)) (pss_cons (ps_set (i := 1) sc__law_deeds.nd (by rfl) (by exact Or.inl rfl) (pe_lst (pa_nil))) (pss_cons (ps_for PassesOwn.never (by rfl) (pi_anyK K (pe_ix (ixK K rIxAll (ix_all hu) (by rfl)) (pv 0) (pe_int) (by exact fun _ _ => rfl)) (by rfl)) (pg_name (i := 2) sc__law_deeds.nd (by rfl) (by first | exact Or.inl rfl | exact Or.inr rfl)) (pss_one (ps_set (i := 1) sc__law_deeds.nd (by rfl) (by exact Or.inl rfl) (pe_op (opK K rAddAll op_addAll (by rfl)) (pv 1) (pe_callO G__law_deeds hg hr (by omega) (by rfl) (pa_cons (pv 2) (pa_nil))))))) (pss_one (ps_ret (pv 1)))))), ?_⟩
  exact spA_of (fun o => sims_seq (sims_if (sim_tst (SimE.p (sim_op so_eq (SimE.p (sim_op so_ix (SimE.p (sim_var)) (SimE.p (sim_int)))) (SimE.p ((sim_str (by decide +kernel))))))) (sims_ret (SimF.e (simF_lst (sim_lcons (sim_var) (sim_lnil))))) (sims_next)) (sims_seq (sims_set (SimF.e (simF_lst (sim_lnil)))) (sims_seq (sims_for (simI_any (sim_op so_ix (SimE.p (sim_var)) (SimE.p (sim_int)))) (simg_name (i := 2)) (sims_set (sim_op so_add (SimE.p (sim_var)) (SimE.p (sim_callA (sim_acons (sim_var) (sim_anil))))))) (sims_ret (sim_var))))) (fun as Qd h => h.2) vs H Q E h
theorem okT_35 (fx : Fx fal gsl fnl K mg)  : ∀ n : Nat, OkF P w K mg base (0 + n) "_law_deeds" (spA K (wpR__law_deeds K n 0))
  | 0 => okF_never (st := st__law_deeds) (ps := ["part"]) (fx.fd 36 "_law_deeds" st__law_deeds) (fx.glo 36 "_law_deeds") (fun _ _ _ _ _ _ us hl => match us, hl with | [_], _ => rfl) (spA_never fun _ _ h => h)
  | n + 1 => by
    have ih := okT_35 fx  n
    exact okS__law_deeds n fx  ih
theorem okS__law_is_lost (n : Nat) (fx : Fx fal gsl fnl K mg)  (G__law_is_lost : OkF P w K mg base (0 + n) "_law_is_lost" (spA K (wpR__law_is_lost K n 0))) : OkF P w K mg base (0 + n + 1) "_law_is_lost" (spA K (wpR__law_is_lost K (n + 1) 0)) := by
  have fr_any := fx.free 62 "any"
  refine okF_of (st := st__law_is_lost) (N := ["part", "state", "lost", "member"]) (ps := ["part", "state"]) (fx.fd 37 "_law_is_lost" st__law_is_lost) (fx.glo 37 "_law_is_lost") sc__law_is_lost (fun _ _ _ _ _ _ us hl => match us, hl with | [_, _], _ => rfl) (spA_len fun as Qd h => h.1) (fun fd cdv A outer s H vs Q E hg hr h => ?_)
  have hu := VL.hu_of hr
  have hu1 := L2.hu_of hr
  refine ⟨_, PSs.nox (pss_cons (ps_if (pt_cmpR (opK K rEqR (op_eqR hu) (by rfl)) (pe_ix (ixK K rIxAll (ix_all hu) (by rfl)) (pv 0) (pe_int) (by exact fun _ _ => rfl)) (pe_str) (nomark _)) (pss_one (ps_ret (pe_cmpR (opK K rEqR (op_eqR hu) (by rfl)) (pe_ix (ixK K rIxAll (ix_all hu) (by rfl)) (pv 1) (pe_ix (ixK K rIxAll (ix_all hu) (by rfl)) (pv 0) (pe_int) (by exact fun _ _ => rfl)) (by exact fun _ _ => rfl)) (pe_str) (nomark _)))) (pss_nil)) (pss_cons (ps_setLc (i := 2) (own := [("member", 3)]) (by rfl) sc__law_is_lost.nd (by rfl) (by rfl) (sw_true (by rfl) (by rfl) (by rfl) (by decide +kernel)) (pi_anyK K (pe_ix (ixK K rIxAll (ix_all hu) (by rfl)) (pv 0) (pe_int) (by exact fun _ _ => rfl)) (by rfl)) (blkOk_by (N := ["part", "state", "lost", "member"]) (sc := defScope st__law_is_lost) (by decide +kernel)) (fun _ _ _ _ _ => pg_name (i := 3) sc__law_is_lost.nd (by rfl) (by first | exact Or.inl rfl | exact Or.inr rfl)) (fun _ _ _ _ _ => pts_nil) (fun _ _ _ _ _ => pe_callO G__law_is_lost hg hr (by omega) (by rfl) (pa_cons (pv 3) (pa_cons (pv 1) (pa_nil))))) (pss_one (ps_ret (pe_ifExp (pt_cmpR (opK K rEqR (op_eqR hu) (by rfl)) (pe_ix (ixK K rIxAll (ix_all hu) (by rfl)) (pv 0) (pe_int) (by exact fun _ _ => rfl)) (pe_str) (nomark _)) (pe_ix (ixK K rIxAll (ix_all hu) (by rfl)) (pv 2) (pe_un un_neg (pe_int)) (by exact fun _ _ => rfl)) (pe_callB (callK K (fun K => rAnyR K false) (call_anyR (by rfl)) (by rfl)) (by rfl) fr_any boot_any (pa_cons (pv 2) (pa_nil)))))))), ?_⟩
  exact spA_of (fun o => sims_seq (sims_if (sim_tst (SimE.p (sim_op so_eq (SimE.p (sim_op so_ix (SimE.p (sim_var)) (SimE.p (sim_int)))) (SimE.p ((sim_str (by decide +kernel))))))) (sims_ret (sim_op so_eq (SimE.p (sim_op so_ix (SimE.p (sim_var)) (SimE.p (sim_op so_ix (SimE.p (sim_var)) (SimE.p (sim_int)))))) (SimE.p ((sim_str (by decide +kernel)))))) (sims_next)) (sims_seq (sims_set (SimF.e (simF_lc (simIP_any (SimE.p (sim_op so_ix (SimE.p (sim_var)) (SimE.p (sim_int))))) (simg_name (i := 3)) (sim_yes) (sim_callA (sim_acons (sim_var) (sim_acons (sim_var) (sim_anil)))) (by decide)))) (sims_ret (sim_ifE (sim_tst (SimE.p (sim_op so_eq (SimE.p (sim_op so_ix (SimE.p (sim_var)) (SimE.p (sim_int)))) (SimE.p ((sim_str (by decide +kernel))))))) (sim_op so_ix (SimE.p (sim_var)) (SimE.p (sim_un su_neg (SimE.p (sim_int))))) (sim_b sb_any (sim_pcons (SimE.p (sim_var)) (sim_pnil))))))) (fun as Qd h => h.2) vs H Q E h
theorem okT_36 (fx : Fx fal gsl fnl K mg)  : ∀ n : Nat, OkF P w K mg base (0 + n) "_law_is_lost" (spA K (wpR__law_is_lost K n 0))
  | 0 => okF_never (st := st__law_is_lost) (ps := ["part", "state"]) (fx.fd 37 "_law_is_lost" st__law_is_lost) (fx.glo 37 "_law_is_lost") (fun _ _ _ _ _ _ us hl => match us, hl with | [_, _], _ => rfl) (spA_never fun _ _ h => h)
  | n + 1 => by
    have ih := okT_36 fx  n
    exact okS__law_is_lost n fx  ih
theorem ok__law_has_done (fx : Fx fal gsl fnl K mg) (G__law_deeds : OkF P w K mg base 24 "_law_deeds" (spA K ((fun K => wpR__law_deeds K 24 0) K))) : OkF P w K mg base 25 "_law_has_done" (spA K ((wp__law_has_done) K)) := by
  have fr_any := fx.free 62 "any"
  refine okF_of (st := st__law_has_done) (N := ["part", "state", "deed"]) (ps := ["part", "state"]) (fx.fd 38 "_law_has_done" st__law_has_done) (fx.glo 38 "_law_has_done") sc__law_has_done (fun _ _ _ _ _ _ us hl => match us, hl with | [_, _], _ => rfl) (spA_len fun as Qd h => h.1) (fun fd cdv A outer s H vs Q E hg hr h => ?_)
  have hu := VL.hu_of hr
  have hu1 := L2.hu_of hr
  refine ⟨_, PSs.nox (pss_one (ps_ret (pe_callB (callK K (fun K => rAnyR K false) (call_anyR (by rfl)) (by rfl)) (by rfl) fr_any boot_any (pa_cons (pe_lc (own := [("deed", 2)]) (by rfl) sc__law_has_done.nd (pi_anyK K (pe_callO G__law_deeds hg hr (by omega) (by rfl) (pa_cons (pv 0) (pa_nil))) (by rfl)) (blkOk_by (N := ["part", "state", "deed"]) (sc := defScope st__law_has_done) (by decide +kernel)) (fun _ _ _ _ _ => pg_name (i := 2) sc__law_has_done.nd (by rfl) (by first | exact Or.inl rfl | exact Or.inr rfl)) (fun _ _ _ _ _ => pts_nil) (fun _ _ _ _ _ => pe_cmpR (opK K rEqR (op_eqR hu) (by rfl)) (pe_ix (ixK K rIxAll (ix_all hu) (by rfl)) (pv 1) (pe_ix (ixK K rIxAll (ix_all hu) (by rfl)) (pv 2) (pe_int) (by exact fun _ _ => rfl)) (by exact fun _ _ => rfl)) (pe_str) (nomark _))) (pa_nil))))), ?_⟩
  exact spA_of (fun o => sims_ret (sim_b sb_any (sim_pcons (SimE.p (SimF.e (simF_lc (simIP_any (SimE.p (sim_callA (sim_acons (sim_var) (sim_anil))))) (simg_name (i := 2)) (sim_yes) (sim_op so_eq (SimE.p (sim_op so_ix (SimE.p (sim_var)) (SimE.p (sim_op so_ix (SimE.p (sim_var)) (SimE.p (sim_int)))))) (SimE.p ((sim_str (by decide +kernel))))) (by decide)))) (sim_pnil)))) (fun as Qd h => h.2) vs H Q E h
theorem ok__law_force (fx : Fx fal gsl fnl K mg) (G__law_has_done : OkF P w K mg base 25 "_law_has_done" (spA K ((wp__law_has_done) K))) (G__law_is_lost : OkF P w K mg base 24 "_law_is_lost" (spA K ((fun K => wpR__law_is_lost K 24 0) K))) : OkF P w K mg base 26 "_law_force" (spA K ((wp__law_force) K)) := by
  have fr_enumerate := fx.free 60 "enumerate"
  have fr_len := fx.free 61 "len"
  refine okF_of (st := st__law_force) (N := ["part", "state", "still", "k", "member"]) (ps := ["part", "state"]) (fx.fd 39 "_law_force" st__law_force) (fx.glo 39 "_law_force") sc__law_force (fun _ _ _ _ _ _ us hl => match us, hl with | [_, _], _ => rfl) (spA_len fun as Qd h => h.1) (fun fd cdv A outer s H vs Q E hg hr h => ?_)
  have hu := VL.hu_of hr
  have hu1 := L2.hu_of hr
  refine ⟨_, PSs.nox (pss_cons (ps_setLc (i := 2) (own := [("k", 3), ("member", 4)]) (by rfl) sc__law_force.nd (by rfl) (by rfl) (sw_true (by rfl) (by rfl) (by rfl) (by decide +kernel)) (pi_enumK K (by rfl) fr_enumerate (pa_cons (pe_ix (ixK K rIxAll (ix_all hu) (by rfl)) (pv 0) (pe_int) (by exact fun _ _ => rfl)) (pa_nil)) (by rfl)) (blkOk_by (N := ["part", "state", "still", "k", "member"]) (sc := defScope st__law_force) (by decide +kernel)) (fun _ _ _ _ _ => pg_tupK K (n := 2) (by rfl) (pgs_cons (pg_name (i := 3) sc__law_force.nd (by rfl) (by first | exact Or.inl rfl | exact Or.inr rfl)) (pgs_cons (pg_name (i := 4) sc__law_force.nd (by rfl) (by first | exact Or.inl rfl | exact Or.inr rfl)) (pgs_nil))) (by rfl)) (fun _ _ _ _ _ => pts_one (PW.pt (pw_or (pt_not (pt_truK K (pe_callO G__law_is_lost hg hr (by omega) (by rfl) (pa_cons (pv 4) (pa_cons (pv 1) (pa_nil)))) (by exact fun _ => rfl) (by rfl))) (pw_or1 (pt_truK K (pe_callO G__law_has_done hg hr (by omega) (by rfl) (pa_cons (pv 4) (pa_cons (pv 1) (pa_nil)))) (by exact fun _ => rfl) (by rfl)))))) (fun _ _ _ _ _ => pv 3)) (pss_one (ps_ret (pe_ifExp (pt_cmpR (opK K rNeR (op_neR hu) (by rfl)) (pv 2) (pe_lst (pa_nil)) (nomark _)) (pe_ix (ixK K rIxAll (ix_all hu) (by rfl)) (pv 2) (pe_int) (by exact fun _ _ => rfl)) (pe_op op_sub (pe_callB (callK K rLenAll call_lenAll (by rfl)) (by rfl) fr_len boot_len (pa_cons (pe_ix (ixK K rIxAll (ix_all hu) (by rfl)) (pv 0) (pe_int) (by exact fun _ _ => rfl)) (pa_nil))) (pe_int)))))), ?_⟩
  exact spA_of (fun o => sims_seq (sims_set (SimF.e (simF_lc (simIP_enum (sim_pcons (SimE.p (sim_op so_ix (SimE.p (sim_var)) (SimE.p (sim_int)))) (sim_pnil))) (simg_tup (n := 2) (simgs_cons (simg_name (i := 3)) (simgs_cons (simg_name (i := 4)) (simgs_nil)))) (sim_or (sim_not (sim_truK (SimE.p (sim_callA (sim_acons (sim_var) (sim_acons (sim_var) (sim_anil))))))) (sim_truK (SimE.p (sim_callA (sim_acons (sim_var) (sim_acons (sim_var) (sim_anil))))))) (sim_var) (by decide)))) (sims_ret (sim_ifE (sim_tst (SimE.p (sim_op so_ne (SimE.p (sim_var)) (SimE.p (SimF.e (simF_lst (sim_lnil))))))) (sim_op so_ix (SimE.p (sim_var)) (SimE.p (sim_int))) (sim_op so_sub (SimE.p (sim_b sb_len (sim_pcons (SimE.p (sim_op so_ix (SimE.p (sim_var)) (SimE.p (sim_int)))) (sim_pnil)))) (SimE.p (sim_int)))))) (fun as Qd h => h.2) vs H Q E h
theorem okS__law_is_done (n : Nat) (fx : Fx fal gsl fnl K mg) (G__law_force : OkF P w K mg base 26 "_law_force" (spA K ((wp__law_force) K))) (G__law_is_done : OkF P w K mg base (26 + n) "_law_is_done" (spA K (wpR__law_is_done K n 0))) : OkF P w K mg base (26 + n + 1) "_law_is_done" (spA K (wpR__law_is_done K (n + 1) 0)) := by
  have fr_all := fx.free 65 "all"
  refine okF_of (st := st__law_is_done) (N := ["part", "state", "members", "member"]) (ps := ["part", "state"]) (fx.fd 40 "_law_is_done" st__law_is_done) (fx.glo 40 "_law_is_done") sc__law_is_done (fun _ _ _ _ _ _ us hl => match us, hl with | [_, _], _ => rfl) (spA_len fun as Qd h => h.1) (fun fd cdv A outer s H vs Q E hg hr h => ?_)
  have hu := VL.hu_of hr
  have hu1 := L2.hu_of hr
  refine ⟨_, PSs.nox (pss_cons (ps_if (pt_cmpR (opK K rEqR (op_eqR hu) (by rfl)) (pe_ix (ixK K rIxAll (ix_all hu) (by rfl)) (pv 0) (pe_int) (by exact fun _ _ => rfl)) (pe_str) (nomark _)) (pss_one (ps_ret (pe_cmpR (opK K rEqR (op_eqR hu) (by rfl)) (pe_ix (ixK K rIxAll (ix_all hu) (by rfl)) (pv 1) (pe_ix (ixK K rIxAll (ix_all hu) (by rfl)) (pv 0) (pe_int) (by exact fun _ _ => rfl)) (by exact fun _ _ => rfl)) (pe_str) (nomark _)))) (pss_nil)) (pss_cons (ps_set (i := 2) sc__law_is_done.nd (by rfl) (by exact Or.inl rfl) (pe_ifExp (pt_cmpR (opK K rNeR (op_neR hu) (by rfl)) (pe_ix (ixK K rIxAll (ix_all hu) (by rfl)) (pv 0) (pe_int) (by exact fun _ _ => rfl)) (pe_str) (nomark _)) (pe_ix (ixK K rIxAll (ix_all hu) (by rfl)) (pv 0) (pe_int) (by exact fun _ _ => rfl)) (pe_lst (pa_cons (pe_ix (ixK K rIxAll (ix_all hu) (by rfl)) (pe_ix (ixK K rIxAll (ix_all hu) (by rfl)) (pv 0) (pe_int) (by exact fun _ _ => rfl)) (pe_callO G__law_force hg hr (by omega) (by rfl) (pa_cons (pv 0) (pa_cons (pv 1) (pa_nil)))) (by exact fun _ _ => rfl)) (pa_nil))))) (pss_one (ps_ret (pe_callB (callK K (fun K => rAnyR K true) (call_allR (by rfl)) (by rfl)) (by rfl) fr_all boot_all (pa_cons (pe_lc (own := [("member", 3)]) (by rfl) sc__law_is_done.nd (pi_anyK K (pv 2) (by rfl)) (blkOk_by (N := ["part", "state", "members", "member"]) (sc := defScope st__law_is_done) (by decide +kernel)) (fun _ _ _ _ _ => pg_name (i := 3) sc__law_is_done.nd (by rfl) (by first | exact Or.inl rfl | exact Or.inr rfl)) (fun _ _ _ _ _ => pts_nil) (fun _ _ _ _ _ => pe_callO G__law_is_done hg hr (by omega) (by rfl) (pa_cons (pv 3) (pa_cons (pv 1) (pa_nil))))) (pa_nil))))))), ?_⟩
  exact spA_of (fun o => sims_seq (sims_if (sim_tst (SimE.p (sim_op so_eq (SimE.p (sim_op so_ix (SimE.p (sim_var)) (SimE.p (sim_int)))) (SimE.p ((sim_str (by decide +kernel))))))) (sims_ret (sim_op so_eq (SimE.p (sim_op so_ix (SimE.p (sim_var)) (SimE.p (sim_op so_ix (SimE.p (sim_var)) (SimE.p (sim_int)))))) (SimE.p ((sim_str (by decide +kernel)))))) (sims_next)) (sims_seq (sims_set (sim_ifE (sim_tst (SimE.p (sim_op so_ne (SimE.p (sim_op so_ix (SimE.p (sim_var)) (SimE.p (sim_int)))) (SimE.p ((sim_str (by decide +kernel))))))) (sim_op so_ix (SimE.p (sim_var)) (SimE.p (sim_int))) (SimF.e (simF_lst (sim_lcons (sim_op so_ix (SimE.p (sim_op so_ix (SimE.p (sim_var)) (SimE.p (sim_int)))) (SimE.p (sim_callA (sim_acons (sim_var) (sim_acons (sim_var) (sim_anil)))))) (sim_lnil)))))) (sims_ret (sim_b sb_any (sim_pcons (SimE.p (SimF.e (simF_lc (simIP_any (SimE.p (sim_var))) (simg_name (i := 3)) (sim_yes) (sim_callA (sim_acons (sim_var) (sim_acons (sim_var) (sim_anil)))) (by decide)))) (sim_pnil)))))) (fun as Qd h => h.2) vs H Q E h
theorem okT_39 (fx : Fx fal gsl fnl K mg) (G__law_force : OkF P w K mg base 26 "_law_force" (spA K ((wp__law_force) K))) : ∀ n : Nat, OkF P w K mg base (26 + n) "_law_is_done" (spA K (wpR__law_is_done K n 0))
  | 0 => okF_never (st := st__law_is_done) (ps := ["part", "state"]) (fx.fd 40 "_law_is_done" st__law_is_done) (fx.glo 40 "_law_is_done") (fun _ _ _ _ _ _ us hl => match us, hl with | [_, _], _ => rfl) (spA_never fun _ _ h => h)
  | n + 1 => by
    have ih := okT_39 fx G__law_force n
    exact okS__law_is_done n fx G__law_force ih
theorem okS__law_is_dead (n : Nat) (fx : Fx fal gsl fnl K mg) (G__law_force : OkF P w K mg base 26 "_law_force" (spA K ((wp__law_force) K))) (G__law_is_dead : OkF P w K mg base (26 + n) "_law_is_dead" (spA K (wpR__law_is_dead K n 0))) : OkF P w K mg base (26 + n + 1) "_law_is_dead" (spA K (wpR__law_is_dead K (n + 1) 0)) := by
  have fr_any := fx.free 62 "any"
  have fr_len := fx.free 61 "len"
  refine okF_of (st := st__law_is_dead) (N := ["part", "state", "member"]) (ps := ["part", "state"]) (fx.fd 41 "_law_is_dead" st__law_is_dead) (fx.glo 41 "_law_is_dead") sc__law_is_dead (fun _ _ _ _ _ _ us hl => match us, hl with | [_, _], _ => rfl) (spA_len fun as Qd h => h.1) (fun fd cdv A outer s H vs Q E hg hr h => ?_)
  have hu := VL.hu_of hr
  have hu1 := L2.hu_of hr
  refine ⟨_, PSs.nox (pss_cons (ps_if (pt_cmpR (opK K rEqR (op_eqR hu) (by rfl)) (pe_ix (ixK K rIxAll (ix_all hu) (by rfl)) (pv 0) (pe_int) (by exact fun _ _ => rfl)) (pe_str) (nomark _)) (pss_one (ps_ret (pe_cmpR (opK K (fun K => rInAll K false) (op_inAll hu) (by rfl)) (pe_ix (ixK K rIxAll (ix_all hu) (by rfl)) (pv 1) (pe_ix (ixK K rIxAll (ix_all hu) (by rfl)) (pv 0) (pe_int) (by exact fun _ _ => rfl)) (by exact fun _ _ => rfl)) (pe_tup (pa_cons (pe_str) (pa_cons (pe_str) (pa_nil)))) (by rfl)))) (pss_nil)) (pss_cons (ps_if (pt_cmpR (opK K rEqR (op_eqR hu) (by rfl)) (pe_ix (ixK K rIxAll (ix_all hu) (by rfl)) (pv 0) (pe_int) (by exact fun _ _ => rfl)) (pe_str) (nomark _)) (pss_one (ps_ret (pe_andK K (pe_cmpR (opK K rEqR (op_eqR hu) (by rfl)) (pe_callO G__law_force hg hr (by omega) (by rfl) (pa_cons (pv 0) (pa_cons (pv 1) (pa_nil)))) (pe_op op_sub (pe_callB (callK K rLenAll call_lenAll (by rfl)) (by rfl) fr_len boot_len (pa_cons (pe_ix (ixK K rIxAll (ix_all hu) (by rfl)) (pv 0) (pe_int) (by exact fun _ _ => rfl)) (pa_nil))) (pe_int)) (nomark _)) (pe_one (pe_callO G__law_is_dead hg hr (by omega) (by rfl) (pa_cons (pe_ix (ixK K rIxAll (ix_all hu) (by rfl)) (pe_ix (ixK K rIxAll (ix_all hu) (by rfl)) (pv 0) (pe_int) (by exact fun _ _ => rfl)) (pe_un un_neg (pe_int)) (by exact fun _ _ => rfl)) (pa_cons (pv 1) (pa_nil))))) (by rfl)))) (pss_nil)) (pss_one (ps_ret (pe_callB (callK K (fun K => rAnyR K false) (call_anyR (by rfl)) (by rfl)) (by rfl) fr_any boot_any (pa_cons (pe_lc (own := [("member", 2)]) (by rfl) sc__law_is_dead.nd (pi_anyK K (pe_ix (ixK K rIxAll (ix_all hu) (by rfl)) (pv 0) (pe_int) (by exact fun _ _ => rfl)) (by rfl)) (blkOk_by (N := ["part", "state", "member"]) (sc := defScope st__law_is_dead) (by decide +kernel)) (fun _ _ _ _ _ => pg_name (i := 2) sc__law_is_dead.nd (by rfl) (by first | exact Or.inl rfl | exact Or.inr rfl)) (fun _ _ _ _ _ => pts_nil) (fun _ _ _ _ _ => pe_callO G__law_is_dead hg hr (by omega) (by rfl) (pa_cons (pv 2) (pa_cons (pv 1) (pa_nil))))) (pa_nil))))))), ?_⟩
  exact spA_of (fun o => sims_seq (sims_if (sim_tst (SimE.p (sim_op so_eq (SimE.p (sim_op so_ix (SimE.p (sim_var)) (SimE.p (sim_int)))) (SimE.p ((sim_str (by decide +kernel))))))) (sims_ret (sim_op (so_in (neg := false)) (SimE.p (sim_op so_ix (SimE.p (sim_var)) (SimE.p (sim_op so_ix (SimE.p (sim_var)) (SimE.p (sim_int)))))) (SimE.p (sim_tup (sim_lcons ((sim_str (by decide +kernel))) (sim_lcons ((sim_str (by decide +kernel))) (sim_lnil))))))) (sims_next)) (sims_seq (sims_if (sim_tst (SimE.p (sim_op so_eq (SimE.p (sim_op so_ix (SimE.p (sim_var)) (SimE.p (sim_int)))) (SimE.p ((sim_str (by decide +kernel))))))) (sims_ret (sim_andT (sim_op so_eq (SimE.p (sim_callA (sim_acons (sim_var) (sim_acons (sim_var) (sim_anil))))) (SimE.p (sim_op so_sub (SimE.p (sim_b sb_len (sim_pcons (SimE.p (sim_op so_ix (SimE.p (sim_var)) (SimE.p (sim_int)))) (sim_pnil)))) (SimE.p (sim_int))))) (sim_callA (sim_acons (sim_op so_ix (SimE.p (sim_op so_ix (SimE.p (sim_var)) (SimE.p (sim_int)))) (SimE.p (sim_un su_neg (SimE.p (sim_int))))) (sim_acons (sim_var) (sim_anil)))))) (sims_next)) (sims_ret (sim_b sb_any (sim_pcons (SimE.p (SimF.e (simF_lc (simIP_any (SimE.p (sim_op so_ix (SimE.p (sim_var)) (SimE.p (sim_int))))) (simg_name (i := 2)) (sim_yes) (sim_callA (sim_acons (sim_var) (sim_acons (sim_var) (sim_anil)))) (by decide)))) (sim_pnil)))))) (fun as Qd h => h.2) vs H Q E h
theorem okT_40 (fx : Fx fal gsl fnl K mg) (G__law_force : OkF P w K mg base 26 "_law_force" (spA K ((wp__law_force) K))) : ∀ n : Nat, OkF P w K mg base (26 + n) "_law_is_dead" (spA K (wpR__law_is_dead K n 0))
  | 0 => okF_never (st := st__law_is_dead) (ps := ["part", "state"]) (fx.fd 41 "_law_is_dead" st__law_is_dead) (fx.glo 41 "_law_is_dead") (fun _ _ _ _ _ _ us hl => match us, hl with | [_, _], _ => rfl) (spA_never fun _ _ h => h)
  | n + 1 => by
    have ih := okT_40 fx G__law_force n
    exact okS__law_is_dead n fx G__law_force ih
theorem okS__law_going (n : Nat) (fx : Fx fal gsl fnl K mg) (G__law_is_lost : OkF P w K mg base 24 "_law_is_lost" (spA K ((fun K => wpR__law_is_lost K 24 0) K))) (G__law_going : OkF P w K mg base (24 + n) "_law_going" (spA K (wpR__law_going K n 0))) : OkF P w K mg base (24 + n + 1) "_law_going" (spA K (wpR__law_going K (n + 1) 0)) := by
  have fr_enumerate := fx.free 60 "enumerate"
  have fr_len := fx.free 61 "len"
  refine okF_of (st := st__law_going) (N := ["part", "state", "is_gone", "found", "k", "member", "is_left"]) (ps := ["part", "state", "is_gone"]) (fx.fd 42 "_law_going" st__law_going) (fx.glo 42 "_law_going") sc__law_going (fun _ _ _ _ _ _ us hl => match us, hl with | [_, _, _], _ => rfl) (spA_len fun as Qd h => h.1) (fun fd cdv A outer s H vs Q E hg hr h => ?_)
  have hu := VL.hu_of hr
  have hu1 := L2.hu_of hr
  refine ⟨_, PSs.nox (pss_cons (ps_if (pt_cmpR (opK K rEqR (op_eqR hu) (by rfl)) (pe_ix (ixK K rIxAll (ix_all hu) (by rfl)) (pv 0) (pe_int) (by exact fun _ _ => rfl)) (pe_str) (nomark _)) (pss_one (ps_ret (pe_ifExp (PW.pt (pw_and (pt_truK K (pv 2) (by exact fun _ => rfl) (by rfl)) (pw_and1 (pt_cmpR (opK K rEqR (op_eqR hu) (by rfl)) (pe_ix (ixK K rIxAll (ix_all hu) (by rfl)) (pv 1) (pe_ix (ixK K rIxAll (ix_all hu) (by rfl)) (pv 0) (pe_int) (by exact fun _ _ => rfl)) (by exact fun _ _ => rfl)) (pe_str) (nomark _))))) (pe_lst (pa_cons (pe_ix (ixK K rIxAll (ix_all hu) (by rfl)) (pv 0) (pe_int) (by exact fun _ _ => rfl)) (pa_nil))) (pe_lst (pa_nil))))) (pss_nil)) (pss_cons (ps_set (i := 3) sc__law_going.nd (by rfl) (by exact Or.inl rfl) (pe_lst (pa_nil))) (pss_cons (ps_for PassesOwn.never (by rfl) (pi_enumK K (by rfl) fr_enumerate (pa_cons (pe_ix (ixK K rIxAll (ix_all hu) (by rfl)) (pv 0) (pe_int) (by exact fun _ _ => rfl)) (pa_nil)) (by rfl)) (pg_tupK K (n := 2) (by rfl) (pgs_cons (pg_name (i := 4) sc__law_going.nd (by rfl) (by first | exact Or.inl rfl | exact Or.inr rfl)) (pgs_cons (pg_name (i := 5) sc__law_going.nd (by rfl) (by first | exact Or.inl rfl | exact Or.inr rfl)) (pgs_nil))) (by rfl)) (pss_cons (ps_set (i := 6) sc__law_going.nd (by rfl) (by exact Or.inl rfl) (pe_andK K (pe_cmpR (opK K rEqR (op_eqR hu) (by rfl)) (pe_ix (ixK K rIxAll (ix_all hu) (by rfl)) (pv 0) (pe_int) (by exact fun _ _ => rfl)) (pe_str) (nomark _)) (pe_andK K (pe_cmpR op_lt (pv 4) (pe_op op_sub (pe_callB (callK K rLenAll call_lenAll (by rfl)) (by rfl) fr_len boot_len (pa_cons (pe_ix (ixK K rIxAll (ix_all hu) (by rfl)) (pv 0) (pe_int) (by exact fun _ _ => rfl)) (pa_nil))) (pe_int)) (nomark _)) (pe_one (pe_callO G__law_is_lost hg hr (by omega) (by rfl) (pa_cons (pv 5) (pa_cons (pv 1) (pa_nil))))) (by rfl)) (by rfl))) (pss_one (ps_set (i := 3) sc__law_going.nd (by rfl) (by exact Or.inl rfl) (pe_op (opK K rAddAll op_addAll (by rfl)) (pv 3) (pe_callO G__law_going hg hr (by omega) (by rfl) (pa_cons (pv 5) (pa_cons (pv 1) (pa_cons (pe_orK K (pv 2) (pe_one (pv 6)) (by rfl)) (pa_nil)))))))))) (pss_one (ps_ret (pv 3)))))), ?_⟩
  exact spA_of (fun o => sims_seq (sims_if (sim_tst (SimE.p (sim_op so_eq (SimE.p (sim_op so_ix (SimE.p (sim_var)) (SimE.p (sim_int)))) (SimE.p ((sim_str (by decide +kernel))))))) (sims_ret (sim_ifE (sim_and (sim_truK (SimE.p (sim_var))) (sim_tst (SimE.p (sim_op so_eq (SimE.p (sim_op so_ix (SimE.p (sim_var)) (SimE.p (sim_op so_ix (SimE.p (sim_var)) (SimE.p (sim_int)))))) (SimE.p ((sim_str (by decide +kernel)))))))) (SimF.e (simF_lst (sim_lcons (sim_op so_ix (SimE.p (sim_var)) (SimE.p (sim_int))) (sim_lnil)))) (SimF.e (simF_lst (sim_lnil))))) (sims_next)) (sims_seq (sims_set (SimF.e (simF_lst (sim_lnil)))) (sims_seq (sims_for (simI_enum (sim_lcons (sim_op so_ix (SimE.p (sim_var)) (SimE.p (sim_int))) (sim_lnil))) (simg_tup (n := 2) (simgs_cons (simg_name (i := 4)) (simgs_cons (simg_name (i := 5)) (simgs_nil)))) (sims_seq (sims_set (sim_andT (sim_op so_eq (SimE.p (sim_op so_ix (SimE.p (sim_var)) (SimE.p (sim_int)))) (SimE.p ((sim_str (by decide +kernel))))) (sim_andT (sim_op (so_cmp (p := fun i j => decide (i < j))) (SimE.p (sim_var)) (SimE.p (sim_op so_sub (SimE.p (sim_b sb_len (sim_pcons (SimE.p (sim_op so_ix (SimE.p (sim_var)) (SimE.p (sim_int)))) (sim_pnil)))) (SimE.p (sim_int))))) (sim_callA (sim_acons (sim_var) (sim_acons (sim_var) (sim_anil))))))) (sims_set (sim_op so_add (SimE.p (sim_var)) (SimE.p (sim_callA (sim_acons (sim_var) (sim_acons (sim_var) (sim_acons (sim_orT (sim_var) (sim_var)) (sim_anil)))))))))) (sims_ret (sim_var))))) (fun as Qd h => h.2) vs H Q E h
theorem okT_41 (fx : Fx fal gsl fnl K mg) (G__law_is_lost : OkF P w K mg base 24 "_law_is_lost" (spA K ((fun K => wpR__law_is_lost K 24 0) K))) : ∀ n : Nat, OkF P w K mg base (24 + n) "_law_going" (spA K (wpR__law_going K n 0))
  | 0 => okF_never (st := st__law_going) (ps := ["part", "state", "is_gone"]) (fx.fd 42 "_law_going" st__law_going) (fx.glo 42 "_law_going") (fun _ _ _ _ _ _ us hl => match us, hl with | [_, _, _], _ => rfl) (spA_never fun _ _ h => h)
  | n + 1 => by
    have ih := okT_41 fx G__law_is_lost n
    exact okS__law_going n fx G__law_is_lost ih
theorem okS__law_may_try (n : Nat) (fx : Fx fal gsl fnl K mg) (G__law_is_dead : OkF P w K mg base 50 "_law_is_dead" (spA K ((fun K => wpR__law_is_dead K 24 0) K))) (G__law_force : OkF P w K mg base 26 "_law_force" (spA K ((wp__law_force) K))) (G__law_is_done : OkF P w K mg base 50 "_law_is_done" (spA K ((fun K => wpR__law_is_done K 24 0) K))) (G__law_may_try : OkF P w K mg base (50 + n) "_law_may_try" (spA K (wpR__law_may_try K n 0))) : OkF P w K mg base (50 + n + 1) "_law_may_try" (spA K (wpR__law_may_try K (n + 1) 0)) := by
  refine okF_of (st := st__law_may_try) (N := ["part", "state", "found", "member"]) (ps := ["part", "state"]) (fx.fd 43 "_law_may_try" st__law_may_try) (fx.glo 43 "_law_may_try") sc__law_may_try (fun _ _ _ _ _ _ us hl => match us, hl with | [_, _], _ => rfl) (spA_len fun as Qd h => h.1) (fun fd cdv A outer s H vs Q E hg hr h => ?_)
  have hu := VL.hu_of hr
  have hu1 := L2.hu_of hr
  refine ⟨_, PSs.nox (pss_cons (ps_if (pt_truK K (pe_callO G__law_is_dead hg hr (by omega) (by rfl) (pa_cons (pv 0) (pa_cons (pv 1) (pa_nil)))) (by exact fun _ => rfl) (by rfl)) (pss_one (ps_ret (pe_lst (pa_nil)))) (pss_nil)) (pss_cons (ps_if (pt_cmpR (opK K rEqR (op_eqR hu) (by rfl)) (pe_ix (ixK K rIxAll (ix_all hu) (by rfl)) (pv 0) (pe_int) (by exact fun _ _ => rfl)) (pe_str) (nomark _)) (pss_one (ps_ret (pe_ifExp (pt_cmpR (opK K rEqR (op_eqR hu) (by rfl)) (pe_ix (ixK K rIxAll (ix_all hu) (by rfl)) (pv 1) (pe_ix (ixK K rIxAll (ix_all hu) (by rfl)) (pv 0) (pe_int) (by exact fun _ _ => rfl)) (by exact fun _ _ => rfl)) (pe_str) (nomark _)) (pe_lst (pa_cons (pv 0) (pa_nil))) (pe_lst (pa_nil))))) (pss_nil)) (pss_cons (ps_if (pt_cmpR (opK K rEqR (op_eqR hu) (by rfl)) (pe_ix (ixK K rIxAll (ix_all hu) (by rfl)) (pv 0) (pe_int) (by exact fun _ _ => rfl)) (pe_str) (nomark _)) (pss_one (ps_ret (pe_callO G__law_may_try hg hr (by omega) (by rfl) (pa_cons (pe_ix (ixK K rIxAll (ix_all hu) (by rfl)) (pe_ix (ixK K rIxAll (ix_all hu) (by rfl)) (pv 0) (pe_int) (by exact fun _ _ => rfl)) (pe_callO G__law_force hg hr (by omega) (by rfl) (pa_cons (pv 0) (pa_cons (pv 1) (pa_nil)))) (by exact fun _ _ => rfl)) (pa_cons (pv 1) (pa_nil)))))) (pss_nil)) (pss_cons (ps_set (i := 2) sc__law_may_try.nd (by rfl) (by exact Or.inl rfl) (pe_lst (pa_nil))) (pss_cons (ps_for PassesOwn.never (by rfl) (pi_anyK K (pe_ix (ixK K rIxAll (ix_all hu) (by rfl)) (pv 0) (pe_int) (by exact fun _ _ => rfl)) (by rfl)) (pg_name (i := 3) sc__law_may_try.nd (by rfl) (by first | exact Or.inl rfl | exact Or.inr rfl)) (pss_cons (ps_set (i := 2) sc__law_may_try.nd (by rfl) (by exact Or.inl rfl) (pe_op (opK K rAddAll op_addAll (by rfl)) (pv 2) (pe_callO G__law_may_try hg hr (by omega) (by rfl) (pa_cons (pv 3) (pa_cons (pv 1) (pa_nil)))))) (pss_one (ps_if (PW.pt (pw_and (pt_cmpR (opK K rEqR (op_eqR hu) (by rfl)) (pe_ix (ixK K rIxAll (ix_all hu) (by rfl)) (pv 0) (pe_int) (by exact fun _ _ => rfl)) (pe_str) (nomark _)) (pw_and1 (pt_not (pt_truK K (pe_callO G__law_is_done hg hr (by omega) (by rfl) (pa_cons (pv 3) (pa_cons (pv 1) (pa_nil)))) (by exact fun _ => rfl) (by rfl)))))) (pss_one (ps_ret (pv 2))) (pss_nil))))) (pss_one (ps_ret (pv 2)))))))), ?_⟩
  exact spA_of (fun o => sims_seq (sims_if (sim_truK (SimE.p (sim_callA (sim_acons (sim_var) (sim_acons (sim_var) (sim_anil)))))) (sims_ret (SimF.e (simF_lst (sim_lnil)))) (sims_next)) (sims_seq (sims_if (sim_tst (SimE.p (sim_op so_eq (SimE.p (sim_op so_ix (SimE.p (sim_var)) (SimE.p (sim_int)))) (SimE.p ((sim_str (by decide +kernel))))))) (sims_ret (sim_ifE (sim_tst (SimE.p (sim_op so_eq (SimE.p (sim_op so_ix (SimE.p (sim_var)) (SimE.p (sim_op so_ix (SimE.p (sim_var)) (SimE.p (sim_int)))))) (SimE.p ((sim_str (by decide +kernel))))))) (SimF.e (simF_lst (sim_lcons (sim_var) (sim_lnil)))) (SimF.e (simF_lst (sim_lnil))))) (sims_next)) (sims_seq (sims_if (sim_tst (SimE.p (sim_op so_eq (SimE.p (sim_op so_ix (SimE.p (sim_var)) (SimE.p (sim_int)))) (SimE.p ((sim_str (by decide +kernel))))))) (sims_ret (sim_callA (sim_acons (sim_op so_ix (SimE.p (sim_op so_ix (SimE.p (sim_var)) (SimE.p (sim_int)))) (SimE.p (sim_callA (sim_acons (sim_var) (sim_acons (sim_var) (sim_anil)))))) (sim_acons (sim_var) (sim_anil))))) (sims_next)) (sims_seq (sims_set (SimF.e (simF_lst (sim_lnil)))) (sims_seq (sims_for (simI_any (sim_op so_ix (SimE.p (sim_var)) (SimE.p (sim_int)))) (simg_name (i := 3)) (sims_seq (sims_set (sim_op so_add (SimE.p (sim_var)) (SimE.p (sim_callA (sim_acons (sim_var) (sim_acons (sim_var) (sim_anil))))))) (sims_if (sim_and (sim_tst (SimE.p (sim_op so_eq (SimE.p (sim_op so_ix (SimE.p (sim_var)) (SimE.p (sim_int)))) (SimE.p ((sim_str (by decide +kernel))))))) (sim_not (sim_truK (SimE.p (sim_callA (sim_acons (sim_var) (sim_acons (sim_var) (sim_anil)))))))) (sims_ret (sim_var)) (sims_next)))) (sims_ret (sim_var))))))) (fun as Qd h => h.2) vs H Q E h
theorem okT_42 (fx : Fx fal gsl fnl K mg) (G__law_is_dead : OkF P w K mg base 50 "_law_is_dead" (spA K ((fun K => wpR__law_is_dead K 24 0) K))) (G__law_force : OkF P w K mg base 26 "_law_force" (spA K ((wp__law_force) K))) (G__law_is_done : OkF P w K mg base 50 "_law_is_done" (spA K ((fun K => wpR__law_is_done K 24 0) K))) : ∀ n : Nat, OkF P w K mg base (50 + n) "_law_may_try" (spA K (wpR__law_may_try K n 0))
  | 0 => okF_never (st := st__law_may_try) (ps := ["part", "state"]) (fx.fd 43 "_law_may_try" st__law_may_try) (fx.glo 43 "_law_may_try") (fun _ _ _ _ _ _ us hl => match us, hl with | [_, _], _ => rfl) (spA_never fun _ _ h => h)
  | n + 1 => by
    have ih := okT_42 fx G__law_is_dead G__law_force G__law_is_done n
    exact okS__law_may_try n fx G__law_is_dead G__law_force G__law_is_done ih
theorem ok__law_is_firm (fx : Fx fal gsl fnl K mg)  : OkF P w K mg base 1 "_law_is_firm" (spA K ((wp__law_is_firm) K)) := by
  refine okF_of (st := st__law_is_firm) (N := ["deed", "state", "pins"]) (ps := ["deed", "state", "pins"]) (fx.fd 44 "_law_is_firm" st__law_is_firm) (fx.glo 44 "_law_is_firm") sc__law_is_firm (fun _ _ _ _ _ _ us hl => match us, hl with | [_, _, _], _ => rfl) (spA_len fun as Qd h => h.1) (fun fd cdv A outer s H vs Q E hg hr h => ?_)
  have hu := VL.hu_of hr
  have hu1 := L2.hu_of hr
  refine ⟨_, PSs.nox (pss_one (ps_ret (pe_andK K (pe_cmpR (opK K rEqR (op_eqR hu) (by rfl)) (pe_ix (ixK K rIxAll (ix_all hu) (by rfl)) (pv 1) (pe_ix (ixK K rIxAll (ix_all hu) (by rfl)) (pv 0) (pe_int) (by exact fun _ _ => rfl)) (by exact fun _ _ => rfl)) (pe_str) (nomark _)) (pe_one (pe_orK K (pe_cmpR (opK K (fun K => rInAll K false) (op_inAll hu) (by rfl)) (pe_ix (ixK K rIxAll (ix_all hu) (by rfl)) (pv 0) (pe_int) (by exact fun _ _ => rfl)) (pe_tup (pa_cons (pe_str) (pa_cons (pe_str) (pa_nil)))) (by rfl)) (pe_one (pe_cmpR (opK K (fun K => rInAll K false) (op_inAll hu) (by rfl)) (pe_ix (ixK K rIxAll (ix_all hu) (by rfl)) (pv 0) (pe_int) (by exact fun _ _ => rfl)) (pv 2) (by rfl))) (by rfl))) (by rfl)))), ?_⟩
  exact spA_of (fun o => sims_ret (sim_andT (sim_op so_eq (SimE.p (sim_op so_ix (SimE.p (sim_var)) (SimE.p (sim_op so_ix (SimE.p (sim_var)) (SimE.p (sim_int)))))) (SimE.p ((sim_str (by decide +kernel))))) (sim_orT (sim_op (so_in (neg := false)) (SimE.p (sim_op so_ix (SimE.p (sim_var)) (SimE.p (sim_int)))) (SimE.p (sim_tup (sim_lcons ((sim_str (by decide +kernel))) (sim_lcons ((sim_str (by decide +kernel))) (sim_lnil)))))) (sim_op (so_in (neg := false)) (SimE.p (sim_op so_ix (SimE.p (sim_var)) (SimE.p (sim_int)))) (SimE.p (sim_var)))))) (fun as Qd h => h.2) vs H Q E h
theorem ok__law_answers (fx : Fx fal gsl fnl K mg)  : OkF P w K mg base 1 "_law_answers" (spA K ((wp__law_answers) K)) := by
  refine okF_of (st := st__law_answers) (N := ["deed"]) (ps := ["deed"]) (fx.fd 45 "_law_answers" st__law_answers) (fx.glo 45 "_law_answers") sc__law_answers (fun _ _ _ _ _ _ us hl => match us, hl with | [_], _ => rfl) (spA_len fun as Qd h => h.1) (fun fd cdv A outer s H vs Q E hg hr h => ?_)
  have hu := VL.hu_of hr
  have hu1 := L2.hu_of hr
  refine ⟨_, PSs.nox (pss_one (ps_ret (pe_ifExp (pt_cmpR (opK K (fun K => rInAll K false) (op_inAll hu) (by rfl)) (pe_ix (ixK K rIxAll (ix_all hu) (by rfl)) (pv 0) (pe_int) (by exact fun _ _ => rfl)) (pe_tup (pa_cons (pe_str) (pa_cons (pe_str) (pa_nil)))) (by rfl)) (pe_lst (pa_cons (pe_str) (pa_nil))) (pe_lst (pa_cons (pe_str) (pa_cons (pe_str) (pa_nil))))))), ?_⟩
  exact spA_of (fun o => sims_ret (sim_ifE (sim_tst (SimE.p (sim_op (so_in (neg := false)) (SimE.p (sim_op so_ix (SimE.p (sim_var)) (SimE.p (sim_int)))) (SimE.p (sim_tup (sim_lcons ((sim_str (by decide +kernel))) (sim_lcons ((sim_str (by decide +kernel))) (sim_lnil)))))))) (SimF.e (simF_lst (sim_lcons ((sim_str (by decide +kernel))) (sim_lnil)))) (SimF.e (simF_lst (sim_lcons ((sim_str (by decide +kernel))) (sim_lcons ((sim_str (by decide +kernel))) (sim_lnil))))))) (fun as Qd h => h.2) vs H Q E h
theorem ok__law_with (fx : Fx fal gsl fnl K mg)  : OkF P w K mg base 1 "_law_with" (spA K ((wp__law_with) K)) := by
  have fr_dict := fx.free 72 "dict"
  refine okF_of (st := st__law_with) (N := ["state", "name", "word", "late"]) (ps := ["state", "name", "word"]) (fx.fd 46 "_law_with" st__law_with) (fx.glo 46 "_law_with") sc__law_with (fun _ _ _ _ _ _ us hl => match us, hl with | [_, _, _], _ => rfl) (spA_len fun as Qd h => h.1) (fun fd cdv A outer s H vs Q E hg hr h => ?_)
  have hu := VL.hu_of hr
  have hu1 := L2.hu_of hr
  refine ⟨_, PSs.nox (pss_cons (ps_set (i := 3) sc__law_with.nd (by rfl) (by exact Or.inl rfl) (pe_callTy (callK K rDictOf (call_dictOf (by rfl)) (by rfl)) (by rfl) fr_dict boot_dict (pa_cons (pv 0) (pa_nil)))) (pss_cons (ps_dput hu1 (pv 3) (pv 1) (pv 2) (by rfl)) (pss_one (ps_ret (pv 3))))), ?_⟩
  exact spA_of (fun o => sims_seq (sims_setO (simF_b sbF_dict (sim_pcons (SimE.p (sim_var)) (sim_pnil)))) (sims_seq (sims_put (sim_var) (sim_var)) (sims_retV))) (fun as Qd h => h.2) vs H Q E h
theorem ok__law_standing (fx : Fx fal gsl fnl K mg) (G__law_deeds : OkF P w K mg base 24 "_law_deeds" (spA K ((fun K => wpR__law_deeds K 24 0) K))) : OkF P w K mg base 25 "_law_standing" (spA K ((wp__law_standing) K)) := by
  have fr_tuple := fx.free 66 "tuple"
  refine okF_of (st := st__law_standing) (N := ["plan", "state", "deed"]) (ps := ["plan", "state"]) (fx.fd 47 "_law_standing" st__law_standing) (fx.glo 47 "_law_standing") sc__law_standing (fun _ _ _ _ _ _ us hl => match us, hl with | [_, _], _ => rfl) (spA_len fun as Qd h => h.1) (fun fd cdv A outer s H vs Q E hg hr h => ?_)
  have hu := VL.hu_of hr
  have hu1 := L2.hu_of hr
  refine ⟨_, PSs.nox (pss_one (ps_ret (pe_tup (pa_cons (pe_callTy (callK K rTupleOf call_tuple_of (by rfl)) (by rfl) fr_tuple boot_tuple (pa_cons (pe_lc (own := [("deed", 2)]) (by rfl) sc__law_standing.nd (pi_anyK K (pe_callO G__law_deeds hg hr (by omega) (by rfl) (pa_cons (pv 0) (pa_nil))) (by rfl)) (blkOk_by (N := ["plan", "state", "deed"]) (sc := defScope st__law_standing) (by decide +kernel)) (fun _ _ _ _ _ => pg_name (i := 2) sc__law_standing.nd (by rfl) (by first | exact Or.inl rfl | exact Or.inr rfl)) (fun _ _ _ _ _ => pts_nil) (fun _ _ _ _ _ => pe_ix (ixK K rIxAll (ix_all hu) (by rfl)) (pv 1) (pe_ix (ixK K rIxAll (ix_all hu) (by rfl)) (pv 2) (pe_int) (by exact fun _ _ => rfl)) (by exact fun _ _ => rfl))) (pa_nil))) (pa_cons (pe_bl) (pa_nil)))))), ?_⟩
  exact spA_of (fun o => sims_ret (sim_tup (sim_lcons (sim_b sb_tuple (sim_pcons (SimE.p (SimF.e (simF_lc (simIP_any (SimE.p (sim_callA (sim_acons (sim_var) (sim_anil))))) (simg_name (i := 2)) (sim_yes) (sim_op so_ix (SimE.p (sim_var)) (SimE.p (sim_op so_ix (SimE.p (sim_var)) (SimE.p (sim_int))))) (by decide)))) (sim_pnil))) (sim_lcons (sim_bl) (sim_lnil))))) (fun as Qd h => h.2) vs H Q E h
theorem ok__law_hinges (fx : Fx fal gsl fnl K mg)  : OkF P w K mg base 1 "_law_hinges" (spA K ((wp__law_hinges) K)) := by
  have fr_enumerate := fx.free 60 "enumerate"
  refine okF_of (st := st__law_hinges) (N := ["rows", "mark", "found", "t", "row", "one"]) (ps := ["rows", "mark"]) (fx.fd 50 "_law_hinges" st__law_hinges) (fx.glo 50 "_law_hinges") sc__law_hinges (fun _ _ _ _ _ _ us hl => match us, hl with | [_, _], _ => rfl) (spA_len fun as Qd h => h.1) (fun fd cdv A outer s H vs Q E hg hr h => ?_)
  have hu := VL.hu_of hr
  have hu1 := L2.hu_of hr
  refine ⟨_, PSs.nox (pss_cons (ps_set (i := 2) sc__law_hinges.nd (by rfl) (by exact Or.inl rfl) (pe_lst (pa_nil))) (pss_cons (ps_for PassesOwn.never (by rfl) (pi_enumK K (by rfl) fr_enumerate (pa_cons (pv 0) (pa_nil)) (by rfl)) (pg_tupK K (n := 2) (by rfl) (pgs_cons (pg_name (i := 3) sc__law_hinges.nd (by rfl) (by first | exact Or.inl rfl | exact Or.inr rfl)) (pgs_cons (pg_name (i := 4) sc__law_hinges.nd (by rfl) (by first | exact Or.inl rfl | exact Or.inr rfl)) (pgs_nil))) (by rfl)) (pss_one (ps_if (PW.pt (pw_and (pt_truK K (pe_ix (ixK K rIxAll (ix_all hu) (by rfl)) (pv 4) (pv 1) (by exact fun _ _ => rfl)) (by exact fun _ => rfl) (by rfl)) (pw_and (pt_cmpR (opK K (fun K => rInAll K true) (op_notInAll hu) (by rfl)) (pe_bl) (pe_lc (own := [("one", 5)]) (by rfl) sc__law_hinges.nd (pi_anyK K (pe_slice (slK K rSlAll sl_all (by rfl)) (pv 0) po_none (po_some (pv 3))) (by rfl)) (blkOk_by (N := ["rows", "mark", "found", "t", "row", "one"]) (sc := defScope st__law_hinges) (by decide +kernel)) (fun _ _ _ _ _ => pg_name (i := 5) sc__law_hinges.nd (by rfl) (by first | exact Or.inl rfl | exact Or.inr rfl)) (fun _ _ _ _ _ => pts_nil) (fun _ _ _ _ _ => pe_ix (ixK K rIxAll (ix_all hu) (by rfl)) (pv 5) (pe_int) (by exact fun _ _ => rfl))) (by rfl)) (pw_and1 (pt_cmpR (opK K (fun K => rInAll K true) (op_notInAll hu) (by rfl)) (pe_bl) (pe_lc (own := [("one", 5)]) (by rfl) sc__law_hinges.nd (pi_anyK K (pe_slice (slK K rSlAll sl_all (by rfl)) (pv 0) (po_some (pe_op (opK K rAddAll op_addAll (by rfl)) (pv 3) (pe_int))) po_none) (by rfl)) (blkOk_by (N := ["rows", "mark", "found", "t", "row", "one"]) (sc := defScope st__law_hinges) (by decide +kernel)) (fun _ _ _ _ _ => pg_name (i := 5) sc__law_hinges.nd (by rfl) (by first | exact Or.inl rfl | exact Or.inr rfl)) (fun _ _ _ _ _ => pts_nil) (fun _ _ _ _ _ => pe_ix (ixK K rIxAll (ix_all hu) (by rfl)) (pv 5) (pe_int) (by exact fun _ _ => rfl))) (by rfl)))))) (pss_one (ps_expr (pe_bm PySem.F.plainAttrs_list PySem.F.slot_list_append PySem.F.type_list_append mt_append (pv 2) (pa_cons (pv 3) pa_nil)))) (pss_nil)))) (pss_one (ps_ret (pv 2))))), ?_⟩
  exact spA_of (fun o => sims_seq (sims_setO (simF_lst (sim_lnil))) (sims_seq (sims_for (simI_enum (sim_lcons (sim_var) (sim_lnil))) (simg_tup (n := 2) (simgs_cons (simg_name (i := 3)) (simgs_cons (simg_name (i := 4)) (simgs_nil)))) (sims_if (sim_and (sim_truK (SimE.p (sim_op so_ix (SimE.p (sim_var)) (SimE.p (sim_var))))) (sim_and (sim_tst (SimE.p (sim_op (so_in (neg := true)) (SimE.p (sim_bl)) (SimE.p (SimF.e (simF_lc (simIP_any (SimE.p (sim_sl ss_cut (SimE.p (sim_var)) sim_ono (sim_oyes (SimE.p (sim_var)))))) (simg_name (i := 5)) (sim_yes) (sim_op so_ix (SimE.p (sim_var)) (SimE.p (sim_int))) (by decide))))))) (sim_tst (SimE.p (sim_op (so_in (neg := true)) (SimE.p (sim_bl)) (SimE.p (SimF.e (simF_lc (simIP_any (SimE.p (sim_sl ss_cut (SimE.p (sim_var)) (sim_oyes (SimE.p (sim_op so_add (SimE.p (sim_var)) (SimE.p (sim_int))))) sim_ono))) (simg_name (i := 5)) (sim_yes) (sim_op so_ix (SimE.p (sim_var)) (SimE.p (sim_int))) (by decide))))))))) (sims_app (sim_var)) (sims_next))) (sims_retV))) (fun as Qd h => h.2) vs H Q E h
theorem ok__law_row_marks (fx : Fx fal gsl fnl K mg) (G__law_hinges : OkF P w K mg base 1 "_law_hinges" (spA K ((wp__law_hinges) K))) : OkF P w K mg base 2 "_law_row_marks" (spA K ((wp__law_row_marks) K)) := by
  have fr_all := fx.free 65 "all"
  have fr_tuple := fx.free 66 "tuple"
  refine okF_of (st := st__law_row_marks) (N := ["rows", "told", "mark", "row"]) (ps := ["rows"]) (fx.fd 49 "_law_row_marks" st__law_row_marks) (fx.glo 49 "_law_row_marks") sc__law_row_marks (fun _ _ _ _ _ _ us hl => match us, hl with | [_], _ => rfl) (spA_len fun as Qd h => h.1) (fun fd cdv A outer s H vs Q E hg hr h => ?_)
  have hu := VL.hu_of hr
  have hu1 := L2.hu_of hr
  refine ⟨_, PSs.nox (pss_cons (ps_set (i := 1) sc__law_row_marks.nd (by rfl) (by exact Or.inl rfl) (pe_lst (pa_cons (pe_callB (callK K (fun K => rAnyR K true) (call_allR (by rfl)) (by rfl)) (by rfl) fr_all boot_all (pa_cons (pe_lc (own := [("row", 3)]) (by rfl) sc__law_row_marks.nd (pi_anyK K (pv 0) (by rfl)) (blkOk_by (N := ["rows", "told", "mark", "row"]) (sc := defScope st__law_row_marks) (by decide +kernel)) (fun _ _ _ _ _ => pg_name (i := 3) sc__law_row_marks.nd (by rfl) (by first | exact Or.inl rfl | exact Or.inr rfl)) (fun _ _ _ _ _ => pts_nil) (fun _ _ _ _ _ => pe_ix (ixK K rIxAll (ix_all hu) (by rfl)) (pv 3) (pe_int) (by exact fun _ _ => rfl))) (pa_nil))) (pa_cons (pe_callB (callK K (fun K => rAnyR K true) (call_allR (by rfl)) (by rfl)) (by rfl) fr_all boot_all (pa_cons (pe_lc (own := [("row", 3)]) (by rfl) sc__law_row_marks.nd (pi_anyK K (pv 0) (by rfl)) (blkOk_by (N := ["rows", "told", "mark", "row"]) (sc := defScope st__law_row_marks) (by decide +kernel)) (fun _ _ _ _ _ => pg_name (i := 3) sc__law_row_marks.nd (by rfl) (by first | exact Or.inl rfl | exact Or.inr rfl)) (fun _ _ _ _ _ => pts_nil) (fun _ _ _ _ _ => pe_ix (ixK K rIxAll (ix_all hu) (by rfl)) (pv 3) (pe_int) (by exact fun _ _ => rfl))) (pa_nil))) (pa_nil))))) (pss_cons (ps_for PassesOwn.never (by rfl) (pi_anyK K (pe_tup (pa_cons (pe_int) (pa_cons (pe_int) (pa_nil)))) (by rfl)) (pg_name (i := 2) sc__law_row_marks.nd (by rfl) (by first | exact Or.inl rfl | exact Or.inr rfl)) (pss_one (ps_expr (pe_bm PySem.F.plainAttrs_list PySem.F.slot_list_append PySem.F.type_list_append mt_append (pv 1) (pa_cons (pe_cmpR (opK K rNeR (op_neR hu) (by rfl)) (pe_callO G__law_hinges hg hr (by omega) (by rfl) (pa_cons (pv 0) (pa_cons (pv 2) (pa_nil)))) (pe_lst (pa_nil)) (nomark _)) pa_nil))))) (pss_one (ps_ret (pe_callTy (callK K rTupleOf call_tuple_of (by rfl)) (by rfl) fr_tuple boot_tuple (pa_cons (pv 1) (pa_nil))))))), ?_⟩
  exact spA_of (fun o => sims_seq (sims_setO (simF_lst (sim_lcons (sim_b sb_any (sim_pcons (SimE.p (SimF.e (simF_lc (simIP_any (SimE.p (sim_var))) (simg_name (i := 3)) (sim_yes) (sim_op so_ix (SimE.p (sim_var)) (SimE.p (sim_int))) (by decide)))) (sim_pnil))) (sim_lcons (sim_b sb_any (sim_pcons (SimE.p (SimF.e (simF_lc (simIP_any (SimE.p (sim_var))) (simg_name (i := 3)) (sim_yes) (sim_op so_ix (SimE.p (sim_var)) (SimE.p (sim_int))) (by decide)))) (sim_pnil))) (sim_lnil))))) (sims_seq (sims_for (simI_any (sim_tup (sim_lcons (sim_int) (sim_lcons (sim_int) (sim_lnil))))) (simg_name (i := 2)) (sims_app (sim_op so_ne (SimE.p (sim_callA (sim_acons (sim_var) (sim_acons (sim_var) (sim_anil))))) (SimE.p (SimF.e (simF_lst (sim_lnil))))))) (sims_ret (sim_b sb_tuple (sim_pcons (sim_varP) (sim_pnil)))))) (fun as Qd h => h.2) vs H Q E h
theorem ok__law_side_marks (fx : Fx fal gsl fnl K mg)  : OkF P w K mg base 1 "_law_side_marks" (spA K ((wp__law_side_marks) K)) := by
  have fr_all := fx.free 65 "all"
  have fr_len := fx.free 61 "len"
  refine okF_of (st := st__law_side_marks) (N := ["rows", "unready", "is_whole", "row"]) (ps := ["rows"]) (fx.fd 51 "_law_side_marks" st__law_side_marks) (fx.glo 51 "_law_side_marks") sc__law_side_marks (fun _ _ _ _ _ _ us hl => match us, hl with | [_], _ => rfl) (spA_len fun as Qd h => h.1) (fun fd cdv A outer s H vs Q E hg hr h => ?_)
  have hu := VL.hu_of hr
  have hu1 := L2.hu_of hr
  refine ⟨_, PSs.nox (pss_cons (ps_setLc (i := 1) (own := [("row", 3)]) (by rfl) sc__law_side_marks.nd (by rfl) (by rfl) (sw_true (by rfl) (by rfl) (by rfl) (by decide +kernel)) (pi_anyK K (pv 0) (by rfl)) (blkOk_by (N := ["rows", "unready", "is_whole", "row"]) (sc := defScope st__law_side_marks) (by decide +kernel)) (fun _ _ _ _ _ => pg_name (i := 3) sc__law_side_marks.nd (by rfl) (by first | exact Or.inl rfl | exact Or.inr rfl)) (fun _ _ _ _ _ => pts_one (pt_not (pt_truK K (pe_ix (ixK K rIxAll (ix_all hu) (by rfl)) (pv 3) (pe_int) (by exact fun _ _ => rfl)) (by exact fun _ => rfl) (by rfl)))) (fun _ _ _ _ _ => pv 3)) (pss_cons (ps_set (i := 2) sc__law_side_marks.nd (by rfl) (by exact Or.inl rfl) (pe_orK K (pe_cmpR (opK K rEqR (op_eqR hu) (by rfl)) (pv 1) (pe_lst (pa_nil)) (nomark _)) (pe_one (pe_andK K (pe_cmpR (opK K rEqR (op_eqR hu) (by rfl)) (pe_callB (callK K rLenAll call_lenAll (by rfl)) (by rfl) fr_len boot_len (pa_cons (pv 1) (pa_nil))) (pe_int) (nomark _)) (pe_one (pe_ix (ixK K rIxAll (ix_all hu) (by rfl)) (pe_ix (ixK K rIxAll (ix_all hu) (by rfl)) (pv 1) (pe_int) (by exact fun _ _ => rfl)) (pe_int) (by exact fun _ _ => rfl))) (by rfl))) (by rfl))) (pss_one (ps_ret (pe_tup (pa_cons (pe_callB (callK K (fun K => rAnyR K true) (call_allR (by rfl)) (by rfl)) (by rfl) fr_all boot_all (pa_cons (pe_lc (own := [("row", 3)]) (by rfl) sc__law_side_marks.nd (pi_anyK K (pv 0) (by rfl)) (blkOk_by (N := ["rows", "unready", "is_whole", "row"]) (sc := defScope st__law_side_marks) (by decide +kernel)) (fun _ _ _ _ _ => pg_name (i := 3) sc__law_side_marks.nd (by rfl) (by first | exact Or.inl rfl | exact Or.inr rfl)) (fun _ _ _ _ _ => pts_nil) (fun _ _ _ _ _ => pe_ix (ixK K rIxAll (ix_all hu) (by rfl)) (pv 3) (pe_int) (by exact fun _ _ => rfl))) (pa_nil))) (pa_cons (pe_callB (callK K (fun K => rAnyR K true) (call_allR (by rfl)) (by rfl)) (by rfl) fr_all boot_all (pa_cons (pe_lc (own := [("row", 3)]) (by rfl) sc__law_side_marks.nd (pi_anyK K (pv 0) (by rfl)) (blkOk_by (N := ["rows", "unready", "is_whole", "row"]) (sc := defScope st__law_side_marks) (by decide +kernel)) (fun _ _ _ _ _ => pg_name (i := 3) sc__law_side_marks.nd (by rfl) (by first | exact Or.inl rfl | exact Or.inr rfl)) (fun _ _ _ _ _ => pts_nil) (fun _ _ _ _ _ => pe_ix (ixK K rIxAll (ix_all hu) (by rfl)) (pv 3) (pe_int) (by exact fun _ _ => rfl))) (pa_nil))) (pa_cons (pe_cmpR (opK K rEqR (op_eqR hu) (by rfl)) (pv 1) (pe_lst (pa_nil)) (nomark _)) (pa_cons (pv 2) (pa_nil)))))))))), ?_⟩
  exact spA_of (fun o => sims_seq (sims_set (SimF.e (simF_lc (simIP_any (SimE.p (sim_var))) (simg_name (i := 3)) (sim_not (sim_truK (SimE.p (sim_op so_ix (SimE.p (sim_var)) (SimE.p (sim_int)))))) (sim_var) (by decide)))) (sims_seq (sims_set (sim_orT (sim_op so_eq (SimE.p (sim_var)) (SimE.p (SimF.e (simF_lst (sim_lnil))))) (sim_andT (sim_op so_eq (SimE.p (sim_b sb_len (sim_pcons (SimE.p (sim_var)) (sim_pnil)))) (SimE.p (sim_int))) (sim_op so_ix (SimE.p (sim_op so_ix (SimE.p (sim_var)) (SimE.p (sim_int)))) (SimE.p (sim_int)))))) (sims_ret (sim_tup (sim_lcons (sim_b sb_any (sim_pcons (SimE.p (SimF.e (simF_lc (simIP_any (SimE.p (sim_var))) (simg_name (i := 3)) (sim_yes) (sim_op so_ix (SimE.p (sim_var)) (SimE.p (sim_int))) (by decide)))) (sim_pnil))) (sim_lcons (sim_b sb_any (sim_pcons (SimE.p (SimF.e (simF_lc (simIP_any (SimE.p (sim_var))) (simg_name (i := 3)) (sim_yes) (sim_op so_ix (SimE.p (sim_var)) (SimE.p (sim_int))) (by decide)))) (sim_pnil))) (sim_lcons (sim_op so_eq (SimE.p (sim_var)) (SimE.p (SimF.e (simF_lst (sim_lnil))))) (sim_lcons (sim_var) (sim_lnil))))))))) (fun as Qd h => h.2) vs H Q E h
theorem ok__law_come (fx : Fx fal gsl fnl K mg)  : OkF P w K mg base 1 "_law_come" (spA K ((wp__law_come) K)) := by
  have fr_enumerate := fx.free 60 "enumerate"
  have fr_len := fx.free 61 "len"
  refine okF_of (st := st__law_come) (N := ["rows", "sure", "k", "row"]) (ps := ["rows"]) (fx.fd 52 "_law_come" st__law_come) (fx.glo 52 "_law_come") sc__law_come (fun _ _ _ _ _ _ us hl => match us, hl with | [_], _ => rfl) (spA_len fun as Qd h => h.1) (fun fd cdv A outer s H vs Q E hg hr h => ?_)
  have hu := VL.hu_of hr
  have hu1 := L2.hu_of hr
  refine ⟨_, PSs.nox (pss_cons (ps_setLc (i := 1) (own := [("k", 2), ("row", 3)]) (by rfl) sc__law_come.nd (by rfl) (by rfl) (sw_true (by rfl) (by rfl) (by rfl) (by decide +kernel)) (pi_enumK K (by rfl) fr_enumerate (pa_cons (pv 0) (pa_nil)) (by rfl)) (blkOk_by (N := ["rows", "sure", "k", "row"]) (sc := defScope st__law_come) (by decide +kernel)) (fun _ _ _ _ _ => pg_tupK K (n := 2) (by rfl) (pgs_cons (pg_name (i := 2) sc__law_come.nd (by rfl) (by first | exact Or.inl rfl | exact Or.inr rfl)) (pgs_cons (pg_name (i := 3) sc__law_come.nd (by rfl) (by first | exact Or.inl rfl | exact Or.inr rfl)) (pgs_nil))) (by rfl)) (fun _ _ _ _ _ => pts_one (pt_truK K (pe_ix (ixK K rIxAll (ix_all hu) (by rfl)) (pv 3) (pe_int) (by exact fun _ _ => rfl)) (by exact fun _ => rfl) (by rfl))) (fun _ _ _ _ _ => pv 2)) (pss_one (ps_ret (pe_ifExp (pt_cmpR (opK K rNeR (op_neR hu) (by rfl)) (pv 1) (pe_lst (pa_nil)) (nomark _)) (pe_op (opK K rAddAll op_addAll (by rfl)) (pe_ix (ixK K rIxAll (ix_all hu) (by rfl)) (pv 1) (pe_int) (by exact fun _ _ => rfl)) (pe_int)) (pe_callB (callK K rLenAll call_lenAll (by rfl)) (by rfl) fr_len boot_len (pa_cons (pv 0) (pa_nil))))))), ?_⟩
  exact spA_of (fun o => sims_seq (sims_set (SimF.e (simF_lc (simIP_enum (sim_pcons (SimE.p (sim_var)) (sim_pnil))) (simg_tup (n := 2) (simgs_cons (simg_name (i := 2)) (simgs_cons (simg_name (i := 3)) (simgs_nil)))) (sim_truK (SimE.p (sim_op so_ix (SimE.p (sim_var)) (SimE.p (sim_int))))) (sim_var) (by decide)))) (sims_ret (sim_ifE (sim_tst (SimE.p (sim_op so_ne (SimE.p (sim_var)) (SimE.p (SimF.e (simF_lst (sim_lnil))))))) (sim_op so_add (SimE.p (sim_op so_ix (SimE.p (sim_var)) (SimE.p (sim_int)))) (SimE.p (sim_int))) (sim_b sb_len (sim_pcons (SimE.p (sim_var)) (sim_pnil)))))) (fun as Qd h => h.2) vs H Q E h
theorem ok__law_else_marks (fx : Fx fal gsl fnl K mg) (G__law_come : OkF P w K mg base 1 "_law_come" (spA K ((wp__law_come) K))) : OkF P w K mg base 2 "_law_else_marks" (spA K ((wp__law_else_marks) K)) := by
  have fr_all := fx.free 65 "all"
  refine okF_of (st := st__law_else_marks) (N := ["rows", "come", "is_whole", "is_sure_v", "row"]) (ps := ["rows"]) (fx.fd 53 "_law_else_marks" st__law_else_marks) (fx.glo 53 "_law_else_marks") sc__law_else_marks (fun _ _ _ _ _ _ us hl => match us, hl with | [_], _ => rfl) (spA_len fun as Qd h => h.1) (fun fd cdv A outer s H vs Q E hg hr h => ?_)
  have hu := VL.hu_of hr
  have hu1 := L2.hu_of hr
  refine ⟨_, PSs.nox (pss_cons (ps_set (i := 1) sc__law_else_marks.nd (by rfl) (by exact Or.inl rfl) (pe_slice (slK K rSlAll sl_all (by rfl)) (pv 0) po_none (po_some (pe_callO G__law_come hg hr (by omega) (by rfl) (pa_cons (pv 0) (pa_nil)))))) (pss_cons (ps_set (i := 2) sc__law_else_marks.nd (by rfl) (by exact Or.inl rfl) (pe_callB (callK K (fun K => rAnyR K true) (call_allR (by rfl)) (by rfl)) (by rfl) fr_all boot_all (pa_cons (pe_lc (own := [("row", 4)]) (by rfl) sc__law_else_marks.nd (pi_anyK K (pv 1) (by rfl)) (blkOk_by (N := ["rows", "come", "is_whole", "is_sure_v", "row"]) (sc := defScope st__law_else_marks) (by decide +kernel)) (fun _ _ _ _ _ => pg_name (i := 4) sc__law_else_marks.nd (by rfl) (by first | exact Or.inl rfl | exact Or.inr rfl)) (fun _ _ _ _ _ => pts_nil) (fun _ _ _ _ _ => pe_ix (ixK K rIxAll (ix_all hu) (by rfl)) (pv 4) (pe_int) (by exact fun _ _ => rfl))) (pa_nil)))) (pss_cons (ps_set (i := 3) sc__law_else_marks.nd (by rfl) (by exact Or.inl rfl) (pe_andK K (pe_ix (ixK K rIxAll (ix_all hu) (by rfl)) (pe_ix (ixK K rIxAll (ix_all hu) (by rfl)) (pv 1) (pe_un un_neg (pe_int)) (by exact fun _ _ => rfl)) (pe_int) (by exact fun _ _ => rfl)) (pe_one (pv 2)) (by rfl))) (pss_one (ps_ret (pe_tup (pa_cons (pv 3) (pa_cons (pe_callB (callK K (fun K => rAnyR K true) (call_allR (by rfl)) (by rfl)) (by rfl) fr_all boot_all (pa_cons (pe_lc (own := [("row", 4)]) (by rfl) sc__law_else_marks.nd (pi_anyK K (pv 1) (by rfl)) (blkOk_by (N := ["rows", "come", "is_whole", "is_sure_v", "row"]) (sc := defScope st__law_else_marks) (by decide +kernel)) (fun _ _ _ _ _ => pg_name (i := 4) sc__law_else_marks.nd (by rfl) (by first | exact Or.inl rfl | exact Or.inr rfl)) (fun _ _ _ _ _ => pts_nil) (fun _ _ _ _ _ => pe_ix (ixK K rIxAll (ix_all hu) (by rfl)) (pv 4) (pe_int) (by exact fun _ _ => rfl))) (pa_nil))) (pa_cons (pe_orK K (pv 3) (pe_one (pe_callB (callK K (fun K => rAnyR K true) (call_allR (by rfl)) (by rfl)) (by rfl) fr_all boot_all (pa_cons (pe_lc (own := [("row", 4)]) (by rfl) sc__law_else_marks.nd (pi_anyK K (pv 0) (by rfl)) (blkOk_by (N := ["rows", "come", "is_whole", "is_sure_v", "row"]) (sc := defScope st__law_else_marks) (by decide +kernel)) (fun _ _ _ _ _ => pg_name (i := 4) sc__law_else_marks.nd (by rfl) (by first | exact Or.inl rfl | exact Or.inr rfl)) (fun _ _ _ _ _ => pts_nil) (fun _ _ _ _ _ => pe_ix (ixK K rIxAll (ix_all hu) (by rfl)) (pv 4) (pe_int) (by exact fun _ _ => rfl))) (pa_nil)))) (by rfl)) (pa_cons (pv 2) (pa_nil))))))))))), ?_⟩
  exact spA_of (fun o => sims_seq (sims_set (sim_sl ss_cut (SimE.p (sim_var)) sim_ono (sim_oyes (SimE.p (sim_callA (sim_acons (sim_var) (sim_anil))))))) (sims_seq (sims_set (sim_b sb_any (sim_pcons (SimE.p (SimF.e (simF_lc (simIP_any (SimE.p (sim_var))) (simg_name (i := 4)) (sim_yes) (sim_op so_ix (SimE.p (sim_var)) (SimE.p (sim_int))) (by decide)))) (sim_pnil)))) (sims_seq (sims_set (sim_andT (sim_op so_ix (SimE.p (sim_op so_ix (SimE.p (sim_var)) (SimE.p (sim_un su_neg (SimE.p (sim_int)))))) (SimE.p (sim_int))) (sim_var))) (sims_ret (sim_tup (sim_lcons (sim_var) (sim_lcons (sim_b sb_any (sim_pcons (SimE.p (SimF.e (simF_lc (simIP_any (SimE.p (sim_var))) (simg_name (i := 4)) (sim_yes) (sim_op so_ix (SimE.p (sim_var)) (SimE.p (sim_int))) (by decide)))) (sim_pnil))) (sim_lcons (sim_orT (sim_var) (sim_b sb_any (sim_pcons (SimE.p (SimF.e (simF_lc (simIP_any (SimE.p (sim_var))) (simg_name (i := 4)) (sim_yes) (sim_op so_ix (SimE.p (sim_var)) (SimE.p (sim_int))) (by decide)))) (sim_pnil)))) (sim_lcons (sim_var) (sim_lnil)))))))))) (fun as Qd h => h.2) vs H Q E h
theorem okS__law_marks (n : Nat) (fx : Fx fal gsl fnl K mg) (G__law_is_dead : OkF P w K mg base 50 "_law_is_dead" (spA K ((fun K => wpR__law_is_dead K 24 0) K))) (G__law_is_firm : OkF P w K mg base 1 "_law_is_firm" (spA K ((wp__law_is_firm) K))) (G__law_row_marks : OkF P w K mg base 2 "_law_row_marks" (spA K ((wp__law_row_marks) K))) (G__law_side_marks : OkF P w K mg base 1 "_law_side_marks" (spA K ((wp__law_side_marks) K))) (G__law_else_marks : OkF P w K mg base 2 "_law_else_marks" (spA K ((wp__law_else_marks) K))) (G__law_deeds : OkF P w K mg base 24 "_law_deeds" (spA K ((fun K => wpR__law_deeds K 24 0) K))) (G__law_force : OkF P w K mg base 26 "_law_force" (spA K ((wp__law_force) K))) (G__law_marks : OkF P w K mg base (50 + n) "_law_marks" (spA K (wpR__law_marks K n 0))) : OkF P w K mg base (50 + n + 1) "_law_marks" (spA K (wpR__law_marks K (n + 1) 0)) := by
  have fr_any := fx.free 62 "any"
  have gm__law_else_marks := fx.glo 53 "_law_else_marks"
  have gm__law_side_marks := fx.glo 51 "_law_side_marks"
  have gm__law_row_marks := fx.glo 49 "_law_row_marks"
  refine okF_of (st := st__law_marks) (N := ["part", "state", "pins", "is_held", "is_new", "is_sure_v", "is_loose", "members", "rows", "told", "member", "deed"]) (ps := ["part", "state", "pins"]) (fx.fd 48 "_law_marks" st__law_marks) (fx.glo 48 "_law_marks") sc__law_marks (fun _ _ _ _ _ _ us hl => match us, hl with | [_, _, _], _ => rfl) (spA_len fun as Qd h => h.1) (fun fd cdv A outer s H vs Q E hg hr h => ?_)
  have hu := VL.hu_of hr
  have hu1 := L2.hu_of hr
  refine ⟨_, PSs.nox (pss_cons (ps_set (i := 3) sc__law_marks.nd (by rfl) (by exact Or.inl rfl) (pe_callB (callK K (fun K => rAnyR K false) (call_anyR (by rfl)) (by rfl)) (by rfl) fr_any boot_any (pa_cons (pe_lc (own := [("deed", 11)]) (by rfl) sc__law_marks.nd (pi_anyK K (pe_callO G__law_deeds hg hr (by omega) (by rfl) (pa_cons (pv 0) (pa_nil))) (by rfl)) (blkOk_by (N := ["part", "state", "pins", "is_held", "is_new", "is_sure_v", "is_loose", "members", "rows", "told", "member", "deed"]) (sc := defScope st__law_marks) (by decide +kernel)) (fun _ _ _ _ _ => pg_name (i := 11) sc__law_marks.nd (by rfl) (by first | exact Or.inl rfl | exact Or.inr rfl)) (fun _ _ _ _ _ => pts_nil) (fun _ _ _ _ _ => pe_callO G__law_is_firm hg hr (by omega) (by rfl) (pa_cons (pv 11) (pa_cons (pv 1) (pa_cons (pv 2) (pa_nil)))))) (pa_nil)))) (pss_cons (ps_if (pt_truK K (pe_callO G__law_is_dead hg hr (by omega) (by rfl) (pa_cons (pv 0) (pa_cons (pv 1) (pa_nil)))) (by exact fun _ => rfl) (by rfl)) (pss_one (ps_ret (pe_tup (pa_cons (pv 3) (pa_cons (pe_bl) (pa_cons (pe_notK K (pv 3) (by rfl)) (pa_cons (pe_notK K (pv 3) (by rfl)) (pa_cons (pe_notK K (pv 3) (by rfl)) (pa_nil))))))))) (pss_nil)) (pss_cons (ps_if (pt_cmpR (opK K rEqR (op_eqR hu) (by rfl)) (pe_ix (ixK K rIxAll (ix_all hu) (by rfl)) (pv 0) (pe_int) (by exact fun _ _ => rfl)) (pe_str) (nomark _)) (pss_cons (ps_par (i := 4) (j := 5) (by rfl) sc__law_marks.nd (by rfl) (by rfl) (by decide) (by rfl) (by rfl) (pa_cons (pe_cmpR (opK K rEqR (op_eqR hu) (by rfl)) (pe_ix (ixK K rIxAll (ix_all hu) (by rfl)) (pv 1) (pe_ix (ixK K rIxAll (ix_all hu) (by rfl)) (pv 0) (pe_int) (by exact fun _ _ => rfl)) (by exact fun _ _ => rfl)) (pe_str) (nomark _)) (pa_cons (pe_orK K (pe_cmpR (opK K rEqR (op_eqR hu) (by rfl)) (pe_ix (ixK K rIxAll (ix_all hu) (by rfl)) (pv 1) (pe_ix (ixK K rIxAll (ix_all hu) (by rfl)) (pv 0) (pe_int) (by exact fun _ _ => rfl)) (by exact fun _ _ => rfl)) (pe_str) (nomark _)) (pe_one (pe_cmpR (opK K (fun K => rInAll K false) (op_inAll hu) (by rfl)) (pe_ix (ixK K rIxAll (ix_all hu) (by rfl)) (pv 0) (pe_int) (by exact fun _ _ => rfl)) (pe_tup (pa_cons (pe_str) (pa_cons (pe_str) (pa_nil)))) (by rfl))) (by rfl)) (pa_nil))) (by rfl)) (pss_cons (ps_set (i := 6) sc__law_marks.nd (by rfl) (by exact Or.inl rfl) (pe_andK K (pe_notK K (pv 3) (by rfl)) (pe_one (pe_orK K (pe_notK K (pv 4) (by rfl)) (pe_one (pe_cmpR (opK K (fun K => rInAll K false) (op_inAll hu) (by rfl)) (pe_ix (ixK K rIxAll (ix_all hu) (by rfl)) (pv 0) (pe_int) (by exact fun _ _ => rfl)) (pe_tup (pa_cons (pe_str) (pa_cons (pe_str) (pa_nil)))) (by rfl))) (by rfl))) (by rfl))) (pss_one (ps_ret (pe_tup (pa_cons (pv 3) (pa_cons (pv 5) (pa_cons (pv 6) (pa_cons (pe_orK K (pv 5) (pe_one (pe_cmpR (opK K rNeR (op_neR hu) (by rfl)) (pe_ix (ixK K rIxAll (ix_all hu) (by rfl)) (pv 0) (pe_int) (by exact fun _ _ => rfl)) (pe_str) (nomark _))) (by rfl)) (pa_cons (pe_bl) (pa_nil))))))))))) (pss_nil)) (pss_cons (ps_set (i := 7) sc__law_marks.nd (by rfl) (by exact Or.inl rfl) (pe_ifExp (pt_cmpR (opK K rEqR (op_eqR hu) (by rfl)) (pe_ix (ixK K rIxAll (ix_all hu) (by rfl)) (pv 0) (pe_int) (by exact fun _ _ => rfl)) (pe_str) (nomark _)) (pe_slice (slK K rSlAll sl_all (by rfl)) (pe_ix (ixK K rIxAll (ix_all hu) (by rfl)) (pv 0) (pe_int) (by exact fun _ _ => rfl)) (po_some (pe_callO G__law_force hg hr (by omega) (by rfl) (pa_cons (pv 0) (pa_cons (pv 1) (pa_nil))))) po_none) (pe_ix (ixK K rIxAll (ix_all hu) (by rfl)) (pv 0) (pe_int) (by exact fun _ _ => rfl)))) (pss_cons (ps_setLc (i := 8) (own := [("member", 10)]) (by rfl) sc__law_marks.nd (by rfl) (by rfl) (sw_true (by rfl) (by rfl) (by rfl) (by decide +kernel)) (pi_anyK K (pv 7) (by rfl)) (blkOk_by (N := ["part", "state", "pins", "is_held", "is_new", "is_sure_v", "is_loose", "members", "rows", "told", "member", "deed"]) (sc := defScope st__law_marks) (by decide +kernel)) (fun _ _ _ _ _ => pg_name (i := 10) sc__law_marks.nd (by rfl) (by first | exact Or.inl rfl | exact Or.inr rfl)) (fun _ _ _ _ _ => pts_nil) (fun _ _ _ _ _ => pe_callO G__law_marks hg hr (by omega) (by rfl) (pa_cons (pv 10) (pa_cons (pv 1) (pa_cons (pv 2) (pa_nil)))))) (pss_cons (ps_set (i := 9) sc__law_marks.nd (by rfl) (by exact Or.inl rfl) (pe_callXO (S := tabS K [("_law_row_marks", ((wp__law_row_marks) K)), ("_law_side_marks", ((wp__law_side_marks) K)), ("_law_else_marks", ((wp__law_else_marks) K))]) (tab_held (W := [("_law_row_marks", ((wp__law_row_marks) K)), ("_law_side_marks", ((wp__law_side_marks) K)), ("_law_else_marks", ((wp__law_else_marks) K))]) (by intro p hp; simp only [List.mem_cons, List.not_mem_nil, or_false] at hp; rcases hp with rfl | rfl | rfl <;> first | exact G__law_row_marks.mono (by omega) | exact G__law_side_marks.mono (by omega) | exact G__law_else_marks.mono (by omega))) hg hr (pe_ix (ix_dict hu) (pe_disp (pps_cons pe_str (pe_glob (v := V.ref (He.ga K "_law_row_marks")) (by rfl) gm__law_row_marks (by rfl)) (pps_cons pe_str (pe_glob (v := V.ref (He.ga K "_law_side_marks")) (by rfl) gm__law_side_marks (by rfl)) (pps_cons pe_str (pe_glob (v := V.ref (He.ga K "_law_else_marks")) (by rfl) gm__law_else_marks (by rfl)) (pps_nil)))) (by rfl) (by rfl) (by simp) (by decide)) (pe_ix (ixK K rIxAll (ix_all hu) (by rfl)) (pv 0) (pe_int) (by exact fun _ _ => rfl)) (by exact fun _ _ => rfl)) (pa_cons (pv 8) (pa_nil)))) (pss_cons (ps_if (pt_truK K (pv 3) (by exact fun _ => rfl) (by rfl)) (pss_one (ps_ret (pe_tup (pa_cons (pv 3) (pa_cons (pe_ix (ixK K rIxAll (ix_all hu) (by rfl)) (pv 9) (pe_int) (by exact fun _ _ => rfl)) (pa_cons (pe_bl) (pa_cons (pe_ix (ixK K rIxAll (ix_all hu) (by rfl)) (pv 9) (pe_int) (by exact fun _ _ => rfl)) (pa_cons (pe_ix (ixK K rIxAll (ix_all hu) (by rfl)) (pv 9) (pe_int) (by exact fun _ _ => rfl)) (pa_nil))))))))) (pss_nil)) (pss_one (ps_ret (pe_op (opK K rAddAll op_addAll (by rfl)) (pe_tup (pa_cons (pv 3) (pa_nil))) (pv 9))))))))))), ?_⟩
  exact spA_of (fun o => sims_seq (sims_set (sim_b sb_any (sim_pcons (SimE.p (SimF.e (simF_lc (simIP_any (SimE.p (sim_callA (sim_acons (sim_var) (sim_anil))))) (simg_name (i := 11)) (sim_yes) (sim_callA (sim_acons (sim_var) (sim_acons (sim_var) (sim_acons (sim_var) (sim_anil))))) (by decide)))) (sim_pnil)))) (sims_seq (sims_if (sim_truK (SimE.p (sim_callA (sim_acons (sim_var) (sim_acons (sim_var) (sim_anil)))))) (sims_ret (sim_tup (sim_lcons (sim_var) (sim_lcons (sim_bl) (sim_lcons (sim_notT (SimE.p (sim_var))) (sim_lcons (sim_notT (SimE.p (sim_var))) (sim_lcons (sim_notT (SimE.p (sim_var))) (sim_lnil)))))))) (sims_next)) (sims_seq (sims_if (sim_tst (SimE.p (sim_op so_eq (SimE.p (sim_op so_ix (SimE.p (sim_var)) (SimE.p (sim_int)))) (SimE.p ((sim_str (by decide +kernel))))))) (sims_seq (sims_par (sim_op so_eq (SimE.p (sim_op so_ix (SimE.p (sim_var)) (SimE.p (sim_op so_ix (SimE.p (sim_var)) (SimE.p (sim_int)))))) (SimE.p ((sim_str (by decide +kernel))))) (sim_orT (sim_op so_eq (SimE.p (sim_op so_ix (SimE.p (sim_var)) (SimE.p (sim_op so_ix (SimE.p (sim_var)) (SimE.p (sim_int)))))) (SimE.p ((sim_str (by decide +kernel))))) (sim_op (so_in (neg := false)) (SimE.p (sim_op so_ix (SimE.p (sim_var)) (SimE.p (sim_int)))) (SimE.p (sim_tup (sim_lcons ((sim_str (by decide +kernel))) (sim_lcons ((sim_str (by decide +kernel))) (sim_lnil)))))))) (sims_seq (sims_set (sim_andT (sim_notT (SimE.p (sim_var))) (sim_orT (sim_notT (SimE.p (sim_var))) (sim_op (so_in (neg := false)) (SimE.p (sim_op so_ix (SimE.p (sim_var)) (SimE.p (sim_int)))) (SimE.p (sim_tup (sim_lcons ((sim_str (by decide +kernel))) (sim_lcons ((sim_str (by decide +kernel))) (sim_lnil))))))))) (sims_ret (sim_tup (sim_lcons (sim_var) (sim_lcons (sim_var) (sim_lcons (sim_var) (sim_lcons (sim_orT (sim_var) (sim_op so_ne (SimE.p (sim_op so_ix (SimE.p (sim_var)) (SimE.p (sim_int)))) (SimE.p ((sim_str (by decide +kernel)))))) (sim_lcons (sim_bl) (sim_lnil)))))))))) (sims_next)) (sims_seq (sims_set (sim_ifE (sim_tst (SimE.p (sim_op so_eq (SimE.p (sim_op so_ix (SimE.p (sim_var)) (SimE.p (sim_int)))) (SimE.p ((sim_str (by decide +kernel))))))) (sim_sl ss_cut (SimE.p (sim_op so_ix (SimE.p (sim_var)) (SimE.p (sim_int)))) (sim_oyes (SimE.p (sim_callA (sim_acons (sim_var) (sim_acons (sim_var) (sim_anil)))))) sim_ono) (sim_op so_ix (SimE.p (sim_var)) (SimE.p (sim_int))))) (sims_seq (sims_set (SimF.e (simF_lc (simIP_any (SimE.p (sim_var))) (simg_name (i := 10)) (sim_yes) (sim_callA (sim_acons (sim_var) (sim_acons (sim_var) (sim_acons (sim_var) (sim_anil))))) (by decide)))) (sims_seq (sims_set (sim_callX (W := tabW K [("_law_row_marks", ((wp__law_row_marks) K)), ("_law_side_marks", ((wp__law_side_marks) K)), ("_law_else_marks", ((wp__law_else_marks) K))]) tab_ok (simv_sel (kvs := [("row", V.ref (He.ga K "_law_row_marks")), ("side", V.ref (He.ga K "_law_side_marks")), ("else", V.ref (He.ga K "_law_else_marks"))]) (ks := ["row", "side", "else"]) rfl rfl (by decide +kernel) (by decide) (SimE.p (sim_op so_ix (SimE.p (sim_var)) (SimE.p (sim_int))))) (sim_acons (sim_var) (sim_anil)))) (sims_seq (sims_if (sim_truK (SimE.p (sim_var))) (sims_ret (sim_tup (sim_lcons (sim_var) (sim_lcons (sim_op so_ix (SimE.p (sim_var)) (SimE.p (sim_int))) (sim_lcons (sim_bl) (sim_lcons (sim_op so_ix (SimE.p (sim_var)) (SimE.p (sim_int))) (sim_lcons (sim_op so_ix (SimE.p (sim_var)) (SimE.p (sim_int))) (sim_lnil)))))))) (sims_next)) (sims_ret (sim_op so_add (SimE.p (sim_tup (sim_lcons (sim_var) (sim_lnil)))) (SimE.p (sim_var))))))))))) (fun as Qd h => h.2) vs H Q E h
theorem okT_52 (fx : Fx fal gsl fnl K mg) (G__law_is_dead : OkF P w K mg base 50 "_law_is_dead" (spA K ((fun K => wpR__law_is_dead K 24 0) K))) (G__law_is_firm : OkF P w K mg base 1 "_law_is_firm" (spA K ((wp__law_is_firm) K))) (G__law_row_marks : OkF P w K mg base 2 "_law_row_marks" (spA K ((wp__law_row_marks) K))) (G__law_side_marks : OkF P w K mg base 1 "_law_side_marks" (spA K ((wp__law_side_marks) K))) (G__law_else_marks : OkF P w K mg base 2 "_law_else_marks" (spA K ((wp__law_else_marks) K))) (G__law_deeds : OkF P w K mg base 24 "_law_deeds" (spA K ((fun K => wpR__law_deeds K 24 0) K))) (G__law_force : OkF P w K mg base 26 "_law_force" (spA K ((wp__law_force) K))) : ∀ n : Nat, OkF P w K mg base (50 + n) "_law_marks" (spA K (wpR__law_marks K n 0))
  | 0 => okF_never (st := st__law_marks) (ps := ["part", "state", "pins"]) (fx.fd 48 "_law_marks" st__law_marks) (fx.glo 48 "_law_marks") (fun _ _ _ _ _ _ us hl => match us, hl with | [_, _, _], _ => rfl) (spA_never fun _ _ h => h)
  | n + 1 => by
    have ih := okT_52 fx G__law_is_dead G__law_is_firm G__law_row_marks G__law_side_marks G__law_else_marks G__law_deeds G__law_force n
    exact okS__law_marks n fx G__law_is_dead G__law_is_firm G__law_row_marks G__law_side_marks G__law_else_marks G__law_deeds G__law_force ih
theorem okS__law_places (n : Nat) (fx : Fx fal gsl fnl K mg)  (G__law_places : OkF P w K mg base (0 + n) "_law_places" (spA K (wpR__law_places K n 0))) : OkF P w K mg base (0 + n + 1) "_law_places" (spA K (wpR__law_places K (n + 1) 0)) := by
  have fr_enumerate := fx.free 60 "enumerate"
  refine okF_of (st := st__law_places) (N := ["part", "place", "found", "k", "member"]) (ps := ["part", "place"]) (fx.fd 54 "_law_places" st__law_places) (fx.glo 54 "_law_places") sc__law_places (fun _ _ _ _ _ _ us hl => match us, hl with | [_, _], _ => rfl) (spA_len fun as Qd h => h.1) (fun fd cdv A outer s H vs Q E hg hr h => ?_)
  have hu := VL.hu_of hr
  have hu1 := L2.hu_of hr
  refine ⟨_, PSs.nox (pss_cons (ps_set (i := 2) sc__law_places.nd (by rfl) (by exact Or.inl rfl) (pe_lst (pa_cons (pv 1) (pa_nil)))) (pss_cons (ps_for PassesOwn.never (by rfl) (pi_enumK K (by rfl) fr_enumerate (pa_cons (pe_ifExp (pt_cmpR (opK K rNeR (op_neR hu) (by rfl)) (pe_ix (ixK K rIxAll (ix_all hu) (by rfl)) (pv 0) (pe_int) (by exact fun _ _ => rfl)) (pe_str) (nomark _)) (pe_ix (ixK K rIxAll (ix_all hu) (by rfl)) (pv 0) (pe_int) (by exact fun _ _ => rfl)) (pe_tup (pa_nil))) (pa_nil)) (by rfl)) (pg_tupK K (n := 2) (by rfl) (pgs_cons (pg_name (i := 3) sc__law_places.nd (by rfl) (by first | exact Or.inl rfl | exact Or.inr rfl)) (pgs_cons (pg_name (i := 4) sc__law_places.nd (by rfl) (by first | exact Or.inl rfl | exact Or.inr rfl)) (pgs_nil))) (by rfl)) (pss_one (ps_set (i := 2) sc__law_places.nd (by rfl) (by exact Or.inl rfl) (pe_op (opK K rAddAll op_addAll (by rfl)) (pv 2) (pe_callO G__law_places hg hr (by omega) (by rfl) (pa_cons (pv 4) (pa_cons (pe_op (opK K rAddAll op_addAll (by rfl)) (pv 1) (pe_tup (pa_cons (pv 3) (pa_nil)))) (pa_nil)))))))) (pss_one (ps_ret (pv 2))))), ?_⟩
  exact spA_of (fun o => sims_seq (sims_set (SimF.e (simF_lst (sim_lcons (sim_var) (sim_lnil))))) (sims_seq (sims_for (simI_enum (sim_lcons (sim_ifE (sim_tst (SimE.p (sim_op so_ne (SimE.p (sim_op so_ix (SimE.p (sim_var)) (SimE.p (sim_int)))) (SimE.p ((sim_str (by decide +kernel))))))) (sim_op so_ix (SimE.p (sim_var)) (SimE.p (sim_int))) (sim_tup (sim_lnil))) (sim_lnil))) (simg_tup (n := 2) (simgs_cons (simg_name (i := 3)) (simgs_cons (simg_name (i := 4)) (simgs_nil)))) (sims_set (sim_op so_add (SimE.p (sim_var)) (SimE.p (sim_callA (sim_acons (sim_var) (sim_acons (sim_op so_add (SimE.p (sim_var)) (SimE.p (sim_tup (sim_lcons (sim_var) (sim_lnil))))) (sim_anil)))))))) (sims_ret (sim_var)))) (fun as Qd h => h.2) vs H Q E h
theorem okT_53 (fx : Fx fal gsl fnl K mg)  : ∀ n : Nat, OkF P w K mg base (0 + n) "_law_places" (spA K (wpR__law_places K n 0))
  | 0 => okF_never (st := st__law_places) (ps := ["part", "place"]) (fx.fd 54 "_law_places" st__law_places) (fx.glo 54 "_law_places") (fun _ _ _ _ _ _ us hl => match us, hl with | [_, _], _ => rfl) (spA_never fun _ _ h => h)
  | n + 1 => by
    have ih := okT_53 fx  n
    exact okS__law_places n fx  ih
theorem ok__law_at (fx : Fx fal gsl fnl K mg)  : OkF P w K mg base 1 "_law_at" (spA K ((wp__law_at) K)) := by
  refine okF_of (st := st__law_at) (N := ["plan", "place", "part", "k"]) (ps := ["plan", "place"]) (fx.fd 55 "_law_at" st__law_at) (fx.glo 55 "_law_at") sc__law_at (fun _ _ _ _ _ _ us hl => match us, hl with | [_, _], _ => rfl) (spA_len fun as Qd h => h.1) (fun fd cdv A outer s H vs Q E hg hr h => ?_)
  have hu := VL.hu_of hr
  have hu1 := L2.hu_of hr
  refine ⟨_, PSs.nox (pss_cons (ps_set (i := 2) sc__law_at.nd (by rfl) (by exact Or.inl rfl) (pv 0)) (pss_cons (ps_for PassesOwn.never (by rfl) (pi_anyK K (pv 1) (by rfl)) (pg_name (i := 3) sc__law_at.nd (by rfl) (by first | exact Or.inl rfl | exact Or.inr rfl)) (pss_one (ps_set (i := 2) sc__law_at.nd (by rfl) (by exact Or.inl rfl) (pe_ix (ixK K rIxAll (ix_all hu) (by rfl)) (pe_ix (ixK K rIxAll (ix_all hu) (by rfl)) (pv 2) (pe_int) (by exact fun _ _ => rfl)) (pv 3) (by exact fun _ _ => rfl))))) (pss_one (ps_ret (pv 2))))), ?_⟩
  exact spA_of (fun o => sims_seq (sims_set (sim_var)) (sims_seq (sims_for (simI_any (sim_var)) (simg_name (i := 3)) (sims_set (sim_op so_ix (SimE.p (sim_op so_ix (SimE.p (sim_var)) (SimE.p (sim_int)))) (SimE.p (sim_var))))) (sims_ret (sim_var)))) (fun as Qd h => h.2) vs H Q E h
theorem ok__law_led (fx : Fx fal gsl fnl K mg) (G__law_pick : OkF P w K mg base 1 "_law_pick" (spA K ((wpPick) K))) (G__law_going : OkF P w K mg base 48 "_law_going" (spA K ((fun K => wpR__law_going K 24 0) K))) (G__law_is_lost : OkF P w K mg base 24 "_law_is_lost" (spA K ((fun K => wpR__law_is_lost K 24 0) K))) (G__law_with : OkF P w K mg base 1 "_law_with" (spA K ((wp__law_with) K))) (G__law_deeds : OkF P w K mg base 24 "_law_deeds" (spA K ((fun K => wpR__law_deeds K 24 0) K))) (G__law_may_try : OkF P w K mg base 74 "_law_may_try" (spA K ((fun K => wpR__law_may_try K 24 0) K))) (G__law_is_firm : OkF P w K mg base 1 "_law_is_firm" (spA K ((wp__law_is_firm) K))) (G__law_any_order : OkF P w K mg base 2 "_law_any_order" (spA K ((wpAnyOrder) K))) (G__law_answers : OkF P w K mg base 1 "_law_answers" (spA K ((wp__law_answers) K))) : OkF P w K mg base 75 "_law_led" (spA K ((wp__law_led) K)) := by
  have fr_any := fx.free 62 "any"
  have fr_dict := fx.free 72 "dict"
  have fr_len := fx.free 61 "len"
  have fr_range := fx.free 67 "range"
  refine okF_of (st := st__law_led) (N := ["source", "plan", "most", "state", "lap", "gone", "deeds", "deed", "words"]) (ps := ["source", "plan", "most"]) (fx.fd 56 "_law_led" st__law_led) (fx.glo 56 "_law_led") sc__law_led (fun _ _ _ _ _ _ us hl => match us, hl with | [_, _, _], _ => rfl) (spA_len fun as Qd h => h.1) (fun fd cdv A outer s H vs Q E hg hr h => ?_)
  have hu := VL.hu_of hr
  have hu1 := L2.hu_of hr
  refine ⟨_, PSs.nox (pss_cons (ps_set (i := 3) sc__law_led.nd (by rfl) (by exact Or.inr rfl) (pe_callTy (callK K rDictOf (call_dictOf (by rfl)) (by rfl)) (by rfl) fr_dict boot_dict (pa_cons (pe_lc (own := [("deed", 7)]) (by rfl) sc__law_led.nd (pi_anyK K (pe_callO G__law_deeds hg hr (by omega) (by rfl) (pa_cons (pv 1) (pa_nil))) (by rfl)) (blkOk_by (N := ["source", "plan", "most", "state", "lap", "gone", "deeds", "deed", "words"]) (sc := defScope st__law_led) (by decide +kernel)) (fun _ _ _ _ _ => pg_name (i := 7) sc__law_led.nd (by rfl) (by first | exact Or.inl rfl | exact Or.inr rfl)) (fun _ _ _ _ _ => pts_nil) (fun _ _ _ _ _ => pe_tup (pa_cons (pe_ix (ixK K rIxAll (ix_all hu) (by rfl)) (pv 7) (pe_int) (by exact fun _ _ => rfl)) (pa_cons (pe_str) (pa_nil))))) (pa_nil)))) (pss_cons (ps_for PassesOwn.never (by rfl) (pi_range1 (by rfl) fr_range (pa_cons (pe_callO G__law_pick hg hr (by omega) (by rfl) (pa_cons (pv 0) (pa_cons (pv 2) (pa_nil)))) (pa_nil))) (pg_name (i := 4) sc__law_led.nd (by rfl) (by first | exact Or.inl rfl | exact Or.inr rfl)) (pss_cons (ps_set (i := 5) sc__law_led.nd (by rfl) (by exact Or.inr rfl) (pe_callO G__law_going hg hr (by omega) (by rfl) (pa_cons (pv 1) (pa_cons (pv 3) (pa_cons (pe_callO G__law_is_lost hg hr (by omega) (by rfl) (pa_cons (pv 1) (pa_cons (pv 3) (pa_nil)))) (pa_nil)))))) (pss_cons (ps_if (PW.pt (pw_and (pt_cmpR (opK K rNeR (op_neR hu) (by rfl)) (pv 5) (pe_lst (pa_nil)) (nomark _)) (pw_and1 (pt_cmpR (opK K rEqR (op_eqR hu) (by rfl)) (pe_callO G__law_pick hg hr (by omega) (by rfl) (pa_cons (pv 0) (pa_cons (pe_int) (pa_nil)))) (pe_int) (nomark _))))) (pss_one (ps_ret (pv 3))) (pss_nil)) (pss_cons (ps_setLc (i := 6) (own := [("deed", 7)]) (by rfl) sc__law_led.nd (by rfl) (by rfl) (sw_true (by rfl) (by rfl) (by rfl) (by decide +kernel)) (pi_anyK K (pe_callO G__law_deeds hg hr (by omega) (by rfl) (pa_cons (pv 1) (pa_nil))) (by rfl)) (blkOk_by (N := ["source", "plan", "most", "state", "lap", "gone", "deeds", "deed", "words"]) (sc := defScope st__law_led) (by decide +kernel)) (fun _ _ _ _ _ => pg_name (i := 7) sc__law_led.nd (by rfl) (by first | exact Or.inl rfl | exact Or.inr rfl)) (fun _ _ _ _ _ => pts_one (pt_cmpR (opK K (fun K => rInAll K false) (op_inAll hu) (by rfl)) (pe_ix (ixK K rIxAll (ix_all hu) (by rfl)) (pv 7) (pe_int) (by exact fun _ _ => rfl)) (pv 5) (by rfl))) (fun _ _ _ _ _ => pv 7)) (pss_cons (ps_if (PW.pt (pw_or (pt_truK K (pe_callB (callK K (fun K => rAnyR K false) (call_anyR (by rfl)) (by rfl)) (by rfl) fr_any boot_any (pa_cons (pe_lc (own := [("deed", 7)]) (by rfl) sc__law_led.nd (pi_anyK K (pv 6) (by rfl)) (blkOk_by (N := ["source", "plan", "most", "state", "lap", "gone", "deeds", "deed", "words"]) (sc := defScope st__law_led) (by decide +kernel)) (fun _ _ _ _ _ => pg_name (i := 7) sc__law_led.nd (by rfl) (by first | exact Or.inl rfl | exact Or.inr rfl)) (fun _ _ _ _ _ => pts_nil) (fun _ _ _ _ _ => pe_callO G__law_is_firm hg hr (by omega) (by rfl) (pa_cons (pv 7) (pa_cons (pv 3) (pa_cons (pe_tup (pa_nil)) (pa_nil)))))) (pa_nil))) (by exact fun _ => rfl) (by rfl)) (pw_or1 (PW.pt (pw_and (pt_truK K (pe_callO G__law_is_lost hg hr (by omega) (by rfl) (pa_cons (pv 1) (pa_cons (pv 3) (pa_nil)))) (by exact fun _ => rfl) (by rfl)) (pw_and1 (pt_cmpR (opK K rEqR (op_eqR hu) (by rfl)) (pv 5) (pe_lst (pa_nil)) (nomark _)))))))) (pss_one (ps_ret (pv 3))) (pss_nil)) (pss_one (ps_if (pt_cmpR (opK K rNeR (op_neR hu) (by rfl)) (pv 5) (pe_lst (pa_nil)) (nomark _)) (pss_one (ps_set (i := 3) sc__law_led.nd (by rfl) (by exact Or.inr rfl) (pe_callO G__law_with hg hr (by omega) (by rfl) (pa_cons (pv 3) (pa_cons (pe_ix (ixK K rIxAll (ix_all hu) (by rfl)) (pv 5) (pe_un un_neg (pe_int)) (by exact fun _ _ => rfl)) (pa_cons (pe_str) (pa_nil))))))) (pss_one (ps_if (pt_cmpR (opK K rNeR (op_neR hu) (by rfl)) (pe_callO G__law_may_try hg hr (by omega) (by rfl) (pa_cons (pv 1) (pa_cons (pv 3) (pa_nil)))) (pe_lst (pa_nil)) (nomark _)) (pss_cons (ps_set (i := 7) sc__law_led.nd (by rfl) (by exact Or.inl rfl) (pe_ix (ixK K rIxAll (ix_all hu) (by rfl)) (pe_callO G__law_any_order hg hr (by omega) (by rfl) (pa_cons (pv 0) (pa_cons (pe_callO G__law_may_try hg hr (by omega) (by rfl) (pa_cons (pv 1) (pa_cons (pv 3) (pa_nil)))) (pa_nil)))) (pe_int) (by exact fun _ _ => rfl))) (pss_cons (ps_set (i := 8) sc__law_led.nd (by rfl) (by exact Or.inl rfl) (pe_op (opK K rAddAll op_addAll (by rfl)) (pe_callO G__law_answers hg hr (by omega) (by rfl) (pa_cons (pv 7) (pa_nil))) (pe_lst (pa_cons (pe_str) (pa_nil))))) (pss_one (ps_set (i := 3) sc__law_led.nd (by rfl) (by exact Or.inr rfl) (pe_callO G__law_with hg hr (by omega) (by rfl) (pa_cons (pv 3) (pa_cons (pe_ix (ixK K rIxAll (ix_all hu) (by rfl)) (pv 7) (pe_int) (by exact fun _ _ => rfl)) (pa_cons (pe_ix (ixK K rIxAll (ix_all hu) (by rfl)) (pv 8) (pe_callO G__law_pick hg hr (by omega) (by rfl) (pa_cons (pv 0) (pa_cons (pe_callB (callK K rLenAll call_lenAll (by rfl)) (by rfl) fr_len boot_len (pa_cons (pv 8) (pa_nil))) (pa_nil)))) (by exact fun _ _ => rfl)) (pa_nil))))))))) (pss_nil)))))))))) (pss_one (ps_ret (pv 3))))), ?_⟩
  exact spA_of (fun o => sims_seq (sims_set (SimF.e (simF_b sbF_dict (sim_pcons (SimE.p (SimF.e (simF_lc (simIP_any (SimE.p (sim_callA (sim_acons (sim_var) (sim_anil))))) (simg_name (i := 7)) (sim_yes) (sim_tup (sim_lcons (sim_op so_ix (SimE.p (sim_var)) (SimE.p (sim_int))) (sim_lcons ((sim_str (by decide +kernel))) (sim_lnil)))) (by decide)))) (sim_pnil))))) (sims_seq (sims_for (simI_rng1 (sim_pcons (SimE.p (sim_callA (sim_asrc (sim_acons (sim_var) (sim_anil))))) (sim_pnil))) (simg_name (i := 4)) (sims_seq (sims_set (sim_callA (sim_acons (sim_var) (sim_acons (sim_var) (sim_acons (sim_callA (sim_acons (sim_var) (sim_acons (sim_var) (sim_anil)))) (sim_anil)))))) (sims_seq (sims_if (sim_and (sim_tst (SimE.p (sim_op so_ne (SimE.p (sim_var)) (SimE.p (SimF.e (simF_lst (sim_lnil))))))) (sim_tst (SimE.p (sim_op so_eq (SimE.p (sim_callA (sim_asrc (sim_acons (sim_int) (sim_anil))))) (SimE.p (sim_int)))))) (sims_ret (sim_var)) (sims_next)) (sims_seq (sims_set (SimF.e (simF_lc (simIP_any (SimE.p (sim_callA (sim_acons (sim_var) (sim_anil))))) (simg_name (i := 7)) (sim_tst (SimE.p (sim_op (so_in (neg := false)) (SimE.p (sim_op so_ix (SimE.p (sim_var)) (SimE.p (sim_int)))) (SimE.p (sim_var))))) (sim_var) (by decide)))) (sims_seq (sims_if (sim_or (sim_truK (SimE.p (sim_b sb_any (sim_pcons (SimE.p (SimF.e (simF_lc (simIP_any (SimE.p (sim_var))) (simg_name (i := 7)) (sim_yes) (sim_callA (sim_acons (sim_var) (sim_acons (sim_var) (sim_acons (sim_tup (sim_lnil)) (sim_anil))))) (by decide)))) (sim_pnil))))) (sim_and (sim_truK (SimE.p (sim_callA (sim_acons (sim_var) (sim_acons (sim_var) (sim_anil)))))) (sim_tst (SimE.p (sim_op so_eq (SimE.p (sim_var)) (SimE.p (SimF.e (simF_lst (sim_lnil))))))))) (sims_ret (sim_var)) (sims_next)) (sims_if (sim_tst (SimE.p (sim_op so_ne (SimE.p (sim_var)) (SimE.p (SimF.e (simF_lst (sim_lnil))))))) (sims_set (sim_callA (sim_acons (sim_var) (sim_acons (sim_op so_ix (SimE.p (sim_var)) (SimE.p (sim_un su_neg (SimE.p (sim_int))))) (sim_acons ((sim_str (by decide +kernel))) (sim_anil)))))) (sims_if (sim_tst (SimE.p (sim_op so_ne (SimE.p (sim_callA (sim_acons (sim_var) (sim_acons (sim_var) (sim_anil))))) (SimE.p (SimF.e (simF_lst (sim_lnil))))))) (sims_seq (sims_set (sim_op so_ix (SimE.p (sim_callA (sim_asrc (sim_acons (sim_callA (sim_acons (sim_var) (sim_acons (sim_var) (sim_anil)))) (sim_anil))))) (SimE.p (sim_int)))) (sims_seq (sims_set (sim_op so_add (SimE.p (sim_callA (sim_acons (sim_var) (sim_anil)))) (SimE.p (SimF.e (simF_lst (sim_lcons ((sim_str (by decide +kernel))) (sim_lnil))))))) (sims_set (sim_callA (sim_acons (sim_var) (sim_acons (sim_op so_ix (SimE.p (sim_var)) (SimE.p (sim_int))) (sim_acons (sim_op so_ix (SimE.p (sim_var)) (SimE.p (sim_callA (sim_asrc (sim_acons (sim_b sb_len (sim_pcons (SimE.p (sim_var)) (sim_pnil))) (sim_anil)))))) (sim_anil)))))))) (sims_next)))))))) (sims_ret (sim_var)))) (fun as Qd h => h.2) vs H Q E h
theorem ok__law_pins (fx : Fx fal gsl fnl K mg) (G__law_going : OkF P w K mg base 48 "_law_going" (spA K ((fun K => wpR__law_going K 24 0) K))) (G__law_is_lost : OkF P w K mg base 24 "_law_is_lost" (spA K ((fun K => wpR__law_is_lost K 24 0) K))) (G__law_pick : OkF P w K mg base 1 "_law_pick" (spA K ((wpPick) K))) (G__law_deeds : OkF P w K mg base 24 "_law_deeds" (spA K ((fun K => wpR__law_deeds K 24 0) K))) : OkF P w K mg base 49 "_law_pins" (spA K ((wp__law_pins) K)) := by
  have fr_sorted := fx.free 71 "sorted"
  have fr_tuple := fx.free 66 "tuple"
  refine okF_of (st := st__law_pins) (N := ["source", "plan", "state", "gone", "done", "deed", "name"]) (ps := ["source", "plan", "state"]) (fx.fd 57 "_law_pins" st__law_pins) (fx.glo 57 "_law_pins") sc__law_pins (fun _ _ _ _ _ _ us hl => match us, hl with | [_, _, _], _ => rfl) (spA_len fun as Qd h => h.1) (fun fd cdv A outer s H vs Q E hg hr h => ?_)
  have hu := VL.hu_of hr
  have hu1 := L2.hu_of hr
  refine ⟨_, PSs.nox (pss_cons (ps_set (i := 3) sc__law_pins.nd (by rfl) (by exact Or.inr rfl) (pe_callO G__law_going hg hr (by omega) (by rfl) (pa_cons (pv 1) (pa_cons (pv 2) (pa_cons (pe_callO G__law_is_lost hg hr (by omega) (by rfl) (pa_cons (pv 1) (pa_cons (pv 2) (pa_nil)))) (pa_nil)))))) (pss_cons (ps_setLc (i := 4) (own := [("deed", 5)]) (by rfl) sc__law_pins.nd (by rfl) (by rfl) (sw_true (by rfl) (by rfl) (by rfl) (by decide +kernel)) (pi_anyK K (pe_callO G__law_deeds hg hr (by omega) (by rfl) (pa_cons (pv 1) (pa_nil))) (by rfl)) (blkOk_by (N := ["source", "plan", "state", "gone", "done", "deed", "name"]) (sc := defScope st__law_pins) (by decide +kernel)) (fun _ _ _ _ _ => pg_name (i := 5) sc__law_pins.nd (by rfl) (by first | exact Or.inl rfl | exact Or.inr rfl)) (fun _ _ _ _ _ => pts_one (PW.pt (pw_and (pt_cmpR (opK K rEqR (op_eqR hu) (by rfl)) (pe_ix (ixK K rIxAll (ix_all hu) (by rfl)) (pv 2) (pe_ix (ixK K rIxAll (ix_all hu) (by rfl)) (pv 5) (pe_int) (by exact fun _ _ => rfl)) (by exact fun _ _ => rfl)) (pe_str) (nomark _)) (pw_and1 (pt_cmpR (opK K (fun K => rInAll K true) (op_notInAll hu) (by rfl)) (pe_ix (ixK K rIxAll (ix_all hu) (by rfl)) (pv 5) (pe_int) (by exact fun _ _ => rfl)) (pv 3) (by rfl)))))) (fun _ _ _ _ _ => pe_ix (ixK K rIxAll (ix_all hu) (by rfl)) (pv 5) (pe_int) (by exact fun _ _ => rfl))) (pss_cons (ps_if (pt_cmpR (opK K rEqR (op_eqR hu) (by rfl)) (pe_callO G__law_pick hg hr (by omega) (by rfl) (pa_cons (pv 0) (pa_cons (pe_int) (pa_nil)))) (pe_int) (nomark _)) (pss_one (ps_ret (pe_tup (pa_nil)))) (pss_nil)) (pss_one (ps_ret (pe_callTy (callK K rTupleOf call_tuple_of (by rfl)) (by rfl) fr_tuple boot_tuple (pa_cons (pe_callB (callK K rSortD (call_sortedR hu) (by rfl)) (by rfl) fr_sorted boot_sorted (pa_cons (pe_lc (own := [("name", 6)]) (by rfl) sc__law_pins.nd (pi_anyK K (pv 4) (by rfl)) (blkOk_by (N := ["source", "plan", "state", "gone", "done", "deed", "name"]) (sc := defScope st__law_pins) (by decide +kernel)) (fun _ _ _ _ _ => pg_name (i := 6) sc__law_pins.nd (by rfl) (by first | exact Or.inl rfl | exact Or.inr rfl)) (fun _ _ _ _ _ => pts_one (pt_cmpR (opK K rEqR (op_eqR hu) (by rfl)) (pe_callO G__law_pick hg hr (by omega) (by rfl) (pa_cons (pv 0) (pa_cons (pe_int) (pa_nil)))) (pe_int) (nomark _))) (fun _ _ _ _ _ => pv 6)) (pa_nil))) (pa_nil)))))))), ?_⟩
  exact spA_of (fun o => sims_seq (sims_set (sim_callA (sim_acons (sim_var) (sim_acons (sim_var) (sim_acons (sim_callA (sim_acons (sim_var) (sim_acons (sim_var) (sim_anil)))) (sim_anil)))))) (sims_seq (sims_set (SimF.e (simF_lc (simIP_any (SimE.p (sim_callA (sim_acons (sim_var) (sim_anil))))) (simg_name (i := 5)) (sim_and (sim_tst (SimE.p (sim_op so_eq (SimE.p (sim_op so_ix (SimE.p (sim_var)) (SimE.p (sim_op so_ix (SimE.p (sim_var)) (SimE.p (sim_int)))))) (SimE.p ((sim_str (by decide +kernel))))))) (sim_tst (SimE.p (sim_op (so_in (neg := true)) (SimE.p (sim_op so_ix (SimE.p (sim_var)) (SimE.p (sim_int)))) (SimE.p (sim_var)))))) (sim_op so_ix (SimE.p (sim_var)) (SimE.p (sim_int))) (by decide)))) (sims_seq (sims_if (sim_tst (SimE.p (sim_op so_eq (SimE.p (sim_callA (sim_asrc (sim_acons (sim_int) (sim_anil))))) (SimE.p (sim_int))))) (sims_ret (sim_tup (sim_lnil))) (sims_next)) (sims_ret (sim_b sb_tuple (sim_pcons (SimE.p (SimF.e (simF_b sbF_sorted (sim_pcons (SimE.p (SimF.e (simF_lc (simIP_any (SimE.p (sim_var))) (simg_name (i := 6)) (sim_tst (SimE.p (sim_op so_eq (SimE.p (sim_callA (sim_asrc (sim_acons (sim_int) (sim_anil))))) (SimE.p (sim_int))))) (sim_var) (by decide)))) (sim_pnil))))) (sim_pnil))))))) (fun as Qd h => h.2) vs H Q E h
theorem ok__law_one_right (fx : Fx fal gsl fnl K mg) (G__law_at : OkF P w K mg base 1 "_law_at" (spA K ((wp__law_at) K))) (G__law_marks : OkF P w K mg base 74 "_law_marks" (spA K ((fun K => wpR__law_marks K 24 0) K))) (G__law_places : OkF P w K mg base 24 "_law_places" (spA K ((fun K => wpR__law_places K 24 0) K))) (G__law_standing : OkF P w K mg base 25 "_law_standing" (spA K ((wp__law_standing) K))) (G__law_pick : OkF P w K mg base 1 "_law_pick" (spA K ((wpPick) K))) (G_is_good : OkF P w K mg base 103 "is_good" (spA K ((wp_is_good) K))) (G__law_force : OkF P w K mg base 26 "_law_force" (spA K ((wp__law_force) K))) (G__law_come : OkF P w K mg base 1 "_law_come" (spA K ((wp__law_come) K))) (G_has_mark : OkF P w K mg base 103 "has_mark" (spA K ((wp_has_mark) K))) (G_hinges : OkF P w K mg base 102 "hinges" (spA K ((wp_hinges) K))) (G_comes_to : OkF P w K mg base 102 "comes_to" (spA K ((wp_comes_to) K))) (G__law_hinges : OkF P w K mg base 1 "_law_hinges" (spA K ((wp__law_hinges) K))) : OkF P w K mg base 104 "_law_one_right" (spA K ((wp__law_one_right) K)) := by
  have fr_len := fx.free 61 "len"
  have fr_list := fx.free 70 "list"
  have fr_range := fx.free 67 "range"
  have fr_repr := fx.free 73 "repr"
  have fr_tuple := fx.free 66 "tuple"
  refine okF_of (st := st__law_one_right) (N := ["source", "plan", "state", "pins", "places", "standing", "place", "part", "due", "told", "first", "many", "rows", "some", "mark", "member"]) (ps := ["source", "plan", "state", "pins"]) (fx.fd 58 "_law_one_right" st__law_one_right) (fx.glo 58 "_law_one_right") sc__law_one_right (fun _ _ _ _ _ _ us hl => match us, hl with | [_, _, _, _], _ => rfl) (spA_len fun as Qd h => h.1) (fun fd cdv A outer s H vs Q E hg hr h => ?_)
  have hu := VL.hu_of hr
  have hu1 := L2.hu_of hr
  refine ⟨_, PSs.nox (pss_cons (ps_asg (pe_tup (pa_cons (pe_callO G__law_places hg hr (by omega) (by rfl) (pa_cons (pv 1) (pa_cons (pe_tup (pa_nil)) (pa_nil)))) (pa_cons (pe_callO G__law_standing hg hr (by omega) (by rfl) (pa_cons (pv 1) (pa_cons (pv 2) (pa_nil)))) (pa_nil)))) (pg_tupK K (n := 2) (by rfl) (pgs_cons (pg_name (i := 4) sc__law_one_right.nd (by rfl) (by first | exact Or.inl rfl | exact Or.inr rfl)) (pgs_cons (pg_name (i := 5) sc__law_one_right.nd (by rfl) (by first | exact Or.inl rfl | exact Or.inr rfl)) (pgs_nil))) (by rfl))) (pss_cons (ps_set (i := 6) sc__law_one_right.nd (by rfl) (by exact Or.inr rfl) (pe_ix (ixK K rIxAll (ix_all hu) (by rfl)) (pv 4) (pe_callO G__law_pick hg hr (by omega) (by rfl) (pa_cons (pv 0) (pa_cons (pe_callB (callK K rLenAll call_lenAll (by rfl)) (by rfl) fr_len boot_len (pa_cons (pv 4) (pa_nil))) (pa_nil)))) (by exact fun _ _ => rfl))) (pss_cons (ps_set (i := 7) sc__law_one_right.nd (by rfl) (by exact Or.inl rfl) (pe_callO G__law_at hg hr (by omega) (by rfl) (pa_cons (pv 1) (pa_cons (pv 6) (pa_nil))))) (pss_cons (ps_set (i := 8) sc__law_one_right.nd (by rfl) (by exact Or.inl rfl) (pe_callO G__law_marks hg hr (by omega) (by rfl) (pa_cons (pv 7) (pa_cons (pv 2) (pa_cons (pv 3) (pa_nil)))))) (pss_cons (ps_set (i := 9) sc__law_one_right.nd (by rfl) (by exact Or.inl rfl) (pe_lst (pa_cons (pe_callO G_is_good hg hr (by omega) (by rfl) (pa_cons (pv 1) (pa_cons (pv 5) (pa_cons (pv 3) (pa_cons (pv 6) (pa_nil)))))) (pa_nil)))) (pss_cons (ps_set (i := 9) sc__law_one_right.nd (by rfl) (by exact Or.inl rfl) (pe_op (opK K rAddAll op_addAll (by rfl)) (pv 9) (pe_lc (own := [("mark", 14)]) (by rfl) sc__law_one_right.nd (pi_anyK K (pe_tup (pa_cons (pe_str) (pa_cons (pe_str) (pa_cons (pe_str) (pa_cons (pe_str) (pa_nil)))))) (by rfl)) (blkOk_by (N := ["source", "plan", "state", "pins", "places", "standing", "place", "part", "due", "told", "first", "many", "rows", "some", "mark", "member"]) (sc := defScope st__law_one_right) (by decide +kernel)) (fun _ _ _ _ _ => pg_name (i := 14) sc__law_one_right.nd (by rfl) (by first | exact Or.inl rfl | exact Or.inr rfl)) (fun _ _ _ _ _ => pts_nil) (fun _ _ _ _ _ => pe_callO G_has_mark hg hr (by omega) (by rfl) (pa_cons (pv 1) (pa_cons (pv 5) (pa_cons (pv 3) (pa_cons (pv 6) (pa_cons (pv 14) (pa_nil)))))))))) (pss_cons (ps_if (pt_cmpR (opK K rNeR (op_neR hu) (by rfl)) (pe_callB (callK K rRepr (call_reprR hg hu) (by rfl)) (by rfl) fr_repr boot_repr (pa_cons (pv 9) (pa_nil))) (pe_callB (callK K rRepr (call_reprR hg hu) (by rfl)) (by rfl) fr_repr boot_repr (pa_cons (pe_callTy (callK K rListOf (call_listAll (by rfl)) (by rfl)) (by rfl) fr_list boot_list (pa_cons (pv 8) (pa_nil))) (pa_nil))) (nomark _)) (pss_one (ps_ret (pe_bl))) (pss_nil)) (pss_cons (ps_if (pt_cmpR (opK K rEqR (op_eqR hu) (by rfl)) (pe_ix (ixK K rIxAll (ix_all hu) (by rfl)) (pv 7) (pe_int) (by exact fun _ _ => rfl)) (pe_str) (nomark _)) (pss_cons (ps_set (i := 10) sc__law_one_right.nd (by rfl) (by exact Or.inl rfl) (pe_callO G__law_force hg hr (by omega) (by rfl) (pa_cons (pv 7) (pa_cons (pv 2) (pa_nil))))) (pss_cons (ps_set (i := 11) sc__law_one_right.nd (by rfl) (by exact Or.inl rfl) (pe_callO G__law_come hg hr (by omega) (by rfl) (pa_cons (pe_lc (own := [("member", 15)]) (by rfl) sc__law_one_right.nd (pi_anyK K (pe_slice (slK K rSlAll sl_all (by rfl)) (pe_ix (ixK K rIxAll (ix_all hu) (by rfl)) (pv 7) (pe_int) (by exact fun _ _ => rfl)) (po_some (pv 10)) po_none) (by rfl)) (blkOk_by (N := ["source", "plan", "state", "pins", "places", "standing", "place", "part", "due", "told", "first", "many", "rows", "some", "mark", "member"]) (sc := defScope st__law_one_right) (by decide +kernel)) (fun _ _ _ _ _ => pg_name (i := 15) sc__law_one_right.nd (by rfl) (by first | exact Or.inl rfl | exact Or.inr rfl)) (fun _ _ _ _ _ => pts_nil) (fun _ _ _ _ _ => pe_callO G__law_marks hg hr (by omega) (by rfl) (pa_cons (pv 15) (pa_cons (pv 2) (pa_cons (pv 3) (pa_nil)))))) (pa_nil)))) (pss_one (ps_ret (pe_cmpR (opK K rEqR (op_eqR hu) (by rfl)) (pe_callB (callK K rRepr (call_reprR hg hu) (by rfl)) (by rfl) fr_repr boot_repr (pa_cons (pe_callO G_comes_to hg hr (by omega) (by rfl) (pa_cons (pv 1) (pa_cons (pv 5) (pa_cons (pv 3) (pa_cons (pv 6) (pa_nil)))))) (pa_nil))) (pe_callB (callK K rRepr (call_reprR hg hu) (by rfl)) (by rfl) fr_repr boot_repr (pa_cons (pe_tupRg (by rfl) (by rfl) fr_tuple (prg_2 (by rfl) fr_range (pv 10) (pe_op (opK K rAddAll op_addAll (by rfl)) (pv 10) (pv 11)))) (pa_nil))) (nomark _)))))) (pss_nil)) (pss_cons (ps_if (PW.pt (pw_and (pt_cmpR (opK K rEqR (op_eqR hu) (by rfl)) (pe_ix (ixK K rIxAll (ix_all hu) (by rfl)) (pv 7) (pe_int) (by exact fun _ _ => rfl)) (pe_str) (nomark _)) (pw_and1 (pt_not (pt_truK K (pe_ix (ixK K rIxAll (ix_all hu) (by rfl)) (pv 8) (pe_int) (by exact fun _ _ => rfl)) (by exact fun _ => rfl) (by rfl)))))) (pss_cons (ps_set (i := 12) sc__law_one_right.nd (by rfl) (by exact Or.inr rfl) (pe_lc (own := [("member", 15)]) (by rfl) sc__law_one_right.nd (pi_anyK K (pe_ix (ixK K rIxAll (ix_all hu) (by rfl)) (pv 7) (pe_int) (by exact fun _ _ => rfl)) (by rfl)) (blkOk_by (N := ["source", "plan", "state", "pins", "places", "standing", "place", "part", "due", "told", "first", "many", "rows", "some", "mark", "member"]) (sc := defScope st__law_one_right) (by decide +kernel)) (fun _ _ _ _ _ => pg_name (i := 15) sc__law_one_right.nd (by rfl) (by first | exact Or.inl rfl | exact Or.inr rfl)) (fun _ _ _ _ _ => pts_nil) (fun _ _ _ _ _ => pe_callO G__law_marks hg hr (by omega) (by rfl) (pa_cons (pv 15) (pa_cons (pv 2) (pa_cons (pv 3) (pa_nil))))))) (pss_cons (ps_setLc (i := 13) (own := [("mark", 14)]) (by rfl) sc__law_one_right.nd (by rfl) (by rfl) (sw_true (by rfl) (by rfl) (by rfl) (by decide +kernel)) (pi_anyK K (pe_tup (pa_cons (pe_str) (pa_cons (pe_str) (pa_nil)))) (by rfl)) (blkOk_by (N := ["source", "plan", "state", "pins", "places", "standing", "place", "part", "due", "told", "first", "many", "rows", "some", "mark", "member"]) (sc := defScope st__law_one_right) (by decide +kernel)) (fun _ _ _ _ _ => pg_name (i := 14) sc__law_one_right.nd (by rfl) (by first | exact Or.inl rfl | exact Or.inr rfl)) (fun _ _ _ _ _ => pts_nil) (fun _ _ _ _ _ => pe_callO G_hinges hg hr (by omega) (by rfl) (pa_cons (pv 1) (pa_cons (pv 5) (pa_cons (pv 3) (pa_cons (pv 6) (pa_cons (pv 14) (pa_nil)))))))) (pss_one (ps_ret (pe_cmpR (opK K rEqR (op_eqR hu) (by rfl)) (pe_callB (callK K rRepr (call_reprR hg hu) (by rfl)) (by rfl) fr_repr boot_repr (pa_cons (pv 13) (pa_nil))) (pe_callB (callK K rRepr (call_reprR hg hu) (by rfl)) (by rfl) fr_repr boot_repr (pa_cons (pe_lc (own := [("mark", 14)]) (by rfl) sc__law_one_right.nd (pi_anyK K (pe_tup (pa_cons (pe_int) (pa_cons (pe_int) (pa_nil)))) (by rfl)) (blkOk_by (N := ["source", "plan", "state", "pins", "places", "standing", "place", "part", "due", "told", "first", "many", "rows", "some", "mark", "member"]) (sc := defScope st__law_one_right) (by decide +kernel)) (fun _ _ _ _ _ => pg_name (i := 14) sc__law_one_right.nd (by rfl) (by first | exact Or.inl rfl | exact Or.inr rfl)) (fun _ _ _ _ _ => pts_nil) (fun _ _ _ _ _ => pe_callTy (callK K rTupleOf call_tuple_of (by rfl)) (by rfl) fr_tuple boot_tuple (pa_cons (pe_callO G__law_hinges hg hr (by omega) (by rfl) (pa_cons (pv 12) (pa_cons (pv 14) (pa_nil)))) (pa_nil)))) (pa_nil))) (nomark _)))))) (pss_nil)) (pss_one (ps_ret (pe_bl)))))))))))), ?_⟩
  exact spA_of (fun o => sims_seq (sims_asg (sim_tup (sim_lcons (sim_callA (sim_acons (sim_var) (sim_acons (sim_tup (sim_lnil)) (sim_anil)))) (sim_lcons (sim_callA (sim_acons (sim_var) (sim_acons (sim_var) (sim_anil)))) (sim_lnil)))) (simg_tup (n := 2) (simgs_cons (simg_name (i := 4)) (simgs_cons (simg_name (i := 5)) (simgs_nil))))) (sims_seq (sims_set (sim_op so_ix (SimE.p (sim_var)) (SimE.p (sim_callA (sim_asrc (sim_acons (sim_b sb_len (sim_pcons (SimE.p (sim_var)) (sim_pnil))) (sim_anil))))))) (sims_seq (sims_set (sim_callA (sim_acons (sim_var) (sim_acons (sim_var) (sim_anil))))) (sims_seq (sims_set (sim_callA (sim_acons (sim_var) (sim_acons (sim_var) (sim_acons (sim_var) (sim_anil)))))) (sims_seq (sims_set (SimF.e (simF_lst (sim_lcons (sim_callA (sim_acons (sim_var) (sim_acons (sim_var) (sim_acons (sim_var) (sim_acons (sim_var) (sim_anil)))))) (sim_lnil))))) (sims_seq (sims_set (sim_op so_add (SimE.p (sim_var)) (SimE.p (SimF.e (simF_lc (simIP_any (SimE.p (sim_tup (sim_lcons ((sim_str (by decide +kernel))) (sim_lcons ((sim_str (by decide +kernel))) (sim_lcons ((sim_str (by decide +kernel))) (sim_lcons ((sim_str (by decide +kernel))) (sim_lnil)))))))) (simg_name (i := 14)) (sim_yes) (sim_callA (sim_acons (sim_var) (sim_acons (sim_var) (sim_acons (sim_var) (sim_acons (sim_var) (sim_acons (sim_var) (sim_anil))))))) (by decide)))))) (sims_seq (sims_if (sim_tst (SimE.p (sim_op so_ne (SimE.p (sim_b sb_repr (sim_pcons (SimE.p (sim_var)) (sim_pnil)))) (SimE.p (sim_b sb_repr (sim_pcons (SimE.p (SimF.e (simF_b sbF_list (sim_pcons (SimE.p (sim_var)) (sim_pnil))))) (sim_pnil))))))) (sims_ret (sim_bl)) (sims_next)) (sims_seq (sims_if (sim_tst (SimE.p (sim_op so_eq (SimE.p (sim_op so_ix (SimE.p (sim_var)) (SimE.p (sim_int)))) (SimE.p ((sim_str (by decide +kernel))))))) (sims_seq (sims_set (sim_callA (sim_acons (sim_var) (sim_acons (sim_var) (sim_anil))))) (sims_seq (sims_set (sim_callA (sim_acons (SimF.e (simF_lc (simIP_any (SimE.p (sim_sl ss_cut (SimE.p (sim_op so_ix (SimE.p (sim_var)) (SimE.p (sim_int)))) (sim_oyes (SimE.p (sim_var))) sim_ono))) (simg_name (i := 15)) (sim_yes) (sim_callA (sim_acons (sim_var) (sim_acons (sim_var) (sim_acons (sim_var) (sim_anil))))) (by decide))) (sim_anil)))) (sims_ret (sim_op so_eq (SimE.p (sim_b sb_repr (sim_pcons (SimE.p (sim_callA (sim_acons (sim_var) (sim_acons (sim_var) (sim_acons (sim_var) (sim_acons (sim_var) (sim_anil))))))) (sim_pnil)))) (SimE.p (sim_b sb_repr (sim_pcons (SimE.p (sim_tupRg (sim_rg2 (SimE.p (sim_var)) (SimE.p (sim_op so_add (SimE.p (sim_var)) (SimE.p (sim_var))))))) (sim_pnil)))))))) (sims_next)) (sims_seq (sims_if (sim_and (sim_tst (SimE.p (sim_op so_eq (SimE.p (sim_op so_ix (SimE.p (sim_var)) (SimE.p (sim_int)))) (SimE.p ((sim_str (by decide +kernel))))))) (sim_not (sim_truK (SimE.p (sim_op so_ix (SimE.p (sim_var)) (SimE.p (sim_int))))))) (sims_seq (sims_set (SimF.e (simF_lc (simIP_any (SimE.p (sim_op so_ix (SimE.p (sim_var)) (SimE.p (sim_int))))) (simg_name (i := 15)) (sim_yes) (sim_callA (sim_acons (sim_var) (sim_acons (sim_var) (sim_acons (sim_var) (sim_anil))))) (by decide)))) (sims_seq (sims_set (SimF.e (simF_lc (simIP_any (SimE.p (sim_tup (sim_lcons ((sim_str (by decide +kernel))) (sim_lcons ((sim_str (by decide +kernel))) (sim_lnil)))))) (simg_name (i := 14)) (sim_yes) (sim_callA (sim_acons (sim_var) (sim_acons (sim_var) (sim_acons (sim_var) (sim_acons (sim_var) (sim_acons (sim_var) (sim_anil))))))) (by decide)))) (sims_ret (sim_op so_eq (SimE.p (sim_b sb_repr (sim_pcons (SimE.p (sim_var)) (sim_pnil)))) (SimE.p (sim_b sb_repr (sim_pcons (SimE.p (SimF.e (simF_lc (simIP_any (SimE.p (sim_tup (sim_lcons (sim_int) (sim_lcons (sim_int) (sim_lnil)))))) (simg_name (i := 14)) (sim_yes) (sim_b sb_tuple (sim_pcons (SimE.p (sim_callA (sim_acons (sim_var) (sim_acons (sim_var) (sim_anil))))) (sim_pnil))) (by decide)))) (sim_pnil)))))))) (sims_next)) (sims_ret (sim_bl))))))))))) (fun as Qd h => h.2) vs H Q E h
end
/-- what is left of the law: no program in it -/
def Plain (K : PySem.W.Frag) : Prop := bd_law K (ctlS fun d => d = .bool true) (.un :: .so :: List.replicate 14 .un)
section
variable {P : Program} {w : World} {K : PySem.W.Frag} {mg : Str → Option Value} {base : Heap}
theorem law_fn (pl : Plain K) (fx : Fx fal gsl fnl K mg) {fd : FuncData} (F : FunD K "law" "law" (defArgs st_law) (defBody st_law) (defScope st_law) [] [] (He.ga K "law") fd) (G__law_open_cells : OkF P w K mg base 1 "_law_open_cells" (spOpen K)) (G__law_draw_whole_plan : OkF P w K mg base 27 "_law_draw_whole_plan" (spA K ((wp__law_draw_whole_plan) K))) (G__law_led : OkF P w K mg base 75 "_law_led" (spA K ((wp__law_led) K))) (G__law_places : OkF P w K mg base 24 "_law_places" (spA K ((fun K => wpR__law_places K 24 0) K))) (G__law_pins : OkF P w K mg base 49 "_law_pins" (spA K ((wp__law_pins) K))) (G__law_standing : OkF P w K mg base 25 "_law_standing" (spA K ((wp__law_standing) K))) (G__law_going : OkF P w K mg base 48 "_law_going" (spA K ((fun K => wpR__law_going K 24 0) K))) (G_marks : OkF P w K mg base 103 "marks" (spA K ((wp_marks) K))) (G__law_one_right : OkF P w K mg base 104 "_law_one_right" (spA K ((wp__law_one_right) K))) (G__law_is_lost : OkF P w K mg base 24 "_law_is_lost" (spA K ((fun K => wpR__law_is_lost K 24 0) K))) (G__law_may_try : OkF P w K mg base 74 "_law_may_try" (spA K ((fun K => wpR__law_may_try K 24 0) K))) (G__law_marks : OkF P w K mg base 74 "_law_marks" (spA K ((fun K => wpR__law_marks K 24 0) K))) (G__law_at : OkF P w K mg base 1 "_law_at" (spA K ((wp__law_at) K))) (G__law_with : OkF P w K mg base 1 "_law_with" (spA K ((wp__law_with) K))) (G__law_answers : OkF P w K mg base 1 "_law_answers" (spA K ((wp__law_answers) K))) (G_lost_by : OkF P w K mg base 104 "lost_by" (spA K ((wp_lost_by) K))) : FnG P w K mg base CXn 105 (He.ga K "law") fd ["script"] (spLaw K) := by
  have fr_range := fx.free 67 "range"
  have fr_repr := fx.free 73 "repr"
  have fr_tuple := fx.free 66 "tuple"
  refine fnG_of F sc_law spLaw_len (fun cdv A outer s H vs Q E hg hr h => ?_)
  have hu := VL.hu_of hr
  have hu1 := L2.hu_of hr
  refine ⟨_, PSs.nox (pss_cons (ps_set (i := 1) sc_law.nd (by rfl) (by exact Or.inl rfl) (pe_callO G__law_open_cells hg hr (by omega) (by rfl) (pa_cons (pv 0) (pa_nil)))) (pss_cons (ps_for PassesOwn.never (by rfl) (pi_range1 (by rfl) fr_range (pa_cons (pe_int) (pa_nil))) (pg_name (i := 2) sc_law.nd (by rfl) (by first | exact Or.inl rfl | exact Or.inr rfl)) (pss_cons (ps_set (i := 3) sc_law.nd (by rfl) (by exact Or.inr rfl) (pe_callO G__law_draw_whole_plan hg hr (by omega) (by rfl) (pa_cons (pv 1) (pa_cons (pe_int) (pa_nil))))) (pss_cons (ps_set (i := 4) sc_law.nd (by rfl) (by exact Or.inr rfl) (pe_callO G__law_led hg hr (by omega) (by rfl) (pa_cons (pv 1) (pa_cons (pv 3) (pa_cons (pe_int) (pa_nil)))))) (pss_cons (ps_asg (pe_tup (pa_cons (pe_callO G__law_pins hg hr (by omega) (by rfl) (pa_cons (pv 1) (pa_cons (pv 3) (pa_cons (pv 4) (pa_nil))))) (pa_cons (pe_callO G__law_standing hg hr (by omega) (by rfl) (pa_cons (pv 3) (pa_cons (pv 4) (pa_nil)))) (pa_nil)))) (pg_tupK K (n := 2) (by rfl) (pgs_cons (pg_name (i := 5) sc_law.nd (by rfl) (by first | exact Or.inl rfl | exact Or.inr rfl)) (pgs_cons (pg_name (i := 6) sc_law.nd (by rfl) (by first | exact Or.inl rfl | exact Or.inr rfl)) (pgs_nil))) (by rfl))) (pss_cons (ps_par (i := 7) (j := 8) (by rfl) sc_law.nd (by rfl) (by rfl) (by decide) (by rfl) (by rfl) (pa_cons (pe_callB (callK K rRepr (call_reprR hg hu) (by rfl)) (by rfl) fr_repr boot_repr (pa_cons (pe_lst (pa_cons (pv 3) (pa_cons (pv 6) (pa_cons (pv 5) (pa_nil))))) (pa_nil))) (pa_cons (pe_lst (pa_nil)) (pa_nil))) (by rfl)) (pss_cons (ps_for PassesOwn.never (by rfl) (pi_anyK K (pe_callO G__law_places hg hr (by omega) (by rfl) (pa_cons (pv 3) (pa_cons (pe_tup (pa_nil)) (pa_nil)))) (by rfl)) (pg_name (i := 9) sc_law.nd (by rfl) (by first | exact Or.inl rfl | exact Or.inr rfl)) (pss_one (ps_expr (pe_bm PySem.F.plainAttrs_list PySem.F.slot_list_append PySem.F.type_list_append mt_append (pv 8) (pa_cons (pe_op (opK K rAddAll op_addAll (by rfl)) (pe_tup (pa_cons (pv 9) (pa_nil))) (pe_callO G__law_marks hg hr (by omega) (by rfl) (pa_cons (pe_callO G__law_at hg hr (by omega) (by rfl) (pa_cons (pv 3) (pa_cons (pv 9) (pa_nil)))) (pa_cons (pv 4) (pa_cons (pv 5) (pa_nil)))))) pa_nil))))) (pss_cons (ps_if (pt_cmpR (opK K rNeR (op_neR hu) (by rfl)) (pe_callB (callK K rRepr (call_reprR hg hu) (by rfl)) (by rfl) fr_repr boot_repr (pa_cons (pe_callO G_marks hg hr (by omega) (by rfl) (pa_cons (pv 3) (pa_cons (pv 6) (pa_cons (pv 5) (pa_nil))))) (pa_nil))) (pe_callB (callK K rRepr (call_reprR hg hu) (by rfl)) (by rfl) fr_repr boot_repr (pa_cons (pe_callTy (callK K rTupleOf call_tuple_of (by rfl)) (by rfl) fr_tuple boot_tuple (pa_cons (pv 8) (pa_nil))) (pa_nil))) (nomark _)) (pss_one (ps_ret (pe_bl))) (pss_nil)) (pss_cons (ps_for PassesOwn.never (by rfl) (pi_range1 (by rfl) fr_range (pa_cons (pe_int) (pa_nil))) (pg_name (i := 10) sc_law.nd (by rfl) (by first | exact Or.inl rfl | exact Or.inr rfl)) (pss_one (ps_if (pt_not (pt_truK K (pe_callO G__law_one_right hg hr (by omega) (by rfl) (pa_cons (pv 1) (pa_cons (pv 3) (pa_cons (pv 4) (pa_cons (pv 5) (pa_nil)))))) (by exact fun _ => rfl) (by rfl))) (pss_one (ps_ret (pe_bl))) (pss_nil)))) (pss_cons (ps_if (pt_cmpR (opK K rEqR (op_eqR hu) (by rfl)) (pe_callO G__law_going hg hr (by omega) (by rfl) (pa_cons (pv 3) (pa_cons (pv 4) (pa_cons (pe_callO G__law_is_lost hg hr (by omega) (by rfl) (pa_cons (pv 3) (pa_cons (pv 4) (pa_nil)))) (pa_nil))))) (pe_lst (pa_nil)) (nomark _)) (pss_one (ps_for PassesOwn.never (by rfl) (pi_anyK K (pe_slice (slK K rSlAll sl_all (by rfl)) (pe_callO G__law_may_try hg hr (by omega) (by rfl) (pa_cons (pv 3) (pa_cons (pv 4) (pa_nil)))) po_none (po_some (pe_int))) (by rfl)) (pg_name (i := 11) sc_law.nd (by rfl) (by first | exact Or.inl rfl | exact Or.inr rfl)) (pss_cons (ps_setLc (i := 12) (own := [("word", 14)]) (by rfl) sc_law.nd (by rfl) (by rfl) (sw_true (by rfl) (by rfl) (by rfl) (by decide +kernel)) (pi_anyK K (pe_callO G__law_answers hg hr (by omega) (by rfl) (pa_cons (pv 11) (pa_nil))) (by rfl)) (blkOk_by (N := ["script", "source", "turn", "plan", "state", "pins", "standing", "shown", "due", "place", "lap", "deed", "late", "answers", "word", "here"]) (sc := defScope st_law) (by decide +kernel)) (fun _ _ _ _ _ => pg_name (i := 14) sc_law.nd (by rfl) (by first | exact Or.inl rfl | exact Or.inr rfl)) (fun _ _ _ _ _ => pts_nil) (fun _ _ _ _ _ => pe_tup (pa_cons (pv 14) (pa_cons (pe_callO G__law_with hg hr (by omega) (by rfl) (pa_cons (pv 4) (pa_cons (pe_ix (ixK K rIxAll (ix_all hu) (by rfl)) (pv 11) (pe_int) (by exact fun _ _ => rfl)) (pa_cons (pv 14) (pa_nil))))) (pa_nil))))) (pss_cons (ps_set (i := 13) sc_law.nd (by rfl) (by exact Or.inl rfl) (pe_callTy (callK K rTupleOf call_tuple_of (by rfl)) (by rfl) fr_tuple boot_tuple (pa_cons (pe_lc (own := [("word", 14), ("here", 15)]) (by rfl) sc_law.nd (pi_anyK K (pv 12) (by rfl)) (blkOk_by (N := ["script", "source", "turn", "plan", "state", "pins", "standing", "shown", "due", "place", "lap", "deed", "late", "answers", "word", "here"]) (sc := defScope st_law) (by decide +kernel)) (fun _ _ _ _ _ => pg_tupK K (n := 2) (by rfl) (pgs_cons (pg_name (i := 14) sc_law.nd (by rfl) (by first | exact Or.inl rfl | exact Or.inr rfl)) (pgs_cons (pg_name (i := 15) sc_law.nd (by rfl) (by first | exact Or.inl rfl | exact Or.inr rfl)) (pgs_nil))) (by rfl)) (fun _ _ _ _ _ => pts_one (pt_not (pt_truK K (pe_ix (ixK K rIxAll (ix_all hu) (by rfl)) (pe_callO G__law_marks hg hr (by omega) (by rfl) (pa_cons (pv 3) (pa_cons (pv 15) (pa_cons (pv 5) (pa_nil))))) (pe_int) (by exact fun _ _ => rfl)) (by exact fun _ => rfl) (by rfl)))) (fun _ _ _ _ _ => pv 14)) (pa_nil)))) (pss_one (ps_if (pt_cmpR (opK K rNeR (op_neR hu) (by rfl)) (pe_callB (callK K rRepr (call_reprR hg hu) (by rfl)) (by rfl) fr_repr boot_repr (pa_cons (pe_callO G_lost_by hg hr (by omega) (by rfl) (pa_cons (pv 3) (pa_cons (pv 6) (pa_cons (pv 5) (pa_cons (pe_ix (ixK K rIxAll (ix_all hu) (by rfl)) (pv 11) (pe_int) (by exact fun _ _ => rfl)) (pa_nil)))))) (pa_nil))) (pe_callB (callK K rRepr (call_reprR hg hu) (by rfl)) (by rfl) fr_repr boot_repr (pa_cons (pv 13) (pa_nil))) (nomark _)) (pss_one (ps_ret (pe_bl))) (pss_nil))))))) (pss_nil)) (pss_one (ps_if (pt_cmpR (opK K rNeR (op_neR hu) (by rfl)) (pe_callB (callK K rRepr (call_reprR hg hu) (by rfl)) (by rfl) fr_repr boot_repr (pa_cons (pe_lst (pa_cons (pv 3) (pa_cons (pv 6) (pa_cons (pv 5) (pa_nil))))) (pa_nil))) (pv 7) (nomark _)) (pss_one (ps_ret (pe_bl))) (pss_nil)))))))))))) (pss_one (ps_ret (pe_bl))))), ?_⟩
  exact law_start (N := ["script", "source", "turn", "plan", "state", "pins", "standing", "shown", "due", "place", "lap", "deed", "late", "answers", "word", "here"]) (by decide) (fun s c => (show SimS (Cf K (some (s, c))) _ (bd_law K) from (fun o => sims_seq (sims_for (simI_rng1 (sim_pcons (SimE.p (sim_int)) (sim_pnil))) (simg_name (i := 2)) (sims_seq (sims_set (sim_callA (sim_asrc (sim_acons (sim_int) (sim_anil))))) (sims_seq (sims_set (sim_callA (sim_asrc (sim_acons (sim_var) (sim_acons (sim_int) (sim_anil)))))) (sims_seq (sims_asg (sim_tup (sim_lcons (sim_callA (sim_asrc (sim_acons (sim_var) (sim_acons (sim_var) (sim_anil))))) (sim_lcons (sim_callA (sim_acons (sim_var) (sim_acons (sim_var) (sim_anil)))) (sim_lnil)))) (simg_tup (n := 2) (simgs_cons (simg_name (i := 5)) (simgs_cons (simg_name (i := 6)) (simgs_nil))))) (sims_seq (sims_parEF (sim_b sb_repr (sim_pcons (SimE.p (SimF.e (simF_lst (sim_lcons (sim_var) (sim_lcons (sim_var) (sim_lcons (sim_var) (sim_lnil))))))) (sim_pnil))) (simF_lst (sim_lnil))) (sims_seq (sims_for (simI_any (sim_callA (sim_acons (sim_var) (sim_acons (sim_tup (sim_lnil)) (sim_anil))))) (simg_name (i := 9)) (sims_app (sim_op so_add (SimE.p (sim_tup (sim_lcons (sim_var) (sim_lnil)))) (SimE.p (sim_callA (sim_acons (sim_callA (sim_acons (sim_var) (sim_acons (sim_var) (sim_anil)))) (sim_acons (sim_var) (sim_acons (sim_var) (sim_anil))))))))) (sims_seq (sims_if (sim_tst (SimE.p (sim_op so_ne (SimE.p (sim_b sb_repr (sim_pcons (SimE.p (sim_callA (sim_acons (sim_var) (sim_acons (sim_var) (sim_acons (sim_var) (sim_anil)))))) (sim_pnil)))) (SimE.p (sim_b sb_repr (sim_pcons (SimE.p (sim_b sb_tuple (sim_pcons (sim_varP) (sim_pnil)))) (sim_pnil))))))) (sims_ret (sim_bl)) (sims_next)) (sims_seq (sims_for (simI_rng1 (sim_pcons (SimE.p (sim_int)) (sim_pnil))) (simg_name (i := 10)) (sims_if (sim_not (sim_truK (SimE.p (sim_callA (sim_asrc (sim_acons (sim_var) (sim_acons (sim_var) (sim_acons (sim_var) (sim_anil))))))))) (sims_ret (sim_bl)) (sims_next))) (sims_seq (sims_if (sim_tst (SimE.p (sim_op so_eq (SimE.p (sim_callA (sim_acons (sim_var) (sim_acons (sim_var) (sim_acons (sim_callA (sim_acons (sim_var) (sim_acons (sim_var) (sim_anil)))) (sim_anil)))))) (SimE.p (SimF.e (simF_lst (sim_lnil))))))) (sims_for (simI_any (sim_sl ss_cut (SimE.p (sim_callA (sim_acons (sim_var) (sim_acons (sim_var) (sim_anil))))) sim_ono (sim_oyes (SimE.p (sim_int))))) (simg_name (i := 11)) (sims_seq (sims_set (SimF.e (simF_lc (simIP_any (SimE.p (sim_callA (sim_acons (sim_var) (sim_anil))))) (simg_name (i := 14)) (sim_yes) (sim_tup (sim_lcons (sim_var) (sim_lcons (sim_callA (sim_acons (sim_var) (sim_acons (sim_op so_ix (SimE.p (sim_var)) (SimE.p (sim_int))) (sim_acons (sim_var) (sim_anil))))) (sim_lnil)))) (by decide)))) (sims_seq (sims_set (sim_b sb_tuple (sim_pcons (SimE.p (SimF.e (simF_lc (simIP_any (SimE.p (sim_var))) (simg_tup (n := 2) (simgs_cons (simg_name (i := 14)) (simgs_cons (simg_name (i := 15)) (simgs_nil)))) (sim_not (sim_truK (SimE.p (sim_op so_ix (SimE.p (sim_callA (sim_acons (sim_var) (sim_acons (sim_var) (sim_acons (sim_var) (sim_anil)))))) (SimE.p (sim_int)))))) (sim_var) (by decide)))) (sim_pnil)))) (sims_if (sim_tst (SimE.p (sim_op so_ne (SimE.p (sim_b sb_repr (sim_pcons (SimE.p (sim_callA (sim_acons (sim_var) (sim_acons (sim_var) (sim_acons (sim_var) (sim_acons (sim_op so_ix (SimE.p (sim_var)) (SimE.p (sim_int))) (sim_anil))))))) (sim_pnil)))) (SimE.p (sim_b sb_repr (sim_pcons (SimE.p (sim_var)) (sim_pnil))))))) (sims_ret (sim_bl)) (sims_next))))) (sims_next)) (sims_if (sim_tst (SimE.p (sim_op so_ne (SimE.p (sim_b sb_repr (sim_pcons (SimE.p (SimF.e (simF_lst (sim_lcons (sim_var) (sim_lcons (sim_var) (sim_lcons (sim_var) (sim_lnil))))))) (sim_pnil)))) (SimE.p (sim_var))))) (sims_ret (sim_bl)) (sims_next))))))))))) (sims_ret (sim_bl))) (some (s, c)))) pl vs H Q E h
theorem law_all (pl : Plain K) (fx : Fx fal gsl fnl K mg) {fd : FuncData} (F : FunD K "law" "law" (defArgs st_law) (defBody st_law) (defScope st_law) [] [] (He.ga K "law") fd) : FnG P w K mg base CXn 105 (He.ga K "law") fd ["script"] (spLaw K) := by
  have G_can_be_undone : OkF P w K mg base 1 "can_be_undone" (spA K ((wp_can_be_undone) K)) := ok_can_be_undone fx 
  have G_is_sure : OkF P w K mg base 1 "is_sure" (spA K ((wp_is_sure) K)) := ok_is_sure fx 
  have G_members_of : OkF P w K mg base 1 "members_of" (spA K ((wp_members_of) K)) := ok_members_of fx 
  have G_placed : OkF P w K mg base 25 "placed" (spA K ((fun K => wpR_placed K 24 0) K)) := okT_3 fx G_members_of 24
  have G_parts_of : OkF P w K mg base 26 "parts_of" (spA K ((wp_parts_of) K)) := ok_parts_of fx G_placed
  have G_places_of : OkF P w K mg base 26 "places_of" (spA K ((wp_places_of) K)) := ok_places_of fx G_placed
  have G_deeds_of : OkF P w K mg base 27 "deeds_of" (spA K ((wp_deeds_of) K)) := ok_deeds_of fx G_parts_of
  have G_shared : OkF P w K mg base 28 "shared" (spA K ((wp_shared) K)) := ok_shared fx G_deeds_of
  have G_is_cleared : OkF P w K mg base 1 "is_cleared" (spA K ((wp_is_cleared) K)) := ok_is_cleared fx 
  have G_is_lost : OkF P w K mg base 52 "is_lost" (spA K ((fun K => wpR_is_lost K 24 0) K)) := okT_9 fx G_shared 24
  have G_force_in : OkF P w K mg base 53 "force_in" (spA K ((wp_force_in) K)) := ok_force_in fx G_shared G_is_lost G_is_cleared
  have G_is_dead : OkF P w K mg base 77 "is_dead" (spA K ((fun K => wpR_is_dead K 24 0) K)) := okT_11 fx G_shared G_force_in 24
  have G_found_at : OkF P w K mg base 29 "found_at" (spA K ((wp_found_at) K)) := ok_found_at fx G_shared
  have G_with_step : OkF P w K mg base 28 "with_step" (spA K ((wp_with_step) K)) := ok_with_step fx G_deeds_of
  have G_is_good_in : OkF P w K mg base 28 "is_good_in" (spA K ((wp_is_good_in) K)) := ok_is_good_in fx G_deeds_of G_can_be_undone
  have G_coming : OkF P w K mg base 1 "coming" (spA K ((wp_coming) K)) := ok_coming fx 
  have G_hinges_of : OkF P w K mg base 1 "hinges_of" (spA K ((wp_hinges_of) K)) := ok_hinges_of fx 
  have G_marked_deed : OkF P w K mg base 2 "marked_deed" (spA K ((wp_marked_deed) K)) := ok_marked_deed fx G_is_sure G_can_be_undone
  have G_marked_row : OkF P w K mg base 2 "marked_row" (spA K ((wp_marked_row) K)) := ok_marked_row fx G_hinges_of
  have G_marked_side : OkF P w K mg base 1 "marked_side" (spA K ((wp_marked_side) K)) := ok_marked_side fx 
  have G_marked_else : OkF P w K mg base 2 "marked_else" (spA K ((wp_marked_else) K)) := ok_marked_else fx G_coming
  obtain ⟨G_rows_of, G_marked⟩ : OkF P w K mg base 101 "rows_of" (spA K ((fun K => wpR_rows_of K 24 0) K)) ∧ OkF P w K mg base 101 "marked" (spA K ((fun K => wpR_rows_of K 24 1) K)) := okT_21 fx G_shared G_force_in G_is_good_in G_is_dead G_marked_deed G_marked_row G_marked_side G_marked_else 24
  have G_marked_at : OkF P w K mg base 102 "marked_at" (spA K ((wp_marked_at) K)) := ok_marked_at fx G_found_at G_marked
  have G_is_good : OkF P w K mg base 103 "is_good" (spA K ((wp_is_good) K)) := ok_is_good fx G_marked_at
  have G_has_mark : OkF P w K mg base 103 "has_mark" (spA K ((wp_has_mark) K)) := ok_has_mark fx G_marked_at
  have G_comes_to : OkF P w K mg base 102 "comes_to" (spA K ((wp_comes_to) K)) := ok_comes_to fx G_found_at G_force_in G_coming G_rows_of
  have G_hinges : OkF P w K mg base 102 "hinges" (spA K ((wp_hinges) K)) := ok_hinges fx G_found_at G_hinges_of G_rows_of
  have G_marks : OkF P w K mg base 103 "marks" (spA K ((wp_marks) K)) := ok_marks fx G_places_of G_marked_at
  have G_answers_to : OkF P w K mg base 28 "answers_to" (spA K ((wp_answers_to) K)) := ok_answers_to fx G_is_sure G_deeds_of
  have G_lost_by : OkF P w K mg base 104 "lost_by" (spA K ((wp_lost_by) K)) := ok_lost_by fx G_with_step G_answers_to G_has_mark
  have G__law_open_cells : OkF P w K mg base 1 "_law_open_cells" (spOpen K) := ok__law_open_cells fx 
  have G__law_pick : OkF P w K mg base 1 "_law_pick" (spA K ((wpPick) K)) := ok__law_pick fx 
  have G__law_any_order : OkF P w K mg base 2 "_law_any_order" (spA K ((wpAnyOrder) K)) := ok__law_any_order fx G__law_pick
  have G__law_draw_plan : OkF P w K mg base 26 "_law_draw_plan" (spA K ((fun K => wpR__law_draw_plan K 24 0) K)) := okT_33 fx G__law_pick G__law_any_order 24
  have G__law_draw_whole_plan : OkF P w K mg base 27 "_law_draw_whole_plan" (spA K ((wp__law_draw_whole_plan) K)) := ok__law_draw_whole_plan fx G__law_draw_plan G__law_pick G__law_any_order
  have G__law_deeds : OkF P w K mg base 24 "_law_deeds" (spA K ((fun K => wpR__law_deeds K 24 0) K)) := okT_35 fx  24
  have G__law_is_lost : OkF P w K mg base 24 "_law_is_lost" (spA K ((fun K => wpR__law_is_lost K 24 0) K)) := okT_36 fx  24
  have G__law_has_done : OkF P w K mg base 25 "_law_has_done" (spA K ((wp__law_has_done) K)) := ok__law_has_done fx G__law_deeds
  have G__law_force : OkF P w K mg base 26 "_law_force" (spA K ((wp__law_force) K)) := ok__law_force fx G__law_has_done G__law_is_lost
  have G__law_is_done : OkF P w K mg base 50 "_law_is_done" (spA K ((fun K => wpR__law_is_done K 24 0) K)) := okT_39 fx G__law_force 24
  have G__law_is_dead : OkF P w K mg base 50 "_law_is_dead" (spA K ((fun K => wpR__law_is_dead K 24 0) K)) := okT_40 fx G__law_force 24
  have G__law_going : OkF P w K mg base 48 "_law_going" (spA K ((fun K => wpR__law_going K 24 0) K)) := okT_41 fx G__law_is_lost 24
  have G__law_may_try : OkF P w K mg base 74 "_law_may_try" (spA K ((fun K => wpR__law_may_try K 24 0) K)) := okT_42 fx G__law_is_dead G__law_force G__law_is_done 24
  have G__law_is_firm : OkF P w K mg base 1 "_law_is_firm" (spA K ((wp__law_is_firm) K)) := ok__law_is_firm fx 
  have G__law_answers : OkF P w K mg base 1 "_law_answers" (spA K ((wp__law_answers) K)) := ok__law_answers fx 
  have G__law_with : OkF P w K mg base 1 "_law_with" (spA K ((wp__law_with) K)) := ok__law_with fx 
  have G__law_standing : OkF P w K mg base 25 "_law_standing" (spA K ((wp__law_standing) K)) := ok__law_standing fx G__law_deeds
  have G__law_hinges : OkF P w K mg base 1 "_law_hinges" (spA K ((wp__law_hinges) K)) := ok__law_hinges fx 
  have G__law_row_marks : OkF P w K mg base 2 "_law_row_marks" (spA K ((wp__law_row_marks) K)) := ok__law_row_marks fx G__law_hinges
  have G__law_side_marks : OkF P w K mg base 1 "_law_side_marks" (spA K ((wp__law_side_marks) K)) := ok__law_side_marks fx 
  have G__law_come : OkF P w K mg base 1 "_law_come" (spA K ((wp__law_come) K)) := ok__law_come fx 
  have G__law_else_marks : OkF P w K mg base 2 "_law_else_marks" (spA K ((wp__law_else_marks) K)) := ok__law_else_marks fx G__law_come
  have G__law_marks : OkF P w K mg base 74 "_law_marks" (spA K ((fun K => wpR__law_marks K 24 0) K)) := okT_52 fx G__law_is_dead G__law_is_firm G__law_row_marks G__law_side_marks G__law_else_marks G__law_deeds G__law_force 24
  have G__law_places : OkF P w K mg base 24 "_law_places" (spA K ((fun K => wpR__law_places K 24 0) K)) := okT_53 fx  24
  have G__law_at : OkF P w K mg base 1 "_law_at" (spA K ((wp__law_at) K)) := ok__law_at fx 
  have G__law_led : OkF P w K mg base 75 "_law_led" (spA K ((wp__law_led) K)) := ok__law_led fx G__law_pick G__law_going G__law_is_lost G__law_with G__law_deeds G__law_may_try G__law_is_firm G__law_any_order G__law_answers
  have G__law_pins : OkF P w K mg base 49 "_law_pins" (spA K ((wp__law_pins) K)) := ok__law_pins fx G__law_going G__law_is_lost G__law_pick G__law_deeds
  have G__law_one_right : OkF P w K mg base 104 "_law_one_right" (spA K ((wp__law_one_right) K)) := ok__law_one_right fx G__law_at G__law_marks G__law_places G__law_standing G__law_pick G_is_good G__law_force G__law_come G_has_mark G_hinges G_comes_to G__law_hinges
  exact law_fn pl fx F G__law_open_cells G__law_draw_whole_plan G__law_led G__law_places G__law_pins G__law_standing G__law_going G_marks G__law_one_right G__law_is_lost G__law_may_try G__law_marks G__law_at G__law_with G__law_answers G_lost_by
end
end W_k11

set_option Elab.async false
set_option linter.all false
set_option maxRecDepth 100000
set_option maxHeartbeats 4000000
namespace W_k11
open PySem VL PL PL.Plan
section
variable {K : PySem.W.Frag} {Qd : PyData → Prop}
theorem s_can_be_undone {k : Kd} (h : Qd (.bool (decide (k = .undoable ∨ k = .both)))) : Cl (wp_can_be_undone K) [.d (.str k.s)] Qd := by
  refine ⟨rfl, ?_⟩
  cases k <;> simpa [bd_can_be_undone, env0, Kd.s] using h
theorem s_is_sure {k : Kd} (h : Qd (.bool (decide (k = .sure ∨ k = .both)))) : Cl (wp_is_sure K) [.d (.str k.s)] Qd := by
  refine ⟨rfl, ?_⟩
  cases k <;> simpa [bd_is_sure, env0, Kd.s] using h
theorem s_members_of {p : Plan} (h : Qd (.tuple ((mems p).map d))) : Cl (wp_members_of K) [.d p.d] Qd := by
  refine ⟨rfl, ?_⟩
  cases p with
  | deed n k => simpa [bd_members_of, env0, Plan.d] using h
  | grp w l => cases w <;> simpa [bd_members_of, env0, Plan.d, ds_map, Gw.s] using h
def pq (q : List Nat × Plan) : PyData := .tuple [pl q.1, q.2.d]
theorem s_placed : ∀ (n : Nat) (p : Plan) (Qd : PyData → Prop), height p ≤ n → n ≤ 1000 → nodes p ≤ 1000 → Qd (.list ((placed p).map pq)) → Cl (wpR_placed K n 0) [.d p.d] Qd := by
  intro n
  induction n with
  | zero => intro p Qd h; cases p <;> simp [height] at h
  | succ n ih =>
    intro p Qd hh hn1 hn h
    refine ⟨rfl, ?_⟩
    simp [bd_placed, env0]
    refine s_members_of ?_
    simp only [srcD]
    refine forE_0 d (fun i ms ρ => (∀ m ∈ ms, m ∈ mems p) ∧ ∃ (acc : List (List Nat × Plan)) (s2 s3 : Slot), ρ = [.sh p.d, .sh (.list (acc.map pq)), s2, s3, .un, .un] ∧ acc ++ placedL i ms = placed p) ⟨fun _ h => h, [([], p)], _, _, rfl, (placed_eq p).symm⟩ (fun i m ms ρ hP D' e1 e2 hD => ?_) fun i ρ hP => ?_
    · obtain ⟨hm, acc, s2, s3, rfl, e⟩ := hP
      have hmm := hm m (List.mem_cons_self ..)
      simp
      refine ih m _ (by have := mems_height hmm; omega) (by omega) (by have := mems_nodes hmm; omega) ?_
      simp only [srcD]
      have hln : acc.length + (placed m).length ≤ 1000 := by
        have := congrArg List.length e
        rw [placedL_cons] at this
        simp [placed_len] at this
        rw [placed_len]
        omega
      refine lcD_map pq (fun q => pq (i :: q.1, q.2)) _ (fun q hq k hk => ?_) ?_
      · have := (placed_depth m q hq).1
        have := mems_height hmm
        simp [pq]
        exact ⟨by omega, by simpa [pq] using hk⟩
      · simp
        refine ⟨by omega, (hD _ ⟨fun m h => hm m (List.mem_cons_of_mem _ h), acc ++ (placed m).map (fun q => (i :: q.1, q.2)), .sh (.int i), .sh m.d, ?_, ?_⟩).1⟩
        · simp
        · rw [← e, placedL_cons, List.append_assoc]
    · obtain ⟨hm, acc, s2, s3, rfl, e⟩ := hP
      simp [placedL] at e
      subst e
      simpa using h
theorem s_parts_of {p : Plan} (hh : height p ≤ 24) (hn : nodes p ≤ 1000) (h : Qd (.list ((placed p).map fun q => q.2.d))) : Cl (wp_parts_of K) [.d p.d] Qd := by
  refine ⟨rfl, ?_⟩
  simp [bd_parts_of, env0]
  refine s_placed 24 p _ hh (by decide) hn ?_
  simp only [srcD]
  exact lcD_map pq (fun q => q.2.d) _ (fun q _ k hk => by simpa [pq] using hk) (by simpa using h)
theorem s_places_of {p : Plan} (hh : height p ≤ 24) (hn : nodes p ≤ 1000) (h : Qd (.list ((placed p).map fun q => pl q.1))) : Cl (wp_places_of K) [.d p.d] Qd := by
  refine ⟨rfl, ?_⟩
  simp [bd_places_of, env0]
  refine s_placed 24 p _ hh (by decide) hn ?_
  simp only [srcD]
  exact lcD_map pq (fun q => pl q.1) _ (fun q _ k hk => by simpa [pq] using hk) (by simpa using h)
theorem s_deeds_of {p : Plan} (hh : height p ≤ 24) (hn : nodes p ≤ 1000) (h : Qd (.list ((deeds p).map de))) : Cl (wp_deeds_of K) [.d p.d] Qd := by
  refine ⟨rfl, ?_⟩
  simp [bd_deeds_of, env0]
  refine s_parts_of hh hn ?_
  simp only [srcD]
  refine lcD_fn (fun q : List Nat × Plan => q.2.d) (fun q => isDeed q.2) (fun q => q.2.d) _ [] (fun q _ k hk => ?_) ?_
  · obtain ⟨q1, q2⟩ := q
    cases q2 with
    | deed n kd => simpa [Plan.d, Gw.s] using hk
    | grp w ms => cases w <;> simpa [Plan.d, Gw.s] using hk
  · have e : ∀ l : List (List Nat × Plan), (l.filter fun q => isDeed q.2).map (fun q => q.2.d) = (l.filterMap fun q => asDeed q.2).map de := by
      intro l
      induction l with
      | nil => rfl
      | cons q l ih =>
        obtain ⟨q1, q2⟩ := q
        cases q2 with
        | deed n k =>
          rw [List.filter_cons_of_pos (by simp), List.map_cons, ih]
          rfl
        | grp w ms =>
          rw [List.filter_cons_of_neg (by simp), ih]
          rfl
    rw [List.nil_append, e, placed_deeds]
    exact h
theorem s_shared {σ : Str → Wd} {w : Gw} {ms : List Plan} (hh : height (grp w ms) ≤ 25) (hn : nodes (grp w ms) ≤ 1000) (h : Qd (.list (ms.map (pm σ)))) : Cl (wp_shared K) [.d (grp w ms).d, .d (wds σ (grp w ms))] Qd := by
  refine ⟨rfl, ?_⟩
  simp [bd_shared, env0, Plan.d, ds_map]
  refine forD_rule d (fun r ρ => ∃ (done : List Plan) (s4 s5 : Slot), ms = done ++ r ∧ ρ = [.sh (.tuple [.str w.s, .tuple (ms.map d)]), .sh (wds σ (grp w ms)), .ow (.list (done.map (pm σ))), .sh (.int ((deedsL done).length : Nat)), s4, s5]) (fun m r ρ hP D' e1 e2 hD => ?_) (fun ρ hP => ?_) ms _ ⟨[], .un, .un, rfl, by simp [deedsL]⟩
  · obtain ⟨done, s4, s5, e, rfl⟩ := hP
    have hm : m ∈ ms := by rw [e]; simp
    have h1 := heightL_mem hm
    have h2 := nodesL_mem hm
    have h3 := len_le_nodesL ms
    have h4 : done.length ≤ ms.length := by rw [e]; simp
    rw [height] at hh
    rw [nodes] at hn
    simp
    refine s_deeds_of (by omega) (by omega) ?_
    simp [wds, deeds]
    refine ⟨by omega, (hD _ ⟨done ++ [m], .sh m.d, .sh (.int ((deeds m).length : Nat)), by rw [e]; simp, ?_⟩).1⟩
    have ec : (deedsL ms).map (fun x : Str × Kd => PyData.str (σ x.1).s) = (deedsL done).map (fun x => .str (σ x.1).s) ++ (deeds m).map (fun x => .str (σ x.1).s) ++ (deedsL r).map (fun x => .str (σ x.1).s) := by
      rw [e]
      simp [deedsL_flat]
    have ecut : cutL ((deedsL ms).map fun x : Str × Kd => PyData.str (σ x.1).s) (some ((deedsL done).length : Int)) (some (((deedsL done).length : Int) + ((deeds m).length : Int))) = (deeds m).map fun x => .str (σ x.1).s := by
      rw [ec]
      have := cutL_mid ((deedsL done).map fun x : Str × Kd => PyData.str (σ x.1).s) ((deeds m).map fun x => .str (σ x.1).s) ((deedsL r).map fun x => .str (σ x.1).s)
      simpa using this
    rw [ecut]
    simp [pm, wds, deeds, deedsL_flat]
  · obtain ⟨done, s4, s5, e, rfl⟩ := hP
    rw [List.append_nil] at e
    subst e
    simpa using h
theorem s_is_cleared {σ : Str → Wd} {p : Plan} (h : Qd (.bool (!hasDone σ p))) : Cl (wp_is_cleared K) [.d (wds σ p)] Qd := by
  refine ⟨rfl, ?_⟩
  simpa [bd_is_cleared, env0, wds, hasDone] using h
theorem s_is_lost (σ : Str → Wd) : ∀ (n : Nat) (p : Plan) (Qd : PyData → Prop), height p ≤ n → n ≤ 25 → nodes p ≤ 1000 → ok p → Qd (.bool (lost σ p)) → Cl (wpR_is_lost K n 0) [.d p.d, .d (wds σ p)] Qd := by
  intro n
  induction n with
  | zero => intro p Qd h; cases p <;> simp [height] at h
  | succ n ih =>
    intro p Qd hh h25 hn hok h
    refine ⟨rfl, ?_⟩
    cases p with
    | deed nm k =>
      simpa [bd_is_lost, env0, Plan.d, wds, deeds, lost] using h
    | grp w ms =>
      rw [height] at hh
      rw [nodes] at hn
      simp [bd_is_lost, env0, Plan.d]
      refine s_shared (by rw [height]; omega) (by rw [nodes]; omega) ?_
      simp only [srcD]
      refine lcD_map (pm σ) (fun m => .bool (lost σ m)) ms (fun m hm k hk => ?_) ?_
      · have h1 := heightL_mem hm
        have h2 := nodesL_mem hm
        simp [pm]
        exact ih m _ (by omega) (by omega) (by omega) (okL_mem hok.2 m hm) hk
      · have hne : ms.map (fun m => PyData.bool (lost σ m)) ≠ [] := by simpa using hok.1
        have hl := last_bool (lost σ) ms _ (lastL_eq σ ms hok.1)
        cases w <;> simpa [lost, anyL_eq, atI_last hne, hl] using h
theorem s_force_in {σ : Str → Wd} {w : Gw} {ms : List Plan} (hh : height (grp w ms) ≤ 25) (hn : nodes (grp w ms) ≤ 1000) (hok : ok (grp w ms)) (h : Qd (.int (force σ ms : Nat))) : Cl (wp_force_in K) [.d (grp w ms).d, .d (wds σ (grp w ms))] Qd := by
  refine ⟨rfl, ?_⟩
  have hh' := hh
  have hn' := hn
  rw [height] at hh'
  rw [nodes] at hn'
  simp [bd_force_in, env0]
  refine s_shared hh hn ?_
  simp only [srcD]
  refine forE_0 (pm σ) (fun i r ρ => ∃ (done : List Plan) (s2 s3 s4 : Slot), ms = done ++ r ∧ done.length = i ∧ (∀ m ∈ done, stays σ m = false) ∧ ρ = [.sh (grp w ms).d, .sh (wds σ (grp w ms)), s2, s3, s4]) ⟨[], .un, .un, .un, rfl, rfl, by simp, rfl⟩ (fun i m r ρ hP D' e1 e2 hD => ?_) fun i ρ hP => ?_
  · obtain ⟨done, s2, s3, s4, e, ei, hd, rfl⟩ := hP
    have hm : m ∈ ms := by rw [e]; simp
    have h1 := heightL_mem hm
    have h2 := nodesL_mem hm
    simp [pm]
    refine s_is_lost σ 24 m _ (by omega) (by decide) (by omega) (okL_mem hok.2 m hm) ?_
    have nx : stays σ m = false → D'.nx [.sh (grp w ms).d, .sh (wds σ (grp w ms)), .sh (.int i), .sh m.d, .sh (wds σ m)] := fun hs => (hD _ ⟨done ++ [m], _, _, _, by rw [e]; simp, by simp [ei], fun x hx => by
      rcases List.mem_append.mp hx with z | z
      · exact hd x z
      · rw [List.mem_singleton.mp z]; exact hs, rfl⟩).1
    have rt : stays σ m = true → D'.rt (.sh (.int i)) := fun hs => by
      rw [e1]
      have ef : ms.findIdx (stays σ) = i := by
        rw [e, List.findIdx_append, List.findIdx_eq_length.mpr (by simpa using hd), List.findIdx_cons, hs]
        simp [ei]
      have el : i < ms.length := by rw [e, ← ei]; simp
      have : force σ ms = i := by unfold force; rw [ef, if_pos el]
      rw [this] at h
      exact h
    cases hl : lost σ m with
    | false =>
      simp [hl]
      exact rt (by simp [stays, hl])
    | true =>
      simp [hl]
      refine s_is_cleared ?_
      cases hd2 : hasDone σ m with
      | true =>
        simp [hd2]
        exact rt (by simp [stays, hd2])
      | false =>
        simp [hd2]
        exact nx (by simp [stays, hl, hd2])
  · obtain ⟨done, s2, s3, s4, e, ei, hd, rfl⟩ := hP
    rw [List.append_nil] at e
    subst e
    have ef : force σ ms = ms.length - 1 := by
      unfold force
      rw [List.findIdx_eq_length.mpr (by simpa using hd), if_neg (Nat.lt_irrefl _)]
    have : 0 < ms.length := List.length_pos_iff.mpr hok.1
    simp [Plan.d, ds_map]
    rw [ef] at h
    have e3 : ((ms.length - 1 : Nat) : Int) = (ms.length : Int) - 1 := by omega
    rw [← e3]
    exact h
theorem s_is_dead (σ : Str → Wd) : ∀ (n : Nat) (p : Plan) (Qd : PyData → Prop), height p ≤ n → n ≤ 25 → nodes p ≤ 1000 → ok p → Qd (.bool (dead σ p)) → Cl (wpR_is_dead K n 0) [.d p.d, .d (wds σ p)] Qd := by
  intro n
  induction n with
  | zero => intro p Qd h; cases p <;> simp [height] at h
  | succ n ih =>
    intro p Qd hh h25 hn hok h
    refine ⟨rfl, ?_⟩
    cases p with
    | deed nm k =>
      simpa [bd_is_dead, env0, Plan.d, wds, deeds, dead] using h
    | grp w ms =>
      have hh' := hh
      have hn' := hn
      rw [height] at hh'
      rw [nodes] at hn'
      have core : ∀ (xs : List Plan) (ρ : Vn), (∀ x ∈ xs, x ∈ ms) → ρ[3]? ≠ none → ρ[4]? ≠ none → ∀ Q : PyData → Prop, Q (.list (xs.map fun m => .bool (dead σ m))) →
          lcD (dgTup 2 (dgCons (dgName 3) (dgCons (dgName 4) dgNil))) dYes (dCall (wpR_is_dead K n 0) (aCons (dVar 3) (aCons (dVar 4) aNil))) ρ (xs.map (pm σ)) [] Q := by
        intro xs ρ hx r3 r4 Q hq
        refine lcD_map (pm σ) (fun m => .bool (dead σ m)) xs (fun m hm k hk => ?_) hq
        have hmm := hx m hm
        have h1 := heightL_mem hmm
        have h2 := nodesL_mem hmm
        have l4 : 4 < ρ.length := by
          apply Decidable.byContradiction
          intro hc
          exact r4 (List.getElem?_eq_none (by omega))
        simp [pm, l4, show 3 < ρ.length by omega]
        exact ih m _ (by omega) (by omega) (by omega) (okL_mem hok.2 m hmm) hk
      cases w with
      | row =>
        simp [bd_is_dead, env0, Plan.d, Gw.s]
        refine s_shared (w := .row) (by omega) hn ?_
        refine core ms _ (fun _ h => h) (by simp) (by simp) _ ?_
        simpa [dead, anyD_eq] using h
      | side =>
        simp [bd_is_dead, env0, Plan.d, Gw.s]
        refine s_shared (w := .side) (by omega) hn ?_
        refine core ms _ (fun _ h => h) (by simp) (by simp) _ ?_
        simpa [dead, anyD_eq] using h
      | els =>
        simp [bd_is_dead, env0, Plan.d, Gw.s]
        refine s_shared (w := .els) (by omega) hn ?_
        simp
        refine s_force_in (w := .els) (by omega) hn hok ?_
        have hp : 0 < ms.length := List.length_pos_iff.mpr hok.1
        by_cases hf : force σ ms = ms.length - 1
        · have e3 : ((force σ ms : Nat) : Int) = (ms.length : Int) - 1 := by omega
          simp [e3]
          have e4 : cutL (ms.map (pm σ)) (some (-1)) none = (ms.drop (ms.length - 1)).map (pm σ) := by
            rw [cutL_last, List.length_map, List.map_drop]
          rw [e4]
          have hl := drop_last (dead σ) ms _ (lastD_eq σ ms hok.1)
          have hsub : ∀ x ∈ ms.drop (ms.length - 1), x ∈ ms := fun x hx => List.mem_of_mem_drop hx
          generalize ms.drop (ms.length - 1) = xs at hl hsub
          refine core xs _ hsub (by simp) (by simp) _ ?_
          simp [dead, hf] at h
          simp [hl]
          exact h
        · have e3 : ¬ ((force σ ms : Nat) : Int) = (ms.length : Int) - 1 := by omega
          simp [e3]
          simpa [dead, hf] using h
theorem s_is_good_in {σ : Str → Wd} {pins : List Str} {p : Plan} (hh : height p ≤ 24) (hn : nodes p ≤ 1000) (h : Qd (.bool (good σ pins p))) : Cl (wp_is_good_in K) [.d p.d, .d (wds σ p), .d (pinD pins)] Qd := by
  refine ⟨rfl, ?_⟩
  simp [bd_is_good_in, env0]
  refine s_deeds_of hh hn ?_
  simp [wds]
  rw [zipD_map]
  refine lcD_map (fun x : Str × Kd => .tuple [de x, .str (σ x.1).s]) (fun x => .bool (decide (σ x.1 = .done) && (!(decide (x.2 = .undoable) || decide (x.2 = .both)) || decide (x.1 ∈ pins)))) _ (fun x hx k hk => ?_) ?_
  · simp [de]
    by_cases h1 : σ x.1 = .done
    · simp [h1] at hk ⊢
      refine s_can_be_undone ?_
      by_cases h2 : x.2 = .undoable ∨ x.2 = .both
      · simp [h2] at hk ⊢
        rcases h2 with h2 | h2 <;> simpa [pinD, h2] using hk
      · simp [h2] at hk ⊢
        rw [not_or] at h2
        simpa [h2] using hk
    · simpa [h1] using hk
  · simpa [good] using h
theorem s_coming {rows : List Mk} (hn : rows.length ≤ 1000) (h : Qd (.list ((come rows).map Mk.d))) : Cl (wp_coming K) [.d (.list (rows.map Mk.d))] Qd := by
  refine ⟨rfl, ?_⟩
  simp [bd_coming, env0]
  refine forE_0 Mk.d (fun i r ρ => ∃ (done : List Mk) (s1 s2 : Slot), rows = done ++ r ∧ done.length = i ∧ come rows = done ++ come r ∧ ρ = [.sh (.list (rows.map Mk.d)), s1, s2]) ⟨[], .un, .un, rfl, rfl, rfl, rfl⟩ (fun i m r ρ hP D' e1 e2 hD => ?_) fun i ρ hP => ?_
  · obtain ⟨done, s1, s2, e, ei, ec, rfl⟩ := hP
    simp [Mk.d]
    by_cases hs : m.sure = true
    · have e3 : ((i : Nat) : Int) + 1 = ((i + 1 : Nat) : Int) := by omega
      simp [hs, e1]
      rw [e3, cutL_to, ← List.map_take]
      have e4 : rows.take (i + 1) = come rows := by
        rw [ec, come, if_pos hs, e, ← ei, show done ++ m :: r = (done ++ [m]) ++ r by simp, List.take_left' (by simp)]
      rw [e4]
      exact h
    · simp [hs]
      refine (hD _ ⟨done ++ [m], _, _, by rw [e]; simp, by simp [ei], ?_, rfl⟩).1
      rw [ec, come, if_neg hs]
      simp
  · obtain ⟨done, s1, s2, e, ei, ec, rfl⟩ := hP
    rw [List.append_nil] at e
    subst e
    simp [come] at ec
    rw [ec] at h
    simpa using h
theorem s_hinges_of {rows : List Mk} {sel : Mk → Bool} {i : Int} (hi : (i = 3 ∧ sel = (·.ready)) ∨ (i = 4 ∧ sel = (·.whole))) (hn : rows.length ≤ 1000) (h : Qd (.list ((hinges sel rows).map fun (j : Nat) => .int j))) :
    Cl (wp_hinges_of K) [.d (.list (rows.map Mk.d)), .d (.int i)] Qd := by
  refine ⟨rfl, ?_⟩
  simp [bd_hinges_of, env0]
  refine forE_0 Mk.d (fun j r ρ => ∃ (done : List Mk) (s3 s4 s5 : Slot), rows = done ++ r ∧ done.length = j ∧ ρ = [.sh (.list (rows.map Mk.d)), .sh (.int i), .ow (.list (((List.range j).filter (hinge sel rows)).map fun (j : Nat) => .int j)), s3, s4, s5, .un]) ⟨[], .un, .un, .un, rfl, rfl, rfl⟩ (fun j m r ρ hP D' e1 e2 hD => ?_) fun j ρ hP => ?_
  · obtain ⟨done, s3, s4, s5, e, ej, rfl⟩ := hP
    have hr : rows.length ≤ 1000 := hn
    have hdl : done.length ≤ 1000 := by rw [e, List.length_append] at hn; omega
    have hpre : rows.take j = done := by rw [e, ← ej]; simp
    have hsuf : rows.drop (j + 1) = r := by rw [e, ← ej]; simp
    have hh := hinge_at (sel := sel) (done := done) (r := r) (m := m)
    rw [← e, ej] at hh
    have hsel : L2.atI [PyData.bool m.good, .bool m.sure, .bool m.loose, .bool m.ready, .bool m.whole] i = some (.bool (sel m)) := by
      rcases hi with ⟨rfl, rfl⟩ | ⟨rfl, rfl⟩ <;> simp
    have hfl : ((List.range j).filter (hinge sel rows)).length ≤ 1000 := by
      have := List.length_filter_le (hinge sel rows) (List.range j)
      rw [List.length_range] at this
      omega
    have go : ∀ x5 : Slot, D'.nx [.sh (.list (rows.map Mk.d)), .sh (.int i), .ow (.list (((List.range (j + 1)).filter (hinge sel rows)).map fun (j : Nat) => .int j)), .sh (.int j), .sh m.d, x5, .un] := fun x5 => (hD _ ⟨done ++ [m], _, _, _, by rw [e]; simp, by simp [ej], rfl⟩).1
    rw [range_filter, hh] at go
    simp [-List.all_eq_true]
    rw [cutL_to, ← List.map_take, hpre]
    refine lcD_map Mk.d (fun m => .bool m.loose) _ (fun x hx k hk => by simpa [Mk.d] using hk) ?_
    simp only [plainAll_bools, List.all_map, all_truthy, true_and, if_true]
    generalize done.all (·.loose) = b1 at go
    cases b1 with
    | false => simpa using go _
    | true =>
      simp [Mk.d, hsel, -List.all_eq_true]
      cases hm : sel m with
      | false => simpa [hm, Mk.d] using go _
      | true =>
        have e3 : ((j : Nat) : Int) + 1 = ((j + 1 : Nat) : Int) := by omega
        simp [-List.all_eq_true]
        rw [e3, cutL_from, ← List.map_drop, hsuf]
        refine lcD_map Mk.d (fun m => .bool m.sure) _ (fun x hx k hk => by simpa [Mk.d] using hk) ?_
        simp only [plainAll_bools, List.all_map, all_truthy, true_and, if_true]
        generalize r.all (·.sure) = b3 at go
        cases b3 with
        | false => simpa [hm, Mk.d] using go _
        | true =>
          simp
          exact ⟨by omega, by simpa [hm, Mk.d] using go _⟩
  · obtain ⟨done, s3, s4, s5, e, ej, rfl⟩ := hP
    rw [List.append_nil] at e
    subst e
    subst ej
    simpa [hinges] using h
theorem s_marked_deed {σ : Str → Wd} {n : Str} {k : Kd} (h : Qd (deedM σ n k).d) : Cl (wp_marked_deed K) [.d (.str k.s), .d (.str (σ n).s)] Qd := by
  refine ⟨rfl, ?_⟩
  simp [bd_marked_deed, env0]
  by_cases h1 : σ n = .done
  · simpa [h1, deedM, M4.d] using h
  · simp [h1]
    refine s_is_sure (s_can_be_undone ?_)
    simpa [deedM, M4.d, h1] using h
theorem s_marked_row {rows : List Mk} (hn : rows.length ≤ 1000) (h : Qd (rowM rows).d) : Cl (wp_marked_row K) [.d (.list (rows.map Mk.d))] Qd := by
  refine ⟨rfl, ?_⟩
  unfold bd_marked_row
  refine seq_go ?_
  simp [-dSeq, -List.all_eq_true, env0]
  refine lcD_map Mk.d (fun m => .bool m.sure) _ (fun x hx k hk => by simpa [Mk.d] using hk) ?_
  simp only [plainAll_bools, List.all_map, all_truthy, true_and, if_true]
  refine lcD_map Mk.d (fun m => .bool m.loose) _ (fun x hx k hk => by simpa [Mk.d] using hk) ?_
  simp only [plainAll_bools, List.all_map, all_truthy, true_and, if_true]
  refine s_hinges_of (.inl ⟨rfl, rfl⟩) hn ?_
  refine ⟨by simp, ?_⟩
  refine s_hinges_of (.inr ⟨rfl, rfl⟩) hn ?_
  refine ⟨by simp, ?_⟩
  simpa [-List.all_eq_true, rowM, M4.d] using h
theorem s_marked_side {rows : List Mk} (hn : rows.length ≤ 1000) (h : Qd (sideM rows).d) : Cl (wp_marked_side K) [.d (.list (rows.map Mk.d))] Qd := by
  refine ⟨rfl, ?_⟩
  unfold bd_marked_side
  refine seq_go ?_
  simp [-dSeq, env0]
  refine lcD_fn Mk.d (fun r => !r.ready) Mk.d _ [] (fun x hx k hk => ?_) ?_
  · cases hr : x.ready <;> simpa [Mk.d, hr] using hk
  simp only [sideM, late] at h
  have hl := List.length_filter_le (fun r : Mk => !r.ready) rows
  rw [List.nil_append]
  obtain ⟨L, hL⟩ : ∃ L, (rows.filter fun r => !r.ready) = L := ⟨_, rfl⟩
  simp only [hL] at h hl ⊢
  refine seq_go ?_
  have tail : ∀ b : Bool, b = (L.isEmpty || (decide (L.length = 1) && (L.head?.map (·.whole)).getD false)) → dRet (dTup (lCons (dB (dAny true) (lCons (dLc (dIt (dVar 0)) (dgName 3) (dYes) (dOp dIx (dVar 3) (dC (.int (1)))) [3]) (lNil))) (lCons (dB (dAny true) (lCons (dLc (dIt (dVar 0)) (dgName 3) (dYes) (dOp dIx (dVar 3) (dC (.int (2)))) [3]) (lNil))) (lCons (dOp (dEq) (dVar 1) (dLst (lNil))) (lCons (dVar 2) (lNil)))))) (ctlS Qd) [.sh (.list (rows.map Mk.d)), .sh (.list (L.map Mk.d)), .sh (.bool b), .un] := by
    intro b hb
    simp [-List.all_eq_true]
    refine lcD_map Mk.d (fun m => .bool m.sure) _ (fun x hx k hk => by simpa [Mk.d] using hk) ?_
    simp only [plainAll_bools, List.all_map, all_truthy, true_and, if_true]
    refine lcD_map Mk.d (fun m => .bool m.loose) _ (fun x hx k hk => by simpa [Mk.d] using hk) ?_
    simp only [plainAll_bools, List.all_map, all_truthy, true_and, if_true]
    subst hb
    simpa [M4.d] using h
  cases L with
  | nil =>
    simp [-dRet]
    exact tail true rfl
  | cons x r =>
    cases r with
    | nil =>
      have ho := okD_mk0 [x]
      simp [Mk.d] at ho
      simp [-dRet, Mk.d, ho]
      have t := tail x.whole (by simp)
      simpa [-dRet, Mk.d] using t
    | cons y r =>
      have ho := okD_mk0 (x :: y :: r)
      simp at ho
      have hz : ¬ ((r.length : Int) + 1 + 1 = 1) := by omega
      simp [-dRet, ho, hz]
      have t := tail false (by simp)
      simpa [-dRet] using t
theorem s_marked_else {rows : List Mk} (hr : rows ≠ []) (hn : rows.length ≤ 1000) (h : Qd (elseM rows).d) : Cl (wp_marked_else K) [.d (.list (rows.map Mk.d))] Qd := by
  refine ⟨rfl, ?_⟩
  unfold bd_marked_else
  refine seq_go ?_
  simp [-dSeq, env0]
  refine s_coming hn ?_
  simp only [elseM] at h
  have hc := come_ne hr
  generalize come rows = C at h hc
  have ha : L2.atI (C.map Mk.d) (-1) = some (Mk.d (C.getLast hc)) := by
    rw [atI_last (by simpa using hc), List.getLast?_map, List.getLast?_eq_some_getLast hc]
    rfl
  refine seq_go ?_
  simp [-dSeq, -dRet, -List.all_eq_true]
  refine lcD_map Mk.d (fun m => .bool m.whole) _ (fun x hx k hk => by simpa [Mk.d] using hk) ?_
  simp only [plainAll_bools, List.all_map, all_truthy, true_and, if_true]
  rw [List.getLast?_eq_some_getLast hc] at h
  have tail : ∀ Q : PyData → Prop, Q (.bool (C.all (·.loose))) → lcD (dgName 3) dYes (dOp dIx (dVar 3) (dC (PyData.int 2))) [.sh (.list (rows.map Mk.d)), .sh (.list (C.map Mk.d)), .sh (.bool (C.all (·.whole))), .un] (C.map Mk.d) [] fun x => dAny true [x] Q := by
    intro Q hQ
    refine lcD_map Mk.d (fun m => .bool m.loose) _ (fun x hx k hk => by simpa [Mk.d] using hk) ?_
    simpa [-List.all_eq_true] using hQ
  have tail2 : ∀ Q : PyData → Prop, Q (.bool (rows.all (·.ready))) → lcD (dgName 3) dYes (dOp dIx (dVar 3) (dC (PyData.int 3))) [.sh (.list (rows.map Mk.d)), .sh (.list (C.map Mk.d)), .sh (.bool (C.all (·.whole))), .un] (rows.map Mk.d) [] fun x => dAny true [x] Q := by
    intro Q hQ
    refine lcD_map Mk.d (fun m => .bool m.ready) _ (fun x hx k hk => by simpa [Mk.d] using hk) ?_
    simpa [-List.all_eq_true] using hQ
  generalize hg : C.getLast hc = g at h ha
  simp [-dAny, -List.all_eq_true, ha]
  cases hs : g.sure with
  | true =>
    simp [-dAny, -List.all_eq_true, Mk.d, hs]
    refine tail _ (tail2 _ ?_)
    simpa [-List.all_eq_true, M4.d, hs] using h
  | false =>
    simp [-dAny, -List.all_eq_true, Mk.d, hs]
    refine tail _ (tail2 _ ?_)
    simpa [-List.all_eq_true, M4.d, hs] using h
def told (w : Gw) (rows : List Mk) : M4 := match w with
  | .row => rowM rows
  | .side => sideM rows
  | .els => elseM rows
def rowsOf (σ : Str → Wd) (pins : List Str) (w : Gw) (ms : List Plan) : List Mk := match w with
  | .els => (ms.map (marks σ pins)).drop (force σ ms)
  | _ => ms.map (marks σ pins)
theorem marks_grp (σ : Str → Wd) (pins : List Str) (w : Gw) (ms : List Plan) : marks σ pins (grp w ms) = mkOf (good σ pins (grp w ms)) (dead σ (grp w ms)) (told w (rowsOf σ pins w ms)) := by
  cases w <;> simp [marks, told, rowsOf, marksL_eq]
theorem rowsOf_ne {σ : Str → Wd} {pins : List Str} {w : Gw} {ms : List Plan} (h : ms ≠ []) : rowsOf σ pins w ms ≠ [] := by
  have := force_lt σ h
  cases w <;> simp [rowsOf, h]
  omega
theorem rowsOf_le {σ : Str → Wd} {pins : List Str} {w : Gw} {ms : List Plan} : (rowsOf σ pins w ms).length ≤ ms.length := by
  cases w <;> simp [rowsOf]
theorem ms_0 {n : Nat} {as : List AV} : Cl (wpR_rows_of K (n + 1) 0) as Qd = (as.length = 3 ∧ bd_rows_of K (wpR_rows_of K n) (ctlS Qd) (env0 6 as)) := propext ⟨fun h => by have := h.go; rwa [wpR_rows_of] at this, fun h => ⟨by rw [wpR_rows_of]; exact h⟩⟩
theorem ms_1 {n : Nat} {as : List AV} : Cl (wpR_rows_of K (n + 1) 1) as Qd = (as.length = 3 ∧ bd_marked K (wpR_rows_of K n) (ctlS Qd) (env0 9 as)) := propext ⟨fun h => by have := h.go; rw [wpR_rows_of] at this; exact this; simp, fun h => ⟨by rw [wpR_rows_of]; exact h; simp⟩⟩
end
end W_k11

set_option Elab.async false
set_option linter.all false
set_option maxRecDepth 100000
set_option maxHeartbeats 4000000
namespace W_k11
open PySem VL PL PL.Plan
section
variable {K : PySem.W.Frag} {Qd : PyData → Prop}
theorem seq_gen {a b : DS} {D : Ctl} {ρ : Vn} (h : ∀ k : DS, k = b → a { D with nx := k D } ρ) : dSeq a b D ρ := h b rfl
theorem ofS_beq (a b : String) : (Str.ofString a == Str.ofString b) = decide (a = b) := by
  by_cases h : a = b
  · simp [h]
  · have : ¬ Str.ofString a = Str.ofString b := by simpa using h
    simp [h]
theorem sl_from {t l : DE} {ρ : Vn} {Q : PyData → Prop} {ds : List PyData} (ht : ∀ k : PyData → Prop, k (.list ds) → t ρ k) (hl : l ρ fun d => match d with
    | .int i => Q (.list (cutL ds (some i) none))
    | _ => False) : dSl dCut t (oYes l) oNo ρ Q := by
  refine ht _ ?_
  unfold oYes
  refine Eq.mp (congrArg (l ρ) ?_) hl
  funext d
  cases d <;> rfl
theorem s_rows_step (σ : Str → Wd) (pins : List Str) {n : Nat} (ih1 : ∀ (p : Plan) (Qd : PyData → Prop), height p + height p ≤ n → n ≤ 48 → nodes p ≤ 1000 → ok p → Qd (marks σ pins p).d → Cl (wpR_rows_of K n 1) [.d p.d, .d (wds σ p), .d (pinD pins)] Qd)
    (w : Gw) (ms : List Plan) (Qd : PyData → Prop) (hh : height (grp w ms) + height (grp w ms) ≤ n + 2) (h48 : n + 1 ≤ 48) (hn : nodes (grp w ms) ≤ 1000) (hok : ok (grp w ms)) (h : Qd (.list ((rowsOf σ pins w ms).map Mk.d))) : Cl (wpR_rows_of K (n + 1) 0) [.d (grp w ms).d, .d (wds σ (grp w ms)), .d (pinD pins)] Qd := by
  rw [ms_0]
  refine ⟨rfl, ?_⟩
  unfold bd_rows_of
  refine seq_go ?_
  simp [-dSeq, -dRet, env0]
  refine s_shared (by omega) hn ?_
  simp only [srcD]
  have hh' := hh
  have hn' := hn
  rw [height] at hh'
  rw [nodes] at hn'
  refine lcD_map (pm σ) (fun m => (marks σ pins m).d) ms (fun m hm k hk => ?_) ?_
  · have h1 := heightL_mem hm
    have h2 := nodesL_mem hm
    simp [pm]
    exact ih1 m _ (by omega) (by omega) (by omega) (okL_mem hok.2 m hm) hk
  · have e : ms.map (fun m => (marks σ pins m).d) = (ms.map (marks σ pins)).map Mk.d := by simp
    rw [e]
    obtain ⟨L, hL⟩ : ∃ L, ms.map (marks σ pins) = L := ⟨_, rfl⟩
    rw [hL]
    cases w with
    | row =>
      simp [rowsOf, hL] at h
      simpa [Plan.d] using h
    | side =>
      simp [rowsOf, hL] at h
      simpa [Plan.d] using h
    | els =>
      simp only [rowsOf, hL] at h
      have hd : PyData.tuple [.str "else", .tuple (ds ms)] = (grp .els ms).d := by simp [Plan.d, Gw.s]
      simp [← hd, -dSl]
      refine sl_from (ds := L.map Mk.d) (fun k hk => by simpa using hk) ?_
      simp only [dCall, aCons, dVar]
      simp
      rw [hd]
      refine s_force_in (w := .els) (by omega) hn hok ?_
      show Qd (.list (cutL (L.map Mk.d) (some ((force σ ms : Nat) : Int)) none))
      rw [cutL_from, ← List.map_drop]
      exact h
theorem s_marked_step (σ : Str → Wd) (pins : List Str) {n : Nat} (ih2 : ∀ (w : Gw) (ms : List Plan) (Qd : PyData → Prop), height (grp w ms) + height (grp w ms) ≤ n + 1 → n ≤ 48 → nodes (grp w ms) ≤ 1000 → ok (grp w ms) → Qd (.list ((rowsOf σ pins w ms).map Mk.d)) → Cl (wpR_rows_of K n 0) [.d (grp w ms).d, .d (wds σ (grp w ms)), .d (pinD pins)] Qd)
    (p : Plan) (Qd : PyData → Prop) (hh : height p + height p ≤ n + 1) (h48 : n + 1 ≤ 48) (hn : nodes p ≤ 1000) (hok : ok p) (h : Qd (marks σ pins p).d) : Cl (wpR_rows_of K (n + 1) 1) [.d p.d, .d (wds σ p), .d (pinD pins)] Qd := by
  rw [ms_1]
  refine ⟨rfl, ?_⟩
  unfold bd_marked
  refine seq_gen fun k1 e1 => ?_
  simp [env0]
  refine s_is_good_in (by omega) hn ?_
  subst e1
  refine seq_gen fun k2 e2 => ?_
  simp
  refine s_is_dead σ 24 p _ (by omega) (by omega) hn hok ?_
  cases hd : dead σ p with
  | true =>
    have e : marks σ pins p = mkOf (good σ pins p) true ⟨false, false, false, false⟩ := by
      cases p with
      | deed nm k => simp [marks, hd, mkOf]
      | grp w ms => rw [marks_grp, hd]; simp [mkOf]
    rw [e] at h
    cases hg : good σ pins p <;> simpa [hg, mkOf, Mk.d] using h
  | false =>
    simp
    subst e2
    refine seq_gen fun k3 e3 => ?_
    have fin : ∀ (m : M4) (s8 : Slot), marks σ pins p = mkOf (good σ pins p) false m → dRet (dIfE (dTru (dVar 3)) (dTup (lCons (dC (.bool true)) (lCons (dVar 4) (lCons (dC (.bool false)) (lCons (dVar 4) (lCons (dVar 4) (lNil))))))) (dTup (lCons (dC (.bool false)) (lCons (dVar 4) (lCons (dVar 5) (lCons (dOrT (dVar 4) (dVar 6)) (lCons (dVar 7) (lNil)))))))) (ctlS Qd) [.sh p.d, .sh (wds σ p), .sh (pinD pins), .sh (.bool (good σ pins p)), .sh (.bool m.sure), .sh (.bool m.loose), .sh (.bool m.ready), .sh (.bool m.whole), s8] := by
      intro m s8 e
      rw [e] at h
      cases hg : good σ pins p <;> cases h1 : m.sure <;> simpa [hg, h1, mkOf, Mk.d] using h
    cases p with
    | deed nm k =>
      have hd1 : (deed nm k).d = .tuple [.str "deed", .str nm, .str k.s] := by simp [Plan.d]
      have hw1 : wds σ (deed nm k) = .tuple [.str (σ nm).s] := by simp [wds, deeds]
      rw [hd1, hw1] at fin ⊢
      simp
      refine s_marked_deed ?_
      have := fin (deedM σ nm k) .un (by simp [marks, hd])
      subst e3
      simpa [M4.d, -dRet] using this
    | grp w ms =>
      have hd1 : (grp w ms).d = .tuple [.str w.s, .tuple (ds ms)] := by simp [Plan.d]
      have hr : ∀ Q, Q (.list ((rowsOf σ pins w ms).map Mk.d)) → Cl (wpR_rows_of K n 0) [.d (grp w ms).d, .d (wds σ (grp w ms)), .d (pinD pins)] Q := fun Q hq => ih2 w ms Q hh (by omega) hn hok hq
      have f := fun s8 => fin (told w (rowsOf σ pins w ms)) s8 (by rw [marks_grp, hd])
      have hne := rowsOf_ne (σ := σ) (pins := pins) (w := w) hok.1
      have hle : (rowsOf σ pins w ms).length ≤ 1000 := by
        have h1 := rowsOf_le (σ := σ) (pins := pins) (w := w) (ms := ms)
        have h2 := len_le_nodesL ms
        have h3 := hn
        rw [nodes] at h3
        omega
      generalize rowsOf σ pins w ms = rows at f hr hne hle
      generalize wds σ (grp w ms) = W at f hr ⊢
      rw [hd1] at f hr ⊢
      cases w with
      | row =>
        simp [Gw.s, -dRet, List.lookup_cons, ofS_beq] at hr f ⊢
        refine ⟨wp_marked_row K, by simp [tabW], hr _ (s_marked_row hle ?_)⟩
        subst e3
        simpa [-dRet, M4.d, told] using f _
      | side =>
        simp [Gw.s, -dRet, List.lookup_cons, ofS_beq] at hr f ⊢
        refine ⟨wp_marked_side K, by simp [tabW], hr _ (s_marked_side hle ?_)⟩
        subst e3
        simpa [-dRet, M4.d, told] using f _
      | els =>
        simp [Gw.s, -dRet, List.lookup_cons, ofS_beq] at hr f ⊢
        refine ⟨wp_marked_else K, by simp [tabW], hr _ (s_marked_else hne hle ?_)⟩
        subst e3
        simpa [-dRet, M4.d, told] using f _
theorem s_marks (σ : Str → Wd) (pins : List Str) : ∀ (n : Nat), (∀ (p : Plan) (Qd : PyData → Prop), height p + height p ≤ n → n ≤ 48 → nodes p ≤ 1000 → ok p → Qd (marks σ pins p).d → Cl (wpR_rows_of K n 1) [.d p.d, .d (wds σ p), .d (pinD pins)] Qd) ∧
    (∀ (w : Gw) (ms : List Plan) (Qd : PyData → Prop), height (grp w ms) + height (grp w ms) ≤ n + 1 → n ≤ 48 → nodes (grp w ms) ≤ 1000 → ok (grp w ms) → Qd (.list ((rowsOf σ pins w ms).map Mk.d)) → Cl (wpR_rows_of K n 0) [.d (grp w ms).d, .d (wds σ (grp w ms)), .d (pinD pins)] Qd) := by
  intro n
  induction n with
  | zero =>
    refine ⟨fun p Qd h => ?_, fun w ms Qd h => ?_⟩
    · have : 1 ≤ height p := by cases p <;> simp [height]
      omega
    · rw [height] at h
      omega
  | succ n ih => exact ⟨fun p Qd hh => s_marked_step σ pins ih.2 p Qd (by omega), fun w ms Qd hh => s_rows_step σ pins ih.1 w ms Qd (by omega)⟩
end
end W_k11

set_option Elab.async false
set_option linter.all false
set_option maxRecDepth 100000
set_option maxHeartbeats 4000000
namespace PL.Plan
/-- the way from a part to one inside it -/
def Leads : Plan → List Nat → Plan → Prop
  | p, [], r => p = r
  | p, i :: q, r => ∃ m, (mems p)[i]? = some m ∧ Leads m q r
mutual
theorem placed_leads : ∀ (p : Plan) (q : List Nat) (r : Plan), (q, r) ∈ placed p → Leads p q r
  | deed n k, q, r, h => by
    have e : q = [] ∧ r = deed n k := by simpa [placed] using h
    rw [e.1, e.2]
    rfl
  | grp w ms, q, r, h => by
    rw [placed, List.mem_cons] at h
    rcases h with e | h
    · cases e
      rfl
    · obtain ⟨j, q', m, e, h1, h2⟩ := placedL_leads 0 ms q r h
      rw [e]
      exact ⟨m, by simpa using h1, h2⟩
theorem placedL_leads : ∀ (i : Nat) (ms : List Plan) (q : List Nat) (r : Plan), (q, r) ∈ placedL i ms → ∃ j q' m, q = (i + j) :: q' ∧ ms[j]? = some m ∧ Leads m q' r
  | _, [], q, r, h => by simp [placedL] at h
  | i, p :: ps, q, r, h => by
    rw [placedL, List.mem_append] at h
    rcases h with h | h
    · obtain ⟨⟨q', r'⟩, hr, e⟩ := List.mem_map.mp h
      cases e
      exact ⟨0, q', p, rfl, rfl, placed_leads p q' r' hr⟩
    · obtain ⟨j, q', m, e, h1, h2⟩ := placedL_leads (i + 1) ps q r h
      exact ⟨j + 1, q', m, by rw [e]; congr 1; omega, by simpa using h1, h2⟩
end
theorem leads_ok : ∀ {q : List Nat} {p r : Plan}, Leads p q r → ok p → ok r
  | [], p, r, h, o => by
    have e : p = r := h
    rw [← e]; exact o
  | i :: q, p, r, ⟨m, h1, h2⟩, o => by
    refine leads_ok h2 ?_
    cases p with
    | deed n k => simp at h1
    | grp w ms => exact okL_mem o.2 m (List.mem_of_getElem? h1)
theorem leads_height : ∀ {q : List Nat} {p r : Plan}, Leads p q r → height r + q.length ≤ height p ∧ nodes r ≤ nodes p
  | [], p, r, h => by
    have e : p = r := h
    rw [← e]; exact ⟨Nat.le_refl _, Nat.le_refl _⟩
  | i :: q, p, r, ⟨m, h1, h2⟩ => by
    have := leads_height h2
    have hm := List.mem_of_getElem? h1
    have a := mems_height hm
    have b := mems_nodes hm
    simp only [List.length_cons]
    omega
end PL.Plan
namespace W_k11
open PySem VL PL PL.Plan
section
variable {K : PySem.W.Frag} {Qd : PyData → Prop}
theorem ints_pm (σ : Str → Wd) : ∀ ms : List Plan, intsOf (ms.map fun m => PyData.int ((deeds m).length : Nat)) = some (ms.map fun m => ((deeds m).length : Int)) := by
  intro ms
  induction ms with
  | nil => rfl
  | cons m ms ih => simp [intsOf] at ih ⊢; simp [ih]
theorem s_found_at {σ : Str → Wd} {p r : Plan} {q : List Nat} {b : Bool} (hq : Leads p q r) (hh : height p ≤ 25) (hn : nodes p ≤ 1000) (h : ∀ k : Int, Qd (.tuple [r.d, wds σ r, .int k])) : Cl (wp_found_at K) [.d p.d, .d (.tuple [wds σ p, .bool b]), .d (pl q)] Qd := by
  refine ⟨rfl, ?_⟩
  unfold bd_found_at
  refine seq_gen fun k1 e1 => ?_
  simp [env0]
  subst e1
  refine seq_gen fun k2 e2 => ?_
  simp
  refine forD_rule (fun i : Nat => PyData.int i) (fun rest ρ => ∃ (c : Plan) (k : Int) (s6 s7 s8 s9 : Slot), Leads c rest r ∧ height c ≤ 25 ∧ nodes c ≤ 1000 ∧ ρ = [.sh p.d, .sh (.tuple [wds σ p, .bool b]), .sh (pl q), .sh c.d, .sh (wds σ c), .sh (.int k), s6, s7, s8, s9]) (fun i rest ρ hP D' e3 e4 hD => ?_) (fun ρ hP => ?_) q _ ⟨p, 0, .un, .un, .un, .un, hq, hh, hn, by simp⟩
  · obtain ⟨c, k, s6, s7, s8, s9, ⟨m, hm, hl⟩, h1, h2, rfl⟩ := hP
    have hmm := List.mem_of_getElem? hm
    cases c with
    | deed n k => simp at hmm
    | grp w ms =>
      have hm : ms[i]? = some m := hm
      have hmm : m ∈ ms := hmm
      simp only [dgName]
      refine seq_gen fun k3 e5 => ?_
      simp
      refine s_shared h1 h2 ?_
      subst e5
      refine seq_gen fun k4 e6 => ?_
      simp
      rw [cutL_to, ← List.map_take]
      generalize ms.take i = xs
      refine lcD_map (pm σ) (fun m => .int ((deeds m).length : Nat)) _ (fun x hx k hk => by simpa [pm, wds] using hk) ?_
      simp [ints_pm σ]
      subst e6
      have ha : L2.atI (ms.map (pm σ)) (i : Int) = some (pm σ m) := by rw [atI_nat, List.getElem?_map, hm]; rfl
      have h3 := mems_height (p := grp w ms) hmm
      have h4 := mems_nodes (p := grp w ms) hmm
      simp [ha, pm]
      exact (hD _ ⟨m, _, _, _, _, _, hl, by omega, by omega, rfl⟩).1
  · obtain ⟨c, k, s6, s7, s8, s9, hl, h1, h2, rfl⟩ := hP
    have e : c = r := hl
    subst e2
    subst e
    simpa using h k
theorem s_marked_at {σ : Str → Wd} {pins : List Str} {p r : Plan} {q : List Nat} {b : Bool} (hq : Leads p q r) (hh : height p ≤ 12) (hn : nodes p ≤ 1000) (hok : ok p) (h : Qd (marks σ pins r).d) : Cl (wp_marked_at K) [.d p.d, .d (.tuple [wds σ p, .bool b]), .d (pinD pins), .d (pl q)] Qd := by
  refine ⟨rfl, ?_⟩
  unfold bd_marked_at
  refine seq_gen fun k1 e1 => ?_
  simp [env0, -pl]
  refine s_found_at hq (by omega) hn fun k => ?_
  simp [-pl]
  subst e1
  simp [-pl]
  have := leads_height hq
  exact (s_marks σ pins 24).1 r _ (by omega) (by decide) (by omega) (leads_ok hq hok) h
theorem s_is_good {σ : Str → Wd} {pins : List Str} {p r : Plan} {q : List Nat} {b : Bool} (hq : Leads p q r) (hh : height p ≤ 12) (hn : nodes p ≤ 1000) (hok : ok p) (h : Qd (.bool (marks σ pins r).good)) : Cl (wp_is_good K) [.d p.d, .d (.tuple [wds σ p, .bool b]), .d (pinD pins), .d (pl q)] Qd := by
  refine ⟨rfl, ?_⟩
  simp [bd_is_good, env0, -pl]
  refine s_marked_at hq hh hn hok ?_
  simpa [Mk.d] using h
def Mk.at (m : Mk) (j : Nat) : Bool := match j with
  | 0 => m.good
  | 1 => m.sure
  | 2 => m.loose
  | 3 => m.ready
  | _ => m.whole
def mkNames : List PyData := [.str "good", .str "sure", .str "loose", .str "ready", .str "whole"]
theorem s_has_mark {σ : Str → Wd} {pins : List Str} {p r : Plan} {q : List Nat} {b : Bool} {s : String} {j : Nat} (hj : (s, j) ∈ [("good", 0), ("sure", 1), ("loose", 2), ("ready", 3), ("whole", 4)]) (hq : Leads p q r) (hh : height p ≤ 12) (hn : nodes p ≤ 1000) (hok : ok p) (h : Qd (.bool (Mk.at (marks σ pins r) j))) : Cl (wp_has_mark K) [.d p.d, .d (.tuple [wds σ p, .bool b]), .d (pinD pins), .d (pl q), .d (.str s)] Qd := by
  refine ⟨rfl, ?_⟩
  simp [bd_has_mark, env0, -pl]
  refine s_marked_at hq hh hn hok ?_
  simp at hj
  rcases hj with ⟨rfl, rfl⟩ | ⟨rfl, rfl⟩ | ⟨rfl, rfl⟩ | ⟨rfl, rfl⟩ | ⟨rfl, rfl⟩ <;> simpa [SeqAt.dataPlace, List.findIdx?_cons, Mk.d, Mk.at] using h
theorem come_len : ∀ rows : List Mk, (come rows).length ≤ rows.length
  | [] => Nat.le_refl _
  | r :: rs => by
    unfold come
    split
    · simp
    · simpa using come_len rs
theorem s_comes_to {σ : Str → Wd} {pins : List Str} {p : Plan} {w : Gw} {ms : List Plan} {q : List Nat} {b : Bool} (hq : Leads p q (grp w ms)) (hh : height p ≤ 12) (hn : nodes p ≤ 1000) (hok : ok p)
    (h : Qd (.tuple ((List.range (come (rowsOf σ pins w ms)).length).map fun (i : Nat) => .int ((force σ ms : Nat) + (i : Int))))) : Cl (wp_comes_to K) [.d p.d, .d (.tuple [wds σ p, .bool b]), .d (pinD pins), .d (pl q)] Qd := by
  refine ⟨rfl, ?_⟩
  unfold bd_comes_to
  refine seq_gen fun k1 e1 => ?_
  simp [env0, -pl]
  refine s_found_at hq (by omega) hn fun k => ?_
  simp [-pl]
  subst e1
  refine seq_gen fun k2 e2 => ?_
  have hl := leads_height hq
  have ho := leads_ok hq hok
  simp [-pl]
  refine s_force_in (by omega) (by omega) ho ?_
  subst e2
  simp [-pl]
  refine (s_marks σ pins 24).2 w ms _ (by omega) (by decide) (by omega) ho ?_
  have hle := rowsOf_le (σ := σ) (pins := pins) (w := w) (ms := ms)
  have hln := len_le_nodesL ms
  have hf := force_lt σ ho.1
  have hnn := hl.2
  rw [nodes] at hnn
  refine s_coming (by omega) ?_
  have hc : (come (rowsOf σ pins w ms)).length ≤ (rowsOf σ pins w ms).length := come_len _
  simp
  refine ⟨?_, ?_⟩
  · exact L2.RgOk.of_le (by omega) (by omega) (by omega) (by omega)
  · have e : ((force σ ms : Int) + ((come (rowsOf σ pins w ms)).length : Int)).toNat - force σ ms = (come (rowsOf σ pins w ms)).length := by omega
    rw [e]
    exact h
theorem s_hinges {σ : Str → Wd} {pins : List Str} {p : Plan} {w : Gw} {ms : List Plan} {q : List Nat} {b : Bool} {s : String} {sel : Mk → Bool} (hs : (s = "ready" ∧ sel = (·.ready)) ∨ (s = "whole" ∧ sel = (·.whole))) (hq : Leads p q (grp w ms)) (hh : height p ≤ 12) (hn : nodes p ≤ 1000) (hok : ok p)
    (h : Qd (.tuple ((PL.hinges sel (rowsOf σ pins w ms)).map fun (j : Nat) => .int j))) : Cl (wp_hinges K) [.d p.d, .d (.tuple [wds σ p, .bool b]), .d (pinD pins), .d (pl q), .d (.str s)] Qd := by
  refine ⟨rfl, ?_⟩
  unfold bd_hinges
  refine seq_gen fun k1 e1 => ?_
  simp [env0, -pl]
  refine s_found_at hq (by omega) hn fun k => ?_
  simp [-pl]
  subst e1
  have hl := leads_height hq
  have ho := leads_ok hq hok
  simp [-pl]
  refine (s_marks σ pins 24).2 w ms _ (by omega) (by decide) (by omega) ho ?_
  have hle := rowsOf_le (σ := σ) (pins := pins) (w := w) (ms := ms)
  have hln := len_le_nodesL ms
  have hnn := hl.2
  rw [nodes] at hnn
  rcases hs with ⟨rfl, rfl⟩ | ⟨rfl, rfl⟩
  · simp [SeqAt.dataPlace, List.findIdx?_cons]
    refine s_hinges_of (.inl ⟨rfl, rfl⟩) (by omega) ?_
    simpa using h
  · simp [SeqAt.dataPlace, List.findIdx?_cons]
    refine s_hinges_of (.inr ⟨rfl, rfl⟩) (by omega) ?_
    simpa using h
def markRow (σ : Str → Wd) (pins : List Str) (x : List Nat × Plan) : PyData := let m := marks σ pins x.2; .tuple [pl x.1, .bool m.good, .bool m.sure, .bool m.loose, .bool m.ready, .bool m.whole]
theorem s_all_marks {σ : Str → Wd} {pins : List Str} {p : Plan} {b : Bool} (hh : height p ≤ 12) (hn : nodes p ≤ 1000) (hok : ok p) (h : Qd (.tuple ((placed p).map (markRow σ pins)))) : Cl (wp_marks K) [.d p.d, .d (.tuple [wds σ p, .bool b]), .d (pinD pins)] Qd := by
  refine ⟨rfl, ?_⟩
  simp [bd_marks, env0]
  refine s_places_of (by omega) hn ?_
  simp only [srcD]
  refine lcD_map (fun x : List Nat × Plan => pl x.1) (markRow σ pins) _ (fun x hx k hk => ?_) ?_
  · simp [-pl]
    refine s_marked_at (placed_leads p x.1 x.2 hx) hh hn hok ?_
    simpa [Mk.d, markRow] using hk
  · simpa using h
end
end W_k11

set_option Elab.async false
set_option linter.all false
set_option maxRecDepth 100000
set_option maxHeartbeats 4000000
namespace PL.Plan
open PySem VL
def put (σ : Str → Wd) (n : Str) (w : Wd) : Str → Wd := fun x => if x = n then w else σ x
def names (p : Plan) : List Str := (deeds p).map (·.1)
def answers (k : Kd) : List Wd := if k = .sure ∨ k = .both then [.done] else [.done, .failed]
theorem filter_name : ∀ {l : List (Str × Kd)} {n : Str} {k : Kd}, (l.map (·.1)).Nodup → (n, k) ∈ l → (l.filter fun x => decide (x.1 = n)) = [(n, k)]
  | x :: l, n, k, hd, h => by
    rw [List.map_cons, List.nodup_cons] at hd
    rcases List.mem_cons.mp h with e | h
    · subst e
      have : (l.filter fun x => decide (x.1 = n)) = [] := by
        rw [List.filter_eq_nil_iff]
        intro y hy
        simp
        intro e
        exact hd.1 (List.mem_map.mpr ⟨y, hy, e⟩)
      simp [this]
    · have hne : ¬ x.1 = n := fun e => hd.1 (List.mem_map.mpr ⟨(n, k), h, e.symm⟩)
      simp [hne]
      exact filter_name hd.2 h
theorem put_map (σ : Str → Wd) (n : Str) (w : Wd) : ∀ (l : List Str) (j : Nat), l.Nodup → l[j]? = some n → l.map (fun x => PyData.str (put σ n w x).s) = (l.map fun x => .str (σ x).s).take j ++ [.str w.s] ++ (l.map fun x => .str (σ x).s).drop (j + 1)
  | x :: l, 0, hd, h => by
    have e : x = n := by simpa using h
    subst e
    rw [List.nodup_cons] at hd
    have : l.map (fun y => PyData.str (put σ x w y).s) = l.map fun y => .str (σ y).s := List.map_congr_left fun y hy => by
      have : ¬ y = x := fun e => hd.1 (e ▸ hy)
      simp [put, this]
    simp [this]
    simp [put]
  | x :: l, j + 1, hd, h => by
    rw [List.nodup_cons] at hd
    have h' : l[j]? = some n := by simpa using h
    have hne : ¬ x = n := fun e => hd.1 (e ▸ List.mem_of_getElem? h')
    have := put_map σ n w l j hd.2 h'
    simp at this
    simp [this]
    simp [put, hne]
theorem place_str : ∀ (l : List Str) (n : Str), n ∈ l → ∃ j, SeqAt.dataPlace (l.map .str) (.str n) = some j ∧ l[j]? = some n := by
  intro l n h
  induction l with
  | nil => simp at h
  | cons x l ih =>
    by_cases e : x = n
    · exact ⟨0, by simp [SeqAt.dataPlace, List.findIdx?_cons, e], by simp [e]⟩
    · have h' : n ∈ l := by
        rcases List.mem_cons.mp h with z | z
        · exact absurd z.symm e
        · exact z
      obtain ⟨j, h1, h2⟩ := ih h'
      refine ⟨j + 1, ?_, by simpa using h2⟩
      simp [SeqAt.dataPlace, List.findIdx?_cons, e] at h1 ⊢
      simpa using h1
end PL.Plan
namespace W_k11
open PySem VL PL PL.Plan
section
variable {K : PySem.W.Frag} {Qd : PyData → Prop}
theorem s_answers_to {p : Plan} {n : Str} {k : Kd} (hh : height p ≤ 24) (hn : nodes p ≤ 1000) (hd : (names p).Nodup) (hk : (n, k) ∈ deeds p) (h : Qd (.list ((answers k).map fun a => .str a.s))) : Cl (wp_answers_to K) [.d p.d, .d (.str n)] Qd := by
  refine ⟨rfl, ?_⟩
  unfold bd_answers_to
  refine seq_gen fun k1 e1 => ?_
  simp [env0]
  refine s_deeds_of hh hn ?_
  simp only [srcD]
  refine lcD_fn de (fun x => decide (x.1 = n)) (fun x => .str x.2.s) _ [] (fun x hx q hq => ?_) ?_
  · by_cases e : x.1 = n
    · simp [e] at hq
      simpa [de, e] using hq
    · simp [e] at hq
      simpa [de, e] using hq
  · rw [filter_name hd hk]
    simp
    subst e1
    simp
    refine s_is_sure ?_
    by_cases e : k = .sure ∨ k = .both
    · simpa [e, answers, Wd.s] using h
    · simpa [e, answers, Wd.s] using h
theorem s_with_step {σ : Str → Wd} {p : Plan} {n : Str} {w : Wd} {b : Bool} (hh : height p ≤ 24) (hn : nodes p ≤ 1000) (hd : (names p).Nodup) (hm : n ∈ names p) (h : Qd (.tuple [wds (put σ n w) p, .bool b])) : Cl (wp_with_step K) [.d p.d, .d (.tuple [wds σ p, .bool b]), .d (.tuple [.str w.s, .str n])] Qd := by
  refine ⟨rfl, ?_⟩
  unfold bd_with_step
  refine seq_gen fun k1 e1 => ?_
  simp [env0]
  subst e1
  refine seq_gen fun k2 e2 => ?_
  simp
  subst e2
  refine ⟨by simp [okD, PyData.depth, PyData.depthAll], by simp [okD, PyData.depth, PyData.depthAll], ?_⟩
  refine seq_gen fun k3 e3 => ?_
  simp
  refine s_deeds_of hh hn ?_
  simp only [srcD]
  refine lcD_map de (fun x => .str x.1) _ (fun x hx q hq => by simpa [de] using hq) ?_
  subst e3
  refine seq_gen fun k4 e4 => ?_
  have en : (deeds p).map (fun x => PyData.str x.1) = (names p).map .str := by simp [names]
  obtain ⟨j, h1, h2⟩ := place_str (names p) n hm
  rw [en]
  simp
  refine ⟨by simp [tyD], j, h1, ?_⟩
  subst e4
  have ew : wds σ p = .tuple ((names p).map fun x => .str (σ x).s) := by simp [wds, names]
  have ew2 : wds (put σ n w) p = .tuple ((names p).map fun x => .str (put σ n w x).s) := by simp [wds, names]
  rw [ew2, put_map σ n w _ j hd h2] at h
  rw [ew]
  have hL : ((names p).map (fun x => PyData.str (σ x).s)).length ≤ 1000 := by
    have := deeds_le p
    simp [names]
    omega
  generalize (names p).map (fun x => PyData.str (σ x).s) = L at h hL ⊢
  have e1 : (j : Int) + 1 = ((j + 1 : Nat) : Int) := by omega
  simp
  rw [e1, cutL_to, cutL_from]
  have ec : cutL [PyData.str w.s, PyData.str n] none (some 1) = [.str w.s] := cutL_to [PyData.str w.s, PyData.str n] 1
  rw [ec]
  simp
  exact ⟨by omega, by omega, by simpa using h⟩
theorem s_lost_by {σ : Str → Wd} {pins : List Str} {p : Plan} {n : Str} {k : Kd} {b : Bool} (hh : height p ≤ 12) (hn : nodes p ≤ 1000) (hok : ok p) (hd : (names p).Nodup) (hk : (n, k) ∈ deeds p)
    (h : Qd (.tuple (((answers k).filter fun a => !(marks (put σ n a) pins p).whole).map fun a => .str a.s))) : Cl (wp_lost_by K) [.d p.d, .d (.tuple [wds σ p, .bool b]), .d (pinD pins), .d (.str n)] Qd := by
  refine ⟨rfl, ?_⟩
  unfold bd_lost_by
  refine seq_gen fun k1 e1 => ?_
  simp [env0]
  refine s_answers_to (by omega) hn hd hk ?_
  simp only [srcD]
  have hm : n ∈ names p := List.mem_map.mpr ⟨(n, k), hk, rfl⟩
  refine lcD_map (fun a : Wd => .str a.s) (fun a => .tuple [.str a.s, .tuple [wds (put σ n a) p, .bool b]]) _ (fun a ha q hq => ?_) ?_
  · simp
    exact s_with_step (by omega) hn hd hm hq
  · subst e1
    simp
    refine lcD_fn (fun a : Wd => .tuple [.str a.s, .tuple [wds (put σ n a) p, .bool b]]) (fun a => !(marks (put σ n a) pins p).whole) (fun a => .str a.s) _ [] (fun a ha q hq => ?_) ?_
    · simp
      refine s_has_mark (q := []) (r := p) (s := "whole") (j := 4) (by simp) rfl hh hn hok ?_
      simp [Mk.at]
      cases hw : (marks (put σ n a) pins p).whole <;> simpa [hw] using hq
    · simpa using h
end
end W_k11

set_option Elab.async false
set_option linter.all false
set_option maxRecDepth 100000
set_option maxHeartbeats 4000000
namespace PL.Plan
open PySem VL
/-- a state: the names with their words -/
def stL (σ : Str → Wd) (L : List Str) : List (PyData × PyData) := L.map fun n => (.str n, .str (σ n).s)
theorem getD_st (σ : Str → Wd) {n : Str} : ∀ {L : List Str}, n ∈ L → getD (stL σ L) (.inr n) = some (.str (σ n).s)
  | x :: L, h => by
    by_cases e : x = n
    · subst e
      simp [getD, stL, keyD]
    · have h' : n ∈ L := by
        rcases List.mem_cons.mp h with z | z
        · exact absurd z.symm e
        · exact z
      have := getD_st σ h'
      simp [getD, stL, keyD, e] at this ⊢
      exact this
theorem putD_st (σ : Str → Wd) {n : Str} {w : Wd} {L : List Str} (h : n ∈ L) : putDv (stL σ L) (.inr n) (.str w.s) = stL (put σ n w) L := by
  unfold putDv
  have e : ((stL σ L).any fun kv => decide (keyD kv.1 = some (.inr n))) = true := by
    simp [stL, keyD]
    exact h
  rw [if_pos e]
  simp only [stL, List.map_map]
  refine List.map_congr_left fun x hx => ?_
  by_cases e : x = n <;> simp [keyD, put, e]
theorem names_mem {w : Gw} {ms : List Plan} {m : Plan} (hm : m ∈ ms) : ∀ n ∈ names m, n ∈ names (grp w ms) := by
  intro n hn
  obtain ⟨x, hx, e⟩ := List.mem_map.mp hn
  refine List.mem_map.mpr ⟨x, ?_, e⟩
  rw [deeds, deedsL_flat]
  exact List.mem_flatten.mpr ⟨deeds m, List.mem_map.mpr ⟨m, hm, rfl⟩, hx⟩
end PL.Plan
namespace W_k11
open PySem VL PL PL.Plan
section
variable {K : PySem.W.Frag} {Qd : PyData → Prop}
theorem l_deeds : ∀ (n : Nat) (p : Plan) (Qd : PyData → Prop), height p ≤ n → nodes p ≤ 1000 → Qd (.list ((deeds p).map de)) → Cl (wpR__law_deeds K n 0) [.d p.d] Qd := by
  intro n
  induction n with
  | zero => intro p Qd h; cases p <;> simp [height] at h
  | succ n ih =>
    intro p Qd hh hn h
    refine ⟨rfl, ?_⟩
    unfold bd__law_deeds
    refine seq_gen fun k1 e1 => ?_
    cases p with
    | deed nm k =>
      simp [env0, Plan.d]
      simpa [deeds, de] using h
    | grp w ms =>
      simp [env0, Plan.d]
      subst e1
      refine seq_gen fun k2 e2 => ?_
      simp
      subst e2
      refine seq_gen fun k3 e3 => ?_
      simp [ds_map]
      refine forD_rule d (fun r ρ => ∃ (done : List Plan) (s2 : Slot), ms = done ++ r ∧ ρ = [.sh (.tuple [.str w.s, .tuple (ms.map d)]), .sh (.list ((deedsL done).map de)), s2]) (fun m r ρ hP D' e1 e2 hD => ?_) (fun ρ hP => ?_) ms _ ⟨[], .un, rfl, by simp [deedsL]⟩
      · obtain ⟨done, s2, e, rfl⟩ := hP
        have hm : m ∈ ms := by rw [e]; simp
        have h1 := heightL_mem hm
        have h2 := nodesL_mem hm
        rw [height] at hh
        rw [nodes] at hn
        simp
        refine ih m _ (by omega) (by omega) ?_
        have hx : deedsL ms = deedsL done ++ deeds m ++ deedsL r := by rw [e]; simp [deedsL_flat]
        have hl := deedsL_le ms
        rw [hx] at hl
        simp at hl
        simp
        refine ⟨by omega, (hD _ ⟨done ++ [m], .sh m.d, by rw [e]; simp, ?_⟩).1⟩
        simp [deedsL_flat]
      · obtain ⟨done, s2, e, rfl⟩ := hP
        rw [List.append_nil] at e
        subst e
        subst e3
        simpa [deeds] using h
theorem l_is_lost (σ : Str → Wd) (L : List Str) : ∀ (n : Nat) (p : Plan) (Qd : PyData → Prop), height p ≤ n → nodes p ≤ 1000 → ok p → (∀ x ∈ names p, x ∈ L) → Qd (.bool (lost σ p)) → Cl (wpR__law_is_lost K n 0) [.d p.d, .d (.dict (stL σ L))] Qd := by
  intro n
  induction n with
  | zero => intro p Qd h; cases p <;> simp [height] at h
  | succ n ih =>
    intro p Qd hh hn hok hL h
    refine ⟨rfl, ?_⟩
    unfold bd__law_is_lost
    refine seq_gen fun k1 e1 => ?_
    cases p with
    | deed nm k =>
      have hm : nm ∈ L := hL nm (by simp [names, deeds])
      simp [env0, Plan.d, keyD, getD_st σ hm]
      simpa [lost] using h
    | grp w ms =>
      have hd : (grp w ms).d = .tuple [.str w.s, .tuple (ms.map d)] := by simp [Plan.d, ds_map]
      rw [hd]
      simp [env0]
      subst e1
      refine seq_gen fun k2 e2 => ?_
      simp
      refine lcD_map d (fun m => .bool (lost σ m)) ms (fun m hm k hk => ?_) ?_
      · have h1 := heightL_mem hm
        have h2 := nodesL_mem hm
        rw [height] at hh
        rw [nodes] at hn
        simp
        exact ih m _ (by omega) (by omega) (okL_mem hok.2 m hm) (fun x hx => hL x (names_mem hm x hx)) hk
      · have hne : ms.map (fun m => PyData.bool (lost σ m)) ≠ [] := by simpa using hok.1
        have hl := last_bool (lost σ) ms _ (lastL_eq σ ms hok.1)
        subst e2
        cases w <;> simpa [lost, anyL_eq, atI_last hne, hl, Gw.s] using h
theorem st_at {σ : Str → Wd} {L : List Str} {p : Plan} (hL : ∀ x ∈ names p, x ∈ L) {x : Str × Kd} (hx : x ∈ deeds p) : getD (stL σ L) (.inr x.1) = some (.str (σ x.1).s) := getD_st σ (hL x.1 (List.mem_map.mpr ⟨x, hx, rfl⟩))
theorem l_has_done {σ : Str → Wd} {L : List Str} {p : Plan} (hh : height p ≤ 24) (hn : nodes p ≤ 1000) (hL : ∀ x ∈ names p, x ∈ L) (h : Qd (.bool (hasDone σ p))) : Cl (wp__law_has_done K) [.d p.d, .d (.dict (stL σ L))] Qd := by
  refine ⟨rfl, ?_⟩
  simp [bd__law_has_done, env0]
  refine l_deeds 24 p _ hh hn ?_
  simp only [srcD]
  refine lcD_map de (fun x => .bool (decide (σ x.1 = .done))) _ (fun x hx k hk => ?_) ?_
  · have := st_at (σ := σ) hL hx
    simpa [de, keyD, this] using hk
  · simpa [hasDone] using h
/-- the places of a list's items that are chosen -/
def chosen (f : Plan → Bool) : Nat → List Plan → List Nat
  | _, [] => []
  | i, m :: ms => (if f m = true then [i] else []) ++ chosen f (i + 1) ms
theorem enumF_zip {α : Type} (enc : α → PyData) : ∀ (i : Nat) (xs : List α), enumF enc i xs = (xs.zipIdx i).map fun y => .tuple [.int (y.2 : Nat), enc y.1]
  | _, [] => rfl
  | i, x :: xs => by rw [enumF, enumF_zip enc (i + 1) xs]; simp
theorem zip_mem {α : Type} {xs : List α} {i : Nat} {y : α × Nat} (h : y ∈ xs.zipIdx i) : y.1 ∈ xs := by
  obtain ⟨a, b⟩ := y
  exact (List.mem_zipIdx h).2.2 ▸ List.getElem_mem _
theorem chosen_zip (f : Plan → Bool) : ∀ (ms : List Plan) (i : Nat), chosen f i ms = ((ms.zipIdx i).filter fun y => f y.1).map (·.2)
  | [], _ => rfl
  | m :: ms, i => by
    rw [chosen, chosen_zip f ms (i + 1)]
    by_cases h : f m = true <;> simp [h]
theorem chosen_head (f : Plan → Bool) : ∀ (ms : List Plan) (i : Nat), (chosen f i ms = [] ∧ ms.findIdx f = ms.length) ∨ ∃ r, chosen f i ms = (i + ms.findIdx f) :: r ∧ ms.findIdx f < ms.length
  | [], _ => .inl ⟨rfl, rfl⟩
  | m :: ms, i => by
    by_cases h : f m = true
    · refine .inr ⟨chosen f (i + 1) ms, ?_, ?_⟩ <;> simp [chosen, h, List.findIdx_cons]
    · rw [Bool.not_eq_true] at h
      rcases chosen_head f ms (i + 1) with ⟨a, b⟩ | ⟨r, a, b⟩
      · exact .inl ⟨by simp [chosen, h, a], by simp [List.findIdx_cons, h, b]⟩
      · refine .inr ⟨r, ?_, ?_⟩
        · simp [chosen, h, a, List.findIdx_cons]
          omega
        · simpa [List.findIdx_cons, h] using b
theorem l_force {σ : Str → Wd} {L : List Str} {w : Gw} {ms : List Plan} (hh : height (grp w ms) ≤ 24) (hn : nodes (grp w ms) ≤ 1000) (hok : ok (grp w ms)) (hL : ∀ x ∈ names (grp w ms), x ∈ L) (h : Qd (.int (force σ ms : Nat))) : Cl (wp__law_force K) [.d (grp w ms).d, .d (.dict (stL σ L))] Qd := by
  refine ⟨rfl, ?_⟩
  unfold bd__law_force
  refine seq_gen fun k1 e1 => ?_
  have hd : (grp w ms).d = .tuple [.str w.s, .tuple (ms.map d)] := by simp [Plan.d, ds_map]
  rw [hd]
  rw [height] at hh
  rw [nodes] at hn
  simp [env0]
  rw [enumD_eq, enumF_zip]
  refine lcD_fn (fun y : Plan × Nat => .tuple [.int (y.2 : Nat), d y.1]) (fun y => stays σ y.1) (fun y => .int (y.2 : Nat)) _ [] (fun y hy k hk => ?_) ?_
  · have hm := zip_mem hy
    have a1 := heightL_mem hm
    have a2 := nodesL_mem hm
    simp
    refine l_is_lost σ L 24 y.1 _ (by omega) (by omega) (okL_mem hok.2 _ hm) (fun x hx => hL x (names_mem hm x hx)) ?_
    cases hl : lost σ y.1 with
    | false => simpa [stays, hl] using hk
    | true =>
      simp
      refine l_has_done (by omega) (by omega) (fun x hx => hL x (names_mem hm x hx)) ?_
      cases hd2 : hasDone σ y.1 <;> simpa [stays, hl, hd2] using hk
  · rw [List.nil_append]
    have e : ((ms.zipIdx.filter fun y => stays σ y.1).map fun y => PyData.int (y.2 : Nat)) = (chosen (stays σ) 0 ms).map fun (j : Nat) => .int j := by
      rw [chosen_zip]
      simp
    rw [e]
    subst e1
    have hp : 0 < ms.length := List.length_pos_iff.mpr hok.1
    have hf : force σ ms = if ms.findIdx (stays σ) < ms.length then ms.findIdx (stays σ) else ms.length - 1 := rfl
    rcases chosen_head (stays σ) ms 0 with ⟨a, b⟩ | ⟨r, a, b⟩
    · rw [b, if_neg (Nat.lt_irrefl _)] at hf
      rw [hf] at h
      have e3 : ((ms.length - 1 : Nat) : Int) = (ms.length : Int) - 1 := by omega
      rw [e3] at h
      simpa [a] using h
    · rw [if_pos b] at hf
      rw [hf] at h
      have ho := okD_ints (ms.findIdx (stays σ) :: r)
      simp at ho
      simpa [a, ho] using h
end
end W_k11

set_option Elab.async false
set_option linter.all false
set_option maxRecDepth 100000
set_option maxHeartbeats 4000000
namespace PL.Plan
open PySem VL
theorem d_grp (w : Gw) (ms : List Plan) : (grp w ms).d = .tuple [.str w.s, .tuple (ms.map d)] := by simp [Plan.d, ds_map]
mutual
def isDone (σ : Str → Wd) : Plan → Bool
  | deed n _ => decide (σ n = .done)
  | grp .els ms => doneAt σ (force σ ms) ms
  | grp .row ms => allDone σ ms
  | grp .side ms => allDone σ ms
def doneAt (σ : Str → Wd) : Nat → List Plan → Bool
  | _, [] => false
  | 0, p :: _ => isDone σ p
  | i + 1, _ :: ps => doneAt σ i ps
def allDone (σ : Str → Wd) : List Plan → Bool
  | [] => true
  | p :: ps => isDone σ p && allDone σ ps
end
theorem allDone_eq (σ : Str → Wd) : ∀ ms : List Plan, allDone σ ms = ms.all (isDone σ)
  | [] => rfl
  | p :: ps => by rw [allDone, allDone_eq σ ps]; rfl
theorem doneAt_eq (σ : Str → Wd) : ∀ (ms : List Plan) (i : Nat) (m : Plan), ms[i]? = some m → doneAt σ i ms = isDone σ m
  | p :: ps, 0, m, h => by
    have e : p = m := by simpa using h
    rw [doneAt, e]
  | p :: ps, i + 1, m, h => by
    rw [doneAt]
    exact doneAt_eq σ ps i m (by simpa using h)
mutual
def going (σ : Str → Wd) : Plan → Bool → List Str
  | deed n _, g => if g = true ∧ σ n = .done then [n] else []
  | grp w ms, g => goingL σ w g ms
def goingL (σ : Str → Wd) (w : Gw) (g : Bool) : List Plan → List Str
  | [] => []
  | m :: ms => going σ m (g || (decide (w = .els) && (!ms.isEmpty && lost σ m))) ++ goingL σ w g ms
end
mutual
theorem going_mem (σ : Str → Wd) : ∀ (p : Plan) (g : Bool), (∀ x ∈ going σ p g, x ∈ names p ∧ σ x = .done) ∧ (going σ p g).length ≤ (deeds p).length
  | deed n k, g => by
    rw [going]
    split
    · rename_i h
      simp [names, deeds, h]
    · simp
  | grp w ms, g => by
    have := goingL_mem σ w g ms
    rw [going]
    simpa [names, deeds] using this
theorem goingL_mem (σ : Str → Wd) (w : Gw) (g : Bool) : ∀ ms : List Plan, (∀ x ∈ goingL σ w g ms, x ∈ (deedsL ms).map (·.1) ∧ σ x = .done) ∧ (goingL σ w g ms).length ≤ (deedsL ms).length
  | [] => by simp [goingL]
  | m :: ms => by
    have a := going_mem σ m (g || (decide (w = .els) && (!ms.isEmpty && lost σ m)))
    have b := goingL_mem σ w g ms
    rw [goingL, deedsL]
    refine ⟨fun x hx => ?_, ?_⟩
    · rcases List.mem_append.mp hx with h | h
      · have := a.1 x h
        refine ⟨?_, this.2⟩
        rw [List.map_append]
        exact List.mem_append_left _ this.1
      · have := b.1 x h
        refine ⟨?_, this.2⟩
        rw [List.map_append]
        exact List.mem_append_right _ this.1
    · rw [List.length_append, List.length_append]
      exact Nat.add_le_add a.2 b.2
end
mutual
def mayTry (σ : Str → Wd) : Plan → List (Str × Kd)
  | deed n k => if σ n = .fresh then [(n, k)] else []
  | grp .els ms => if dead σ (grp .els ms) = true then [] else tryAt σ (force σ ms) ms
  | grp .row ms => if dead σ (grp .row ms) = true then [] else tryL σ true ms
  | grp .side ms => if dead σ (grp .side ms) = true then [] else tryL σ false ms
def tryAt (σ : Str → Wd) : Nat → List Plan → List (Str × Kd)
  | _, [] => []
  | 0, p :: _ => mayTry σ p
  | i + 1, _ :: ps => tryAt σ i ps
def tryL (σ : Str → Wd) (row : Bool) : List Plan → List (Str × Kd)
  | [] => []
  | m :: ms => mayTry σ m ++ (if row = true ∧ isDone σ m = false then [] else tryL σ row ms)
end
theorem tryAt_eq (σ : Str → Wd) : ∀ (ms : List Plan) (i : Nat) (m : Plan), ms[i]? = some m → tryAt σ i ms = mayTry σ m
  | p :: ps, 0, m, h => by
    have e : p = m := by simpa using h
    rw [tryAt, e]
  | p :: ps, i + 1, m, h => by
    rw [tryAt]
    exact tryAt_eq σ ps i m (by simpa using h)
mutual
theorem mayTry_sub (σ : Str → Wd) : ∀ p : Plan, (mayTry σ p).Sublist (deeds p) ∧ ∀ x ∈ mayTry σ p, σ x.1 = .fresh
  | deed n k => by
    rw [mayTry, deeds]
    split <;> simp [*]
  | grp .els ms => by
    rw [mayTry, deeds]
    split
    · simp
    · exact tryAt_sub σ _ ms
  | grp .row ms => by
    rw [mayTry, deeds]
    split
    · simp
    · exact tryL_sub σ _ ms
  | grp .side ms => by
    rw [mayTry, deeds]
    split
    · simp
    · exact tryL_sub σ _ ms
theorem tryAt_sub (σ : Str → Wd) : ∀ (i : Nat) (ms : List Plan), (tryAt σ i ms).Sublist (deedsL ms) ∧ ∀ x ∈ tryAt σ i ms, σ x.1 = .fresh
  | _, [] => by simp [tryAt]
  | 0, p :: ps => by
    have := mayTry_sub σ p
    rw [tryAt, deedsL]
    exact ⟨this.1.trans (List.sublist_append_left _ _), this.2⟩
  | i + 1, p :: ps => by
    have := tryAt_sub σ i ps
    rw [tryAt, deedsL]
    exact ⟨this.1.trans (List.sublist_append_right _ _), this.2⟩
theorem tryL_sub (σ : Str → Wd) (row : Bool) : ∀ ms : List Plan, (tryL σ row ms).Sublist (deedsL ms) ∧ ∀ x ∈ tryL σ row ms, σ x.1 = .fresh
  | [] => by simp [tryL]
  | m :: ms => by
    have a := mayTry_sub σ m
    have b := tryL_sub σ row ms
    rw [tryL, deedsL]
    split
    · simp only [List.append_nil]
      exact ⟨a.1.trans (List.sublist_append_left _ _), a.2⟩
    · refine ⟨a.1.append b.1, fun x hx => ?_⟩
      rcases List.mem_append.mp hx with h | h
      · exact a.2 x h
      · exact b.2 x h
end
def firm (σ : Str → Wd) (pins : List Str) (x : Str × Kd) : Bool := decide (σ x.1 = .done) && ((decide (x.2 = .sure) || decide (x.2 = .neither)) || decide (x.1 ∈ pins))
theorem good_firm (σ : Str → Wd) (pins : List Str) (p : Plan) : good σ pins p = (deeds p).any (firm σ pins) := by
  unfold good firm
  congr 1
  funext x
  obtain ⟨n, k⟩ := x
  cases k <;> simp
end PL.Plan
namespace W_k11
open PySem VL PL PL.Plan
section
variable {K : PySem.W.Frag} {Qd : PyData → Prop}
theorem l_force' {σ : Str → Wd} {L : List Str} {w : Gw} {ms : List Plan} (hh : height (grp w ms) ≤ 24) (hn : nodes (grp w ms) ≤ 1000) (hok : ok (grp w ms)) (hL : ∀ x ∈ names (grp w ms), x ∈ L) (h : Qd (.int (force σ ms : Nat))) : Cl (wp__law_force K) [.d (.tuple [.str w.s, .tuple (ms.map d)]), .d (.dict (stL σ L))] Qd := by
  rw [← d_grp]
  exact l_force hh hn hok hL h
theorem l_is_done (σ : Str → Wd) (L : List Str) : ∀ (n : Nat) (p : Plan) (Qd : PyData → Prop), height p ≤ n → n ≤ 24 → nodes p ≤ 1000 → ok p → (∀ x ∈ names p, x ∈ L) → Qd (.bool (isDone σ p)) → Cl (wpR__law_is_done K n 0) [.d p.d, .d (.dict (stL σ L))] Qd := by
  intro n
  induction n with
  | zero => intro p Qd h; cases p <;> simp [height] at h
  | succ n ih =>
    intro p Qd hh h24 hn hok hL h
    refine ⟨rfl, ?_⟩
    unfold bd__law_is_done
    refine seq_gen fun k1 e1 => ?_
    cases p with
    | deed nm k =>
      have hm : nm ∈ L := hL nm (by simp [names, deeds])
      simp [env0, Plan.d, keyD, getD_st σ hm]
      simpa [isDone] using h
    | grp w ms =>
      have hlf : ∀ Q : PyData → Prop, Q (.int (force σ ms : Nat)) → Cl (wp__law_force K) [.d (.tuple [.str w.s, .tuple (ms.map d)]), .d (.dict (stL σ L))] Q := fun Q hq => l_force' (by omega) hn hok hL hq
      have hh' := hh
      have hn' := hn
      rw [height] at hh'
      rw [nodes] at hn'
      rw [d_grp]
      simp [env0]
      subst e1
      refine seq_gen fun k2 e2 => ?_
      have core : ∀ (xs : List Plan) (src : PyData), (src = .tuple (xs.map d) ∨ src = .list (xs.map d)) → (∀ x ∈ xs, x ∈ ms) → Qd (.bool (xs.all (isDone σ))) → k2 (ctlS Qd) [.sh (.tuple [.str w.s, .tuple (ms.map d)]), .sh (.dict (stL σ L)), .sh src, .un] := by
        intro xs src hs hx hq
        rw [e2]
        rcases hs with rfl | rfl
        all_goals simp
        all_goals refine lcD_map d (fun m => .bool (isDone σ m)) xs (fun m hm k hk => ?_) (by simpa [-List.all_eq_true] using hq)
        all_goals
          have hmm := hx m hm
          have h1 := heightL_mem hmm
          have h2 := nodesL_mem hmm
          simp
          exact ih m _ (by omega) (by omega) (by omega) (okL_mem hok.2 m hmm) (fun x hx => hL x (names_mem hmm x hx)) hk
      cases w with
      | row =>
        simp
        exact core ms _ (.inl rfl) (fun _ h => h) (by simpa [isDone, allDone_eq, -List.all_eq_true] using h)
      | side =>
        simp
        exact core ms _ (.inl rfl) (fun _ h => h) (by simpa [isDone, allDone_eq, -List.all_eq_true] using h)
      | els =>
        simp
        refine hlf _ ?_
        obtain ⟨m, hm⟩ : ∃ m, ms[force σ ms]? = some m := ⟨_, List.getElem?_eq_getElem (force_lt σ hok.1)⟩
        have ha : L2.atI (ms.map d) (force σ ms : Int) = some m.d := by rw [atI_nat, List.getElem?_map, hm]; rfl
        simp [ha]
        refine core [m] _ (.inr rfl) (fun x hx => ?_) ?_
        · rw [List.mem_singleton.mp hx]
          exact List.mem_of_getElem? hm
        · simpa [isDone, doneAt_eq σ ms _ m hm] using h
theorem l_is_dead (σ : Str → Wd) (L : List Str) : ∀ (n : Nat) (p : Plan) (Qd : PyData → Prop), height p ≤ n → n ≤ 24 → nodes p ≤ 1000 → ok p → (∀ x ∈ names p, x ∈ L) → Qd (.bool (dead σ p)) → Cl (wpR__law_is_dead K n 0) [.d p.d, .d (.dict (stL σ L))] Qd := by
  intro n
  induction n with
  | zero => intro p Qd h; cases p <;> simp [height] at h
  | succ n ih =>
    intro p Qd hh h24 hn hok hL h
    refine ⟨rfl, ?_⟩
    unfold bd__law_is_dead
    refine seq_gen fun k1 e1 => ?_
    cases p with
    | deed nm k =>
      have hm : nm ∈ L := hL nm (by simp [names, deeds])
      simp [env0, Plan.d, keyD, getD_st σ hm]
      simpa [dead] using h
    | grp w ms =>
      have hlf : ∀ Q : PyData → Prop, Q (.int (force σ ms : Nat)) → Cl (wp__law_force K) [.d (.tuple [.str w.s, .tuple (ms.map d)]), .d (.dict (stL σ L))] Q := fun Q hq => l_force' (by omega) hn hok hL hq
      have hh' := hh
      have hn' := hn
      rw [height] at hh'
      rw [nodes] at hn'
      rw [d_grp]
      simp [env0]
      subst e1
      refine seq_gen fun k2 e2 => ?_
      have hrec : ∀ m ∈ ms, ∀ Q : PyData → Prop, Q (.bool (dead σ m)) → Cl (wpR__law_is_dead K n 0) [.d m.d, .d (.dict (stL σ L))] Q := fun m hmm Q hq => by
        have h1 := heightL_mem hmm
        have h2 := nodesL_mem hmm
        exact ih m _ (by omega) (by omega) (by omega) (okL_mem hok.2 m hmm) (fun x hx => hL x (names_mem hmm x hx)) hq
      have core : Qd (.bool (ms.any (dead σ))) → k2 (ctlS Qd) [.sh (.tuple [.str w.s, .tuple (ms.map d)]), .sh (.dict (stL σ L)), .un] := by
        intro hq
        rw [e2]
        simp
        refine lcD_map d (fun m => .bool (dead σ m)) ms (fun m hm k hk => ?_) ?_
        · simp
          exact hrec m hm _ hk
        · simpa [-List.any_eq_true] using hq
      cases w with
      | row =>
        simp
        exact core (by simpa [dead, anyD_eq, -List.any_eq_true] using h)
      | side =>
        simp
        exact core (by simpa [dead, anyD_eq, -List.any_eq_true] using h)
      | els =>
        simp
        refine hlf _ ?_
        have hp : 0 < ms.length := List.length_pos_iff.mpr hok.1
        have hne : ms.map d ≠ [] := by simpa using hok.1
        have hla : L2.atI (ms.map d) (-1) = some (ms.getLast hok.1).d := by rw [atI_last hne, List.getLast?_map, List.getLast?_eq_some_getLast hok.1]; rfl
        have hld : dead σ (ms.getLast hok.1) = lastD σ ms := by
          have := lastD_eq σ ms hok.1
          rw [List.getLast?_map, List.getLast?_eq_some_getLast hok.1] at this
          simpa using this
        by_cases hf : force σ ms = ms.length - 1
        · have e3 : ((force σ ms : Nat) : Int) = (ms.length : Int) - 1 := by omega
          simp [e3, hla]
          refine hrec _ (List.getLast_mem hok.1) _ ?_
          rw [hld]
          simpa [dead, hf] using h
        · have e3 : ¬ ((force σ ms : Nat) : Int) = (ms.length : Int) - 1 := by omega
          simp [e3]
          simpa [dead, hf] using h
theorem l_going (σ : Str → Wd) (L : List Str) : ∀ (n : Nat) (p : Plan) (g : Bool) (Qd : PyData → Prop), height p ≤ n → n ≤ 24 → nodes p ≤ 1000 → ok p → (∀ x ∈ names p, x ∈ L) → Qd (.list ((going σ p g).map .str)) → Cl (wpR__law_going K n 0) [.d p.d, .d (.dict (stL σ L)), .d (.bool g)] Qd := by
  intro n
  induction n with
  | zero => intro p g Qd h; cases p <;> simp [height] at h
  | succ n ih =>
    intro p g Qd hh h24 hn hok hL h
    refine ⟨rfl, ?_⟩
    unfold bd__law_going
    refine seq_gen fun k1 e1 => ?_
    cases p with
    | deed nm k =>
      have hm : nm ∈ L := hL nm (by simp [names, deeds])
      cases g with
      | false =>
        simp [env0, Plan.d]
        simpa [going] using h
      | true =>
        by_cases hs : σ nm = .done
        · simp [env0, Plan.d, keyD, getD_st σ hm, hs]
          simpa [going, hs] using h
        · simp [env0, Plan.d, keyD, getD_st σ hm, hs]
          simpa [going, hs] using h
    | grp w ms =>
      have hh' := hh
      have hn' := hn
      rw [height] at hh'
      rw [nodes] at hn'
      rw [d_grp]
      simp [env0]
      subst e1
      refine seq_gen fun k2 e2 => ?_
      simp
      subst e2
      refine seq_gen fun k3 e3 => ?_
      simp
      refine forE_0 d (fun i r ρ => ∃ (done : List Plan) (acc : List Str) (s4 s5 s6 : Slot), ms = done ++ r ∧ done.length = i ∧ acc ++ goingL σ w g r = goingL σ w g ms ∧ ρ = [.sh (.tuple [.str w.s, .tuple (ms.map d)]), .sh (.dict (stL σ L)), .sh (.bool g), .sh (.list (acc.map .str)), s4, s5, s6]) ⟨[], [], .un, .un, .un, rfl, rfl, rfl, rfl⟩ (fun i m r ρ hP D' e4 e5 hD => ?_) fun i ρ hP => ?_
      · obtain ⟨done, acc, s4, s5, s6, e, ei, ea, rfl⟩ := hP
        have hm : m ∈ ms := by rw [e]; simp
        have h1 := heightL_mem hm
        have h2 := nodesL_mem hm
        have hmo := okL_mem hok.2 m hm
        have hmL : ∀ x ∈ names m, x ∈ L := fun x hx => hL x (names_mem hm x hx)
        simp only [dgTup, dgCons, dgName]
        simp [-dSeq]
        refine seq_gen fun k4 e6 => ?_
        have hlen : (goingL σ w g ms).length ≤ 1000 := by
          have a := (goingL_mem σ w g ms).2
          have b := deedsL_le ms
          omega
        have hml : ms.length = i + 1 + r.length := by rw [e, ← ei]; simp; omega
        have fin : ∀ b : Bool, b = (decide (w = .els) && (!r.isEmpty && lost σ m)) → k4 D' [.sh (.tuple [.str w.s, .tuple (ms.map d)]), .sh (.dict (stL σ L)), .sh (.bool g), .sh (.list (acc.map .str)), .sh (.int i), .sh m.d, .sh (.bool b)] := by
          intro b hb
          rw [goingL, ← hb] at ea
          have el : acc.length + (going σ m (g || b)).length ≤ 1000 := by
            have := congrArg List.length ea
            simp at this
            omega
          have go : ∀ x : Bool, x = (g || b) → Cl (wpR__law_going K n 0) [.d m.d, .d (.dict (stL σ L)), .d (.bool x)] fun d1 => dAdd (.list (acc.map .str)) d1 fun z => D'.nx [.sh (.tuple [.str w.s, .tuple (ms.map d)]), .sh (.dict (stL σ L)), .sh (.bool g), .sh z, .sh (.int i), .sh m.d, .sh (.bool b)] := by
            rintro x rfl
            refine ih m _ _ (by omega) (by omega) (by omega) hmo hmL ?_
            simp
            refine ⟨by omega, (hD _ ⟨done ++ [m], acc ++ going σ m (g || b), .sh (.int i), .sh m.d, .sh (.bool b), by rw [e]; simp, by simp [ei], by rw [← ea, List.append_assoc], ?_⟩).1⟩
            simp
          rw [e6]
          cases g with
          | true => simpa using go true rfl
          | false => simpa using go b (by simp)
        by_cases hw : w = .els
        · cases r with
          | nil =>
            have hz : ¬ ((i : Int) < (ms.length : Int) - 1) := by simp at hml; omega
            simp [hw, hz]
            exact hw ▸ fin false (by simp)
          | cons r1 r2 =>
            have hz : ((i : Int) < (ms.length : Int) - 1) := by simp at hml; omega
            simp [hw, hz]
            refine l_is_lost σ L 24 m _ (by omega) (by omega) hmo hmL ?_
            exact hw ▸ fin (lost σ m) (by simp [hw])
        · simp [hw]
          exact fin false (by simp [hw])
      · obtain ⟨done, acc, s4, s5, s6, e, ei, ea, rfl⟩ := hP
        simp [goingL] at ea
        subst ea
        subst e3
        simpa [going] using h
end
end W_k11

set_option Elab.async false
set_option linter.all false
set_option maxRecDepth 100000
set_option maxHeartbeats 4000000
namespace W_k11
open PySem VL PL PL.Plan
section
variable {K : PySem.W.Frag} {Qd : PyData → Prop}
theorem l_may_try (σ : Str → Wd) (L : List Str) : ∀ (n : Nat) (p : Plan) (Qd : PyData → Prop), height p ≤ n → n ≤ 24 → nodes p ≤ 1000 → ok p → (∀ x ∈ names p, x ∈ L) → Qd (.list ((mayTry σ p).map de)) → Cl (wpR__law_may_try K n 0) [.d p.d, .d (.dict (stL σ L))] Qd := by
  intro n
  induction n with
  | zero => intro p Qd h; cases p <;> simp [height] at h
  | succ n ih =>
    intro p Qd hh h24 hn hok hL h
    refine ⟨rfl, ?_⟩
    unfold bd__law_may_try
    refine seq_gen fun k1 e1 => ?_
    simp [env0]
    refine l_is_dead σ L 24 p _ (by omega) (by omega) hn hok hL ?_
    cases p with
    | deed nm k =>
      have hm : nm ∈ L := hL nm (by simp [names, deeds])
      by_cases hf : σ nm = .fresh
      · simp [dead, hf]
        subst e1
        simp [Plan.d, keyD, getD_st σ hm, hf]
        simpa [mayTry, hf, de] using h
      · cases hd : dead σ (deed nm k) with
        | true =>
          simp
          simpa [mayTry, hf] using h
        | false =>
          simp
          subst e1
          simp [Plan.d, keyD, getD_st σ hm, hf]
          simpa [mayTry, hf] using h
    | grp w ms =>
      cases hd : dead σ (grp w ms) with
      | true =>
        simp
        cases w <;> simpa [mayTry, hd] using h
      | false =>
        simp
        have hh' := hh
        have hn' := hn
        rw [height] at hh'
        rw [nodes] at hn'
        have hlf : ∀ Q : PyData → Prop, Q (.int (force σ ms : Nat)) → Cl (wp__law_force K) [.d (.tuple [.str w.s, .tuple (ms.map d)]), .d (.dict (stL σ L))] Q := fun Q hq => l_force' (by omega) hn hok hL hq
        have hrec : ∀ m ∈ ms, ∀ Q : PyData → Prop, Q (.list ((mayTry σ m).map de)) → Cl (wpR__law_may_try K n 0) [.d m.d, .d (.dict (stL σ L))] Q := fun m hmm Q hq => by
          have h1 := heightL_mem hmm
          have h2 := nodesL_mem hmm
          exact ih m _ (by omega) (by omega) (by omega) (okL_mem hok.2 m hmm) (fun x hx => hL x (names_mem hmm x hx)) hq
        have hdn : ∀ m ∈ ms, ∀ Q : PyData → Prop, Q (.bool (isDone σ m)) → Cl (wpR__law_is_done K 24 0) [.d m.d, .d (.dict (stL σ L))] Q := fun m hmm Q hq => by
          have h1 := heightL_mem hmm
          have h2 := nodesL_mem hmm
          exact l_is_done σ L 24 m _ (by omega) (by omega) (by omega) (okL_mem hok.2 m hmm) (fun x hx => hL x (names_mem hmm x hx)) hq
        rw [d_grp]
        subst e1
        refine seq_gen fun k2 e2 => ?_
        simp
        subst e2
        refine seq_gen fun k3 e3 => ?_
        have loop : ∀ row : Bool, row = decide (w = .row) → ¬ w = .els → Qd (.list ((tryL σ row ms).map de)) → k3 (ctlS Qd) [.sh (.tuple [.str w.s, .tuple (ms.map d)]), .sh (.dict (stL σ L)), .un, .un] := by
          intro row hrow hnw hq
          rw [e3]
          refine seq_gen fun k4 e4 => ?_
          simp
          rw [e4]
          refine seq_gen fun k5 e5 => ?_
          simp
          refine forD_rule d (fun r ρ => ∃ (acc : List (Str × Kd)) (s3 : Slot), (∀ x ∈ r, x ∈ ms) ∧ acc ++ tryL σ row r = tryL σ row ms ∧ ρ = [.sh (.tuple [.str w.s, .tuple (ms.map d)]), .sh (.dict (stL σ L)), .sh (.list (acc.map de)), s3]) (fun m r ρ hP D' e6 e7 hD => ?_) (fun ρ hP => ?_) ms _ ⟨[], .un, fun _ h => h, rfl, rfl⟩
          · obtain ⟨acc, s3, hx, ea, rfl⟩ := hP
            have hm := hx m (List.mem_cons_self ..)
            have hl : (tryL σ row ms).length ≤ 1000 := by
              have a := (tryL_sub σ row ms).1.length_le
              have b := deedsL_le ms
              omega
            rw [tryL] at ea
            have el : acc.length + (mayTry σ m).length ≤ 1000 := by
              have := congrArg List.length ea
              simp at this
              omega
            simp only [dgName]
            refine seq_gen fun k6 e8 => ?_
            simp
            refine hrec m hm _ ?_
            simp
            refine ⟨by omega, ?_⟩
            rw [e8]
            simp
            by_cases hw : w = .row
            · simp [hw]
              have hr1 : row = true := by rw [hrow, hw]; rfl
              refine hdn m hm _ ?_
              cases hdm : isDone σ m with
              | true =>
                simp
                have nx := (hD _ ⟨acc ++ mayTry σ m, .sh m.d, fun x h => hx x (List.mem_cons_of_mem _ h), by rw [← ea]; simp [hdm], rfl⟩).1
                simpa [hw] using nx
              | false =>
                simp
                rw [e6]
                have : acc ++ mayTry σ m = tryL σ row ms := by rw [← ea]; simp [hdm, hr1]
                rw [← this] at hq
                simpa using hq
            · simp [hw]
              have hr1 : row = false := by rw [hrow]; simp [hw]
              have nx := (hD _ ⟨acc ++ mayTry σ m, .sh m.d, fun x h => hx x (List.mem_cons_of_mem _ h), by rw [← ea]; simp [hr1], rfl⟩).1
              simpa using nx
          · obtain ⟨acc, s3, hx, ea, rfl⟩ := hP
            simp [tryL] at ea
            subst ea
            rw [e5]
            simpa using hq
        cases w with
        | row =>
          simp
          exact loop true rfl (by simp) (by simpa [mayTry, hd] using h)
        | side =>
          simp
          exact loop false rfl (by simp) (by simpa [mayTry, hd] using h)
        | els =>
          simp
          refine hlf _ ?_
          obtain ⟨m, hm⟩ : ∃ m, ms[force σ ms]? = some m := ⟨_, List.getElem?_eq_getElem (force_lt σ hok.1)⟩
          have ha : L2.atI (ms.map d) (force σ ms : Int) = some m.d := by rw [atI_nat, List.getElem?_map, hm]; rfl
          simp [ha]
          refine hrec m (List.mem_of_getElem? hm) _ ?_
          simpa [mayTry, hd, tryAt_eq σ ms _ m hm] using h
theorem l_is_firm {σ : Str → Wd} {L : List Str} {pins : List Str} {x : Str × Kd} (hL : x.1 ∈ L) (h : Qd (.bool (firm σ pins x))) : Cl (wp__law_is_firm K) [.d (de x), .d (.dict (stL σ L)), .d (pinD pins)] Qd := by
  refine ⟨rfl, ?_⟩
  obtain ⟨n, k⟩ := x
  have hg := getD_st σ hL
  by_cases h1 : σ n = .done
  · cases k <;> simpa [bd__law_is_firm, env0, de, keyD, hg, h1, firm, pinD] using h
  · simpa [bd__law_is_firm, env0, de, keyD, hg, h1, firm] using h
theorem l_answers {n : Str} {k : Kd} (h : Qd (.list ((answers k).map fun a => .str a.s))) : Cl (wp__law_answers K) [.d (de (n, k))] Qd := by
  refine ⟨rfl, ?_⟩
  cases k <;> simpa [bd__law_answers, env0, de, answers, Wd.s] using h
theorem l_with {σ : Str → Wd} {L : List Str} {n : Str} {w : Wd} (hn : n ∈ L) (hL : L.length ≤ 1000) (h : Qd (.dict (stL (put σ n w) L))) : Cl (wp__law_with K) [.d (.dict (stL σ L)), .d (.str n), .d (.str w.s)] Qd := by
  refine ⟨rfl, ?_⟩
  have e : (stL σ L).length = L.length := by simp [stL]
  simp [bd__law_with, env0, keyD, dRetV, e]
  rw [putD_st σ hn]
  exact ⟨by omega, h⟩
theorem l_standing {σ : Str → Wd} {L : List Str} {p : Plan} (hh : height p ≤ 24) (hn : nodes p ≤ 1000) (hL : ∀ x ∈ names p, x ∈ L) (h : Qd (.tuple [wds σ p, .bool false])) : Cl (wp__law_standing K) [.d p.d, .d (.dict (stL σ L))] Qd := by
  refine ⟨rfl, ?_⟩
  simp [bd__law_standing, env0]
  refine l_deeds 24 p _ hh hn ?_
  simp only [srcD]
  refine lcD_map de (fun x => .str (σ x.1).s) _ (fun x hx k hk => ?_) ?_
  · have := st_at (σ := σ) hL hx
    simpa [de, keyD, this] using hk
  · simpa [wds] using h
end
end W_k11

set_option Elab.async false
set_option linter.all false
set_option maxRecDepth 100000
set_option maxHeartbeats 4000000
namespace PL
open PySem VL PL.Plan
theorem mkOf_sr (g dd : Bool) (m : M4) : (mkOf g dd m).sure = true → (mkOf g dd m).ready = true := by
  cases g <;> cases dd <;> simp [mkOf] <;> intro h <;> simp [h]
theorem marks_sr (σ : Str → Wd) (pins : List Str) (p : Plan) : (marks σ pins p).sure = true → (marks σ pins p).ready = true := by
  cases p with
  | deed n k => rw [marks]; exact mkOf_sr _ _ _
  | grp w ms => cases w <;> (rw [marks]; exact mkOf_sr _ _ _)
/-- in each row, what is sure is ready -/
def SR (rows : List Mk) : Prop := ∀ r ∈ rows, r.sure = true → r.ready = true
theorem hinges_ne {sel : Mk → Bool} {rows : List Mk} {i : Nat} (hi : i < rows.length) (h : hinge sel rows i = true) : (hinges sel rows).isEmpty = false := by
  unfold hinges
  cases e : (List.range rows.length).filter (hinge sel rows) with
  | nil =>
    have := List.filter_eq_nil_iff.mp e i (List.mem_range.mpr hi)
    exact absurd h this
  | cons a b => rfl
theorem row_sr {rows : List Mk} (hs : SR rows) (hne : rows ≠ []) : ((rowM rows).sure || (rowM rows).ready) = (rowM rows).ready := by
  cases h : (rowM rows).sure with
  | false => rfl
  | true =>
    cases rows with
    | nil => exact absurd rfl hne
    | cons r rs =>
      have ha : (r :: rs).all (·.sure) = true := h
      rw [List.all_cons, Bool.and_eq_true] at ha
      have : hinge (·.ready) (r :: rs) 0 = true := by
        unfold hinge
        have := hs r (List.mem_cons_self ..) ha.1
        simp [this, -List.all_eq_true, ha.2]
      have := hinges_ne (by simp) this
      simp [rowM, this]
theorem side_sr {rows : List Mk} (hs : SR rows) : ((sideM rows).sure || (sideM rows).ready) = (sideM rows).ready := by
  cases h : (sideM rows).sure with
  | false => rfl
  | true =>
    have ha : rows.all (·.sure) = true := h
    have : late rows = [] := by
      unfold late
      rw [List.filter_eq_nil_iff]
      intro r hr
      have := hs r hr (List.all_eq_true.mp ha r hr)
      simp [this]
    simp [sideM, this]
theorem come_zip : ∀ (rows : List Mk) (i : Nat), (come rows).length = match ((rows.zipIdx i).filter fun y => y.1.sure).map (·.2) with
    | [] => rows.length
    | j :: _ => j + 1 - i
  | [], _ => rfl
  | r :: rs, i => by
    unfold come
    by_cases h : r.sure = true
    · simp [h]
    · have := come_zip rs (i + 1)
      simp [h, this]
      cases e : ((rs.zipIdx (i + 1)).filter fun y => y.1.sure).map (·.2) with
      | nil => simp
      | cons j l =>
        have hj : j ∈ ((rs.zipIdx (i + 1)).filter fun y => y.1.sure).map (·.2) := by rw [e]; exact List.mem_cons_self ..
        obtain ⟨⟨a, b⟩, hy, e2⟩ := List.mem_map.mp hj
        have := (List.mem_zipIdx (List.mem_filter.mp hy).1).1
        simp at e2
        simp
        omega
theorem come_take : ∀ rows : List Mk, come rows = rows.take (come rows).length
  | [] => rfl
  | r :: rs => by
    unfold come
    split
    · simp
    · rw [List.length_cons, List.take_succ_cons, ← come_take rs]
def M4.dl (m : M4) : PyData := .tuple [.bool m.sure, .bool m.loose, .bool (m.sure || m.ready), .bool m.whole]
end PL
namespace W_k11
open PySem VL PL PL.Plan
section
variable {K : PySem.W.Frag} {Qd : PyData → Prop}
theorem not_any_not {α : Type} (f : α → Bool) (xs : List α) : (!xs.any fun x => !f x) = xs.all f := by
  induction xs with
  | nil => rfl
  | cons x xs ih => rw [List.any_cons, List.all_cons, ← ih]; cases f x <;> simp
theorem all_map_false {α : Type} (f : α → Bool) (xs : List α) : (∀ x : PyData, x ∈ xs.map (fun m => PyData.bool (f m)) → x.eqv (.bool false) = false) ↔ (xs.all f = true) := by
  simp
theorem anf_not {α : Type} (f : α → Bool) (xs : List α) : ((xs.any fun x => !f x) = false) = (xs.all f = true) := by
  rw [← not_any_not]
  cases xs.any fun x => !f x <;> simp
theorem l_hinges {rows : List Mk} {sel : Mk → Bool} {i : Int} (hi : (i = 3 ∧ sel = (·.ready)) ∨ (i = 4 ∧ sel = (·.whole))) (hn : rows.length ≤ 1000) (h : Qd (.list ((hinges sel rows).map fun (j : Nat) => .int j))) :
    Cl (wp__law_hinges K) [.d (.list (rows.map Mk.d)), .d (.int i)] Qd := by
  refine ⟨rfl, ?_⟩
  simp [bd__law_hinges, env0]
  refine forE_0 Mk.d (fun j r ρ => ∃ (done : List Mk) (s3 s4 : Slot), rows = done ++ r ∧ done.length = j ∧ ρ = [.sh (.list (rows.map Mk.d)), .sh (.int i), .ow (.list (((List.range j).filter (hinge sel rows)).map fun (j : Nat) => .int j)), s3, s4, .un]) ⟨[], .un, .un, rfl, rfl, rfl⟩ (fun j m r ρ hP D' e1 e2 hD => ?_) fun j ρ hP => ?_
  · obtain ⟨done, s3, s4, e, ej, rfl⟩ := hP
    have hr : rows.length ≤ 1000 := hn
    have hdl : done.length ≤ 1000 := by rw [e, List.length_append] at hn; omega
    have hpre : rows.take j = done := by rw [e, ← ej]; simp
    have hsuf : rows.drop (j + 1) = r := by rw [e, ← ej]; simp
    have hh := hinge_at (sel := sel) (done := done) (r := r) (m := m)
    rw [← e, ej] at hh
    have hsel : L2.atI [PyData.bool m.good, .bool m.sure, .bool m.loose, .bool m.ready, .bool m.whole] i = some (.bool (sel m)) := by
      rcases hi with ⟨rfl, rfl⟩ | ⟨rfl, rfl⟩ <;> simp
    have hfl : ((List.range j).filter (hinge sel rows)).length ≤ 1000 := by
      have := List.length_filter_le (hinge sel rows) (List.range j)
      rw [List.length_range] at this
      omega
    have go : D'.nx [.sh (.list (rows.map Mk.d)), .sh (.int i), .ow (.list (((List.range (j + 1)).filter (hinge sel rows)).map fun (j : Nat) => .int j)), .sh (.int j), .sh m.d, .un] := (hD _ ⟨done ++ [m], _, _, by rw [e]; simp, by simp [ej], rfl⟩).1
    rw [range_filter, hh] at go
    simp [Mk.d, hsel, -List.all_eq_true]
    cases hm : sel m with
    | false => simpa [hm, Mk.d] using go
    | true =>
      simp [-List.all_eq_true, -List.any_eq_true, -List.any_eq_false]
      rw [cutL_to, ← List.map_take, hpre]
      refine lcD_map Mk.d (fun m => .bool m.loose) _ (fun x hx k hk => by simpa [Mk.d] using hk) ?_
      simp only [plainAll_bools, true_and, if_true, okD_bool]
      by_cases h1 : done.all (·.loose) = true
      · rw [if_pos ((all_map_false _ _).mpr h1)]
        rw [h1] at go
        have e3 : ((j : Nat) : Int) + 1 = ((j + 1 : Nat) : Int) := by omega
        rw [e3, cutL_from, ← List.map_drop, hsuf]
        refine lcD_map Mk.d (fun m => .bool m.sure) _ (fun x hx k hk => by simpa [Mk.d] using hk) ?_
        simp only [plainAll_bools, true_and, if_true, okD_bool]
        by_cases h2 : r.all (·.sure) = true
        · rw [if_pos ((all_map_false _ _).mpr h2)]
          rw [h2] at go
          exact ⟨by omega, by simpa [hm, Mk.d] using go⟩
        · rw [if_neg (fun h => h2 ((all_map_false _ _).mp h))]
          rw [Bool.not_eq_true] at h2
          rw [h2] at go
          simpa [hm, Mk.d] using go
      · rw [if_neg (fun h => h1 ((all_map_false _ _).mp h))]
        rw [Bool.not_eq_true] at h1
        rw [h1] at go
        simpa [hm, Mk.d] using go
  · obtain ⟨done, s3, s4, e, ej, rfl⟩ := hP
    rw [List.append_nil] at e
    subst e
    subst ej
    simpa [hinges, dRetV] using h
theorem l_row_marks {rows : List Mk} (hs : SR rows) (hr : rows ≠ []) (hn : rows.length ≤ 1000) (h : Qd (rowM rows).dl) : Cl (wp__law_row_marks K) [.d (.list (rows.map Mk.d))] Qd := by
  refine ⟨rfl, ?_⟩
  unfold bd__law_row_marks
  refine seq_gen fun k1 e1 => ?_
  simp [-List.all_eq_true, env0]
  refine lcD_map Mk.d (fun m => .bool m.sure) _ (fun x hx k hk => by simpa [Mk.d] using hk) ?_
  simp only [plainAll_bools, List.all_map, all_truthy, true_and, if_true]
  refine lcD_map Mk.d (fun m => .bool m.loose) _ (fun x hx k hk => by simpa [Mk.d] using hk) ?_
  simp only [plainAll_bools, List.all_map, all_truthy, true_and, if_true]
  subst e1
  refine seq_gen fun k2 e2 => ?_
  simp [-List.all_eq_true]
  refine l_hinges (.inl ⟨rfl, rfl⟩) hn ?_
  simp [-List.all_eq_true, dApp]
  refine l_hinges (.inr ⟨rfl, rfl⟩) hn ?_
  simp [-List.all_eq_true, dApp]
  subst e2
  have := row_sr hs hr
  rw [M4.dl, this] at h
  simpa [-List.all_eq_true, rowM] using h
theorem l_side_marks {rows : List Mk} (hs : SR rows) (hn : rows.length ≤ 1000) (h : Qd (sideM rows).dl) : Cl (wp__law_side_marks K) [.d (.list (rows.map Mk.d))] Qd := by
  refine ⟨rfl, ?_⟩
  rw [M4.dl, side_sr hs] at h
  unfold bd__law_side_marks
  refine seq_go ?_
  simp [-dSeq, env0]
  refine lcD_fn Mk.d (fun r => !r.ready) Mk.d _ [] (fun x hx k hk => ?_) ?_
  · cases hr : x.ready <;> simpa [Mk.d, hr] using hk
  simp only [sideM, late] at h
  have hl := List.length_filter_le (fun r : Mk => !r.ready) rows
  rw [List.nil_append]
  obtain ⟨L, hL⟩ : ∃ L, (rows.filter fun r => !r.ready) = L := ⟨_, rfl⟩
  simp only [hL] at h hl ⊢
  refine seq_gen fun k2 e2 => ?_
  have tail : ∀ b : Bool, b = (L.isEmpty || (decide (L.length = 1) && (L.head?.map (·.whole)).getD false)) → k2 (ctlS Qd) [.sh (.list (rows.map Mk.d)), .sh (.list (L.map Mk.d)), .sh (.bool b), .un] := by
    intro b hb
    rw [e2]
    simp [-List.all_eq_true]
    refine lcD_map Mk.d (fun m => .bool m.sure) _ (fun x hx k hk => by simpa [Mk.d] using hk) ?_
    simp only [plainAll_bools, List.all_map, all_truthy, true_and, if_true]
    refine lcD_map Mk.d (fun m => .bool m.loose) _ (fun x hx k hk => by simpa [Mk.d] using hk) ?_
    simp only [plainAll_bools, List.all_map, all_truthy, true_and, if_true]
    subst hb
    simpa using h
  cases L with
  | nil =>
    simp
    exact tail true rfl
  | cons x r =>
    cases r with
    | nil =>
      have ho := okD_mk0 [x]
      simp [Mk.d] at ho
      simp [Mk.d, ho]
      have t := tail x.whole (by simp)
      simpa [Mk.d] using t
    | cons y r =>
      have ho := okD_mk0 (x :: y :: r)
      simp at ho
      have hz : ¬ ((r.length : Int) + 1 + 1 = 1) := by omega
      simp [ho, hz]
      have t := tail false (by simp)
      simpa using t
theorem l_come {rows : List Mk} (hn : rows.length ≤ 1000) (h : Qd (.int ((come rows).length : Nat))) : Cl (wp__law_come K) [.d (.list (rows.map Mk.d))] Qd := by
  refine ⟨rfl, ?_⟩
  unfold bd__law_come
  refine seq_gen fun k1 e1 => ?_
  simp [env0]
  rw [enumD_eq, enumF_zip]
  refine lcD_fn (fun y : Mk × Nat => .tuple [.int (y.2 : Nat), y.1.d]) (fun y => y.1.sure) (fun y => .int (y.2 : Nat)) _ [] (fun y hy k hk => ?_) ?_
  · cases hs : y.1.sure <;> simpa [Mk.d, hs] using hk
  · rw [List.nil_append]
    have hc := come_zip rows 0
    have e : ((rows.zipIdx.filter fun y => y.1.sure).map fun y => PyData.int (y.2 : Nat)) = ((rows.zipIdx.filter fun y => y.1.sure).map (·.2)).map fun (j : Nat) => .int j := by simp
    rw [e]
    subst e1
    generalize (rows.zipIdx.filter fun y => y.1.sure).map (·.2) = Z at hc
    cases Z with
    | nil =>
      simp at hc
      rw [hc] at h
      simpa using h
    | cons j l =>
      simp at hc
      rw [hc] at h
      have ho := okD_ints (j :: l)
      simp at ho
      simpa [ho] using h
theorem l_else_marks {rows : List Mk} (hr : rows ≠ []) (hn : rows.length ≤ 1000) (h : Qd (elseM rows).dl) : Cl (wp__law_else_marks K) [.d (.list (rows.map Mk.d))] Qd := by
  refine ⟨rfl, ?_⟩
  unfold bd__law_else_marks
  refine seq_gen fun k1 e1 => ?_
  simp [env0]
  refine l_come hn ?_
  simp only [elseM] at h
  have hc := come_ne hr
  simp
  rw [cutL_to, ← List.map_take, ← come_take]
  generalize come rows = C at h hc
  have ha : L2.atI (C.map Mk.d) (-1) = some (Mk.d (C.getLast hc)) := by
    rw [atI_last (by simpa using hc), List.getLast?_map, List.getLast?_eq_some_getLast hc]
    rfl
  subst e1
  refine seq_gen fun k2 e2 => ?_
  simp [-List.all_eq_true]
  refine lcD_map Mk.d (fun m => .bool m.whole) _ (fun x hx k hk => by simpa [Mk.d] using hk) ?_
  simp only [plainAll_bools, List.all_map, all_truthy, true_and, if_true]
  rw [List.getLast?_eq_some_getLast hc] at h
  generalize hg : C.getLast hc = g at h ha
  subst e2
  refine seq_gen fun k3 e3 => ?_
  have hm : PyData.bool (g.sure && C.all (·.whole)) = (if g.sure = true then .bool (C.all (·.whole)) else .bool g.sure) := by cases g.sure <;> simp
  have tail : ∀ b : Bool, b = (g.sure && C.all (·.whole)) → k3 (ctlS Qd) [.sh (.list (rows.map Mk.d)), .sh (.list (C.map Mk.d)), .sh (.bool (C.all (·.whole))), .sh (.bool b), .un] := by
    rintro b hb
    rw [e3]
    simp [-List.all_eq_true]
    refine lcD_map Mk.d (fun m => .bool m.loose) _ (fun x hx k hk => by simpa [Mk.d] using hk) ?_
    simp only [plainAll_bools, List.all_map, all_truthy, true_and, if_true]
    cases b with
    | true =>
      simp [-List.all_eq_true]
      simpa [-List.all_eq_true, M4.dl, ← hb] using h
    | false =>
      simp [-List.all_eq_true]
      refine lcD_map Mk.d (fun m => .bool m.ready) _ (fun x hx k hk => by simpa [Mk.d] using hk) ?_
      simp only [plainAll_bools, List.all_map, all_truthy, true_and, if_true]
      simpa [-List.all_eq_true, M4.dl, ← hb] using h
  cases hs : g.sure with
  | true =>
    simp [-List.all_eq_true, ha, Mk.d, hs]
    exact tail _ (by simp [hs, -List.all_eq_true])
  | false =>
    simp [-List.all_eq_true, ha, Mk.d, hs]
    exact tail _ (by simp [hs])
end
end W_k11

set_option Elab.async false
set_option linter.all false
set_option maxRecDepth 100000
set_option maxHeartbeats 4000000
namespace W_k11
open PySem VL PL PL.Plan
section
variable {K : PySem.W.Frag} {Qd : PyData → Prop}
theorem rowsOf_sr (σ : Str → Wd) (pins : List Str) (w : Gw) (ms : List Plan) : SR (rowsOf σ pins w ms) := by
  have h : SR (ms.map (marks σ pins)) := fun r hr => by
    obtain ⟨m, _, e⟩ := List.mem_map.mp hr
    rw [← e]
    exact marks_sr σ pins m
  cases w with
  | els => exact fun r hr => h r (List.mem_of_mem_drop hr)
  | row => exact h
  | side => exact h
theorem l_marks (σ : Str → Wd) (L : List Str) (pins : List Str) : ∀ (n : Nat) (p : Plan) (Qd : PyData → Prop), height p ≤ n → n ≤ 24 → nodes p ≤ 1000 → ok p → (∀ x ∈ names p, x ∈ L) → Qd (marks σ pins p).d → Cl (wpR__law_marks K n 0) [.d p.d, .d (.dict (stL σ L)), .d (pinD pins)] Qd := by
  intro n
  induction n with
  | zero => intro p Qd h; cases p <;> simp [height] at h
  | succ n ih =>
    intro p Qd hh h24 hn hok hL h
    refine ⟨rfl, ?_⟩
    unfold bd__law_marks
    refine seq_gen fun k1 e1 => ?_
    simp [env0]
    refine l_deeds 24 p _ (by omega) hn ?_
    simp only [srcD]
    refine lcD_map de (fun x => .bool (firm σ pins x)) _ (fun x hx k hk => ?_) ?_
    · simp
      exact l_is_firm (hL x.1 (List.mem_map.mpr ⟨x, hx, rfl⟩)) hk
    simp only [plainAll_bools, List.any_map, any_truthy, true_and, if_false, Bool.false_eq_true]
    rw [← good_firm]
    subst e1
    refine seq_gen fun k2 e2 => ?_
    simp
    refine l_is_dead σ L 24 p _ (by omega) (by omega) hn hok hL ?_
    cases hd : dead σ p with
    | true =>
      have e : marks σ pins p = mkOf (good σ pins p) true ⟨false, false, false, false⟩ := by
        cases p with
        | deed nm k => simp [marks, hd, mkOf]
        | grp w ms => rw [marks_grp, hd]; simp [mkOf]
      rw [e] at h
      cases hg : good σ pins p <;> simpa [hg, mkOf, Mk.d] using h
    | false =>
      simp
      subst e2
      refine seq_gen fun k3 e3 => ?_
      cases p with
      | deed nm k =>
        have hm : nm ∈ L := hL nm (by simp [names, deeds])
        have hgd := getD_st σ hm
        have hdd : σ nm ≠ .failed ∧ σ nm ≠ .undone := by
          simp [dead] at hd
          exact hd
        simp [Plan.d, keyD, hgd]
        rw [marks, hd] at h
        have hw : σ nm = .fresh ∨ σ nm = .done := by
          cases hs : σ nm <;> simp [hs] at hdd <;> simp
        have hgood : good σ pins (deed nm k) = firm σ pins (nm, k) := by simp [good_firm, deeds]
        rw [hgood] at h ⊢
        rcases hw with hw | hw
        · have hf : firm σ pins (nm, k) = false := by simp [firm, hw]
          rw [hf] at h ⊢
          cases k <;> simpa [hw, mkOf, deedM, Mk.d] using h
        · cases hf : firm σ pins (nm, k) with
          | true =>
            rw [hf] at h
            cases k <;> simpa [hw, mkOf, deedM, Mk.d] using h
          | false =>
            rw [hf] at h
            have hk : k = .undoable ∨ k = .both := by cases k <;> simp [firm, hw] at hf <;> simp
            rcases hk with rfl | rfl <;> simpa [hw, mkOf, deedM, Mk.d] using h
      | grp w ms =>
        have hlf : ∀ Q : PyData → Prop, Q (.int (force σ ms : Nat)) → Cl (wp__law_force K) [.d (.tuple [.str w.s, .tuple (ms.map d)]), .d (.dict (stL σ L))] Q := fun Q hq => l_force' (by omega) hn hok hL hq
        have hh' := hh
        have hn' := hn
        rw [height] at hh'
        rw [nodes] at hn'
        have hrec : ∀ m ∈ ms, ∀ Q : PyData → Prop, Q (marks σ pins m).d → Cl (wpR__law_marks K n 0) [.d m.d, .d (.dict (stL σ L)), .d (pinD pins)] Q := fun m hmm Q hq => by
          have h1 := heightL_mem hmm
          have h2 := nodesL_mem hmm
          exact ih m _ (by omega) (by omega) (by omega) (okL_mem hok.2 m hmm) (fun x hx => hL x (names_mem hmm x hx)) hq
        rw [marks_grp, hd] at h
        have hne := rowsOf_ne (σ := σ) (pins := pins) (w := w) hok.1
        have hsr := rowsOf_sr σ pins w ms
        have hle : (rowsOf σ pins w ms).length ≤ 1000 := by
          have h1 := rowsOf_le (σ := σ) (pins := pins) (w := w) (ms := ms)
          have h2 := len_le_nodesL ms
          omega
        generalize good σ pins (grp w ms) = G at h ⊢
        rw [d_grp]
        simp
        subst e3
        have hrows : ∃ xs : List Plan, (∀ x ∈ xs, x ∈ ms) ∧ xs.map (marks σ pins) = rowsOf σ pins w ms ∧ (w = .els → xs = ms.drop (force σ ms)) ∧ (w ≠ .els → xs = ms) := by
          cases w with
          | els => exact ⟨ms.drop (force σ ms), fun x hx => List.mem_of_mem_drop hx, by simp [rowsOf, List.map_drop], fun _ => rfl, fun h => absurd rfl h⟩
          | row => exact ⟨ms, fun _ h => h, rfl, fun h => by simp at h, fun _ => rfl⟩
          | side => exact ⟨ms, fun _ h => h, rfl, fun h => by simp at h, fun _ => rfl⟩
        obtain ⟨xs, hx, er, x1, x2⟩ := hrows
        rw [← er] at h hne hsr hle
        refine seq_gen fun k4 e4 => ?_
        have tail : k4 (ctlS Qd) [.sh (.tuple [.str w.s, .tuple (ms.map d)]), .sh (.dict (stL σ L)), .sh (pinD pins), .sh (.bool G), .un, .un, .un, .sh (.tuple (xs.map d)), .un, .un, .un, .un] := by
          rw [e4]
          refine seq_gen fun k5 e5 => ?_
          simp
          refine lcD_map d (fun m => (marks σ pins m).d) xs (fun m hm k hk => ?_) ?_
          · simp
            exact hrec m (hx m hm) _ hk
          have em : xs.map (fun m => (marks σ pins m).d) = (xs.map (marks σ pins)).map Mk.d := by simp
          rw [em]
          generalize xs.map (marks σ pins) = rows at h hne hsr hle
          subst e5
          refine seq_gen fun k6 e6 => ?_
          have fin : k6 (ctlS Qd) [.sh (.tuple [.str w.s, .tuple (ms.map d)]), .sh (.dict (stL σ L)), .sh (pinD pins), .sh (.bool G), .un, .un, .un, .sh (.tuple (xs.map d)), .sh (.list (rows.map Mk.d)), .sh (told w rows).dl, .un, .un] := by
            rw [e6]
            refine seq_gen fun k7 e7 => ?_
            cases G with
            | true =>
              simp [M4.dl]
              simpa [mkOf, Mk.d] using h
            | false =>
              simp [M4.dl]
              rw [e7]
              simp
              simpa [mkOf, Mk.d] using h
          cases w with
          | row =>
            simp [Gw.s, List.lookup_cons, ofS_beq] at fin ⊢
            refine ⟨wp__law_row_marks K, by simp [tabW], l_row_marks hsr hne hle fin⟩
          | side =>
            simp [Gw.s, List.lookup_cons, ofS_beq] at fin ⊢
            refine ⟨wp__law_side_marks K, by simp [tabW], l_side_marks hsr hle fin⟩
          | els =>
            simp [Gw.s, List.lookup_cons, ofS_beq] at fin ⊢
            refine ⟨wp__law_else_marks K, by simp [tabW], l_else_marks hne hle fin⟩
        by_cases hw : w = .els
        · have hx' := x1 hw
          simp [hw]
          refine hw ▸ hlf _ ?_
          simp
          rw [cutL_from, ← List.map_drop, ← hx']
          exact hw ▸ tail
        · simp [hw]
          have hx' := x2 hw
          rw [hx'] at tail
          exact tail
theorem l_places : ∀ (n : Nat) (p : Plan) (q : List Nat) (Qd : PyData → Prop), height p ≤ n → n ≤ 24 → nodes p ≤ 1000 → q.length + n ≤ 100 → Qd (.list ((placed p).map fun x => pl (q ++ x.1))) → Cl (wpR__law_places K n 0) [.d p.d, .d (pl q)] Qd := by
  intro n
  induction n with
  | zero => intro p q Qd h; cases p <;> simp [height] at h
  | succ n ih =>
    intro p q Qd hh h24 hn hq h
    refine ⟨rfl, ?_⟩
    unfold bd__law_places
    refine seq_gen fun k1 e1 => ?_
    simp [env0, -pl]
    subst e1
    refine seq_gen fun k2 e2 => ?_
    have hmem : (match p.d with | .tuple (.str a :: b :: _) => True | _ => False) := by cases p <;> simp [Plan.d]
    have hsrc : ∀ (Q : PyData → Prop), Q (.tuple ((mems p).map d)) → (dIfE (dTst (dOp (dNe) (dOp dIx (dVar 0) (dC (.int 0))) (dC (.str "deed")))) (dOp dIx (dVar 0) (dC (.int 1))) (dTup (lNil))) [.sh p.d, .sh (pl q), .sh (.list [pl q]), .un, .un] Q := by
      intro Q hq
      cases p with
      | deed nm k => simpa [Plan.d] using hq
      | grp w ms => rw [d_grp]; simpa [Plan.d] using hq
    unfold dFor dEnum
    simp only [lCons, lNil]
    refine hsrc _ ?_
    simp only [srcD]
    refine forE_0 d (fun i r ρ => ∃ (done : List Plan) (acc : List PyData) (s3 s4 : Slot), mems p = done ++ r ∧ done.length = i ∧ acc ++ (placedL i r).map (fun x => pl (q ++ x.1)) = (placed p).map (fun x => pl (q ++ x.1)) ∧ ρ = [.sh p.d, .sh (pl q), .sh (.list acc), s3, s4]) ⟨[], [pl q], .un, .un, rfl, rfl, by rw [placed_eq]; simp [-pl], rfl⟩ (fun i m r ρ hP D' e4 e5 hD => ?_) fun i ρ hP => ?_
    · obtain ⟨done, acc, s3, s4, e, ei, ea, rfl⟩ := hP
      have hm : m ∈ mems p := by rw [e]; simp
      have h1 := mems_height hm
      have h2 := mems_nodes hm
      have hlen : ((placed p).map fun x => pl (q ++ x.1)).length ≤ 1000 := by rw [List.length_map, placed_len]; omega
      rw [← ea, placedL_cons] at hlen
      have hpl : PyData.tuple (q.map (fun (i : Nat) => PyData.int i) ++ [.int (i : Nat)]) = pl (q ++ [i]) := by simp
      simp
      refine ⟨by omega, ?_⟩
      rw [hpl]
      refine ih m (q ++ [i]) _ (by omega) (by omega) (by omega) (by simp; omega) ?_
      simp at hlen
      simp
      refine ⟨by omega, (hD _ ⟨done ++ [m], acc ++ (placed m).map (fun x => pl (q ++ i :: x.1)), .sh (.int i), .sh m.d, by rw [e]; simp, by simp [ei], ?_, ?_⟩).1⟩
      · rw [← ea, placedL_cons]
        simp
      · simp
    · obtain ⟨done, acc, s3, s4, e, ei, ea, rfl⟩ := hP
      simp [placedL, -pl] at ea
      subst ea
      subst e2
      simpa using h
theorem l_at {p r : Plan} {q : List Nat} (hq : Leads p q r) (h : Qd r.d) : Cl (wp__law_at K) [.d p.d, .d (pl q)] Qd := by
  refine ⟨rfl, ?_⟩
  unfold bd__law_at
  refine seq_gen fun k1 e1 => ?_
  simp [env0]
  subst e1
  refine seq_gen fun k2 e2 => ?_
  simp
  refine forD_rule (fun i : Nat => PyData.int i) (fun rest ρ => ∃ (c : Plan) (s3 : Slot), Leads c rest r ∧ ρ = [.sh p.d, .sh (pl q), .sh c.d, s3]) (fun i rest ρ hP D' e3 e4 hD => ?_) (fun ρ hP => ?_) q _ ⟨p, .un, hq, by simp⟩
  · obtain ⟨c, s3, ⟨m, hm, hl⟩, rfl⟩ := hP
    cases c with
    | deed n k => simp at hm
    | grp w ms =>
      have hm : ms[i]? = some m := hm
      have ha : L2.atI (ms.map d) (i : Int) = some m.d := by rw [atI_nat, List.getElem?_map, hm]; rfl
      rw [d_grp]
      simp [ha]
      exact (hD _ ⟨m, .sh (.int i), hl, by simp⟩).1
  · obtain ⟨c, s3, hl, rfl⟩ := hP
    have e : c = r := hl
    subst e
    subst e2
    simpa using h
end
end W_k11

set_option Elab.async false
set_option linter.all false
set_option maxRecDepth 100000
set_option maxHeartbeats 4000000
namespace PL
open PySem VL
/-- a comprehension whose test is drawn -/
theorem lcD_sub {α : Type} (enc : α → PyData) (f : α → PyData) {g : DG} {u : DT} {te : DE} {ρ : Vn} {Q : PyData → Prop} : ∀ (xs : List α) (acc : List PyData),
    (∀ x ∈ xs, ∀ k : Option PyData → Prop, k none → k (some (f x)) → g (enc x) ρ fun ρ1 => u ρ1 fun b => if b = true then te ρ1 fun y => k (some y) else k none) →
    (∀ ys : List α, ys.Sublist xs → Q (.list (acc ++ ys.map f))) → lcD g u te ρ (xs.map enc) acc Q
  | [], acc, _, h => by simpa using h [] (List.Sublist.refl _)
  | x :: xs, acc, hs, h => by
    refine hs x (List.mem_cons_self ..) (fun o => match o with
      | some y => lcD g u te ρ (xs.map enc) (acc ++ [y]) Q
      | none => lcD g u te ρ (xs.map enc) acc Q) ?_ ?_
    · exact lcD_sub enc f xs _ (fun y hy => hs y (List.mem_cons_of_mem _ hy)) fun ys hy => h ys (hy.trans (List.sublist_cons_self _ _))
    · refine lcD_sub enc f xs _ (fun y hy => hs y (List.mem_cons_of_mem _ hy)) fun ys hy => ?_
      have := h (x :: ys) (hy.cons_cons x)
      simpa using this
@[simp] theorem okD_strs0 (xs : List Str) : okD (.list (xs.map .str)) = True := okD_strs (fun x => x) xs
theorem perm_map {α β : Type} {f : α → β} : ∀ {xs : List α} {ys : List β}, ys.Perm (xs.map f) → ∃ zs : List α, ys = zs.map f ∧ zs.Perm xs := by
  intro xs ys h
  generalize e : xs.map f = us at h
  induction h generalizing xs with
  | nil => exact ⟨[], rfl, by cases xs with | nil => exact .nil | cons a b => simp at e⟩
  | cons x h ih =>
    rename_i l1 l2
    cases xs with
    | nil => simp at e
    | cons a b =>
      simp at e
      obtain ⟨zs, h1, h2⟩ := ih e.2
      exact ⟨a :: zs, by rw [List.map_cons, e.1, h1], h2.cons a⟩
  | swap x y l =>
    cases xs with
    | nil => simp at e
    | cons a b =>
      cases b with
      | nil => simp at e
      | cons c r =>
        simp at e
        exact ⟨c :: a :: r, by simp [e.1, e.2.1, e.2.2], .swap a c r⟩
  | trans h1 h2 ih1 ih2 =>
    obtain ⟨zs, e1, p1⟩ := ih2 e
    obtain ⟨ws, e2, p2⟩ := ih1 e1.symm
    exact ⟨ws, e2, p2.trans p1⟩
theorem depth_strs : ∀ xs : List Str, PyData.depthAll (xs.map .str) = 0
  | [] => rfl
  | x :: xs => by
    have := depth_strs xs
    simp [PyData.depthAll, PyData.depth, this]
theorem sorted_strs {xs : List Str} {Q : PyData → Prop} (h : ∀ ys : List Str, ys.Perm xs → Q (.list (ys.map .str))) : dSorted [.list (xs.map .str)] Q := by
  obtain ⟨zs, e, p⟩ := perm_map (f := PyData.str) (List.mergeSort_perm (xs.map .str) keyLe)
  refine ⟨by simp, PySem.W.AllAlike.of fun a b => by simp [PySem.W.alike], PySem.W.Sortable.others fun b => ⟨by simp, by simp⟩, ?_, ?_⟩
  · have := depth_strs xs
    omega
  · rw [e]
    exact h zs p
end PL
namespace W_k11
open PySem VL PL PL.Plan
section
variable {K : PySem.W.Frag} {Qd : PyData → Prop}
theorem l_pick {m : Int} (hm : m < 1073741824) (h : ∀ r : Int, 0 ≤ r → (r < m ∨ r = 0) → Qd (.int r)) : Cl (wpPick K) [.s, .d (.int m)] Qd := ⟨⟨m, rfl, hm, h⟩⟩
theorem l_any {ds : List PyData} {d : PyData} (e : d = .list ds ∨ d = .tuple ds) (hm : ds.length < 1073741824) (h : ∀ es : List PyData, es.Perm ds → Qd (.list es)) : Cl (wpAnyOrder K) [.s, .d d] Qd := ⟨⟨d, ds, rfl, e, hm, h⟩⟩
/-- .. of things that are told by others -/
theorem l_any_map {α : Type} {f : α → PyData} {xs : List α} (hm : xs.length < 1073741824) (h : ∀ ys : List α, ys.Perm xs → Qd (.list (ys.map f))) : Cl (wpAnyOrder K) [.s, .d (.list (xs.map f))] Qd := by
  refine l_any (.inl rfl) (by simpa using hm) fun es he => ?_
  obtain ⟨zs, e, p⟩ := perm_map he
  rw [e]
  exact h zs p
end
end W_k11

set_option Elab.async false
set_option linter.all false
set_option maxRecDepth 100000
set_option maxHeartbeats 4000000
namespace PL
open PySem VL PL.Plan
theorem okD_map1 {α : Type} (f : α → PyData) (xs : List α) (h : ∀ x ∈ xs, (f x).plain = true ∧ (f x).depth ≤ 59) : okD (.list (xs.map f)) := by
  have : PyData.plainAll (xs.map f) = true ∧ PyData.depthAll (xs.map f) ≤ 59 := by
    induction xs with
    | nil => exact ⟨rfl, Nat.zero_le _⟩
    | cons x xs ih =>
      obtain ⟨a, b⟩ := ih fun y hy => h y (List.mem_cons_of_mem _ hy)
      have c := h x (List.mem_cons_self ..)
      refine ⟨by simp [a, c.1], ?_⟩
      simp only [List.map_cons, PyData.depthAll]
      exact Nat.max_le.mpr ⟨c.2, b⟩
  refine ⟨by simpa using this.1, ?_⟩
  simp only [PyData.depth]
  omega
@[simp] theorem okD_des (xs : List (Str × Kd)) : okD (.list (xs.map de)) = True := by
  simp only [eq_iff_iff, iff_true]
  exact okD_map1 de xs fun x _ => by simp [de, PyData.depth, PyData.depthAll]
theorem pairs_st (σ : Str → Wd) : ∀ L : List Str, pairsD (L.map fun n => .tuple [.str n, .str (σ n).s]) = some (L.map fun n => (.inr n, .str (σ n).s))
  | [] => rfl
  | n :: L => by
    have := pairs_st σ L
    simp [pairsD, keyD] at this ⊢
    simp [this]
theorem merge_st (σ : Str → Wd) : ∀ (L M : List Str), (M ++ L).Nodup → mergeD (stL σ M) (L.map fun n => (.inr n, .str (σ n).s)) = stL σ (M ++ L)
  | [], M, _ => by simp [mergeD]
  | n :: L, M, h => by
    have hn : n ∉ M := fun hm => by
      rw [List.nodup_append] at h
      exact h.2.2 n hm n (List.mem_cons_self ..) rfl
    have e : putDv (stL σ M) (.inr n) (.str (σ n).s) = stL σ (M ++ [n]) := by
      unfold putDv
      rw [if_neg]
      · simp [stL, kD]
      · simp [stL, keyD]
        exact hn
    have := merge_st σ L (M ++ [n]) (by simpa using h)
    unfold mergeD at this ⊢
    rw [List.map_cons, List.foldl_cons, e, this]
    simp
theorem rngD_0 (n : Nat) : rngD 0 n = (List.range n).map fun (i : Nat) => .int (i : Int) := by
  unfold rngD
  simp
theorem de_mem {p : Plan} {x : Str × Kd} (h : x ∈ deeds p) : x.1 ∈ names p := List.mem_map.mpr ⟨x, h, rfl⟩
theorem atI_map {α : Type} {f : α → PyData} {xs : List α} {r : Int} (h0 : 0 ≤ r) (h1 : r < xs.length) : ∃ x ∈ xs, L2.atI (xs.map f) r = some (f x) := by
  obtain ⟨n, rfl⟩ : ∃ n : Nat, r = n := ⟨r.toNat, by omega⟩
  have hn : n < xs.length := by omega
  refine ⟨xs[n], List.getElem_mem _, ?_⟩
  rw [atI_nat, List.getElem?_map, List.getElem?_eq_getElem hn]
  rfl
end PL
namespace W_k11
open PySem VL PL PL.Plan
section
variable {K : PySem.W.Frag} {Qd : PyData → Prop}
theorem l_led {p : Plan} {m : Int} (hm : m ≤ 1000) (hm2 : 0 ≤ m) (hh : height p ≤ 24) (hn : nodes p ≤ 1000) (hok : ok p) (hd : (names p).Nodup) (h : ∀ σ : Str → Wd, Qd (.dict (stL σ (names p)))) : Cl (wp__law_led K) [.s, .d p.d, .d (.int m)] Qd := by
  refine ⟨rfl, ?_⟩
  unfold bd__law_led
  refine seq_gen fun k1 e1 => ?_
  simp [env0]
  refine l_deeds 24 p _ hh hn ?_
  simp only [srcD]
  refine lcD_map de (fun x => .tuple [.str x.1, .str (Wd.s .fresh)]) _ (fun x hx k hk => by simpa [de, Wd.s] using hk) ?_
  have en : (deeds p).map (fun x => PyData.tuple [.str x.1, .str (Wd.s .fresh)]) = (names p).map fun n => .tuple [.str n, .str ((fun _ => Wd.fresh : Str → Wd) n).s] := by simp [names]
  rw [en]
  refine ⟨_, pairs_st (fun _ => .fresh) (names p), ?_⟩
  have em := merge_st (fun _ => .fresh) (names p) [] (by simpa using hd)
  rw [List.nil_append] at em
  rw [show (stL (fun _ => Wd.fresh) []) = [] from rfl] at em
  rw [em]
  have hL : ∀ x ∈ names p, x ∈ names p := fun _ h => h
  have hnl : (names p).length ≤ 1000 := by
    have := deeds_le p
    simp [names]
    omega
  subst e1
  refine seq_gen fun k2 e2 => ?_
  simp
  refine l_pick (by omega) fun r hr0 hr => ?_
  simp only [intD]
  refine ⟨by omega, by omega, ?_⟩
  rw [rngD_0]
  refine forD_rule (fun (i : Nat) => PyData.int (i : Int)) (fun _ ρ => ∃ (σ : Str → Wd) (s4 s5 s6 s7 s8 : Slot), ρ = [.so, .sh p.d, .sh (.int m), .sh (.dict (stL σ (names p))), s4, s5, s6, s7, s8]) (fun i _ ρ hP D' e3 e4 hD => ?_) (fun ρ hP => ?_) _ _ ⟨_, .un, .un, .un, .un, .un, rfl⟩
  · obtain ⟨σ, s4, s5, s6, s7, s8, rfl⟩ := hP
    have nx : ∀ (σ : Str → Wd) (s4 s5 s6 s7 s8 : Slot), D'.nx [.so, .sh p.d, .sh (.int m), .sh (.dict (stL σ (names p))), s4, s5, s6, s7, s8] := fun σ s4 s5 s6 s7 s8 => (hD _ ⟨σ, s4, s5, s6, s7, s8, rfl⟩).1
    have rt : D'.rt (.sh (.dict (stL σ (names p)))) := by rw [e3]; exact h σ
    have hw : ∀ (n : Str) (w : Wd) (Q : PyData → Prop), n ∈ names p → (∀ σ, Q (.dict (stL σ (names p)))) → Cl (wp__law_with K) [.d (.dict (stL σ (names p))), .d (.str n), .d (.str w.s)] Q := fun n w Q hn hq => l_with hn hnl (hq _)
    have hlost : ∀ Q : PyData → Prop, Q (.bool (lost σ p)) → Cl (wpR__law_is_lost K 24 0) [.d p.d, .d (.dict (stL σ (names p)))] Q := fun Q hq => l_is_lost σ _ 24 p _ hh hn hok hL hq
    have hgo : ∀ (b : Bool) (Q : PyData → Prop), Q (.list ((going σ p b).map .str)) → Cl (wpR__law_going K 24 0) [.d p.d, .d (.dict (stL σ (names p))), .d (.bool b)] Q := fun b Q hq => l_going σ _ 24 p b _ hh (by decide) hn hok hL hq
    have htry : ∀ Q : PyData → Prop, Q (.list ((mayTry σ p).map de)) → Cl (wpR__law_may_try K 24 0) [.d p.d, .d (.dict (stL σ (names p)))] Q := fun Q hq => l_may_try σ _ 24 p _ hh (by decide) hn hok hL hq
    simp only [dgName]
    refine seq_gen fun k3 e5 => ?_
    simp
    refine hlost _ (hgo _ _ ?_)
    have hgm := (going_mem σ p (lost σ p)).1
    generalize going σ p (lost σ p) = G at hgm
    subst e5
    refine seq_gen fun k4 e6 => ?_
    have main : k4 D' [.so, .sh p.d, .sh (.int m), .sh (.dict (stL σ (names p))), .sh (.int i), .sh (.list (G.map .str)), s6, s7, s8] := by
      subst e6
      refine seq_gen fun k5 e7 => ?_
      simp
      refine l_deeds 24 p _ hh hn ?_
      simp only [srcD]
      refine lcD_fn de (fun x => decide (x.1 ∈ G)) de _ [] (fun x hx k hk => ?_) ?_
      · by_cases hg : x.1 ∈ G <;> simpa [hg, de, -List.any_eq_true] using hk
      rw [List.nil_append]
      have hsub : ∀ x ∈ (deeds p).filter (fun x => decide (x.1 ∈ G)), x ∈ deeds p := fun x hx => (List.mem_filter.mp hx).1
      generalize (deeds p).filter (fun x => decide (x.1 ∈ G)) = D at hsub
      subst e7
      refine seq_gen fun k6 e8 => ?_
      have rest : k6 D' [.so, .sh p.d, .sh (.int m), .sh (.dict (stL σ (names p))), .sh (.int i), .sh (.list (G.map .str)), .sh (.list (D.map de)), s7, s8] := by
        subst e8
        rcases List.eq_nil_or_concat G with e | ⟨G', g, e⟩
        · subst e
          simp [-dSeq]
          refine htry _ ?_
          have hsb := (mayTry_sub σ p).1
          by_cases ht : mayTry σ p = []
          · simp [ht]
            exact nx _ _ _ _ _ _
          · simp [ht, -dSeq]
            refine seq_gen fun k7 e9 => ?_
            simp
            refine htry _ ?_
            refine l_any_map (by have := hsb.length_le; have := deeds_le p; omega) fun ys hy => ?_
            have hyl := hy.length_eq
            cases ys with
            | nil =>
              simp at hyl
              exact absurd (List.length_eq_zero_iff.mp hyl.symm) ht
            | cons y ys =>
              have hym : y ∈ deeds p := hsb.subset (hy.subset (List.mem_cons_self ..))
              simp
              subst e9
              refine seq_gen fun k8 e10 => ?_
              obtain ⟨yn, yk⟩ := y
              simp
              refine l_answers ?_
              have ea : (answers yk).map (fun a => PyData.str a.s) ++ [.str "done"] = (answers yk ++ [Wd.done]).map fun a : Wd => PyData.str a.s := by simp [Wd.s]
              have hal : (answers yk).length ≤ 2 := by cases yk <;> simp [answers]
              simp
              refine ⟨by omega, ?_⟩
              rw [ea]
              subst e10
              simp
              refine l_pick (by omega) fun r hr0 hr => ?_
              obtain ⟨w, _, hw2⟩ := atI_map (f := fun a : Wd => PyData.str a.s) (xs := answers yk ++ [.done]) hr0 (by simp; omega)
              simp at hw2
              simp [hw2, de]
              refine hw yn w _ (de_mem hym) fun σ' => ?_
              exact nx σ' _ _ _ _ _
        · subst e
          have hg := hgm g (by simp)
          have ho : okD (.list (G'.map PyData.str ++ [.str g])) := by
            have := okD_strs0 (G' ++ [g])
            simpa using this
          have hl : L2.atI (G'.map PyData.str ++ [.str g]) (-1) = some (.str g) := by rw [atI_last (by simp)]; simp
          simp [ho, hl]
          have e5 : PyData.str (Str.ofString "undone") = .str (Wd.s .undone) := rfl
          rw [e5]
          exact hw g .undone _ hg.1 fun σ' => nx σ' _ _ _ _ _
      simp [-List.any_eq_true]
      refine lcD_map de (fun x => .bool (firm σ [] x)) _ (fun x hx k hk => ?_) ?_
      · simp
        exact l_is_firm (pins := []) (de_mem (hsub x hx)) hk
      simp only [plainAll_bools, List.any_map, any_truthy, true_and, if_false, Bool.false_eq_true]
      cases D.any (firm σ []) with
      | true =>
        simp
        exact rt
      | false =>
        simp
        refine hlost _ ?_
        cases lost σ p with
        | true =>
          simp
          cases G with
          | nil => simpa using rt
          | cons g gs =>
            have ho := okD_strs0 (g :: gs)
            simp at ho
            simpa [ho] using rest
        | false =>
          simp
          exact rest
    cases hG : G with
    | nil =>
      rw [hG] at main
      simp
      exact main
    | cons g gs =>
      rw [hG] at main
      have ho := okD_strs0 (g :: gs)
      simp at ho
      simp [ho]
      refine l_pick (by decide) fun r h0 h1 => ?_
      simp
      by_cases hz : r = 0
      · simp [hz]
        exact rt
      · simp [hz]
        simpa using main
  · obtain ⟨σ, s4, s5, s6, s7, s8, rfl⟩ := hP
    subst e2
    simpa using h σ
theorem l_pins {σ : Str → Wd} {p : Plan} (hh : height p ≤ 24) (hn : nodes p ≤ 1000) (hok : ok p) (h : ∀ pins : List Str, pins.length ≤ 1000 → (∀ x ∈ pins, x ∈ names p) → Qd (pinD pins)) : Cl (wp__law_pins K) [.s, .d p.d, .d (.dict (stL σ (names p)))] Qd := by
  refine ⟨rfl, ?_⟩
  unfold bd__law_pins
  refine seq_gen fun k1 e1 => ?_
  have hL : ∀ x ∈ names p, x ∈ names p := fun _ h => h
  simp [env0]
  refine l_is_lost σ _ 24 p _ hh hn hok hL (l_going σ _ 24 p _ _ hh (by decide) hn hok hL ?_)
  subst e1
  refine seq_gen fun k2 e2 => ?_
  generalize going σ p (lost σ p) = G
  simp
  refine l_deeds 24 p _ hh hn ?_
  simp only [srcD]
  refine lcD_fn de (fun x => decide (σ x.1 = .done) && !decide (x.1 ∈ G)) (fun x => .str x.1) _ [] (fun x hx k hk => ?_) ?_
  · have := st_at (σ := σ) hL hx
    simp [de, keyD, this]
    by_cases h1 : σ x.1 = .done
    · by_cases h2 : x.1 ∈ G
      · simp [h1, h2] at hk
        simp [h1]
        rw [if_neg (fun h => h x.1 h2 rfl)]
        exact hk
      · simp [h1, h2] at hk
        simp [h1]
        have hz : ∀ a : Str, a ∈ G → ¬ a = x.1 := fun a ha e => h2 (e ▸ ha)
        rw [if_pos hz]
        exact hk
    · simpa [h1] using hk
  rw [List.nil_append]
  have hsub : ((deeds p).filter fun x => decide (σ x.1 = .done) && !decide (x.1 ∈ G)).Sublist (deeds p) := List.filter_sublist
  generalize (deeds p).filter (fun x => decide (σ x.1 = .done) && !decide (x.1 ∈ G)) = D at hsub
  have hdl := hsub.length_le
  have hdp := deeds_le p
  subst e2
  refine seq_gen fun k3 e3 => ?_
  simp
  refine l_pick (by decide) fun r h0 h1 => ?_
  simp
  by_cases hz : r = 0
  · simp [hz]
    exact h [] (by simp) (by simp)
  · simp [hz]
    subst e3
    simp
    have ed : (D.map fun x => PyData.str x.1) = (D.map (·.1)).map .str := by simp
    rw [ed]
    refine lcD_sub PyData.str PyData.str _ [] (fun x hx k k0 k1 => ?_) fun ys hy => ?_
    · simp
      refine l_pick (by decide) fun r h0 h1 => ?_
      by_cases hz : r = 0
      · simpa [hz] using k1
      · simpa [hz] using k0
    · rw [List.nil_append]
      refine sorted_strs (Q := fun d => match d with
        | .list ds => Qd (.tuple ds)
        | _ => False) fun zs hp => ?_
      have hl := hy.length_le
      simp at hl
      have hpl := hp.length_eq
      exact h zs (by omega) fun x hx => by
        obtain ⟨y, h1, h2⟩ := List.mem_map.mp (hy.subset (hp.subset hx))
        rw [← h2]
        exact de_mem (hsub.subset h1)
end
end W_k11

set_option Elab.async false
set_option linter.all false
set_option maxRecDepth 100000
set_option maxHeartbeats 4000000
namespace PL
open PySem VL PL.Plan
inductive All2 {α β : Type} (R : α → β → Prop) : List α → List β → Prop
  | nil : All2 R [] []
  | cons {x : α} {y : β} {xs : List α} {ys : List β} : R x y → All2 R xs ys → All2 R (x :: xs) (y :: ys)
/-- a comprehension whose items are drawn -/
theorem lcD_rel {α β : Type} (enc : α → PyData) (f : β → PyData) (R : α → β → Prop) {g : DG} {te : DE} {ρ : Vn} {Q : PyData → Prop} : ∀ (xs : List α) (acc : List PyData),
    (∀ x ∈ xs, ∀ k : PyData → Prop, (∀ y, R x y → k (f y)) → g (enc x) ρ fun ρ1 => te ρ1 k) →
    (∀ ys : List β, All2 R xs ys → Q (.list (acc ++ ys.map f))) → lcD g dYes te ρ (xs.map enc) acc Q
  | [], acc, _, h => by simpa using h [] .nil
  | x :: xs, acc, hs, h => by
    have := hs x (List.mem_cons_self ..) (fun y => lcD g dYes te ρ (xs.map enc) (acc ++ [y]) Q) fun y hy => ?_
    · simpa using this
    · refine lcD_rel enc f R xs _ (fun z hz => hs z (List.mem_cons_of_mem _ hz)) fun ys h2 => ?_
      have := h (y :: ys) (.cons hy h2)
      simpa using this
theorem keyLe_int (a b : Int) : keyLe (.int a) (.int b) = decide (a ≤ b) := by
  exact congrFun (congrFun (PySem.W.dataLe_int (fun b : Int => b)) a) b
theorem plain_ints : ∀ xs : List Int, PyData.plainAll (xs.map .int) = true
  | [] => rfl
  | x :: xs => by simp [plain_ints xs]
theorem sorted_ints {xs : List Int} {Q : PyData → Prop} (h : ∀ ys : List Int, ys.Perm xs → ys.Pairwise (· ≤ ·) → Q (.list (ys.map .int))) : dSorted [.list (xs.map .int)] Q := by
  have e := List.map_mergeSort (r := fun a b : Int => decide (a ≤ b)) (s := keyLe) (f := PyData.int) (l := xs) (fun a _ b _ => (keyLe_int a b).symm)
  refine ⟨plain_ints xs, PySem.W.AllAlike.of fun a b => by simp [PySem.W.alike], PySem.W.Sortable.others fun b => ⟨by simp, by simp⟩, ?_, ?_⟩
  · have := PySem.W.depth_ints xs
    omega
  · rw [← e]
    refine h _ (List.mergeSort_perm _ _) ?_
    have := List.pairwise_mergeSort (le := fun a b : Int => decide (a ≤ b)) (fun a b c h1 h2 => by simp at h1 h2 ⊢; omega) (fun a b => by simp; omega) xs
    simpa using this
theorem cutL_nat {α : Type} (xs : List α) (a b : Nat) (ha : a ≤ xs.length) (hb : b ≤ xs.length) : cutL xs (some (a : Int)) (some (b : Int)) = (xs.drop a).take (b - a) := by
  unfold cutL
  rw [HT.sIx_nat, HT.sIx_nat, Nat.min_eq_left ha, Nat.min_eq_left hb]
end PL

set_option Elab.async false
set_option linter.all false
set_option maxRecDepth 100000
set_option maxHeartbeats 4000000
namespace W_k11
open PySem VL PL PL.Plan
section
variable {K : PySem.W.Frag} {Qd : PyData → Prop}
/-- what a drawn plan of some names is -/
structure Drawn (xs : List Str) (H : Nat) (p : Plan) : Prop where
  nm : names p = xs
  ok : ok p
  ht : height p ≤ H
  nd : nodes p + 1 ≤ 5 * xs.length
  ch : xs.length = 1 → nodes p = height p
theorem names_grp (w : Gw) (ms : List Plan) : names (grp w ms) = (ms.map names).flatten := by
  unfold names
  rw [deeds, deedsL_flat, List.map_flatten, List.map_map]
  rfl
theorem kd_at (r : Int) (h0 : 0 ≤ r) (h1 : r < 7 ∨ r = 0) : ∃ k : Kd, L2.atI [PyData.str "undoable", .str "undoable", .str "neither", .str "sure", .str "both", .str "neither", .str "undoable"] r = some (.str k.s) := by
  obtain ⟨k, _, h⟩ := atI_map (f := fun k : Kd => PyData.str k.s) (xs := [.undoable, .undoable, .neither, .sure, .both, .neither, .undoable]) h0 (by simp; omega)
  exact ⟨k, h⟩
theorem gw_at (r : Int) (h0 : 0 ≤ r) (h1 : r < 5 ∨ r = 0) : ∃ k : Gw, L2.atI [PyData.str "row", .str "side", .str "side", .str "else", .str "else"] r = some (.str k.s) := by
  obtain ⟨k, _, h⟩ := atI_map (f := fun k : Gw => PyData.str k.s) (xs := [.row, .side, .side, .els, .els]) h0 (by simp; omega)
  exact ⟨k, h⟩
theorem gw_at2 (r : Int) (h0 : 0 ≤ r) (h1 : r < 2 ∨ r = 0) : ∃ k : Gw, L2.atI [PyData.str "row", .str "side"] r = some (.str k.s) := by
  obtain ⟨k, _, h⟩ := atI_map (f := fun k : Gw => PyData.str k.s) (xs := [.row, .side]) h0 (by simp; omega)
  exact ⟨k, h⟩
theorem l_draw_plan : ∀ (n : Nat) (xs : List Str) (deep : Nat) (Qd : PyData → Prop), xs ≠ [] → xs.length ≤ 12 → deep ≤ 24 - n → max xs.length (4 - deep) ≤ n → n ≤ 24 → (∀ p, Drawn xs (max xs.length (4 - deep)) p → Qd p.d) → Cl (wpR__law_draw_plan K n 0) [.s, .d (.list (xs.map .str)), .d (.int deep)] Qd := by
  intro n
  induction n with
  | zero =>
    intro xs deep Qd hne h12 hd hm
    have : 0 < xs.length := List.length_pos_iff.mpr hne
    omega
  | succ n ih =>
    intro xs deep Qd hne h12 hd hm h24 h
    refine ⟨rfl, ?_⟩
    unfold bd__law_draw_plan
    refine seq_gen fun k1 e1 => ?_
    have hpos : 0 < xs.length := List.length_pos_iff.mpr hne
    by_cases h1 : xs.length = 1
    · obtain ⟨x, rfl⟩ := List.length_eq_one_iff.mp h1
      have leaf : dSeq (dSet 3 (dLst (lCons (dC (.str "undoable")) (lCons (dC (.str "undoable")) (lCons (dC (.str "neither")) (lCons (dC (.str "sure")) (lCons (dC (.str "both")) (lCons (dC (.str "neither")) (lCons (dC (.str "undoable")) (lNil)))))))))) (dRet (dTup (lCons (dC (.str "deed")) (lCons (dOp dIx (dVar 1) (dC (.int 0))) (lCons (dOp dIx (dVar 3) (dCall ((wpPick) K) (aSrc 0 (aCons (dC (.int 7)) (aNil))))) (lNil)))))) { (ctlS Qd) with nx := k1 (ctlS Qd) } [.so, .sh (.list [.str x]), .sh (.int deep), .un, .un, .un, .un, .un, .un, .un] := by
        simp
        refine l_pick (by decide) fun r h0 h1 => ?_
        obtain ⟨k, hk⟩ := kd_at r h0 h1
        simp [hk]
        have := h (deed x k) ⟨by simp [names, deeds], trivial, by simp [height]; omega, by simp [nodes], fun _ => rfl⟩
        simpa [Plan.d] using this
      simp [-dSeq, -List.any_eq_true, -List.all_eq_true, -List.any_eq_false, -List.all_eq_false, env0]
      by_cases hdp : (2 : Int) < deep
      · rw [if_pos hdp]
        exact leaf
      · rw [if_neg hdp]
        refine l_pick (by decide) fun r h0 h1 => ?_
        by_cases hr : 0 < r
        · simp [-dSeq, -List.any_eq_true, -List.all_eq_true, -List.any_eq_false, -List.all_eq_false, hr]
          exact leaf
        · simp [-dSeq, -List.any_eq_true, -List.all_eq_true, -List.any_eq_false, -List.all_eq_false, hr]
          subst e1
          refine seq_gen fun k2 e2 => ?_
          simp
          refine l_pick (by decide) fun r2 h02 h12 => ?_
          obtain ⟨w, hw⟩ := gw_at r2 h02 h12
          simp [hw]
          subst e2
          refine seq_gen fun k3 e3 => ?_
          simp
          refine l_pick (by decide) fun r3 h03 h13 => ?_
          obtain ⟨w2, hw2⟩ := gw_at2 r3 h03 h13
          simp [hw2]
          refine ih [x] (deep + 1) _ (by simp) (by simp) (by omega) (by simp at hm ⊢; omega) (by omega) fun p hp => ?_
          have hc := hp.ch rfl
          have hht := hp.ht
          simp at hht
          have := h (grp w2 [p]) ⟨by simp [names_grp, hp.nm], ⟨by simp, hp.ok, trivial⟩, by
            simp [height, heightL]
            omega, by
            simp [nodes, nodesL]
            omega, fun _ => by simp [nodes, nodesL, height, heightL, hc]⟩
          simpa [Plan.d, ds] using this
    · have hn1 : ¬ ((xs.length : Int) = 1) := by omega
      simp [-dSeq, -List.any_eq_true, -List.all_eq_true, -List.any_eq_false, -List.all_eq_false, env0, hn1]
      subst e1
      refine seq_gen fun k2 e2 => ?_
      simp
      refine l_pick (by decide) fun r2 h02 h12 => ?_
      obtain ⟨w, hw⟩ := gw_at r2 h02 h12
      simp [hw]
      subst e2
      refine seq_gen fun k3 e3 => ?_
      simp [hn1]
      subst e3
      refine seq_gen fun k4 e4 => ?_
      have many : ∀ m : Nat, (m = 2 ∨ (m = 3 ∧ 2 < xs.length)) → k4 (ctlS Qd) [.so, .sh (.list (xs.map .str)), .sh (.int deep), .un, .sh (.str w.s), .sh (.int m), .un, .un, .un, .un] := by
        intro m hm23
        subst e4
        refine seq_gen fun k5 e5 => ?_
        simp
        refine ⟨L2.RgOk.of_le (by omega) (by omega) (by omega) (by omega), ?_⟩
        have hlen : ((xs.length : Int) - 1).toNat = xs.length - 1 := by omega
        try rw [hlen]
        refine l_any_map (by simp; omega) fun ys hys => ?_
        have hmi : (m : Int) - 1 = ((m - 1 : Nat) : Int) := by omega
        simp
        rw [hmi, cutL_to, ← List.map_take]
        have hyl := hys.length_eq
        have hym : ∀ y ∈ ys.take (m - 1), y < xs.length - 1 := fun y hy => List.mem_range.mp (hys.subset (List.mem_of_mem_take hy))
        have hyn : (ys.take (m - 1)).Nodup := List.Nodup.sublist (List.take_sublist _ _) (hys.nodup_iff.mpr List.nodup_range)
        have hytl : (ys.take (m - 1)).length = m - 1 := by simp at hyl ⊢; omega
        generalize ys.take (m - 1) = ts at hym hyn hytl
        have ets : ts.map (fun (i : Nat) => PyData.int (1 + (i : Int))) = (ts.map fun (i : Nat) => 1 + (i : Int)).map .int := by simp
        rw [ets]
        refine sorted_ints (Q := fun d => k5 (ctlS Qd) [.so, .sh (.list (xs.map .str)), .sh (.int deep), .un, .sh (.str w.s), .sh (.int m), .sh d, .un, .un, .un]) fun zs hzp hzs => ?_
        have hzl : zs.length = m - 1 := by rw [hzp.length_eq, List.length_map, hytl]
        have hzn : zs.Nodup := hzp.nodup_iff.mpr (by
          exact List.pairwise_map.mpr (hyn.imp fun h e => h (by omega)))
        have hzm : ∀ z ∈ zs, 1 ≤ z ∧ z ≤ (xs.length : Int) - 1 := fun z hz => by
          obtain ⟨t, h1, h2⟩ := List.mem_map.mp (hzp.subset hz)
          have := hym t h1
          omega
        subst e5
        refine seq_gen fun k6 e6 => ?_
        have tail : ∀ (E : List Nat) (s6 : Slot), (∀ i, i < m → ∃ a b, E[i]? = some a ∧ E[i + 1]? = some b ∧ a < b ∧ b ≤ xs.length ∧ b - a < xs.length) →
            (∀ ps, All2 (fun (i : Nat) p => ∃ a b, E[i]? = some a ∧ E[i + 1]? = some b ∧ Drawn ((xs.drop a).take (b - a)) (max (b - a) (4 - (deep + 1))) p) (List.range m) ps → Qd (grp w ps).d) →
            k6 (ctlS Qd) [.so, .sh (.list (xs.map .str)), .sh (.int deep), .un, .sh (.str w.s), .sh (.int m), s6, .sh (.list (E.map fun (i : Nat) => .int i)), .un, .un] := by
          intro E s6 hE hq
          subst e6
          refine seq_gen fun k7 e7 => ?_
          simp
          rw [rngD_0]
          refine ⟨by omega, ?_⟩
          refine lcD_rel (fun (i : Nat) => PyData.int (i : Int)) Plan.d (fun (i : Nat) p => ∃ a b, E[i]? = some a ∧ E[i + 1]? = some b ∧ Drawn ((xs.drop a).take (b - a)) (max (b - a) (4 - (deep + 1))) p) _ [] (fun i hi k hk => ?_) (fun ps hps => ?_)
          · obtain ⟨a, b, ha, hb, hab, hbl, hbs⟩ := hE i (List.mem_range.mp hi)
            have h1 : L2.atI (E.map fun (i : Nat) => PyData.int (i : Int)) (i : Int) = some (.int (a : Int)) := by rw [atI_nat, List.getElem?_map, ha]; rfl
            have h2 : L2.atI (E.map fun (i : Nat) => PyData.int (i : Int)) ((i : Int) + 1) = some (.int (b : Int)) := by
              have : (i : Int) + 1 = ((i + 1 : Nat) : Int) := by omega
              rw [this, atI_nat, List.getElem?_map, hb]; rfl
            simp [h1, h2]
            rw [cutL_nat _ _ _ (by simp; omega) (by simp; omega), ← List.map_drop, ← List.map_take]
            have hsl : ((xs.drop a).take (b - a)).length = b - a := by simp; omega
            refine ih _ (deep + 1) _ (fun e => ?_) (by omega) (by omega) (by omega) (by omega) fun p hp => ?_
            · rw [e] at hsl
              simp at hsl
              omega
            · rw [hsl] at hp
              exact hk p ⟨a, b, ha, hb, hp⟩
          · have := hq ps hps
            subst e7
            simpa [Plan.d, ds_map] using this
        simp
        rcases hm23 with rfl | ⟨rfl, h3⟩
        · obtain ⟨z, rfl⟩ := List.length_eq_one_iff.mp hzl
          have hz := hzm z (by simp)
          obtain ⟨c, rfl⟩ : ∃ c : Nat, z = c := ⟨z.toNat, by omega⟩
          simp
          have := tail [0, c, xs.length] (.sh (.list [.int c])) (fun i hi => ?_) fun ps hps => ?_
          · simpa using this
          · have : i = 0 ∨ i = 1 := by omega
            rcases this with rfl | rfl
            · exact ⟨0, c, rfl, rfl, by omega, by omega, by omega⟩
            · exact ⟨c, xs.length, rfl, rfl, by omega, by omega, by omega⟩
          · rw [show List.range 2 = [0, 1] from rfl] at hps
            rcases hps with _ | ⟨⟨a0, b0, ha0, hb0, d0⟩, _ | ⟨⟨a1, b1, ha1, hb1, d1⟩, hnil⟩⟩
            cases hnil
            simp at ha0 hb0 ha1 hb1
            subst ha0 hb0 ha1 hb1
            rename_i p0 p1
            have n0 := d0.nm
            have n1 := d1.nm
            have t0 := d0.ht
            have t1 := d1.ht
            have q0 := d0.nd
            have q1 := d1.nd
            have l0 : ((xs.drop 0).take (c - 0)).length = c := by simp; omega
            have l1 : ((xs.drop c).take (xs.length - c)).length = xs.length - c := by simp
            rw [l0] at q0
            rw [l1] at q1
            refine h (grp w [p0, p1]) ⟨?_, ⟨by simp, d0.ok, d1.ok, trivial⟩, by simp [height, heightL]; omega, by simp [nodes, nodesL]; omega, fun e => absurd e h1⟩
            rw [names_grp]
            simp [n0, n1]
            have : (xs.drop c).take (xs.length - c) = xs.drop c := List.take_of_length_le (by simp)
            rw [this, List.take_append_drop]
        · obtain ⟨z1, z2, rfl⟩ : ∃ z1 z2, zs = [z1, z2] := by
            match zs, hzl with
            | [z1, z2], _ => exact ⟨z1, z2, rfl⟩
          have hz1 := hzm z1 (by simp)
          have hz2 := hzm z2 (by simp)
          have hlt : z1 < z2 := by
            simp at hzs hzn
            omega
          obtain ⟨c, rfl⟩ : ∃ c : Nat, z1 = c := ⟨z1.toNat, by omega⟩
          obtain ⟨e, rfl⟩ : ∃ e : Nat, z2 = e := ⟨z2.toNat, by omega⟩
          simp
          have := tail [0, c, e, xs.length] (.sh (.list [.int c, .int e])) (fun i hi => ?_) fun ps hps => ?_
          · simpa using this
          · have : i = 0 ∨ i = 1 ∨ i = 2 := by omega
            rcases this with rfl | rfl | rfl
            · exact ⟨0, c, rfl, rfl, by omega, by omega, by omega⟩
            · exact ⟨c, e, rfl, rfl, by omega, by omega, by omega⟩
            · exact ⟨e, xs.length, rfl, rfl, by omega, by omega, by omega⟩
          · rw [show List.range 3 = [0, 1, 2] from rfl] at hps
            rcases hps with _ | ⟨⟨a0, b0, ha0, hb0, d0⟩, _ | ⟨⟨a1, b1, ha1, hb1, d1⟩, _ | ⟨⟨a2, b2, ha2, hb2, d2⟩, hnil⟩⟩⟩
            cases hnil
            simp at ha0 hb0 ha1 hb1 ha2 hb2
            subst ha0 hb0 ha1 hb1 ha2 hb2
            rename_i p0 p1 p2
            have n0 := d0.nm
            have n1 := d1.nm
            have n2 := d2.nm
            have t0 := d0.ht
            have t1 := d1.ht
            have t2 := d2.ht
            have q0 := d0.nd
            have q1 := d1.nd
            have q2 := d2.nd
            have l0 : ((xs.drop 0).take (c - 0)).length = c := by simp; omega
            have l1 : ((xs.drop c).take (e - c)).length = e - c := by simp; omega
            have l2 : ((xs.drop e).take (xs.length - e)).length = xs.length - e := by simp
            rw [l0] at q0
            rw [l1] at q1
            rw [l2] at q2
            refine h (grp w [p0, p1, p2]) ⟨?_, ⟨by simp, d0.ok, d1.ok, d2.ok, trivial⟩, by simp [height, heightL]; omega, by simp [nodes, nodesL]; omega, fun e => absurd e h1⟩
            rw [names_grp]
            simp [n0, n1, n2]
            have e1 : (xs.drop e).take (xs.length - e) = xs.drop e := List.take_of_length_le (by simp)
            have e2 : xs.drop e = (xs.drop c).drop (e - c) := by rw [List.drop_drop]; congr 1; omega
            rw [e1, e2, List.take_append_drop, List.take_append_drop]
      by_cases h2 : (2 : Int) < (xs.length : Int)
      · simp [h2]
        refine l_pick (by decide) fun r h0 hr => ?_
        by_cases hz : r = 0
        · simp [hz]
          exact many 3 (.inr ⟨rfl, by omega⟩)
        · simp [hz]
          exact many 2 (.inl rfl)
      · simp [h2]
        exact many 2 (.inl rfl)
theorem l_draw_whole {m : Int} (hm : m = 12) (h : ∀ p, (∀ x ∈ names p, x ∈ (["a", "b1", "cd", "do", "e", "f0", "go", "h", "ij", "k", "lo", "m2"] : List Str)) → (names p).Nodup → ok p → height p ≤ 12 → nodes p ≤ 59 → Qd p.d) : Cl (wp__law_draw_whole_plan K) [.s, .d (.int m)] Qd := by
  subst hm
  refine ⟨rfl, ?_⟩
  unfold bd__law_draw_whole_plan
  refine seq_gen fun k1 e1 => ?_
  simp [env0]
  refine l_pick (by decide) fun r h0 hr => ?_
  simp
  subst e1
  refine seq_gen fun k2 e2 => ?_
  simp
  have el : PyData.list [PyData.str "a", .str "b1", .str "cd", .str "do", .str "e", .str "f0", .str "go", .str "h", .str "ij", .str "k", .str "lo", .str "m2"] = .list ((["a", "b1", "cd", "do", "e", "f0", "go", "h", "ij", "k", "lo", "m2"] : List Str).map .str) := rfl
  rw [el]
  refine l_any_map (by decide) fun ys hys => ?_
  simp
  obtain ⟨n, rfl⟩ : ∃ n : Nat, r = n := ⟨r.toNat, by omega⟩
  have e3 : (1 : Int) + (n : Int) = ((n + 1 : Nat) : Int) := by omega
  rw [e3, cutL_to, ← List.map_take]
  have hyl : ys.length = 12 := hys.length_eq
  have hts : ((ys.take (n + 1)).length ≤ 12 ∧ 0 < (ys.take (n + 1)).length) := by simp; omega
  have hnd : (ys.take (n + 1)).Nodup := List.Nodup.sublist (List.take_sublist _ _) (hys.nodup_iff.mpr (by decide +kernel))
  have hsub : ∀ x ∈ ys.take (n + 1), x ∈ (["a", "b1", "cd", "do", "e", "f0", "go", "h", "ij", "k", "lo", "m2"] : List Str) := fun x hx => hys.subset (List.mem_of_mem_take hx)
  generalize ys.take (n + 1) = ts at hts hnd hsub
  subst e2
  simp
  refine l_draw_plan 24 ts 0 _ (List.length_pos_iff.mp hts.2) hts.1 (by omega) (by omega) (by omega) fun p hp => ?_
  have a := hp.ht
  have b := hp.nd
  exact h p (fun x hx => hsub x (hp.nm ▸ hx)) (hp.nm ▸ hnd) hp.ok (by omega) (by omega)
end
end W_k11

set_option Elab.async false
set_option linter.all false
set_option maxRecDepth 100000
set_option maxHeartbeats 4000000
namespace W_k11
open PySem VL PL PL.Plan
section
variable {K : PySem.W.Frag} {Qd : PyData → Prop}
theorem nice_bools {m : Mk} : Nice 60 50 (.list [.bool m.good, .bool m.sure, .bool m.loose, .bool m.ready, .bool m.whole]) :=
  (nice_list (k := 0) (m := 40) (niceL_all (c := 5) (m := 5) (fun x hx => by
    simp at hx
    rcases hx with rfl | rfl | rfl | rfl | rfl <;> exact nice_bool _) (by simp) (by decide))).mono (by decide) (Nat.le_refl _)
theorem nice_nats {xs : List Nat} (hl : xs.length ≤ 1000) (h : ∀ x ∈ xs, x ≤ 1000) : Nice 1 12003 (.tuple (xs.map fun (i : Nat) => .int i)) :=
  nice_tuple (niceL_map (c := 10) (fun i hi => nice_nat (by have := h i hi; omega)) hl (Nat.le_refl _)) (by decide)
theorem hinges_le {sel : Mk → Bool} {rows : List Mk} : (hinges sel rows).length ≤ rows.length ∧ ∀ x ∈ hinges sel rows, x < rows.length := by
  unfold hinges
  refine ⟨?_, fun x hx => List.mem_range.mp (List.mem_filter.mp hx).1⟩
  have := List.length_filter_le (hinge sel rows) (List.range rows.length)
  simpa using this
theorem leads_names : ∀ {q : List Nat} {p r : Plan}, Leads p q r → ∀ x ∈ names r, x ∈ names p
  | [], p, r, h, x, hx => by
    have e : p = r := h
    rw [e]; exact hx
  | i :: q, p, r, ⟨m, h1, h2⟩, x, hx => by
    have := leads_names h2 x hx
    cases p with
    | deed n k => simp at h1
    | grp w ms => exact names_mem (List.mem_of_getElem? h1) x this
theorem l_one_right {σ : Str → Wd} {pins : List Str} {p : Plan} (hh : height p ≤ 12) (hn : nodes p ≤ 1000) (hok : ok p) (h : Qd (.bool true)) : Cl (wp__law_one_right K) [.s, .d p.d, .d (.dict (stL σ (names p))), .d (pinD pins)] Qd := by
  refine ⟨rfl, ?_⟩
  unfold bd__law_one_right
  have hL : ∀ x ∈ names p, x ∈ names p := fun _ h => h
  refine seq_gen fun k1 e1 => ?_
  simp [env0]
  have ep : PyData.tuple [] = pl [] := rfl
  rw [ep]
  refine l_places 24 p [] _ (by omega) (by decide) hn (by decide) ?_
  refine l_standing (by omega) hn hL ?_
  simp [-pl]
  subst e1
  refine seq_gen fun k2 e2 => ?_
  simp [-pl]
  have hpl := placed_len p
  refine l_pick (by omega) fun r h0 hr => ?_
  have hpos : 0 < nodes p := by cases p <;> simp [nodes]
  obtain ⟨⟨q, r⟩, hx, ha⟩ := atI_map (f := fun x : List Nat × Plan => pl x.1) (xs := placed p) h0 (by omega)
  simp [-pl] at ha
  simp [ha, -pl]
  have hq := placed_leads p q r hx
  have hro := leads_ok hq hok
  have hrh := leads_height hq
  have hrn : ∀ x ∈ names r, x ∈ names p := leads_names hq
  subst e2
  refine seq_gen fun k3 e3 => ?_
  simp [-pl]
  refine l_at hq ?_
  subst e3
  refine seq_gen fun k4 e4 => ?_
  simp [-pl]
  refine l_marks σ _ pins 24 r _ (by omega) (by decide) (by omega) hro hrn ?_
  subst e4
  refine seq_gen fun k5 e5 => ?_
  simp [-pl]
  refine s_is_good hq hh hn hok ?_
  subst e5
  refine seq_gen fun k6 e6 => ?_
  have hm : ∀ (s : String) (j : Nat) (Q : PyData → Prop), (s, j) ∈ [("good", 0), ("sure", 1), ("loose", 2), ("ready", 3), ("whole", 4)] → Q (.bool (Mk.at (marks σ pins r) j)) → Cl (wp_has_mark K) [.d p.d, .d (.tuple [wds σ p, .bool false]), .d (pinD pins), .d (pl q), .d (.str s)] Q := fun s j Q hj hq2 => s_has_mark hj hq hh hn hok hq2
  simp [-pl]
  refine hm "sure" 1 _ (by simp) (hm "loose" 2 _ (by simp) (hm "ready" 3 _ (by simp) (hm "whole" 4 _ (by simp) ?_)))
  simp [-pl, Mk.at]
  subst e6
  refine seq_gen fun k7 e7 => ?_
  simp only [Mk.d]
  simp [-dSeq, -List.any_eq_true, -List.all_eq_true, -List.any_eq_false, -List.all_eq_false, -pl, -dRepr]
  refine nice_bools.rep (by decide) ?_
  simp [-dRepr]
  refine nice_bools.rep (by decide) ?_
  simp
  subst e7
  refine seq_gen fun k8 e8 => ?_
  have last : ∀ r : Plan, Qd (.bool true) → True := fun _ _ => trivial
  cases r with
  | deed nm k =>
    simp [Plan.d]
    subst e8
    simpa [Plan.d] using h
  | grp w ms =>
    have hmk : ∀ m ∈ ms, ∀ Q : PyData → Prop, Q (marks σ pins m).d → Cl (wpR__law_marks K 24 0) [.d m.d, .d (.dict (stL σ (names p))), .d (pinD pins)] Q := fun m hm Q hq2 => by
      have h1 := mems_height (p := grp w ms) hm
      have h2 := mems_nodes (p := grp w ms) hm
      exact l_marks σ _ pins 24 m _ (by omega) (by decide) (by omega) (okL_mem hro.2 m hm) (fun x hx => hrn x (names_mem hm x hx)) hq2
    have hlf : ∀ Q : PyData → Prop, Q (.int (force σ ms : Nat)) → Cl (wp__law_force K) [.d (.tuple [.str w.s, .tuple (ms.map d)]), .d (.dict (stL σ (names p)))] Q := fun Q hq => l_force' (by omega) (by omega) hro hrn hq
    have hct : ∀ Q : PyData → Prop, _ → Cl (wp_comes_to K) [.d p.d, .d (.tuple [wds σ p, .bool false]), .d (pinD pins), .d (pl q)] Q := fun Q h => s_comes_to hq hh hn hok h
    have hhg : ∀ (s : String) (sel : Mk → Bool) (Q : PyData → Prop), _ → _ → Cl (wp_hinges K) [.d p.d, .d (.tuple [wds σ p, .bool false]), .d (pinD pins), .d (pl q), .d (.str s)] Q := fun s sel Q hs h => s_hinges (sel := sel) hs hq hh hn hok h
    have hln := len_le_nodesL ms
    have hnn := hrh.2
    rw [nodes] at hnn
    have hfl := force_lt σ hro.1
    have hcl := come_len (rowsOf σ pins w ms)
    have hrl := rowsOf_le (σ := σ) (pins := pins) (w := w) (ms := ms)
    rw [d_grp]
    cases w with
    | side =>
      simp
      subst e8
      simpa using h
    | els =>
      simp [-dSeq, -List.any_eq_true, -List.all_eq_true, -List.any_eq_false, -List.all_eq_false, -pl]
      refine seq_gen fun k9 e9 => ?_
      simp [-pl]
      refine hlf _ ?_
      subst e9
      refine seq_gen fun k10 e10 => ?_
      simp [-pl]
      rw [cutL_from, ← List.map_drop]
      refine lcD_map d (fun m => (marks σ pins m).d) _ (fun m hm k hk => ?_) ?_
      · simp
        exact hmk m (List.mem_of_mem_drop hm) _ hk
      have em : (ms.drop (force σ ms)).map (fun m => (marks σ pins m).d) = (rowsOf σ pins .els ms).map Mk.d := by simp [rowsOf, List.map_drop]; rfl
      rw [em]
      refine l_come (by omega) ?_
      subst e10
      simp [-pl, -dRepr]
      refine hct _ ?_
      have hrl2 : (rowsOf σ pins .els ms).length = ms.length - force σ ms := by simp [rowsOf]
      have hnc : (List.range (come (rowsOf σ pins .els ms)).length).map (fun (i : Nat) => PyData.int ((force σ ms : Nat) + (i : Int))) = ((List.range (come (rowsOf σ pins .els ms)).length).map fun i => force σ ms + i).map fun (i : Nat) => .int i := by simp
      have hnice : Nice 60 12003 (.tuple ((List.range (come (rowsOf σ pins .els ms)).length).map (fun (i : Nat) => PyData.int ((force σ ms : Nat) + (i : Int))))) := by
        rw [hnc]
        refine (nice_nats (by simp; omega) fun x hx => ?_).mono (by decide) (Nat.le_refl _)
        simp at hx
        obtain ⟨a, h1, h2⟩ := hx
        omega
      refine hnice.rep (by decide) ?_
      refine ⟨L2.RgOk.of_le (by omega) (by omega) (by omega) (by omega), ?_⟩
      have e2 : ((force σ ms : Int) + ((come (rowsOf σ pins .els ms)).length : Int)).toNat - force σ ms = (come (rowsOf σ pins .els ms)).length := by omega
      rw [e2]
      refine hnice.rep (by decide) ?_
      simpa using h
    | row =>
      simp [-dSeq, -List.any_eq_true, -List.all_eq_true, -List.any_eq_false, -List.all_eq_false, -pl]
      subst e8
      cases hg : (marks σ pins (grp .row ms)).good with
      | true =>
        simp [Mk.d, hg, -pl]
        exact h
      | false =>
        refine seq_gen fun k8 e8 => ?_
        simp [-dSeq, -List.any_eq_true, -List.all_eq_true, -List.any_eq_false, -List.all_eq_false, Mk.d, hg, -pl]
        refine seq_gen fun k9 e9 => ?_
        simp [-pl]
        refine lcD_map d (fun m => (marks σ pins m).d) _ (fun m hm k hk => ?_) ?_
        · simp
          exact hmk m hm _ hk
        have em : ms.map (fun m => (marks σ pins m).d) = (rowsOf σ pins .row ms).map Mk.d := by simp [rowsOf]
        rw [em]
        subst e9
        refine seq_gen fun k10 e10 => ?_
        simp [-pl]
        refine hhg "ready" _ _ (.inl ⟨rfl, rfl⟩) (hhg "whole" _ _ (.inr ⟨rfl, rfl⟩) ?_)
        subst e10
        have n1 := hinges_le (sel := (·.ready)) (rows := rowsOf σ pins .row ms)
        have n2 := hinges_le (sel := (·.whole)) (rows := rowsOf σ pins .row ms)
        have a1 := nice_nats (xs := hinges (·.ready) (rowsOf σ pins .row ms)) (by omega) (fun x hx => by have := n1.2 x hx; omega)
        have a2 := nice_nats (xs := hinges (·.whole) (rowsOf σ pins .row ms)) (by omega) (fun x hx => by have := n2.2 x hx; omega)
        have hnice : Nice 60 30000 (.list [.tuple ((hinges (·.ready) (rowsOf σ pins .row ms)).map fun (i : Nat) => .int i), .tuple ((hinges (·.whole) (rowsOf σ pins .row ms)).map fun (i : Nat) => .int i)]) :=
          (nice_list (k := 1) (niceL_cons (k := 1) (b := 12010) (n := 24100) a1 (niceL_cons (k := 1) (b := 0) a2 niceL_nil))).mono (by decide) (Nat.le_refl _)
        simp [-pl, -dRepr]
        refine hnice.rep (by decide) ?_
        refine l_hinges (.inl ⟨rfl, rfl⟩) (by omega) ?_
        simp [-pl, -dRepr]
        refine l_hinges (.inr ⟨rfl, rfl⟩) (by omega) ?_
        simp [-pl, -dRepr]
        refine hnice.rep (by decide) ?_
        simpa using h
end
end W_k11

set_option Elab.async false
set_option linter.all false
set_option maxRecDepth 100000
set_option maxHeartbeats 4000000
namespace W_k11
open PySem VL PL PL.Plan
section
variable {K : PySem.W.Frag} {Qd : PyData → Prop}
theorem leads_lt : ∀ {q : List Nat} {p r : Plan}, Leads p q r → ∀ i ∈ q, i < nodes p
  | [], p, r, h, i, hi => by simp at hi
  | j :: q, p, r, ⟨m, h1, h2⟩, i, hi => by
    have hm := List.mem_of_getElem? h1
    have hn := mems_nodes hm
    rcases List.mem_cons.mp hi with e | hi
    · have : j < (mems p).length := (List.getElem?_eq_some_iff.mp h1).1
      rw [e]
      cases p with
      | deed n k => simp at this
      | grp w ms =>
        have h3 := len_le_nodesL ms
        simp at this
        rw [nodes]
        omega
    · have := leads_lt h2 i hi
      omega
theorem nice_markRow {σ : Str → Wd} {pins : List Str} {p : Plan} (hh : height p ≤ 12) (hn : nodes p ≤ 60) : Nice 60 30000 (.tuple ((placed p).map (markRow σ pins))) := by
  refine (nice_tuple (k := 2) (m := 29900) (niceL_map (c := 250) (m := 60) (fun x hx => ?_) (by rw [placed_len]; exact hn) (by decide))).mono (by decide) (Nat.le_refl _)
  obtain ⟨q, r⟩ := x
  have hq := placed_leads p q r hx
  have hql := (leads_height hq).1
  have hpl := nice_place (q := q) (m := 12) (fun i hi => by have := leads_lt hq i hi; omega) (by omega)
  have nb : ∀ b : Bool, Nice 1 5 (.bool b) := fun b => (nice_bool b).mono (by decide) (Nat.le_refl _)
  unfold markRow
  exact nice_tuple (k := 1) (m := 200) (niceL_cons (b := 40) hpl (niceL_cons (b := 32) (nb _) (niceL_cons (b := 24) (nb _) (niceL_cons (b := 16) (nb _) (niceL_cons (b := 8) (nb _) (niceL_cons (b := 0) (nb _) niceL_nil)))))) (by decide)
theorem l_law : Plain K := by
  unfold Plain bd_law
  refine seq_gen fun k1 e1 => ?_
  simp
  refine forD_rule (fun (i : Nat) => PyData.int (i : Int)) (fun _ ρ => ∃ (s2 s3 s4 s5 s6 s7 s8 s9 s10 s11 s12 s13 s14 s15 : Slot), ρ = [.un, .so, s2, s3, s4, s5, s6, s7, s8, s9, s10, s11, s12, s13, s14, s15]) (fun i _ ρ hP D' e3 e4 hD => ?_) (fun ρ hP => ?_) (List.range 2) _ ⟨.un, .un, .un, .un, .un, .un, .un, .un, .un, .un, .un, .un, .un, .un, rfl⟩
  · obtain ⟨s2, s3, s4, s5, s6, s7, s8, s9, s10, s11, s12, s13, s14, s15, rfl⟩ := hP
    have nx := fun s2 s3 s4 s5 s6 s7 s8 s9 s10 s11 s12 s13 s14 s15 => (hD _ ⟨s2, s3, s4, s5, s6, s7, s8, s9, s10, s11, s12, s13, s14, s15, rfl⟩).1
    simp only [dgName]
    refine seq_gen fun k2 e2 => ?_
    simp
    refine l_draw_whole rfl fun p hnm hnd hok hh hn => ?_
    subst e2
    refine seq_gen fun k3 e5 => ?_
    simp
    refine l_led (by decide) (by decide) (by omega) (by omega) hok hnd fun σ => ?_
    subst e5
    refine seq_gen fun k4 e6 => ?_
    simp
    refine l_pins (by omega) (by omega) hok fun pins hpl hps => ?_
    have hL : ∀ x ∈ names p, x ∈ names p := fun _ h => h
    refine l_standing (by omega) (by omega) hL ?_
    subst e6
    refine seq_gen fun k5 e7 => ?_
    have hnice : Nice 60 100000 (.list [p.d, .tuple [wds σ p, .bool false], pinD pins]) := by
      have ht : ∀ x ∈ names p, (reprText x).length ≤ 20 := fun x hx => by
        have := hnm x hx
        simp at this
        rcases this with rfl | rfl | rfl | rfl | rfl | rfl | rfl | rfl | rfl | rfl | rfl | rfl <;> decide +kernel
      have a := nice_plan p fun x hx => ht x.1 (de_mem hx)
      have b : Nice 1 700 (wds σ p) := nice_tuple (k := 0) (m := 600) (niceL_map (c := 8) (m := 60) (fun x hx => nice_str (wd_len _)) (by have := deeds_le p; omega) (by decide)) (by decide)
      have c : Nice 1 22003 (pinD pins) := nice_tuple (nice_strs (c := 20) (m := 1000) (fun x hx => ht x (hps x hx)) hpl) (by decide)
      have d : Nice 2 800 (.tuple [wds σ p, .bool false]) := nice_tuple (k := 1) (m := 720) (niceL_cons (b := 10) b (niceL_cons (b := 0) ((nice_bool false).mono (k' := 1) (by decide) (Nat.le_refl _)) niceL_nil)) (by decide)
      exact (nice_list (k := 24) (m := 90000) (niceL_cons (b := 30000) (a.mono (k' := 24) (n' := 6100) (by omega) (by omega)) (niceL_cons (b := 23000) (d.mono (k' := 24) (by decide) (Nat.le_refl _)) (niceL_cons (b := 0) (c.mono (k' := 24) (by decide) (Nat.le_refl _)) niceL_nil (by omega) (by omega)) (by omega) (by omega)) (by omega) (by omega)) (by decide)).mono (by decide) (Nat.le_refl _)
    simp [-dRepr]
    refine hnice.rep (by decide) ?_
    generalize hSH : PyData.shown (.list [p.d, .tuple [wds σ p, .bool false], pinD pins]) = SH
    subst e7
    refine seq_gen fun k6 e8 => ?_
    have ep : PyData.tuple [] = pl [] := rfl
    simp [-pl, -dRepr]
    rw [ep]
    refine l_places 24 p [] _ (by omega) (by decide) (by omega) (by decide) ?_
    simp [-pl]
    have hplen := placed_len p
    refine forD_rule (fun x : List Nat × Plan => pl x.1) (fun r ρ => ∃ (done : List (List Nat × Plan)) (s9 : Slot), placed p = done ++ r ∧ ρ = [.un, .so, .sh (.int i), .sh p.d, .sh (.dict (stL σ (names p))), .sh (pinD pins), .sh (.tuple [wds σ p, .bool false]), .sh (.str SH), .ow (.list (done.map (markRow σ pins))), s9, s10, s11, s12, s13, s14, s15]) (fun x r ρ hP D' e9 e10 hD => ?_) (fun ρ hP => ?_) (placed p) _ ⟨[], s9, rfl, rfl⟩
    · obtain ⟨done, s9, e, rfl⟩ := hP
      obtain ⟨q, r0⟩ := x
      have hx : (q, r0) ∈ placed p := by rw [e]; simp
      have hq := placed_leads p q r0 hx
      have hrh := leads_height hq
      simp [-pl]
      refine l_at hq (l_marks σ _ pins 24 r0 _ (by omega) (by decide) (by omega) (leads_ok hq hok) (leads_names hq) ?_)
      have hdl : done.length ≤ 60 := by
        have := congrArg List.length e
        simp [hplen] at this
        omega
      simp [Mk.d, -pl]
      exact ⟨by omega, (hD _ ⟨done ++ [(q, r0)], .sh (pl q), by rw [e]; simp, by simp [markRow, -pl]⟩).1⟩
    · obtain ⟨done, s9, e, rfl⟩ := hP
      rw [List.append_nil] at e
      subst e
      subst e8
      dsimp only
      refine seq_gen fun k7 e9 => ?_
      simp [-pl, -dRepr]
      refine s_all_marks hh (by omega) hok ?_
      have hmr := nice_markRow (σ := σ) (pins := pins) (p := p) hh (by omega)
      refine hmr.rep (by decide) ?_
      simp [-pl, -dRepr]
      refine hmr.rep (by decide) ?_
      simp
      subst e9
      refine seq_gen fun k8 e10 => ?_
      simp
      refine forD_rule (fun (i : Nat) => PyData.int (i : Int)) (fun _ ρ => ∃ (s10 : Slot), ρ = [.un, .so, .sh (.int i), .sh p.d, .sh (.dict (stL σ (names p))), .sh (pinD pins), .sh (.tuple [wds σ p, .bool false]), .sh (.str SH), .ow (.list ((placed p).map (markRow σ pins))), s9, s10, s11, s12, s13, s14, s15]) (fun j _ ρ hP D' e11 e12 hD => ?_) (fun ρ hP => ?_) (List.range 3) _ ⟨s10, rfl⟩
      · obtain ⟨s10, rfl⟩ := hP
        simp
        refine l_one_right hh (by omega) hok ?_
        simp
        exact (hD _ ⟨_, rfl⟩).1
      · obtain ⟨s10, rfl⟩ := hP
        subst e10
        dsimp only
        refine seq_gen fun k9 e11 => ?_
        have fin : ∀ s10 s11 s12 s13 s14 s15, k9 D' [.un, .so, .sh (.int i), .sh p.d, .sh (.dict (stL σ (names p))), .sh (pinD pins), .sh (.tuple [wds σ p, .bool false]), .sh (.str SH), .ow (.list ((placed p).map (markRow σ pins))), s9, s10, s11, s12, s13, s14, s15] := by
          intro s10 s11 s12 s13 s14 s15
          subst e11
          simp [-dRepr]
          refine hnice.rep (by decide) ?_
          simp [hSH]
          exact nx _ _ _ _ _ _ _ _ _ _ _ _ _ _
        simp
        refine l_is_lost σ _ 24 p _ (by omega) (by omega) hok hL (l_going σ _ 24 p _ _ (by omega) (by decide) (by omega) hok hL ?_)
        by_cases hg : going σ p (lost σ p) = []
        · simp [hg]
          refine l_may_try σ _ 24 p _ (by omega) (by decide) (by omega) hok hL ?_
          have h4 : cutL ((mayTry σ p).map de) none (some 4) = ((mayTry σ p).take 4).map de := by
            have := cutL_to ((mayTry σ p).map de) 4
            rw [List.map_take]
            exact this
          simp
          rw [h4]
          have hsub : ∀ x ∈ (mayTry σ p).take 4, x ∈ deeds p := fun x hx => (mayTry_sub σ p).1.subset (List.mem_of_mem_take hx)
          generalize (mayTry σ p).take 4 = M at hsub
          refine forD_rule de (fun r ρ => ∃ (s11 s12 s13 s14 s15 : Slot), (∀ x ∈ r, x ∈ deeds p) ∧ ρ = [.un, .so, .sh (.int i), .sh p.d, .sh (.dict (stL σ (names p))), .sh (pinD pins), .sh (.tuple [wds σ p, .bool false]), .sh (.str SH), .ow (.list ((placed p).map (markRow σ pins))), s9, s10, s11, s12, s13, s14, s15]) (fun x r ρ hP D' e12 e13 hD => ?_) (fun ρ hP => ?_) M _ ⟨s11, s12, s13, s14, s15, hsub, rfl⟩
          · obtain ⟨s11, s12, s13, s14, s15, hr, rfl⟩ := hP
            obtain ⟨n, kd⟩ := x
            have hx : (n, kd) ∈ deeds p := hr _ (List.mem_cons_self ..)
            have hnn : n ∈ names p := de_mem hx
            simp only [dgName]
            refine seq_gen fun k10 e14 => ?_
            simp
            refine l_answers ?_
            simp
            refine lcD_map (fun a : Wd => .str a.s) (fun a => .tuple [.str a.s, .dict (stL (put σ n a) (names p))]) _ (fun a ha k hk => ?_) ?_
            · simp [de]
              exact l_with hnn (by have := deeds_le p; simp [names]; omega) hk
            subst e14
            refine seq_gen fun k11 e15 => ?_
            simp
            refine lcD_fn (fun a : Wd => .tuple [.str a.s, .dict (stL (put σ n a) (names p))]) (fun a => !(marks (put σ n a) pins p).whole) (fun a => .str a.s) _ [] (fun a ha k hk => ?_) ?_
            · simp
              refine l_marks _ _ pins 24 p _ (by omega) (by decide) (by omega) hok hL ?_
              cases hw : (marks (put σ n a) pins p).whole <;> simpa [hw, Mk.d] using hk
            rw [List.nil_append]
            have hnl : Nice 60 200 (.tuple (((answers kd).filter fun a => !(marks (put σ n a) pins p).whole).map fun a => .str a.s)) := by
              refine (nice_tuple (k := 0) (m := 100) (niceL_map (c := 8) (m := 2) (fun a ha => nice_str (wd_len a)) ?_ (by decide)) (by decide)).mono (by decide) (Nat.le_refl _)
              have := List.length_filter_le (fun a => !(marks (put σ n a) pins p).whole) (answers kd)
              have : (answers kd).length ≤ 2 := by cases kd <;> simp [answers]
              omega
            subst e15
            simp [-dRepr, de]
            refine s_lost_by hh (by omega) hok hnd hx ?_
            refine hnl.rep (by decide) ?_
            refine hnl.rep (by decide) ?_
            simp
            exact (hD _ ⟨_, _, _, _, _, fun x hx => hr x (List.mem_cons_of_mem _ hx), rfl⟩).1
          · obtain ⟨s11, s12, s13, s14, s15, hr, rfl⟩ := hP
            exact fin _ _ _ _ _ _
        · simp [hg]
          exact fin _ _ _ _ _ _
  · obtain ⟨s2, s3, s4, s5, s6, s7, s8, s9, s10, s11, s12, s13, s14, s15, rfl⟩ := hP
    subst e1
    simp
end
end W_k11

namespace W_k11
theorem plain (K : PySem.W.Frag) : Plain K := l_law
end W_k11
namespace W_k11
open PySem PySem.Spec PyProof.Rows L2 VL
/-! the head: the run of the top -/
abbrev R : PySem.W.OpenRow := PySem.W.OpenLaw.row PySem.Challenge.rw_togethersafe_k11_marks_of_all_parts
def nm0 : List Str := ["GROUPS", "can_be_undone", "is_sure", "members_of", "placed", "parts_of", "places_of", "deeds_of", "shared", "is_cleared", "is_lost", "force_in", "is_dead", "found_at", "with_step", "MARKS", "SURE", "LOOSE", "READY", "WHOLE", "is_good_in", "coming", "hinges_of", "marked_deed", "marked_row", "marked_side", "marked_else", "rows_of", "marked", "marked_at"]
def nm1 : List Str := ["is_good", "has_mark", "comes_to", "hinges", "marks", "answers_to", "lost_by", "_law_open_cells", "_law_pick", "_law_any_order", "_law_draw_plan", "_law_draw_whole_plan", "_law_deeds", "_law_is_lost", "_law_has_done", "_law_force", "_law_is_done", "_law_is_dead", "_law_going", "_law_may_try", "_law_is_firm", "_law_answers", "_law_with", "_law_standing", "_law_marks", "_law_row_marks", "_law_hinges", "_law_side_marks", "_law_come", "_law_else_marks"]
def nm2 : List Str := ["_law_places", "_law_at", "_law_led", "_law_pins", "_law_one_right"]
def nms : List Str := nm0 ++ nm1 ++ nm2
abbrev hk : PySem.W.Hook := hookV 4 fal gsl fnl
def ob (s : PySem.W.SharedT) : He.AlD := obsVG 4 fal gsl fnl (HandSHeadRun.getT s)
theorem ob_eq (s : PySem.W.SharedT) : ob s = hk.obs s.abs := obsVG_eq (HandSHeadRun.getT_eq s)
theorem run (w : World) : HandSHeadRun.RunEq R (PySem.W.view R.prog [69]) hk ob 4600 nms w := by
  intro os
  kernel_rfl
end W_k11
open PySem PySem.W PySem.Calls PyProof.Rows
theorem PySem.Challenge.cw_togethersafe_k11_marks_of_all_parts_holds : PySem.Challenge.rw_togethersafe_k11_marks_of_all_parts.Holds := by
  w_on; o_law
  refine HandSHeadRun.head_any (r := OpenLaw.row PySem.Challenge.rw_togethersafe_k11_marks_of_all_parts) (q := view (OpenLaw.row PySem.Challenge.rw_togethersafe_k11_marks_of_all_parts).prog [69]) (H := W_k11.hk) (ob := W_k11.ob) (M := 4600) (loose := W_k11.nms) (d := HandSHeadRun.topDef (OpenLaw.row PySem.Challenge.rw_togethersafe_k11_marks_of_all_parts).prog 69) (kwd := []) W_k11.ob_eq
    (by kernel_rfl) (fun s => by kernel_rfl) W_k11.run (by kernel_rfl) (by kernel_rfl) (by kernel_rfl) (by rfl) (by first | assumption | decide +kernel) (by decide +kernel) ⟨rfl, rfl, rfl, rfl, rfl, by decide +kernel⟩ ?hw ?hc
  case hw => w_witness2
  case hc =>
    refine VL.end_law (l := PySem.Challenge.rw_togethersafe_k11_marks_of_all_parts) (n := 63) (k := 105) (x := "script") rfl (by decide) (by kernel_rfl) ⟨rfl, by decide, by decide⟩ ?F
    intro w mg fa h Y G hmg0
    obtain ⟨K, KX, c⟩ := Y
    have hmg : mg ("law" : PySem.Str) = some (.ref fa) := by
      have e : (HandSHeadRun.topDef (OpenLaw.row PySem.Challenge.rw_togethersafe_k11_marks_of_all_parts).prog 69).name = ("law" : PySem.Str) := by kernel_rfl
      rw [← e]
      exact hmg0
    have fx : VL.Fx W_k11.fal W_k11.gsl W_k11.fnl K mg := ⟨⟨h, KX, G, c⟩⟩
    obtain ⟨fd, F⟩ := fx.fd 59 "law" W_k11.st_law
    have e := hmg.symm.trans (fx.glo 59 "law")
    cases e
    have b := L2.FunD.bindsA (ps := ["script"]) F fun _ _ _ _ _ _ us hl => match us, hl with | [_], _ => rfl
    exact ⟨K, fd, VL.spLaw K, KX, fun s v => b s [v] rfl, fun H a ns hl hO hS => ⟨a, ns, rfl, hS, hl, hO, fun _ => rfl⟩, fun base _ _ => W_k11.law_all (W_k11.plain K) fx F⟩
