import PyProof.Rows.All
import Wide.All
import OpenK.AllK
import Wide.FinOn
import HandS.ForMost
import HandS.Walk
import HandS.Deep
import HandS.TupAny
import HandS.Flow
import HandS.Conv
import HandS.TupMul
import KE.DataAny
import KE.DataEq
import KE.DataIsa
import KE.DataMinMax
import KE.DataFind
import KE.SortData
import HandS.Defaults
import HandS.HeadEnd
import HandS.HeadHook1
import HandS.HeadHook2
import HandS.Style
import HandS.More
import HandS.RaiseMore
import PyProof.ReprRoads
import KE.KIndexOf
import HandS.Iter
import KE.GoesEnum
import KE.GoesMore
import KE.GoesZip
import HandS.Strs
import HandS.Star
import HandS.Words
import HandS.Head0
import HandS.Head1
import HandS.Head2
import HandS.Ends
import HandS.IterVal
import HandS.IsInst
import HandS.DictComp
import HandS.TryOnly
import HandS.Remove
import KE.KStateDown
import HandS.Comp
import PySem.Challenge.RW_togethersafe_k17_whole_rests_and_knots
set_option Elab.async false
set_option linter.all false
set_option maxRecDepth 100000
set_option maxHeartbeats 4000000
/-! VLCore: a value-level reading over the hand layer: pure data (PyData) in a frozen part of the heap, slots that are shared, owned or raw, and the simulation of the layer's readings by readings without a heap. -/
namespace VL
open PySem PySem.Spec L2
abbrev St := L2.St

/-! ### data on the heap -/
def kD : Key → PyData
  | .inl i => .int i
  | .inr x => .str x
/-- a tuple whose object is known to have no dict of its own -/
def SqN (K : PySem.W.Frag) (F : Hp) (a : Addr) (xs : List V) : Prop :=
  (∃ o : Obj, F a = some (.frz o (.tup xs)) ∧ o.dict = none) ∨
    ∃ (o : Obj) (ws : Array Value) (m : Nat), K.lookup a = some o ∧ (o.cls = .type "tuple" ∧ o.data = .seq ws m ∧ ws.size ≤ sizeLine ∧ Vals xs ws.toList) ∧ o.dict = none
theorem SqN.t {K : PySem.W.Frag} {F : Hp} {a : Addr} {xs : List V} (s : SqN K F a xs) : SqT K F a xs := by
  rcases s with ⟨o, s, _⟩ | ⟨o, ws, m, e, c, _⟩
  · exact .inl (.inr ⟨o, s⟩)
  · exact .inr ⟨o, ws, m, e, c⟩
theorem SqN.of {K : PySem.W.Frag} {F : Hp} {a : Addr} {xs : List V} {o : Obj} (e : F a = some (.frz o (.tup xs))) (d : o.dict = none) : SqN K F a xs := .inl ⟨o, e, d⟩
mutual
inductive R (K : PySem.W.Frag) (F : Hp) : V → PyData → Prop
  | non : R K F .non .none
  | bl (b : Bool) : R K F (.bl b) (.bool b)
  | int (i : Int) : R K F (.int i) (.int i)
  | str (x : Str) : x.length ≤ sizeLine → R K F (.str x) (.str x)
  | lst {a : Addr} {xs : List V} {ds : List PyData} : F a = some (.lst xs) → ds.length ≤ sizeLine → RL K F xs ds → R K F (.ref a) (.list ds)
  | tup {a : Addr} {xs : List V} {ds : List PyData} : SqN K F a xs → ds.length ≤ sizeLine → RL K F xs ds → R K F (.ref a) (.tuple ds)
  | dct {a : Addr} {kvs : List (Key × V)} {ds : List (PyData × PyData)} : F a = some (.dK kvs) → ds.length ≤ sizeLine → RK K F kvs ds → R K F (.ref a) (.dict ds)
inductive RL (K : PySem.W.Frag) (F : Hp) : List V → List PyData → Prop
  | nil : RL K F [] []
  | cons {v : V} {vs : List V} {d : PyData} {ds : List PyData} : R K F v d → RL K F vs ds → RL K F (v :: vs) (d :: ds)
inductive RK (K : PySem.W.Frag) (F : Hp) : List (Key × V) → List (PyData × PyData) → Prop
  | nil : RK K F [] []
  | cons {k : Key} {v : V} {kvs : List (Key × V)} {d : PyData} {ds : List (PyData × PyData)} : R K F v d → RK K F kvs ds → RK K F ((k, v) :: kvs) ((kD k, d) :: ds)
end
section
variable {K : PySem.W.Frag} {F F' : Hp}
theorem sqT_mono (h : Same F F') {a : Addr} {xs : List V} (s : SqT K F a xs) : SqT K F' a xs := by
  rcases s with (s | ⟨o, s⟩) | s
  · exact .inl (.inl (h _ _ s))
  · exact .inl (.inr ⟨o, h _ _ s⟩)
  · exact .inr s
theorem sqN_mono (h : Same F F') {a : Addr} {xs : List V} (s : SqN K F a xs) : SqN K F' a xs := by
  rcases s with ⟨o, s, d⟩ | s
  · exact .inl ⟨o, h _ _ s, d⟩
  · exact .inr s
theorem sqN_T (h : Same F F') {a : Addr} {xs : List V} (s : SqN K F a xs) : SqT K F' a xs := (sqN_mono h s).t
mutual
theorem R.mono (h : Same F F') : ∀ {v : V} {d : PyData}, R K F v d → R K F' v d
  | _, _, .non => .non
  | _, _, .bl b => .bl b
  | _, _, .int i => .int i
  | _, _, .str x l => .str x l
  | _, _, .lst e l r => .lst (h _ _ e) l (r.mono h)
  | _, _, .tup e l r => .tup (sqN_mono h e) l (r.mono h)
  | _, _, .dct e l r => .dct (h _ _ e) l (r.mono h)
theorem RL.mono (h : Same F F') : ∀ {vs : List V} {ds : List PyData}, RL K F vs ds → RL K F' vs ds
  | _, _, .nil => .nil
  | _, _, .cons a b => .cons (a.mono h) (b.mono h)
theorem RK.mono (h : Same F F') : ∀ {vs : List (Key × V)} {ds : List (PyData × PyData)}, RK K F vs ds → RK K F' vs ds
  | _, _, .nil => .nil
  | _, _, .cons a b => .cons (a.mono h) (b.mono h)
end
theorem RL.length : ∀ {vs : List V} {ds : List PyData}, RL K F vs ds → vs.length = ds.length
  | _, _, .nil => rfl
  | _, _, .cons _ b => by rw [List.length_cons, List.length_cons, b.length]
theorem RK.length : ∀ {vs : List (Key × V)} {ds : List (PyData × PyData)}, RK K F vs ds → vs.length = ds.length
  | _, _, .nil => rfl
  | _, _, .cons _ b => by rw [List.length_cons, List.length_cons, b.length]
theorem RL.get : ∀ {vs : List V} {ds : List PyData} {i : Nat} {v : V}, RL K F vs ds → vs[i]? = some v → ∃ d, ds[i]? = some d ∧ R K F v d
  | _, _, _, _, .nil, e => by simp at e
  | _, _, 0, _, .cons a _, e => by simp at e; subst e; exact ⟨_, rfl, a⟩
  | _, _, i + 1, v, .cons _ b, e => by
    obtain ⟨d, h1, h2⟩ := RL.get (i := i) (v := v) b (by simpa using e)
    exact ⟨d, by simpa using h1, h2⟩
theorem RL.get' : ∀ {vs : List V} {ds : List PyData} {i : Nat} {d : PyData}, RL K F vs ds → ds[i]? = some d → ∃ v, vs[i]? = some v ∧ R K F v d
  | _, _, _, _, .nil, e => by simp at e
  | _, _, 0, _, .cons a _, e => by simp at e; subst e; exact ⟨_, rfl, a⟩
  | _, _, i + 1, v, .cons _ b, e => by
    obtain ⟨d, h1, h2⟩ := RL.get' (i := i) b (by simpa using e)
    exact ⟨d, by simpa using h1, h2⟩
theorem RL.append : ∀ {vs ws : List V} {ds es : List PyData}, RL K F vs ds → RL K F ws es → RL K F (vs ++ ws) (ds ++ es)
  | _, _, _, _, .nil, s => s
  | _, _, _, _, .cons a b, s => .cons a (b.append s)
theorem RL.snoc {vs : List V} {ds : List PyData} {v : V} {d : PyData} (r : RL K F vs ds) (s : R K F v d) : RL K F (vs ++ [v]) (ds ++ [d]) := r.append (.cons s .nil)
theorem RL.drop : ∀ {vs : List V} {ds : List PyData} (n : Nat), RL K F vs ds → RL K F (vs.drop n) (ds.drop n)
  | _, _, 0, r => r
  | _, _, _ + 1, .nil => .nil
  | _, _, n + 1, .cons _ b => RL.drop n b
theorem RL.take : ∀ {vs : List V} {ds : List PyData} (n : Nat), RL K F vs ds → RL K F (vs.take n) (ds.take n)
  | _, _, 0, _ => .nil
  | _, _, _ + 1, .nil => .nil
  | _, _, n + 1, .cons a b => .cons a (RL.take n b)
theorem RL.set : ∀ {vs : List V} {ds : List PyData} {v : V} {d : PyData} (i : Nat), RL K F vs ds → R K F v d → RL K F (vs.set i v) (ds.set i d)
  | _, _, _, _, _, .nil, _ => .nil
  | _, _, _, _, 0, .cons _ b, s => .cons s b
  | _, _, _, _, i + 1, .cons a b, s => .cons a (RL.set i b s)
theorem RL.eraseIdx : ∀ {vs : List V} {ds : List PyData} (i : Nat), RL K F vs ds → RL K F (vs.eraseIdx i) (ds.eraseIdx i)
  | _, _, _, .nil => .nil
  | _, _, 0, .cons _ b => b
  | _, _, i + 1, .cons a b => .cons a (RL.eraseIdx i b)
theorem RL.dropLast : ∀ {vs : List V} {ds : List PyData}, RL K F vs ds → RL K F vs.dropLast ds.dropLast
  | _, _, .nil => .nil
  | _, _, .cons _ .nil => .nil
  | _, _, .cons a (.cons b c) => .cons a (RL.dropLast (.cons b c))
theorem RL.reverse : ∀ {vs : List V} {ds : List PyData}, RL K F vs ds → RL K F vs.reverse ds.reverse
  | _, _, .nil => .nil
  | _, _, .cons a b => by rw [List.reverse_cons, List.reverse_cons]; exact b.reverse.append (.cons a .nil)
end

/-! ### the setting: the module's part, a region that stands apart (the draws' source), what holds of it -/
structure Cfg where
  K : PySem.W.Frag
  S : Addr → Prop
  ok : Hp → Prop
  src : Option V
  loc : ∀ H H' : Hp, (∀ a, S a → H' a = H a) → ok H → ok H'
  alloc : ∀ (H : Hp) a, ok H → S a → H a ≠ none

/-- the frozen part F of the heap H -/
structure Good (C : Cfg) (F H : Hp) : Prop where
  fh : Same F H
  ok : C.ok H
  fs : ∀ a, C.S a → F a = none
/-- from F, H to F', H': the frozen part grows by new objects, what stood stands but for the region -/
structure Ext (C : Cfg) (F H F' H' : Hp) : Prop where
  ff : Same F F'
  g : Good C F' H'
  hh : ∀ a o, H a = some o → ¬ C.S a → H' a = some o
  nw : ∀ a o, F' a = some o → F a = some o ∨ H a = none
section
variable {C : Cfg} {F H F1 H1 F2 H2 : Hp}
theorem Ext.refl (g : Good C F H) : Ext C F H F H := ⟨.refl _, g, fun _ _ e _ => e, fun _ _ e => .inl e⟩
theorem Ext.trans (x : Ext C F H F1 H1) (y : Ext C F1 H1 F2 H2) : Ext C F H F2 H2 := by
  refine ⟨x.ff.trans y.ff, y.g, fun a o e n => y.hh a o (x.hh a o e n) n, fun a o e => ?_⟩
  rcases y.nw a o e with h | h
  · exact x.nw a o h
  · right
    cases q : H a with
    | none => rfl
    | some u =>
      have n : ¬ C.S a := fun s => by
        have := y.g.fs a s
        rw [e] at this; cases this
      have := x.hh a u q n
      rw [h] at this; cases this
theorem Good.noS (g : Good C F H) {p : Addr} (h : H p = none) : ¬ C.S p := fun s => C.alloc H p g.ok s h
theorem Good.fnone (g : Good C F H) {p : Addr} (h : H p = none) : F p = none := g.fh.free h
/-- a new frozen object -/
theorem Ext.new (g : Good C F H) {p : Addr} (h : H p = none) (o : HO) : Ext C F H (upd F p o) (upd H p o) := by
  have nS := g.noS h
  have nF := g.fnone h
  refine ⟨fun b u e => by rw [upd_ne (ne_of_none e nF)]; exact e, ⟨fun b u e => ?_, C.loc H _ (fun a s => upd_ne (fun z : a = p => nS (z ▸ s))) g.ok, fun a s => by rw [upd_ne (fun z : a = p => nS (z ▸ s))]; exact g.fs a s⟩,
    fun a u e _ => by rw [upd_ne (ne_of_none e h)]; exact e, fun a u e => ?_⟩
  · by_cases hb : b = p
    · subst hb; rw [upd_same] at e ⊢; exact e
    · rw [upd_ne hb] at e ⊢; exact g.fh b u e
  · by_cases hb : a = p
    · subst hb; exact .inr h
    · rw [upd_ne hb] at e; exact .inl e
/-- a new object that isn't frozen -/
theorem Ext.newO (g : Good C F H) {p : Addr} (h : H p = none) (o : HO) : Ext C F H F (upd H p o) := by
  have nS := g.noS h
  refine ⟨.refl _, ⟨fun b u e => ?_, C.loc H _ (fun a s => upd_ne (fun z : a = p => nS (z ▸ s))) g.ok, g.fs⟩, fun a u e _ => by rw [upd_ne (ne_of_none e h)]; exact e, fun a u e => .inl e⟩
  rw [upd_ne (ne_of_none (g.fh b u e) h)]; exact g.fh b u e
end

/-! ### slots -/
inductive Slot where
  | un
  | sh (d : PyData)
  | ow (d : PyData)
  | raw (v : V)
  | so
  | lk (d : PyData)
abbrev Vn := List Slot
/-- what stands at a as a list or dict of its own -/
def Cont (K : PySem.W.Frag) (F H : Hp) (a : Addr) : PyData → Prop
  | .list ds => ∃ vs, H a = some (.lst vs) ∧ ds.length ≤ sizeLine ∧ RL K F vs ds
  | .dict ds => ∃ kvs, H a = some (.dK kvs) ∧ ds.length ≤ sizeLine ∧ RK K F kvs ds
  | _ => False
theorem Cont.there {K : PySem.W.Frag} {F H : Hp} {a : Addr} {d : PyData} (h : Cont K F H a d) : ∃ o, H a = some o := by
  cases d with
  | list ds => obtain ⟨_, e, _⟩ := h; exact ⟨_, e⟩
  | dict ds => obtain ⟨_, e, _⟩ := h; exact ⟨_, e⟩
  | _ => exact h.elim
theorem Cont.mono {K : PySem.W.Frag} {F H F' H' : Hp} {a : Addr} {d : PyData} (h : Cont K F H a d) (ff : Same F F') (e : H' a = H a) : Cont K F' H' a d := by
  cases d with
  | list ds => obtain ⟨vs, q, l, r⟩ := h; exact ⟨vs, e.trans q, l, r.mono ff⟩
  | dict ds => obtain ⟨vs, q, l, r⟩ := h; exact ⟨vs, e.trans q, l, r.mono ff⟩
  | _ => exact h
structure Own (C : Cfg) (H0 F H : Hp) (a : Addr) (d : PyData) : Prop where
  nf : F a = none
  n0 : H0 a = none
  ns : ¬ C.S a
  ct : Cont C.K F H a d
theorem Own.ext {C : Cfg} {H0 F H F' H' : Hp} {a : Addr} {d : PyData} (o : Own C H0 F H a d) (x : Ext C F H F' H') : Own C H0 F' H' a d := by
  obtain ⟨u, e⟩ := o.ct.there
  refine ⟨?_, o.n0, o.ns, o.ct.mono x.ff ((x.hh a u e o.ns).trans e.symm)⟩
  cases q : F' a with
  | none => rfl
  | some w =>
    rcases x.nw a w q with z | z
    · rw [o.nf] at z; cases z
    · rw [e] at z; cases z
def SlotR (C : Cfg) (H0 F H : Hp) : Slot → Option V → Prop
  | .un, _ => True
  | .sh d, o => ∃ v, o = some v ∧ R C.K F v d
  | .ow d, o => ∃ a, o = some (.ref a) ∧ Own C H0 F H a d
  | .raw v, o => o = some v
  | .so, o => C.src ≠ none ∧ o = C.src
  | .lk (.dict ds), o => ∃ a ob kvs, o = some (.ref a) ∧ ¬ C.S a ∧ H a = some (.frz ob (.dK kvs)) ∧ RK C.K F kvs ds
  | .lk _, _ => False
structure Slots (C : Cfg) (H0 F H : Hp) (σ : St) (ρ : Vn) : Prop where
  len : σ.length = ρ.length
  get : ∀ (i : Nat) s o, ρ[i]? = some s → σ[i]? = some o → SlotR C H0 F H s o
  apart : ∀ (i j : Nat) a d e, i ≠ j → ρ[i]? = some (.ow d) → ρ[j]? = some (.ow e) → σ[i]? = some (some (.ref a)) → σ[j]? = some (some (.ref a)) → False
section
variable {C : Cfg} {H0 F H F' H' : Hp} {σ : St} {ρ : Vn}
theorem SlotR.ext {s : Slot} {o : Option V} (r : SlotR C H0 F H s o) (x : Ext C F H F' H') : SlotR C H0 F' H' s o := by
  cases s with
  | un => trivial
  | sh d => obtain ⟨v, e, q⟩ := r; exact ⟨v, e, q.mono x.ff⟩
  | ow d => obtain ⟨a, e, q⟩ := r; exact ⟨a, e, q.ext x⟩
  | raw v => exact r
  | so => exact r
  | lk d =>
    cases d with
    | dict ds => obtain ⟨a, ob, kvs, e, n, h, q⟩ := r; exact ⟨a, ob, kvs, e, n, x.hh _ _ h n, q.mono x.ff⟩
    | _ => exact r
theorem Slots.ext (S : Slots C H0 F H σ ρ) (x : Ext C F H F' H') : Slots C H0 F' H' σ ρ := ⟨S.len, fun i s o e1 e2 => (S.get i s o e1 e2).ext x, S.apart⟩
theorem Slots.at (S : Slots C H0 F H σ ρ) {i : Nat} {s : Slot} (e : ρ[i]? = some s) : ∃ o, σ[i]? = some o ∧ SlotR C H0 F H s o := by
  have h : i < σ.length := by rw [S.len]; exact (List.getElem?_eq_some_iff.mp e).1
  exact ⟨σ[i], by simp [h], S.get i s _ e (by simp [h])⟩
theorem Slots.set (S : Slots C H0 F H σ ρ) (i : Nat) {s : Slot} {v : V} (r : SlotR C H0 F H s (some v))
    (ap : ∀ a d, s = .ow d → v = .ref a → ∀ j e, j ≠ i → ρ[j]? = some (.ow e) → σ[j]? = some (some (.ref a)) → False) : Slots C H0 F H (σ.set i (some v)) (ρ.set i s) := by
  refine ⟨by rw [List.length_set, List.length_set, S.len], fun j t o e1 e2 => ?_, fun j k a d e hne e1 e2 e3 e4 => ?_⟩
  · by_cases h : i = j
    · subst h
      have hi : i < ρ.length := by
        have := (List.getElem?_eq_some_iff.mp e1).1
        rwa [List.length_set] at this
      rw [List.getElem?_set_self hi] at e1
      rw [List.getElem?_set_self (by rw [S.len]; exact hi)] at e2
      cases e1; cases e2
      exact r
    · rw [List.getElem?_set_ne h] at e1 e2
      exact S.get j t o e1 e2
  · by_cases h1 : i = j
    · subst h1
      have hi : i < ρ.length := by
        have := (List.getElem?_eq_some_iff.mp e1).1
        rwa [List.length_set] at this
      rw [List.getElem?_set_self hi] at e1
      rw [List.getElem?_set_self (by rw [S.len]; exact hi)] at e3
      rw [List.getElem?_set_ne hne] at e2 e4
      cases e1; cases e3
      exact ap a d rfl rfl k e (Ne.symm hne) e2 e4
    · by_cases h2 : i = k
      · subst h2
        have hi : i < ρ.length := by
          have := (List.getElem?_eq_some_iff.mp e2).1
          rwa [List.length_set] at this
        rw [List.getElem?_set_self hi] at e2
        rw [List.getElem?_set_self (by rw [S.len]; exact hi)] at e4
        rw [List.getElem?_set_ne h1] at e1 e3
        cases e2; cases e4
        exact ap a e rfl rfl j d (fun z => h1 z.symm) e1 e3
      · rw [List.getElem?_set_ne h1] at e1 e3
        rw [List.getElem?_set_ne h2] at e2 e4
        exact S.apart j k a d e hne e1 e2 e3 e4
/-- slots forgotten -/
@[simp] def wipeE (ρ : Vn) : List Nat → Vn
  | [] => ρ
  | v :: vs => (wipeE ρ vs).set v .un
theorem Slots.wipe (S : Slots C H0 F H σ ρ) : ∀ vs : List Nat, Slots C H0 F H (L2.wipe σ vs) (wipeE ρ vs)
  | [] => S
  | v :: vs => by
    have T := Slots.wipe S vs
    unfold L2.wipe wipeE
    refine ⟨by rw [List.length_set, List.length_set, T.len], fun j t o e1 e2 => ?_, fun j k a d e hne e1 e2 e3 e4 => ?_⟩
    · by_cases h : v = j
      · subst h
        have hi : v < (wipeE ρ vs).length := by
          have := (List.getElem?_eq_some_iff.mp e1).1
          rwa [List.length_set] at this
        rw [List.getElem?_set_self hi] at e1
        cases e1
        trivial
      · rw [List.getElem?_set_ne h] at e1 e2
        exact T.get j t o e1 e2
    · have n1 : v ≠ j := fun z => by
        subst z
        have hi : v < (wipeE ρ vs).length := by
          have := (List.getElem?_eq_some_iff.mp e1).1
          rwa [List.length_set] at this
        rw [List.getElem?_set_self hi] at e1
        cases e1
      have n2 : v ≠ k := fun z => by
        subst z
        have hi : v < (wipeE ρ vs).length := by
          have := (List.getElem?_eq_some_iff.mp e2).1
          rwa [List.length_set] at this
        rw [List.getElem?_set_self hi] at e2
        cases e2
      rw [List.getElem?_set_ne n1] at e1 e3
      rw [List.getElem?_set_ne n2] at e2 e4
      exact T.apart j k a d e hne e1 e2 e3 e4
end
/-- what may be read: frozen data, or an own list or dict -/
def RP (C : Cfg) (F H : Hp) (v : V) (d : PyData) : Prop := R C.K F v d ∨ ∃ a, v = .ref a ∧ ¬ C.S a ∧ Cont C.K F H a d
section
variable {C : Cfg} {H0 F H F' H' : Hp} {v : V} {d : PyData}
theorem RP.ext (r : RP C F H v d) (x : Ext C F H F' H') : RP C F' H' v d := by
  rcases r with r | ⟨a, e, n, c⟩
  · exact .inl (r.mono x.ff)
  · obtain ⟨u, q⟩ := c.there
    exact .inr ⟨a, e, n, c.mono x.ff ((x.hh a u q n).trans q.symm)⟩
/-- read off the whole heap -/
theorem RP.all (r : RP C F H v d) (g : Good C F H) : R C.K H v d := by
  rcases r with r | ⟨a, e, n, c⟩
  · exact r.mono g.fh
  · subst e
    cases d with
    | list ds => obtain ⟨vs, q, l, r⟩ := c; exact .lst q l (r.mono g.fh)
    | dict ds => obtain ⟨vs, q, l, r⟩ := c; exact .dct q l (r.mono g.fh)
    | _ => exact c.elim
/-- a list that may be read, its items frozen -/
theorem RP.list {ds : List PyData} (r : RP C F H v (.list ds)) (g : Good C F H) : ∃ a vs, v = .ref a ∧ ¬ C.S a ∧ H a = some (.lst vs) ∧ ds.length ≤ sizeLine ∧ RL C.K F vs ds := by
  rcases r with r | ⟨a, e, n, vs, q, l, r⟩
  · cases r with
    | lst e l r =>
      rename_i a vs
      exact ⟨a, vs, rfl, (fun s => by have := g.fs a s; rw [e] at this; cases this), g.fh _ _ e, l, r⟩
  · exact ⟨a, vs, e, n, q, l, r⟩
theorem RP.tuple {ds : List PyData} (r : RP C F H v (.tuple ds)) : ∃ a vs, v = .ref a ∧ SqN C.K F a vs ∧ ds.length ≤ sizeLine ∧ RL C.K F vs ds := by
  rcases r with r | ⟨a, e, n, c⟩
  · cases r with
    | tup e l r => exact ⟨_, _, rfl, e, l, r⟩
  · exact c.elim
theorem RP.dict {ds : List (PyData × PyData)} (r : RP C F H v (.dict ds)) (g : Good C F H) : ∃ a kvs, v = .ref a ∧ ¬ C.S a ∧ H a = some (.dK kvs) ∧ ds.length ≤ sizeLine ∧ RK C.K F kvs ds := by
  rcases r with r | ⟨a, e, n, vs, q, l, r⟩
  · cases r with
    | dct e l r =>
      rename_i a vs
      exact ⟨a, vs, rfl, (fun s => by have := g.fs a s; rw [e] at this; cases this), g.fh _ _ e, l, r⟩
  · exact ⟨a, vs, e, n, q, l, r⟩
end

/-! ### readings without a heap -/
abbrev DE := Vn → (PyData → Prop) → Prop
abbrev DT := Vn → (Bool → Prop) → Prop
/-- an argument: data or raw -/
inductive AV where
  | d (x : PyData)
  | r (v : V)
  | s
abbrev DA := Vn → (List AV → Prop) → Prop
inductive RV where
  | sh (d : PyData)
  | ow (d : PyData)
structure Ctl where
  nx : Vn → Prop
  rt : RV → Prop
  bk : Vn → Prop := fun _ => False
  ct : Vn → Prop := fun _ => False
abbrev DS := Ctl → Vn → Prop

/-- the reading th is simulated by t: shared results -/
def SimE (C : Cfg) (th : TE) (t : DE) : Prop :=
  ∀ (H0 F H : Hp) (σ : St) (ρ : Vn) (Qd : PyData → Prop) (Q : VK), Good C F H → Slots C H0 F H σ ρ → t ρ Qd →
    (∀ v F' H' d, Ext C F H F' H' → R C.K F' v d → Qd d → Q v H') → th σ H Q
/-- .. results that may be read -/
def SimP (C : Cfg) (th : TE) (t : DE) : Prop :=
  ∀ (H0 F H : Hp) (σ : St) (ρ : Vn) (Qd : PyData → Prop) (Q : VK), Good C F H → Slots C H0 F H σ ρ → t ρ Qd →
    (∀ v F' H' d, Ext C F H F' H' → RP C F' H' v d → Qd d → Q v H') → th σ H Q
/-- .. results that are new lists or dicts -/
def SimF (C : Cfg) (th : TE) (t : DE) : Prop :=
  ∀ (H0 F H : Hp) (σ : St) (ρ : Vn) (Qd : PyData → Prop) (Q : VK), Good C F H → Slots C H0 F H σ ρ → t ρ Qd →
    (∀ a F' H' d, Ext C F H F' H' → Own C H F' H' a d → Qd d → Q (.ref a) H') → th σ H Q
def SimT (C : Cfg) (th : TT) (t : DT) : Prop :=
  ∀ (H0 F H : Hp) (σ : St) (ρ : Vn) (Qd : Bool → Prop) (Q : Bool → Hp → Prop), Good C F H → Slots C H0 F H σ ρ → t ρ Qd →
    (∀ b F' H', Ext C F H F' H' → Qd b → Q b H') → th σ H Q
def AVR (C : Cfg) (F : Hp) : AV → V → Prop
  | .d x, v => R C.K F v x
  | .r w, v => v = w
  | .s, v => C.src = some v
inductive AVs (C : Cfg) (F : Hp) : List AV → List V → Prop
  | nil : AVs C F [] []
  | cons {a : AV} {as : List AV} {v : V} {vs : List V} : AVR C F a v → AVs C F as vs → AVs C F (a :: as) (v :: vs)
theorem AVR.mono {C : Cfg} {F F' : Hp} (h : Same F F') {a : AV} {v : V} (r : AVR C F a v) : AVR C F' a v := by
  cases a with
  | d x => exact R.mono h r
  | r w => exact r
  | s => exact r
theorem AVs.mono {C : Cfg} {F F' : Hp} (h : Same F F') : ∀ {as : List AV} {vs : List V}, AVs C F as vs → AVs C F' as vs
  | _, _, .nil => .nil
  | _, _, .cons a b => .cons (a.mono h) (b.mono h)
theorem AVs.length {C : Cfg} {F : Hp} : ∀ {as : List AV} {vs : List V}, AVs C F as vs → as.length = vs.length
  | _, _, .nil => rfl
  | _, _, .cons _ b => by rw [List.length_cons, List.length_cons, b.length]
def SimA (C : Cfg) (th : TA) (t : DA) : Prop :=
  ∀ (H0 F H : Hp) (σ : St) (ρ : Vn) (Qd : List AV → Prop) (Q : List V → Hp → Prop), Good C F H → Slots C H0 F H σ ρ → t ρ Qd →
    (∀ vs F' H' as, Ext C F H F' H' → AVs C F' as vs → Qd as → Q vs H') → th σ H Q
def RVR (C : Cfg) (H0 F H : Hp) : RV → V → Prop
  | .sh d, v => R C.K F v d
  | .ow d, v => ∃ a, v = .ref a ∧ Own C H0 F H a d
structure Lnk (C : Cfg) (F0 H0 : Hp) (D : Ctl) (DH : Ends) : Prop where
  nx : ∀ F H σ ρ, Ext C F0 H0 F H → Slots C H0 F H σ ρ → D.nx ρ → DH.nx σ H
  rt : ∀ F H v rv, Ext C F0 H0 F H → RVR C H0 F H rv v → D.rt rv → DH.rt v H
  bk : ∀ F H σ ρ, Ext C F0 H0 F H → Slots C H0 F H σ ρ → D.bk ρ → DH.bk σ H
  ct : ∀ F H σ ρ, Ext C F0 H0 F H → Slots C H0 F H σ ρ → D.ct ρ → DH.ct σ H
def SimS (C : Cfg) (th : TS) (t : DS) : Prop :=
  ∀ (F0 H0 F H : Hp) (σ : St) (ρ : Vn) (D : Ctl) (DH : Ends), Ext C F0 H0 F H → Slots C H0 F H σ ρ → t D ρ → Lnk C F0 H0 D DH → th DH σ H

section
variable {C : Cfg} {th ta tb : TE} {t u w : DE}
theorem SimE.p (h : SimE C th t) : SimP C th t := fun H0 F H σ ρ Qd Q g S ht k => h H0 F H σ ρ Qd Q g S ht fun v F' H' d x r q => k v F' H' d x (.inl r) q
/-- a new list is frozen -/
theorem freeze {F H F' H' : Hp} {a : Addr} {d : PyData} (x : Ext C F H F' H') (o : Own C H F' H' a d) : ∃ F'', Ext C F H F'' H' ∧ R C.K F'' (.ref a) d := by
  obtain ⟨u, e⟩ := o.ct.there
  have ff : Same F' (upd F' a u) := fun b z q => by rw [upd_ne (ne_of_none q o.nf)]; exact q
  refine ⟨upd F' a u, ⟨x.ff.trans ff, ⟨fun b z q => ?_, x.g.ok, fun b s => ?_⟩, x.hh, fun b z q => ?_⟩, ?_⟩
  · by_cases hb : b = a
    · subst hb; rw [upd_same] at q; cases q; exact e
    · rw [upd_ne hb] at q; exact x.g.fh b z q
  · rw [upd_ne (fun z : b = a => o.ns (z ▸ s))]; exact x.g.fs b s
  · by_cases hb : b = a
    · subst hb; exact .inr o.n0
    · rw [upd_ne hb] at q; exact x.nw b z q
  · have c := o.ct
    cases d with
    | list ds =>
      obtain ⟨vs, q, l, r⟩ := c
      rw [e] at q; cases q
      exact .lst upd_same l (r.mono ff)
    | dict ds =>
      obtain ⟨vs, q, l, r⟩ := c
      rw [e] at q; cases q
      exact .dct upd_same l (r.mono ff)
    | _ => exact c.elim
theorem SimF.e (h : SimF C th t) : SimE C th t := fun H0 F H σ ρ Qd Q g S ht k => h H0 F H σ ρ Qd Q g S ht fun a F' H' d x o q => by
  obtain ⟨F'', x', r⟩ := freeze x o
  exact k _ F'' H' d x' r q
end
end VL

set_option Elab.async false
set_option linter.all false
set_option maxRecDepth 100000
set_option maxHeartbeats 4000000
/-! VLTup: new tuples, held with their objects (so that a method may be looked up at them). -/
namespace VL
open PySem PySem.Spec PyProof.Rows L2
/-- the object of a new tuple -/
abbrev tob (ws : List Value) : Obj := { cls := .type "tuple", data := .seq ws.toArray }
/-- a new tuple, with an object without a dict -/
def NewT (H : Hp) (Q : VK) (xs : List V) : Prop := ∀ (p : Addr) (o : Obj), H p = none → o.dict = none → Q (.ref p) (upd H p (.frz o (.tup xs)))
section
variable {X : Cx} {pins : List (Addr × Obj)} {σ : St} {H : Hp} {s : Shared}
theorem lay_tup (I : Inv X pins σ H s) {ws : List Value} {xs : List V} (rv : Vals xs ws) (z : xs.length ≤ sizeLine) (t' : Nat) :
    Inv X pins σ (upd H s.heap.objs.size (.frz (tob ws) (.tup xs))) { s with heap := s.heap.push (tob ws), toks := t' } :=
  I.laid (fun b u e => Heap.get?_push_of_some _ e) (Nat.le_refl _) ⟨Heap.get?_push_size _ rfl, z, ws, rv, ⟨tob ws, Heap.get?_push_size _ rfl, rfl, _, rfl⟩⟩
theorem new_tup (I : Inv X pins σ H s) {ws : List Value} {xs : List V} (rv : Vals xs ws) (z : xs.length ≤ sizeLine) (t' : Nat) {Q : VK} (q : NewT H Q xs) :
    EP X pins σ Q (.ref s.heap.objs.size) { s with heap := s.heap.push (tob ws), toks := t' } :=
  ⟨.ref s.heap.objs.size, _, lay_tup I rv z t', rfl, q _ _ (I.hok.fresh (Nat.le_refl _)) rfl⟩

/-! ### a display -/
def tTupN (t : TA) : TE := fun σ H Q => t σ H fun xs H1 => xs.length ≤ sizeLine ∧ NewT H1 Q xs
theorem pe_tupN {es : List Expr} {x1 : Nat} {pos : Pos} {t : TA} (h : PA X es t) : PE X (.Tuple es x1 pos) (tTupN t) :=
  ⟨fun pins s σ H Q I hq => wpAny_Tuple_spliced (thn (h.run pos pins s σ H _ I hq) fun ws s1 ⟨xs, H1, I1, rv, z, q⟩ => ⟨by rw [← rv.length]; exact z, new_tup I1 rv z s1.toks q⟩)⟩

/-! ### tuple(x) -/
def rTupleOf (K : PySem.W.Frag) : List V → Hp → VK → Prop := fun xs H Q => ∃ p ys, xs = [.ref p] ∧ ((SqL K H p ys ∧ NewT H Q ys) ∨ (SqT K H p ys ∧ Q (.ref p) H))
theorem call_tupleN : CallR X (.type "tuple") (rTupleOf X.K) := by
  rintro pins s σ H xs us Q I rs ⟨p, ys, rfl, hq⟩
  obtain ⟨u, rfl, ru⟩ := vals1 rs
  obtain rfl : u = Value.ref p := ru
  rcases hq with ⟨hs, q⟩ | ⟨hs, q⟩
  · obtain ⟨ws, rv, pl, hz⟩ := I.list hs
    refine call_tuple_list pl.isList (fun hp kp => ?_) (by rw [List.size_toArray, ← rv.length]; exact hz)
    exact new_tup (s := { s with heap := hp }) (I.kept (t' := s.toks) kp) rv hz s.toks q
  · obtain ⟨ws, rv, pl, hz⟩ := I.tuple hs
    exact call_tuple_same pl ⟨.ref p, H, I, rfl, q⟩

/-! ### t + u -/
def rCatN (K : PySem.W.Frag) : R2 := fun x y H Q => ∃ a b xs ys, x = .ref a ∧ y = .ref b ∧ (SqT K H a xs ∧ SqT K H b ys) ∧ xs.length + ys.length ≤ sizeLine ∧
  (xs = [] → Q (.ref b) H) ∧ (xs ≠ [] → ys = [] → Q (.ref a) H) ∧ (xs ≠ [] → ys ≠ [] → NewT H Q (xs ++ ys))
theorem op_catN : OpR X (binaryOp .Add) (rCatN X.K) := by
  rintro pins s σ H x y v u Q I rx ry ⟨a, b, xs, ys, rfl, rfl, ⟨ha, hb⟩, hz, q0, q1, q2⟩
  by_cases hx : xs = []
  · exact op_catA pins s σ H _ _ v u Q I rx ry ⟨a, b, xs, ys, rfl, rfl, ha, hb, hz, q0, fun n => absurd hx n, fun n => absurd hx n⟩
  by_cases hy : ys = []
  · exact op_catA pins s σ H _ _ v u Q I rx ry ⟨a, b, xs, ys, rfl, rfl, ha, hb, hz, q0, q1, fun _ n => absurd hy n⟩
  obtain rfl : v = Value.ref a := rx
  obtain rfl : u = Value.ref b := ry
  obtain ⟨ws, rv, p1, _⟩ := I.tuple ha
  obtain ⟨ws2, rv2, p2, _⟩ := I.tuple hb
  refine HT.cat_tup p1 p2 (fun z => hx (rv.nil_iff.mp z)) (fun z => absurd (rv2.nil_iff.mp z) hy) (fun z => ?_) (by rw [← rv.length, ← rv2.length]; exact hz)
  exact new_tup I (rv.append rv2) (by rw [List.length_append]; exact hz) s.toks (q2 hx hy)

/-! ### t[lo:hi] -/
def rSlN (K : PySem.W.Frag) : V → Option Int → Option Int → Hp → VK → Prop := fun x lo hi H Q => ∃ a xs, x = .ref a ∧ SqT K H a xs ∧
  (HT.sIx xs.length 0 lo = 0 ∧ HT.sIx xs.length xs.length hi = xs.length → Q (.ref a) H) ∧ (¬ (HT.sIx xs.length 0 lo = 0 ∧ HT.sIx xs.length xs.length hi = xs.length) → NewT H Q (cutV xs lo hi))
theorem sl_tupN : SlR X (rSlN X.K) := by
  rintro pins s σ H x v vl vu lo hi sl Q I rx hs pl pu ⟨a, xs, rfl, hx, q1, q2⟩
  by_cases hw : HT.sIx xs.length 0 lo = 0 ∧ HT.sIx xs.length xs.length hi = xs.length
  · exact sl_tupA pins s σ H _ v vl vu lo hi sl Q I rx hs pl pu ⟨a, xs, rfl, hx, q1, fun n => absurd hw n⟩
  obtain rfl : v = Value.ref a := rx
  obtain ⟨ws, rv, ht, hz⟩ := I.tuple hx
  have hn : ws.toArray.size = xs.length := List.size_toArray.trans rv.length.symm
  refine ⟨"tuple", _, PyProof.Rows.slot_tuple_getitem.lookup, ht.typeIs, ?_⟩
  refine HT.getItem_tuple_cut ht hs pl pu (by rwa [hn]) ?_ (by rwa [hn])
  rw [hn]
  exact new_tup I ((rv.drop (HT.sIx xs.length 0 lo)).take _) (Nat.le_trans (cutV_length xs lo hi) hz) s.toks (q2 hw)

/-! ### t * n -/
def rRepN (K : PySem.W.Frag) : R2 := fun x y H Q => ∃ l k xs, x = .ref l ∧ y = .int k ∧ SqT K H l xs ∧ (xs ≠ [] ∧ 2 ≤ k ∧ k ≤ 1000 ∧ xs.length ≤ 1000) ∧ NewT H Q (List.replicate k.toNat xs).flatten
theorem op_repN : OpR X (binaryOp .Mult) (rRepN X.K) := by
  rintro pins s σ H x y v u Q I rx ry ⟨l, k, xs, rfl, rfl, hT, ⟨hne, h1, h2, hz⟩, q⟩
  obtain rfl : v = Value.ref l := rx
  obtain ⟨t, rfl⟩ := ry
  obtain ⟨ws, rv, ⟨⟨cls, dd, data, sl⟩, ho, hc, n, hd⟩, hs⟩ := I.tuple hT
  simp only at hc hd
  subst hc hd
  have hle : ws.length = xs.length := rv.length.symm
  have hi : ws.toArray.isEmpty = false := by
    cases ws with
    | nil => exact absurd (List.eq_nil_of_length_eq_zero hle.symm) hne
    | cons a b => rfl
  have hsz : ws.toArray.size = xs.length := List.size_toArray.trans hle
  have big : k.toNat * xs.length ≤ 1000 * 1000 := Nat.mul_le_mul (by omega) hz
  have hm : ((ws.toArray.size : Nat) : Int) * k ≤ 1000000 := by
    have := Int.mul_le_mul_of_nonneg_right (show ((xs.length : Nat) : Int) ≤ 1000 by omega) (show (0 : Int) ≤ k by omega)
    rw [hsz]; omega
  have z1 : (List.replicate k.toNat ws).flatten.length ≤ sizeLine := by
    rw [PyProof.Rows.lm_len_rep_flat, hle, sizeLine_eq]; omega
  have z2 : (List.replicate k.toNat xs).flatten.length ≤ sizeLine := by
    rw [PyProof.Rows.lm_len_rep_flat, sizeLine_eq]; omega
  have b0 : (decide (k < -(2 ^ 63)) || decide (k ≥ 2 ^ 63)) = false := by
    rw [decide_eq_false (show ¬ k < -(2 ^ 63) by omega), decide_eq_false (show ¬ k ≥ 2 ^ 63 by omega)] <;> rfl
  have b1 : (ws.toArray.isEmpty || k == 1) = false := by
    rw [hi, Bool.false_or]; exact beq_eq_false_iff_ne.mpr (show k ≠ 1 by omega)
  have b2 : (decide (k ≤ 0) || ws.toArray.isEmpty) = false := by
    rw [hi, Bool.or_false]; exact decide_eq_false (show ¬ k ≤ 0 by omega)
  have b4 : Builtin.Tuple.tupleTooMany (((ws.toArray.size : Nat) : Int) * k) = false := by
    unfold Builtin.Tuple.tupleTooMany
    rw [sizeLine_eq]; exact decide_eq_false (show ¬ _ by omega)
  refine wpAny_binaryOp_repeat_ref (T := "tuple") (U := "int") (by decide) ⟨_, ho, rfl⟩ (fun s' => typeIs_int s' k t) noFill_tuple_mul F.fills_int_mul F.slot_int_rmul repeat_tuple F.slot_int_index.lookup
    (call_meets F.slot_int_rmul (typeIs_int s k t) F.entry_int_rmul (F.args_int_rmul_2 _ _) (int_rmul_tuple k t l ws.toArray n dd sl)
      ⟨ho, rfl, ⟨_, ho, rfl⟩, call_meets F.slot_tuple_mul ⟨_, ho, rfl⟩ F.entry_tuple_mul (F.args_tuple_mul_2 _ _) (tuple_mulW l ws.toArray n dd sl k t b0 b1 b2 (by omega) b4 (by rw [size_rep, List.size_toArray]; exact z1)) ⟨ho, ?_⟩⟩)
  rw [size_rep]
  exact new_tup I (rv.rep k.toNat) z2 s.toks q

/-! ### tuple(range(..)) -/
def tTupRgN (te : St → Hp → (Int → Int → Hp → Prop) → Prop) : TE := fun σ H Q => te σ H fun a b H1 => RgOk a b ∧ NewT H1 Q (rgV a b)
theorem pe_tupRgN {e : Expr} {te : St → Hp → (Int → Int → Hp → Prop) → Prop} {p pos : Pos} (hc : X.calm = true) (hg : Gl X "tuple") (hm : X.mg "tuple" = none) (he : PRg X e te) (na : starEach [e] X.env = (false, eval e X.env) :: starEach [] X.env := by rfl) :
    PE X (.Call (.Name "tuple" p) [e] [] pos) (tTupRgN te) := by
  refine ⟨fun pins s σ H Q I h => ?_⟩
  refine Call_ (ld_blt I hg hm boot_tuple (PyProof.Rows.callWith_type1 (args_cons (thn (he pins s σ H _ I h) fun x s1 ⟨r, a, b, t, u, v, H1, ex, hr, I1, ok, q⟩ => args_nil ?_) na) na))
  subst ex
  obtain ⟨b1, b2, b3, b4, b5⟩ := ok
  refine call_tuple_range (n := (b - a).toNat) (I1.ok.hd hc) hr (small_one b1 b2 b3 b4) (rangeSize_nat a b) b5 fun hp tk acc hk hi => ?_
  have hl : (rgV a b).length ≤ sizeLine := by rw [rgV_length, sizeLine_eq]; omega
  have := new_tup (s := { s1 with heap := hp, toks := tk }) (I1.kept hk) (ws := acc.toList) (vals_rg hi) hl tk q
  unfold tob at this
  rw [Array.toArray_toList] at this
  exact this

/-! ### a method of a value whose class is known -/
def tyX (K : PySem.W.Frag) (T : String) (x : V) (H : Hp) : Prop := tyV K T x H ∨ (T = "tuple" ∧ ∃ p ys o, x = .ref p ∧ H p = some (.frz o (.tup ys)) ∧ o.dict = none)
def tBX (K : PySem.W.Frag) (T : String) (r : V → List V → Hp → VK → Prop) (to : TE) (ta : TA) : TE := fun σ H Q => to σ H fun x H1 => tyX K T x H1 ∧ ta σ H1 fun xs H2 => r x xs H2 Q
theorem tyX_is {T : String} {x : V} {v : Value} (I : Inv X pins σ H s) (rx : RelV x v) (ty : tyX X.K T x H) : s.TypeIs v T ∧ ∀ a, v = .ref a → ∃ ob, s.heap.get? a = some ob ∧ ob.dict = none := by
  rcases ty with ty | ⟨rfl, p, ys, o, rfl, e, dn⟩
  · exact tyV_is I rx ty
  · obtain rfl : v = Value.ref p := rx
    obtain ⟨ws, _, pl, _⟩ := I.tuple (.inl (.inr ⟨o, e⟩) : SqT X.K H p ys)
    refine ⟨pl.typeIs, fun a z => ?_⟩
    cases z
    exact ⟨o, (I.hok p _ e).1, dn⟩
theorem pe_bmX {T id : String} {name : Str} {r : V → List V → Hp → VK → Prop} {o e : Expr} {es : List Expr} {to : TE} {t : TA} {apos cpos : Pos} (pa : PlainAttrs T) (slot : _root_.PySem.Slot T name id) (hty : typeOf (.builtin id) = pure (.type "method_descriptor")) (hm : MtR X id r) (ho : PE X o to) (ha : PA X (e :: es) t)
    (hb : attributeBase o name X.env (eval o X.env) = eval o X.env := by rfl)
    (hf : ((backTo cpos (starEach (e :: es) X.env)).all (fun x => !x.1) && (backToKw cpos (keywordEach [] X.env)).all (fun x => x.1.isSome) && decide ((e :: es).length + ([] : List Keyword).length + (if ([] : List Keyword).isEmpty then 0 else 1) < 30)) = true := by rfl)
    (hl : (apos.endLine == cpos.line) = true := by rfl) (hs : starEach (e :: es) X.env = (false, eval e X.env) :: starEach es X.env := by rfl) (hp : (backTo cpos (starEach es X.env)).any (·.1) = false := by rfl) :
    PE X (.Call (.Attribute o name apos) (e :: es) [] cpos) (tBX X.K T r to t) := by
  refine ⟨fun pins s σ H Q I h => wpAny_Call_method_late hb hf hl rfl (thn (ho.run pins s σ H _ I h) fun v s1 ⟨x, H1, I1, rx, ty, q1⟩ => ?_)⟩
  obtain ⟨t1, t2⟩ := tyX_is I1 rx ty
  refine ⟨T, id, pa, slot, hty, t1, t2, ?_⟩
  have run := ha.run cpos pins s1 σ H1 _ I1 q1
  rw [hs] at run ⊢
  refine Calls.callWith_builtin (by show (false || (backTo cpos (starEach es X.env)).any (·.1)) = false; rw [hp] <;> rfl) (Calls.evalArgs_plain ?_)
  exact thn run fun us s2 ⟨vs, H2, I2, rs, q2⟩ => hm pins s2 σ H2 x vs v us Q I2 rx rs q2
def tBX0 (K : PySem.W.Frag) (T : String) (r : V → List V → Hp → VK → Prop) (to : TE) : TE := fun σ H Q => to σ H fun x H1 => tyX K T x H1 ∧ r x [] H1 Q
theorem pe_bmX0 {T id : String} {name : Str} {r : V → List V → Hp → VK → Prop} {o : Expr} {to : TE} {apos cpos : Pos} (pa : PlainAttrs T) (slot : _root_.PySem.Slot T name id) (hty : typeOf (.builtin id) = pure (.type "method_descriptor")) (hm : MtR X id r) (ho : PE X o to)
    (hb : attributeBase o name X.env (eval o X.env) = eval o X.env := by rfl) (hl : (apos.endLine == cpos.line) = true := by rfl) : PE X (.Call (.Attribute o name apos) [] [] cpos) (tBX0 X.K T r to) := by
  refine ⟨fun pins s σ H Q I h => wpAny_Call_method0_late hb hl (thn (ho.run pins s σ H _ I h) fun v s1 ⟨x, H1, I1, rx, ty, q1⟩ => ?_)⟩
  obtain ⟨t1, t2⟩ := tyX_is I1 rx ty
  exact ⟨T, id, pa, slot, hty, t1, t2, Calls.callWith_builtin rfl (PySem.evalArgs_none (hm pins s1 σ H1 x [] v [] Q I1 rx .nil q1))⟩
end
end VL

set_option Elab.async false
set_option linter.all false
set_option maxRecDepth 100000
set_option maxHeartbeats 4000000
/-! VLOps: the layer's rules by values, over data. -/
namespace VL
open PySem PySem.Spec L2

section
variable {X : Cx} {pins : List (Addr × Obj)} {σ : St} {H : Hp} {s : Shared}
mutual
theorem R.reads (I : Inv X pins σ H s) : ∀ (d : PyData) (v : V) (u : Value), d.plain = true → R X.K H v d → RelV v u → ∃ as, Reads s.heap u d as
  | .none, _, _, _, h, r => by
    cases h
    cases r
    exact ⟨_, Reads.none⟩
  | .bool b, _, _, _, h, r => by
    cases h
    cases r
    exact ⟨_, Reads.bool b⟩
  | .int i, _, _, _, h, r => by
    cases h
    obtain ⟨t, rfl⟩ := r
    exact ⟨_, Reads.int i t⟩
  | .str x, _, _, _, h, r => by
    cases h
    obtain ⟨t, rfl⟩ := r
    exact ⟨_, Reads.str x t⟩
  | .list ds, _, _, hp, h, r => by
    cases h with
    | lst hs _ ha =>
      cases r
      obtain ⟨its, rv, ⟨o, n, ho, hc, _, hd⟩, _⟩ := I.list (SqL.of hs)
      obtain ⟨as, hr⟩ := RL.reads I ds _ its (by simpa [PyData.plain] using hp) ha rv
      exact ⟨_, Reads.list ho hc hd hr⟩
  | .tuple ds, _, _, hp, h, r => by
    cases h with
    | tup hs _ ha =>
      cases r
      obtain ⟨its, rv, ⟨o, ho, hc, n, hd⟩, _⟩ := I.tuple hs.t
      obtain ⟨as, hr⟩ := RL.reads I ds _ its (by simpa [PyData.plain] using hp) ha rv
      exact ⟨_, Reads.tuple ho hc hd hr⟩
  | .dict _, _, _, hp, _, _ => by simp [PyData.plain] at hp
theorem RL.reads (I : Inv X pins σ H s) : ∀ (ds : List PyData) (vs : List V) (us : List Value), PyData.plainAll ds = true → RL X.K H vs ds → Vals vs us → ∃ as, ReadsAll s.heap us ds as
  | [], _, _, _, h, r => by
    cases h
    cases r
    exact ⟨_, ReadsAll.nil⟩
  | d :: ds, _, _, hp, h, r => by
    have hp' : d.plain = true ∧ PyData.plainAll ds = true := by simpa [PyData.plainAll] using hp
    cases h with
    | cons h1 h2 =>
      cases r with
      | cons r1 r2 =>
        obtain ⟨as, q1⟩ := R.reads I d _ _ hp'.1 h1 r1
        obtain ⟨bs, q2⟩ := RL.reads I ds _ _ hp'.2 h2 r2
        exact ⟨_, ReadsAll.cons q1 q2⟩
end
end
/-- data that may be compared: no dict within, not too deep -/
def okD (d : PyData) : Prop := d.plain = true ∧ d.depth ≤ 60
section
variable {X : Cx}
def rEqR (K : PySem.W.Frag) : R2 := fun x y H Q => ∃ d e, R K H x d ∧ R K H y e ∧ okD d ∧ okD e ∧ Q (.bl (PyData.eqv d e)) H
def rNeR (K : PySem.W.Frag) : R2 := fun x y H Q => ∃ d e, R K H x d ∧ R K H y e ∧ okD d ∧ okD e ∧ Q (.bl (!PyData.eqv d e)) H
theorem op_eqR (hu : X.A.units + 200 < cLine) : OpR X (compareOp .Eq) (rEqR X.K) := by
  intro pins s σ H x y v u Q I rx ry h
  obtain ⟨d, e, hd, he, sd, se, q⟩ := h
  obtain ⟨as, r1⟩ := R.reads I d x v sd.1 hd rx
  obtain ⟨bs, r2⟩ := R.reads I e y u se.1 he ry
  have := sd.2
  exact SeqAt.eq_plain r1 r2 sd.1 se.1 (by omega) ⟨.bl _, H, I, rfl, q⟩
theorem op_neR (hu : X.A.units + 200 < cLine) : OpR X (compareOp .NotEq) (rNeR X.K) := by
  intro pins s σ H x y v u Q I rx ry h
  obtain ⟨d, e, hd, he, sd, se, q⟩ := h
  obtain ⟨as, r1⟩ := R.reads I d x v sd.1 hd rx
  obtain ⟨bs, r2⟩ := R.reads I e y u se.1 he ry
  have := sd.2
  exact SeqAt.ne_plain r1 r2 sd.1 se.1 (by omega) ⟨.bl _, H, I, rfl, q⟩
end
end VL

set_option Elab.async false
set_option linter.all false
set_option maxRecDepth 100000
set_option maxHeartbeats 4000000
/-! VLSim: the layer's readings simulated, construct by construct. -/
namespace VL
open PySem PySem.Spec L2

section
variable {C : Cfg} {th tha thb thc : TE} {t ta tb tc : DE}
/-! ### names, constants -/
def dVar (i : Nat) : DE := fun ρ Q => match ρ[i]? with
  | some (.sh d) => Q d
  | _ => False
@[simp] theorem dVar_sh {i : Nat} {ρ : Vn} {d : PyData} {Q : PyData → Prop} (h : ρ[i]? = some (.sh d)) : dVar i ρ Q = Q d := by unfold dVar; rw [h]
theorem sim_var {i : Nat} : SimE C (tVar i) (dVar i) := by
  intro H0 F H σ ρ Qd Q g S ht k
  unfold dVar at ht
  split at ht
  · rename_i d e
    obtain ⟨o, e2, v, e3, r⟩ := S.at e
    subst e3
    exact ⟨v, e2, k v F H d (.refl g) r ht⟩
  · exact ht.elim
def dVarP (i : Nat) : DE := fun ρ Q => match ρ[i]? with
  | some (.sh d) => Q d
  | some (.ow d) => Q d
  | _ => False
@[simp] theorem dVarP_sh {i : Nat} {ρ : Vn} {d : PyData} {Q : PyData → Prop} (h : ρ[i]? = some (.sh d)) : dVarP i ρ Q = Q d := by unfold dVarP; rw [h]
@[simp] theorem dVarP_ow {i : Nat} {ρ : Vn} {d : PyData} {Q : PyData → Prop} (h : ρ[i]? = some (.ow d)) : dVarP i ρ Q = Q d := by unfold dVarP; rw [h]
theorem sim_varP {i : Nat} : SimP C (tVar i) (dVarP i) := by
  intro H0 F H σ ρ Qd Q g S ht k
  unfold dVarP at ht
  split at ht
  · rename_i d e
    obtain ⟨o, e2, v, e3, r⟩ := S.at e
    subst e3
    exact ⟨v, e2, k v F H d (.refl g) (.inl r) ht⟩
  · rename_i d e
    obtain ⟨o, e2, a, e3, r⟩ := S.at e
    subst e3
    exact ⟨.ref a, e2, k _ F H d (.refl g) (.inr ⟨a, rfl, r.ns, r.ct⟩) ht⟩
  · exact ht.elim
@[simp] def dC (d : PyData) : DE := fun _ Q => Q d
theorem sim_c {v : V} {d : PyData} (h : ∀ F, R C.K F v d) : SimE C (tC v) (dC d) := fun H0 F H σ ρ Qd Q g S ht k => k v F H d (.refl g) (h F) ht
theorem sim_int {i : Int} : SimE C (tC (.int i)) (dC (.int i)) := sim_c fun _ => .int i
theorem sim_bl {i : Bool} : SimE C (tC (.bl i)) (dC (.bool i)) := sim_c fun _ => .bl i
theorem sim_non : SimE C (tC .non) (dC .none) := sim_c fun _ => .non
theorem sim_str {x : Str} (h : x.length ≤ sizeLine) : SimE C (tC (.str x)) (dC (.str x)) := sim_c fun _ => .str x h

/-! ### operators -/
abbrev D1 := PyData → (PyData → Prop) → Prop
abbrev D2 := PyData → PyData → (PyData → Prop) → Prop
def SimOp (C : Cfg) (r : R2) (f : D2) : Prop := ∀ (F H : Hp) (x y : V) (d e : PyData) (Qd : PyData → Prop) (Q : VK), Good C F H → RP C F H x d → RP C F H y e → f d e Qd →
  (∀ v F' H' z, Ext C F H F' H' → R C.K F' v z → Qd z → Q v H') → r x y H Q
def SimU (C : Cfg) (r : V → Hp → VK → Prop) (f : D1) : Prop := ∀ (F H : Hp) (x : V) (d : PyData) (Qd : PyData → Prop) (Q : VK), Good C F H → RP C F H x d → f d Qd →
  (∀ v F' H' z, Ext C F H F' H' → R C.K F' v z → Qd z → Q v H') → r x H Q
@[simp] def dOp (f : D2) (ta tb : DE) : DE := fun ρ Q => ta ρ fun x => tb ρ fun y => f x y Q
theorem sim_op {r : R2} {f : D2} (ho : SimOp C r f) (ha : SimP C tha ta) (hb : SimP C thb tb) : SimE C (tOp r tha thb) (dOp f ta tb) := by
  intro H0 F H σ ρ Qd Q g S ht k
  refine ha H0 F H σ ρ _ _ g S ht fun v F1 H1 d x1 r1 q1 => ?_
  refine hb H0 F1 H1 σ ρ _ _ x1.g (S.ext x1) q1 fun w F2 H2 e x2 r2 q2 => ?_
  exact ho F2 H2 v w d e Qd Q x2.g (r1.ext x2) r2 q2 fun u F3 H3 z x3 r3 q3 => k u F3 H3 z (x1.trans (x2.trans x3)) r3 q3
@[simp] def dUn (f : D1) (ta : DE) : DE := fun ρ Q => ta ρ fun x => f x Q
theorem sim_un {r : V → Hp → VK → Prop} {f : D1} (ho : SimU C r f) (ha : SimP C tha ta) : SimE C (tUn r tha) (dUn f ta) := by
  intro H0 F H σ ρ Qd Q g S ht k
  refine ha H0 F H σ ρ _ _ g S ht fun v F1 H1 d x1 r1 q1 => ?_
  exact ho F1 H1 v d Qd Q x1.g r1 q1 fun u F3 H3 z x3 r3 q3 => k u F3 H3 z (x1.trans x3) r3 q3
/-- a chain a r b r' c -/
@[simp] def dChain (f f' : D2) (ta tb tc : DE) : DE := fun ρ Q => ta ρ fun x => tb ρ fun y => f x y fun z => match z with
  | .bool b => if b = true then tc ρ fun w => f' y w Q else Q (.bool false)
  | _ => False
theorem sim_chain {r r' : R2} {f f' : D2} (ho : SimOp C r f) (ho' : SimOp C r' f') (ha : SimP C tha ta) (hb : SimP C thb tb) (hc : SimP C thc tc) : SimE C (tChain r r' tha thb thc) (dChain f f' ta tb tc) := by
  intro H0 F H σ ρ Qd Q g S ht k
  refine ha H0 F H σ ρ _ _ g S ht fun v F1 H1 d x1 r1 q1 => ?_
  refine hb H0 F1 H1 σ ρ _ _ x1.g (S.ext x1) q1 fun w F2 H2 e x2 r2 q2 => ?_
  refine ho F2 H2 v w d e _ _ x2.g (r1.ext x2) r2 q2 fun u F3 H3 z x3 r3 q3 => ?_
  cases z with
  | bool b =>
    cases r3
    refine ⟨b, rfl, ?_⟩
    cases b with
    | true =>
      refine hc H0 F3 H3 σ ρ _ _ x3.g (S.ext (x1.trans (x2.trans x3))) q3 fun w' F4 H4 e' x4 r4 q4 => ?_
      exact ho' F4 H4 w w' e e' Qd Q x4.g (r2.ext (x3.trans x4)) r4 q4 fun u F5 H5 z x5 r5 q5 => k u F5 H5 z (x1.trans (x2.trans (x3.trans (x4.trans x5)))) r5 q5
    | false => exact k _ F3 H3 _ (x1.trans (x2.trans x3)) (.bl false) q3
  | _ => exact q3.elim

/-! ### tests -/
variable {tth tthb : TT} {u w : DT}
@[simp] def dTst (t : DE) : DT := fun ρ Q => t ρ fun d => match d with
  | .bool b => Q b
  | _ => False
theorem sim_tst (h : SimP C th t) : SimT C (tTest th) (dTst t) := by
  intro H0 F H σ ρ Qd Q g S ht k
  refine h H0 F H σ ρ _ _ g S ht fun v F1 H1 d x1 r1 q1 => ?_
  cases d with
  | bool b =>
    rcases r1 with r1 | ⟨a, e, n, c⟩
    · cases r1
      exact ⟨b, rfl, k b F1 H1 x1 q1⟩
    · exact c.elim
  | _ => exact q1.elim
/-- truth of data without a dict's -/
def truQ (d : PyData) (Q : Bool → Prop) : Prop := Q d.truthy
theorem tru_of {F H : Hp} {v : V} {d : PyData} (g : Good C F H) (r : RP C F H v d) : TruV C.K v H d.truthy := by
  have r' := r.all g
  cases r' with
  | non => rfl
  | bl b => rfl
  | int i => rfl
  | str x l => exact ⟨l, rfl⟩
  | lst e l q =>
    refine .inl ⟨_, SqL.of e, ?_⟩
    clear r l e
    cases q <;> rfl
  | tup e l q =>
    refine .inr (.inl ⟨_, e.t, ?_⟩)
    clear r l e
    cases q <;> rfl
  | dct e l q =>
    refine .inr (.inr ⟨_, e, ?_⟩)
    clear r l e
    cases q <;> rfl
@[simp] def dTru (t : DE) : DT := fun ρ Q => t ρ fun d => Q d.truthy
theorem sim_tru (h : SimP C th t) : SimT C (fun σ H Q => th σ H fun x H' => ∃ k, TruV C.K x H' k ∧ Q k H') (dTru t) := by
  intro H0 F H σ ρ Qd Q g S ht k
  exact h H0 F H σ ρ _ _ g S ht fun v F1 H1 d x1 r1 q1 => ⟨_, tru_of x1.g r1, k _ F1 H1 x1 q1⟩
@[simp] def dAnd (u w : DT) : DT := fun ρ Q => u ρ fun b => if b = true then w ρ Q else Q false
@[simp] def dOr (u w : DT) : DT := fun ρ Q => u ρ fun b => if b = true then Q true else w ρ Q
@[simp] def dNot (u : DT) : DT := fun ρ Q => u ρ fun b => Q (!b)
theorem sim_and (h : SimT C tth u) (h' : SimT C tthb w) : SimT C (tAnd tth tthb) (dAnd u w) := by
  intro H0 F H σ ρ Qd Q g S ht k
  refine h H0 F H σ ρ _ _ g S ht fun b F1 H1 x1 q1 => ?_
  cases b with
  | true => exact h' H0 F1 H1 σ ρ _ _ x1.g (S.ext x1) q1 fun b F2 H2 x2 q2 => k b F2 H2 (x1.trans x2) q2
  | false => exact k _ F1 H1 x1 q1
theorem sim_or (h : SimT C tth u) (h' : SimT C tthb w) : SimT C (tOr tth tthb) (dOr u w) := by
  intro H0 F H σ ρ Qd Q g S ht k
  refine h H0 F H σ ρ _ _ g S ht fun b F1 H1 x1 q1 => ?_
  cases b with
  | false => exact h' H0 F1 H1 σ ρ _ _ x1.g (S.ext x1) q1 fun b F2 H2 x2 q2 => k b F2 H2 (x1.trans x2) q2
  | true => exact k _ F1 H1 x1 q1
theorem sim_not (h : SimT C tth u) : SimT C (tNot tth) (dNot u) := fun H0 F H σ ρ Qd Q g S ht k => h H0 F H σ ρ _ _ g S ht fun b F1 H1 x1 q1 => k _ F1 H1 x1 q1
/-- and, or, not as values, by truth -/
@[simp] def dAndT (ta tb : DE) : DE := fun ρ Q => ta ρ fun x => if x.truthy = true then tb ρ Q else Q x
@[simp] def dOrT (ta tb : DE) : DE := fun ρ Q => ta ρ fun x => if x.truthy = true then Q x else tb ρ Q
@[simp] def dNotT (ta : DE) : DE := fun ρ Q => ta ρ fun x => Q (.bool (!x.truthy))
theorem sim_andT (ha : SimE C tha ta) (hb : SimE C thb tb) : SimE C (tAndT C.K tha thb) (dAndT ta tb) := by
  intro H0 F H σ ρ Qd Q g S ht k
  refine ha H0 F H σ ρ _ _ g S ht fun v F1 H1 d x1 r1 q1 => ⟨_, tru_of x1.g (.inl r1), ?_⟩
  cases hd : d.truthy with
  | true =>
    rw [hd] at q1
    exact hb H0 F1 H1 σ ρ _ _ x1.g (S.ext x1) q1 fun w F2 H2 e x2 r2 q2 => k w F2 H2 e (x1.trans x2) r2 q2
  | false =>
    rw [hd] at q1
    exact k v F1 H1 d x1 r1 q1
theorem sim_orT (ha : SimE C tha ta) (hb : SimE C thb tb) : SimE C (tOrT C.K tha thb) (dOrT ta tb) := by
  intro H0 F H σ ρ Qd Q g S ht k
  refine ha H0 F H σ ρ _ _ g S ht fun v F1 H1 d x1 r1 q1 => ⟨_, tru_of x1.g (.inl r1), ?_⟩
  cases hd : d.truthy with
  | false =>
    rw [hd] at q1
    exact hb H0 F1 H1 σ ρ _ _ x1.g (S.ext x1) q1 fun w F2 H2 e x2 r2 q2 => k w F2 H2 e (x1.trans x2) r2 q2
  | true =>
    rw [hd] at q1
    exact k v F1 H1 d x1 r1 q1
theorem sim_notT (ha : SimP C tha ta) : SimE C (tNotT C.K tha) (dNotT ta) := by
  intro H0 F H σ ρ Qd Q g S ht k
  exact ha H0 F H σ ρ _ _ g S ht fun v F1 H1 d x1 r1 q1 => ⟨_, tru_of x1.g r1, k _ F1 H1 _ x1 (.bl _) q1⟩
@[simp] def dIfE (u : DT) (ta tb : DE) : DE := fun ρ Q => u ρ fun b => if b = true then ta ρ Q else tb ρ Q
theorem sim_ifE (hc : SimT C tth u) (ha : SimE C tha ta) (hb : SimE C thb tb) : SimE C (tIf tth tha thb) (dIfE u ta tb) := by
  intro H0 F H σ ρ Qd Q g S ht k
  refine hc H0 F H σ ρ _ _ g S ht fun b F1 H1 x1 q1 => ?_
  cases b with
  | true => exact ha H0 F1 H1 σ ρ _ _ x1.g (S.ext x1) q1 fun v F2 H2 d x2 r2 q2 => k v F2 H2 d (x1.trans x2) r2 q2
  | false => exact hb H0 F1 H1 σ ρ _ _ x1.g (S.ext x1) q1 fun v F2 H2 d x2 r2 q2 => k v F2 H2 d (x1.trans x2) r2 q2
theorem simP_ifE (hc : SimT C tth u) (ha : SimP C tha ta) (hb : SimP C thb tb) : SimP C (tIf tth tha thb) (dIfE u ta tb) := by
  intro H0 F H σ ρ Qd Q g S ht k
  refine hc H0 F H σ ρ _ _ g S ht fun b F1 H1 x1 q1 => ?_
  cases b with
  | true => exact ha H0 F1 H1 σ ρ _ _ x1.g (S.ext x1) q1 fun v F2 H2 d x2 r2 q2 => k v F2 H2 d (x1.trans x2) r2 q2
  | false => exact hb H0 F1 H1 σ ρ _ _ x1.g (S.ext x1) q1 fun v F2 H2 d x2 r2 q2 => k v F2 H2 d (x1.trans x2) r2 q2

/-! ### lists of expressions -/
abbrev DL := Vn → (List PyData → Prop) → Prop
variable {tA tB : TA} {l m : DL}
inductive RPs (C : Cfg) (F H : Hp) : List V → List PyData → Prop
  | nil : RPs C F H [] []
  | cons {v : V} {vs : List V} {d : PyData} {ds : List PyData} : RP C F H v d → RPs C F H vs ds → RPs C F H (v :: vs) (d :: ds)
theorem RPs.ext {F H F' H' : Hp} (x : Ext C F H F' H') : ∀ {vs : List V} {ds : List PyData}, RPs C F H vs ds → RPs C F' H' vs ds
  | _, _, .nil => .nil
  | _, _, .cons a b => .cons (a.ext x) (b.ext x)
def SimL (C : Cfg) (th : TA) (t : DL) : Prop :=
  ∀ (H0 F H : Hp) (σ : St) (ρ : Vn) (Qd : List PyData → Prop) (Q : List V → Hp → Prop), Good C F H → Slots C H0 F H σ ρ → t ρ Qd →
    (∀ vs F' H' ds, Ext C F H F' H' → RL C.K F' vs ds → Qd ds → Q vs H') → th σ H Q
def SimLP (C : Cfg) (th : TA) (t : DL) : Prop :=
  ∀ (H0 F H : Hp) (σ : St) (ρ : Vn) (Qd : List PyData → Prop) (Q : List V → Hp → Prop), Good C F H → Slots C H0 F H σ ρ → t ρ Qd →
    (∀ vs F' H' ds, Ext C F H F' H' → RPs C F' H' vs ds → Qd ds → Q vs H') → th σ H Q
@[simp] def lNil : DL := fun _ Q => Q []
@[simp] def lCons (t : DE) (l : DL) : DL := fun ρ Q => t ρ fun x => l ρ fun xs => Q (x :: xs)
theorem sim_lnil : SimL C tNil lNil := fun H0 F H σ ρ Qd Q g S ht k => k [] F H [] (.refl g) .nil ht
theorem sim_lcons (ha : SimE C tha ta) (hl : SimL C tA l) : SimL C (tCons tha tA) (lCons ta l) := by
  intro H0 F H σ ρ Qd Q g S ht k
  refine ha H0 F H σ ρ _ _ g S ht fun v F1 H1 d x1 r1 q1 => ?_
  exact hl H0 F1 H1 σ ρ _ _ x1.g (S.ext x1) q1 fun vs F2 H2 ds x2 r2 q2 => k (v :: vs) F2 H2 (d :: ds) (x1.trans x2) (.cons (r1.mono x2.ff) r2) q2
theorem sim_pnil : SimLP C tNil lNil := fun H0 F H σ ρ Qd Q g S ht k => k [] F H [] (.refl g) .nil ht
theorem sim_pcons (ha : SimP C tha ta) (hl : SimLP C tA l) : SimLP C (tCons tha tA) (lCons ta l) := by
  intro H0 F H σ ρ Qd Q g S ht k
  refine ha H0 F H σ ρ _ _ g S ht fun v F1 H1 d x1 r1 q1 => ?_
  exact hl H0 F1 H1 σ ρ _ _ x1.g (S.ext x1) q1 fun vs F2 H2 ds x2 r2 q2 => k (v :: vs) F2 H2 (d :: ds) (x1.trans x2) (.cons (r1.ext x2) r2) q2
/-- arguments of a def -/
@[simp] def aNil : DA := fun _ Q => Q []
@[simp] def aCons (t : DE) (u : DA) : DA := fun ρ Q => t ρ fun x => u ρ fun xs => Q (.d x :: xs)
def aRaw (i : Nat) (u : DA) : DA := fun ρ Q => match ρ[i]? with
  | some (.raw v) => u ρ fun xs => Q (.r v :: xs)
  | _ => False
@[simp] theorem aRaw_r {i : Nat} {u : DA} {ρ : Vn} {v : V} {Q : List AV → Prop} (h : ρ[i]? = some (.raw v)) : aRaw i u ρ Q = u ρ fun xs => Q (.r v :: xs) := by unfold aRaw; rw [h]
def aVal (v : V) (u : DA) : DA := fun ρ Q => u ρ fun xs => Q (.r v :: xs)
theorem sim_anil : SimA C tNil aNil := fun H0 F H σ ρ Qd Q g S ht k => k [] F H [] (.refl g) .nil ht
theorem sim_acons {a : DA} (ha : SimE C tha ta) (hl : SimA C tA a) : SimA C (tCons tha tA) (aCons ta a) := by
  intro H0 F H σ ρ Qd Q g S ht k
  refine ha H0 F H σ ρ _ _ g S ht fun v F1 H1 d x1 r1 q1 => ?_
  exact hl H0 F1 H1 σ ρ _ _ x1.g (S.ext x1) q1 fun vs F2 H2 ds x2 r2 q2 => k (v :: vs) F2 H2 (.d d :: ds) (x1.trans x2) (.cons (show R _ _ _ _ from r1.mono x2.ff) r2) q2
theorem sim_araw {a : DA} {i : Nat} (hl : SimA C tA a) : SimA C (tCons (tVar i) tA) (aRaw i a) := by
  intro H0 F H σ ρ Qd Q g S ht k
  unfold aRaw at ht
  split at ht
  · rename_i v e
    obtain ⟨o, e2, e3⟩ := S.at e
    cases (show o = some v from e3)
    exact ⟨v, e2, hl H0 F H σ ρ _ _ g S ht fun vs F2 H2 ds x2 r2 q2 => k (v :: vs) F2 H2 (.r v :: ds) x2 (.cons rfl r2) q2⟩
  · exact ht.elim
def aSrc (i : Nat) (u : DA) : DA := fun ρ Q => match ρ[i]? with
  | some .so => u ρ fun xs => Q (.s :: xs)
  | _ => False
@[simp] theorem aSrc_so {i : Nat} {u : DA} {ρ : Vn} {Q : List AV → Prop} (h : ρ[i]? = some .so) : aSrc i u ρ Q = u ρ fun xs => Q (.s :: xs) := by unfold aSrc; rw [h]
theorem sim_asrc {a : DA} {i : Nat} (hl : SimA C tA a) : SimA C (tCons (tVar i) tA) (aSrc i a) := by
  intro H0 F H σ ρ Qd Q g S ht k
  unfold aSrc at ht
  split at ht
  · rename_i e
    obtain ⟨o, e2, e3, e4⟩ := S.at e
    subst e4
    cases hc : C.src with
    | none => exact absurd hc e3
    | some v =>
      rw [hc] at e2
      exact ⟨v, e2, hl H0 F H σ ρ _ _ g S ht fun vs F2 H2 as x2 r2 q2 => k (v :: vs) F2 H2 (.s :: as) x2 (.cons hc r2) q2⟩
  · exact ht.elim
theorem sim_aval {a : DA} {v : V} (hl : SimA C tA a) : SimA C (tCons (tC v) tA) (aVal v a) := fun H0 F H σ ρ Qd Q g S ht k =>
  hl H0 F H σ ρ _ _ g S ht fun vs F2 H2 ds x2 r2 q2 => k (v :: vs) F2 H2 (.r v :: ds) x2 (.cons rfl r2) q2

/-! ### displays -/
@[simp] def dTup (l : DL) : DE := fun ρ Q => l ρ fun ds => ds.length ≤ sizeLine ∧ Q (.tuple ds)
@[simp] def dLst (l : DL) : DE := fun ρ Q => l ρ fun ds => ds.length ≤ sizeLine ∧ Q (.list ds)
theorem own_new {F H : Hp} {p : Addr} {o : HO} {d : PyData} (g : Good C F H) (hp : H p = none) (c : Cont C.K F (upd H p o) p d) : Own C H F (upd H p o) p d := ⟨g.fnone hp, hp, g.noS hp, c⟩
theorem sim_tup (hl : SimL C tA l) : SimE C (tTupN tA) (dTup l) := by
  intro H0 F H σ ρ Qd Q g S ht k
  refine hl H0 F H σ ρ _ _ g S ht fun vs F1 H1 ds x1 r1 ⟨z, q1⟩ => ⟨by rw [r1.length]; exact z, fun p o hp hd => ?_⟩
  have n := Ext.new x1.g hp (.frz o (.tup vs))
  exact k _ _ _ _ (x1.trans n) (.tup (SqN.of upd_same hd) z (r1.mono n.ff)) q1
theorem simF_lst (hl : SimL C tA l) : SimF C (tLst tA) (dLst l) := by
  intro H0 F H σ ρ Qd Q g S ht k
  refine hl H0 F H σ ρ _ _ g S ht fun vs F1 H1 ds x1 r1 ⟨z, q1⟩ => ⟨by rw [r1.length]; exact z, fun p hp => ?_⟩
  have n := Ext.newO x1.g hp (.lst vs)
  have hp0 : H p = none := by
    cases e : H p with
    | none => rfl
    | some u =>
      by_cases s : C.S p
      · exact absurd hp (C.alloc H1 p x1.g.ok s)
      · rw [x1.hh p u e s] at hp; cases hp
  exact k _ _ _ (.list ds) (x1.trans n) ⟨x1.g.fnone hp, hp0, x1.g.noS hp, vs, upd_same, z, r1⟩ q1
theorem sim_lst (hl : SimL C tA l) : SimE C (tLst tA) (dLst l) := (simF_lst hl).e
theorem Ext.free {F H F1 H1 : Hp} (x : Ext C F H F1 H1) {p : Addr} (hp : H1 p = none) : H p = none := by
  cases e : H p with
  | none => rfl
  | some u =>
    by_cases s : C.S p
    · exact absurd hp (C.alloc H1 p x.g.ok s)
    · rw [x.hh p u e s] at hp; cases hp
/-- an own object since a later state is own since an earlier one -/
theorem Own.back {F H F1 H1 F2 H2 : Hp} {a : Addr} {d : PyData} (x : Ext C F H F1 H1) (o : Own C H1 F2 H2 a d) : Own C H F2 H2 a d := ⟨o.nf, x.free o.n0, o.ns, o.ct⟩

/-! ### calls -/
/-- a def's promise by data: shared result; own result -/
def spS (C : Cfg) (wp : List AV → (PyData → Prop) → Prop) : Sp := fun vs H Q _ => ∃ (F : Hp) (as : List AV) (Qd : PyData → Prop), Good C F H ∧ AVs C F as vs ∧ wp as Qd ∧
  ∀ v F' H' d, Ext C F H F' H' → R C.K F' v d → Qd d → Q v H'
def spO (C : Cfg) (wp : List AV → (PyData → Prop) → Prop) : Sp := fun vs H Q _ => ∃ (F : Hp) (as : List AV) (Qd : PyData → Prop), Good C F H ∧ AVs C F as vs ∧ wp as Qd ∧
  ∀ a F' H' d, Ext C F H F' H' → Own C H F' H' a d → Qd d → Q (.ref a) H'
/-- a call, sealed (nothing looks through it by unfolding) -/
structure Cl (wp : List AV → (PyData → Prop) → Prop) (as : List AV) (Q : PyData → Prop) : Prop where
  go : wp as Q
@[simp] def dCall (wp : List AV → (PyData → Prop) → Prop) (a : DA) : DE := fun ρ Q => a ρ fun as => Cl wp as Q
theorem sim_call {wp : List AV → (PyData → Prop) → Prop} {E : XK} {a : DA} (ha : SimA C tA a) : SimE C (tCall (spS C wp) [] E tA) (dCall wp a) := by
  intro H0 F H σ ρ Qd Q g S ht k
  refine ha H0 F H σ ρ _ _ g S ht fun vs F1 H1 as x1 r1 q1 => ?_
  rw [List.append_nil]
  exact ⟨F1, as, Qd, x1.g, r1, q1.go, fun v F2 H2 d x2 r2 q2 => k v F2 H2 d (x1.trans x2) r2 q2⟩
theorem simF_call {wp : List AV → (PyData → Prop) → Prop} {E : XK} {a : DA} (ha : SimA C tA a) : SimF C (tCall (spO C wp) [] E tA) (dCall wp a) := by
  intro H0 F H σ ρ Qd Q g S ht k
  refine ha H0 F H σ ρ _ _ g S ht fun vs F1 H1 as x1 r1 q1 => ?_
  rw [List.append_nil]
  exact ⟨F1, as, Qd, x1.g, r1, q1.go, fun v F2 H2 d x2 r2 q2 => k v F2 H2 d (x1.trans x2) (r2.back x1) q2⟩
/-- a built-in's call by its arguments' data -/
abbrev DB := List PyData → (PyData → Prop) → Prop
def SimB (C : Cfg) (r : List V → Hp → VK → Prop) (f : DB) : Prop := ∀ (F H : Hp) (xs : List V) (ds : List PyData) (Qd : PyData → Prop) (Q : VK), Good C F H → RPs C F H xs ds → f ds Qd →
  (∀ v F' H' z, Ext C F H F' H' → R C.K F' v z → Qd z → Q v H') → r xs H Q
def SimBF (C : Cfg) (r : List V → Hp → VK → Prop) (f : DB) : Prop := ∀ (F H : Hp) (xs : List V) (ds : List PyData) (Qd : PyData → Prop) (Q : VK), Good C F H → RPs C F H xs ds → f ds Qd →
  (∀ a F' H' z, Ext C F H F' H' → Own C H F' H' a z → Qd z → Q (.ref a) H') → r xs H Q
theorem SimBF.b {r : List V → Hp → VK → Prop} {f : DB} (h : SimBF C r f) : SimB C r f := fun F H xs ds Qd Q g rs ht k => h F H xs ds Qd Q g rs ht fun a F' H' z x o q => by
  obtain ⟨F'', x', r⟩ := freeze x o
  exact k _ F'' H' z x' r q
@[simp] def dB (f : DB) (l : DL) : DE := fun ρ Q => l ρ fun ds => f ds Q
theorem sim_b {r : List V → Hp → VK → Prop} {f : DB} (hb : SimB C r f) (hl : SimLP C tA l) : SimE C (tCB r tA) (dB f l) := by
  intro H0 F H σ ρ Qd Q g S ht k
  refine hl H0 F H σ ρ _ _ g S ht fun vs F1 H1 ds x1 r1 q1 => ?_
  exact hb F1 H1 vs ds Qd Q x1.g r1 q1 fun v F2 H2 z x2 r2 q2 => k v F2 H2 z (x1.trans x2) r2 q2
theorem simF_b {r : List V → Hp → VK → Prop} {f : DB} (hb : SimBF C r f) (hl : SimLP C tA l) : SimF C (tCB r tA) (dB f l) := by
  intro H0 F H σ ρ Qd Q g S ht k
  refine hl H0 F H σ ρ _ _ g S ht fun vs F1 H1 ds x1 r1 q1 => ?_
  exact hb F1 H1 vs ds Qd Q x1.g r1 q1 fun v F2 H2 z x2 r2 q2 => k v F2 H2 z (x1.trans x2) (r2.back x1) q2
/-- a method by the receiver's and the arguments' data; it changes nothing -/
abbrev DM := PyData → List PyData → (PyData → Prop) → Prop
def SimM (C : Cfg) (T : String) (r : V → List V → Hp → VK → Prop) (f : DM) : Prop := ∀ (F H F' H' : Hp) (x : V) (d : PyData) (xs : List V) (ds : List PyData) (Qd : PyData → Prop) (Q : VK), Good C F H → RP C F H x d → Ext C F H F' H' → RPs C F' H' xs ds → f d ds Qd →
  (∀ v F2 H2 z, Ext C F' H' F2 H2 → R C.K F2 v z → Qd z → Q v H2) → r x xs H' Q
def tyD (T : String) : PyData → Prop
  | .str _ => T = "str"
  | .int _ => T = "int"
  | .list _ => T = "list"
  | .dict _ => T = "dict"
  | .tuple _ => T = "tuple"
  | _ => False
theorem tyD_ok {T : String} {F H : Hp} {v : V} {d : PyData} (g : Good C F H) (r : RP C F H v d) (h : tyD T d) : tyV C.K T v H ∨ (T = "tuple" ∧ ∃ p ys o, v = .ref p ∧ H p = some (.frz o (.tup ys)) ∧ o.dict = none) := by
  have r' := r.all g
  cases r' with
  | str x l => exact .inl h
  | int i => exact .inl h
  | lst e l r => exact .inl (.inl ⟨h, _, SqL.of e⟩)
  | dct e l r => exact .inl (.inr (.inr (.inl ⟨h, .inl ⟨_, e⟩⟩)))
  | tup e l r =>
    rcases e with ⟨o, e, d⟩ | ⟨o, ws, m, e, c, d⟩
    · exact .inr ⟨h, _, _, o, rfl, e, d⟩
    · exact .inl (.inr (.inl ⟨h, o, e, c.1, d⟩))
  | _ => exact h.elim
@[simp] def dM (T : String) (f : DM) (t : DE) (l : DL) : DE := fun ρ Q => t ρ fun d => tyD T d ∧ l ρ fun ds => f d ds Q
theorem sim_m {T : String} {r : V → List V → Hp → VK → Prop} {f : DM} (hm : SimM C T r f) (ha : SimP C tha ta) (hl : SimLP C tA l) : SimE C (tBX C.K T r tha tA) (dM T f ta l) := by
  intro H0 F H σ ρ Qd Q g S ht k
  refine ha H0 F H σ ρ _ _ g S ht fun v F1 H1 d x1 r1 ⟨ty, q1⟩ => ⟨tyD_ok x1.g r1 ty, ?_⟩
  refine hl H0 F1 H1 σ ρ _ _ x1.g (S.ext x1) q1 fun vs F2 H2 ds x2 r2 q2 => ?_
  exact hm F1 H1 F2 H2 v d vs ds Qd Q x1.g r1 x2 r2 q2 fun u F3 H3 z x3 r3 q3 => k u F3 H3 z (x1.trans (x2.trans x3)) r3 q3
theorem sim_m0 {T : String} {r : V → List V → Hp → VK → Prop} {f : DM} (hm : SimM C T r f) (ha : SimP C tha ta) : SimE C (tBX0 C.K T r tha) (dM T f ta lNil) := by
  intro H0 F H σ ρ Qd Q g S ht k
  refine ha H0 F H σ ρ _ _ g S ht fun v F1 H1 d x1 r1 ⟨ty, q1⟩ => ⟨tyD_ok x1.g r1 ty, ?_⟩
  exact hm F1 H1 F1 H1 v d [] [] Qd Q x1.g r1 (.refl x1.g) .nil q1 fun u F3 H3 z x3 r3 q3 => k u F3 H3 z (x1.trans x3) r3 q3
end

/-! ### slices -/
abbrev DO := Vn → (Option Int → Prop) → Prop
abbrev DSl := PyData → Option Int → Option Int → (PyData → Prop) → Prop
section
variable {C : Cfg} {th tha thb thc : TE} {t ta tb tc : DE}
def SimO (C : Cfg) (th : TO) (t : DO) : Prop :=
  ∀ (H0 F H : Hp) (σ : St) (ρ : Vn) (Qd : Option Int → Prop) (Q : Option Int → Hp → Prop), Good C F H → Slots C H0 F H σ ρ → t ρ Qd →
    (∀ o F' H', Ext C F H F' H' → Qd o → Q o H') → th σ H Q
@[simp] def oNo : DO := fun _ Q => Q none
@[simp] def oYes (t : DE) : DO := fun ρ Q => t ρ fun d => match d with
  | .int i => Q (some i)
  | _ => False
theorem sim_ono : SimO C tNoPart oNo := fun H0 F H σ ρ Qd Q g S ht k => k none F H (.refl g) ht
theorem sim_oyes (h : SimP C th t) : SimO C (tPart th) (oYes t) := by
  intro H0 F H σ ρ Qd Q g S ht k
  refine h H0 F H σ ρ _ _ g S ht fun v F1 H1 d x1 r1 q1 => ?_
  cases d with
  | int i =>
    rcases r1 with r1 | ⟨a, e, n, c⟩
    · cases r1
      exact ⟨i, rfl, k _ F1 H1 x1 q1⟩
    · exact c.elim
  | _ => exact q1.elim
def SimSl (C : Cfg) (r : V → Option Int → Option Int → Hp → VK → Prop) (f : DSl) : Prop := ∀ (F H : Hp) (x : V) (d : PyData) (lo hi : Option Int) (Qd : PyData → Prop) (Q : VK), Good C F H → RP C F H x d → f d lo hi Qd →
  (∀ v F' H' z, Ext C F H F' H' → R C.K F' v z → Qd z → Q v H') → r x lo hi H Q
@[simp] def dSl (f : DSl) (t : DE) (l u : DO) : DE := fun ρ Q => t ρ fun d => l ρ fun lo => u ρ fun hi => f d lo hi Q
theorem sim_sl {r : V → Option Int → Option Int → Hp → VK → Prop} {f : DSl} {tl tu : TO} {l u : DO} (hs : SimSl C r f) (h : SimP C th t) (hl : SimO C tl l) (hu : SimO C tu u) : SimE C (tSl r th tl tu) (dSl f t l u) := by
  intro H0 F H σ ρ Qd Q g S ht k
  refine h H0 F H σ ρ _ _ g S ht fun v F1 H1 d x1 r1 q1 => ?_
  refine hl H0 F1 H1 σ ρ _ _ x1.g (S.ext x1) q1 fun lo F2 H2 x2 q2 => ?_
  refine hu H0 F2 H2 σ ρ _ _ x2.g (S.ext (x1.trans x2)) q2 fun hi F3 H3 x3 q3 => ?_
  exact hs F3 H3 v d lo hi Qd Q x3.g (r1.ext (x2.trans x3)) q3 fun u F4 H4 z x4 r4 q4 => k u F4 H4 z (x1.trans (x2.trans (x3.trans x4))) r4 q4
end

/-! ### what is walked -/
structure ItOk (C : Cfg) (F0 : Hp) (G : Hp → Prop) (J : It) (ds : List PyData) : Prop where
  go : ∀ i H, i < ds.length → G H → J.go i H
  stop : ∀ H, G H → J.stop ds.length H
  yld : ∀ (i : Nat) F H x H' d, ds[i]? = some d → G H → Good C F H → Same F0 F → J.yld i H x H' → ∃ F', Ext C F H F' H' ∧ R C.K F' x d
section
variable {C : Cfg}
/-- for loops: what is walked is frozen -/
def SimI (C : Cfg) (th : TI) (t : DL) : Prop :=
  ∀ (H0 F H : Hp) (σ : St) (ρ : Vn) (Qd : List PyData → Prop) (Q : It → Hp → Prop), Good C F H → Slots C H0 F H σ ρ → t ρ Qd →
    (∀ J F' H' ds G, Ext C F H F' H' → ItOk C F' G J ds → (∀ H'', Same F' H'' → G H'') → ds.length ≤ sizeLine → Qd ds → Q J H') → th σ H Q
/-- comprehensions: it may be read -/
def SimIP (C : Cfg) (th : TI) (t : DL) : Prop :=
  ∀ (H0 F H : Hp) (σ : St) (ρ : Vn) (Qd : List PyData → Prop) (Q : It → Hp → Prop), Good C F H → Slots C H0 F H σ ρ → t ρ Qd →
    (∀ J F' H' ds G, Ext C F H F' H' → ItOk C F' G J ds → (∀ F2 H2, Ext C F' H' F2 H2 → G H2) → ds.length ≤ sizeLine → Qd ds → Q J H') → th σ H Q
theorem SimI.p {th : TI} {t : DL} (h : SimI C th t) : SimIP C th t := fun H0 F H σ ρ Qd Q g S ht k => h H0 F H σ ρ Qd Q g S ht fun J F' H' ds G x io st z q =>
  k J F' H' ds G x io (fun F2 H2 y => st _ (y.ff.trans y.g.fh)) z q
theorem Ext.updO {F H F' H' : Hp} {D : Addr} {o : HO} (x : Ext C F H F' H') (h0 : H D = none) (hF : F' D = none) (nS : ¬ C.S D) : Ext C F H F' (upd H' D o) := by
  refine ⟨x.ff, ⟨fun b u e => by rw [upd_ne (ne_of_none e hF)]; exact x.g.fh b u e, C.loc H' _ (fun a s => upd_ne (fun z : a = D => nS (z ▸ s))) x.g.ok, x.g.fs⟩, fun a u e n => ?_, x.nw⟩
  rw [upd_ne (ne_of_none e h0)]
  exact x.hh a u e n

/-! ### targets -/
abbrev DG := PyData → Vn → (Vn → Prop) → Prop
abbrev DGs := List PyData → Vn → (Vn → Prop) → Prop
/-- only the slots ks change -/
def Only (ks : List Nat) (σ σ' : St) : Prop := σ'.length = σ.length ∧ ∀ j, j ∉ ks → σ'[j]? = σ[j]?
def SimG (C : Cfg) (ks : List Nat) (g : TG) (gd : DG) : Prop :=
  ∀ (H0 F H : Hp) (σ : St) (ρ : Vn) (v : V) (d : PyData) (Qd : Vn → Prop) (Q : St → Hp → Prop), Good C F H → Slots C H0 F H σ ρ → R C.K F v d → gd d ρ Qd →
    (∀ F' H' σ' ρ', Ext C F H F' H' → Slots C H0 F' H' σ' ρ' → Only ks σ σ' → Qd ρ' → Q σ' H') → g v σ H Q
def SimGs (C : Cfg) (ks : List Nat) (g : TGs) (gd : DGs) : Prop :=
  ∀ (H0 F H : Hp) (σ : St) (ρ : Vn) (vs : List V) (ds : List PyData) (Qd : Vn → Prop) (Q : St → Hp → Prop), Good C F H → Slots C H0 F H σ ρ → RL C.K F vs ds → gd ds ρ Qd →
    (∀ F' H' σ' ρ', Ext C F H F' H' → Slots C H0 F' H' σ' ρ' → Only ks σ σ' → Qd ρ' → Q σ' H') → g vs σ H Q
theorem Only.refl {ks : List Nat} {σ : St} : Only ks σ σ := ⟨rfl, fun _ _ => rfl⟩
theorem Only.trans {ks ls : List Nat} {σ σ1 σ2 : St} (a : Only ks σ σ1) (b : Only ls σ1 σ2) : Only (ks ++ ls) σ σ2 := ⟨b.1.trans a.1, fun j hj => by
  rw [List.mem_append, not_or] at hj
  rw [b.2 j hj.2, a.2 j hj.1]⟩
theorem wipe_get {σ : St} {j : Nat} : ∀ {vs : List Nat}, j ∈ vs → j < σ.length → (L2.wipe σ vs)[j]? = some none
  | v :: vs, h, hl => by
    unfold L2.wipe
    by_cases e : v = j
    · subst e
      rw [List.getElem?_set_self (by rw [L2.wipe_length]; exact hl)]
    · rw [List.getElem?_set_ne e]
      exact wipe_get (by rcases List.mem_cons.mp h with z | z; exact absurd z.symm e; exact z) hl
theorem wipe_other {σ : St} {j : Nat} : ∀ {vs : List Nat}, j ∉ vs → (L2.wipe σ vs)[j]? = σ[j]?
  | [], _ => rfl
  | v :: vs, h => by
    unfold L2.wipe
    rw [List.mem_cons, not_or] at h
    rw [List.getElem?_set_ne (fun e => h.1 e.symm)]
    exact wipe_other h.2
theorem Only.wipe {ks vs : List Nat} {σ σ' : St} (o : Only ks σ σ') (h : ∀ k ∈ ks, k ∈ vs) : L2.wipe σ' vs = L2.wipe σ vs := by
  refine List.ext_getElem? fun j => ?_
  by_cases hj : j ∈ vs
  · by_cases hl : j < σ.length
    · rw [wipe_get hj (by rw [o.1]; exact hl), wipe_get hj hl]
    · rw [List.getElem?_eq_none (by rw [L2.wipe_length, o.1]; omega), List.getElem?_eq_none (by rw [L2.wipe_length]; omega)]
  · rw [wipe_other hj, wipe_other hj]
    exact o.2 j fun z => hj (h j z)
@[simp] def dgName (i : Nat) : DG := fun d ρ Q => Q (ρ.set i (.sh d))
theorem simg_name {i : Nat} : SimG C [i] (gName i) (dgName i) := by
  intro H0 F H σ ρ v d Qd Q g S r ht k
  refine k F H _ _ (.refl g) (S.set i (s := .sh d) ⟨v, rfl, r⟩ fun a e z => nomatch z) ⟨List.length_set, fun j hj => ?_⟩ ht
  rw [List.getElem?_set_ne]
  intro e
  exact hj (by rw [e]; exact List.mem_singleton.mpr rfl)
@[simp] def dgNil : DGs := fun ds ρ Q => ds = [] ∧ Q ρ
@[simp] def dgCons (g : DG) (h : DGs) : DGs := fun ds ρ Q => match ds with
  | d :: r => g d ρ fun ρ' => h r ρ' Q
  | [] => False
theorem simgs_nil : SimGs C [] gNil dgNil := by
  intro H0 F H σ ρ vs ds Qd Q g S r ht k
  obtain ⟨e, q⟩ := ht
  subst e
  cases r
  exact ⟨rfl, k F H σ ρ (.refl g) S .refl q⟩
theorem simgs_cons {ks ls : List Nat} {tg : TG} {tgs : TGs} {dg : DG} {dgs : DGs} (h1 : SimG C ks tg dg) (h2 : SimGs C ls tgs dgs) : SimGs C (ks ++ ls) (gCons tg tgs) (dgCons dg dgs) := by
  intro H0 F H σ ρ vs ds Qd Q g S r ht k
  cases r with
  | nil => exact ht.elim
  | cons a b =>
    refine ⟨_, _, rfl, h1 H0 F H σ ρ _ _ _ _ g S a ht fun F1 H1 σ1 ρ1 x1 S1 o1 q1 => ?_⟩
    exact h2 H0 F1 H1 σ1 ρ1 _ _ _ _ x1.g S1 (b.mono x1.ff) q1 fun F2 H2 σ2 ρ2 x2 S2 o2 q2 => k F2 H2 σ2 ρ2 (x1.trans x2) S2 (o1.trans o2) q2
@[simp] def dgTup (n : Nat) (h : DGs) : DG := fun d ρ Q => match d with
  | .tuple ds => ds.length = n ∧ h ds ρ Q
  | _ => False
theorem simg_tup {ks : List Nat} {n : Nat} {tgs : TGs} {dgs : DGs} (h : SimGs C ks tgs dgs) : SimG C ks (gTup C.K n tgs) (dgTup n dgs) := by
  intro H0 F H σ ρ v d Qd Q g S r ht k
  cases d with
  | tuple ds =>
    obtain ⟨a, vs, e, q, l, rr⟩ := RP.tuple (C := C) (H := H) (.inl r)
    subst e
    exact ⟨a, vs, rfl, sqN_T g.fh q, by rw [rr.length]; exact ht.1, h H0 F H σ ρ vs ds Qd Q g S rr ht.2 k⟩
  | _ => exact ht.elim

/-! ### list comprehensions -/
@[simp] def lcD (g : DG) (u : DT) (te : DE) (ρ : Vn) : List PyData → List PyData → (PyData → Prop) → Prop
  | [], acc, Q => Q (.list acc)
  | d :: ds, acc, Q => g d ρ fun ρ1 => u ρ1 fun b => if b = true then te ρ1 fun y => lcD g u te ρ ds (acc ++ [y]) Q else lcD g u te ρ ds acc Q
@[simp] def dLc (ti : DL) (g : DG) (u : DT) (te : DE) (vs : List Nat) : DE := fun ρ Q => ti ρ fun ds => lcD g u te (wipeE ρ vs) ds [] Q
@[simp] def dYes : DT := fun _ Q => Q true
theorem sim_yes : SimT C tYes dYes := fun H0 F H σ ρ Qd Q g S ht k => k true F H (.refl g) ht
/-- what a comprehension goes through once its iterator has come -/
def tLcB (J : It) (g : TG) (tt : TT) (te : TE) (vs : List Nat) (σ : St) (H1 : Hp) (Q : VK) : Prop := ∀ D, H1 D = none → ∃ W : Nat → Nat → Hp → Prop, (∃ m, W 0 m (upd H1 D (.lst []))) ∧ ∀ i m H, W i m H →
  (J.stop i H ∧ Q (.ref D) H) ∨ (J.go i H ∧ ∃ Nx : Hp → Prop, (∀ H', Nx H' → ∃ m', m' < m ∧ W (i + 1) m' H') ∧ ∀ x H', J.yld i H x H' → g x (L2.wipe σ vs) H' fun σ2 H2 => L2.wipe σ2 vs = L2.wipe σ vs ∧ tt σ2 H2 fun b H3 =>
    if b = true then te σ2 H3 fun y H4 => ∃ acc, H4 D = some (.lst acc) ∧ acc.length < sizeLine ∧ Nx (upd H4 D (.lst (acc ++ [y]))) else Nx H3)
theorem lc_body {J : It} {g : TG} {tt : TT} {te : TE} {gd : DG} {u : DT} {t : DE} {ks vs : List Nat} {ds : List PyData} {G : Hp → Prop} {H0 F H F1 H1 : Hp} {σ : St} {ρ : Vn} {Qd : PyData → Prop} {Q : VK} (hg : SimG C ks g gd) (hu : SimT C tt u) (he : SimE C te t) (hk : ∀ k ∈ ks, k ∈ vs)
    (S : Slots C H0 F H σ ρ) (x1 : Ext C F H F1 H1) (io : ItOk C F1 G J ds) (st : ∀ F2 H2, Ext C F1 H1 F2 H2 → G H2) (z : ds.length ≤ sizeLine) (q1 : lcD gd u t (wipeE ρ vs) ds [] Qd)
    (k : ∀ a F' H' d, Ext C F H F' H' → Own C H F' H' a d → Qd d → Q (.ref a) H') : tLcB J g tt te vs σ H1 Q := by
  intro D hD
  have hD0 : H D = none := x1.free hD
  have nS : ¬ C.S D := x1.g.noS hD
  refine ⟨fun i m Hi => m = ds.length - i ∧ i ≤ ds.length ∧ ∃ (Fi : Hp) (acc : List V) (as : List PyData), Ext C F1 H1 Fi Hi ∧ Fi D = none ∧ Hi D = some (.lst acc) ∧ acc.length ≤ i ∧ RL C.K Fi acc as ∧ lcD gd u t (wipeE ρ vs) (ds.drop i) as Qd,
    ⟨_, rfl, Nat.zero_le _, F1, [], [], .newO x1.g hD _, x1.g.fnone hD, upd_same, Nat.le_refl _, .nil, by rw [List.drop_zero]; exact q1⟩, ?_⟩
  rintro i m Hi ⟨rfl, hle, Fi, acc, as, xi, fD, eD, la, ra, qi⟩
  have gi := st Fi Hi xi
  by_cases hlt : i < ds.length
  · refine .inr ⟨io.go i Hi hlt gi, fun H' => i + 1 ≤ ds.length ∧ ∃ (Fi : Hp) (acc : List V) (as : List PyData), Ext C F1 H1 Fi H' ∧ Fi D = none ∧ H' D = some (.lst acc) ∧ acc.length ≤ i + 1 ∧ RL C.K Fi acc as ∧ lcD gd u t (wipeE ρ vs) (ds.drop (i + 1)) as Qd,
      fun H' ⟨a, b, c⟩ => ⟨ds.length - (i + 1), by omega, rfl, a, b, c⟩, fun x H' hy => ?_⟩
    have hd : ds[i]? = some ds[i] := by simp [hlt]
    have hdr : ds.drop i = ds[i] :: ds.drop (i + 1) := List.drop_eq_getElem_cons hlt
    obtain ⟨F2, x2, r2⟩ := io.yld i Fi Hi x H' _ hd gi xi.g xi.ff hy
    rw [hdr] at qi
    have S2 : Slots C H0 F2 H' (L2.wipe σ vs) (wipeE ρ vs) := ((S.ext (x1.trans (xi.trans x2))).wipe vs)
    refine hg H0 F2 H' _ _ x _ _ _ x2.g S2 r2 qi fun F3 H3 σ3 ρ3 x3 S3 o3 q3 => ⟨?_, ?_⟩
    · rw [o3.wipe hk]
      refine List.ext_getElem? fun j => ?_
      by_cases hj : j ∈ vs
      · by_cases hl : j < σ.length
        · rw [wipe_get hj (by rw [L2.wipe_length]; exact hl), wipe_get hj hl]
        · rw [List.getElem?_eq_none (by rw [L2.wipe_length, L2.wipe_length]; omega), List.getElem?_eq_none (by rw [L2.wipe_length]; omega)]
      · rw [wipe_other hj]
    · refine hu H0 F3 H3 σ3 ρ3 _ _ x3.g S3 q3 fun b F4 H4 x4 q4 => ?_
      have y4 : Ext C Fi Hi F4 H4 := x2.trans (x3.trans x4)
      have keepD : ∀ {F' H'' : Hp}, Ext C Fi Hi F' H'' → F' D = none ∧ H'' D = some (.lst acc) := fun {F' H''} y => by
        have e2 := y.hh D _ eD nS
        refine ⟨?_, e2⟩
        cases q : F' D with
        | none => rfl
        | some w =>
          rcases y.nw D w q with z | z
          · rw [fD] at z; cases z
          · rw [eD] at z; cases z
      cases b with
      | false =>
        rw [if_neg (by decide)] at q4
        rw [if_neg (by decide)]
        obtain ⟨k1, k2⟩ := keepD y4
        exact ⟨hlt, F4, acc, as, xi.trans y4, k1, k2, Nat.le_succ_of_le la, ra.mono y4.ff, q4⟩
      | true =>
        rw [if_pos rfl] at q4
        rw [if_pos rfl]
        refine he H0 F4 H4 σ3 ρ3 _ _ x4.g (S3.ext x4) q4 fun y F5 H5 d5 x5 r5 q5 => ?_
        have y5 : Ext C Fi Hi F5 H5 := y4.trans x5
        obtain ⟨k1, k2⟩ := keepD y5
        have z' : (sizeLine : Nat) = sizeLine := rfl
        exact ⟨acc, k2, by omega, hlt, F5, acc ++ [y], as ++ [d5], (xi.trans y5).updO hD k1 nS, k1, upd_same, by rw [List.length_append]; simp; omega, (ra.mono y5.ff).snoc r5, q5⟩
  · have e : i = ds.length := by omega
    subst e
    refine .inl ⟨io.stop Hi gi, ?_⟩
    rw [List.drop_length] at qi
    exact k D Fi Hi (.list as) (x1.trans xi) ⟨fD, hD0, nS, acc, eD, by have := ra.length; omega, ra⟩ qi
theorem simF_lc {wi : TI} {g : TG} {tt : TT} {te : TE} {ti : DL} {gd : DG} {u : DT} {t : DE} {ks vs : List Nat} (hi : SimIP C wi ti) (hg : SimG C ks g gd) (hu : SimT C tt u) (he : SimE C te t) (hk : ∀ k ∈ ks, k ∈ vs) :
    SimF C (tLc wi g tt te vs) (dLc ti gd u t vs) := by
  intro H0 F H σ ρ Qd Q g0 S ht k
  exact hi H0 F H σ ρ _ _ g0 S ht fun J F1 H1 ds G x1 io st z q1 => lc_body hg hu he hk S x1 io st z q1 k
end
end VL

set_option Elab.async false
set_option linter.all false
set_option maxRecDepth 100000
set_option maxHeartbeats 4000000
/-! VLStmt: statements simulated; a def's promise from its body. -/
namespace VL
open PySem PySem.Spec L2

section
variable {C : Cfg} {th tha thb : TE} {t ta tb : DE} {ts us : TS} {a b : DS}
theorem Lnk.nxt {F0 H0 : Hp} {D : Ctl} {DH : Ends} (L : Lnk C F0 H0 D DH) {nd : Vn → Prop} {nh : St → Hp → Prop} (h : ∀ F H σ ρ, Ext C F0 H0 F H → Slots C H0 F H σ ρ → nd ρ → nh σ H) :
    Lnk C F0 H0 { D with nx := nd } { DH with nx := nh } := ⟨h, L.rt, L.bk, L.ct⟩
@[simp] def dNext : DS := fun D ρ => D.nx ρ
theorem sims_next : SimS C tNext dNext := fun F0 H0 F H σ ρ D DH x S h L => L.nx F H σ ρ x S h
@[simp] def dSeq (a b : DS) : DS := fun D ρ => a { D with nx := b D } ρ
theorem sims_seq (h1 : SimS C ts a) (h2 : SimS C us b) : SimS C (tSeq ts us) (dSeq a b) := fun F0 H0 F H σ ρ D DH x S h L =>
  h1 F0 H0 F H σ ρ _ _ x S h (L.nxt fun F' H' σ' ρ' x' S' q => h2 F0 H0 F' H' σ' ρ' D DH x' S' q L)
/-- name = e -/
@[simp] def dSet (i : Nat) (t : DE) : DS := fun D ρ => t ρ fun d => D.nx (ρ.set i (.sh d))
theorem sims_set {i : Nat} (h : SimE C th t) : SimS C (tAsg th (gName i)) (dSet i t) := fun F0 H0 F H σ ρ D DH x S ht L =>
  h H0 F H σ ρ _ _ x.g S ht fun v F1 H1 d x1 r1 q1 => L.nx F1 H1 _ _ (x.trans x1) ((S.ext x1).set i (s := .sh d) ⟨v, rfl, r1⟩ fun _ _ z => nomatch z) q1
theorem Own.since {F0 H0 F H F' H' : Hp} {p : Addr} {d : PyData} (x : Ext C F0 H0 F H) (o : Own C H F' H' p d) : Own C H0 F' H' p d := o.back x
/-- a new own list stands apart from the slots' own ones -/
theorem apart_new {H0 F H F1 H1 : Hp} {σ : St} {ρ : Vn} (S : Slots C H0 F H σ ρ) {p : Addr} (hp : H p = none) {i : Nat} : ∀ q d, Slot.ow d = .ow d → V.ref p = .ref q → ∀ j e, j ≠ i → ρ[j]? = some (.ow e) → σ[j]? = some (some (.ref q)) → False := by
  intro q d _ e1 j e _ e2 e3
  cases e1
  obtain ⟨c, e4, o⟩ := S.get j _ _ e2 e3
  cases e4
  obtain ⟨u, e5⟩ := o.ct.there
  rw [hp] at e5; cases e5
@[simp] def dSetO (i : Nat) (t : DE) : DS := fun D ρ => t ρ fun d => D.nx (ρ.set i (.ow d))
theorem sims_setO {i : Nat} (h : SimF C th t) : SimS C (tAsg th (gName i)) (dSetO i t) := fun F0 H0 F H σ ρ D DH x S ht L =>
  h H0 F H σ ρ _ _ x.g S ht fun p F1 H1 d x1 o1 q1 => L.nx F1 H1 _ _ (x.trans x1) ((S.ext x1).set i (s := .ow d) ⟨p, rfl, o1.back x⟩ fun q e z1 z2 j f hj e1 e2 => by
    cases z2
    obtain ⟨c, e4, o⟩ := S.get j _ _ e1 e2
    cases e4
    obtain ⟨u, e5⟩ := o.ct.there
    rw [o1.n0] at e5; cases e5) q1
/-- name = a raw name, a constant that is raw -/
def dSetR (i j : Nat) : DS := fun D ρ => match ρ[j]? with
  | some (.raw v) => D.nx (ρ.set i (.raw v))
  | _ => False
@[simp] theorem dSetR_r {i j : Nat} {D : Ctl} {ρ : Vn} {v : V} (h : ρ[j]? = some (.raw v)) : dSetR i j D ρ = D.nx (ρ.set i (.raw v)) := by unfold dSetR; rw [h]
theorem sims_setR {i j : Nat} : SimS C (tAsg (tVar j) (gName i)) (dSetR i j) := by
  intro F0 H0 F H σ ρ D DH x S ht L
  unfold dSetR at ht
  split at ht
  · rename_i v e
    obtain ⟨o, e2, e3⟩ := S.at e
    cases (show o = some v from e3)
    exact ⟨v, e2, L.nx F H _ _ x (S.set i (s := .raw v) rfl fun _ _ z => nomatch z) ht⟩
  · exact ht.elim
/-- target = e -/
@[simp] def dAsg (t : DE) (g : DG) : DS := fun D ρ => t ρ fun d => g d ρ D.nx
theorem sims_asg {ks : List Nat} {g : TG} {gd : DG} (h : SimE C th t) (hg : SimG C ks g gd) : SimS C (tAsg th g) (dAsg t gd) := fun F0 H0 F H σ ρ D DH x S ht L =>
  h H0 F H σ ρ _ _ x.g S ht fun v F1 H1 d x1 r1 q1 => hg H0 F1 H1 σ ρ v d _ _ x1.g (S.ext x1) r1 q1 fun F2 H2 σ2 ρ2 x2 S2 _ q2 => L.nx F2 H2 σ2 ρ2 (x.trans (x1.trans x2)) S2 q2
@[simp] def dDrop (t : DE) : DS := fun D ρ => t ρ fun _ => D.nx ρ
theorem sims_drop (h : SimE C th t) : SimS C (tDrop th) (dDrop t) := fun F0 H0 F H σ ρ D DH x S ht L =>
  h H0 F H σ ρ _ _ x.g S ht fun v F1 H1 d x1 r1 q1 => L.nx F1 H1 σ ρ (x.trans x1) (S.ext x1) q1
/-- a, b = e, f (stored at once); each may be a new list kept as one's own -/
@[simp] def dPar (i j : Nat) (t u : DE) : DS := fun D ρ => t ρ fun d => u ρ fun e => D.nx ((ρ.set i (.sh d)).set j (.sh e))
@[simp] def dParFE (i j : Nat) (t u : DE) : DS := fun D ρ => t ρ fun d => u ρ fun e => D.nx ((ρ.set i (.ow d)).set j (.sh e))
@[simp] def dParEF (i j : Nat) (t u : DE) : DS := fun D ρ => t ρ fun d => u ρ fun e => D.nx ((ρ.set i (.sh d)).set j (.ow e))
@[simp] def dParFF (i j : Nat) (t u : DE) : DS := fun D ρ => t ρ fun d => u ρ fun e => D.nx ((ρ.set i (.ow d)).set j (.ow e))
theorem set_own {F0 H0 F H F1 H1 : Hp} {σ : St} {ρ : Vn} {p : Addr} {d : PyData} (x : Ext C F0 H0 F H) (S : Slots C H0 F H σ ρ) (x1 : Ext C F H F1 H1) (o1 : Own C H F1 H1 p d) (i : Nat) : Slots C H0 F1 H1 (σ.set i (some (.ref p))) (ρ.set i (.ow d)) :=
  (S.ext x1).set i (s := .ow d) ⟨p, rfl, o1.back x⟩ fun q e z1 z2 j f hj e1 e2 => by
    cases z2
    obtain ⟨c, e4, o⟩ := S.get j _ _ e1 e2
    cases e4
    obtain ⟨u, e5⟩ := o.ct.there
    rw [o1.n0] at e5; cases e5
theorem set_sh {H0 F H F1 H1 : Hp} {σ : St} {ρ : Vn} {v : V} {d : PyData} (S : Slots C H0 F H σ ρ) (x1 : Ext C F H F1 H1) (r : R C.K F1 v d) (i : Nat) : Slots C H0 F1 H1 (σ.set i (some v)) (ρ.set i (.sh d)) :=
  (S.ext x1).set i (s := .sh d) ⟨v, rfl, r⟩ fun _ _ z => nomatch z
theorem sims_par {i j : Nat} (h1 : SimE C tha ta) (h2 : SimE C thb tb) : SimS C (tPar i j (tCons tha (tCons thb tNil))) (dPar i j ta tb) := fun F0 H0 F H σ ρ D DH x S ht L => by
  refine h1 H0 F H σ ρ _ _ x.g S ht fun v F1 H1 d x1 r1 q1 => ?_
  refine h2 H0 F1 H1 σ ρ _ _ x1.g (S.ext x1) q1 fun w F2 H2 e x2 r2 q2 => ?_
  exact ⟨v, w, rfl, L.nx F2 H2 _ _ (x.trans (x1.trans x2)) (set_sh (set_sh (S.ext x1) x2 (r1.mono x2.ff) i) (.refl x2.g) r2 j) q2⟩
theorem sims_parFE {i j : Nat} (h1 : SimF C tha ta) (h2 : SimE C thb tb) : SimS C (tPar i j (tCons tha (tCons thb tNil))) (dParFE i j ta tb) := fun F0 H0 F H σ ρ D DH x S ht L => by
  refine h1 H0 F H σ ρ _ _ x.g S ht fun p F1 H1 d x1 o1 q1 => ?_
  refine h2 H0 F1 H1 σ ρ _ _ x1.g (S.ext x1) q1 fun w F2 H2 e x2 r2 q2 => ?_
  exact ⟨_, w, rfl, L.nx F2 H2 _ _ (x.trans (x1.trans x2)) (set_sh (set_own x S (x1.trans x2) (o1.ext x2) i) (.refl x2.g) r2 j) q2⟩
theorem sims_parEF {i j : Nat} (h1 : SimE C tha ta) (h2 : SimF C thb tb) : SimS C (tPar i j (tCons tha (tCons thb tNil))) (dParEF i j ta tb) := fun F0 H0 F H σ ρ D DH x S ht L => by
  refine h1 H0 F H σ ρ _ _ x.g S ht fun v F1 H1 d x1 r1 q1 => ?_
  refine h2 H0 F1 H1 σ ρ _ _ x1.g (S.ext x1) q1 fun w F2 H2 e x2 o2 q2 => ?_
  exact ⟨v, _, rfl, L.nx F2 H2 _ _ (x.trans (x1.trans x2)) (set_own (x.trans x1) (set_sh S x1 r1 i) x2 o2 j) q2⟩
theorem sims_parFF {i j : Nat} (h1 : SimF C tha ta) (h2 : SimF C thb tb) : SimS C (tPar i j (tCons tha (tCons thb tNil))) (dParFF i j ta tb) := fun F0 H0 F H σ ρ D DH x S ht L => by
  refine h1 H0 F H σ ρ _ _ x.g S ht fun p F1 H1 d x1 o1 q1 => ?_
  refine h2 H0 F1 H1 σ ρ _ _ x1.g (S.ext x1) q1 fun w F2 H2 e x2 o2 q2 => ?_
  exact ⟨_, _, rfl, L.nx F2 H2 _ _ (x.trans (x1.trans x2)) (set_own (x.trans x1) (set_own x S x1 o1 i) x2 o2 j) q2⟩
/-! ### if, return, break -/
@[simp] def dIf (c : DT) (a b : DS) : DS := fun D ρ => c ρ fun k => if k = true then a D ρ else b D ρ
theorem sims_if {tc : TT} {c : DT} (hc : SimT C tc c) (h1 : SimS C ts a) (h2 : SimS C us b) : SimS C (tIfS tc ts us) (dIf c a b) := fun F0 H0 F H σ ρ D DH x S ht L => by
  refine hc H0 F H σ ρ _ _ x.g S ht fun k F1 H1 x1 q1 => ?_
  cases k with
  | true => exact h1 F0 H0 F1 H1 σ ρ D DH (x.trans x1) (S.ext x1) q1 L
  | false => exact h2 F0 H0 F1 H1 σ ρ D DH (x.trans x1) (S.ext x1) q1 L
@[simp] def dRet (t : DE) : DS := fun D ρ => t ρ fun d => D.rt (.sh d)
theorem sims_ret (h : SimE C th t) : SimS C (tRet th) (dRet t) := fun F0 H0 F H σ ρ D DH x S ht L =>
  h H0 F H σ ρ _ _ x.g S ht fun v F1 H1 d x1 r1 q1 => L.rt F1 H1 v (.sh d) (x.trans x1) r1 q1
@[simp] def dRetO (t : DE) : DS := fun D ρ => t ρ fun d => D.rt (.ow d)
theorem sims_retO (h : SimF C th t) : SimS C (tRet th) (dRetO t) := fun F0 H0 F H σ ρ D DH x S ht L =>
  h H0 F H σ ρ _ _ x.g S ht fun p F1 H1 d x1 o1 q1 => L.rt F1 H1 _ (.ow d) (x.trans x1) ⟨p, rfl, o1.back x⟩ q1
/-- return name, the name's own list -/
def dRetV (i : Nat) : DS := fun D ρ => match ρ[i]? with
  | some (.ow d) => D.rt (.ow d)
  | some (.sh d) => D.rt (.sh d)
  | _ => False
@[simp] theorem dRetV_ow {i : Nat} {D : Ctl} {ρ : Vn} {d : PyData} (h : ρ[i]? = some (.ow d)) : dRetV i D ρ = D.rt (.ow d) := by unfold dRetV; rw [h]
@[simp] theorem dRetV_sh {i : Nat} {D : Ctl} {ρ : Vn} {d : PyData} (h : ρ[i]? = some (.sh d)) : dRetV i D ρ = D.rt (.sh d) := by unfold dRetV; rw [h]
theorem sims_retV {i : Nat} : SimS C (tRet (tVar i)) (dRetV i) := by
  intro F0 H0 F H σ ρ D DH x S ht L
  unfold dRetV at ht
  split at ht
  · rename_i d e
    obtain ⟨o, e2, p, e3, r⟩ := S.at e
    subst e3
    exact ⟨_, e2, L.rt F H _ (.ow d) x ⟨p, rfl, r⟩ ht⟩
  · rename_i d e
    obtain ⟨o, e2, v, e3, r⟩ := S.at e
    subst e3
    exact ⟨_, e2, L.rt F H v (.sh d) x r ht⟩
  · exact ht.elim
@[simp] def dRetN : DS := fun D _ => D.rt (.sh .none)
theorem sims_retN : SimS C tRetN dRetN := fun F0 H0 F H σ ρ D DH x S ht L => L.rt F H .non (.sh .none) x .non ht
@[simp] def dBreak : DS := fun D ρ => D.bk ρ
theorem sims_break : SimS C tBreak dBreak := fun F0 H0 F H σ ρ D DH x S ht L => L.bk F H σ ρ x S ht
@[simp] def dCont : DS := fun D ρ => D.ct ρ
theorem sims_cont : SimS C tCont dCont := fun F0 H0 F H σ ρ D DH x S ht L => L.ct F H σ ρ x S ht
/-! ### a slot's own list is frozen -/
@[simp] def frzE (i : Nat) (ρ : Vn) : Vn := match ρ[i]? with
  | some (.ow d) => ρ.set i (.sh d)
  | _ => ρ
theorem Ext.frz {F0 H0 F H : Hp} {p : Addr} {d : PyData} {u : HO} (x : Ext C F0 H0 F H) (o : Own C H0 F H p d) (eu : H p = some u) : Ext C F0 H0 (upd F p u) H := by
  have ff : Same F (upd F p u) := fun b z q => by rw [upd_ne (ne_of_none q o.nf)]; exact q
  refine ⟨x.ff.trans ff, ⟨fun b z q => ?_, x.g.ok, fun b s => ?_⟩, x.hh, fun b z q => ?_⟩
  · by_cases hb : b = p
    · subst hb; rw [upd_same] at q; cases q; exact eu
    · rw [upd_ne hb] at q; exact x.g.fh b z q
  · rw [upd_ne (fun z : b = p => o.ns (z ▸ s))]; exact x.g.fs b s
  · by_cases hb : b = p
    · subst hb; exact .inr o.n0
    · rw [upd_ne hb] at q; exact x.nw b z q
theorem Cont.frz {K : PySem.W.Frag} {F H : Hp} {p : Addr} {d : PyData} {u : HO} (c : Cont K F H p d) (nf : F p = none) (eu : H p = some u) : R K (upd F p u) (.ref p) d := by
  have ff : Same F (upd F p u) := fun b z q => by rw [upd_ne (ne_of_none q nf)]; exact q
  cases d with
  | list ds =>
    obtain ⟨vs, q, l, r⟩ := c
    rw [eu] at q; cases q
    exact .lst upd_same l (r.mono ff)
  | dict ds =>
    obtain ⟨vs, q, l, r⟩ := c
    rw [eu] at q; cases q
    exact .dct upd_same l (r.mono ff)
  | _ => exact c.elim
theorem frz_ok {F0 H0 F H : Hp} {σ : St} {ρ : Vn} (i : Nat) (x : Ext C F0 H0 F H) (S : Slots C H0 F H σ ρ) : ∃ F', Ext C F0 H0 F' H ∧ Slots C H0 F' H σ (frzE i ρ) := by
  unfold frzE
  split
  · rename_i d e
    obtain ⟨o, e2, p, e3, r⟩ := S.at e
    subst e3
    have hi : i < ρ.length := (List.getElem?_eq_some_iff.mp e).1
    obtain ⟨u, eu⟩ := r.ct.there
    have ff : Same F (upd F p u) := fun b z q => by rw [upd_ne (ne_of_none q r.nf)]; exact q
    refine ⟨upd F p u, x.frz r eu, by rw [List.length_set, S.len], fun j t o e4 e5 => ?_, fun j k a d' e' hne e4 e5 e6 e7 => ?_⟩
    · by_cases h : i = j
      · subst h
        rw [List.getElem?_set_self hi] at e4
        rw [e2] at e5
        cases e4; cases e5
        exact ⟨_, rfl, r.ct.frz r.nf eu⟩
      · rw [List.getElem?_set_ne h] at e4
        have q := S.get j t o e4 e5
        cases t with
        | un => trivial
        | sh d => obtain ⟨v, q1, q2⟩ := q; exact ⟨v, q1, q2.mono ff⟩
        | raw v => exact q
        | so => exact q
        | lk dd =>
          cases dd with
          | dict ds => obtain ⟨a, ob, kvs, q0, q1, q2, q3⟩ := q; exact ⟨a, ob, kvs, q0, q1, q2, q3.mono ff⟩
          | _ => exact q
        | ow d' =>
          obtain ⟨a, q1, q2⟩ := q
          subst q1
          have ne : a ≠ p := fun z => by
            subst z
            exact S.apart i j a d d' h e e4 e2 e5
          exact ⟨a, rfl, by rw [upd_ne ne]; exact q2.nf, q2.n0, q2.ns, q2.ct.mono ff rfl⟩
    · have n1 : i ≠ j := fun z => by
        subst z
        rw [List.getElem?_set_self hi] at e4; cases e4
      have n2 : i ≠ k := fun z => by
        subst z
        rw [List.getElem?_set_self hi] at e5; cases e5
      rw [List.getElem?_set_ne n1] at e4
      rw [List.getElem?_set_ne n2] at e5
      exact S.apart j k a d' e' hne e4 e5 e6 e7
  · exact ⟨F, x, S⟩
@[simp] def dFrz (i : Nat) (a : DS) : DS := fun D ρ => a D (frzE i ρ)
theorem sims_frz {i : Nat} (h : SimS C ts a) : SimS C ts (dFrz i a) := fun F0 H0 F H σ ρ D DH x S ht L => by
  obtain ⟨F', x', S'⟩ := frz_ok i x S
  exact h F0 H0 F' H σ _ D DH x' S' ht L

/-! ### loops -/
theorem Ext.rebase {F0 H0 F1 H1 F H : Hp} (x1 : Ext C F0 H0 F1 H1) (s : Same F1 F) (x : Ext C F0 H0 F H) : Ext C F1 H0 F H := ⟨s, x.g, x.hh, fun a o e => by
  rcases x.nw a o e with z | z
  · exact .inl (x1.ff a o z)
  · exact .inr z⟩
theorem Ext.unbase {F0 H0 F1 H1 F H : Hp} (x1 : Ext C F0 H0 F1 H1) (x : Ext C F1 H0 F H) : Ext C F0 H0 F H := ⟨x1.ff.trans x.ff, x.g, x.hh, fun a o e => by
  rcases x.nw a o e with z | z
  · exact x1.nw a o z
  · exact .inr z⟩
@[simp] def forD (g : DG) (b : DS) (D : Ctl) : List PyData → Vn → Prop
  | [], ρ => D.nx ρ
  | d :: ds, ρ => g d ρ fun ρ1 => b { D with nx := forD g b D ds, ct := forD g b D ds, bk := D.nx } ρ1
@[simp] def dFor (ti : DL) (g : DG) (b : DS) : DS := fun D ρ => ti ρ fun ds => forD g b D ds ρ
theorem sims_for {wi : TI} {ti : DL} {g : TG} {gd : DG} {ks : List Nat} (hi : SimI C wi ti) (hg : SimG C ks g gd) (hb : SimS C ts a) : SimS C (tFor wi g ts) (dFor ti gd a) := fun F0 H0 F H σ ρ D DH x S ht L => by
  refine hi H0 F H σ ρ _ _ x.g S ht fun J F1 H1 ds G x1 io st z q1 => ?_
  have y1 := x.trans x1
  let P : Nat → St → Hp → Prop := fun i σ' H' => i ≤ ds.length ∧ ∃ (F' : Hp) (ρ' : Vn), Ext C F1 H0 F' H' ∧ Slots C H0 F' H' σ' ρ' ∧ forD gd a D (ds.drop i) ρ'
  refine ⟨fun i m σ' H' => m = ds.length - i ∧ P i σ' H', ⟨_, rfl, Nat.zero_le _, F1, ρ, y1.rebase (.refl _) y1, S.ext x1, by rw [List.drop_zero]; exact q1⟩, ?_⟩
  rintro i m σ' H' ⟨rfl, hle, F', ρ', x', S', q'⟩
  have gi : G H' := st H' (x'.ff.trans x'.g.fh)
  by_cases hlt : i < ds.length
  · refine .inr ⟨io.go i H' hlt gi, P (i + 1), fun σ2 H2 p2 => ⟨ds.length - (i + 1), by omega, rfl, p2⟩, fun v H2 hy => ?_⟩
    have hd : ds[i]? = some ds[i] := by simp [hlt]
    rw [List.drop_eq_getElem_cons hlt] at q'
    obtain ⟨F2, x2, r2⟩ := io.yld i F' H' v H2 _ hd gi x'.g x'.ff hy
    refine hg H0 F2 H2 σ' ρ' v _ _ _ x2.g (S'.ext x2) r2 q' fun F3 H3 σ3 ρ3 x3 S3 _ q3 => ?_
    refine hb F1 H0 F3 H3 σ3 ρ3 _ _ (x'.trans (x2.trans x3)) S3 q3 ⟨fun F4 H4 σ4 ρ4 x4 S4 q4 => ⟨hlt, F4, ρ4, x4, S4, q4⟩, fun F4 H4 v4 rv x4 r4 q4 => L.rt F4 H4 v4 rv (y1.unbase x4) r4 q4, fun F4 H4 σ4 ρ4 x4 S4 q4 => L.nx F4 H4 σ4 ρ4 (y1.unbase x4) S4 q4, fun F4 H4 σ4 ρ4 x4 S4 q4 => ⟨hlt, F4, ρ4, x4, S4, q4⟩⟩
  · have e : i = ds.length := by omega
    subst e
    rw [List.drop_length] at q'
    exact .inl ⟨io.stop H' gi, L.nx F' H' σ' ρ' (y1.unbase x') S' q'⟩
def whileD (c : DT) (b : DS) (D : Ctl) : Nat → Vn → Prop
  | 0, _ => False
  | n + 1, ρ => c ρ fun k => if k = true then b { D with nx := whileD c b D n, ct := whileD c b D n, bk := D.nx } ρ else D.nx ρ
def dWhile (c : DT) (b : DS) : DS := fun D ρ => ∃ n, whileD c b D n ρ
theorem sims_while {tc : TT} {c : DT} (hc : SimT C tc c) (hb : SimS C ts a) : SimS C (tWhile tc ts) (dWhile c a) := fun F0 H0 F H σ ρ D DH x S ⟨n, hn⟩ L => by
  refine ⟨fun m σ' H' => ∃ (F' : Hp) (ρ' : Vn), Ext C F0 H0 F' H' ∧ Slots C H0 F' H' σ' ρ' ∧ whileD c a D m ρ', ⟨n, F, ρ, x, S, hn⟩, ?_⟩
  rintro m σ' H' ⟨F', ρ', x', S', q'⟩
  cases m with
  | zero => exact q'.elim
  | succ m =>
    refine hc H0 F' H' σ' ρ' _ _ x'.g S' q' fun k F1 H1 x1 q1 => ?_
    cases k with
    | false => exact L.nx F1 H1 σ' ρ' (x'.trans x1) (S'.ext x1) q1
    | true =>
      refine ⟨fun σ2 H2 => ∃ (F2 : Hp) (ρ2 : Vn), Ext C F0 H0 F2 H2 ∧ Slots C H0 F2 H2 σ2 ρ2 ∧ whileD c a D m ρ2, fun σ2 H2 h2 => ⟨m, Nat.lt_succ_self _, h2⟩, ?_⟩
      exact hb F0 H0 F1 H1 σ' ρ' _ _ (x'.trans x1) (S'.ext x1) q1 ⟨fun F4 H4 σ4 ρ4 x4 S4 q4 => ⟨F4, ρ4, x4, S4, q4⟩, L.rt, fun F4 H4 σ4 ρ4 x4 S4 q4 => L.nx F4 H4 σ4 ρ4 x4 S4 q4, fun F4 H4 σ4 ρ4 x4 S4 q4 => ⟨F4, ρ4, x4, S4, q4⟩⟩

/-! ### changes of a slot's own list -/
theorem own_write {F0 H0 F H : Hp} {σ : St} {ρ : Vn} {i : Nat} {p : Addr} {d d' : PyData} {o' : HO} (x : Ext C F0 H0 F H) (S : Slots C H0 F H σ ρ) (e : ρ[i]? = some (.ow d)) (e2 : σ[i]? = some (some (.ref p))) (r : Own C H0 F H p d)
    (c : Cont C.K F (upd H p o') p d') : Ext C F0 H0 F (upd H p o') ∧ Slots C H0 F (upd H p o') σ (ρ.set i (.ow d')) := by
  have hi : i < ρ.length := (List.getElem?_eq_some_iff.mp e).1
  refine ⟨x.updO r.n0 r.nf r.ns, by rw [List.length_set, S.len], fun j t o e4 e5 => ?_, fun j k a f g hne e4 e5 e6 e7 => ?_⟩
  · by_cases h : i = j
    · subst h
      rw [List.getElem?_set_self hi] at e4
      rw [e2] at e5
      cases e4; cases e5
      exact ⟨p, rfl, r.nf, r.n0, r.ns, c⟩
    · rw [List.getElem?_set_ne h] at e4
      have q := S.get j t o e4 e5
      cases t with
      | un => trivial
      | sh d => exact q
      | raw v => exact q
      | so => exact q
      | lk dd =>
        cases dd with
        | dict ds =>
          obtain ⟨a, ob, kvs, q0, q1, q2, q3⟩ := q
          have ne : a ≠ p := fun z => by
            subst z
            obtain ⟨u, eu⟩ := r.ct.there
            have c := r.ct
            cases d with
            | list ds => obtain ⟨vs, w, _⟩ := c; rw [q2] at w; cases w
            | dict ds => obtain ⟨vs, w, _⟩ := c; rw [q2] at w; cases w
            | _ => exact c.elim
          exact ⟨a, ob, kvs, q0, q1, by rw [upd_ne ne]; exact q2, q3⟩
        | _ => exact q
      | ow d2 =>
        obtain ⟨a, q1, q2⟩ := q
        subst q1
        have ne : a ≠ p := fun z => by
          subst z
          exact S.apart i j a d d2 h e e4 e2 e5
        exact ⟨a, rfl, q2.nf, q2.n0, q2.ns, q2.ct.mono (.refl _) (upd_ne ne)⟩
  · by_cases h1 : i = j
    · subst h1
      rw [List.getElem?_set_ne hne] at e5
      exact S.apart i k a d g hne e e5 e6 e7
    · rw [List.getElem?_set_ne h1] at e4
      by_cases h2 : i = k
      · subst h2
        exact S.apart j i a f d hne e4 e e6 e7
      · rw [List.getElem?_set_ne h2] at e5
        exact S.apart j k a f g hne e4 e5 e6 e7
def dApp (i : Nat) (t : DE) : DS := fun D ρ => match ρ[i]? with
  | some (.ow (.list ds)) => t ρ fun d => ds.length < sizeLine ∧ D.nx (ρ.set i (.ow (.list (ds ++ [d]))))
  | _ => False
@[simp] theorem dApp_ow {i : Nat} {t : DE} {D : Ctl} {ρ : Vn} {ds : List PyData} (h : ρ[i]? = some (.ow (.list ds))) : dApp i t D ρ = t ρ fun d => ds.length < sizeLine ∧ D.nx (ρ.set i (.ow (.list (ds ++ [d])))) := by unfold dApp; rw [h]
theorem sims_app {i : Nat} (h : SimE C th t) : SimS C (tDrop (tBM C.K "list" rAppend (tVar i) (tCons th tNil))) (dApp i t) := by
  intro F0 H0 F H σ ρ D DH x S ht L
  unfold dApp at ht
  split at ht
  · rename_i ds e
    obtain ⟨o, e2, p, e3, r⟩ := S.at e
    subst e3
    obtain ⟨vs, ev, l, rv⟩ := id r.ct
    refine ⟨_, e2, .inl ⟨rfl, vs, SqL.of ev⟩, ?_⟩
    refine h H0 F H σ ρ _ _ x.g S ht fun v F1 H1 d x1 r1 ⟨z, q1⟩ => ?_
    have S1 := S.ext x1
    obtain ⟨vs1, ev1, l1, rv1⟩ := id (r.ext x1).ct
    have hl := rv1.length
    obtain ⟨y, T⟩ := own_write (o' := .lst (vs1 ++ [v])) (d' := .list (ds ++ [d])) (x.trans x1) S1 e e2 (r.ext x1) ⟨_, upd_same, by rw [List.length_append]; simp; omega, rv1.snoc r1⟩
    exact ⟨p, vs1, v, rfl, rfl, ev1, by omega, L.nx F1 _ σ _ y T q1⟩
  · exact ht.elim
@[simp] def dExt (i : Nat) (t : DE) : DS := fun D ρ => match ρ[i]? with
  | some (.ow (.list ds)) => t ρ fun d => match d with
    | .list es => ds.length + es.length ≤ sizeLine ∧ D.nx (ρ.set i (.ow (.list (ds ++ es))))
    | _ => False
  | _ => False
theorem sims_ext {i : Nat} (h : SimE C th t) : SimS C (tDrop (tBM C.K "list" rExtend (tVar i) (tCons th tNil))) (dExt i t) := by
  intro F0 H0 F H σ ρ D DH x S ht L
  unfold dExt at ht
  split at ht
  · rename_i ds e
    obtain ⟨o, e2, p, e3, r⟩ := S.at e
    subst e3
    obtain ⟨vs, ev, l, rv⟩ := id r.ct
    refine ⟨_, e2, .inl ⟨rfl, vs, SqL.of ev⟩, ?_⟩
    refine h H0 F H σ ρ _ _ x.g S ht fun v F1 H1 d x1 r1 q1 => ?_
    cases d with
    | list es =>
      obtain ⟨z, q1⟩ := q1
      have S1 := S.ext x1
      obtain ⟨vs1, ev1, l1, rv1⟩ := id (r.ext x1).ct
      have hl := rv1.length
      cases r1 with
      | lst eb lb rb =>
        have hlb := rb.length
        obtain ⟨y, T⟩ := own_write (o' := .lst (vs1 ++ _)) (d' := .list (ds ++ es)) (x.trans x1) S1 e e2 (r.ext x1) ⟨_, upd_same, by rw [List.length_append]; omega, rv1.append rb⟩
        exact ⟨p, _, vs1, _, rfl, rfl, ev1, x1.g.fh _ _ eb, by omega, L.nx F1 _ σ _ y T q1⟩
    | _ => exact q1.elim
  · exact ht.elim
/-- name = xs.pop(), xs.pop(k) -/
@[simp] def dPop (i j : Nat) : DS := fun D ρ => match ρ[i]? with
  | some (.ow (.list ds)) => ∃ d, ds[ds.length - 1]? = some d ∧ D.nx ((ρ.set i (.ow (.list ds.dropLast))).set j (.sh d))
  | _ => False
theorem sims_pop {i j : Nat} : SimS C (tAsg (tBM0 C.K "list" rPop (tVar i)) (gName j)) (dPop i j) := by
  intro F0 H0 F H σ ρ D DH x S ht L
  unfold dPop at ht
  split at ht
  · rename_i ds e
    obtain ⟨o, e2, p, e3, r⟩ := S.at e
    subst e3
    obtain ⟨vs, ev, l, rv⟩ := id r.ct
    obtain ⟨d, hd, q⟩ := ht
    have hl := rv.length
    obtain ⟨v, hv, rd⟩ := rv.get' hd
    refine ⟨_, e2, .inl ⟨rfl, vs, SqL.of ev⟩, p, vs, v, rfl, rfl, ev, by rw [hl]; exact hv, ?_⟩
    obtain ⟨y, T⟩ := own_write (o' := .lst vs.dropLast) (d' := .list ds.dropLast) x S e e2 r ⟨_, upd_same, by rw [List.length_dropLast]; omega, rv.dropLast⟩
    exact L.nx F _ _ _ y (set_sh T (.refl y.g) rd j) q
  · exact ht.elim
@[simp] def dPopAt (i j : Nat) (t : DE) : DS := fun D ρ => match ρ[i]? with
  | some (.ow (.list ds)) => t ρ fun e => match e with
    | .int n => ∃ k d, -(2 ^ 63) ≤ n ∧ n < 2 ^ 63 ∧ seqIndex? n ds.length = some k ∧ ds[k]? = some d ∧ D.nx ((ρ.set i (.ow (.list (ds.eraseIdx k)))).set j (.sh d))
    | _ => False
  | _ => False
theorem sims_popAt {i j : Nat} (h : SimP C th t) : SimS C (tAsg (tBM C.K "list" rPopAt (tVar i) (tCons th tNil)) (gName j)) (dPopAt i j t) := by
  intro F0 H0 F H σ ρ D DH x S ht L
  unfold dPopAt at ht
  split at ht
  · rename_i ds e
    obtain ⟨o, e2, p, e3, r⟩ := S.at e
    subst e3
    obtain ⟨vs, ev, l, rv⟩ := id r.ct
    refine ⟨_, e2, .inl ⟨rfl, vs, SqL.of ev⟩, ?_⟩
    refine h H0 F H σ ρ _ _ x.g S ht fun v F1 H1 z x1 r1 q1 => ?_
    cases z with
    | int n =>
      obtain ⟨k, d, h1, h2, h3, h4, q⟩ := q1
      have S1 := S.ext x1
      obtain ⟨vs1, ev1, l1, rv1⟩ := id (r.ext x1).ct
      have hl := rv1.length
      obtain ⟨w, hw, rd⟩ := rv1.get' h4
      have ev2 : v = .int n := by
        rcases r1 with r1 | ⟨a, _, _, c⟩
        · cases r1; rfl
        · exact c.elim
      subst ev2
      obtain ⟨y, T⟩ := own_write (o' := .lst (vs1.eraseIdx k)) (d' := .list (ds.eraseIdx k)) (x.trans x1) S1 e e2 (r.ext x1) ⟨_, upd_same, Nat.le_trans (List.length_eraseIdx_le _ _) l1, rv1.eraseIdx k⟩
      exact ⟨p, vs1, n, k, w, rfl, rfl, ev1, h1, h2, by rw [hl]; exact h3, hw, L.nx F1 _ _ _ y (set_sh T (.refl y.g) rd j) q⟩
    | _ => exact q1.elim
  · exact ht.elim
/-! ### x op= e -/
def dAug (f : D2) (i : Nat) (t : DE) : DS := fun D ρ => match ρ[i]? with
  | some (.sh d) => t ρ fun e => f d e fun z => D.nx (ρ.set i (.sh z))
  | _ => False
@[simp] theorem dAug_sh {f : D2} {i : Nat} {t : DE} {D : Ctl} {ρ : Vn} {d : PyData} (h : ρ[i]? = some (.sh d)) : dAug f i t D ρ = t ρ fun e => f d e fun z => D.nx (ρ.set i (.sh z)) := by unfold dAug; rw [h]
theorem sims_aug {r : R2} {f : D2} {i : Nat} (ho : SimOp C r f) (h : SimP C th t) : SimS C (tAug i th r) (dAug f i t) := by
  intro F0 H0 F H σ ρ D DH x S ht L
  unfold dAug at ht
  split at ht
  · rename_i d e
    obtain ⟨o, e2, v, e3, r⟩ := S.at e
    subst e3
    refine ⟨v, e2, ?_⟩
    refine h H0 F H σ ρ _ _ x.g S ht fun w F1 H1 e x1 r1 q1 => ?_
    exact ho F1 H1 v w d e _ _ x1.g (.inl (r.mono x1.ff)) r1 q1 fun u F2 H2 z x2 r2 q2 => L.nx F2 H2 _ _ (x.trans (x1.trans x2)) (set_sh (S.ext x1) x2 r2 i) q2
  · exact ht.elim
end

/-! ### a def's promise, from its body -/
def slotOf : AV → Slot
  | .d x => .sh x
  | .r v => .raw v
  | .s => .so
def env0 (n : Nat) (as : List AV) : Vn := as.map slotOf ++ List.replicate (n - as.length) .un
theorem slots0 {C : Cfg} {F H : Hp} {N : List Str} {as : List AV} {vs : List V} (g : Good C F H) (r : AVs C F as vs) : Slots C H F H (L2.start N vs) (env0 N.length as) := by
  have hl := r.length
  have noOw : ∀ i d, (env0 N.length as)[i]? ≠ some (Slot.ow d) := fun (i : Nat) (d : PyData) e => by
    unfold env0 at e
    rw [List.getElem?_append] at e
    split at e
    · rw [List.getElem?_map] at e
      cases q : as[i]? with
      | none => rw [q] at e; cases e
      | some a => rw [q] at e; cases a <;> cases e
    · rw [List.getElem?_replicate] at e
      split at e <;> cases e
  refine ⟨by unfold env0 L2.start; simp [hl], fun i s o e1 e2 => ?_, fun i j a d e _ e1 _ _ _ => absurd e1 (noOw i d)⟩
  unfold env0 at e1
  unfold L2.start at e2
  rw [List.getElem?_append] at e1 e2
  simp only [List.length_map, hl] at e1 e2
  by_cases hi : i < vs.length
  · rw [if_pos hi] at e1 e2
    rw [List.getElem?_map] at e1 e2
    cases q : as[i]? with
    | none => rw [q] at e1; cases e1
    | some a =>
      cases q' : vs[i]? with
      | none => rw [q'] at e2; cases e2
      | some v =>
        rw [q] at e1
        rw [q'] at e2
        cases e1; cases e2
        have rr : ∀ {as : List AV} {vs : List V} {i : Nat} {a : AV} {v : V}, AVs C F as vs → as[i]? = some a → vs[i]? = some v → AVR C F a v := by
          intro as vs i a v h
          induction h generalizing i with
          | nil => intro e; simp at e
          | cons h1 h2 ih =>
            intro e1 e2
            cases i with
            | zero => simp at e1 e2; subst e1; subst e2; exact h1
            | succ i => exact ih (by simpa using e1) (by simpa using e2)
        have := rr r q q'
        cases a with
        | d x => exact ⟨v, rfl, this⟩
        | r w => exact congrArg some this
        | s =>
          have t : C.src = some v := this
          exact ⟨by rw [t]; simp, t.symm⟩
  · rw [if_neg hi] at e1 e2
    rw [List.getElem?_replicate] at e1
    split at e1
    · cases e1; trivial
    · cases e1
abbrev Wp := List AV → (PyData → Prop) → Prop
def ctlS (Qd : PyData → Prop) : Ctl := { nx := fun _ => Qd .none, rt := fun rv => match rv with
  | .sh d => Qd d
  | .ow d => Qd d }
def ctlO (Qd : PyData → Prop) : Ctl := { nx := fun _ => False, rt := fun rv => match rv with
  | .sh d => False
  | .ow d => Qd d }
theorem spS_of {C : Cfg} {N : List Str} {wp : Wp} {th : TS} {t : DS} (hs : SimS C th t) (hb : ∀ as Qd, wp as Qd → t (ctlS Qd) (env0 N.length as)) (vs : List V) (H : Hp) (Q : VK) (E : XK) (h : spS C wp vs H Q E) :
    th { nx := fun _ H' => Q .non H', rt := Q } (L2.start N vs) H := by
  obtain ⟨F, as, Qd, g, r, w, k⟩ := h
  refine hs F H F H _ _ (ctlS Qd) _ (.refl g) (slots0 g r) (hb as Qd w) ⟨fun F' H' σ ρ x S q => k .non F' H' .none x .non q, fun F' H' v rv x rr q => ?_, fun _ _ _ _ _ _ q => q.elim, fun _ _ _ _ _ _ q => q.elim⟩
  cases rv with
  | sh d => exact k v F' H' d x rr q
  | ow d =>
    obtain ⟨a, e, o⟩ := rr
    subst e
    obtain ⟨F'', x', r'⟩ := freeze x o
    exact k _ F'' H' d x' r' q
theorem spO_of {C : Cfg} {N : List Str} {wp : Wp} {th : TS} {t : DS} (hs : SimS C th t) (hb : ∀ as Qd, wp as Qd → t (ctlO Qd) (env0 N.length as)) (vs : List V) (H : Hp) (Q : VK) (E : XK) (h : spO C wp vs H Q E) :
    th { nx := fun _ H' => Q .non H', rt := Q } (L2.start N vs) H := by
  obtain ⟨F, as, Qd, g, r, w, k⟩ := h
  refine hs F H F H _ _ (ctlO Qd) _ (.refl g) (slots0 g r) (hb as Qd w) ⟨fun F' H' σ ρ x S q => q.elim, fun F' H' v rv x rr q => ?_, fun _ _ _ _ _ _ q => q.elim, fun _ _ _ _ _ _ q => q.elim⟩
  cases rv with
  | sh d => exact q.elim
  | ow d =>
    obtain ⟨a, e, o⟩ := rr
    subst e
    exact k a F' H' d x o q
theorem spS_len {C : Cfg} {wp : Wp} {n : Nat} (hn : ∀ as Qd, wp as Qd → as.length = n) (vs : List V) (H : Hp) (Q : VK) (E : XK) (h : spS C wp vs H Q E) : vs.length = n := by
  obtain ⟨F, as, Qd, g, r, w, k⟩ := h
  rw [← r.length]; exact hn as Qd w
theorem spO_len {C : Cfg} {wp : Wp} {n : Nat} (hn : ∀ as Qd, wp as Qd → as.length = n) (vs : List V) (H : Hp) (Q : VK) (E : XK) (h : spO C wp vs H Q E) : vs.length = n := by
  obtain ⟨F, as, Qd, g, r, w, k⟩ := h
  rw [← r.length]; exact hn as Qd w
end VL

set_option Elab.async false
set_option linter.all false
set_option maxRecDepth 100000
set_option maxHeartbeats 4000000
/-! VLFn: promises of defs that are called where no repr runs (what the model asks of repr), by data. -/
namespace VL
open PySem PySem.Spec L2

/-- a def's promise, where the row of running reprs is known to be empty -/
structure FnG (P : Program) (w : World) (K : PySem.W.Frag) (mg : Str → Option Value) (base : Heap) (CX : CXT) (k : Nat) (f : Addr) (fd : FuncData) (ps : List Str) (sp : Sp) : Prop where
  len : ∀ vs H Q E, sp vs H Q E → vs.length = ps.length
  run : ∀ (A : Around) (outer : List Env) (s : Shared) (H : Hp) (args : Args) (us : List Value) (vs : List V) (Q : VK) (E : XK), A.guards = some [] → Room k A →
    Env0 P w K mg base A outer s H → BindsTo s fd args (ps.zip us) → Vals vs us → sp vs H Q E → codeAny (model P w) A (.call (.ref f) args) (CR CX outer P w H s Q E) s
section
variable {P : Program} {w : World} {K : PySem.W.Frag} {mg : Str → Option Value} {base : Heap} {CX : CXT} {k j : Nat} {f : Addr} {fd : FuncData} {ps : List Str} {sp : Sp}
theorem FnG.mono (G : FnG P w K mg base CX j f fd ps sp) (h : j ≤ k) : FnG P w K mg base CX k f fd ps sp :=
  ⟨G.len, fun A outer s H args us vs Q E hg hr => G.run A outer s H args us vs Q E hg (hr.mono h)⟩
theorem FnG.imp {sp' : Sp} (G : FnG P w K mg base CX k f fd ps sp) (h : ∀ vs H Q E, sp' vs H Q E → sp vs H Q E) : FnG P w K mg base CX k f fd ps sp' :=
  ⟨fun vs H Q E q => G.len vs H Q E (h _ _ _ _ q), fun A outer s H args us vs Q E hg hr he hb hv q => G.run A outer s H args us vs Q E hg hr he hb hv (h _ _ _ _ q)⟩
/-- a promise that nobody asks for -/
theorem FnG.never (h : ∀ vs H Q E, ¬ sp vs H Q E) : FnG P w K mg base CX k f fd ps sp :=
  ⟨fun vs H Q E q => (h _ _ _ _ q).elim, fun A outer s H args us vs Q E _ _ _ _ _ q => (h _ _ _ _ q).elim⟩
end
/-- the promise of a def of the text from its body's reading -/
theorem fnG_of {CX : CXT} {P : Program} {w : World} {K : PySem.W.Frag} {mg : Str → Option Value} {base : Heap} {k : Nat} {f : Addr} {x qual : Str} {params : Arguments} {body : List Stmt} {scope : Scope} {dvs : List V} {kws : List (Str × V)} {fd : FuncData}
    {N ps : List Str} {sp : Sp} (F : FunD K x qual params body scope dvs kws f fd) (S : FnScope N ps scope) (len : ∀ vs H Q E, sp vs H Q E → vs.length = ps.length)
    (hbody : ∀ (cdv : Value) (A : Around) (outer : List Env) (s : Shared) (H : Hp) (vs : List V) (Q : VK) (E : XK), A.guards = some [] → Room k (A.deeper (PyProof.Rows.envOfC qual scope s.heap.objs.size f cdv)) → sp vs H Q E →
      ∃ t, PSs (cxOf CX P w K mg base N qual scope f cdv A outer s H E) body t ∧ t { nx := fun _ H' => Q .non H', rt := Q } (L2.start N vs) H) : FnG P w K mg base CX (k + 1) f fd ps sp := by
  refine ⟨len, ?_⟩
  intro A outer s H args us vs Q E hg hr e0 hb r hsp
  -- one entry at a time: at this entry alone the body's reading is wanted
  obtain ⟨oc, od, dV, kV, doc, pm, an, cdv, ct, osl, rfl, lk, hcd, _, _⟩ := F.ex
  have hl := len _ _ _ _ hsp
  have KX : K.In s.heap := e0.mod.kin.keeps (fun b o e => (e0.bs b o e).1)
  have lim : s.heap.NoLimit := e0.mod.nolimit.keeps (fun b o e => (e0.bs b o e).1)
  have kinds : ∀ y ∈ ps.zip us, scope.names.lookup y.1 = some .local ∨ (scope.names.lookup y.1 = some .cell ∧ ((PySem.cellsFrom (s.heap.objs.size + 1) scope.names []).lookup y.1).isSome = true) := by
    intro y hy
    obtain ⟨n, v⟩ := y
    rcases S.par n (List.of_mem_zip hy).1 with q | q
    · exact Or.inl q
    · exact Or.inr ⟨q, PySem.W.cellsFrom_some _ _ _ (Or.inl q)⟩
  refine codeAny_call_function hr.depth (KX _ _ lk) rfl S.co S.gen rfl (PySem.W.codeRec_of KX hcd) (hb _ _ _ _ ?_)
  refine wpAny_newFunctionEnv_cells S.kind kinds (fun env he s1 x => ?_)
  cases he
  refine ⟨lim.keeps x.toInCall.keep, codeAny_func ?_⟩
  obtain ⟨t, ht, hq⟩ := hbody cdv A outer s H vs Q E hg (hr.deeper _) hsp
  have I : Inv (cxOf CX P w K mg base N qual scope f cdv A outer s H E) [] (L2.start N vs) H s1 := inv_start S hr.hd e0 hl r x
  have fin : ∀ {σ' : St} {H' : Hp} {v : V} {u : Value} {s' : Shared}, Inv (cxOf CX P w K mg base N qual scope f cdv A outer s H E) [] σ' H' s' → RelV v u → Q v H' → CE outer P w H s Q u s' :=
    fun {σ' H' v u s'} J rv q => ⟨v, H', J.os, J.bare, J.base, J.hok, rv, q⟩
  refine wpAny_mono (ht.run [] s1 (L2.start N vs) H _ I hq) (fun fl s' hs => ?_) (fun e s' hs => hs)
  match fl, hs with
  | .ret u, ⟨v, σ', H', J, rv, q⟩ => exact fin J rv q
  | .next, ⟨σ', H', J, q⟩ => exact fin (v := V.non) (u := Value.none) J rfl q
  | .brk, ⟨_, _, _, q⟩ => exact False.elim q
  | .cont, ⟨_, _, _, q⟩ => exact False.elim q
section
variable {X : Cx} {CX : CXT} {k : Nat} {f : Addr} {fd : FuncData} {ps : List Str} {sp : Sp} {dvs : List V} {ds : List Value} {E : XK} {x : Str} {p pos : Pos} {e : Expr} {es : List Expr} {t : TA}
theorem run_fnG {pins : List (Addr × Obj)} {σ : St} {H : Hp} {s : Shared} {Q : VK} {us : List Value} {vs : List V} (F : FnG X.prog X.w X.K X.mg X.base CX k f fd ps sp) (hg : X.A.guards = some []) (hr : Room k X.A) (hb : Binds X.K fd ps ds)
    (hd : Vals dvs ds) (hx : Passes CX X E) (I : Inv X pins σ H s) (r : Vals vs us) (h : sp (vs ++ dvs) H Q E) : wpAny (model X.prog X.w) X.A (call (.ref f) us) (EP X pins σ Q) X.xe s := by
  have r2 : Vals (vs ++ dvs) (us ++ ds) := r.append hd
  have hl : (us ++ ds).length = ps.length := r2.length ▸ F.len _ _ _ _ h
  have c := F.run X.A X.stack s H ⟨us, []⟩ (us ++ ds) (vs ++ dvs) Q E hg hr I.env0 (hb s us I.kIn hl) r2 h
  refine wpAny_call (codeAny_mono c (fun r s' hq => ?_))
  match r, hq with
  | .error e, hq => exact hx pins σ H s e s' I hq
  | .ok (.ret u), hq => exact I.after hq
  | .ok .next, hq => exact False.elim hq
  | .ok .brk, hq => exact False.elim hq
  | .ok .cont, hq => exact False.elim hq
theorem pe_callG (F : FnG X.prog X.w X.K X.mg X.base CX k f fd ps sp) (hG : X.A.guards = some []) (hr : Room k X.A) (hg : Gl X x) (hm : X.mg x = some (.ref f)) (hk : PySem.W.keepIn X.K (.ref f) = true) (hb : Binds X.K fd ps ds) (hd : Vals dvs ds) (hx : Passes CX X E)
    (ha : PA X (e :: es) t) (hdb : (x == ("__debug__" : Str)) = false := by decide) (he : starEach (e :: es) X.env = (false, eval e X.env) :: starEach es X.env := by rfl) (hpl : (backTo pos (starEach es X.env)).any (·.1) = false := by rfl) :
    PE X (.Call (.Name x p) (e :: es) [] pos) (tCall sp dvs E t) :=
  ⟨fun pins s σ H Q I h => wpAny_Call_Name_kw (ld_glob I hg hm (PySem.W.callWith_K (h₀ := X.base) I.ok.mod.kin hk (thn (ha.run pos pins s σ H _ I h) fun us s1 ⟨vs, H1, I1, r, q⟩ => ⟨I1.kIn, run_fnG F hG hr hb hd hx I1 r q⟩) he hpl) hdb)⟩
theorem pe_callG0 (F : FnG X.prog X.w X.K X.mg X.base CX k f fd ps sp) (hG : X.A.guards = some []) (hr : Room k X.A) (hg : Gl X x) (hm : X.mg x = some (.ref f)) (hk : PySem.W.keepIn X.K (.ref f) = true) (hb : Binds X.K fd ps ds) (hd : Vals dvs ds) (hx : Passes CX X E)
    (hdb : (x == ("__debug__" : Str)) = false := by decide) : PE X (.Call (.Name x p) [] [] pos) (tCall sp dvs E tNil) :=
  ⟨fun pins s σ H Q I h => wpAny_Call_Name_kw (ld_glob I hg hm (PySem.W.callWith_K0 I.kIn hk (run_fnG (us := []) F hG hr hb hd hx I .nil h)) hdb)⟩
end
end VL

set_option Elab.async false
set_option linter.all false
set_option maxRecDepth 100000
set_option maxHeartbeats 4000000
/-! VLLib1: operators, subscripts, slices, over data. -/
namespace VL
open PySem PySem.Spec L2

section
variable {C : Cfg}
theorem rp_int {F H : Hp} {v : V} {i : Int} (r : RP C F H v (.int i)) : v = .int i := by
  rcases r with r | ⟨_, _, _, c⟩
  · cases r; rfl
  · exact c.elim
theorem rp_bool {F H : Hp} {v : V} {b : Bool} (r : RP C F H v (.bool b)) : v = .bl b := by
  rcases r with r | ⟨_, _, _, c⟩
  · cases r; rfl
  · exact c.elim
theorem rp_str {F H : Hp} {v : V} {x : Str} (r : RP C F H v (.str x)) : v = .str x ∧ x.length ≤ sizeLine := by
  rcases r with r | ⟨_, _, _, c⟩
  · cases r; exact ⟨rfl, by assumption⟩
  · exact c.elim
theorem rp_none {F H : Hp} {v : V} (r : RP C F H v .none) : v = .non := by
  rcases r with r | ⟨_, _, _, c⟩
  · cases r; rfl
  · exact c.elim

/-! ### == and != -/
@[simp] def dEq : D2 := fun d e Q => okD d ∧ okD e ∧ Q (.bool (PyData.eqv d e))
@[simp] def dNe : D2 := fun d e Q => okD d ∧ okD e ∧ Q (.bool (!PyData.eqv d e))
theorem so_eq : SimOp C (rEqR C.K) dEq := fun F H x y d e Qd Q g rx ry ⟨h1, h2, q⟩ k => ⟨d, e, rx.all g, ry.all g, h1, h2, k _ F H _ (.refl g) (.bl _) q⟩
theorem so_ne : SimOp C (rNeR C.K) dNe := fun F H x y d e Qd Q g rx ry ⟨h1, h2, q⟩ k => ⟨d, e, rx.all g, ry.all g, h1, h2, k _ F H _ (.refl g) (.bl _) q⟩
/-! ### order of ints -/
@[simp] def dCmp (p : Int → Int → Bool) : D2 := fun d e Q => match d, e with
  | .int i, .int j => Q (.bool (p i j))
  | _, _ => False
theorem so_cmp {p : Int → Int → Bool} : SimOp C (rI0 fun i j => .bl (p i j)) (dCmp p) := by
  intro F H x y d e Qd Q g rx ry h k
  unfold dCmp at h
  split at h
  · cases rp_int rx
    cases rp_int ry
    exact ⟨_, _, rfl, rfl, k _ F H _ (.refl g) (.bl _) h⟩
  · exact h.elim
abbrev dLt : D2 := dCmp fun i j => decide (i < j)
abbrev dLe : D2 := dCmp fun i j => decide (i ≤ j)
abbrev dGt : D2 := dCmp fun i j => decide (j < i)
abbrev dGe : D2 := dCmp fun i j => decide (j ≤ i)
/-! ### is None, is a truth value -/
def isNoneD : PyData → Bool
  | .none => true
  | _ => false
@[simp] def dIs (neg : Bool) : D2 := fun d e Q => match e with
  | .none => Q (.bool (if neg then !isNoneD d else isNoneD d))
  | .bool c => match d with
    | .bool b => Q (.bool (if neg then !decide (b = c) else decide (b = c)))
    | _ => False
  | _ => False
theorem nonV_iff {F H : Hp} {v : V} {d : PyData} (r : RP C F H v d) : decide (v = V.non) = isNoneD d := by
  rcases r with r | ⟨a, e, _, c⟩
  · cases r <;> simp [isNoneD]
  · subst e
    cases d <;> first | exact c.elim | simp [isNoneD]
def rIs (neg : Bool) : R2 := fun x y H Q => (y = .non ∧ Q (.bl (if neg then !decide (x = .non) else decide (x = .non))) H) ∨ ∃ a b : Bool, x = .bl a ∧ y = .bl b ∧ Q (.bl (if neg then !decide (a = b) else decide (a = b))) H
theorem op_is {X : Cx} : OpR X (compareOp .Is) (rIs false) := fun pins s σ H x y v u Q I rx ry h => h.elim (op_isN pins s σ H x y v u Q I rx ry) (op_isBl pins s σ H x y v u Q I rx ry)
theorem op_isnot {X : Cx} : OpR X (compareOp .IsNot) (rIs true) := fun pins s σ H x y v u Q I rx ry h => h.elim (op_notN pins s σ H x y v u Q I rx ry) (op_notBl pins s σ H x y v u Q I rx ry)
theorem so_is {neg : Bool} : SimOp C (rIs neg) (dIs neg) := by
  intro F H x y d e Qd Q g rx ry h k
  unfold dIs at h
  split at h
  · cases rp_none ry
    refine .inl ⟨rfl, ?_⟩
    rw [nonV_iff rx]
    exact k _ F H _ (.refl g) (.bl _) h
  · split at h
    · cases rp_bool rx
      cases rp_bool ry
      exact .inr ⟨_, _, rfl, rfl, k _ F H _ (.refl g) (.bl _) h⟩
    · exact h.elim
  · exact h.elim
/-! ### arithmetic, concatenation -/
def rAddAll (K : PySem.W.Frag) : R2 := fun x y H Q => (((rI0 (fun i j => .int (i + j)) x y H Q) ∨ (∃ i j, x = .str i ∧ y = .str j ∧ i.length + j.length ≤ sizeLine ∧ Q (.str (i ++ j)) H)) ∨ rCat x y H Q) ∨ rCatN K x y H Q
theorem op_addAll {X : Cx} : OpR X (binaryOp .Add) (rAddAll X.K) := ((op_add.or op_add_str).or op_cat).or op_catN
@[simp] def dAdd : D2 := fun d e Q => match d, e with
  | .int i, .int j => Q (.int (i + j))
  | .str x, .str y => x.length + y.length ≤ sizeLine ∧ Q (.str (x ++ y))
  | .list xs, .list ys => xs.length + ys.length ≤ sizeLine ∧ Q (.list (xs ++ ys))
  | .tuple xs, .tuple ys => xs.length + ys.length ≤ sizeLine ∧ Q (.tuple (xs ++ ys))
  | _, _ => False
theorem str_app_length (x y : Str) : (x ++ y).length = x.length + y.length := by
  show (x.cps ++ y.cps).size = x.cps.size + y.cps.size
  exact Array.size_append
theorem so_add : SimOp C (rAddAll C.K) dAdd := by
  intro F H x y d e Qd Q g rx ry h k
  unfold dAdd at h
  split at h
  · cases rp_int rx
    cases rp_int ry
    exact .inl (.inl (.inl ⟨_, _, rfl, rfl, k _ F H _ (.refl g) (.int _) h⟩))
  · obtain ⟨e1, l1⟩ := rp_str rx
    obtain ⟨e2, l2⟩ := rp_str ry
    subst e1 e2
    exact .inl (.inl (.inr ⟨_, _, rfl, rfl, h.1, k _ F H _ (.refl g) (.str _ (by rw [str_app_length]; exact h.1)) h.2⟩))
  · obtain ⟨a, vs, e1, n1, q1, l1, r1⟩ := rx.list g
    obtain ⟨b, ws, e2, n2, q2, l2, r2⟩ := ry.list g
    subst e1 e2
    refine .inl (.inr ⟨a, b, vs, ws, rfl, rfl, q1, q2, by rw [r1.length, r2.length]; exact h.1, fun p hp => ?_⟩)
    have n := Ext.new g hp (.lst (vs ++ ws))
    exact k _ _ _ _ n (.lst upd_same (by rw [List.length_append]; exact h.1) ((r1.append r2).mono n.ff)) h.2
  · obtain ⟨a, vs, e1, q1, l1, r1⟩ := rx.tuple
    obtain ⟨b, ws, e2, q2, l2, r2⟩ := ry.tuple
    subst e1 e2
    refine .inr ⟨a, b, vs, ws, rfl, rfl, ⟨sqN_T g.fh q1, sqN_T g.fh q2⟩, by rw [r1.length, r2.length]; exact h.1, fun ez => ?_, fun n1 ez => ?_, fun n1 n2 p o hp hd => ?_⟩
    · subst ez
      cases r1
      exact k _ F H _ (.refl g) (.tup q2 l2 r2) h.2
    · subst ez
      cases r2
      exact k _ F H _ (.refl g) (.tup q1 (by rw [List.append_nil]; exact l1) (by rw [List.append_nil]; exact r1)) h.2
    · have n := Ext.new g hp (.frz o (.tup (vs ++ ws)))
      exact k _ _ _ _ n (.tup (SqN.of upd_same hd) (by rw [List.length_append]; exact h.1) ((r1.append r2).mono n.ff)) h.2
  · exact h.elim
@[simp] def dSub : D2 := fun d e Q => match d, e with
  | .int i, .int j => Q (.int (i - j))
  | _, _ => False
theorem so_sub : SimOp C (rI0 fun i j => .int (i - j)) dSub := by
  intro F H x y d e Qd Q g rx ry h k
  unfold dSub at h
  split at h
  · cases rp_int rx
    cases rp_int ry
    exact ⟨_, _, rfl, rfl, k _ F H _ (.refl g) (.int _) h⟩
  · exact h.elim
@[simp] def dFdiv : D2 := fun d e Q => match d, e with
  | .int i, .int j => CDiv i j ∧ Q (.int (i / j))
  | _, _ => False
theorem so_fdiv : SimOp C (rI CDiv fun i j => .int (i / j)) dFdiv := by
  intro F H x y d e Qd Q g rx ry h k
  unfold dFdiv at h
  split at h
  · cases rp_int rx
    cases rp_int ry
    exact ⟨_, _, rfl, rfl, h.1, k _ F H _ (.refl g) (.int _) h.2⟩
  · exact h.elim
@[simp] def dMod : D2 := fun d e Q => match d, e with
  | .int i, .int j => 0 < j ∧ Q (.int (i % j))
  | _, _ => False
theorem so_mod : SimOp C (rI (fun _ j => 0 < j) fun i j => .int (i % j)) dMod := by
  intro F H x y d e Qd Q g rx ry h k
  unfold dMod at h
  split at h
  · cases rp_int rx
    cases rp_int ry
    exact ⟨_, _, rfl, rfl, h.1, k _ F H _ (.refl g) (.int _) h.2⟩
  · exact h.elim
theorem tuple_mulW1 (l : Addr) (items : Array Value) (n : Nat) (dd : Option Addr) (sl : Array (Option Value)) (x : Int) (u : Tok) (c0 : (decide (x < -(2 ^ 63)) || decide (x ≥ 2 ^ 63)) = false) (c1 : (items.isEmpty || x == 1) = true) :
    Meets (Builtin.«tuple.__mul__» ⟨[.ref l, .int x u], []⟩) (fun _ R s => s.heap.get? l = some { cls := .type "tuple", dict := dd, data := .seq items n, slots := sl } ∧
      R (.ok (.ret (Value.ref l))) s) :=
  .of_wp fun prog w A R s h => by
    obtain ⟨hp, g, d, tk, os⟩ := s
    obtain ⟨hl, h⟩ := h
    have f1 := AutoSeq1.idx_int
    wp_walk using wpAny_loadPart' hl
    repeat (first
      | (refine wpAny_ite_false (decide_eq_false (by rw [c0]; exact Bool.false_ne_true)) ?_; wp_walk using wpAny_loadPart' hl)
      | (refine wpAny_ite_true (decide_eq_true c1) ?_; wp_walk using wpAny_loadPart' hl))
    exact ⟨_, rfl, h⟩
def rRepT1 (K : PySem.W.Frag) : R2 := fun x y H Q => ∃ l xs, x = .ref l ∧ y = .int 1 ∧ SqT K H l xs ∧ Q (.ref l) H
theorem op_repT1 {X : Cx} : OpR X (binaryOp .Mult) (rRepT1 X.K) := by
  intro pins s σ H x y v u Q I rx ry h
  obtain ⟨l, xs, rfl, rfl, hT, q⟩ := h
  cases rx
  obtain ⟨t, rfl⟩ := ry
  obtain ⟨its, r, ⟨⟨cls, dd, data, sl⟩, ho, hc, n, hd⟩, hs⟩ := I.tuple hT
  simp only at hc hd
  subst hc hd
  have c0 : (decide ((1 : Int) < -(2 ^ 63)) || decide ((1 : Int) ≥ 2 ^ 63)) = false := by decide
  have c1 : (its.toArray.isEmpty || (1 : Int) == 1) = true := by simp
  refine wpAny_binaryOp_repeat_ref (T := "tuple") (U := "int") (by decide) ⟨_, ho, rfl⟩ (fun s' => typeIs_int s' 1 t) noFill_tuple_mul F.fills_int_mul F.slot_int_rmul repeat_tuple F.slot_int_index.lookup
    (call_meets F.slot_int_rmul (typeIs_int s 1 t) F.entry_int_rmul (F.args_int_rmul_2 _ _) (int_rmul_tuple 1 t l its.toArray n dd sl)
      ⟨ho, rfl, ⟨_, ho, rfl⟩, call_meets F.slot_tuple_mul ⟨_, ho, rfl⟩ F.entry_tuple_mul (F.args_tuple_mul_2 _ _) (tuple_mulW1 l its.toArray n dd sl 1 t c0 c1) ⟨ho, ?_⟩⟩)
  exact ⟨.ref l, _, I, rfl, q⟩
def rMulAll (K : PySem.W.Frag) : R2 := fun x y H Q => (rI CMul (fun i j => .int (i * j)) x y H Q ∨ rRep x y H Q) ∨ rRepN K x y H Q ∨ rRepT1 K x y H Q
theorem op_mulAll {X : Cx} : OpR X (binaryOp .Mult) (rMulAll X.K) := (op_mul.or op_rep).or (op_repN.or op_repT1)

theorem RL.rep {K : PySem.W.Frag} {F : Hp} {vs : List V} {ds : List PyData} (r : RL K F vs ds) : ∀ n : Nat, RL K F (List.replicate n vs).flatten (List.replicate n ds).flatten
  | 0 => .nil
  | n + 1 => by
    rw [List.replicate_succ, List.replicate_succ, List.flatten_cons, List.flatten_cons]
    exact r.append (RL.rep r n)
@[simp] def dMul : D2 := fun d e Q => match d, e with
  | .int i, .int j => CMul i j ∧ Q (.int (i * j))
  | .list xs, .int j => (-(2 ^ 63) ≤ j ∧ j < 2 ^ 63 ∧ xs.length * j.toNat ≤ sizeLine) ∧ Q (.list (List.replicate j.toNat xs).flatten)
  | .tuple xs, .int j => (xs ≠ [] ∧ 1 ≤ j ∧ j ≤ 1000 ∧ xs.length ≤ 1000) ∧ Q (.tuple (List.replicate j.toNat xs).flatten)
  | _, _ => False
theorem rep_len {α : Type} (xs : List α) : ∀ n : Nat, (List.replicate n xs).flatten.length = xs.length * n
  | 0 => by simp
  | n + 1 => by rw [List.replicate_succ, List.flatten_cons, List.length_append, rep_len xs n, Nat.mul_succ, Nat.add_comm]
theorem so_mul : SimOp C (rMulAll C.K) dMul := by
  intro F H x y d e Qd Q g rx ry h k
  unfold dMul at h
  split at h
  · cases rp_int rx
    cases rp_int ry
    exact .inl (.inl ⟨_, _, rfl, rfl, h.1, k _ F H _ (.refl g) (.int _) h.2⟩)
  · rename_i xs j
    obtain ⟨a, vs, e1, n1, q1, l1, r1⟩ := rx.list g
    cases rp_int ry
    subst e1
    obtain ⟨⟨h1, h2, h3⟩, h4⟩ := h
    refine .inl (.inr ⟨a, _, vs, rfl, rfl, q1, h1, h2, by rw [r1.length]; exact h3, fun p hp => ?_⟩)
    have n := Ext.new g hp (.lst (List.replicate j.toNat vs).flatten)
    exact k _ _ _ _ n (.lst upd_same (by rw [rep_len]; exact h3) ((r1.rep _).mono n.ff)) h4
  · rename_i xs j
    obtain ⟨a, vs, e1, q1, l1, r1⟩ := rx.tuple
    cases rp_int ry
    subst e1
    obtain ⟨⟨h1, h2, h3, h5⟩, h4⟩ := h
    by_cases hj : j = 1
    · subst hj
      refine .inr (.inr ⟨a, vs, rfl, rfl, sqN_T g.fh q1, k _ F H _ (.refl g) (.tup q1 l1 r1) ?_⟩)
      simpa using h4
    refine .inr (.inl ⟨a, _, vs, rfl, rfl, sqN_T g.fh q1, ⟨fun z => ?_, by omega, h3, by rw [r1.length]; exact h5⟩, fun p o hp hd => ?_⟩)
    · subst z; cases r1; exact h1 rfl
    have n := Ext.new g hp (.frz o (.tup (List.replicate j.toNat vs).flatten))
    refine k _ _ _ _ n (.tup (SqN.of upd_same hd) ?_ ((r1.rep _).mono n.ff)) h4
    rw [rep_len]
    have e2 : (sizeLine : Nat) = 16777216 := sizeLine_eq
    have e3 := Nat.mul_le_mul h5 (show j.toNat ≤ 1000 by omega)
    omega
  · exact h.elim
/-! ### minus -/
@[simp] def dNeg : D1 := fun d Q => match d with
  | .int i => Q (.int (-i))
  | _ => False
theorem su_neg : SimU C (rU fun i => .int (-i)) dNeg := by
  intro F H x d Qd Q g rx h k
  unfold dNeg at h
  split at h
  · cases rp_int rx
    exact ⟨_, rfl, k _ F H _ (.refl g) (.int _) h⟩
  · exact h.elim

/-! ### in, not in -/
def keyD : PyData → Option Key
  | .int i => some (.inl i)
  | .str x => some (.inr x)
  | _ => none
theorem keyD_kD (k : Key) : keyD (kD k) = some k := by cases k <;> rfl
/-- what a dict holds at a key -/
def getD (kvs : List (PyData × PyData)) (k : Key) : Option PyData := (kvs.find? fun kv => decide (keyD kv.1 = some k)).map (·.2)
theorem RK.val {K : PySem.W.Frag} {F : Hp} (k : Key) : ∀ {kvs : List (Key × V)} {ds : List (PyData × PyData)}, RK K F kvs ds → (valV kvs k = none ∧ getD ds k = none) ∨ ∃ v d, valV kvs k = some v ∧ getD ds k = some d ∧ R K F v d
  | _, _, .nil => .inl ⟨rfl, rfl⟩
  | _, _, .cons (k := k') (v := v) (d := d) (kvs := kvs) (ds := ds) r rs => by
    by_cases e : k' = k
    · subst e
      refine .inr ⟨v, d, valV_pos rfl, ?_, r⟩
      unfold getD
      rw [List.find?_cons_of_pos (by simp [keyD_kD])]
      rfl
    · have e2 : getD ((kD k', d) :: ds) k = getD ds k := by
        unfold getD
        rw [List.find?_cons_of_neg (by simp [keyD_kD, e])]
      rw [valV_neg (p := (k', v)) e, e2]
      exact RK.val k rs
def rInAll (K : PySem.W.Frag) (neg : Bool) : R2 := fun x y H Q =>
  (∃ d ds, R K H x d ∧ (R K H y (.list ds) ∨ R K H y (.tuple ds)) ∧ PyData.plainAll ds = true ∧ okD d ∧ Q (.bl (if neg then !ds.any fun z => PyData.eqv z d else ds.any fun z => PyData.eqv z d)) H) ∨
  (∃ c z, x = .str ⟨#[c]⟩ ∧ y = .str z ∧ Q (.bl (if neg then !decide (c ∈ z.cps.toList) else decide (c ∈ z.cps.toList))) H) ∨
  ∃ a kvs k, y = .ref a ∧ H a = some (.dK kvs) ∧ x = kV k ∧ Q (.bl (if neg then !(valV kvs k).isSome else (valV kvs k).isSome)) H
section
variable {X : Cx}
theorem op_inAll (hu : X.A.units + 200 < cLine) : OpR X (compareOp .In) (rInAll X.K false) := by
  intro pins s σ H x y v u Q I rx ry h
  rcases h with ⟨d, ds, hd, hc, pl, ok, q⟩ | ⟨c, z, e1, e2, q⟩ | ⟨a, kvs, k, e1, e2, e3, q⟩
  · obtain ⟨as, r1⟩ := R.reads I d x v ok.1 hd rx
    have := ok.2
    have hb : X.A.units + 1 + min (PyData.depthAll ds) d.depth < cLine := by omega
    rcases hc with hc | hc
    · obtain ⟨bs, r2⟩ := R.reads I (.list ds) y u (by simpa [PyData.plain] using pl) hc ry
      exact SeqAt.in_list_data r2 r1 pl ok.1 hb ⟨.bl _, H, I, rfl, q⟩
    · obtain ⟨bs, r2⟩ := R.reads I (.tuple ds) y u (by simpa [PyData.plain] using pl) hc ry
      exact SeqAt.in_tuple_data r2 r1 pl ok.1 hb ⟨.bl _, H, I, rfl, q⟩
  · exact op_in_sign pins s σ H x y v u Q I rx ry ⟨c, z, e1, e2, q⟩
  · subst e1
    obtain rfl : u = Value.ref a := ry
    exact d_in (by omega) I (.inl ⟨kvs, k, .inl e2, e3, rfl⟩) rx fun s3 I3 => ⟨.bl _, H, I3, rfl, q⟩
theorem op_notInAll (hu : X.A.units + 200 < cLine) : OpR X (compareOp .NotIn) (rInAll X.K true) := by
  intro pins s σ H x y v u Q I rx ry h
  rcases h with ⟨d, ds, hd, hc, pl, ok, q⟩ | ⟨c, z, e1, e2, q⟩ | ⟨a, kvs, k, e1, e2, e3, q⟩
  · obtain ⟨as, r1⟩ := R.reads I d x v ok.1 hd rx
    have := ok.2
    have hb : X.A.units + 1 + min (PyData.depthAll ds) d.depth < cLine := by omega
    rcases hc with hc | hc
    · obtain ⟨bs, r2⟩ := R.reads I (.list ds) y u (by simpa [PyData.plain] using pl) hc ry
      exact SeqAt.notIn_list_data r2 r1 pl ok.1 hb ⟨.bl _, H, I, rfl, q⟩
    · obtain ⟨bs, r2⟩ := R.reads I (.tuple ds) y u (by simpa [PyData.plain] using pl) hc ry
      exact SeqAt.notIn_tuple_data r2 r1 pl ok.1 hb ⟨.bl _, H, I, rfl, q⟩
  · exact op_notIn_sign pins s σ H x y v u Q I rx ry ⟨c, z, e1, e2, q⟩
  · subst e1
    obtain rfl : u = Value.ref a := ry
    exact d_notIn (by omega) I (.inl ⟨kvs, k, .inl e2, e3, rfl⟩) rx fun s3 I3 => ⟨.bl _, H, I3, rfl, q⟩
end
/-- one sign of a text -/
def signOf (x : Str) : Option Nat := match x.cps.toList with
  | [c] => some c
  | _ => none
@[simp] def dIn (neg : Bool) : D2 := fun d e Q => match e with
  | .list ds => PyData.plainAll ds = true ∧ okD d ∧ Q (.bool (if neg then !ds.any fun z => PyData.eqv z d else ds.any fun z => PyData.eqv z d))
  | .tuple ds => PyData.plainAll ds = true ∧ okD d ∧ Q (.bool (if neg then !ds.any fun z => PyData.eqv z d else ds.any fun z => PyData.eqv z d))
  | .str z => match d with
    | .str x => match signOf x with
      | some c => Q (.bool (if neg then !decide (c ∈ z.cps.toList) else decide (c ∈ z.cps.toList)))
      | none => False
    | _ => False
  | .dict kvs => match keyD d with
    | some k => Q (.bool (if neg then !(getD kvs k).isSome else (getD kvs k).isSome))
    | none => False
  | _ => False
theorem signOf_eq {x : Str} {c : Nat} (h : signOf x = some c) : x = ⟨#[c]⟩ := by
  unfold signOf at h
  split at h
  · rename_i c' e
    cases h
    obtain ⟨a⟩ := x
    obtain ⟨l⟩ := a
    have e' : l = [c] := e
    subst e'
    rfl
  · cases h
theorem keyD_rel {F H : Hp} {x : V} {d : PyData} {k : Key} (r : RP C F H x d) (h : keyD d = some k) : x = kV k := by
  cases d with
  | int i => cases h; exact rp_int r
  | str z => cases h; exact (rp_str r).1
  | _ => cases h
theorem so_in {neg : Bool} : SimOp C (rInAll C.K neg) (dIn neg) := by
  intro F H x y d e Qd Q g rx ry h k
  unfold dIn at h
  cases e with
  | list ds => exact .inl ⟨d, ds, rx.all g, .inl (ry.all g), h.1, h.2.1, k _ F H _ (.refl g) (.bl _) h.2.2⟩
  | tuple ds => exact .inl ⟨d, ds, rx.all g, .inr (ry.all g), h.1, h.2.1, k _ F H _ (.refl g) (.bl _) h.2.2⟩
  | str z =>
    simp only at h
    split at h
    · split at h
      · rename_i c e
        have e' := signOf_eq e
        subst e'
        exact .inr (.inl ⟨c, z, (rp_str rx).1, (rp_str ry).1, k _ F H _ (.refl g) (.bl _) h⟩)
      · exact h.elim
    · exact h.elim
  | dict kvs =>
    simp only at h
    split at h
    · rename_i key e
      obtain ⟨a, ks, e1, _, q1, l1, r1⟩ := ry.dict g
      subst e1
      refine .inr (.inr ⟨a, ks, key, rfl, q1, keyD_rel rx e, ?_⟩)
      rcases r1.val key with ⟨z1, z2⟩ | ⟨v, dd, z1, z2, _⟩
      · rw [z1]; rw [z2] at h; exact k _ F H _ (.refl g) (.bl _) h
      · rw [z1]; rw [z2] at h; exact k _ F H _ (.refl g) (.bl _) h
    · exact h.elim
  | _ => exact h.elim
end
end VL

set_option Elab.async false
set_option linter.all false
set_option maxRecDepth 100000
set_option maxHeartbeats 4000000
/-! VLLib2: subscripts, slices, built-ins, methods, over data. -/
namespace VL
open PySem PySem.Spec L2

section
variable {C : Cfg} {X : Cx}
/-! ### subscripts -/
theorem ixN_lt {n : Nat} {i : Int} {j : Nat} (h : ixN n i = some j) : j < n := by
  unfold ixN at h
  split at h
  · split at h
    · cases h; omega
    · cases h
  · split at h
    · cases h; omega
    · cases h
theorem RL.atI {K : PySem.W.Frag} {F : Hp} {vs : List V} {ds : List PyData} {i : Int} {d : PyData} (r : RL K F vs ds) (h : L2.atI ds i = some d) : ∃ v, L2.atI vs i = some v ∧ R K F v d := by
  unfold L2.atI at h ⊢
  rw [r.length]
  cases e : ixN ds.length i with
  | none => rw [e] at h; cases h
  | some j =>
    rw [e] at h
    obtain ⟨v, h1, h2⟩ := r.get' (show ds[j]? = some d from h)
    exact ⟨v, h1, h2⟩
def rIxDk : R2 := fun x y H Q => ∃ a kvs k v, x = .ref a ∧ H a = some (.dK kvs) ∧ y = kV k ∧ valV kvs k = some v ∧ Q v H
theorem ix_dict (hu : X.A.units + 200 < cLine) : IxR X rIxDk := by
  intro value slice pins s σ H x y v u Q I rx ry h hs
  obtain ⟨a, kvs, k, z, rfl, e2, e3, e4, q⟩ := h
  obtain rfl : v = Value.ref a := rx
  have g : DGet H a y (some z) := .inl ⟨kvs, k, .inl e2, e3, e4.symm⟩
  have hT := dict_typeIs I g
  unfold PyProof.Rows.subscriptTail
  refine wpAny_bind ?_
  rw [getitemInPython_of_ne hT.not_modules]
  have fin : wpAny (model X.prog X.w) X.A (subscripted slice false (.ref a) u) (fun r s₃ => wpAny (model X.prog X.w) X.A (letTemporaryGo value (.ref a) r >>= fun _ => pure r) (EP X pins σ Q) X.xe s₃) X.xe s := by
    rw [hs]
    refine wpAny_operating (d_getItem (by omega) I g ry fun w' s3 I3 rw' => ?_)
    exact wpAny_bind (wpAny_letTemporaryGo (wpAny_pure ⟨z, H, I3, rw', q⟩))
  refine wpAny_bind (wpAny_specialOf hT PySem.F.slot_dict_getitem.lookup ?_)
  first
    | exact wpAny_pure (wpAny_bind fin)
    | exact wpAny_bind (wpAny_pure (wpAny_bind fin))
    | exact wpAny_bind fin
def rIxAll (K : PySem.W.Frag) : R2 := fun x y H Q => rIx K x y H Q ∨ rIxDk x y H Q
theorem ix_all (hu : X.A.units + 200 < cLine) : IxR X (rIxAll X.K) := ix_seq.or (ix_dict hu)
@[simp] def dIx : D2 := fun d e Q => match d, e with
  | .list ds, .int i => match L2.atI ds i with
    | some z => Q z
    | none => False
  | .tuple ds, .int i => match L2.atI ds i with
    | some z => Q z
    | none => False
  | .str x, .int i => match L2.atI x.cps.toList i with
    | some c => Q (.str ⟨#[c]⟩)
    | none => False
  | .dict kvs, e => match keyD e with
    | some k => match getD kvs k with
      | some z => Q z
      | none => False
    | none => False
  | _, _ => False
theorem one_line : (1 : Nat) ≤ sizeLine := by rw [sizeLine_eq]; decide
theorem so_ix : SimOp C (rIxAll C.K) dIx := by
  intro F H x y d e Qd Q g rx ry h k
  unfold dIx at h
  split at h
  · split at h
    · rename_i e'
      obtain ⟨a, vs, e1, _, q1, l1, r1⟩ := rx.list g
      cases rp_int ry
      subst e1
      obtain ⟨v, h1, h2⟩ := r1.atI e'
      exact .inl (.inl ⟨a, vs, _, v, rfl, rfl, SqL.of q1, h1, k v F H _ (.refl g) h2 h⟩)
    · exact h.elim
  · split at h
    · rename_i e'
      obtain ⟨a, vs, e1, q1, l1, r1⟩ := rx.tuple
      cases rp_int ry
      subst e1
      obtain ⟨v, h1, h2⟩ := r1.atI e'
      exact .inl (.inr (.inl ⟨a, vs, _, v, rfl, rfl, sqN_T g.fh q1, h1, k v F H _ (.refl g) h2 h⟩))
    · exact h.elim
  · split at h
    · rename_i c e'
      obtain ⟨e1, l⟩ := rp_str rx
      cases rp_int ry
      subst e1
      exact .inl (.inr (.inr ⟨_, _, c, rfl, rfl, l, e', k _ F H _ (.refl g) (.str _ one_line) h⟩))
    · exact h.elim
  · split at h
    · rename_i key ek
      split at h
      · rename_i z ez
        obtain ⟨a, ks, e1, _, q1, l1, r1⟩ := rx.dict g
        subst e1
        rcases r1.val key with ⟨z1, z2⟩ | ⟨v, dd, z1, z2, rr⟩
        · rw [z2] at ez; cases ez
        · rw [z2] at ez; cases ez
          exact .inr ⟨a, ks, key, v, rfl, q1, keyD_rel ry ek, z1, k v F H _ (.refl g) rr h⟩
      · exact h.elim
    · exact h.elim
  · exact h.elim
/-! ### slices -/
def cutL {α : Type} (xs : List α) (lo hi : Option Int) : List α := (xs.drop (HT.sIx xs.length 0 lo)).take (HT.sIx xs.length xs.length hi - HT.sIx xs.length 0 lo)
theorem cutL_len {α : Type} (xs : List α) (lo hi : Option Int) : (cutL xs lo hi).length ≤ xs.length := by
  unfold cutL
  rw [List.length_take, List.length_drop]
  omega
theorem RL.cut {K : PySem.W.Frag} {F : Hp} {vs : List V} {ds : List PyData} (r : RL K F vs ds) (lo hi : Option Int) : RL K F (cutV vs lo hi) (cutL ds lo hi) := by
  unfold cutL cutV
  rw [r.length]
  exact (r.drop _).take _
def rSlAll (K : PySem.W.Frag) : V → Option Int → Option Int → Hp → VK → Prop := fun x lo hi H Q => (rSlL K x lo hi H Q ∨ rSlN K x lo hi H Q) ∨ rSlS x lo hi H Q
theorem sl_all : SlR X (rSlAll X.K) := (sl_list.or sl_tupN).or sl_str
@[simp] def dCut : DSl := fun d lo hi Q => match d with
  | .list ds => Q (.list (cutL ds lo hi))
  | .tuple ds => Q (.tuple (cutL ds lo hi))
  | .str z => Q (.str (cutS z lo hi))
  | _ => False
theorem cutS_len (z : Str) (lo hi : Option Int) : (cutS z lo hi).length ≤ z.length := by
  unfold cutS
  show (List.toArray _).size ≤ z.cps.size
  rw [List.size_toArray, List.length_take, List.length_drop]
  have : z.cps.toList.length = z.cps.size := Array.length_toList
  omega
theorem cutV_whole {xs : List V} {lo hi : Option Int} (h : HT.sIx xs.length 0 lo = 0 ∧ HT.sIx xs.length xs.length hi = xs.length) : cutV xs lo hi = xs := by
  unfold cutV
  rw [h.1, h.2, List.drop_zero, Nat.sub_zero, List.take_length]
theorem cutL_whole {α : Type} {xs : List α} {lo hi : Option Int} (h : HT.sIx xs.length 0 lo = 0 ∧ HT.sIx xs.length xs.length hi = xs.length) : cutL xs lo hi = xs := by
  unfold cutL
  rw [h.1, h.2, List.drop_zero, Nat.sub_zero, List.take_length]
theorem ss_cut : SimSl C (rSlAll C.K) dCut := by
  intro F H x d lo hi Qd Q g rx h k
  unfold dCut at h
  split at h
  · obtain ⟨a, vs, e1, _, q1, l1, r1⟩ := rx.list g
    subst e1
    refine .inl (.inl ⟨a, vs, rfl, SqL.of q1, fun p hp => ?_⟩)
    have n := Ext.new g hp (.lst (cutV vs lo hi))
    exact k _ _ _ _ n (.lst upd_same (Nat.le_trans (cutL_len _ _ _) l1) ((r1.cut lo hi).mono n.ff)) h
  · obtain ⟨a, vs, e1, q1, l1, r1⟩ := rx.tuple
    subst e1
    refine .inl (.inr ⟨a, vs, rfl, sqN_T g.fh q1, fun hw => ?_, fun _ p o hp hd => ?_⟩)
    · rw [cutL_whole (by rw [← r1.length]; exact hw)] at h
      exact k _ F H _ (.refl g) (.tup q1 l1 r1) h
    · have n := Ext.new g hp (.frz o (.tup (cutV vs lo hi)))
      exact k _ _ _ _ n (.tup (SqN.of upd_same hd) (Nat.le_trans (cutL_len _ _ _) l1) ((r1.cut lo hi).mono n.ff)) h
  · obtain ⟨e1, l⟩ := rp_str rx
    subst e1
    exact .inr ⟨_, rfl, l, k _ F H _ (.refl g) (.str _ (Nat.le_trans (cutS_len _ _ _) l)) h⟩
  · exact h.elim
/-! ### built-ins of one argument -/
theorem rps1 {F H : Hp} {xs : List V} {d : PyData} (r : RPs C F H xs [d]) : ∃ v, xs = [v] ∧ RP C F H v d := by
  cases r with
  | cons a b => cases b; exact ⟨_, rfl, a⟩
theorem rps2 {F H : Hp} {xs : List V} {d e : PyData} (r : RPs C F H xs [d, e]) : ∃ v w, xs = [v, w] ∧ RP C F H v d ∧ RP C F H w e := by
  cases r with
  | cons a b => cases b with
    | cons c d => cases d; exact ⟨_, _, rfl, a, c⟩
def rLenAll (K : PySem.W.Frag) : List V → Hp → VK → Prop := fun xs H Q => (∃ x n, xs = [x] ∧ LenV K x H n ∧ Q (.int n) H) ∨ ∃ a kvs, xs = [V.ref a] ∧ H a = some (.dK kvs) ∧ Q (.int kvs.length) H
theorem call_lenAll : CallR X (.builtin "len") (rLenAll X.K) := call_len.or call_lenD
@[simp] def dLen : DB := fun xs Q => match xs with
  | [.list ds] => Q (.int ds.length)
  | [.tuple ds] => Q (.int ds.length)
  | [.str z] => Q (.int z.length)
  | [.dict kvs] => Q (.int kvs.length)
  | _ => False
theorem sb_len : SimB C (rLenAll C.K) dLen := by
  intro F H xs ds Qd Q g rs h k
  unfold dLen at h
  split at h
  · obtain ⟨v, e, r⟩ := rps1 rs
    obtain ⟨a, vs, e1, _, q1, l1, r1⟩ := r.list g
    subst e e1
    exact .inl ⟨_, vs.length, rfl, .inl ⟨vs, SqL.of q1, rfl⟩, k _ F H _ (.refl g) (by rw [r1.length]; exact .int _) h⟩
  · obtain ⟨v, e, r⟩ := rps1 rs
    obtain ⟨a, vs, e1, q1, l1, r1⟩ := r.tuple
    subst e e1
    exact .inl ⟨_, vs.length, rfl, .inr ⟨vs, sqN_T g.fh q1, rfl⟩, k _ F H _ (.refl g) (by rw [r1.length]; exact .int _) h⟩
  · obtain ⟨v, e, r⟩ := rps1 rs
    obtain ⟨e1, l⟩ := rp_str r
    subst e e1
    exact .inl ⟨_, _, rfl, ⟨l, rfl⟩, k _ F H _ (.refl g) (.int _) h⟩
  · obtain ⟨v, e, r⟩ := rps1 rs
    obtain ⟨a, ks, e1, _, q1, l1, r1⟩ := r.dict g
    subst e e1
    exact .inr ⟨a, ks, rfl, q1, k _ F H _ (.refl g) (by rw [r1.length]; exact .int _) h⟩
  · exact h.elim
/-- tuple(x) -/
@[simp] def dTuple : DB := fun xs Q => match xs with
  | [.list ds] => Q (.tuple ds)
  | [.tuple ds] => Q (.tuple ds)
  | _ => False
theorem sb_tuple : SimB C (rTupleOf C.K) dTuple := by
  intro F H xs ds Qd Q g rs h k
  unfold dTuple at h
  split at h
  · obtain ⟨v, e, r⟩ := rps1 rs
    obtain ⟨a, vs, e1, _, q1, l1, r1⟩ := r.list g
    subst e e1
    refine ⟨a, vs, rfl, .inl ⟨SqL.of q1, fun p o hp hd => ?_⟩⟩
    have n := Ext.new g hp (.frz o (.tup vs))
    exact k _ _ _ _ n (.tup (SqN.of upd_same hd) l1 (r1.mono n.ff)) h
  · obtain ⟨v, e, r⟩ := rps1 rs
    obtain ⟨a, vs, e1, q1, l1, r1⟩ := r.tuple
    subst e e1
    exact ⟨a, vs, rfl, .inr ⟨sqN_T g.fh q1, k _ F H _ (.refl g) (.tup q1 l1 r1) h⟩⟩
  · exact h.elim
/-- list(x): a new list -/
def dList : DB := fun xs Q => match xs with
  | [.list ds] => Q (.list ds)
  | [.tuple ds] => Q (.list ds)
  | [.dict kvs] => Q (.list (kvs.map (·.1)))
  | _ => False
def rListOf (K : PySem.W.Frag) : List V → Hp → VK → Prop := fun xs H Q => (∃ p ys, xs = [.ref p] ∧ (SqL K H p ys ∨ SqT K H p ys) ∧ ∀ l, H l = none → Q (.ref l) (upd H l (.lst ys))) ∨
  ∃ (a : Addr) (kvs : List (Key × V)), xs = [.ref a] ∧ Rd H a (.dK kvs) ∧ ∀ p, H p = none → Q (.ref p) (upd H p (.lst (kvs.map fun kv => kV kv.1)))
theorem call_listAll (hc : X.calm = true) : CallR X (.type "list") (rListOf X.K) := call_list_of.or (call_listD hc)
/-- keys that are ints, or texts within the line -/
theorem RK.keys {K : PySem.W.Frag} {F : Hp} : ∀ {kvs : List (Key × V)} {ds : List (PyData × PyData)}, RK K F kvs ds → (∀ x, PyData.str x ∈ ds.map (·.1) → x.length ≤ sizeLine) → RL K F (kvs.map fun kv => kV kv.1) (ds.map (·.1))
  | _, _, .nil, _ => .nil
  | _, _, .cons (k := k) r rs, h => by
    refine .cons ?_ (RK.keys rs fun x hx => h x (List.mem_cons_of_mem _ hx))
    cases k with
    | inl i => exact .int i
    | inr x => exact .str x (h x List.mem_cons_self)
def keysOk (kvs : List (PyData × PyData)) : Prop := ∀ x, PyData.str x ∈ kvs.map (·.1) → x.length ≤ sizeLine
@[simp] def dListF : DB := fun xs Q => match xs with
  | [.list ds] => Q (.list ds)
  | [.tuple ds] => Q (.list ds)
  | [.dict kvs] => keysOk kvs ∧ Q (.list (kvs.map (·.1)))
  | _ => False
theorem sbF_list : SimBF C (rListOf C.K) dListF := by
  intro F H xs ds Qd Q g rs h k
  unfold dListF at h
  split at h
  · obtain ⟨v, e, r⟩ := rps1 rs
    obtain ⟨a, vs, e1, _, q1, l1, r1⟩ := r.list g
    subst e e1
    refine .inl ⟨a, vs, rfl, .inl (SqL.of q1), fun p hp => ?_⟩
    exact k p _ _ (.list _) (Ext.newO g hp _) ⟨g.fnone hp, hp, g.noS hp, vs, upd_same, l1, r1⟩ h
  · obtain ⟨v, e, r⟩ := rps1 rs
    obtain ⟨a, vs, e1, q1, l1, r1⟩ := r.tuple
    subst e e1
    refine .inl ⟨a, vs, rfl, .inr (sqN_T g.fh q1), fun p hp => ?_⟩
    exact k p _ _ (.list _) (Ext.newO g hp _) ⟨g.fnone hp, hp, g.noS hp, vs, upd_same, l1, r1⟩ h
  · obtain ⟨v, e, r⟩ := rps1 rs
    obtain ⟨a, ks, e1, _, q1, l1, r1⟩ := r.dict g
    subst e e1
    refine .inr ⟨a, ks, rfl, .inl q1, fun p hp => ?_⟩
    exact k p _ _ (.list _) (Ext.newO g hp _) ⟨g.fnone hp, hp, g.noS hp, _, upd_same, by rw [List.length_map]; exact l1, r1.keys h.1⟩ h.2
  · exact h.elim
/-- int(x), abs(x), str(x) -/
def rIntAll : List V → Hp → VK → Prop := fun xs H Q => ((∃ i, xs = [.int i] ∧ Q (.int i) H) ∨ ∃ k, xs = [.bl k] ∧ Q (.int (if k then 1 else 0)) H) ∨ ∃ a n, xs = [.str a] ∧ PySem.intText? a = some n ∧ a.length ≤ 640 ∧ Q (.int n) H
theorem call_intAll : CallR X (.type "int") rIntAll := call_int1.or call_int_str
@[simp] def dInt : DB := fun xs Q => match xs with
  | [.int i] => Q (.int i)
  | [.bool b] => Q (.int (if b then 1 else 0))
  | [.str a] => match PySem.intText? a with
    | some n => a.length ≤ 640 ∧ Q (.int n)
    | none => False
  | _ => False
theorem sb_int : SimB C rIntAll dInt := by
  intro F H xs ds Qd Q g rs h k
  unfold dInt at h
  split at h
  · obtain ⟨v, e, r⟩ := rps1 rs
    cases rp_int r
    subst e
    exact .inl (.inl ⟨_, rfl, k _ F H _ (.refl g) (.int _) h⟩)
  · obtain ⟨v, e, r⟩ := rps1 rs
    cases rp_bool r
    subst e
    exact .inl (.inr ⟨_, rfl, k _ F H _ (.refl g) (.int _) h⟩)
  · obtain ⟨v, e, r⟩ := rps1 rs
    obtain ⟨e1, l⟩ := rp_str r
    subst e e1
    split at h
    · rename_i n en
      exact .inr ⟨_, n, rfl, en, h.1, k _ F H _ (.refl g) (.int _) h.2⟩
    · exact h.elim
  · exact h.elim
def rAbs : List V → Hp → VK → Prop := fun xs H Q => ∃ i, xs = [.int i] ∧ Q (.int (if i < 0 then -i else i)) H
@[simp] def dAbs : DB := fun xs Q => match xs with
  | [.int i] => Q (.int (if i < 0 then -i else i))
  | _ => False
theorem sb_abs : SimB C rAbs dAbs := by
  intro F H xs ds Qd Q g rs h k
  unfold dAbs at h
  split at h
  · obtain ⟨v, e, r⟩ := rps1 rs
    cases rp_int r
    subst e
    exact ⟨_, rfl, k _ F H _ (.refl g) (.int _) h⟩
  · exact h.elim
def rMax2 : List V → Hp → VK → Prop := fun xs H Q => ∃ i j, xs = [.int i, .int j] ∧ Q (.int (if j > i then j else i)) H
def rMin2 : List V → Hp → VK → Prop := fun xs H Q => ∃ i j, xs = [.int i, .int j] ∧ Q (.int (if j < i then j else i)) H
@[simp] def dMax2 : DB := fun xs Q => match xs with
  | [.int i, .int j] => Q (.int (if j > i then j else i))
  | _ => False
@[simp] def dMin2 : DB := fun xs Q => match xs with
  | [.int i, .int j] => Q (.int (if j < i then j else i))
  | _ => False
theorem sb_max2 : SimB C rMax2 dMax2 := by
  intro F H xs ds Qd Q g rs h k
  unfold dMax2 at h
  split at h
  · obtain ⟨v, w, e, r, r'⟩ := rps2 rs
    cases rp_int r
    cases rp_int r'
    subst e
    exact ⟨_, _, rfl, k _ F H _ (.refl g) (.int _) h⟩
  · exact h.elim
theorem sb_min2 : SimB C rMin2 dMin2 := by
  intro F H xs ds Qd Q g rs h k
  unfold dMin2 at h
  split at h
  · obtain ⟨v, w, e, r, r'⟩ := rps2 rs
    cases rp_int r
    cases rp_int r'
    subst e
    exact ⟨_, _, rfl, k _ F H _ (.refl g) (.int _) h⟩
  · exact h.elim
/-! ### any, all, sum -/
def atomB (b : Bool) : PyData := .bool b
def fitsD (ds : List PyData) : Prop := ∀ x ∈ ds, x.fits63
theorem len63 {n : Nat} (l : n ≤ sizeLine) : (n : Int) < 2 ^ 63 := by
  have e2 : (sizeLine : Nat) = 16777216 := sizeLine_eq
  omega
theorem R.fits {K : PySem.W.Frag} {F : Hp} {v : V} {d : PyData} (r : R K F v d) : d.fits63 := by
  have e2 : (sizeLine : Nat) = 16777216 := sizeLine_eq
  cases r with
  | str x l => exact len63 l
  | lst _ l _ => exact len63 l
  | tup _ l _ => exact len63 l
  | _ => trivial
theorem RL.fits {K : PySem.W.Frag} {F : Hp} : ∀ {vs : List V} {ds : List PyData}, RL K F vs ds → ∀ x ∈ ds, x.fits63
  | _, _, .nil, x, h => nomatch h
  | _, _, .cons a b, x, h => by
    rcases List.mem_cons.mp h with e | h
    · subst e; exact a.fits
    · exact b.fits x h
def rAnyR (K : PySem.W.Frag) (b : Bool) : List V → Hp → VK → Prop := fun xs H Q => ∃ v ds, xs = [v] ∧ (R K H v (.list ds) ∨ R K H v (.tuple ds)) ∧ PyData.plainAll ds = true ∧ Q (.bl (if b then ds.all PyData.truthy else ds.any PyData.truthy)) H
theorem R.listAt {pins : List (Addr × Obj)} {σ : St} {H : Hp} {s : Shared} {v : V} {u : Value} {ds : List PyData} (I : Inv X pins σ H s) (hp : PyData.plainAll ds = true) (h : R X.K H v (.list ds)) (r : RelV v u) :
    ∃ l vs as, u = .ref l ∧ s.heap.IsList l vs ∧ ReadsAll s.heap vs.toList ds as ∧ ∀ x ∈ ds, x.fits63 := by
  cases h with
  | lst hs _ ha =>
    cases r
    obtain ⟨its, rv, pl, _⟩ := I.list (SqL.of hs)
    obtain ⟨as, hr⟩ := RL.reads I ds _ its hp ha rv
    exact ⟨_, its.toArray, as, rfl, pl.isList, hr, ha.fits⟩
theorem R.tupAt {pins : List (Addr × Obj)} {σ : St} {H : Hp} {s : Shared} {v : V} {u : Value} {ds : List PyData} (I : Inv X pins σ H s) (hp : PyData.plainAll ds = true) (h : R X.K H v (.tuple ds)) (r : RelV v u) :
    ∃ l vs as, u = .ref l ∧ s.heap.IsTuple l vs ∧ ReadsAll s.heap vs.toList ds as ∧ ∀ x ∈ ds, x.fits63 := by
  cases h with
  | tup hs _ ha =>
    cases r
    obtain ⟨its, rv, pl, _⟩ := I.tuple hs.t
    obtain ⟨as, hr⟩ := RL.reads I ds _ its hp ha rv
    exact ⟨_, its.toArray, as, rfl, pl, hr, ha.fits⟩
theorem call_anyR (hc : X.calm = true) : CallR X (.builtin "any") (rAnyR X.K false) := by
  intro pins s σ H xs us Q I r h
  obtain ⟨v, ds, rfl, hl, hp, q⟩ := h
  obtain ⟨u, rfl, rx⟩ := vals1 r
  rcases hl with hl | hl
  · obtain ⟨l, vs, as, rfl, il, hr, hf⟩ := R.listAt I hp hl rx
    exact PySem.W.any_list_data (I.ok.hd hc) il hr hp hf fun h' tk kp => ⟨.bl _, H, I.kept (t' := tk) kp, rfl, q⟩
  · obtain ⟨l, vs, as, rfl, il, hr, hf⟩ := R.tupAt I hp hl rx
    exact PySem.W.any_tuple_data (I.ok.hd hc) il hr hp hf fun h' tk kp => ⟨.bl _, H, I.kept (t' := tk) kp, rfl, q⟩
theorem call_allR (hc : X.calm = true) : CallR X (.builtin "all") (rAnyR X.K true) := by
  intro pins s σ H xs us Q I r h
  obtain ⟨v, ds, rfl, hl, hp, q⟩ := h
  obtain ⟨u, rfl, rx⟩ := vals1 r
  rcases hl with hl | hl
  · obtain ⟨l, vs, as, rfl, il, hr, hf⟩ := R.listAt I hp hl rx
    exact PySem.W.all_list_data (I.ok.hd hc) il hr hp hf fun h' tk kp => ⟨.bl _, H, I.kept (t' := tk) kp, rfl, q⟩
  · obtain ⟨l, vs, as, rfl, il, hr, hf⟩ := R.tupAt I hp hl rx
    exact PySem.W.all_tuple_data (I.ok.hd hc) il hr hp hf fun h' tk kp => ⟨.bl _, H, I.kept (t' := tk) kp, rfl, q⟩
@[simp] def dAny (b : Bool) : DB := fun xs Q => match xs with
  | [.list ds] => PyData.plainAll ds = true ∧ Q (.bool (if b then ds.all PyData.truthy else ds.any PyData.truthy))
  | [.tuple ds] => PyData.plainAll ds = true ∧ Q (.bool (if b then ds.all PyData.truthy else ds.any PyData.truthy))
  | _ => False
theorem sb_any {b : Bool} : SimB C (rAnyR C.K b) (dAny b) := by
  intro F H xs ds Qd Q g rs h k
  unfold dAny at h
  split at h
  · obtain ⟨v, e, r⟩ := rps1 rs
    exact ⟨v, _, e, .inl (r.all g), h.1, k _ F H _ (.refl g) (.bl _) h.2⟩
  · obtain ⟨v, e, r⟩ := rps1 rs
    exact ⟨v, _, e, .inr (r.all g), h.1, k _ F H _ (.refl g) (.bl _) h.2⟩
  · exact h.elim
/-- the ints of a list -/
def intsOf : List PyData → Option (List Int)
  | [] => some []
  | .int i :: r => (intsOf r).map (i :: ·)
  | _ :: _ => none
theorem intsOf_map : ∀ {ds : List PyData} {ns : List Int}, intsOf ds = some ns → ds = ns.map .int
  | [], ns, h => by cases h; rfl
  | d :: r, ns, h => by
    cases d with
    | int i =>
      simp only [intsOf] at h
      cases e : intsOf r with
      | none => rw [e] at h; cases h
      | some ms =>
        rw [e] at h
        cases h
        rw [List.map_cons, ← intsOf_map e]
    | _ => simp [intsOf] at h
theorem intsOf_of (ns : List Int) : intsOf (ns.map .int) = some ns := by
  induction ns with
  | nil => rfl
  | cons n r ih => simp [intsOf, ih]
theorem RL.ints {K : PySem.W.Frag} {F : Hp} : ∀ {vs : List V} {ns : List Int}, RL K F vs (ns.map .int) → vs = ns.map V.int
  | _, [], .nil => rfl
  | _, n :: r, .cons a b => by cases a; rw [b.ints]; rfl
@[simp] def dSum : DB := fun xs Q => match xs with
  | [.list ds] => match intsOf ds with
    | some ns => Q (.int ns.sum)
    | none => False
  | _ => False
theorem sb_sum : SimB C (rSum C.K) dSum := by
  intro F H xs ds Qd Q g rs h k
  unfold dSum at h
  split at h
  · obtain ⟨v, e, r⟩ := rps1 rs
    obtain ⟨a, vs, e1, _, q1, l1, r1⟩ := r.list g
    split at h
    · rename_i ns en
      have e3 := intsOf_map en
      subst e e1 e3
      have e4 := r1.ints
      subst e4
      exact ⟨a, ns, rfl, SqL.of q1, k _ F H _ (.refl g) (.int _) h⟩
    · exact h.elim
  · exact h.elim
end
end VL

set_option Elab.async false
set_option linter.all false
set_option maxRecDepth 100000
set_option maxHeartbeats 4000000
/-! VLIter: what is walked: lists, tuples, texts of any kind; enumerate and zip of such. -/
namespace VL
open PySem PySem.Spec L2

/-- what may be walked -/
inductive Src where
  | lst (a : Addr)
  | tup (a : Addr)
  | txt (x : Str)
namespace Src
def V : Src → L2.V
  | .lst a => .ref a
  | .tup a => .ref a
  | .txt x => .str x
def is (K : PySem.W.Frag) (H : Hp) : Src → List L2.V → Prop
  | .lst a, xs => SqL K H a xs
  | .tup a, xs => SqT K H a xs
  | .txt x, xs => xs = x.cps.toList.map fun c => L2.V.str ⟨#[c]⟩
/-- its iterator at it, i items drawn -/
def at_ : Src → Addr → Nat → Heap → Prop
  | .lst a, it, i, h => h.IsListIter it a i
  | .tup a, it, i, h => h.IsTupleIter it a i
  | .txt x, it, i, h => ∃ t, h.IsStrIter it (strIterType x) x t i
theorem inj {X : Cx} {pins : List (Addr × Obj)} {σ : St} {H : Hp} {s : Shared} (I : Inv X pins σ H s) : ∀ {r : Src} {xs ys : List L2.V}, r.is X.K H xs → r.is X.K H ys → xs = ys
  | .lst _, _, _, h, h' => I.list_inj h h'
  | .tup _, _, _, h, h' => I.tuple_inj h h'
  | .txt _, _, _, h, h' => by rw [show _ = _ from h, show _ = _ from h']
theorem keep : ∀ {r : Src} {it : Addr} {i : Nat} {h h' : Heap}, r.at_ it i h → (∀ o, h.get? it = some o → h'.get? it = some o) → r.at_ it i h'
  | .lst _, _, _, _, _, st, k => st.at k
  | .tup _, _, _, _, _, st, k => st.at k
  | .txt _, _, _, _, _, ⟨t, o, ho, r⟩, k => ⟨t, o, k o ho, r⟩
theorem there : ∀ {r : Src} {it : Addr} {i : Nat} {h : Heap}, r.at_ it i h → ∃ o, h.get? it = some o ∧ ∀ v, o.data ≠ .cell v
  | .lst _, _, _, _, ⟨o, ho, _, hd⟩ => ⟨o, ho, fun v q => by rw [hd] at q; cases q⟩
  | .tup _, _, _, _, ⟨o, ho, _, hd⟩ => ⟨o, ho, fun v q => by rw [hd] at q; cases q⟩
  | .txt _, _, _, _, ⟨t, o, ho, _, hd⟩ => ⟨o, ho, fun v q => by rw [hd] at q; cases q⟩
end Src
/-- an address that the walk's own cells are not -/
def Fixed (X : Cx) (H : Hp) (b : Addr) : Prop := H b ≠ none ∨ ∃ o, X.base.get? b = some o
theorem fp_ne {X : Cx} {pins : List (Addr × Obj)} {H : Hp} {σ : St} {s : Shared} {e b : Addr} (I : Inv X pins σ H s) (f : FpOk X pins H e) (h : Fixed X H b) : e ≠ b := by
  intro z
  subst z
  rcases h with h | ⟨o, h⟩
  · exact h f.1
  · rcases f.2.2.2.1 with q | q
    · exact I.ok.noex _ _ h q
    · exact absurd (Nat.lt_of_lt_of_le (Heap.lt_size (I.ok.bs _ _ h).1) q) (Nat.lt_irrefl _)
theorem sqL_fixed {X : Cx} {pins : List (Addr × Obj)} {H : Hp} {σ : St} {s : Shared} {a : Addr} {xs : List V} (I : Inv X pins σ H s) (h : SqL X.K H a xs) : Fixed X H a := by
  rcases h with (h | ⟨o, h⟩) | ⟨o, its, n, h, _⟩
  · exact .inl (by rw [h]; simp)
  · exact .inl (by rw [h]; simp)
  · exact .inr ⟨o, I.ok.mod.kin a o h⟩
theorem sqT_fixed {X : Cx} {pins : List (Addr × Obj)} {H : Hp} {σ : St} {s : Shared} {a : Addr} {xs : List V} (I : Inv X pins σ H s) (h : SqT X.K H a xs) : Fixed X H a := by
  rcases h with (h | ⟨o, h⟩) | ⟨o, its, n, h, _⟩
  · exact .inl (by rw [h]; simp)
  · exact .inl (by rw [h]; simp)
  · exact .inr ⟨o, I.ok.mod.kin a o h⟩
/-- what its iterator draws -/
structure Drawn (X : Cx) (A : Around) (H : Hp) (s : Shared) (r : Src) (xs : List V) (it : Addr) (i : Nat) : Prop where
  ex : ∃ (fp : List Addr) (P : Nat → Value → Prop) (T : Nat → Heap → Prop), PySem.Draws X.prog X.w A it fp xs.length P T ∧ (r.at_ it i s.heap → T i s.heap) ∧ (∀ j h, T j h → r.at_ it j h) ∧ (∀ j v, P j v → ∃ x, xs[j]? = some x ∧ RelV x v) ∧
    it ∈ fp ∧ ∀ b ∈ fp, b = it ∨ Fixed X H b
theorem drawn {X : Cx} {A : Around} {pins : List (Addr × Obj)} {σ : St} {H : Hp} {s : Shared} {it : Addr} (i : Nat) (I : Inv X pins σ H s) (hA : A.handled = none) (f : FpOk X pins H it) : ∀ {r : Src} {xs : List V}, r.is X.K H xs → r.at_ it i s.heap → Drawn X A H s r xs it i
  | .lst a, xs, h, st => by
    obtain ⟨its, rv, p, hz⟩ := I.list h
    have hn : its.toArray.size = xs.length := by rw [List.size_toArray, rv.length]
    refine ⟨_, _, _, hn ▸ PySem.Draws.list hA it a (Ne.symm (fp_ne I f (sqL_fixed I h))) its.toArray, fun st => ⟨st, p.isList⟩, fun j h st => st.1, fun j v hv => ?_, by simp, fun b hb => ?_⟩
    · have hj : j < xs.length := by
        have := (Array.getElem?_eq_some_iff.mp hv).1
        rwa [hn] at this
      obtain ⟨u, hu, ru⟩ := rv.get (i := j) (x := xs[j]) (by simp [hj])
      have e : v = u := by
        have h1 : its.toArray[j]? = some v := hv
        rw [List.getElem?_toArray, hu] at h1
        exact (Option.some.inj h1).symm
      exact ⟨xs[j], by simp [hj], e ▸ ru⟩
    · have : b = it ∨ b = a := by simpa using hb
      rcases this with z | z
      · exact .inl z
      · exact .inr (by rw [z]; exact sqL_fixed I h)
  | .tup a, xs, h, st => by
    obtain ⟨its, rv, p, hz⟩ := I.tuple h
    have hn : its.toArray.size = xs.length := by rw [List.size_toArray, rv.length]
    refine ⟨_, _, _, hn ▸ PySem.Draws.tuple hA it a (Ne.symm (fp_ne I f (sqT_fixed I h))) its.toArray, fun st => ⟨st, p⟩, fun j h st => st.1, fun j v hv => ?_, by simp, fun b hb => ?_⟩
    · have hj : j < xs.length := by
        have := (Array.getElem?_eq_some_iff.mp hv).1
        rwa [hn] at this
      obtain ⟨u, hu, ru⟩ := rv.get (i := j) (x := xs[j]) (by simp [hj])
      have e : v = u := by
        have h1 : its.toArray[j]? = some v := hv
        rw [List.getElem?_toArray, hu] at h1
        exact (Option.some.inj h1).symm
      exact ⟨xs[j], by simp [hj], e ▸ ru⟩
    · have : b = it ∨ b = a := by simpa using hb
      rcases this with z | z
      · exact .inl z
      · exact .inr (by rw [z]; exact sqT_fixed I h)
  | .txt x, xs, h, ⟨t, st⟩ => by
    have e : xs = x.cps.toList.map fun c => V.str ⟨#[c]⟩ := h
    have hn : x.cps.size = xs.length := by rw [e, List.length_map, Array.length_toList]
    refine ⟨_, _, _, hn ▸ PySem.Draws.text hA it x t, fun _ => st, fun j h st => ⟨t, st⟩, fun j v ⟨c, u, hc, hv⟩ => ⟨.str ⟨#[c]⟩, ?_, u, hv⟩, by simp, fun b hb => .inl (by simpa using hb)⟩
    rw [e, List.getElem?_map, Array.getElem?_toList, hc]
    rfl
/-- its value stands for it; its iterator begins -/
def Src.ok (X : Cx) (H : Hp) (r : Src) : Prop := ∃ xs, r.is X.K H xs
theorem src_begins {X : Cx} {pins : List (Addr × Obj)} {σ : St} {H : Hp} {s : Shared} (I : Inv X pins σ H s) : ∀ {r : Src} {u : Value}, r.ok X H → RelV r.V u → ∃ (o : Obj) (G : Heap → Prop), PySem.Begins u o G ∧ G s.heap ∧ (∀ (it : Addr) (h : Heap), h.get? it = some o → r.at_ it 0 h) ∧ o.dict = none
  | .lst a, u, ⟨xs, h⟩, rv => by
    obtain rfl : u = Value.ref a := rv
    obtain ⟨its, _, p, _⟩ := I.list h
    exact ⟨_, _, PySem.begins_list a its.toArray, p.isList, fun it h e => ⟨_, e, rfl, rfl⟩, rfl⟩
  | .tup a, u, ⟨xs, h⟩, rv => by
    obtain rfl : u = Value.ref a := rv
    obtain ⟨its, _, p, _⟩ := I.tuple h
    exact ⟨_, _, PySem.begins_tuple a its.toArray, p, fun it h e => ⟨_, e, rfl, rfl⟩, rfl⟩
  | .txt x, u, _, ⟨t, e⟩ => by
    subst e
    exact ⟨_, _, PySem.begins_text x t, trivial, fun it h e => ⟨t, _, e, rfl, rfl⟩, rfl⟩
end VL

set_option Elab.async false
set_option linter.all false
set_option maxRecDepth 100000
set_option maxHeartbeats 4000000
/-! VLIter2: lists, tuples, texts walked; enumerate and zip of them; range. -/
namespace VL
open PySem PySem.Spec PyProof.Rows L2

theorem enum_new1 {v : Value} {o : Obj} {H : Heap → Prop} (B : Begins v o H) :
    Meets (Builtin.«enumerate.__new__» ⟨[.type "enumerate", v], []⟩) (fun _ R s => H s.heap ∧ R (.ok (.ret (.ref (s.heap.push o).objs.size)))
      { s with heap := (s.heap.push o).push { cls := .type "enumerate", data := .fields #[.none, .bool false, .ref s.heap.objs.size, rawInt 0, .none, .none] } }) :=
  .of_wp fun prog w A R s h => by
    obtain ⟨hp, g, d, tk, os⟩ := s
    obtain ⟨h1, h⟩ := h
    have hsub := sub_enumerate
    have q1 : ∀ {A' : Around} {E : Value → Shared → Prop} {Q : Value → Shared → Prop}, Q (.ref hp.objs.size) ⟨hp.push o, g, d, tk, os⟩ → wpAny (model prog w) A' (pyIter v) Q E ⟨hp, g, d, tk, os⟩ := fun q => B.iter prog w _ _ ⟨hp, g, d, tk, os⟩ _ h1 q
    wp_walk
    refine wpAny_stack_any fun st => wpAny_pure ?_
    split
    · rename_i c _ _ _ _ _
      cases (c == Value.type "enumerate")
      · wp_walk using q1
        exact ⟨_, rfl, h⟩
      · wp_walk using q1
        exact ⟨_, rfl, h⟩
    · wp_walk using q1
      exact ⟨_, rfl, h⟩
theorem enum_from {prog : Program} {w : World} {A : Around} {E : Value → Shared → Prop} {s : Shared} {v : Value} {o : Obj} {G : Heap → Prop} {Q : Value → Shared → Prop} (B : Begins v o G) (h1 : G s.heap)
    (h : ∀ h', IsEnum h' (s.heap.objs.size + 1) s.heap.objs.size 0 .none → h'.get? s.heap.objs.size = some o → (∀ b u, s.heap.get? b = some u → h'.get? b = some u) → Q (.ref (s.heap.objs.size + 1)) { s with heap := h' }) :
    wpAny (model prog w) A (call (.type "enumerate") [v]) Q E s := by
  refine callType_new F.called_enumerate (by decide) (F.typeCall_enumerate_1 _) (F.newCall_enumerate_1 _) (fun obj => F.args_object_init_2 obj _) F.entry_enumerate_new (enum_new1 B) ⟨h1, ?_⟩
  have hz : (s.heap.push o).objs.size = s.heap.objs.size + 1 := Heap.size_push ..
  show _ ∧ _
  rw [hz]
  have he : IsEnum ((s.heap.push o).push { cls := .type "enumerate", data := .fields #[.none, .bool false, .ref s.heap.objs.size, rawInt 0, .none, .none] }) (s.heap.objs.size + 1) s.heap.objs.size 0 .none := by
    have := Heap.get?_push_size (s.heap.push o) (o := { cls := .type "enumerate", data := .fields #[.none, .bool false, .ref s.heap.objs.size, rawInt 0, .none, .none] }) rfl
    rw [hz] at this; exact this
  exact ⟨⟨_, he, rfl⟩, h _ he (Heap.get?_push_of_some _ (Heap.get?_push_size _ B.free)) fun b u x => Heap.get?_push_of_some _ (Heap.get?_push_of_some _ x)⟩
theorem at_obj {r : Src} {it : Addr} {i : Nat} {h : Heap} (st : r.at_ it i h) : ∃ o, h.get? it = some o ∧ ∀ v, o.data ≠ .cell v := Src.there st
/-! ### any source -/
def ItA (K : PySem.W.Frag) : Src → It
  | .lst a => Itl K a
  | .tup a => Itt K a
  | .txt x => Its x
def iAny (K : PySem.W.Frag) (te : TE) : TI := fun σ H R => te σ H fun v H1 => ∃ (r : Src) (xs : List V), v = r.V ∧ r.is K H1 xs ∧ R (ItA K r) H1
theorem pi_any {X : Cx} {tg e : Expr} {te : TE} (he : PE X e te) : PI X tg e (iAny X.K te) := by
  refine ⟨fun pins s σ H R I h => ?_⟩
  refine thn (he.run pins s σ H _ I h) fun v s1 ⟨x, H1, I1, r1, q1⟩ => ?_
  obtain ⟨r, xs, e, hq, q⟩ := q1
  subst e
  cases r with
  | lst a =>
    cases r1
    obtain ⟨its, rv, p, hz⟩ := I1.list hq
    exact wpAny_pyIter_list p.isList (pi_one (tk := s1.toks) I1 _ (turn_list a _) ⟨_, Heap.get?_push_size _ rfl, rfl, rfl⟩ q)
  | tup a =>
    cases r1
    obtain ⟨its, rv, p, hz⟩ := I1.tuple hq
    exact wpAny_pyIter_tuple (show s1.heap.IsTuple a its.toArray from p) (pi_one (tk := s1.toks) I1 _ (turn_tuple a _) ⟨_, Heap.get?_push_size _ rfl, rfl, rfl⟩ q)
  | txt x =>
    obtain ⟨t, rfl⟩ := r1
    cases ha : x.cps.all (· < 128) with
    | true => exact wpAny_pyIter_ascii ha (pi_one (tk := s1.toks) I1 _ (turn_str _ x t "str_ascii_iterator" (.inl rfl)) ⟨_, Heap.get?_push_size _ rfl, rfl, rfl⟩ q)
    | false => exact wpAny_pyIter_wide ha (pi_one (tk := s1.toks) I1 _ (turn_str _ x t "str_iterator" (.inr rfl)) ⟨_, Heap.get?_push_size _ rfl, rfl, rfl⟩ q)
/-! ### enumerate -/
def ItE (K : PySem.W.Frag) (r : Src) : It :=
  ⟨fun i H => ∃ (xs : List V) (x : V), r.is K H xs ∧ xs[i]? = some x,
    fun i H v H' => ∃ T x, ∃ o : Obj, v = .ref T ∧ H T = none ∧ H' = upd H T (.frz o (.tup [.int (i : Nat), x])) ∧ o.dict = none ∧ ∀ xs, r.is K H xs → xs[i]? = some x,
    fun i H => ∃ xs : List V, r.is K H xs ∧ xs.length = i⟩
theorem turn_enumS {P : Program} {w : World} {K : PySem.W.Frag} {elts : List Expr} {kk : Nat} {tpos : Pos} (r : Src) (e it : Addr) :
    Turn P w K (.Tuple elts kk tpos) (ItE K r) [e, it] e (fun i h => (∃ old, IsEnum h e it ((i : Nat) : Int) old) ∧ r.at_ it i h ∧ e ≠ it) where
  mem := by simp
  obj := fun i h st b hb => by
    obtain ⟨⟨old, he⟩, hi, _⟩ := st
    have e' : b = e ∨ b = it := by simpa using hb
    rcases e' with z | z
    · rw [z]; exact ⟨_, he, fun v q => nomatch q⟩
    · rw [z]; exact at_obj hi
  keep := fun i h h' ⟨⟨old, he⟩, hi, hne⟩ k => ⟨⟨old, k e (by simp) _ he⟩, Src.keep hi fun o q => k it (by simp) o q, hne⟩
  item := by
    intro X hP hw hK hc i pins s σ H E I hf st hg
    subst hP hw hK
    obtain ⟨⟨old, he⟩, hit, hne⟩ := st
    obtain ⟨xs, x, hq, hx⟩ := hg
    have fe := hf e (by simp)
    have fi := hf it (by simp)
    obtain ⟨fp, Pv, T, D, inT, ofT, hPv, mem, fix⟩ := (drawn (A := X.A.in1) i I (I.ok.hd hc) fi hq hit).ex
    have nfp : e ∉ fp := fun hb => by
      rcases fix e hb with z | z
      · exact hne z
      · exact fp_ne I fe z rfl
    have hel : e < s.heap.objs.size := Heap.lt_size he
    have hil : it < s.heap.objs.size := by obtain ⟨o, q, _⟩ := at_obj hit; exact Heap.lt_size q
    have hlt : i < xs.length := (List.getElem?_eq_some_iff.mp hx).1
    refine wpAny_pyNext_enum_itemD D he (inT hit) hlt hne nfp fun u h' tk hu ho hit' hT hsz hk => ?_
    obtain ⟨x', hx', ru⟩ := hPv i u hu
    obtain rfl : x' = x := by rw [hx] at hx'; exact (Option.some.inj hx').symm
    refine ⟨_, rfl, wpAny_letOwnedTupleGo_enum (s := { s with heap := h', toks := tk + 1 }) ho fun h'' he' sb => ?_⟩
    have hT2 : h''.get? s.heap.objs.size = some { cls := .type "tuple", data := .seq #[.int i tk, u] } := (sb.2 _ (Nat.ne_of_gt hel)).trans hT
    have new : ObjOk X.prog X.w (upd H s.heap.objs.size (.frz (tob [.int i tk, u]) (.tup [.int (i : Nat), x']))) h'' s.heap.objs.size (.frz (tob [.int i tk, u]) (.tup [.int (i : Nat), x'])) :=
      ⟨hT2, by show 2 ≤ sizeLine; decide, [.int i tk, u], .cons ⟨_, rfl⟩ (.cons ru .nil), ⟨_, hT2, rfl, _, rfl⟩⟩
    have I1 : Inv X pins σ (upd H s.heap.objs.size (.frz (tob [.int i tk, u]) (.tup [.int (i : Nat), x']))) { s with heap := h'', toks := tk + 1 } :=
      I.turnedNew (ch := [e, it]) (fun b ob hb q => (sb.2 b (fun z => hb (by simp [z]))).trans (hk b ob (fun z => hb (by simp [z])) (fun z => hb (by simp [z])) q)) hf (Nat.le_refl _) new
    refine ⟨.ref s.heap.objs.size, _, I1, rfl, ⟨_, x', tob [.int i tk, u], rfl, I.hok.fresh (Nat.le_refl _), rfl, rfl, fun ys hy => by rw [Src.inj I hy hq]; exact hx⟩, ⟨⟨u, ?_⟩, Src.keep (ofT _ _ hit') fun o q => (sb.2 it (Ne.symm hne)).trans q, hne⟩, fun b hb => ?_⟩
    · have e1 : ((i + 1 : Nat) : Int) = (i : Int) + 1 := by omega
      rw [e1]; exact he'
    · have hb' : b < s.heap.objs.size := by
        have e' : b = e ∨ b = it := by simpa using hb
        rcases e' with z | z
        · rw [z]; exact hel
        · rw [z]; exact hil
      rw [upd_ne (Nat.ne_of_lt hb')]
      exact (hf b hb).1
  done := by
    intro X hP hw hK hc i pins s σ H E I hf st hg
    subst hP hw hK
    obtain ⟨⟨old, he⟩, hit, hne⟩ := st
    obtain ⟨xs, hq, hx⟩ := hg
    subst hx
    have fi := hf it (by simp)
    obtain ⟨fp, Pv, T, D, inT, ofT, hPv, mem, fix⟩ := (drawn (A := X.A.in1) xs.length I (I.ok.hd hc) fi hq hit).ex
    obtain ⟨f0, f1, f2, f3, f4, f5⟩ := fi
    exact wpAny_pyNext_enum_endD D he (inT hit) fun h' eb => ⟨rfl, I.turned (t' := s.toks) (fun b o hb q => eb b o hb q) f0 f1 f3 f4 f5⟩
  self := fun A i s Q E ⟨⟨_, he⟩, _⟩ h => wpAny_pyIter_enum he h
def iEnumA (K : PySem.W.Frag) (ta : TA) : TI := fun σ H R => ta σ H fun vs H1 => ∃ (r : Src) (xs : List V), vs = [r.V] ∧ r.is K H1 xs ∧ R (ItE K r) H1
theorem pi_enumA {X : Cx} {e : Expr} {ta : TA} {p pos tpos : Pos} {elts : List Expr} {kk : Nat} (hg : Gl X "enumerate") (hm : X.mg "enumerate" = none) (ha : PA X [e] ta) (hs : starEach [e] X.env = [(false, eval e X.env)] := by rfl) :
    PI X (.Tuple elts kk tpos) (.Call (.Name "enumerate" p) [e] [] pos) (iEnumA X.K ta) := by
  refine ⟨fun pins s σ H R I h => ?_⟩
  refine Call_ (ld_blt I hg hm boot_enumerate (PyProof.Rows.callWith_type1 (thn (ha.run pos pins s σ H _ I h) fun us s1 ⟨vs, H1, I1, r1, q1⟩ => ?_) hs rfl))
  obtain ⟨r, xs, ex, hq, q⟩ := q1
  subst ex
  cases r1 with
  | cons rv rr =>
    cases rr
    obtain ⟨o, G, B, hG, hst, hd⟩ := src_begins I1 (r := r) ⟨xs, hq⟩ rv
    refine enum_from B hG fun h' he hit hk => wpAny_pyIter_enum he ?_
    have I2 : Inv X pins σ H1 { s1 with heap := h' } := I1.kept (t' := s1.toks) hk
    refine ⟨s1.heap.objs.size + 1, [s1.heap.objs.size + 1, s1.heap.objs.size], _, _, H1, rfl, I2, turn_enumS r (s1.heap.objs.size + 1) s1.heap.objs.size, ⟨⟨.none, he⟩, hst _ _ hit, Nat.succ_ne_self _⟩, fun b hb => ?_, q⟩
    have e' : b = s1.heap.objs.size + 1 ∨ b = s1.heap.objs.size := by simpa using hb
    have hle : s1.heap.objs.size ≤ b := by
      rcases e' with z | z
      · rw [z]; exact Nat.le_add_right _ _
      · rw [z]; exact Nat.le_refl _
    exact I1.fpOk hle (I1.hok.fresh hle)
/-! ### zip of two -/
def ItZ (K : PySem.W.Frag) (r1 r2 : Src) : It :=
  ⟨fun i H => ∃ (xs ys : List V) (x y : V), r1.is K H xs ∧ r2.is K H ys ∧ xs[i]? = some x ∧ ys[i]? = some y,
    fun i H v H' => ∃ T x y, ∃ o : Obj, v = .ref T ∧ H T = none ∧ H' = upd H T (.frz o (.tup [x, y])) ∧ o.dict = none ∧ (∀ xs, r1.is K H xs → xs[i]? = some x) ∧ ∀ ys, r2.is K H ys → ys[i]? = some y,
    fun i H => ∃ xs ys : List V, r1.is K H xs ∧ r2.is K H ys ∧ i ≤ xs.length ∧ i ≤ ys.length ∧ (i = xs.length ∨ i = ys.length)⟩
/-- the five cells stand apart -/
structure Five (z TI TO i1 i2 : Addr) : Prop where
  a : TI ≠ z
  b : TO ≠ z
  c : TI ≠ TO
  d : TI ≠ i1
  e : TI ≠ i2
  f : z ≠ i1
  g : z ≠ i2
  h : TO ≠ i1
  i : TO ≠ i2
  j : i1 ≠ i2
theorem turn_zipS {P : Program} {w : World} {K : PySem.W.Frag} {elts : List Expr} {kk : Nat} {tpos : Pos} {r1 r2 : Src} {z TI TO i1 i2 : Addr} (A5 : Five z TI TO i1 i2) :
    Turn P w K (.Tuple elts kk tpos) (ItZ K r1 r2) [z, TI, TO, i1, i2] z (fun i h => IsZip h z TI TO .none ∧ IsTupOf2 h TI (.ref i1) (.ref i2) ∧ (∃ x y, IsTupOf2 h TO x y) ∧ r1.at_ i1 i h ∧ r2.at_ i2 i h) where
  mem := by simp
  obj := fun i h st c hc => by
    obtain ⟨hz, hTI, ⟨x, y, hTO⟩, h1, h2⟩ := st
    have e' : c = z ∨ c = TI ∨ c = TO ∨ c = i1 ∨ c = i2 := by simpa using hc
    rcases e' with q | q | q | q | q
    · rw [q]; exact ⟨_, hz, fun v q => nomatch q⟩
    · rw [q]; exact ⟨_, hTI, fun v q => nomatch q⟩
    · rw [q]; exact ⟨_, hTO, fun v q => nomatch q⟩
    · rw [q]; exact at_obj h1
    · rw [q]; exact at_obj h2
  keep := fun i h h' st k => by
    obtain ⟨hz, hTI, ⟨x, y, hTO⟩, h1, h2⟩ := st
    exact ⟨k z (by simp) _ hz, k TI (by simp) _ hTI, ⟨x, y, k TO (by simp) _ hTO⟩, Src.keep h1 fun o q => k i1 (by simp) o q, Src.keep h2 fun o q => k i2 (by simp) o q⟩
  item := by
    intro X hP hw hK hc i pins s σ H E I hf st hg
    subst hP hw hK
    obtain ⟨hz, hTI, ⟨x0, y0, hTO⟩, h1, h2⟩ := st
    obtain ⟨xs, ys, x, y, hqx, hqy, hx, hy⟩ := hg
    have f1 := hf i1 (by simp)
    have f2 := hf i2 (by simp)
    have fz := hf z (by simp)
    have fO := hf TO (by simp)
    obtain ⟨fp1, P1, T1, D1, in1, of1, hP1, mem1, fix1⟩ := (drawn (A := X.A.in1) i I (I.ok.hd hc) f1 hqx h1).ex
    obtain ⟨fp2, P2, T2, D2, in2, of2, hP2, mem2, fix2⟩ := (drawn (A := X.A.in1) i I (I.ok.hd hc) f2 hqy h2).ex
    have out1 : ∀ {b}, FpOk X pins H b → b ≠ i1 → b ∉ fp1 := fun {b} fb nb hb => by
      rcases fix1 b hb with q | q
      · exact nb q
      · exact fp_ne I fb q rfl
    have out2 : ∀ {b}, FpOk X pins H b → b ≠ i2 → b ∉ fp2 := fun {b} fb nb hb => by
      rcases fix2 b hb with q | q
      · exact nb q
      · exact fp_ne I fb q rfl
    have S : ZipSep2 z TI TO i1 i2 fp1 fp2 := ⟨A5.a, A5.b, A5.c, A5.d, mem1, out1 fz A5.f, out1 fO A5.h, A5.e, mem2, out2 fz A5.g, out2 fO A5.i, out2 f1 A5.j, out1 f2 (Ne.symm A5.j)⟩
    have hzl : z < s.heap.objs.size := Heap.lt_size hz
    refine wpAny_pyNext_zipD2_item S D1 D2 hz hTI hTO (in1 h1) (in2 h2) (List.getElem?_eq_some_iff.mp hx).1 (List.getElem?_eq_some_iff.mp hy).1 fun u u2 h' tk hu hu2 z' TO' h1' h2' hT hsz hk => ?_
    obtain ⟨x', hx', ru⟩ := hP1 i u hu
    obtain ⟨y', hy', ru2⟩ := hP2 i u2 hu2
    obtain rfl : x' = x := by rw [hx] at hx'; exact (Option.some.inj hx').symm
    obtain rfl : y' = y := by rw [hy] at hy'; exact (Option.some.inj hy').symm
    refine ⟨_, rfl, wpAny_letOwnedTupleGo_zip (s := { s with heap := h', toks := tk }) z' fun h'' z'' sb => ?_⟩
    have hT2 : h''.get? s.heap.objs.size = some { cls := .type "tuple", data := .seq #[u, u2] } := (sb.2 _ (Nat.ne_of_gt hzl)).trans hT
    have new : ObjOk X.prog X.w (upd H s.heap.objs.size (.frz (tob [u, u2]) (.tup [x', y']))) h'' s.heap.objs.size (.frz (tob [u, u2]) (.tup [x', y'])) :=
      ⟨hT2, by show 2 ≤ sizeLine; decide, [u, u2], .cons ru (.cons ru2 .nil), ⟨_, hT2, rfl, _, rfl⟩⟩
    have I1 : Inv X pins σ (upd H s.heap.objs.size (.frz (tob [u, u2]) (.tup [x', y']))) { s with heap := h'', toks := tk } :=
      I.turnedNew (ch := [z, TI, TO, i1, i2]) (fun c o hb q => (sb.2 c (fun q' => hb (by simp [q']))).trans (hk c o (fun q' => hb (by simp [q'])) (fun q' => hb (by simp [q'])) (fun q' => hb (by simp [q'])) (fun q' => hb (by simp [q'])) q)) hf (Nat.le_refl _) new
    refine ⟨.ref s.heap.objs.size, _, I1, rfl, ⟨_, x', y', tob [u, u2], rfl, I.hok.fresh (Nat.le_refl _), rfl, rfl, fun l hl => by rw [Src.inj I hl hqx]; exact hx, fun l hl => by rw [Src.inj I hl hqy]; exact hy⟩, ⟨z'', ?_, ⟨u, u2, ?_⟩, ?_, ?_⟩, fun c hcm => ?_⟩
    · exact (sb.2 _ A5.a).trans (hk _ _ A5.a A5.c A5.d A5.e hTI)
    · exact (sb.2 _ A5.b).trans TO'
    · exact Src.keep (of1 _ _ h1') fun o q => (sb.2 _ (Ne.symm A5.f)).trans q
    · exact Src.keep (of2 _ _ h2') fun o q => (sb.2 _ (Ne.symm A5.g)).trans q
    · have hlt : c < s.heap.objs.size := by
        have e' : c = z ∨ c = TI ∨ c = TO ∨ c = i1 ∨ c = i2 := by simpa using hcm
        rcases e' with q | q | q | q | q
        · rw [q]; exact hzl
        · rw [q]; exact Heap.lt_size hTI
        · rw [q]; exact Heap.lt_size hTO
        · rw [q]; obtain ⟨_, e1, _⟩ := at_obj h1; exact Heap.lt_size e1
        · rw [q]; obtain ⟨_, e1, _⟩ := at_obj h2; exact Heap.lt_size e1
      rw [upd_ne (Nat.ne_of_lt hlt)]
      exact (hf c hcm).1
  done := by
    intro X hP hw hK hc i pins s σ H E I hf st hg
    subst hP hw hK
    obtain ⟨hz, hTI, ⟨x0, y0, hTO⟩, h1, h2⟩ := st
    obtain ⟨xs, ys, hqx, hqy, l1, l2, hend⟩ := hg
    have f1 := hf i1 (by simp)
    have f2 := hf i2 (by simp)
    have fz := hf z (by simp)
    have fO := hf TO (by simp)
    obtain ⟨fp1, P1, T1, D1, in1, of1, hP1, mem1, fix1⟩ := (drawn (A := X.A.in1) i I (I.ok.hd hc) f1 hqx h1).ex
    obtain ⟨fp2, P2, T2, D2, in2, of2, hP2, mem2, fix2⟩ := (drawn (A := X.A.in1) i I (I.ok.hd hc) f2 hqy h2).ex
    have out1 : ∀ {b}, FpOk X pins H b → b ≠ i1 → b ∉ fp1 := fun {b} fb nb hb => by
      rcases fix1 b hb with q | q
      · exact nb q
      · exact fp_ne I fb q rfl
    have out2 : ∀ {b}, FpOk X pins H b → b ≠ i2 → b ∉ fp2 := fun {b} fb nb hb => by
      rcases fix2 b hb with q | q
      · exact nb q
      · exact fp_ne I fb q rfl
    have S : ZipSep2 z TI TO i1 i2 fp1 fp2 := ⟨A5.a, A5.b, A5.c, A5.d, mem1, out1 fz A5.f, out1 fO A5.h, A5.e, mem2, out2 fz A5.g, out2 fO A5.i, out2 f1 A5.j, out1 f2 (Ne.symm A5.j)⟩
    exact wpAny_pyNext_zipD2_end S D1 D2 hz hTI hTO (in1 h1) (in2 h2) l1 l2 hend fun h' tk hk => ⟨rfl, I.turnedL (t' := tk) (ch := [z, TI, TO, i1, i2]) (fun c o hb q =>
      hk c o (fun q' => hb (by simp [q'])) (fun q' => hb (by simp [q'])) (fun q' => hb (by simp [q'])) (fun q' => hb (by simp [q'])) q) hf⟩
  self := fun A i s Q E st h => wpAny_pyIter_zip st.1 h
def iZipA (K : PySem.W.Frag) (ta : TA) : TI := fun σ H R => ta σ H fun vs H1 => ∃ (r1 r2 : Src) (xs ys : List V), vs = [r1.V, r2.V] ∧ r1.is K H1 xs ∧ r2.is K H1 ys ∧ R (ItZ K r1 r2) H1
theorem pi_zipA {X : Cx} {e e2 : Expr} {ta : TA} {p pos tpos : Pos} {elts : List Expr} {kk : Nat} (hg : Gl X "zip") (hm : X.mg "zip" = none) (ha : PA X [e, e2] ta)
    (hs : starEach [e, e2] X.env = (false, eval e X.env) :: starEach [e2] X.env := by rfl) (hpl : (backTo pos (starEach [e2] X.env)).any (·.1) = false := by rfl) :
    PI X (.Tuple elts kk tpos) (.Call (.Name "zip" p) [e, e2] [] pos) (iZipA X.K ta) := by
  refine ⟨fun pins s σ H R I h => ?_⟩
  refine Call_ (ld_blt I hg hm PyProof.Rows.boot_zip (PyProof.Rows.callWith_type1 (thn (ha.run pos pins s σ H _ I h) fun us s1 ⟨vs, H1, I1, r1, q1⟩ => ?_) hs hpl))
  obtain ⟨s1', s2', xs, ys, ex, hqx, hqy, q⟩ := q1
  subst ex
  cases r1 with
  | cons r rr =>
    cases rr with
    | cons r' rr =>
      cases rr
      obtain ⟨o1, G1, B1, hG1, hst1, hd1⟩ := src_begins I1 (r := s1') ⟨xs, hqx⟩ r
      obtain ⟨o2, G2, B2, hG2, hst2, hd2⟩ := src_begins I1 (r := s2') ⟨ys, hqy⟩ r'
      refine zip_begins2 B1 B2 hG1 hG2 fun h' hz hTI hTO h1 h2 hsz hk => wpAny_pyIter_zip hz ?_
      have I2 : Inv X pins σ H1 { s1 with heap := h' } := I1.kept (t' := s1.toks) hk
      generalize hn : s1.heap.objs.size = n at *
      refine ⟨n + 4, [n + 4, n + 2, n + 3, n, n + 1], _, _, H1, rfl, I2, turn_zipS ⟨?_, ?_, ?_, ?_, ?_, ?_, ?_, ?_, ?_, ?_⟩, ⟨hz, hTI, ⟨_, _, hTO⟩, hst1 _ _ h1, hst2 _ _ h2⟩, fun c hcm => ?_, q⟩
      iterate 10 (show (_ : Nat) ≠ _; omega)
      have e' : c = n + 4 ∨ c = n + 2 ∨ c = n + 3 ∨ c = n ∨ c = n + 1 := by simpa using hcm
      have hle : n ≤ c := by
        rcases e' with z | z | z | z | z
        · rw [z]; exact Nat.le_add_right _ _
        · rw [z]; exact Nat.le_add_right _ _
        · rw [z]; exact Nat.le_add_right _ _
        · rw [z]; exact Nat.le_refl _
        · rw [z]; exact Nat.le_add_right _ _
      rw [← hn] at hle
      exact I1.fpOk hle (I1.hok.fresh hle)
end VL

set_option Elab.async false
set_option linter.all false
set_option maxRecDepth 100000
set_option maxHeartbeats 4000000
/-! VLIter3: walks by data. -/
namespace VL
open PySem PySem.Spec L2

@[simp] def srcD : PyData → Option (List PyData)
  | .list ds => some ds
  | .tuple ds => some ds
  | .str x => some (x.cps.toList.map fun c => .str ⟨#[c]⟩)
  | _ => none
theorem rl_chars {K : PySem.W.Frag} {F : Hp} : ∀ l : List Nat, RL K F (l.map fun c => V.str ⟨#[c]⟩) (l.map fun c => PyData.str ⟨#[c]⟩)
  | [] => .nil
  | c :: l => .cons (.str _ (by show (1 : Nat) ≤ sizeLine; decide)) (rl_chars l)
theorem src_sh {K : PySem.W.Frag} {F : Hp} {v : V} {d : PyData} {ds : List PyData} (r : R K F v d) (e : srcD d = some ds) :
    ∃ (s : Src) (xs : List V), v = s.V ∧ (∀ H, Same F H → s.is K H xs) ∧ RL K F xs ds ∧ ds.length ≤ sizeLine := by
  cases r with
  | lst q l r => cases e; exact ⟨.lst _, _, rfl, fun H s => SqL.of (s _ _ q), r, l⟩
  | tup q l r => cases e; exact ⟨.tup _, _, rfl, fun H s => sqN_T s q, r, l⟩
  | str x l =>
    cases e
    exact ⟨.txt x, _, rfl, fun H s => rfl, rl_chars _, by rw [List.length_map, Array.length_toList]; exact l⟩
  | _ => cases e
section
variable {C : Cfg}
theorem src_rp {F H : Hp} {v : V} {d : PyData} {ds : List PyData} (g : Good C F H) (r : RP C F H v d) (e : srcD d = some ds) :
    ∃ (s : Src) (xs : List V), v = s.V ∧ (∀ F2 H2, Ext C F H F2 H2 → s.is C.K H2 xs) ∧ RL C.K F xs ds ∧ ds.length ≤ sizeLine := by
  rcases r with r | ⟨a, q, n, c⟩
  · obtain ⟨s, xs, h1, h2, h3, h4⟩ := src_sh r e
    exact ⟨s, xs, h1, fun F2 H2 x => h2 H2 (x.ff.trans x.g.fh), h3, h4⟩
  · subst q
    cases d with
    | list es =>
      cases e
      obtain ⟨vs, q, l, r⟩ := c
      exact ⟨.lst a, vs, rfl, fun F2 H2 x => SqL.of (x.hh a _ q n), r, l⟩
    | dict es => cases e
    | _ => exact c.elim
theorem itA_ok {F0 : Hp} {r : Src} {xs : List V} {ds : List PyData} (rl : RL C.K F0 xs ds) : ItOk C F0 (fun H => r.is C.K H xs) (ItA C.K r) ds := by
  have hl := rl.length
  have get : ∀ i, i < ds.length → ∃ x, xs[i]? = some x := fun i h => ⟨xs[i]'(by omega), by simp [show i < xs.length by omega]⟩
  have yl : ∀ (i : Nat) F H x d, ds[i]? = some d → Good C F H → Same F0 F → xs[i]? = some x → ∃ F', Ext C F H F' H ∧ R C.K F' x d := fun i F H x d hd g s hx => by
    obtain ⟨d', h1, h2⟩ := rl.get hx
    rw [hd] at h1; cases h1
    exact ⟨F, .refl g, h2.mono s⟩
  cases r with
  | lst a =>
    refine ⟨fun i H h g => ?_, fun H g => ⟨xs, g, by omega⟩, fun i F H x H' d hd g gd s hy => ?_⟩
    · obtain ⟨x, hx⟩ := get i h
      exact ⟨xs, x, g, hx⟩
    · obtain ⟨e, hy⟩ := hy
      subst e
      exact yl i F _ x d hd gd s (hy xs g)
  | tup a =>
    refine ⟨fun i H h g => ?_, fun H g => ⟨xs, g, by omega⟩, fun i F H x H' d hd g gd s hy => ?_⟩
    · obtain ⟨x, hx⟩ := get i h
      exact ⟨xs, x, g, hx⟩
    · obtain ⟨e, hy⟩ := hy
      subst e
      exact yl i F _ x d hd gd s (hy xs g)
  | txt t =>
    refine ⟨fun i H h g => ?_, fun H g => ?_, fun i F H x H' d hd g gd s hy => ?_⟩
    · have e : xs = t.cps.toList.map fun c => V.str ⟨#[c]⟩ := g
      have hn : xs.length = t.cps.size := by rw [e, List.length_map, Array.length_toList]
      show i < t.cps.size
      omega
    · have e : xs = t.cps.toList.map fun c => V.str ⟨#[c]⟩ := g
      have hn : xs.length = t.cps.size := by rw [e, List.length_map, Array.length_toList]
      show t.cps.size ≤ ds.length
      omega
    · obtain ⟨e, c, hc, hx⟩ := hy
      subst e hx
      have e : xs = t.cps.toList.map fun c => V.str ⟨#[c]⟩ := g
      exact yl i F _ _ d hd gd s (by rw [e, List.getElem?_map, Array.getElem?_toList, hc]; rfl)
theorem is_get {r : Src} {xs : List V} {i : Nat} {x : V} {H : Hp} (g : r.is C.K H xs) (h : ∀ ys, r.is C.K H ys → ys[i]? = some x) : xs[i]? = some x := h xs g
def enumD (ds : List PyData) : List PyData := ds.mapIdx fun i d => .tuple [.int (i : Nat), d]
def zipD (ds es : List PyData) : List PyData := List.zipWith (fun a b => .tuple [a, b]) ds es
theorem pair_new {F H : Hp} {T : Addr} {o : Obj} {v w : V} {d e : PyData} (g : Good C F H) (hT : H T = none) (ho : o.dict = none) (h1 : R C.K F v d) (h2 : R C.K F w e) : ∃ F', Ext C F H F' (upd H T (.frz o (.tup [v, w]))) ∧ R C.K F' (.ref T) (.tuple [d, e]) := by
  have n := Ext.new g hT (.frz o (.tup [v, w]))
  exact ⟨_, n, .tup (SqN.of upd_same ho) (by show (2 : Nat) ≤ sizeLine; decide) (.cons (h1.mono n.ff) (.cons (h2.mono n.ff) .nil))⟩
theorem itE_ok {F0 : Hp} {r : Src} {xs : List V} {ds : List PyData} (rl : RL C.K F0 xs ds) : ItOk C F0 (fun H => r.is C.K H xs) (ItE C.K r) (enumD ds) := by
  have hl := rl.length
  have hn : (enumD ds).length = ds.length := by unfold enumD; simp
  refine ⟨fun i H h g => ⟨xs, xs[i]'(by omega), g, by simp [show i < xs.length by omega]⟩, fun H g => ⟨xs, g, by omega⟩, fun i F H x H' d hd g gd s hy => ?_⟩
  obtain ⟨T, y, o, e1, e2, e3, hd0, e4⟩ := hy
  subst e1 e3
  have hx := e4 xs g
  obtain ⟨d', h1, h2⟩ := rl.get hx
  unfold enumD at hd
  rw [List.getElem?_mapIdx, h1] at hd
  cases hd
  exact pair_new gd e2 hd0 (.int i) (h2.mono s)
theorem itZ_ok {F0 : Hp} {r1 r2 : Src} {xs ys : List V} {ds es : List PyData} (rl : RL C.K F0 xs ds) (rm : RL C.K F0 ys es) :
    ItOk C F0 (fun H => r1.is C.K H xs ∧ r2.is C.K H ys) (ItZ C.K r1 r2) (zipD ds es) := by
  have hl := rl.length
  have hm := rm.length
  have hn : (zipD ds es).length = min ds.length es.length := by unfold zipD; simp
  refine ⟨fun i H h g => ⟨xs, ys, xs[i]'(by omega), ys[i]'(by omega), g.1, g.2, by simp [show i < xs.length by omega], by simp [show i < ys.length by omega]⟩, fun H g => ⟨xs, ys, g.1, g.2, by omega, by omega, by omega⟩, fun i F H x H' d hd g gd s hy => ?_⟩
  obtain ⟨T, y, z, o, e1, e2, e3, hd0, e4, e5⟩ := hy
  subst e1 e3
  obtain ⟨d1, h1, h2⟩ := rl.get (e4 xs g.1)
  obtain ⟨d2, h3, h4⟩ := rm.get (e5 ys g.2)
  unfold zipD at hd
  rw [List.getElem?_zipWith, h1, h3] at hd
  cases hd
  exact pair_new gd e2 hd0 (h2.mono s) (h4.mono s)
def rngD (lo : Int) (n : Nat) : List PyData := (List.range n).map fun (i : Nat) => .int (lo + i)
theorem itR_ok {F0 : Hp} (lo : Int) (n : Nat) : ItOk C F0 (fun _ => True) (Itr lo n) (rngD lo n) := by
  have hn : (rngD lo n).length = n := by unfold rngD; simp
  refine ⟨fun i H h g => by show i < n; omega, fun H g => by show n ≤ _; omega, fun i F H x H' d hd g gd s hy => ?_⟩
  obtain ⟨e1, e2⟩ := hy
  subst e1 e2
  refine ⟨F, .refl gd, ?_⟩
  unfold rngD at hd
  rw [List.getElem?_map] at hd
  have hi : i < n := by
    apply Decidable.byContradiction
    intro h
    rw [List.getElem?_eq_none (by simp; omega)] at hd
    cases hd
  rw [List.getElem?_range hi] at hd
  cases hd
  exact .int _

/-! ### the walks' rules -/
@[simp] def dIt (t : DE) : DL := fun ρ Q => t ρ fun d => match srcD d with
  | some ds => Q ds
  | none => False
theorem simI_any {th : TE} {t : DE} (h : SimE C th t) : SimI C (iAny C.K th) (dIt t) := by
  intro H0 F H σ ρ Qd Q g S ht k
  refine h H0 F H σ ρ _ _ g S ht fun v F1 H1 d x1 r1 q1 => ?_
  split at q1
  · rename_i ds e
    obtain ⟨s, xs, e1, e2, e3, e4⟩ := src_sh r1 e
    exact ⟨s, xs, e1, e2 _ x1.g.fh, k _ F1 H1 ds _ x1 (itA_ok e3) e2 e4 q1⟩
  · exact q1.elim
theorem simIP_any {th : TE} {t : DE} (h : SimP C th t) : SimIP C (iAny C.K th) (dIt t) := by
  intro H0 F H σ ρ Qd Q g S ht k
  refine h H0 F H σ ρ _ _ g S ht fun v F1 H1 d x1 r1 q1 => ?_
  split at q1
  · rename_i ds e
    obtain ⟨s, xs, e1, e2, e3, e4⟩ := src_rp x1.g r1 e
    exact ⟨s, xs, e1, e2 _ _ (.refl x1.g), k _ F1 H1 ds _ x1 (itA_ok e3) e2 e4 q1⟩
  · exact q1.elim
@[simp] def dEnum (l : DL) : DL := fun ρ Q => l ρ fun as => match as with
  | [d] => (match srcD d with
    | some ds => Q (enumD ds)
    | none => False)
  | _ => False
theorem enum_len {ds : List PyData} : (enumD ds).length = ds.length := by unfold enumD; simp
theorem zip_len {ds es : List PyData} : (zipD ds es).length ≤ ds.length := by unfold zipD; simp; omega
theorem simI_enum {th : TA} {l : DL} (h : SimL C th l) : SimI C (iEnumA C.K th) (dEnum l) := by
  intro H0 F H σ ρ Qd Q g S ht k
  refine h H0 F H σ ρ _ _ g S ht fun vs F1 H1 as x1 r1 q1 => ?_
  split at q1
  · rename_i d
    split at q1
    · rename_i ds e
      cases r1 with
      | cons r1 rr =>
        cases rr
        obtain ⟨s, xs, e1, e2, e3, e4⟩ := src_sh r1 e
        subst e1
        exact ⟨s, xs, rfl, e2 _ x1.g.fh, k _ F1 H1 _ _ x1 (itE_ok e3) e2 (by rw [enum_len]; exact e4) q1⟩
    · exact q1.elim
  · exact q1.elim
theorem simIP_enum {th : TA} {l : DL} (h : SimLP C th l) : SimIP C (iEnumA C.K th) (dEnum l) := by
  intro H0 F H σ ρ Qd Q g S ht k
  refine h H0 F H σ ρ _ _ g S ht fun vs F1 H1 as x1 r1 q1 => ?_
  split at q1
  · rename_i d
    split at q1
    · rename_i ds e
      cases r1 with
      | cons r1 rr =>
        cases rr
        obtain ⟨s, xs, e1, e2, e3, e4⟩ := src_rp x1.g r1 e
        subst e1
        exact ⟨s, xs, rfl, e2 _ _ (.refl x1.g), k _ F1 H1 _ _ x1 (itE_ok e3) e2 (by rw [enum_len]; exact e4) q1⟩
    · exact q1.elim
  · exact q1.elim
@[simp] def dZip (l : DL) : DL := fun ρ Q => l ρ fun as => match as with
  | [d, d'] => (match srcD d, srcD d' with
    | some ds, some es => Q (zipD ds es)
    | _, _ => False)
  | _ => False
theorem simI_zip {th : TA} {l : DL} (h : SimL C th l) : SimI C (iZipA C.K th) (dZip l) := by
  intro H0 F H σ ρ Qd Q g S ht k
  refine h H0 F H σ ρ _ _ g S ht fun vs F1 H1 as x1 r1 q1 => ?_
  split at q1
  · rename_i d d'
    split at q1
    · rename_i ds es e e'
      cases r1 with
      | cons r1 rr =>
        cases rr with
        | cons r2 rr =>
          cases rr
          obtain ⟨s, xs, e1, e2, e3, e4⟩ := src_sh r1 e
          obtain ⟨s', ys, f1, f2, f3, f4⟩ := src_sh r2 e'
          subst e1 f1
          exact ⟨s, s', xs, ys, rfl, e2 _ x1.g.fh, f2 _ x1.g.fh, k _ F1 H1 _ _ x1 (itZ_ok e3 f3) (fun H s => ⟨e2 H s, f2 H s⟩) (Nat.le_trans zip_len e4) q1⟩
    · exact q1.elim
  · exact q1.elim
theorem simIP_zip {th : TA} {l : DL} (h : SimLP C th l) : SimIP C (iZipA C.K th) (dZip l) := by
  intro H0 F H σ ρ Qd Q g S ht k
  refine h H0 F H σ ρ _ _ g S ht fun vs F1 H1 as x1 r1 q1 => ?_
  split at q1
  · rename_i d d'
    split at q1
    · rename_i ds es e e'
      cases r1 with
      | cons r1 rr =>
        cases rr with
        | cons r2 rr =>
          cases rr
          obtain ⟨s, xs, e1, e2, e3, e4⟩ := src_rp x1.g r1 e
          obtain ⟨s', ys, f1, f2, f3, f4⟩ := src_rp x1.g r2 e'
          subst e1 f1
          exact ⟨s, s', xs, ys, rfl, e2 _ _ (.refl x1.g), f2 _ _ (.refl x1.g), k _ F1 H1 _ _ x1 (itZ_ok e3 f3) (fun F2 H2 y => ⟨e2 F2 H2 y, f2 F2 H2 y⟩) (Nat.le_trans zip_len e4) q1⟩
    · exact q1.elim
  · exact q1.elim
@[simp] def intD : PyData → Option Int
  | .int i => some i
  | _ => none
theorem rp_intD {F H : Hp} {v : V} {d : PyData} {i : Int} (r : RP C F H v d) (e : intD d = some i) : v = .int i := by
  cases d with
  | int j =>
    cases e
    rcases r with r | ⟨a, _, _, c⟩
    · cases r; rfl
    · exact c.elim
  | _ => cases e
@[simp] def dRng1 (l : DL) : DL := fun ρ Q => l ρ fun as => match as with
  | [d] => (match intD d with
    | some j => -(2 ^ 62) ≤ j ∧ j ≤ (sizeLine : Nat) ∧ Q (rngD 0 j.toNat)
    | none => False)
  | _ => False
@[simp] def dRng2 (l : DL) : DL := fun ρ Q => l ρ fun as => match as with
  | [d, d'] => (match intD d, intD d' with
    | some i, some j => (-(2 ^ 62) ≤ i ∧ i < 2 ^ 62 ∧ -(2 ^ 62) ≤ j ∧ j < 2 ^ 62) ∧ j - i ≤ (sizeLine : Nat) ∧ Q (rngD i (j - i).toNat)
    | _, _ => False)
  | _ => False
theorem rng_len {lo : Int} {n : Nat} : (rngD lo n).length = n := by unfold rngD; simp
theorem line_lt : ((sizeLine : Nat) : Int) < 2 ^ 62 := by decide
theorem simI_rng1 {th : TA} {l : DL} (h : SimLP C th l) : SimI C (iRng1 th) (dRng1 l) := by
  intro H0 F H σ ρ Qd Q g S ht k
  refine h H0 F H σ ρ _ _ g S ht fun vs F1 H1 as x1 r1 q1 => ?_
  split at q1
  · rename_i d
    split at q1
    · rename_i j e
      obtain ⟨b1, b2, q1⟩ := q1
      cases r1 with
      | cons r1 rr =>
        cases rr
        have ev := rp_intD r1 e
        subst ev
        have := line_lt
        exact ⟨j, rfl, b1, by omega, k _ F1 H1 _ _ x1 (itR_ok 0 j.toNat) (fun _ _ => trivial) (by rw [rng_len]; omega) q1⟩
    · exact q1.elim
  · exact q1.elim
theorem simI_rng2 {th : TA} {l : DL} (h : SimLP C th l) : SimI C (iRng2 th) (dRng2 l) := by
  intro H0 F H σ ρ Qd Q g S ht k
  refine h H0 F H σ ρ _ _ g S ht fun vs F1 H1 as x1 r1 q1 => ?_
  split at q1
  · rename_i d d'
    split at q1
    · rename_i i j e e'
      obtain ⟨b1, b2, q1⟩ := q1
      cases r1 with
      | cons r1 rr =>
        cases rr with
        | cons r2 rr =>
          cases rr
          have ev := rp_intD r1 e
          have ev' := rp_intD r2 e'
          subst ev ev'
          exact ⟨i, j, rfl, b1, k _ F1 H1 _ _ x1 (itR_ok i (j - i).toNat) (fun _ _ => trivial) (by rw [rng_len]; omega) q1⟩
    · exact q1.elim
  · exact q1.elim
end
end VL

set_option Elab.async false
set_option linter.all false
set_option maxRecDepth 100000
set_option maxHeartbeats 4000000
/-! VLLib3: repr, index, sorted, dict, range as a value, defs as values, starred items. -/
namespace VL
open PySem PySem.Spec PyProof.Rows L2
open PySem.W (EachIs AllAlike Sortable dataLe sorted_data)
abbrev L2d := PyData → PyData

section
variable {C : Cfg} {X : Cx}
/-! ### repr -/
def rRepr (K : PySem.W.Frag) : List V → Hp → VK → Prop := fun xs H Q => ∃ v d, xs = [v] ∧ R K H v d ∧ okD d ∧ d.showable = true ∧ d.shown.length ≤ sizeLine ∧ Q (.str d.shown) H
mutual
theorem noDict_of_plain : ∀ d : PyData, d.plain = true → d.hasDict = false
  | .none, _ => rfl
  | .bool _, _ => rfl
  | .int _, _ => rfl
  | .str _, _ => rfl
  | .list xs, h => by
    have := noDicts_of_plain xs (by simpa [PyData.plain] using h)
    simpa [PyData.hasDict] using this
  | .tuple xs, h => by
    have := noDicts_of_plain xs (by simpa [PyData.plain] using h)
    simpa [PyData.hasDict] using this
  | .dict _, h => by simp [PyData.plain] at h
theorem noDicts_of_plain : ∀ xs : List PyData, PyData.plainAll xs = true → PyData.hasDictAll xs = false
  | [], _ => rfl
  | x :: xs, h => by
    have h' : x.plain = true ∧ PyData.plainAll xs = true := by simpa [PyData.plainAll] using h
    simp [PyData.hasDictAll, noDict_of_plain x h'.1, noDicts_of_plain xs h'.2]
end
theorem call_reprR (hg : X.A.guards = some []) (hu : X.A.units + 200 < cLine) : CallR X (.builtin "repr") (rRepr X.K) := by
  intro pins s σ H xs us Q I r h
  obtain ⟨v, d, rfl, rd, hp, hs, hl, q⟩ := h
  obtain ⟨u, rfl, rx⟩ := vals1 r
  obtain ⟨as, rr⟩ := R.reads I d v u hp.1 rd rx
  have big : ∀ (w : Addr), u = .ref w → wpAny (model X.prog X.w) X.A (call (.builtin "repr") [.ref w]) (EP X pins σ Q) X.xe s := fun w e => by
    subst e
    have := hp.2
    refine repr_of_reads' rr hs (fun z => by rw [noDict_of_plain d hp.1] at z; cases z) hg (by omega) (fun _ _ e => e) (fun h' u tk kp => ⟨.str d.shown, H, I.kept (t' := tk) kp, ⟨u, rfl⟩, q⟩) hl
  cases rd with
  | non =>
    obtain rfl : u = Value.none := rx
    exact PySem.P.repr_of_none ⟨.str _, H, I.tok _, ⟨_, rfl⟩, q⟩
  | bl b =>
    obtain rfl : u = Value.bool b := rx
    refine PySem.P.repr_of_bool ⟨.str _, H, I.tok _, ⟨_, rfl⟩, ?_⟩
    cases b <;> exact q
  | int i =>
    obtain ⟨t, rfl⟩ := rx
    exact PySem.P.repr_of_int (by simpa [PyData.showable] using hs) ⟨.str _, H, I.tok _, ⟨_, rfl⟩, q⟩
  | str x l =>
    obtain ⟨t, rfl⟩ := rx
    exact PySem.P.repr_of_str ⟨.str _, H, I.tok _, ⟨_, rfl⟩, q⟩ (by simpa [PyData.shown] using hl)
  | lst e l r => exact (show u = _ from rx) ▸ big _ rx
  | tup e l r => exact (show u = _ from rx) ▸ big _ rx
  | dct e l r => exact (show u = _ from rx) ▸ big _ rx
@[simp] def dRepr : DB := fun xs Q => match xs with
  | [d] => okD d ∧ d.showable = true ∧ d.shown.length ≤ sizeLine ∧ Q (.str d.shown)
  | _ => False
theorem sb_repr : SimB C (rRepr C.K) dRepr := by
  intro F H xs ds Qd Q g rs h k
  unfold dRepr at h
  split at h
  · obtain ⟨v, e, r⟩ := rps1 rs
    exact ⟨v, _, e, r.all g, h.1, h.2.1, h.2.2.1, k _ F H _ (.refl g) (.str _ h.2.2.1) h.2.2.2⟩
  · exact h.elim
/-! ### index -/
def rIdxL (K : PySem.W.Frag) : V → List V → Hp → VK → Prop := fun x xs H Q => ∃ (y : V) (d : PyData) (ds : List PyData) (j : Nat), xs = [y] ∧ R K H x (.list ds) ∧ R K H y d ∧ PyData.plainAll ds = true ∧ okD d ∧ SeqAt.dataPlace ds d = some j ∧ Q (.int (j : Nat)) H
def rIdxT (K : PySem.W.Frag) : V → List V → Hp → VK → Prop := fun x xs H Q => ∃ (y : V) (d : PyData) (ds : List PyData) (j : Nat), xs = [y] ∧ R K H x (.tuple ds) ∧ R K H y d ∧ PyData.plainAll ds = true ∧ okD d ∧ SeqAt.dataPlace ds d = some j ∧ Q (.int (j : Nat)) H
theorem mt_idxL (hu : X.A.units + 200 < cLine) : MtR X "list.index" (rIdxL X.K) := by
  intro pins s σ H x xs v us Q I rx rxs h
  obtain ⟨y, d, ds, j, rfl, hl, hy, hp, hd, hj, q⟩ := h
  obtain ⟨uy, rfl, ry⟩ := vals1 rxs
  obtain ⟨bs, r1⟩ := R.reads I d y uy hd.1 hy ry
  cases hl with
  | lst hs hz ha =>
    obtain rfl : v = Value.ref _ := rx
    obtain ⟨its, rv, ⟨⟨cls, dd, data, sls⟩, n, ho, hc, hdn, hdt⟩, hlen⟩ := I.list (SqL.of hs)
    simp only at hc hdt
    subst hc hdt
    obtain ⟨as, rs⟩ := RL.reads I ds _ its hp ha rv
    have rs' : ReadsAll s.heap its.toArray.toList ds as := rs
    obtain ⟨hj1, hit, hno⟩ := SeqAt.hit_at rs' hp hj
    have hn := SeqAt.len_at rs'
    have := hd.2
    have hmin : min (PyData.depthAll ds) d.depth ≤ 60 := Nat.le_trans (Nat.min_le_right _ _) hd.2
    have hsl := sizeLine_eq
    exact call_meets PySem.F.slot_list_index ⟨_, ho, rfl⟩ PySem.F.entry_list_index (PySem.F.args_list_index_2 _ _) (SeqAt.list_indexAt _ its.toArray n dd sls uy _ j hj1 (by omega) hit hno)
      ⟨ho, SeqAt.items_plain rs' r1 hp hd.1 (by omega), ⟨.int (j : Nat), H, I.tok _, ⟨_, rfl⟩, q⟩⟩
theorem mt_idxT (hu : X.A.units + 200 < cLine) : MtR X "tuple.index" (rIdxT X.K) := by
  intro pins s σ H x xs v us Q I rx rxs h
  obtain ⟨y, d, ds, j, rfl, hl, hy, hp, hd, hj, q⟩ := h
  obtain ⟨uy, rfl, ry⟩ := vals1 rxs
  obtain ⟨bs, r1⟩ := R.reads I d y uy hd.1 hy ry
  cases hl with
  | tup hs hz ha =>
    obtain rfl : v = Value.ref _ := rx
    obtain ⟨its, rv, ⟨⟨cls, dd, data, sls⟩, ho, hc, n, hdt⟩, hlen⟩ := I.tuple hs.t
    simp only at hc hdt
    subst hc hdt
    obtain ⟨as, rs⟩ := RL.reads I ds _ its hp ha rv
    have rs' : ReadsAll s.heap its.toArray.toList ds as := rs
    obtain ⟨hj1, hit, hno⟩ := SeqAt.hit_at rs' hp hj
    have hmin : min (PyData.depthAll ds) d.depth ≤ 60 := Nat.le_trans (Nat.min_le_right _ _) hd.2
    exact call_meets PySem.F.slot_tuple_index ⟨_, ho, rfl⟩ PySem.F.entry_tuple_index (PySem.F.args_tuple_index_2 _ _) (TI.tuple_indexAt _ its.toArray n dd sls uy _ j hj1 hit hno)
      ⟨ho, SeqAt.items_plain rs' r1 hp hd.1 (by omega), ⟨.int (j : Nat), H, I.tok _, ⟨_, rfl⟩, q⟩⟩
@[simp] def dIdxL : DM := fun x xs Q => match x, xs with
  | .list ds, [d] => PyData.plainAll ds = true ∧ okD d ∧ ∃ j, SeqAt.dataPlace ds d = some j ∧ Q (.int (j : Nat))
  | _, _ => False
@[simp] def dIdxT : DM := fun x xs Q => match x, xs with
  | .tuple ds, [d] => PyData.plainAll ds = true ∧ okD d ∧ ∃ j, SeqAt.dataPlace ds d = some j ∧ Q (.int (j : Nat))
  | _, _ => False
theorem sm_idxL : SimM C "list" (rIdxL C.K) dIdxL := by
  intro F H F' H' x d xs ds Qd Q g rx e rs h k
  unfold dIdxL at h
  split at h
  · obtain ⟨y, ey, ry⟩ := rps1 rs
    obtain ⟨h1, h2, j, h3, h4⟩ := h
    exact ⟨y, _, _, j, ey, (rx.ext e).all e.g, ry.all e.g, h1, h2, h3, k _ F' H' _ (.refl e.g) (.int _) h4⟩
  · exact h.elim
theorem sm_idxT : SimM C "tuple" (rIdxT C.K) dIdxT := by
  intro F H F' H' x d xs ds Qd Q g rx e rs h k
  unfold dIdxT at h
  split at h
  · obtain ⟨y, ey, ry⟩ := rps1 rs
    obtain ⟨h1, h2, j, h3, h4⟩ := h
    exact ⟨y, _, _, j, ey, (rx.ext e).all e.g, ry.all e.g, h1, h2, h3, k _ F' H' _ (.refl e.g) (.int _) h4⟩
  · exact h.elim
/-- a method of a constant of the module -/
@[simp] def dMc (f : DM) (d : PyData) (l : DL) : DE := fun ρ Q => l ρ fun ds => f d ds Q
theorem sim_mc {T : String} {r : V → List V → Hp → VK → Prop} {f : DM} {v : V} {d : PyData} {tA : TA} {l : DL} (hm : SimM C T r f) (ty : ∀ H, tyV C.K T v H) (hv : ∀ F, R C.K F v d) (hl : SimLP C tA l) : SimE C (tBM C.K T r (tC v) tA) (dMc f d l) := by
  intro H0 F H σ ρ Qd Q g S ht k
  refine ⟨ty H, hl H0 F H σ ρ _ _ g S ht fun vs F2 H2 ds x2 r2 q2 => ?_⟩
  exact hm F H F2 H2 v d vs ds Qd Q g (.inl (hv F)) x2 r2 q2 fun u F3 H3 z x3 r3 q3 => k u F3 H3 z (x2.trans x3) r3 q3
/-! ### sorted -/
def keyLe : PyData → PyData → Bool := dataLe false id
def rSortD (K : PySem.W.Frag) : List V → Hp → VK → Prop := fun xs H Q => ∃ a vs ds F, xs = [V.ref a] ∧ SqL K H a vs ∧ Same F H ∧ RL K F vs ds ∧ ds.length ≤ sizeLine ∧ PyData.plainAll ds = true ∧ AllAlike ds ∧ Sortable ds ∧ PyData.depthAll ds ≤ 60 ∧
  ∀ ys q, RL K F ys (ds.mergeSort keyLe) → H q = none → Q (.ref q) (upd H q (.lst ys))
theorem depth_mem : ∀ {ds : List PyData} {d : PyData}, d ∈ ds → d.depth ≤ PyData.depthAll ds
  | x :: xs, d, h => by
    simp only [PyData.depthAll]
    rcases List.mem_cons.mp h with z | z
    · rw [z]; exact Nat.le_max_left _ _
    · exact Nat.le_trans (depth_mem z) (Nat.le_max_right _ _)
theorem each_of {K : PySem.W.Frag} {H : Hp} {h : Heap} : ∀ {vs : List V} {ds : List PyData} {us : List Value} {as : List Addr}, RL K H vs ds → Vals vs us → ReadsAll h us ds as →
    EachIs (fun u (b : V × PyData) => RelV b.1 u ∧ R K H b.1 b.2) us (vs.zip ds) ∧ EachIs (fun u (b : V × PyData) => ∃ as, Reads h u b.2 as) us (vs.zip ds)
  | _, _, _, _, .nil, .nil, .nil => ⟨.nil, .nil⟩
  | _, _, _, _, .cons a r, .cons b t, .cons c e => ⟨.cons ⟨b, a⟩ (each_of r t e).1, .cons ⟨_, c⟩ (each_of r t e).2⟩
theorem each_back {K : PySem.W.Frag} {H : Hp} : ∀ {us : List Value} {bs : List (V × PyData)}, EachIs (fun u (b : V × PyData) => RelV b.1 u ∧ R K H b.1 b.2) us bs → Vals (bs.map (·.1)) us ∧ RL K H (bs.map (·.1)) (bs.map (·.2))
  | _, _, .nil => ⟨.nil, .nil⟩
  | _, _, .cons a r => ⟨.cons a.1 (each_back r).1, .cons a.2 (each_back r).2⟩
theorem zip_snd {α β : Type} : ∀ {xs : List α} {ys : List β}, xs.length = ys.length → (xs.zip ys).map (·.2) = ys
  | [], [], _ => rfl
  | x :: xs, y :: ys, h => by
    rw [List.zip_cons_cons, List.map_cons, zip_snd (by simpa using h)]
theorem call_sortedR (hu : X.A.units + 200 < cLine) : CallR X (.builtin "sorted") (rSortD X.K) := by
  intro pins s σ H xs us Q I r h
  obtain ⟨a, vs, ds, F, rfl, hs, hF, ha, hz, hp, hal, hk, hdp, q⟩ := h
  obtain ⟨u, rfl, rx⟩ := vals1 r
  obtain rfl : u = Value.ref _ := rx
  obtain ⟨its, rv, p, hlen⟩ := I.list hs
  obtain ⟨as, rs⟩ := RL.reads I ds _ its hp (ha.mono hF) rv
  obtain ⟨e1, e2⟩ := each_of ha rv rs
  have hzs := zip_snd ha.length
  refine sorted_data (enc := fun b : V × PyData => b.2) p.isList e1 e2 (by rw [hzs]; exact hal) (by rw [hzs]; exact hk) (by rw [List.length_zip, ha.length, Nat.min_self]; exact hz) (fun b hb => ?_) fun out ho eo => ?_
  · have : b.2 ∈ ds := by rw [← hzs]; exact List.mem_map.mpr ⟨b, hb, rfl⟩
    have := depth_mem this
    omega
  · obtain ⟨rv2, rl2⟩ := each_back eo
    obtain ⟨c, hc⟩ := sortedAll_at s.heap its out.toArray
    have em : ((vs.zip ds).mergeSort (dataLe false fun b : V × PyData => b.2)).map (·.2) = ds.mergeSort keyLe := by
      have q := List.map_mergeSort (r := dataLe false fun b : V × PyData => b.2) (s := keyLe) (f := fun b : V × PyData => b.2) (l := vs.zip ds) (fun a _ b _ => rfl)
      rw [hzs] at q
      exact q
    rw [em] at rl2
    refine ⟨.ref (s.heap.objs.size + 1), upd H (s.heap.objs.size + 1) (.lst _), I.laid (t' := s.toks) (fun b o e => sortedAll_old e) (Nat.le_succ _) (show ObjOk X.prog X.w _ _ _ (.lst _) from ⟨?_, out, c, rv2, hc⟩), rfl, q _ _ rl2 (I.hok.fresh (Nat.le_succ _))⟩
    rw [rl2.length, List.length_mergeSort]; exact hz
@[simp] def dSorted : DB := fun xs Q => match xs with
  | [.list ds] => PyData.plainAll ds = true ∧ AllAlike ds ∧ Sortable ds ∧ PyData.depthAll ds ≤ 60 ∧ Q (.list (ds.mergeSort keyLe))
  | _ => False
theorem own_at {F H : Hp} {q : Addr} {o : HO} {d : PyData} (g : Good C F H) (hq : H q = none) (c : Cont C.K F (upd H q o) q d) : Own C H F (upd H q o) q d := ⟨g.fnone hq, hq, g.noS hq, c⟩
theorem sbF_sorted : SimBF C (rSortD C.K) dSorted := by
  intro F H xs ds Qd Q g rs h k
  unfold dSorted at h
  split at h
  · obtain ⟨v, e, r⟩ := rps1 rs
    rename_i es
    obtain ⟨h1, h2, h3, h4, h5⟩ := h
    obtain ⟨a, vs, rfl, nS, hv, l, rl⟩ := r.list g
    refine ⟨a, vs, es, F, e, SqL.of hv, g.fh, rl, l, h1, h2, h3, h4, fun ys q hy hq => ?_⟩
    exact k q F _ (.list (es.mergeSort keyLe)) (.newO g hq _) (own_at g hq ⟨ys, upd_same, by rw [List.length_mergeSort]; exact l, hy⟩) h5
  · exact h.elim
/-! ### dicts -/
def putDv (ds : List (PyData × PyData)) (k : Key) (d : PyData) : List (PyData × PyData) :=
  if (ds.any fun kv => decide (keyD kv.1 = some k)) = true then ds.map (fun kv => if keyD kv.1 = some k then (kv.1, d) else kv) else ds ++ [(kD k, d)]
theorem RK.any {K : PySem.W.Frag} {F : Hp} (k : Key) : ∀ {kvs : List (Key × V)} {ds : List (PyData × PyData)}, RK K F kvs ds → (ds.any fun kv => decide (keyD kv.1 = some k)) = kvs.any fun kv => decide (kv.1 = k)
  | _, _, .nil => rfl
  | _, _, .cons a r => by
    rw [List.any_cons, List.any_cons, r.any k, keyD_kD]
    simp
theorem RK.setAll {K : PySem.W.Frag} {F : Hp} {k : Key} {v : V} {d : PyData} (hv : R K F v d) : ∀ {kvs : List (Key × V)} {ds : List (PyData × PyData)}, RK K F kvs ds →
    RK K F (kvs.map fun kv => if kv.1 = k then (kv.1, v) else kv) (ds.map fun kv => if keyD kv.1 = some k then (kv.1, d) else kv)
  | _, _, .nil => .nil
  | _, _, .cons (k := k') a r => by
    rw [List.map_cons, List.map_cons]
    simp only [keyD_kD, Option.some.injEq]
    by_cases h : k' = k
    · rw [if_pos h, if_pos h]; exact .cons hv (r.setAll hv)
    · rw [if_neg h, if_neg h]; exact .cons a (r.setAll hv)
theorem RK.snoc {K : PySem.W.Frag} {F : Hp} {k : Key} {v : V} {d : PyData} (hv : R K F v d) : ∀ {kvs : List (Key × V)} {ds : List (PyData × PyData)}, RK K F kvs ds → RK K F (kvs ++ [(k, v)]) (ds ++ [(kD k, d)])
  | _, _, .nil => .cons hv .nil
  | _, _, .cons a r => .cons a (r.snoc hv)
theorem RK.put {K : PySem.W.Frag} {F : Hp} {k : Key} {v : V} {d : PyData} (hv : R K F v d) {kvs : List (Key × V)} {ds : List (PyData × PyData)} (r : RK K F kvs ds) : RK K F (putK kvs k v) (putDv ds k d) := by
  unfold putK putDv
  rw [r.any k]
  by_cases h : (kvs.any fun kv => decide (kv.1 = k)) = true
  · rw [if_pos h, if_pos h]; exact r.setAll hv
  · rw [if_neg h, if_neg h]; exact r.snoc hv
def mergeD (ds : List (PyData × PyData)) (kds : List (Key × PyData)) : List (PyData × PyData) := kds.foldl (fun acc kv => putDv acc kv.1 kv.2) ds
def pairsD : List PyData → Option (List (Key × PyData))
  | [] => some []
  | .tuple [k, d] :: r => match keyD k, pairsD r with
    | some k, some l => some ((k, d) :: l)
    | _, _ => none
  | _ => none
theorem keyD_R {K : PySem.W.Frag} {F : Hp} {v : V} {d : PyData} {k : Key} (r : R K F v d) (h : keyD d = some k) : v = kV k := by
  cases r with
  | int i => cases h; rfl
  | str x l => cases h; rfl
  | _ => cases h
theorem pairs_of {K : PySem.W.Frag} {F : Hp} : ∀ {ds : List PyData} {vs : List V} {kds : List (Key × PyData)}, RL K F vs ds → pairsD ds = some kds →
    ∃ (ps : List Addr) (kvs : List (Key × V)), vs = ps.map V.ref ∧ Paired (fun p kv => SqT K F p [kV kv.1, kv.2]) ps kvs ∧ (∀ {as bs}, RK K F as bs → RK K F (mergeK as kvs) (mergeD bs kds)) ∧ kvs.length = ds.length := by
  intro ds
  induction ds with
  | nil =>
    intro vs kds r e
    cases r; cases e
    exact ⟨[], [], rfl, .nil, fun h => h, rfl⟩
  | cons d ds ih =>
    intro vs kds r e
    cases r with
    | cons a t =>
      cases a with
      | tup hs l rr =>
        unfold pairsD at e
        split at e
        · rename_i h; cases h
        · rename_i k d' r' h
          injection h with h1 h2
          injection h1 with h1
          subst h1 h2
          split at e
          · rename_i k1 l1 e1 e2
            cases e
            obtain ⟨ps, kvs, h3, h4, h5, h6⟩ := ih t e2
            cases rr with
            | cons r1 rr =>
              cases rr with
              | cons r2 rr =>
                cases rr
                have := keyD_R r1 e1
                subst this
                refine ⟨_ :: ps, (k1, _) :: kvs, by rw [h3]; rfl, .cons hs.t h4, fun {as bs} h => h5 (h.put r2), by simp [h6]⟩
          · cases e
        · cases e
      | _ => cases e
def rDictOf (K : PySem.W.Frag) : List V → Hp → VK → Prop := fun xs H Q => (∃ (a : Addr) (ps : List Addr) (kvs : List (Key × V)), xs = [.ref a] ∧ SqL K H a (ps.map V.ref) ∧ Paired (fun p kv => SqT K H p [kV kv.1, kv.2]) ps kvs ∧
    ∀ p, H p = none → Q (.ref p) (upd H p (.dK (mergeK [] kvs)))) ∨ ∃ (a : Addr) (kvs : List (Key × V)), xs = [.ref a] ∧ Rd H a (.dK kvs) ∧ ∀ p, H p = none → Q (.ref p) (upd H p (.dK kvs))
theorem call_dictOf (hc : X.calm = true) : CallR X (.type "dict") (rDictOf X.K) := (call_dictP hc).or call_dictD
@[simp] def dDictOf : DB := fun xs Q => match xs with
  | [.list ds] => ∃ kds, pairsD ds = some kds ∧ Q (.dict (mergeD [] kds))
  | [.dict kvs] => Q (.dict kvs)
  | _ => False
theorem paired_mono {K : PySem.W.Frag} {F H : Hp} (s : Same F H) {ps : List Addr} {kvs : List (Key × V)} (h : Paired (fun p kv => SqT K F p [kV kv.1, kv.2]) ps kvs) : Paired (fun p kv => SqT K H p [kV kv.1, kv.2]) ps kvs := by
  induction h with
  | nil => exact .nil
  | cons a r ih => exact .cons (sqT_mono s a) ih
theorem sbF_dict : SimBF C (rDictOf C.K) dDictOf := by
  intro F H xs ds Qd Q g rs h k
  unfold dDictOf at h
  split at h
  · obtain ⟨v, e, r⟩ := rps1 rs
    obtain ⟨kds, h1, h2⟩ := h
    obtain ⟨a, vs, rfl, nS, hv, l, rl⟩ := r.list g
    obtain ⟨ps, kvs, e1, e2, e3, e4⟩ := pairs_of rl h1
    subst e1
    refine .inl ⟨a, ps, kvs, e, SqL.of hv, paired_mono g.fh e2, fun p hp => ?_⟩
    have rk := e3 (as := []) (bs := []) .nil
    refine k p F _ (.dict _) (.newO g hp _) (own_at g hp ⟨_, upd_same, ?_, rk⟩) h2
    rw [← rk.length]
    have := length_mergeK kvs []
    simp at this
    omega
  · obtain ⟨v, e, r⟩ := rps1 rs
    obtain ⟨a, kvs, rfl, nS, hv, l, rk⟩ := r.dict g
    exact .inr ⟨a, kvs, e, .of hv, fun p hp => k p F _ (.dict _) (.newO g hp _) (own_at g hp ⟨_, upd_same, l, rk⟩) h⟩
  · exact h.elim
@[simp] def dPut (i : Nat) (tk tv : DE) : DS := fun D ρ => tv ρ fun d => match ρ[i]? with
  | some (.ow (.dict kvs)) => tk ρ fun k => ∃ k', keyD k = some k' ∧ kvs.length < sizeLine ∧ D.nx (ρ.set i (.ow (.dict (putDv kvs k' d))))
  | _ => False
theorem putDv_len (ds : List (PyData × PyData)) (k : Key) (d : PyData) : (putDv ds k d).length ≤ ds.length + 1 := by
  unfold putDv
  split
  · rw [List.length_map]; omega
  · rw [List.length_append]; simp
theorem sims_put {i : Nat} {ty tv : TE} {tk tD : DE} (hk : SimE C ty tk) (hv : SimE C tv tD) : SimS C (sDPut (tVar i) ty tv) (dPut i tk tD) := by
  intro F0 H0 F H σ ρ D DH x S ht L
  refine hv H0 F H σ ρ _ _ x.g S ht fun v F1 H1 d x1 r1 q1 => ?_
  have S1 := S.ext x1
  split at q1
  · rename_i ds e
    obtain ⟨o, e2, p, e3, r⟩ := S1.at e
    subst e3
    refine ⟨_, e2, ?_⟩
    refine hk H0 F1 H1 σ ρ _ _ x1.g S1 q1 fun w F2 H2 k x2 r2 ⟨k', ek, z, q2⟩ => ?_
    have S2 := S1.ext x2
    obtain ⟨kvs, ev, l, rv⟩ := id (r.ext x2).ct
    have hl := rv.length
    obtain ⟨y, T⟩ := own_write (o' := .dK (putK kvs k' v)) (d' := .dict (putDv ds k' d)) (x.trans (x1.trans x2)) S2 e e2 (r.ext x2) ⟨_, upd_same, by have := putDv_len ds k' d; omega, rv.put (r1.mono x2.ff)⟩
    exact ⟨p, _, rfl, by rw [keyD_R r2 ek]; exact DPut.k ev (by omega), L.nx F2 _ σ _ y T q2⟩
  · exact q1.elim
/-! ### range as a value -/
abbrev TRg := St → Hp → (Int → Int → Hp → Prop) → Prop
abbrev DRg := Vn → (Int → Int → Prop) → Prop
def SimRg (C : Cfg) (th : TRg) (t : DRg) : Prop :=
  ∀ (H0 F H : Hp) (σ : St) (ρ : Vn) (Qd : Int → Int → Prop) (Q : Int → Int → Hp → Prop), Good C F H → Slots C H0 F H σ ρ → t ρ Qd →
    (∀ a b F' H', Ext C F H F' H' → Qd a b → Q a b H') → th σ H Q
@[simp] def dRg1 (t : DE) : DRg := fun ρ Q => t ρ fun d => match d with
  | .int n => Q 0 n
  | _ => False
@[simp] def dRg2 (t u : DE) : DRg := fun ρ Q => t ρ fun d => u ρ fun e => match d, e with
  | .int i, .int j => Q i j
  | _, _ => False
variable {ta tb : TE} {t u : DE}
theorem sim_rg1 (h : SimP C ta t) : SimRg C (tRg1 ta) (dRg1 t) := by
  intro H0 F H σ ρ Qd Q g S ht k
  refine h H0 F H σ ρ _ _ g S ht fun v F1 H1 d x1 r1 q1 => ?_
  split at q1
  · exact ⟨_, rp_int r1, k _ _ F1 H1 x1 q1⟩
  · exact q1.elim
theorem sim_rg2 (h : SimP C ta t) (h' : SimP C tb u) : SimRg C (tRg2 ta tb) (dRg2 t u) := by
  intro H0 F H σ ρ Qd Q g S ht k
  refine h H0 F H σ ρ _ _ g S ht fun v F1 H1 d x1 r1 q1 => ?_
  refine h' H0 F1 H1 σ ρ _ _ x1.g (S.ext x1) q1 fun w F2 H2 e x2 r2 q2 => ?_
  split at q2
  · exact ⟨_, _, rp_int r1, rp_int r2, k _ _ F2 H2 (x1.trans x2) q2⟩
  · exact q2.elim
theorem rl_rg {K : PySem.W.Frag} {F : Hp} (a b : Int) : RL K F (rgV a b) ((List.range (b - a).toNat).map fun (i : Nat) => .int (a + i)) := by
  unfold rgV
  generalize List.range (b - a).toNat = l
  induction l with
  | nil => exact .nil
  | cons i l ih => exact .cons (.int _) ih
@[simp] def dListRg (t : DRg) : DE := fun ρ Q => t ρ fun a b => RgOk a b ∧ Q (.list ((List.range (b - a).toNat).map fun (i : Nat) => .int (a + i)))
@[simp] def dTupRg (t : DRg) : DE := fun ρ Q => t ρ fun a b => RgOk a b ∧ Q (.tuple ((List.range (b - a).toNat).map fun (i : Nat) => .int (a + i)))
theorem simF_listRg {th : TRg} {t : DRg} (h : SimRg C th t) : SimF C (tLstRg th) (dListRg t) := by
  intro H0 F H σ ρ Qd Q g S ht k
  refine h H0 F H σ ρ _ _ g S ht fun a b F1 H1 x1 ⟨ok, q1⟩ => ⟨ok, fun q hq => ?_⟩
  have n := Ext.newO x1.g hq (.lst (rgV a b))
  exact k q F1 _ (.list _) (x1.trans n) ⟨x1.g.fnone hq, x1.free hq, x1.g.noS hq, _, upd_same, by simp; have := ok.2.2.2.2; rw [sizeLine_eq]; omega, rl_rg a b⟩ q1
theorem sim_tupRg {th : TRg} {t : DRg} (h : SimRg C th t) : SimE C (tTupRgN th) (dTupRg t) := by
  intro H0 F H σ ρ Qd Q g S ht k
  refine h H0 F H σ ρ _ _ g S ht fun a b F1 H1 x1 ⟨ok, q1⟩ => ⟨ok, fun q o hq hd => ?_⟩
  have n := Ext.new x1.g hq (.frz o (.tup (rgV a b)))
  exact k _ _ _ (.tuple _) (x1.trans n) (.tup (SqN.of upd_same hd) (by simp; have := ok.2.2.2.2; rw [sizeLine_eq]; omega) (rl_rg a b)) q1
/-! ### a starred item -/
@[simp] def lStar (t : DE) (l : DL) : DL := fun ρ Q => t ρ fun d => match d with
  | .tuple ds => l ρ fun es => Q (ds ++ es)
  | .list ds => l ρ fun es => Q (ds ++ es)
  | _ => False
theorem sim_lstar {tA : TA} {l : DL} (h : SimE C ta t) (hl : SimL C tA l) : SimL C (StX.tStar C.K ta tA) (lStar t l) := by
  intro H0 F H σ ρ Qd Q g S ht k
  refine h H0 F H σ ρ _ _ g S ht fun v F1 H1 d x1 r1 q1 => ?_
  split at q1
  · rename_i ds
    obtain ⟨a, vs, rfl, hs, lz, rl⟩ := RP.tuple (C := C) (H := H1) (.inl r1)
    refine ⟨a, vs, rfl, .inl (sqN_T x1.g.fh hs), ?_⟩
    exact hl H0 F1 H1 σ ρ _ _ x1.g (S.ext x1) q1 fun ws F2 H2 es x2 r2 q2 => k _ F2 H2 _ (x1.trans x2) ((rl.mono x2.ff).append r2) q2
  · rename_i ds
    obtain ⟨a, vs, rfl, nS, hs, lz, rl⟩ := RP.list (C := C) (H := H1) (.inl r1) x1.g
    refine ⟨a, vs, rfl, .inr (SqL.of hs), ?_⟩
    exact hl H0 F1 H1 σ ρ _ _ x1.g (S.ext x1) q1 fun ws F2 H2 es x2 r2 q2 => k _ F2 H2 _ (x1.trans x2) ((rl.mono x2.ff).append r2) q2
  · exact q1.elim
/-! ### three names at once -/
@[simp] def dPar3 (i j l : Nat) (t u w : DE) : DS := fun D ρ => t ρ fun d => u ρ fun e => w ρ fun f => D.nx (((ρ.set i (.sh d)).set j (.sh e)).set l (.sh f))
theorem sims_par3 {i j l : Nat} {tc : TE} {w : DE} (h1 : SimE C ta t) (h2 : SimE C tb u) (h3 : SimE C tc w) : SimS C (tPar3 i j l (tCons ta (tCons tb (tCons tc tNil)))) (dPar3 i j l t u w) := fun F0 H0 F H σ ρ D DH x S ht L => by
  refine h1 H0 F H σ ρ _ _ x.g S ht fun v F1 H1 d x1 r1 q1 => ?_
  refine h2 H0 F1 H1 σ ρ _ _ x1.g (S.ext x1) q1 fun w F2 H2 e x2 r2 q2 => ?_
  refine h3 H0 F2 H2 σ ρ _ _ x2.g (S.ext (x1.trans x2)) q2 fun y F3 H3 f x3 r3 q3 => ?_
  exact ⟨v, w, y, rfl, L.nx F3 H3 _ _ (x.trans (x1.trans (x2.trans x3))) (set_sh (set_sh (set_sh (S.ext (x1.trans x2)) x3 (r1.mono (x2.trans x3).ff) i) (.refl x3.g) (r2.mono x3.ff) j) (.refl x3.g) r3 l) q3⟩
end
end VL

set_option Elab.async false
set_option linter.all false
set_option maxRecDepth 100000
set_option maxHeartbeats 4000000
/-! VLVal: defs as values: picked off a display, held by a name, called. -/
namespace VL
open PySem PySem.Spec PyProof.Rows L2

abbrev DV := Vn → (V → Prop) → Prop
def SimV (C : Cfg) (th : TE) (t : DV) : Prop :=
  ∀ (H0 F H : Hp) (σ : St) (ρ : Vn) (Qd : V → Prop) (Q : VK), Good C F H → Slots C H0 F H σ ρ → t ρ Qd → (∀ v F' H', Ext C F H F' H' → Qd v → Q v H') → th σ H Q
section
variable {C : Cfg} {th tb : TE} {t u : DE}
def vVar (i : Nat) : DV := fun ρ Q => match ρ[i]? with
  | some (.raw v) => Q v
  | _ => False
@[simp] theorem vVar_r {i : Nat} {ρ : Vn} {v : V} {Q : V → Prop} (h : ρ[i]? = some (.raw v)) : vVar i ρ Q = Q v := by unfold vVar; rw [h]
theorem simv_var {i : Nat} : SimV C (tVar i) (vVar i) := by
  intro H0 F H σ ρ Qd Q g S ht k
  unfold vVar at ht
  split at ht
  · rename_i v e
    obtain ⟨o, e2, e3⟩ := S.at e
    cases (show o = some v from e3)
    exact ⟨v, e2, k v F H (.refl g) ht⟩
  · exact ht.elim
@[simp] def vC (v : V) : DV := fun _ Q => Q v
theorem simv_c {v : V} : SimV C (tC v) (vC v) := fun H0 F H σ ρ Qd Q g S ht k => k v F H (.refl g) ht
/-- a display of values of the module, by texts -/
def selTr (kvs : List (Str × V)) : List (TE × TE) := kvs.map fun kv => (tC (.str kv.1), tC kv.2)
theorem sel_pairs (σ : St) (H : Hp) (Q : List (V × V) → Hp → Prop) : ∀ (kvs : List (Str × V)), Q (kvs.map fun kv => (V.str kv.1, kv.2)) H → tPairs (selTr kvs) σ H Q := by
  intro kvs
  induction kvs generalizing Q with
  | nil => intro h; exact h
  | cons kv kvs ih => intro h; exact ih (fun ps H' => Q ((V.str kv.1, kv.2) :: ps) H') h
theorem merge_nodup : ∀ (more acc : List (Key × V)), ((acc ++ more).map (·.1)).Nodup → mergeK acc more = acc ++ more := by
  intro more
  induction more with
  | nil => intro acc _; simp [mergeK]
  | cons p more ih =>
    intro acc h
    have hp : putK acc p.1 p.2 = acc ++ [p] := by
      unfold putK
      rw [if_neg]
      intro hz
      obtain ⟨q, hq, e⟩ := List.any_eq_true.mp hz
      have e' := of_decide_eq_true e
      rw [List.map_append, List.nodup_append] at h
      exact h.2.2 q.1 (List.mem_map.mpr ⟨q, hq, rfl⟩) p.1 (by simp) e'
    show mergeK (putK acc p.1 p.2) more = _
    rw [hp, ih _ (by simpa using h)]
    simp
theorem sel_val {kvs : List (Str × V)} {x : Str} {v : V} (h : kvs.lookup x = some v) : valV (kvs.map fun kv => ((Sum.inr kv.1 : Key), kv.2)) (.inr x) = some v := by
  induction kvs with
  | nil => cases h
  | cons p r ih =>
    rw [List.map_cons]
    by_cases e : p.1 = x
    · rw [valV_pos (by simp [e])]
      obtain ⟨p1, p2⟩ := p
      subst e
      simpa using h
    · rw [valV_neg (by simpa using e)]
      refine ih ?_
      obtain ⟨p1, p2⟩ := p
      have e2 : (x == p1) = false := by simpa using fun z : x = p1 => e z.symm
      rw [List.lookup_cons, e2] at h
      exact h
@[simp] def vSel (kvs : List (Str × V)) (t : DE) : DV := fun ρ Q => t ρ fun d => match d with
  | .str x => ∃ v, kvs.lookup x = some v ∧ Q v
  | _ => False
theorem simv_sel {kvs : List (Str × V)} {ks : List Str} {trs : List (TE × TE)} (he : trs = selTr kvs) (hks : kvs.map (·.1) = ks) (hn0 : ks.Nodup) (h0 : ks.length ≤ 15) (h : SimP C tb t) : SimV C (tOp rIxDk (tDisp trs) tb) (vSel kvs t) := by
  intro H0 F H σ ρ Qd Q g S ht k
  subst he
  have hn : (kvs.map (·.1)).Nodup := by rw [hks]; exact hn0
  have h15 : kvs.length ≤ 15 := by rw [← hks, List.length_map] at h0; exact h0
  intro p hp
  refine sel_pairs σ _ _ kvs ?_
  have nS := g.noS hp
  refine ⟨upd_same, kvs.map fun kv => ((Sum.inr kv.1 : Key), kv.2), ?_, by rw [List.length_map]; exact h15, ?_⟩
  · rw [List.map_map]; rfl
  · have hk : (((kvs.map fun kv => ((Sum.inr kv.1 : Key), kv.2)).map (·.1))).Nodup := by
      rw [List.map_map]
      have := List.Pairwise.map (R := (· ≠ ·)) (S := (· ≠ ·)) (Sum.inr : Str → Key) (fun a b (hab : a ≠ b) => by simpa using hab) hn
      rw [List.map_map] at this
      exact this
    rw [merge_nodup _ [] (by simpa using hk), List.nil_append]
    have x0 : Ext C F H F (upd (upd H p (.dK [])) p (.dK (kvs.map fun kv => ((Sum.inr kv.1 : Key), kv.2)))) := (Ext.newO g hp (.dK [])).updO hp (g.fnone hp) nS
    refine h H0 F _ σ ρ _ _ x0.g (S.ext x0) ht fun w F1 H1 d x1 r1 q1 => ?_
    split at q1
    · obtain ⟨v, e, q⟩ := q1
      exact ⟨p, _, .inr _, v, rfl, x1.hh p _ upd_same nS, (rp_str r1).1, sel_val e, k v F1 H1 (x0.trans x1) q⟩
    · exact q1.elim
@[simp] def dSetV (i : Nat) (t : DV) : DS := fun D ρ => t ρ fun v => D.nx (ρ.set i (.raw v))
theorem sims_setV {i : Nat} {t : DV} (h : SimV C th t) : SimS C (tAsg th (gName i)) (dSetV i t) := fun F0 H0 F H σ ρ D DH x S ht L =>
  h H0 F H σ ρ _ _ x.g S ht fun v F1 H1 x1 q1 => L.nx F1 H1 _ _ (x.trans x1) ((S.ext x1).set i (s := .raw v) rfl fun _ _ z => nomatch z) q1
/-- a call of a value -/
def tCallX (tf : TE) (S : Addr → Sp → Prop) (E : XK) (t : TA) : TE := fun σ H Q => tf σ H fun v H1 => ∃ f sp, v = .ref f ∧ S f sp ∧ t σ H1 fun vs H2 => sp vs H2 Q E
@[simp] def dCallX (t : DV) (W : List (V × Wp)) (a : DA) : DE := fun ρ Q => t ρ fun v => ∃ wp, (v, wp) ∈ W ∧ a ρ fun as => Cl wp as Q
theorem sim_callX {tf : TE} {t : DV} {W : List (V × Wp)} {S : Addr → Sp → Prop} {E : XK} {tA : TA} {a : DA} (hS : ∀ v wp, (v, wp) ∈ W → ∃ f sp, v = .ref f ∧ S f sp ∧ ∀ vs H Q E, spS C wp vs H Q E → sp vs H Q E) (hf : SimV C tf t) (ha : SimA C tA a) :
    SimE C (tCallX tf S E tA) (dCallX t W a) := by
  intro H0 F H σ ρ Qd Q g S ht k
  refine hf H0 F H σ ρ _ _ g S ht fun v F1 H1 x1 ⟨wp, hw, q1⟩ => ?_
  obtain ⟨f, sp, e, h1, h2⟩ := hS v wp hw
  refine ⟨f, sp, e, h1, ?_⟩
  refine ha H0 F1 H1 σ ρ _ _ x1.g (S.ext x1) q1 fun vs F2 H2 as x2 r2 q2 => ?_
  exact h2 _ _ _ _ ⟨F2, as, Qd, x2.g, r2, q2.go, fun v F3 H3 d x3 r3 q3 => k v F3 H3 d (x1.trans (x2.trans x3)) r3 q3⟩
end
/-- a def that a value may be -/
structure HeldG (P : Program) (w : World) (K : PySem.W.Frag) (mg : Str → Option Value) (base : Heap) (CX : CXT) (k : Nat) (f : Addr) (sp : Sp) : Prop where
  ex : ∃ (fd : FuncData) (ps : List Str), FnG P w K mg base CX k f fd ps sp ∧ PySem.W.keepIn K (.ref f) = true ∧ Binds K fd ps []
section
variable {X : Cx} {CX : CXT} {k : Nat} {S : Addr → Sp → Prop} {E : XK} {fe e : Expr} {es : List Expr} {tf : TE} {t : TA} {pos : Pos}
theorem pe_callX (A : ∀ f sp, S f sp → HeldG X.prog X.w X.K X.mg X.base CX k f sp) (hG : X.A.guards = some []) (hr : Room k X.A) (hx : Passes CX X E) (hf : PE X fe tf) (ha : PA X (e :: es) t)
    (hc : eval (.Call fe (e :: es) [] pos) X.env = (do callWith pos (← eval fe X.env) [] (backTo pos (starEach (e :: es) X.env)) (backToKw pos (keywordEach [] X.env))) := by rfl)
    (he : starEach (e :: es) X.env = (false, eval e X.env) :: starEach es X.env := by rfl) (hpl : (backTo pos (starEach es X.env)).any (·.1) = false := by rfl) : PE X (.Call fe (e :: es) [] pos) (tCallX tf S E t) := by
  refine ⟨fun pins s σ H Q I h => ?_⟩
  refine Call_ (thn (hf.run pins s σ H _ I h) fun u s1 ⟨v, H1, I1, r1, f, sp, ev, hS, q1⟩ => ?_) hc
  subst ev
  cases r1
  obtain ⟨fd, ps, F, hk, hb⟩ := (A f sp hS).ex
  refine PySem.W.callWith_K (h₀ := X.base) I1.ok.mod.kin hk (thn (ha.run pos pins s1 σ H1 _ I1 q1) fun us s2 ⟨vs, H2, I2, r, q⟩ => ⟨I2.kIn, ?_⟩) he hpl
  exact run_fnG F hG hr hb .nil hx I2 r (by rw [List.append_nil]; exact q)
end
end VL

set_option Elab.async false
set_option linter.all false
set_option maxRecDepth 100000
set_option maxHeartbeats 4000000
/-! VLGen: the draws' source as a region, defs by names, constants by names, the law's end. -/
namespace VL
open PySem PySem.Spec PyProof.Rows L2

/-! ### the setting with and without a source of draws -/
def sKey (x : Str) : Key := .inr x
def srcKv (c : Addr) (left mixed turn : Int) : List (Key × V) := [(sKey "cells", .ref c), (sKey "left", .int left), (sKey "mixed", .int mixed), (sKey "turn", .int turn)]
structure SrcOk (s c : Addr) (H : Hp) : Prop where
  ne : s ≠ c
  ex : ∃ (left mixed turn : Int) (cells : List Int), H s = some (.dK (srcKv c left mixed turn)) ∧ H c = some (.lst (cells.map V.int)) ∧ cells.length ≤ sizeLine
def cfS : Option (Addr × Addr) → Addr → Prop
  | none, _ => False
  | some p, a => a = p.1 ∨ a = p.2
def cfOk : Option (Addr × Addr) → Hp → Prop
  | none, _ => True
  | some p, H => SrcOk p.1 p.2 H
def cfSrc : Option (Addr × Addr) → Option V
  | none => none
  | some p => some (.ref p.1)
theorem cf_loc : ∀ (o : Option (Addr × Addr)) (H H' : Hp), (∀ a, cfS o a → H' a = H a) → cfOk o H → cfOk o H'
  | none, _, _, _, h => h
  | some (s, c), H, H', e, h => ⟨h.ne, by
    obtain ⟨l, m, t, cs, h1, h2, h3⟩ := h.ex
    exact ⟨l, m, t, cs, (e s (.inl rfl)).trans h1, (e c (.inr rfl)).trans h2, h3⟩⟩
theorem cf_alloc : ∀ (o : Option (Addr × Addr)) (H : Hp) (a : Addr), cfOk o H → cfS o a → H a ≠ none
  | none, _, _, _, h => h.elim
  | some (s, c), H, a, h, hs => by
    obtain ⟨l, m, t, cs, h1, h2, h3⟩ := h.ex
    rcases hs with z | z
    · rw [z, h1]; simp
    · rw [z, h2]; simp
def Cf (K : PySem.W.Frag) (o : Option (Addr × Addr)) : Cfg := ⟨K, cfS o, cfOk o, cfSrc o, cf_loc o, cf_alloc o⟩
/-- a def's promise in every setting -/
def spA (K : PySem.W.Frag) (wp : Wp) : Sp := fun vs H Q E => ∃ o, spS (Cf K o) wp vs H Q E
def spB (K : PySem.W.Frag) (wp : Wp) : Sp := fun vs H Q E => ∃ o, spO (Cf K o) wp vs H Q E
section
variable {K : PySem.W.Frag} {o : Option (Addr × Addr)} {tA : TA} {wp : Wp} {E : XK} {a : DA}
theorem sim_callA (ha : SimA (Cf K o) tA a) : SimE (Cf K o) (tCall (spA K wp) [] E tA) (dCall wp a) := by
  intro H0 F H σ ρ Qd Q g S ht k
  have h := sim_call (wp := wp) (E := E) ha H0 F H σ ρ Qd Q g S ht k
  refine ha H0 F H σ ρ _ _ g S ht fun vs F1 H1 as x1 r1 q1 => ?_
  rw [List.append_nil]
  exact ⟨o, F1, as, Qd, x1.g, r1, q1.go, fun v F2 H2 d x2 r2 q2 => k v F2 H2 d (x1.trans x2) r2 q2⟩
theorem simF_callA (ha : SimA (Cf K o) tA a) : SimF (Cf K o) (tCall (spB K wp) [] E tA) (dCall wp a) := by
  intro H0 F H σ ρ Qd Q g S ht k
  refine ha H0 F H σ ρ _ _ g S ht fun vs F1 H1 as x1 r1 q1 => ?_
  rw [List.append_nil]
  exact ⟨o, F1, as, Qd, x1.g, r1, q1.go, fun v F2 H2 d x2 r2 q2 => k v F2 H2 d (x1.trans x2) (r2.back x1) q2⟩
theorem spA_of {N : List Str} {th : TS} {t : DS} (hs : ∀ o, SimS (Cf K o) th t) (hb : ∀ as Qd, wp as Qd → t (ctlS Qd) (env0 N.length as)) (vs : List V) (H : Hp) (Q : VK) (E : XK) (h : spA K wp vs H Q E) :
    th { nx := fun _ H' => Q .non H', rt := Q } (L2.start N vs) H := by
  obtain ⟨o, h⟩ := h
  exact spS_of (hs o) hb vs H Q E h
theorem spB_of {N : List Str} {th : TS} {t : DS} (hs : ∀ o, SimS (Cf K o) th t) (hb : ∀ as Qd, wp as Qd → t (ctlO Qd) (env0 N.length as)) (vs : List V) (H : Hp) (Q : VK) (E : XK) (h : spB K wp vs H Q E) :
    th { nx := fun _ H' => Q .non H', rt := Q } (L2.start N vs) H := by
  obtain ⟨o, h⟩ := h
  exact spO_of (hs o) hb vs H Q E h
theorem spA_len {n : Nat} (hn : ∀ as Qd, wp as Qd → as.length = n) (vs : List V) (H : Hp) (Q : VK) (E : XK) (h : spA K wp vs H Q E) : vs.length = n := by
  obtain ⟨o, h⟩ := h
  exact spS_len hn vs H Q E h
theorem spB_len {n : Nat} (hn : ∀ as Qd, wp as Qd → as.length = n) (vs : List V) (H : Hp) (Q : VK) (E : XK) (h : spB K wp vs H Q E) : vs.length = n := by
  obtain ⟨o, h⟩ := h
  exact spO_len hn vs H Q E h
end
theorem hu_of {k : Nat} {A : Around} (r : Room k A) : A.units + 200 < cLine := by have := r.un; omega

/-! ### defs by names -/
abbrev CXn : CXT := fun _ _ _ _ _ _ => False
abbrev En : XK := fun _ _ _ => False
theorem passN {X : Cx} {E : XK} : Passes CXn X E := fun _ _ _ _ _ _ _ h => h.elim
structure OkF (P : Program) (w : World) (K : PySem.W.Frag) (mg : Str → Option Value) (base : Heap) (k : Nat) (x : Str) (sp : Sp) : Prop where
  ex : ∃ fd ps, FnG P w K mg base CXn k (He.ga K x) fd ps sp ∧ Binds K fd ps [] ∧ PySem.W.keepIn K (.ref (He.ga K x)) = true ∧ mg x = some (.ref (He.ga K x))
section
variable {P : Program} {w : World} {K : PySem.W.Frag} {mg : Str → Option Value} {base : Heap} {k j : Nat} {x : Str} {sp : Sp}
theorem OkF.mono (G : OkF P w K mg base j x sp) (h : j ≤ k) : OkF P w K mg base k x sp := by
  obtain ⟨fd, ps, F, b, kp, g⟩ := G.ex
  exact ⟨fd, ps, F.mono h, b, kp, g⟩
theorem OkF.held (G : OkF P w K mg base j x sp) (h : j ≤ k) : HeldG P w K mg base CXn k (He.ga K x) sp := by
  obtain ⟨fd, ps, F, b, kp, g⟩ := G.ex
  exact ⟨fd, ps, F.mono h, kp, b⟩
theorem okF_of {st : Stmt} {N ps : List Str} (F : ∃ fd, FunD K x x (defArgs st) (defBody st) (defScope st) [] [] (He.ga K x) fd) (gm : mg x = some (.ref (He.ga K x))) (S : FnScope N ps (defScope st))
    (hb : ∀ (kV doc pm : Value) (an : Option Addr) (cdv ct : Value) (us : List Value), us.length = ps.length → bindArgs (PySem.W.fnOf x x (defArgs st) (defBody st) (defScope st) .none kV doc pm an cdv ct) ⟨us, []⟩ = pure (ps.zip us))
    (len : ∀ vs H Q E, sp vs H Q E → vs.length = ps.length)
    (hbody : ∀ (fd : FuncData) (cdv : Value) (A : Around) (outer : List Env) (s : Shared) (H : Hp) (vs : List V) (Q : VK) (E : XK), A.guards = some [] → Room k (A.deeper (envOfC x (defScope st) s.heap.objs.size (He.ga K x) cdv)) → sp vs H Q E →
      ∃ t, PSs (cxOf CXn P w K mg base N x (defScope st) (He.ga K x) cdv A outer s H E) (defBody st) t ∧ t { nx := fun _ H' => Q .non H', rt := Q } (L2.start N vs) H) : OkF P w K mg base (k + 1) x sp := by
  obtain ⟨fd, F⟩ := F
  exact ⟨fd, ps, fnG_of F S len fun cdv A outer s H vs Q E hg hr h => hbody fd cdv A outer s H vs Q E hg hr h, F.bindsN hb, F.kp, gm⟩
/-- a promise that nobody asks for -/
theorem okF_never {st : Stmt} {ps : List Str} (F : ∃ fd, FunD K x x (defArgs st) (defBody st) (defScope st) [] [] (He.ga K x) fd) (gm : mg x = some (.ref (He.ga K x)))
    (hb : ∀ (kV doc pm : Value) (an : Option Addr) (cdv ct : Value) (us : List Value), us.length = ps.length → bindArgs (PySem.W.fnOf x x (defArgs st) (defBody st) (defScope st) .none kV doc pm an cdv ct) ⟨us, []⟩ = pure (ps.zip us))
    (h : ∀ vs H Q E, ¬ sp vs H Q E) : OkF P w K mg base k x sp := by
  obtain ⟨fd, F⟩ := F
  exact ⟨fd, ps, FnG.never h, F.bindsN hb, F.kp, gm⟩
theorem spA_never {wp : Wp} (h : ∀ as Qd, ¬ wp as Qd) (vs : List V) (H : Hp) (Q : VK) (E : XK) : ¬ spA K wp vs H Q E := fun ⟨_, _, as, Qd, _, _, z, _⟩ => h as Qd z
theorem spB_never {wp : Wp} (h : ∀ as Qd, ¬ wp as Qd) (vs : List V) (H : Hp) (Q : VK) (E : XK) : ¬ spB K wp vs H Q E := fun ⟨_, _, as, Qd, _, _, z, _⟩ => h as Qd z
end
section
variable {X : Cx} {j k : Nat} {sp : Sp} {E : XK} {x : Str} {p pos : Pos} {e fe : Expr} {es : List Expr} {t : TA} {tf : TE}
theorem pe_callO (G : OkF X.prog X.w X.K X.mg X.base j x sp) (hG : X.A.guards = some []) (hr : Room k X.A) (hj : j ≤ k) (hg : Gl X x) (ha : PA X (e :: es) t)
    (hdb : (x == ("__debug__" : Str)) = false := by decide) (he : starEach (e :: es) X.env = (false, eval e X.env) :: starEach es X.env := by rfl) (hpl : (backTo pos (starEach es X.env)).any (·.1) = false := by rfl) :
    PE X (.Call (.Name x p) (e :: es) [] pos) (tCall sp [] En t) := by
  obtain ⟨fd, ps, F, b, kp, g⟩ := G.ex
  exact pe_callG (F.mono hj) hG hr hg g kp b .nil passN ha hdb he hpl
theorem pe_callO0 (G : OkF X.prog X.w X.K X.mg X.base j x sp) (hG : X.A.guards = some []) (hr : Room k X.A) (hj : j ≤ k) (hg : Gl X x)
    (hdb : (x == ("__debug__" : Str)) = false := by decide) : PE X (.Call (.Name x p) [] [] pos) (tCall sp [] En tNil) := by
  obtain ⟨fd, ps, F, b, kp, g⟩ := G.ex
  exact pe_callG0 (F.mono hj) hG hr hg g kp b .nil passN hdb
theorem pe_callXO {S : Addr → Sp → Prop} (A : ∀ f sp, S f sp → HeldG X.prog X.w X.K X.mg X.base CXn k f sp) (hG : X.A.guards = some []) (hr : Room k X.A) (hf : PE X fe tf) (ha : PA X (e :: es) t)
    (hc : eval (.Call fe (e :: es) [] pos) X.env = (do callWith pos (← eval fe X.env) [] (backTo pos (starEach (e :: es) X.env)) (backToKw pos (keywordEach [] X.env))) := by rfl)
    (he : starEach (e :: es) X.env = (false, eval e X.env) :: starEach es X.env := by rfl) (hpl : (backTo pos (starEach es X.env)).any (·.1) = false := by rfl) : PE X (.Call fe (e :: es) [] pos) (tCallX tf S En t) :=
  pe_callX A hG hr passN hf ha hc he hpl
end
/-- the defs that a value may be, by names -/
def tabS (K : PySem.W.Frag) (W : List (Str × Wp)) : Addr → Sp → Prop := fun f sp => ∃ x wp, (x, wp) ∈ W ∧ f = He.ga K x ∧ sp = spA K wp
def tabW (K : PySem.W.Frag) (W : List (Str × Wp)) : List (V × Wp) := W.map fun p => (.ref (He.ga K p.1), p.2)
theorem tab_ok {K : PySem.W.Frag} {o : Option (Addr × Addr)} {W : List (Str × Wp)} (v : V) (wp : Wp) (h : (v, wp) ∈ tabW K W) : ∃ f sp, v = .ref f ∧ tabS K W f sp ∧ ∀ vs H Q E, spS (Cf K o) wp vs H Q E → sp vs H Q E := by
  obtain ⟨p, hp, e⟩ := List.mem_map.mp h
  obtain ⟨x, wp'⟩ := p
  cases e
  exact ⟨_, _, rfl, ⟨x, wp', hp, rfl, rfl⟩, fun vs H Q E z => ⟨o, z⟩⟩
theorem tab_held {P : Program} {w : World} {K : PySem.W.Frag} {mg : Str → Option Value} {base : Heap} {k : Nat} : ∀ {W : List (Str × Wp)}, (∀ p ∈ W, OkF P w K mg base k p.1 (spA K p.2)) → ∀ f sp, tabS K W f sp → HeldG P w K mg base CXn k f sp := by
  rintro W h f sp ⟨x, wp, hm, rfl, rfl⟩
  exact (h _ hm).held (Nat.le_refl _)

/-! ### constants by names -/
mutual
def datB (K : PySem.W.Frag) : PyData → Value → Bool
  | .none, .none => true
  | .bool b, .bool c => b == c
  | .int i, .int j _ => decide (i = j)
  | .str x, .str y _ => decide (x = y) && decide (x.length ≤ sizeLine)
  | .tuple ds, .ref a => match K.lookup a with
    | some ⟨.type c, none, .seq its _, _⟩ => decide (c = "tuple") && (decide (its.size ≤ sizeLine) && datsB K ds its.toList)
    | _ => false
  | _, _ => false
def datsB (K : PySem.W.Frag) : List PyData → List Value → Bool
  | [], [] => true
  | d :: ds, u :: us => datB K d u && datsB K ds us
  | _, _ => false
end
mutual
theorem datB_ok {K : PySem.W.Frag} : ∀ (d : PyData) (u : Value), datB K d u = true → ∃ v, RelV v u ∧ (∀ F, R K F v d) ∧ ∀ ds, d = .tuple ds → ∀ H, tyV K "tuple" v H
  | .none, u, h => by
    cases u with
    | none => exact ⟨.non, rfl, fun _ => .non, fun _ z => nomatch z⟩
    | _ => simp [datB] at h
  | .bool b, u, h => by
    cases u with
    | bool c =>
      have e : b = c := by simpa [datB] using h
      subst e
      exact ⟨.bl b, rfl, fun _ => .bl b, fun _ z => nomatch z⟩
    | _ => simp [datB] at h
  | .int i, u, h => by
    cases u with
    | int j t =>
      have e : i = j := by simpa [datB] using h
      subst e
      exact ⟨.int i, ⟨t, rfl⟩, fun _ => .int i, fun _ z => nomatch z⟩
    | _ => simp [datB] at h
  | .str x, u, h => by
    cases u with
    | str y t =>
      have e : x = y ∧ x.length ≤ sizeLine := by simpa [datB] using h
      obtain ⟨e, l⟩ := e
      subst e
      exact ⟨.str x, ⟨t, rfl⟩, fun _ => .str x l, fun _ z => nomatch z⟩
    | _ => simp [datB] at h
  | .tuple ds, u, h => by
    cases u with
    | ref a =>
      unfold datB at h
      split at h
      · rename_i c its n sl q
        obtain ⟨h1, h2⟩ := Bool.and_eq_true_iff.mp h
        obtain ⟨h3, h4⟩ := Bool.and_eq_true_iff.mp h2
        obtain ⟨vs, rv, rl⟩ := datsB_ok ds its.toList h4
        have hc := of_decide_eq_true h1
        subst hc
        refine ⟨.ref a, rfl, fun F => .tup (.inr ⟨_, its, n, q, ⟨rfl, rfl, of_decide_eq_true h3, rv⟩, rfl⟩) ?_ (rl F), fun ds' z H => .inr (.inl ⟨rfl, _, q, rfl, rfl⟩)⟩
        rw [← (rl F).length, rv.length, Array.length_toList]
        exact of_decide_eq_true h3
      · cases h
    | _ => simp [datB] at h
  | .list _, u, h => by cases u <;> simp [datB] at h
  | .dict _, u, h => by cases u <;> simp [datB] at h
theorem datsB_ok {K : PySem.W.Frag} : ∀ (ds : List PyData) (us : List Value), datsB K ds us = true → ∃ vs, Vals vs us ∧ ∀ F, RL K F vs ds
  | [], [], _ => ⟨[], .nil, fun _ => .nil⟩
  | [], _ :: _, h => by simp [datsB] at h
  | _ :: _, [], h => by simp [datsB] at h
  | d :: ds, u :: us, h => by
    have h' : datB K d u = true ∧ datsB K ds us = true := by simpa [datsB] using h
    obtain ⟨v, h1, h2, _⟩ := datB_ok d u h'.1
    obtain ⟨vs, h3, h4⟩ := datsB_ok ds us h'.2
    exact ⟨v :: vs, .cons h1 h3, fun F => .cons (h2 F) (h4 F)⟩
end
def conB (K : PySem.W.Frag) (p : Str × PyData) : Bool := match PySem.W.nsIn K mainGlobals p.1 with
  | some (some u) => datB K p.2 u
  | _ => false
/-- the module's name x stands for the data d -/
structure Con (K : PySem.W.Frag) (mg : Str → Option Value) (x : Str) (d : PyData) : Prop where
  ex : ∃ v u, mg x = some u ∧ RelV v u ∧ (∀ F, R K F v d) ∧ ∀ ds, d = .tuple ds → ∀ H, tyV K "tuple" v H
theorem con_ok {K : PySem.W.Frag} {h : Heap} {mg : Str → Option Value} (X : K.In h) (G : h.Ns mainGlobals mg) {p : Str × PyData} (c : conB K p = true) : Con K mg p.1 p.2 := by
  unfold conB at c
  split at c
  · rename_i u e
    obtain ⟨v, h1, h2, h3⟩ := datB_ok _ _ c
    exact ⟨v, u, PySem.W.mg_of X G e, h1, h2, h3⟩
  · cases c

/-! ### what the run of the top is looked at for -/
open He in
def obsV (fa : List Fa) (gs : List (Str × PyData)) (fn : List DefD) (K : PySem.W.Frag) : AlD := (((fa.all fun f => f.ok K) && gs.all fun g => conB K g) && fn.all fun d => d.ok K, fn.map fun d => fnW K d.at_)
open He in
def SaysV (fa : List Fa) (gs : List (Str × PyData)) (fn : List DefD) (K : PySem.W.Frag) : Prop := obsV fa gs fn K = valD fn
open He in
def obsVG (n : Nat) (fa : List Fa) (gs : List (Str × PyData)) (fn : List DefD) (g : Addr → Option Obj) : AlD := obsV fa gs fn (frG g (asD g n))
open He in
def hookV (n : Nat) (fa : List Fa) (gs : List (Str × PyData)) (fn : List DefD) : PySem.W.Hook where
  α := AlD
  obs := fun s => obsVG n fa gs fn s.heap.get?
  val := fun _ => valD fn
  says := fun _ h => ∃ K : PySem.W.Frag, K.In h ∧ SaysV fa gs fn K
  of := fun _ _ e => ⟨_, frG_in, e⟩
  keeps := fun _ _ _ ⟨K, hK, c⟩ k => ⟨K, PySem.W.Frag.In.keeps hK k, c⟩
theorem obsVG_eq {n : Nat} {fa : List He.Fa} {gs : List (Str × PyData)} {fn : List He.DefD} {g : Addr → Option Obj} {s : Shared} (h : ∀ a, g a = s.heap.get? a) : obsVG n fa gs fn g = (hookV n fa gs fn).obs s := by
  have e : g = s.heap.get? := funext h
  subst e
  rfl
section
variable {fa : List He.Fa} {gs : List (Str × PyData)} {fn : List He.DefD} {K : PySem.W.Frag}
theorem SaysV.bools (c : SaysV fa gs fn K) : ((fa.all fun f => f.ok K) = true ∧ (gs.all fun g => conB K g) = true) ∧ (fn.all fun d => d.ok K) = true := by
  have c1 : (((fa.all fun f => f.ok K) && gs.all fun g => conB K g) && fn.all fun d => d.ok K) = true := congrArg (fun z : He.AlD => z.1) c
  simpa only [Bool.and_eq_true] using c1
theorem SaysV.fact (c : SaysV fa gs fn K) (i : Nat) {f : He.Fa} (h : fa[i]? = some f := by rfl) : f.ok K = true := List.all_eq_true.mp c.bools.1.1 f (List.mem_of_getElem? h)
theorem SaysV.con (c : SaysV fa gs fn K) (i : Nat) {g : Str × PyData} (h : gs[i]? = some g := by rfl) : conB K g = true := List.all_eq_true.mp c.bools.1.2 g (List.mem_of_getElem? h)
theorem SaysV.def_ (c : SaysV fa gs fn K) (i : Nat) {d : He.DefD} (h : fn[i]? = some d := by rfl) : ∃ fd, FunD K d.name d.qual d.params d.body d.scope (d.dvs K) (d.kws K) (He.fAd K d.at_) fd := by
  have e : fn.map (fun d => He.fnW K d.at_) = fn.map He.DefD.val := congrArg (fun z : He.AlD => z.2) c
  have e2 : (fn.map fun d => He.fnW K d.at_)[i]? = (fn.map He.DefD.val)[i]? := by rw [e]
  rw [List.getElem?_map, List.getElem?_map, h] at e2
  exact He.DefD.funD (Option.some.inj e2) (List.all_eq_true.mp c.bools.2 d (List.mem_of_getElem? h))
end
end VL
namespace VL
open PySem PySem.Spec PyProof.Rows L2
/-- a def of the module's top -/
def dd (x : Str) (st : Stmt) : He.DefD := ⟨(x, none), x, x, defArgs st, defBody st, defScope st, [], []⟩
/-- what a walk leans on -/
structure Fx (fa : List He.Fa) (gs : List (Str × PyData)) (fn : List He.DefD) (K : PySem.W.Frag) (mg : Str → Option Value) : Prop where
  ex : ∃ h : Heap, K.In h ∧ h.Ns mainGlobals mg ∧ SaysV fa gs fn K
section
variable {fa : List He.Fa} {gs : List (Str × PyData)} {fn : List He.DefD} {K : PySem.W.Frag} {mg : Str → Option Value}
theorem Fx.glo (c : Fx fa gs fn K mg) (i : Nat) (x : Str) (h : fa[i]? = some (.glo x) := by rfl) : mg x = some (.ref (He.ga K x)) := by
  obtain ⟨hp, X, G, s⟩ := c.ex
  exact He.glo_ok X G (s.fact i h)
theorem Fx.free (c : Fx fa gs fn K mg) (i : Nat) (x : Str) (h : fa[i]? = some (.free x) := by rfl) : mg x = none := by
  obtain ⟨hp, X, G, s⟩ := c.ex
  exact He.free_ok X G (s.fact i h)
theorem Fx.con (c : Fx fa gs fn K mg) (i : Nat) (x : Str) (d : PyData) (h : gs[i]? = some (x, d) := by rfl) : Con K mg x d := by
  obtain ⟨hp, X, G, s⟩ := c.ex
  exact con_ok X G (p := (x, d)) (s.con i h)
theorem Fx.fd (c : Fx fa gs fn K mg) (i : Nat) (x : Str) (st : Stmt) (h : fn[i]? = some (dd x st) := by rfl) : ∃ fd, FunD K x x (defArgs st) (defBody st) (defScope st) [] [] (He.ga K x) fd := by
  obtain ⟨hp, X, G, s⟩ := c.ex
  exact s.def_ i h
end
end VL

set_option Elab.async false
set_option linter.all false
set_option maxRecDepth 100000
set_option maxHeartbeats 4000000
/-! VLLib4: += and *= of whole numbers. -/
namespace VL
open PySem PySem.Spec L2
section
variable {C : Cfg}
@[simp] def dAddI : D2 := fun d e Q => match d, e with
  | .int i, .int j => Q (.int (i + j))
  | _, _ => False
theorem so_addI : SimOp C (rI0 fun i j => .int (i + j)) dAddI := by
  intro F H x y d e Qd Q g rx ry h k
  unfold dAddI at h
  split at h
  · cases rp_int rx
    cases rp_int ry
    exact ⟨_, _, rfl, rfl, k _ F H _ (.refl g) (.int _) h⟩
  · exact h.elim
@[simp] def dMulI : D2 := fun d e Q => match d, e with
  | .int i, .int j => CMul i j ∧ Q (.int (i * j))
  | _, _ => False
theorem so_mulI : SimOp C (rI CMul fun i j => .int (i * j)) dMulI := by
  intro F H x y d e Qd Q g rx ry h k
  unfold dMulI at h
  split at h
  · cases rp_int rx
    cases rp_int ry
    exact ⟨_, _, rfl, rfl, h.1, k _ F H _ (.refl g) (.int _) h.2⟩
  · exact h.elim
end
end VL

set_option Elab.async false
set_option linter.all false
set_option maxRecDepth 100000
set_option maxHeartbeats 4000000
/-! VLEnd: from the promise of the law's def to the statement. -/
namespace VL
open PySem PySem.Spec PyProof.Rows L2
/-- the script's object -/
abbrev scrO (vs : List Value) : Obj := { cls := .type "list", data := .seq vs.toArray }
/-- the heap as it is tracked when the law is called: the script alone, locked (nothing, if the module holds it) -/
def scrH (K : PySem.W.Frag) (a : Addr) (vs : List Value) (ns : List Int) : Hp := fun b => if b = a ∧ K.lookup a = none then some (.frz (scrO vs) (.lst (ns.map V.int))) else none
section
variable {P : Program} {w : World} {K : PySem.W.Frag} {mg mb : Str → Option Value} {k : Nat} {fa a : Addr} {fd : FuncData} {x : Str} {sp : Sp} {s : Shared} {vs : List Value} {ns : List Int}
theorem scrH_some {b : Addr} {u : HO} (h : scrH K a vs ns b = some u) : b = a ∧ K.lookup a = none ∧ u = .frz (scrO vs) (.lst (ns.map V.int)) := by
  unfold scrH at h
  split at h
  · rename_i q
    cases h
    exact ⟨q.1, q.2, rfl⟩
  · cases h
theorem scr_only : L2.Only (scrH K a vs ns) := fun b => by
  cases e : scrH K a vs ns b with
  | none => exact .inl rfl
  | some u => exact .inr ⟨_, _, by rw [(scrH_some e).2.2]⟩
theorem scr_ok (ha : s.heap.get? a = some (scrO vs)) (hi : IntsAre vs ns) (hl : ns.length ≤ sizeLine) : HOk P w (scrH K a vs ns) s.heap := fun b u e => by
  obtain ⟨rfl, _, rfl⟩ := scrH_some e
  exact ⟨ha, by rw [List.length_map]; exact hl, vs, _, vals_ints hi, ha⟩
theorem scr_list (KX : K.In s.heap) (ha : s.heap.get? a = some (scrO vs)) (hi : IntsAre vs ns) (hl : ns.length ≤ sizeLine) : SqL K (scrH K a vs ns) a (ns.map V.int) := by
  cases q : K.lookup a with
  | none => exact .inl (.inr ⟨_, if_pos ⟨rfl, q⟩⟩)
  | some o =>
    have e : o = scrO vs := by
      have z := KX a o q
      rw [ha] at z
      exact (Option.some.inj z).symm
    subst e
    exact .inr ⟨_, vs.toArray, _, q, rfl, rfl, rfl, by rw [List.size_toArray, hi.length]; exact hl, by simpa using vals_ints hi⟩
/-- behind the top, with nothing tracked but the script -/
theorem scr_env (KX : K.In s.heap) (G : s.heap.Ns mainGlobals mg) (hb : s.heap.Ns builtinsNs mb) (hbb : ∀ x : Str, x ≠ "__name__" → mb x = bootBuiltins x) (lim : s.heap.NoLimit) (hg : s.gens = #[])
    (ha : s.heap.get? a = some (scrO vs)) (hi : IntsAre vs ns) (hl : ns.length ≤ sizeLine) :
    K.In (hidT s.heap (scrH K a vs ns)) ∧ (hidT s.heap (scrH K a vs ns)).Ns mainGlobals mg ∧ Env0 P w K mg (hidT s.heap (scrH K a vs ns)) callerA [] s (scrH K a vs ns) := by
  have isd : ∀ {b : Addr} {o : Obj} {es : Array DictEntry} {ep : Nat}, s.heap.get? b = some o → o.data = .dict es ep → scrH K a vs ns b = none := fun {b o es ep} e d => by
    cases q : scrH K a vs ns b with
    | none => rfl
    | some u =>
      obtain ⟨rfl, _, _⟩ := scrH_some q
      rw [ha] at e
      obtain rfl := Option.some.inj e
      exact nomatch (show Data.seq vs.toArray _ = Data.dict es ep from d)
  have low : ∀ {b : Addr} {m : Str → Option Value}, s.heap.Ns b m → (hidT s.heap (scrH K a vs ns)).Ns b m := fun {b m} z => by
    obtain ⟨o, es, ep, e, d, r⟩ := z
    exact ⟨o, es, ep, hidT_get e (isd e d), d, r⟩
  have KB : K.In (hidT s.heap (scrH K a vs ns)) := fun b o e => hidT_get (KX b o e) (by
    cases q : scrH K a vs ns b with
    | none => rfl
    | some u =>
      obtain ⟨rfl, z, _⟩ := scrH_some q
      rw [z] at e
      cases e)
  obtain ⟨mc, m1, m2⟩ := lim
  refine ⟨KB, low G, rfl, ⟨KB, low G, ⟨mb, low hb, hbb⟩, mc, low m1, m2⟩, fun b o e => of_hidT e, Nat.le_of_eq (hidT_size _ _), trivial, fun b hm => absurd (show b ∈ ([] : List Addr) from hm) (by simp), scr_ok ha hi hl, .of_eq hg⟩
theorem law_callG (KX : K.In s.heap) (G : s.heap.Ns mainGlobals mg) (hb : s.heap.Ns builtinsNs mb) (hbb : ∀ x : Str, x ≠ "__name__" → mb x = bootBuiltins x) (lim : s.heap.NoLimit) (hg : s.gens = #[])
    (ha : s.heap.get? a = some (scrO vs)) (hi : IntsAre vs ns) (hl : ns.length ≤ sizeLine) (hr : Room k callerA)
    (F : ∀ base : Heap, K.In base → base.Ns mainGlobals mg → FnG P w K mg base CXn k fa fd [x] sp) (hbind : ∀ (s : Shared) (u : Value), BindsTo s fd ⟨[u], []⟩ [(x, u)])
    (hsp : ∀ H : Hp, L2.Only H → SqL K H a (ns.map V.int) → sp [.ref a] H (fun v _ => v = .bl true) fun _ _ _ => False) :
    codeAny (model P w) callerA (.call (.ref fa) ⟨[.ref a], []⟩) (fun r s' => r = .ok (.ret (.bool true)) ∧ OldK s.heap s'.heap ∧ s'.os = s.os ∧ AllBare s'.gens) s := by
  obtain ⟨k1, k2, e0⟩ := scr_env (P := P) (w := w) KX G hb hbb lim hg ha hi hl
  refine codeAny_mono ((F _ k1 k2).run callerA [] s _ ⟨[.ref a], []⟩ [.ref a] [.ref a] _ _ rfl hr e0 (hbind s (.ref a)) (.cons rfl .nil) (hsp _ scr_only (scr_list KX ha hi hl))) fun r s' h => ?_
  match r, h with
  | .error e, h => exact False.elim h
  | .ok .next, h => exact False.elim h
  | .ok .brk, h => exact False.elim h
  | .ok .cont, h => exact False.elim h
  | .ok (.ret u), ⟨v, H', os, bare, un, hok, rv, q⟩ =>
    obtain rfl : v = V.bl true := q
    obtain rfl : u = Value.bool true := rv
    refine ⟨rfl, OldK.of_keep fun b o e => ?_, os, bare⟩
    cases q : scrH K a vs ns b with
    | none => exact un.keep b o e q (fun z => absurd (show b ∈ ([] : List Addr) from z) (by simp)) (by simp)
    | some u =>
      obtain ⟨_, _, z⟩ := scrH_some q
      have t := un.frzs b _ _ (q.trans (congrArg some z))
      have t1 := (hok b _ t).1
      have t2 := (scr_ok (P := P) (w := w) (K := K) ha hi hl b u q)
      subst z
      have t3 := t2.1
      rw [t3] at e
      obtain rfl := Option.some.inj e
      exact t1
end
/-- a law of the text: F gives the written part, the def, its promise -/
theorem end_law {l : PySem.W.OpenLaw} {n k : Nat} {q : Program} {loose : List Str} {XP : (Str → Option Value) → Heap → Prop} {YP : World → Heap → Prop} {d : DefRec} {x : Str} (hn : l.most = some n) (hn2 : n ≤ sizeLine) (hdf : d.params.defaults = []) (hr : Room k callerA)
    (F : ∀ (w : World) (mg : Str → Option Value) (fa : Addr) (h : Heap), YP w h → h.Ns mainGlobals mg → mg d.name = some (.ref fa) → ∃ (K : PySem.W.Frag) (fd : FuncData) (sp : Sp), K.In h ∧ (∀ (s : Shared) (u : Value), BindsTo s fd ⟨[u], []⟩ [(x, u)]) ∧
      (∀ (H : Hp) (a : Addr) (ns : List Int), ns.length ≤ n → L2.Only H → SqL K H a (ns.map V.int) → sp [.ref a] H (fun v _ => v = .bl true) fun _ _ _ => False) ∧ ∀ base : Heap, K.In base → base.Ns mainGlobals mg → FnG l.prog w K mg base CXn k fa fd [x] sp) :
    PySem.W.WalkO q loose XP YP l.row.toRowW d [] (fun f vs => PySem.call f vs) :=
  Att.attach_call hn hdf fun w s₀ s₁ mg mb fa o pm cd doc a vs ns G Y ho hd hcd hmg hobj hints hlen hg => by
    obtain ⟨K, fd, sp, KX, hb, hsp, hF⟩ := F w mg fa _ Y G.T.g hmg
    exact law_callG KX G.T.g G.T.b G.T.builtins G.T.nolimit hg hobj hints (Nat.le_trans hlen hn2) hr hF hb fun H hO hS => hsp H a ns hlen hO hS
end VL

set_option Elab.async false
set_option linter.all false
set_option maxRecDepth 100000
set_option maxHeartbeats 4000000
/-! VLSrc: the source of draws. -/
namespace VL
open PySem PySem.Spec PyProof.Rows L2
/-- a draw: any number below m (0, if there is none) -/
def wpPick (_ : PySem.W.Frag) : Wp := fun as Qd => ∃ m : Int, as = [.s, .d (.int m)] ∧ m < 1073741824 ∧ ∀ r : Int, 0 ≤ r → (r < m ∨ r = 0) → Qd (.int r)
/-- any order of a list or a tuple -/
def wpAnyOrder (_ : PySem.W.Frag) : Wp := fun as Qd => ∃ d ds, as = [.s, .d d] ∧ (d = .list ds ∨ d = .tuple ds) ∧ ds.length < 1073741824 ∧ ∀ es : List PyData, es.Perm ds → Qd (.list es)
def wpNone (_ : PySem.W.Frag) : Wp := fun _ _ => False

theorem ne_cl : ("cells" : Str) ≠ "left" := by decide +kernel
theorem ne_cm : ("cells" : Str) ≠ "mixed" := by decide +kernel
theorem ne_ct : ("cells" : Str) ≠ "turn" := by decide +kernel
theorem ne_lc : ("left" : Str) ≠ "cells" := by decide +kernel
theorem ne_lm : ("left" : Str) ≠ "mixed" := by decide +kernel
theorem ne_lt : ("left" : Str) ≠ "turn" := by decide +kernel
theorem ne_mc : ("mixed" : Str) ≠ "cells" := by decide +kernel
theorem ne_ml : ("mixed" : Str) ≠ "left" := by decide +kernel
theorem ne_mt : ("mixed" : Str) ≠ "turn" := by decide +kernel
theorem ne_tc : ("turn" : Str) ≠ "cells" := by decide +kernel
theorem ne_tl : ("turn" : Str) ≠ "left" := by decide +kernel
theorem ne_tm : ("turn" : Str) ≠ "mixed" := by decide +kernel
section
variable {K : PySem.W.Frag} {s c : Addr} {F H : Hp}
/-- the source's numbers -/
inductive SrcN : Str → Prop
  | left : SrcN "left"
  | mixed : SrcN "mixed"
  | turn : SrcN "turn"
theorem src_get {l m t : Int} {x : Str} (h : SrcN x) : ∃ i : Int, valV (srcKv c l m t) (sKey x) = some (.int i) := by
  cases h
  · exact ⟨l, by simp [valV, srcKv, sKey, List.find?_cons, ne_cl, ne_cm, ne_ct, ne_lc, ne_lm, ne_lt, ne_mc, ne_ml, ne_mt, ne_tc, ne_tl, ne_tm]⟩
  · exact ⟨m, by simp [valV, srcKv, sKey, List.find?_cons, ne_cl, ne_cm, ne_ct, ne_lc, ne_lm, ne_lt, ne_mc, ne_ml, ne_mt, ne_tc, ne_tl, ne_tm]⟩
  · exact ⟨t, by simp [valV, srcKv, sKey, List.find?_cons, ne_cl, ne_cm, ne_ct, ne_lc, ne_lm, ne_lt, ne_mc, ne_ml, ne_mt, ne_tc, ne_tl, ne_tm]⟩
theorem src_left {l m t : Int} : valV (srcKv c l m t) (sKey "left") = some (.int l) := by simp [valV, srcKv, sKey, List.find?_cons, ne_cl, ne_cm, ne_ct, ne_lc, ne_lm, ne_lt, ne_mc, ne_ml, ne_mt, ne_tc, ne_tl, ne_tm]
theorem src_cells {l m t : Int} : valV (srcKv c l m t) (sKey "cells") = some (.ref c) := by simp [valV, srcKv, sKey, List.find?_cons, ne_cl, ne_cm, ne_ct, ne_lc, ne_lm, ne_lt, ne_mc, ne_ml, ne_mt, ne_tc, ne_tl, ne_tm]
theorem src_put {l m t i : Int} {x : Str} (h : SrcN x) : ∃ l' m' t' : Int, putK (srcKv c l m t) (sKey x) (.int i) = srcKv c l' m' t' := by
  cases h
  · exact ⟨i, m, t, by simp [putK, srcKv, sKey, ne_cl, ne_cm, ne_ct, ne_lc, ne_lm, ne_lt, ne_mc, ne_ml, ne_mt, ne_tc, ne_tl, ne_tm]⟩
  · exact ⟨l, i, t, by simp [putK, srcKv, sKey, ne_cl, ne_cm, ne_ct, ne_lc, ne_lm, ne_lt, ne_mc, ne_ml, ne_mt, ne_tc, ne_tl, ne_tm]⟩
  · exact ⟨l, m, i, by simp [putK, srcKv, sKey, ne_cl, ne_cm, ne_ct, ne_lc, ne_lm, ne_lt, ne_mc, ne_ml, ne_mt, ne_tc, ne_tl, ne_tm]⟩
theorem src_putL {l m t i : Int} : putK (srcKv c l m t) (sKey "left") (.int i) = srcKv c i m t := by simp [putK, srcKv, sKey, ne_cl, ne_cm, ne_ct, ne_lc, ne_lm, ne_lt, ne_mc, ne_ml, ne_mt, ne_tc, ne_tl, ne_tm]
theorem srcKv_len {l m t : Int} : (srcKv c l m t).length = 4 := rfl
/-- the source is written -/
theorem Ext.srcPut {l m t : Int} (g : Good (Cf K (some (s, c))) F H) {l' m' t' : Int} (e : H s = some (.dK (srcKv c l m t))) : Ext (Cf K (some (s, c))) F H F (upd H s (.dK (srcKv c l' m' t'))) := by
  have ok : SrcOk s c H := g.ok
  obtain ⟨l0, m0, t0, cs, h1, h2, h3⟩ := ok.ex
  refine ⟨.refl _, ⟨fun b u q => ?_, ?_, g.fs⟩, fun a u q n => ?_, fun a u q => .inl q⟩
  · rw [upd_ne (fun w : b = s => by rw [w, g.fs s (.inl rfl)] at q; cases q)]
    exact g.fh b u q
  · exact ⟨ok.ne, l', m', t', cs, upd_same, by rw [upd_ne (Ne.symm ok.ne)]; exact h2, h3⟩
  · rw [upd_ne (fun w : a = s => n (.inl w))]
    exact q
theorem Ext.cellsPut {cs : List Int} (g : Good (Cf K (some (s, c))) F H) (hl : cs.length ≤ sizeLine) : Ext (Cf K (some (s, c))) F H F (upd H c (.lst (cs.map V.int))) := by
  have ok : SrcOk s c H := g.ok
  obtain ⟨l0, m0, t0, cs0, h1, h2, h3⟩ := ok.ex
  refine ⟨.refl _, ⟨fun b u q => ?_, ?_, g.fs⟩, fun a u q n => ?_, fun a u q => .inl q⟩
  · rw [upd_ne (fun w : b = c => by rw [w, g.fs c (.inr rfl)] at q; cases q)]
    exact g.fh b u q
  · exact ⟨ok.ne, l0, m0, t0, cs, by rw [upd_ne ok.ne]; exact h1, upd_same, hl⟩
  · rw [upd_ne (fun w : a = c => n (.inr w))]
    exact q
end
section
variable {K : PySem.W.Frag} {o : Option (Addr × Addr)} {i : Nat}
theorem so_at {H0 F H : Hp} {σ : St} {ρ : Vn} (S : Slots (Cf K o) H0 F H σ ρ) (e : ρ[i]? = some .so) : ∃ s c, o = some (s, c) ∧ σ[i]? = some (some (.ref s)) := by
  obtain ⟨u, e2, e3, e4⟩ := S.at e
  subst e4
  cases o with
  | none => exact absurd rfl e3
  | some p => exact ⟨p.1, p.2, rfl, e2⟩
/-- source[..]: any number -/
@[simp] def dSrcGet (i : Nat) : DE := fun ρ Q => ρ[i]? = some .so ∧ ∀ n : Int, Q (.int n)
theorem sim_srcGet {x : Str} (hx : SrcN x) : SimE (Cf K o) (tOp (rIxAll K) (tVar i) (tC (.str x))) (dSrcGet i) := by
  intro H0 F H σ ρ Qd Q g S ⟨e, ht⟩ k
  obtain ⟨s, c, rfl, e2⟩ := so_at S e
  obtain ⟨l, m, t, cs, h1, h2, h3⟩ := (show SrcOk s c H from g.ok).ex
  obtain ⟨n, hn⟩ := src_get (c := c) (l := l) (m := m) (t := t) hx
  exact ⟨_, e2, .inr ⟨s, _, sKey x, _, rfl, h1, rfl, hn, k _ F H _ (.refl g) (.int n) (ht n)⟩⟩
/-- source[..] = a number -/
@[simp] def dSrcPut (i : Nat) (t : DE) : DS := fun D ρ => ρ[i]? = some .so ∧ t ρ fun d => ∃ n, d = .int n ∧ D.nx ρ
theorem sims_srcPut {x : Str} {tv : TE} {t : DE} (hx : SrcN x) (h : SimE (Cf K o) tv t) : SimS (Cf K o) (sDPut (tVar i) (tC (.str x)) tv) (dSrcPut i t) := by
  intro F0 H0 F H σ ρ D DH x0 S ⟨e, ht⟩ L
  refine h H0 F H σ ρ _ _ x0.g S ht fun v F1 H1 d x1 r1 ⟨n, ed, q1⟩ => ?_
  subst ed
  have S1 := S.ext x1
  obtain ⟨s, c, rfl, e2⟩ := so_at S1 e
  obtain ⟨l, m, t, cs, h1, h2, h3⟩ := (show SrcOk s c H1 from x1.g.ok).ex
  obtain ⟨l', m', t', ep⟩ := src_put (c := c) (l := l) (m := m) (t := t) (i := n) hx
  have ev : v = .int n := by cases r1; rfl
  subst ev
  have y := Ext.srcPut x1.g (l' := l') (m' := m') (t' := t') h1
  refine ⟨_, e2, s, _, rfl, .inl ⟨_, sKey x, h1, rfl, by rw [srcKv_len, sizeLine_eq]; decide, rfl⟩, ?_⟩
  rw [ep]
  exact L.nx F1 _ σ ρ (x0.trans (x1.trans y)) (S1.ext y) q1
/-! ### one cell after another -/
/-- cells = source['cells']; while source['left'] < 2 and len(cells) > 0: source['left'] = cells.pop() -/
abbrev tFillC (K : PySem.W.Frag) : TT := tAnd (tTest (tOp (rI0 fun i j => .bl (decide (i < j))) (tOp (rIxAll K) (tVar 0) (tC (.str "left"))) (tC (.int 2)))) (tTest (tOp (rI0 fun i j => .bl (decide (j < i))) (tCB (rLenAll K) (tCons (tVar 2) tNil)) (tC (.int 0))))
@[simp] def dFill (b : DS) : DS := fun D ρ => ρ[0]? = some .so ∧ 2 < ρ.length ∧ b D (ρ.set 2 .un)
theorem sims_fill {us : TS} {b : DS} (h : SimS (Cf K o) us b) : SimS (Cf K o)
    (tSeq (tAsg (tOp (rIxAll K) (tVar 0) (tC (.str "cells"))) (gName 2)) (tSeq (tWhile (tFillC K) (sDPut (tVar 0) (tC (.str "left")) (tBM0 K "list" rPop (tVar 2)))) us)) (dFill b) := by
  intro F0 H0 F H σ ρ D DH x0 S ⟨e, hlt, hb⟩ L
  obtain ⟨s, c, rfl, e2⟩ := so_at S e
  obtain ⟨l, m, t, cs, h1, h2, h3⟩ := (show SrcOk s c H from x0.g.ok).ex
  refine ⟨_, e2, .inr ⟨s, _, sKey "cells", _, rfl, h1, rfl, src_cells, ?_⟩⟩
  have e0 : (σ.set 2 (some (V.ref c)))[0]? = some (some (.ref s)) := by rw [List.getElem?_set_ne (by decide)]; exact e2
  have ec : (σ.set 2 (some (V.ref c)))[2]? = some (some (.ref c)) := List.getElem?_set_self (by rw [S.len]; exact hlt)
  have S1 : Slots (Cf K (some (s, c))) H0 F H (σ.set 2 (some (V.ref c))) (ρ.set 2 .un) := S.set 2 (s := .un) trivial fun _ _ w => nomatch w
  refine ⟨fun k σ' H' => σ' = σ.set 2 (some (V.ref c)) ∧ ∃ (l m t : Int) (cs : List Int), k = cs.length ∧ Ext (Cf K (some (s, c))) F0 H0 F H' ∧ Slots (Cf K (some (s, c))) H0 F H' σ' (ρ.set 2 .un) ∧ H' s = some (.dK (srcKv c l m t)) ∧ H' c = some (.lst (cs.map V.int)) ∧ cs.length ≤ sizeLine,
    ⟨_, rfl, l, m, t, cs, rfl, x0, S1, h1, h2, h3⟩, ?_⟩
  rintro k σ' H' ⟨rfl, l, m, t, cs, rfl, x, S', a1, a2, a3⟩
  refine ⟨_, e0, .inr ⟨s, _, sKey "left", _, rfl, a1, rfl, src_left, l, 2, rfl, rfl, _, rfl, ?_⟩⟩
  have done : us DH (σ.set 2 (some (V.ref c))) H' := h F0 H0 F H' _ _ D DH x S' hb L
  by_cases hl : l < 2
  · rw [decide_eq_true hl]
    dsimp only
    rw [if_pos rfl]
    refine ⟨_, ec, .inl ⟨_, _, rfl, .inl ⟨_, SqL.of a2, rfl⟩, _, _, rfl, rfl, _, rfl, ?_⟩⟩
    by_cases hc : 0 < cs.length
    · rw [decide_eq_true (show (0 : Int) < ((cs.map V.int).length : Nat) by rw [List.length_map]; omega)]
      dsimp only
      rw [if_pos rfl]
      refine ⟨fun σ2 H2 => σ2 = σ.set 2 (some (V.ref c)) ∧ ∃ (l m t : Int) (cs' : List Int), cs'.length < cs.length ∧ Ext (Cf K (some (s, c))) F0 H0 F H2 ∧ Slots (Cf K (some (s, c))) H0 F H2 σ2 (ρ.set 2 .un) ∧ H2 s = some (.dK (srcKv c l m t)) ∧ H2 c = some (.lst (cs'.map V.int)) ∧ cs'.length ≤ sizeLine,
        fun σ2 H2 ⟨z, l, m, t, cs', b1, b2⟩ => ⟨cs'.length, b1, z, l, m, t, cs', rfl, b2⟩, ?_⟩
      have hlast : (cs.map V.int)[(cs.map V.int).length - 1]? = some (.int (cs[cs.length - 1]'(by omega))) := by
        rw [List.length_map, List.getElem?_map]
        simp [show cs.length - 1 < cs.length by omega]
      have y1 := Ext.cellsPut x.g (cs := cs.dropLast) (by rw [List.length_dropLast]; omega)
      have n1 : s ≠ c := (show SrcOk s c H' from x.g.ok).ne
      have a1' : upd H' c (.lst (cs.dropLast.map V.int)) s = some (.dK (srcKv c l m t)) := by rw [upd_ne n1]; exact a1
      have y2 := Ext.srcPut y1.g (l' := cs[cs.length - 1]'(by omega)) (m' := m) (t' := t) a1'
      refine ⟨_, ec, .inl ⟨rfl, _, SqL.of a2⟩, c, cs.map V.int, _, rfl, rfl, a2, hlast, _, e0, s, upd (upd H' c (.lst (cs.map V.int).dropLast)) s (.dK (putK (srcKv c l m t) (sKey "left") (.int (cs[cs.length - 1]'(by omega))))), rfl, ?_⟩
      rw [← List.map_dropLast, src_putL]
      refine ⟨.inl ⟨_, sKey "left", a1', rfl, by rw [srcKv_len, sizeLine_eq]; decide, by rw [src_putL]⟩, rfl, cs[cs.length - 1]'(by omega), m, t, cs.dropLast, by rw [List.length_dropLast]; omega, x.trans (y1.trans y2), S'.ext (y1.trans y2), ?_, ?_, by rw [List.length_dropLast]; omega⟩
      · exact upd_same
      · rw [upd_ne (Ne.symm n1)]; exact upd_same
    · rw [decide_eq_false (show ¬ (0 : Int) < ((cs.map V.int).length : Nat) by rw [List.length_map]; omega)]
      dsimp only
      rw [if_neg (by decide)]
      exact done
  · rw [decide_eq_false hl]
    dsimp only
    rw [if_neg (by decide)]
    exact done
/-! ### things popped one after another -/
/-- [xs.pop(pick(source, len(xs))) for lap in range(len(xs))] -/
abbrev tPops (K : PySem.W.Frag) (sp : Sp) : TE := tLc (iRng1 (tCons (tCB (rLenAll K) (tCons (tVar 2) tNil)) tNil)) (gName 3) tYes (tBM K "list" rPopAt (tVar 2) (tCons (tCall sp [] En (tCons (tVar 0) (tCons (tCB (rLenAll K) (tCons (tVar 2) tNil)) tNil))) tNil)) [3]
theorem pops_ok {H0 F H : Hp} {s c p : Addr} {ds : List PyData} {Qd : PyData → Prop} {Q : VK} {σ : St} (x0 : Ext (Cf K (some (s, c))) F H0 F H) (n0 : H0 p = none) (nf : F p = none) (nS : ¬ (Cf K (some (s, c))).S p)
    (e0 : σ[0]? = some (some (.ref s))) (e2 : σ[2]? = some (some (.ref p))) (l3 : 3 < σ.length) {vs : List V} (hp : H p = some (.lst vs)) (hl : ds.length < 1073741824) (hsz : ds.length ≤ sizeLine) (rl : RL K F vs ds) (hq : ∀ es : List PyData, es.Perm ds → Qd (.list es))
    (k : ∀ a F' H' d, Ext (Cf K (some (s, c))) F H0 F' H' → Own (Cf K (some (s, c))) H0 F' H' a d → Qd d → Q (.ref a) H') : tPops K (spA K (wpPick K)) σ H Q := by
  have hn := rl.length
  have hs16 := sizeLine_eq
  refine ⟨_, e2, .inl ⟨_, _, rfl, .inl ⟨vs, SqL.of hp, rfl⟩, (vs.length : Int), rfl, by omega, by omega, ?_⟩⟩
  intro D hD
  have hD0 : H0 D = none := x0.free hD
  have nD : ¬ (Cf K (some (s, c))).S D := x0.g.noS hD
  have hDp : D ≠ p := fun w => by rw [w, hp] at hD; cases hD
  have w3 : L2.wipe σ [3] = σ.set 3 none := rfl
  have e0' : (L2.wipe σ [3])[0]? = some (some (.ref s)) := by rw [w3, List.getElem?_set_ne (by decide)]; exact e0
  have e2' : (L2.wipe σ [3])[2]? = some (some (.ref p)) := by rw [w3, List.getElem?_set_ne (by decide)]; exact e2
  refine ⟨fun i m Hi => m = ds.length - i ∧ i ≤ ds.length ∧ ∃ (Fi : Hp) (acc xs : List V) (as bs : List PyData), Ext (Cf K (some (s, c))) F H0 Fi Hi ∧ Fi D = none ∧ Fi p = none ∧ Hi D = some (.lst acc) ∧ Hi p = some (.lst xs) ∧ RL K Fi acc as ∧ RL K Fi xs bs ∧ as.length = i ∧ bs.length = ds.length - i ∧ (as ++ bs).Perm ds,
    ⟨_, rfl, Nat.zero_le _, F, [], vs, [], ds, x0.updO hD0 (x0.g.fnone hD) nD, x0.g.fnone hD, nf, upd_same, by rw [upd_ne (Ne.symm hDp)]; exact hp, .nil, rl, rfl, by omega, .refl _⟩, ?_⟩
  rintro i m Hi ⟨rfl, hle, Fi, acc, xs, as, bs, xi, fD, fp, eD, ep, ra, rb, la, lb, pm⟩
  have lra := ra.length
  have lrb := rb.length
  by_cases hlt : i < ds.length
  · refine .inr ⟨by show i < _; simp; omega, fun H' => i + 1 ≤ ds.length ∧ ∃ (Fi : Hp) (acc xs : List V) (as bs : List PyData), Ext (Cf K (some (s, c))) F H0 Fi H' ∧ Fi D = none ∧ Fi p = none ∧ H' D = some (.lst acc) ∧ H' p = some (.lst xs) ∧ RL K Fi acc as ∧ RL K Fi xs bs ∧ as.length = i + 1 ∧ bs.length = ds.length - (i + 1) ∧ (as ++ bs).Perm ds,
      fun H' ⟨a, b⟩ => ⟨ds.length - (i + 1), by omega, rfl, a, b⟩, fun y H' hy => ?_⟩
    obtain ⟨rfl, rfl⟩ := hy
    have z0 : ((L2.wipe σ [3]).set 3 (some (V.int (0 + (i : Nat)))))[0]? = some (some (.ref s)) := by rw [List.getElem?_set_ne (by decide)]; exact e0'
    have z2 : ((L2.wipe σ [3]).set 3 (some (V.int (0 + (i : Nat)))))[2]? = some (some (.ref p)) := by rw [List.getElem?_set_ne (by decide)]; exact e2'
    refine ⟨?_, ?_⟩
    · show List.set (List.set (List.set σ 3 none) 3 (some (V.int (0 + (i : Nat))))) 3 none = List.set σ 3 none
      rw [List.set_set, List.set_set]
    · simp only [tYes, if_true]
      refine ⟨_, z2, .inl ⟨rfl, _, SqL.of ep⟩, ?_⟩
      refine ⟨_, z0, _, z2, .inl ⟨_, _, rfl, .inl ⟨xs, SqL.of ep, rfl⟩, ?_⟩⟩
      refine ⟨some (s, c), Fi, [.s, .d (.int (xs.length : Nat))], fun d => ∃ r : Int, d = .int r ∧ 0 ≤ r ∧ (r < (xs.length : Nat) ∨ r = 0), xi.g, .cons rfl (.cons (R.int _) .nil), ⟨_, rfl, by omega, fun r h0 h1 => ⟨r, rfl, h0, h1⟩⟩, fun v F3 H3 d x3 r3 ⟨r, ed, h0, h1⟩ => ?_⟩
      subst ed
      obtain rfl : v = .int r := by cases r3; rfl
      have nS' : ¬ (Cf K (some (s, c))).S p := nS
      have ep3 := x3.hh p _ ep nS'
      have eD3 := x3.hh D _ eD nD
      have hr : r.toNat < xs.length := by omega
      have hx : xs[r.toNat]? = some xs[r.toNat] := List.getElem?_eq_getElem hr
      obtain ⟨d, hd, rd⟩ := rb.get hx
      have fp3 : F3 p = none := by
        cases q : F3 p with
        | none => rfl
        | some w =>
          rcases x3.nw p w q with z | z
          · rw [fp] at z; cases z
          · rw [ep] at z; cases z
      have fD3 : F3 D = none := by
        cases q : F3 D with
        | none => rfl
        | some w =>
          rcases x3.nw D w q with z | z
          · rw [fD] at z; cases z
          · rw [eD] at z; cases z
      have hlt' : r.toNat < bs.length := by omega
      refine ⟨p, xs, r, r.toNat, _, rfl, rfl, ep3, by omega, by omega, ?_, hx, acc, by rw [upd_ne hDp]; exact eD3, by omega, hlt, F3, acc ++ [xs[r.toNat]], xs.eraseIdx r.toNat, as ++ [d], bs.eraseIdx r.toNat, ?_, fD3, fp3, upd_same, ?_, ?_, ?_, ?_, ?_, ?_⟩
      · unfold seqIndex?
        simp
        omega
      · exact ((xi.trans x3).updO n0 fp3 nS').updO hD0 fD3 nD
      · rw [upd_ne (Ne.symm hDp)]; exact upd_same
      · exact (ra.mono x3.ff).snoc (rd.mono x3.ff)
      · exact (rb.mono x3.ff).eraseIdx _
      · rw [List.length_append, la]; rfl
      · rw [List.length_eraseIdx_of_lt hlt']; omega
      · have hb2 : bs = bs.take r.toNat ++ d :: bs.drop (r.toNat + 1) := by
          have e1 : bs[r.toNat] = d := by rw [List.getElem?_eq_getElem hlt'] at hd; exact Option.some.inj hd
          rw [← e1]
          simp
        rw [List.eraseIdx_eq_take_drop_succ]
        refine List.Perm.trans ?_ pm
        conv => rhs; rw [hb2]
        rw [List.append_assoc]
        exact List.Perm.append_left as (by rw [List.singleton_append]; exact List.perm_middle.symm)
  · have e : i = ds.length := by omega
    subst e
    have hb : bs = [] := List.eq_nil_of_length_eq_zero (by omega)
    subst hb
    rw [List.append_nil] at pm
    exact .inl ⟨by show _ ≤ _; simp; omega, k D Fi Hi (.list as) xi ⟨fD, hD0, nD, acc, eD, by omega, ra⟩ (hq as pm)⟩
/-- xs = list(things); return [xs.pop(..) ..] -/
def dAnyO : DS := fun D ρ => ρ[0]? = some .so ∧ 3 < ρ.length ∧ ∃ d ds, ρ[1]? = some (.sh d) ∧ (d = .list ds ∨ d = .tuple ds) ∧ ds.length < 1073741824 ∧ ∀ es : List PyData, es.Perm ds → D.rt (.sh (.list es))
theorem sims_anyO : SimS (Cf K o) (tSeq (tAsg (tCB (rListOf K) (tCons (tVar 1) tNil)) (gName 2)) (tRet (tPops K (spA K (wpPick K))))) dAnyO := by
  intro F0 H0 F H σ ρ D DH x0 S ⟨e, hlt, d, ds, ed, hd, hl, ht⟩ L
  have hv : dB dListF (lCons (dVarP 1) lNil) ρ fun z => z = .list ds := by
    unfold dB lCons dVarP lNil
    rw [ed]
    rcases hd with rfl | rfl
    · exact rfl
    · exact rfl
  refine (simF_b sbF_list (sim_pcons (sim_varP (i := 1)) sim_pnil)) H0 F H σ ρ _ _ x0.g S hv fun p F1 H1 z x1 o1 q1 => ?_
  subst q1
  obtain ⟨s, c, rfl, e2⟩ := so_at S e
  obtain ⟨vs, hp, hsz, rl⟩ := o1.ct
  have y : Ext (Cf K (some (s, c))) F1 H F1 H1 := ⟨.refl _, x1.g, x1.hh, fun a o e => .inl e⟩
  refine pops_ok (H0 := H) (F := F1) (Qd := fun z => D.rt (.sh z)) y o1.n0 o1.nf o1.ns (by rw [List.getElem?_set_ne (by decide)]; exact e2) (List.getElem?_set_self (by rw [S.len]; omega)) (by rw [List.length_set, S.len]; exact hlt) hp hl hsz rl ht fun a F' H' d' x2 o2 q2 => ?_
  have x3 : Ext (Cf K (some (s, c))) F H F' H' := ⟨x1.ff.trans x2.ff, x2.g, x2.hh, fun b o e => by
    rcases x2.nw b o e with w | w
    · exact x1.nw b o w
    · exact .inr w⟩
  obtain ⟨F'', x4, r4⟩ := freeze x3 ⟨o2.nf, o2.n0, o2.ns, o2.ct⟩
  exact L.rt F'' H' _ (.sh d') (x0.trans x4) r4 q2
end
end VL
namespace VL
open PySem PySem.Spec PyProof.Rows L2
/-! ### the source made of the script -/
abbrev Gr (H H' : Hp) : Prop := ∀ b u, H b = some u → H' b = some u
theorem sqL_mono {K : PySem.W.Frag} {H H' : Hp} {a : Addr} {xs : List V} (h : Gr H H') (s : SqL K H a xs) : SqL K H' a xs := by
  rcases s with (s | ⟨o, s⟩) | s
  · exact .inl (.inl (h _ _ s))
  · exact .inl (.inr ⟨o, h _ _ s⟩)
  · exact .inr s
theorem Gr.upd {H H' : Hp} (h : Gr H H') {p : Addr} {o : HO} (hp : H p = none) : Gr H (upd H' p o) := fun b u e => by
  rw [upd_ne (fun w : b = p => by rw [w, hp] at e; cases e)]
  exact h b u e
theorem Gr.free {H H' : Hp} (h : Gr H H') {p : Addr} (hp : H' p = none) : H p = none := by
  cases e : H p with
  | none => rfl
  | some u => rw [h p u e] at hp; cases hp
/-- mixed = int(mixed * 69069 + cell * 31 + 5) % 2147483629 -/
abbrev tStir (K : PySem.W.Frag) : TS := tAsg (tOp (rI (fun _ j => 0 < j) fun i j => .int (i % j)) (tCB rIntAll (tCons (tOp (rAddAll K) (tOp (rAddAll K) (tOp (rMulAll K) (tVar 1) (tC (.int 69069))) (tOp (rMulAll K) (tVar 2) (tC (.int 31)))) (tC (.int 5))) tNil)) (tC (.int 2147483629))) (gName 1)
abbrev tAbsL (K : PySem.W.Frag) : TE := tLc (iAny K (tVar 0)) (gName 2) tYes (tCB rAbs (tCons (tVar 2) tNil)) [2]
abbrev tSrcD (te : TE) : TE := tDisp [(tC (.str "cells"), te), (tC (.str "left"), tC (.int 1)), (tC (.str "mixed"), tVar 1), (tC (.str "turn"), tC (.int 0))]
section
variable {K : PySem.W.Frag} {H : Hp} {a : Addr} {ns : List Int} {σ : St}
theorem stir_ok {D : Ends} {n : Int} (hs : SqL K H a (ns.map V.int)) (h0 : σ[0]? = some (some (.ref a))) (h1 : σ[1]? = some (some (.int n))) (l2 : 2 < σ.length)
    (k : ∀ σ' (m : Int), σ'.length = σ.length → σ'[0]? = some (some (.ref a)) → σ'[1]? = some (some (.int m)) → D.nx σ' H) : tFor (iAny K (tVar 0)) (gName 2) (tStir K) D σ H := by
  refine ⟨_, h0, .lst a, _, rfl, hs, ?_⟩
  refine for_it walk_list (fun _ σ' H' => H' = H ∧ σ'.length = σ.length ∧ σ'[0]? = some (some (.ref a)) ∧ ∃ m : Int, σ'[1]? = some (some (.int m))) ⟨rfl, rfl, h0, n, h1⟩ (fun i σ' H' _ h => h.1 ▸ hs) (fun i x σ' H' H'' hi ⟨e, l, g0, m, g1⟩ y => ?_) fun σ' H' ⟨e, l, g0, m, g1⟩ => ?_
  · obtain ⟨e2, hx⟩ := y
    subst e e2
    rw [List.getElem?_map] at hx
    cases hn : ns[i]? with
    | none => rw [hn] at hx; cases hx
    | some z =>
      rw [hn] at hx
      obtain rfl : V.int z = x := Option.some.inj hx
      have q1 : (σ'.set 2 (some (V.int z)))[1]? = some (some (.int m)) := by rw [List.getElem?_set_ne (by decide)]; exact g1
      have q2 : (σ'.set 2 (some (V.int z)))[2]? = some (some (.int z)) := List.getElem?_set_self (by omega)
      have big : (0 : Int) < 2147483629 := by decide
      refine ⟨_, q1, .inl (.inl ⟨_, _, rfl, rfl, .inr ⟨by decide, by decide⟩, ?_⟩)⟩
      refine ⟨_, q2, .inl (.inl ⟨_, _, rfl, rfl, .inr ⟨by decide, by decide⟩, ?_⟩)⟩
      refine .inl (.inl (.inl ⟨_, _, rfl, rfl, .inl (.inl (.inl ⟨_, _, rfl, rfl, ?_⟩))⟩))
      refine .inl (.inl ⟨_, rfl, _, _, rfl, rfl, big, ?_⟩)
      refine ⟨rfl, by rw [List.length_set, List.length_set]; exact l, by rw [List.getElem?_set_ne (by decide), List.getElem?_set_ne (by decide)]; exact g0, _, List.getElem?_set_self (by rw [List.length_set]; omega)⟩
  · subst e
    exact k σ' m l g0 g1
theorem abs_ok {Q : VK} (hl : ns.length ≤ 1000) (hs : SqL K H a (ns.map V.int)) (h0 : σ[0]? = some (some (.ref a))) (l2 : 2 < σ.length)
    (k : ∀ D H' (cs : List Int), H D = none → Gr H H' → cs.length ≤ ns.length → H' D = some (.lst (cs.map V.int)) → Q (.ref D) H') : tAbsL K σ H Q := by
  refine ⟨_, h0, .lst a, _, rfl, hs, ?_⟩
  intro D hD
  have e2 := sizeLine_eq
  refine lc_it walk_list (fun i H' => Gr H H' ∧ ∃ cs : List Int, cs.length ≤ i ∧ i ≤ ns.length ∧ H' D = some (.lst (cs.map V.int))) ⟨Gr.upd (fun b u e => e) hD, [], Nat.le_refl _, Nat.zero_le _, upd_same⟩ (fun i H' _ h => sqL_mono h.1 hs) (fun i x H' H'' hi ⟨g, cs, c1, c2, c3⟩ y => ?_) fun H' ⟨g, cs, c1, c2, c3⟩ => k D H' cs hD g (by simpa using c1) c3
  obtain ⟨e, hx⟩ := y
  subst e
  rw [List.getElem?_map] at hx
  cases hn : ns[i]? with
  | none => rw [hn] at hx; cases hx
  | some z =>
    rw [hn] at hx
    obtain rfl : V.int z = x := Option.some.inj hx
    have hi' : i < ns.length := by simpa using hi
    refine ⟨by show List.set (List.set (List.set σ 2 none) 2 _) 2 none = List.set σ 2 none; rw [List.set_set, List.set_set], ?_⟩
    simp only [tYes, if_true]
    refine ⟨_, List.getElem?_set_self (by rw [wipe_length]; exact l2), z, rfl, cs.map V.int, c3, by rw [List.length_map]; omega, Gr.upd g hD, cs ++ [if z < 0 then -z else z], by rw [List.length_append]; simp; omega, hi', ?_⟩
    rw [upd_same, List.map_append]
    rfl
theorem srcD_ok {te : TE} {Q : VK} {n : Int} (h1 : σ[1]? = some (some (.int n)))
    (ht : ∀ H', Gr H H' → ∀ R : VK, (∀ (c : Addr) (H2 : Hp) (cs : List Int), H' c = none → Gr H' H2 → cs.length ≤ sizeLine → H2 c = some (.lst (cs.map V.int)) → R (.ref c) H2) → te σ H' R)
    (k : ∀ (s c : Addr) (H' : Hp), H s = none → H c = none → Gr H H' → SrcOk s c H' → Q (.ref s) H') : tSrcD te σ H Q := by
  intro p hp
  have g0 : Gr H (upd H p (.dK [])) := Gr.upd (fun b u e => e) hp
  refine ht _ g0 _ fun c H2 cs hc g hl hH => ?_
  have ncp : c ≠ p := fun w => by rw [w, upd_same] at hc; cases hc
  refine ⟨_, h1, ?_⟩
  have e2 := g p _ upd_same
  refine ⟨e2, srcKv c 1 n 0, rfl, by rw [srcKv_len]; decide, ?_⟩
  have em : mergeK [] (srcKv c 1 n 0) = srcKv c 1 n 0 := by
    rw [merge_nodup _ [] (by simp [srcKv, sKey, ne_cl, ne_cm, ne_ct, ne_lm, ne_lt, ne_mt])]
    rfl
  rw [em]
  have gg : Gr H (upd H2 p (.dK (srcKv c 1 n 0))) := Gr.upd (fun b u e => g b u (g0 b u e)) hp
  exact k p c _ hp (g0.free hc) gg ⟨Ne.symm ncp, 1, n, 0, cs, upd_same, by rw [upd_ne ncp]; exact hH, hl⟩
/-- what the def that makes the source promises -/
def spOpen (K : PySem.W.Frag) : Sp := fun vs H Q _ => ∃ (a : Addr) (ns : List Int), vs = [.ref a] ∧ SqL K H a (ns.map V.int) ∧ ns.length ≤ 63 ∧ ∀ (s c : Addr) (H' : Hp), H s = none → H c = none → Gr H H' → SrcOk s c H' → Q (.ref s) H'
theorem open_ok (vs : List V) (H : Hp) (Q : VK) (E : XK) (h : spOpen K vs H Q E) :
    tSeq (tAsg (tC (.int 11)) (gName 1)) (tSeq (tFor (iAny K (tVar 0)) (gName 2) (tStir K)) (tSeq (tAsg (tAbsL K) (gName 3)) (tRet (tSrcD (tRevL K (tVar 3)))))) { nx := fun _ H' => Q .non H', rt := Q } (L2.start ["script", "stirred", "cell", "cells"] vs) H := by
  obtain ⟨a, ns, rfl, hs, hl, k⟩ := h
  refine stir_ok (σ := [some (.ref a), some (.int 11), none, none]) (n := 11) hs rfl rfl (by simp) fun σ' m l g0 g1 => ?_
  have l' : σ'.length = 4 := l
  show tAbsL K σ' H (fun v H1 => tRet (tSrcD (tRevL K (tVar 3))) { nx := fun _ H' => Q .non H', rt := Q } (σ'.set 3 (some v)) H1)
  refine abs_ok (ns := ns) (by omega) hs g0 (by omega) fun D H' cs hD g hc hH => ?_
  have e2 := sizeLine_eq
  refine srcD_ok (n := m) (by rw [List.getElem?_set_ne (by decide)]; exact g1) (fun H2 g2 R hR => ?_) fun s c H2 hs' hc' g2 ok => k s c H2 (g.free hs') (g.free hc') (fun b u e => g2 b u (g b u e)) ok
  refine ⟨_, List.getElem?_set_self (by omega), D, _, rfl, SqL.of (g2 _ _ hH), fun p hp => ?_⟩
  refine hR p _ cs.reverse hp (Gr.upd (fun b u e => e) hp) (by rw [List.length_reverse]; omega) ?_
  rw [upd_same, List.map_reverse]
end
end VL
namespace VL
open PySem PySem.Spec PyProof.Rows L2
section
variable {P : Program} {w : World} {K : PySem.W.Frag} {mg : Str → Option Value} {base : Heap} {k : Nat} {x : Str} {sp sp' : Sp}
theorem OkF.imp (G : OkF P w K mg base k x sp) (h : ∀ vs H Q E, sp' vs H Q E → sp vs H Q E) : OkF P w K mg base k x sp' := by
  obtain ⟨fd, ps, F, b, kp, g⟩ := G.ex
  exact ⟨fd, ps, F.imp h, b, kp, g⟩
theorem spA_imp {wp wp' : Wp} (h : ∀ as Qd, wp' as Qd → wp as Qd) (vs : List V) (H : Hp) (Q : VK) (E : XK) (q : spA K wp' vs H Q E) : spA K wp vs H Q E := by
  obtain ⟨o, F, as, Qd, g, r, a, k⟩ := q
  exact ⟨o, F, as, Qd, g, r, h as Qd a, k⟩
/-- the law's promise -/
def spLaw (K : PySem.W.Frag) : Sp := fun vs H Q _ => ∃ (a : Addr) (ns : List Int), vs = [.ref a] ∧ SqL K H a (ns.map V.int) ∧ ns.length ≤ 63 ∧ L2.Only H ∧ ∀ H', Q (.bl true) H'
theorem law_start {th : TS} {t : DS} {N : List Str} (hN : 2 ≤ N.length) (hs : ∀ s c, SimS (Cf K (some (s, c))) th t) (hb : t (ctlS fun d => d = .bool true) (.un :: .so :: List.replicate (N.length - 2) .un)) (vs : List V) (H : Hp) (Q : VK) (E : XK) (h : spLaw K vs H Q E) :
    tSeq (tAsg (tCall (spOpen K) [] En (tCons (tVar 0) tNil)) (gName 1)) th { nx := fun _ H' => Q .non H', rt := Q } (L2.start N vs) H := by
  obtain ⟨a, ns, rfl, hq, hl, hO, hQ⟩ := h
  have e0 : (L2.start N [.ref a])[0]? = some (some (V.ref a)) := rfl
  have ln : (L2.start N [.ref a]).length = N.length := by unfold L2.start; simp; omega
  refine ⟨_, e0, a, ns, rfl, hq, hl, fun s c H' hs' hc' g ok => ?_⟩
  have el : L2.start N [.ref a] = some (V.ref a) :: none :: List.replicate (N.length - 2) none := by
    unfold L2.start
    have : N.length - [V.ref a].length = (N.length - 2) + 1 := by simp; omega
    rw [this, List.replicate_succ]
    rfl
  have gd : Good (Cf K (some (s, c))) (fun _ => none) H' := ⟨fun b u e => (nomatch e), ok, fun _ _ => rfl⟩
  have S : Slots (Cf K (some (s, c))) H' (fun _ => none) H' ((L2.start N [.ref a]).set 1 (some (V.ref s))) (.un :: .so :: List.replicate (N.length - 2) .un) := by
    rw [el]
    refine ⟨by simp, fun i t u e1 e2 => ?_, fun i j b d e _ e1 _ _ _ => ?_⟩
    · match i with
      | 0 => cases e1; trivial
      | 1 =>
        cases e1
        cases e2
        exact ⟨fun w => (nomatch (show some (V.ref s) = none from w)), rfl⟩
      | i + 2 =>
        rw [List.getElem?_cons_succ, List.getElem?_cons_succ, List.getElem?_replicate] at e1
        split at e1
        · cases e1; trivial
        · cases e1
    · match i with
      | 0 => cases e1
      | 1 => cases e1
      | i + 2 =>
        rw [List.getElem?_cons_succ, List.getElem?_cons_succ, List.getElem?_replicate] at e1
        split at e1
        · cases e1
        · cases e1
  refine hs s c _ _ _ _ _ _ _ _ (.refl gd) S hb ⟨fun F2 H2 σ2 ρ2 _ _ q => ?_, fun F2 H2 v rv _ r q => ?_, fun _ _ _ _ _ _ q => q.elim, fun _ _ _ _ _ _ q => q.elim⟩
  · cases (show PyData.none = PyData.bool true from q)
  · cases rv with
    | sh d =>
      have e : d = .bool true := q
      subst e
      cases r
      exact hQ H2
    | ow d =>
      have e : d = .bool true := q
      subst e
      obtain ⟨p, _, o⟩ := r
      exact o.ct.elim
end
end VL
namespace VL
open PySem PySem.Spec PyProof.Rows L2
theorem spOpen_len {K : PySem.W.Frag} (vs : List V) (H : Hp) (Q : VK) (E : XK) (h : spOpen K vs H Q E) : vs.length = 1 := by
  obtain ⟨a, ns, rfl, _⟩ := h
  rfl
theorem spLaw_len {K : PySem.W.Frag} (vs : List V) (H : Hp) (Q : VK) (E : XK) (h : spLaw K vs H Q E) : vs.length = 1 := by
  obtain ⟨a, ns, rfl, _⟩ := h
  rfl
theorem anyO_len {K : PySem.W.Frag} (as : List AV) (Qd : PyData → Prop) (h : wpAnyOrder K as Qd) : as.length = 2 := by
  obtain ⟨d, ds, rfl, _⟩ := h
  rfl
theorem anyO_wp {K : PySem.W.Frag} (as : List AV) (Qd : PyData → Prop) (h : wpAnyOrder K as Qd) : dAnyO (ctlS Qd) (env0 4 as) := by
  obtain ⟨d, ds, rfl, h1, h2, h3⟩ := h
  exact ⟨rfl, by show 3 < 4; decide, d, ds, rfl, h1, h2, h3⟩
end VL

set_option Elab.async false
set_option linter.all false
set_option maxRecDepth 100000
set_option maxHeartbeats 4000000
/-! VLK: the rules with the module's part named (within a comprehension's block it may not hang on the block). -/
namespace VL
open PySem PySem.Spec L2
section
variable {X : Cx} (K : PySem.W.Frag)
theorem opK (r : PySem.W.Frag → R2) {f : Value → Value → Sem Value} (h : OpR X f (r X.K)) (hK : X.K = K) : OpR X f (r K) := by subst hK; exact h
theorem ixK (r : PySem.W.Frag → R2) (h : IxR X (r X.K)) (hK : X.K = K) : IxR X (r K) := by subst hK; exact h
theorem slK (r : PySem.W.Frag → V → Option Int → Option Int → Hp → VK → Prop) (h : SlR X (r X.K)) (hK : X.K = K) : SlR X (r K) := by subst hK; exact h
theorem callK (r : PySem.W.Frag → List V → Hp → VK → Prop) {f : Value} (h : CallR X f (r X.K)) (hK : X.K = K) : CallR X f (r K) := by subst hK; exact h
theorem mtK (r : PySem.W.Frag → V → List V → Hp → VK → Prop) {id : String} (h : MtR X id (r X.K)) (hK : X.K = K) : MtR X id (r K) := by subst hK; exact h
variable {a b e o tg : Expr} {es rest : List Expr} {ta tb te to : TE} {t : TA} {pos p apos cpos tpos : Pos}
theorem pe_andK (ha : PE X a ta) (hb : PE X (.BoolOp .And (b :: rest) pos) tb) (hK : X.K = K) : PE X (.BoolOp .And (a :: b :: rest) pos) (tAndT K ta tb) := by subst hK; exact pe_andT ha hb
theorem pe_orK (ha : PE X a ta) (hb : PE X (.BoolOp .Or (b :: rest) pos) tb) (hK : X.K = K) : PE X (.BoolOp .Or (a :: b :: rest) pos) (tOrT K ta tb) := by subst hK; exact pe_orT ha hb
theorem pe_notK (ha : PE X a ta) (hK : X.K = K) : PE X (.UnaryOp .Not a pos) (tNotT K ta) := by subst hK; exact pe_notT ha
def tTru (K : PySem.W.Frag) (ta : TE) : TT := fun σ H Q => ta σ H fun x H' => ∃ k, TruV K x H' k ∧ Q k H'
theorem pt_truK (ha : PE X a ta) (he : ∀ whole, isTrue a X.env whole = (do let v ← whole; standAt a.pos; holding [v] (truthy v))) (hK : X.K = K) : PT X a (tTru K ta) := by subst hK; exact pt_truth ha he
theorem sim_truK {C : Cfg} {th : TE} {t : DE} (h : SimP C th t) : SimT C (tTru C.K th) (dTru t) := sim_tru h
theorem pi_anyK (he : PE X e te) (hK : X.K = K) : PI X tg e (iAny K te) := by subst hK; exact pi_any he
theorem pi_enumK {elts : List Expr} {kk : Nat} (hg : Gl X "enumerate") (hm : X.mg "enumerate" = none) (ha : PA X [e] t) (hK : X.K = K) (hs : starEach [e] X.env = [(false, eval e X.env)] := by rfl) :
    PI X (.Tuple elts kk tpos) (.Call (.Name "enumerate" p) [e] [] pos) (iEnumA K t) := by subst hK; exact pi_enumA hg hm ha hs
theorem pi_zipK {e2 : Expr} {elts : List Expr} {kk : Nat} (hg : Gl X "zip") (hm : X.mg "zip" = none) (ha : PA X [e, e2] t) (hK : X.K = K) (hs : starEach [e, e2] X.env = (false, eval e X.env) :: starEach [e2] X.env := by rfl)
    (hpl : (backTo pos (starEach [e2] X.env)).any (·.1) = false := by rfl) : PI X (.Tuple elts kk tpos) (.Call (.Name "zip" p) [e, e2] [] pos) (iZipA K t) := by subst hK; exact pi_zipA hg hm ha hs hpl
theorem pa_starK (he : PE X e te) (hr : PA X es t) (hK : X.K = K) (hs : starEach (.Starred e p :: es) X.env = (true, eval e X.env) :: starEach es X.env := by rfl) : PA X (.Starred e p :: es) (StX.tStar K te t) := by subst hK; exact StX.pa_star he hr hs
theorem pe_revK {k : Nat} {p1 p2 p3 : Pos} (he : PE X e te) (hK : X.K = K) : PE X (.Subscript e (.Slice none none (some (.UnaryOp .USub (.Constant (.int 1) k p1) p2)) p3) pos) (tRevL K te) := by subst hK; exact pe_revL he
theorem pg_tupK {k : Nat} {u : TGs} {n : Nat} (hc : X.calm = true) (h : PGs X es u) (hK : X.K = K) (hn : (assignEach es X.env).length = n := by rfl) (hst : (assignEach es X.env).findIdx? (·.1) = none := by rfl) : PG X (.Tuple es k pos) (gTup K n u) := by
  subst hK
  exact pg_tup hc h hn hst
theorem peBM {T : String} {r : V → List V → Hp → VK → Prop} (h : PE X e (tBM X.K T r to t)) (hK : X.K = K) : PE X e (tBM K T r to t) := by subst hK; exact h
theorem peBX {T : String} {r : V → List V → Hp → VK → Prop} (h : PE X e (tBX X.K T r to t)) (hK : X.K = K) : PE X e (tBX K T r to t) := by subst hK; exact h
theorem peBX0 {T : String} {r : V → List V → Hp → VK → Prop} (h : PE X e (tBX0 X.K T r to)) (hK : X.K = K) : PE X e (tBX0 K T r to) := by subst hK; exact h
theorem peBM0 {T : String} {r : V → List V → Hp → VK → Prop} (h : PE X e (tBM0 X.K T r to)) (hK : X.K = K) : PE X e (tBM0 K T r to) := by subst hK; exact h
end
end VL

set_option Elab.async false
set_option linter.all false
set_option maxRecDepth 100000
set_option maxHeartbeats 4000000
/-! VLZip: a zip that a name holds, walked by the next statement. -/
namespace VL
open PySem PySem.Spec PyProof.Rows L2
/-- the five cells as they are tracked -/
def zpH (r1 r2 : Src) (z TI TO i1 i2 : Addr) (H : Hp) : Hp := fun b =>
  if b = z then some (.ext fun h => IsZip h z TI TO .none) else if b = TI then some (.ext fun h => IsTupOf2 h TI (.ref i1) (.ref i2)) else if b = TO then some (.ext fun h => ∃ x y, IsTupOf2 h TO x y) else
  if b = i1 then some (.ext fun h => r1.at_ i1 0 h) else if b = i2 then some (.ext fun h => r2.at_ i2 0 h) else H b
structure ZpNew (n : Nat) (z TI TO i1 i2 : Addr) (H : Hp) : Prop where
  five : Five z TI TO i1 i2
  hz : H z = none ∧ n ≤ z
  hI : H TI = none ∧ n ≤ TI
  hO : H TO = none ∧ n ≤ TO
  h1 : H i1 = none ∧ n ≤ i1
  h2 : H i2 = none ∧ n ≤ i2
section
variable {X : Cx} {pins : List (Addr × Obj)} {σ : St} {H : Hp} {s : Shared} {r1 r2 : Src} {z TI TO i1 i2 : Addr} {n : Nat}
theorem zp_z : zpH r1 r2 z TI TO i1 i2 H z = some (.ext fun h => IsZip h z TI TO .none) := if_pos rfl
theorem zp_I (f : Five z TI TO i1 i2) : zpH r1 r2 z TI TO i1 i2 H TI = some (.ext fun h => IsTupOf2 h TI (.ref i1) (.ref i2)) := by
  unfold zpH
  rw [if_neg f.a, if_pos rfl]
theorem zp_O (f : Five z TI TO i1 i2) : zpH r1 r2 z TI TO i1 i2 H TO = some (.ext fun h => ∃ x y, IsTupOf2 h TO x y) := by
  unfold zpH
  rw [if_neg f.b, if_neg (Ne.symm f.c), if_pos rfl]
theorem zp_1 (f : Five z TI TO i1 i2) : zpH r1 r2 z TI TO i1 i2 H i1 = some (.ext fun h => r1.at_ i1 0 h) := by
  unfold zpH
  rw [if_neg (Ne.symm f.f), if_neg (Ne.symm f.d), if_neg (Ne.symm f.h), if_pos rfl]
theorem zp_2 (f : Five z TI TO i1 i2) : zpH r1 r2 z TI TO i1 i2 H i2 = some (.ext fun h => r2.at_ i2 0 h) := by
  unfold zpH
  rw [if_neg (Ne.symm f.g), if_neg (Ne.symm f.e), if_neg (Ne.symm f.i), if_neg (Ne.symm f.j), if_pos rfl]
theorem zp_old {b : Addr} (h : b ≠ z ∧ b ≠ TI ∧ b ≠ TO ∧ b ≠ i1 ∧ b ≠ i2) : zpH r1 r2 z TI TO i1 i2 H b = H b := by
  unfold zpH
  rw [if_neg h.1, if_neg h.2.1, if_neg h.2.2.1, if_neg h.2.2.2.1, if_neg h.2.2.2.2]
theorem zp_cases (b : Addr) : b = z ∨ b = TI ∨ b = TO ∨ b = i1 ∨ b = i2 ∨ (b ≠ z ∧ b ≠ TI ∧ b ≠ TO ∧ b ≠ i1 ∧ b ≠ i2) := by
  by_cases h1 : b = z
  · exact .inl h1
  by_cases h2 : b = TI
  · exact .inr (.inl h2)
  by_cases h3 : b = TO
  · exact .inr (.inr (.inl h3))
  by_cases h4 : b = i1
  · exact .inr (.inr (.inr (.inl h4)))
  by_cases h5 : b = i2
  · exact .inr (.inr (.inr (.inr (.inl h5))))
  · exact .inr (.inr (.inr (.inr (.inr ⟨h1, h2, h3, h4, h5⟩))))
/-- a thing told by what is true of its one object -/
def extOk (φ : Heap → Prop) (h : Heap) (a : Addr) : Prop := φ h ∧ (∃ o, h.get? a = some o) ∧ ∀ h1 h2 : Heap, φ h1 → (∀ o, h1.get? a = some o → h2.get? a = some o) → φ h2
/-- new things of that kind, several at once -/
theorem inv_lays {H' : Hp} {h' : Heap} {t' : Nat} (I : Inv X pins σ H s) (k : ∀ b u, s.heap.get? b = some u → h'.get? b = some u) (hH : ∀ b, H' b = H b ∨ (s.heap.objs.size ≤ b ∧ ∃ φ, H' b = some (.ext φ) ∧ extOk φ h' b)) :
    Inv X pins σ H' { s with heap := h', toks := t' } := by
  have old : ∀ {b o}, s.heap.get? b = some o → H' b = H b := fun {b o} e => by
    rcases hH b with q | ⟨q, _⟩
    · exact q
    · exact absurd (Nat.lt_of_lt_of_le (Heap.lt_size e) q) (Nat.lt_irrefl _)
  have some' : ∀ b u, H b = some u → H' b = some u := fun b u e => by
    rcases hH b with q | ⟨q, _⟩
    · rw [q, e]
    · rw [I.hok.fresh q] at e; cases e
  refine I.un ⟨fun b o e _ _ _ => k b o e, fun b o e _ _ _ => ⟨o.slots, k b o e⟩, fun b o e nn _ => by rw [old e]; exact nn, fun b o e _ => ⟨o, k b o e⟩, fun b xs e => some' b _ e, fun b o u e => some' b _ e, fun b ps e => ⟨#[], by rw [some' b _ e]; simp⟩⟩ fun b u e => ?_
  rcases hH b with q | ⟨q, φ, e2, e3⟩
  · rw [q] at e
    exact (I.hok b u e).stay (fun c v hc q => k c v q) (fun c z => some' c _ z) fun c xs z => some' c _ z
  · rw [e2] at e
    cases e
    exact e3
/-- they are forgotten -/
theorem inv_drops {H' : Hp} (I : Inv X pins σ H s) (hH : ∀ b, H' b = H b ∨ (H' b = none ∧ ∃ φ, H b = some (.ext φ))) : Inv X pins σ H' s := by
  have keep : ∀ b u, H b = some u → (∀ φ, u ≠ .ext φ) → H' b = some u := fun b u e nn => by
    rcases hH b with q | ⟨_, φ, q⟩
    · rw [q, e]
    · rw [q] at e; exact absurd (Option.some.inj e).symm (nn φ)
  refine I.un (t' := s.toks) ⟨fun b o e _ _ _ => e, fun b o e _ _ _ => ⟨o.slots, e⟩, fun b o e nn _ => ?_, fun b o e _ => ⟨o, e⟩, fun b xs e => keep b _ e fun _ w => (nomatch w), fun b o u e => keep b _ e fun _ w => (nomatch w), fun b ps e => ⟨#[], by rw [keep b _ e fun _ w => (nomatch w)]; simp⟩⟩ fun b u e => ?_
  · rcases hH b with q | ⟨q, _⟩
    · rw [q]; exact nn
    · exact q
  · rcases hH b with q | ⟨q, _⟩
    · rw [q] at e
      exact (I.hok b u e).stay (fun c v _ q => q) (fun c z => keep c _ z fun _ w => (nomatch w)) fun c xs z => keep c _ z fun _ w => (nomatch w)
    · rw [q] at e; cases e
end
def tZipV (K : PySem.W.Frag) (n : Nat) (t : TA) : TE := fun σ H Q => t σ H fun vs H1 => ∃ (r1 r2 : Src) (xs ys : List V), vs = [r1.V, r2.V] ∧ r1.is K H1 xs ∧ r2.is K H1 ys ∧ ∀ z TI TO i1 i2, ZpNew n z TI TO i1 i2 H1 → Q (.ref z) (zpH r1 r2 z TI TO i1 i2 H1)
theorem src_ext {r : Src} {it : Addr} {h : Heap} (st : r.at_ it 0 h) : extOk (fun h => r.at_ it 0 h) h it := ⟨st, (let ⟨o, q, _⟩ := at_obj st; ⟨o, q⟩), fun h1 h2 q k => Src.keep q k⟩
theorem pe_zipV {X : Cx} {e e2 : Expr} {t : TA} {p pos : Pos} (K : PySem.W.Frag) (hg : Gl X "zip") (hm : X.mg "zip" = none) (ha : PA X [e, e2] t) (hK : X.K = K)
    (hs : starEach [e, e2] X.env = (false, eval e X.env) :: starEach [e2] X.env := by rfl) (hpl : (backTo pos (starEach [e2] X.env)).any (·.1) = false := by rfl) :
    PE X (.Call (.Name "zip" p) [e, e2] [] pos) (tZipV K X.s_0.heap.objs.size t) := by
  subst hK
  refine ⟨fun pins s σ H Q I h => ?_⟩
  refine Call_ (ld_blt I hg hm PyProof.Rows.boot_zip (PyProof.Rows.callWith_type1 (thn (ha.run pos pins s σ H _ I h) fun us s1 ⟨vs, H1, I1, rr, q1⟩ => ?_) hs hpl))
  obtain ⟨r1, r2, xs, ys, ex, hqx, hqy, q⟩ := q1
  subst ex
  cases rr with
  | cons a1 rr =>
    cases rr with
    | cons a2 rr =>
      cases rr
      obtain ⟨o1, G1, B1, hG1, hst1, hd1⟩ := src_begins I1 (r := r1) ⟨xs, hqx⟩ a1
      obtain ⟨o2, G2, B2, hG2, hst2, hd2⟩ := src_begins I1 (r := r2) ⟨ys, hqy⟩ a2
      refine zip_begins2 B1 B2 hG1 hG2 fun h' hz hTI hTO h1 h2 hsz hk => ?_
      have sz := I1.sz
      have fr : ∀ j, H1 (s1.heap.objs.size + j) = none := fun j => I1.hok.fresh (Nat.le_add_right _ _)
      have fr0 : H1 s1.heap.objs.size = none := I1.hok.fresh (Nat.le_refl _)
      have new : ZpNew X.s_0.heap.objs.size (s1.heap.objs.size + 4) (s1.heap.objs.size + 2) (s1.heap.objs.size + 3) s1.heap.objs.size (s1.heap.objs.size + 1) H1 := by
        refine ⟨⟨?_, ?_, ?_, ?_, ?_, ?_, ?_, ?_, ?_, ?_⟩, ⟨fr _, ?_⟩, ⟨fr _, ?_⟩, ⟨fr _, ?_⟩, ⟨fr0, ?_⟩, ⟨fr _, ?_⟩⟩
        iterate 10 (show (_ : Nat) ≠ _; omega)
        iterate 5 (show _ ≤ (_ : Nat); omega)
      refine ⟨.ref (s1.heap.objs.size + 4), _, inv_lays (t' := s1.toks) I1 hk (H' := zpH r1 r2 (s1.heap.objs.size + 4) (s1.heap.objs.size + 2) (s1.heap.objs.size + 3) s1.heap.objs.size (s1.heap.objs.size + 1) H1) (fun b => ?_), rfl, q _ _ _ _ _ new⟩
      rcases zp_cases (z := s1.heap.objs.size + 4) (TI := s1.heap.objs.size + 2) (TO := s1.heap.objs.size + 3) (i1 := s1.heap.objs.size) (i2 := s1.heap.objs.size + 1) b with w | w | w | w | w | w
      · subst w; exact .inr ⟨Nat.le_add_right _ _, _, zp_z, hz, ⟨_, hz⟩, fun h1 h2 q k => k _ q⟩
      · subst w; exact .inr ⟨Nat.le_add_right _ _, _, zp_I new.five, hTI, ⟨_, hTI⟩, fun h1 h2 q k => k _ q⟩
      · subst w; exact .inr ⟨Nat.le_add_right _ _, _, zp_O new.five, ⟨_, _, hTO⟩, ⟨_, hTO⟩, fun h1 h2 ⟨x, y, q⟩ k => ⟨x, y, k _ q⟩⟩
      · subst w; exact .inr ⟨Nat.le_refl _, _, zp_1 new.five, src_ext (hst1 _ _ h1)⟩
      · subst w; exact .inr ⟨Nat.le_add_right _ _, _, zp_2 new.five, src_ext (hst2 _ _ h2)⟩
      · exact .inl (zp_old w)
def iZipV (K : PySem.W.Frag) (n i : Nat) : TI := fun σ H R => ∃ (r1 r2 : Src) (xs ys : List V) (z TI TO i1 i2 : Addr) (H1 : Hp), σ[i]? = some (some (.ref z)) ∧ H = zpH r1 r2 z TI TO i1 i2 H1 ∧ ZpNew n z TI TO i1 i2 H1 ∧ r1.is K H1 xs ∧ r2.is K H1 ys ∧ R (ItZ K r1 r2) H1
theorem pi_zipV {X : Cx} {x : Str} {p tpos : Pos} {elts : List Expr} {kk i : Nat} (K : PySem.W.Frag) (hN : X.N[i]? = some x) (hv : Vis X.env.scope x) (hK : X.K = K) (hd : (x == ("__debug__" : Str)) = false := by decide) (hcd : (x == ("__classdict__" : Str)) = false := by decide) :
    PI X (.Tuple elts kk tpos) (.Name x p) (iZipV K X.s_0.heap.objs.size i) := by
  subst hK
  refine ⟨fun pins s σ H R I h => ?_⟩
  obtain ⟨r1, r2, xs, ys, z, TI, TO, i1, i2, H1, hs, rfl, new, hx, hy, q⟩ := h
  refine thn ((pe_var (pos := p) hN hv hd hcd).run pins s σ _ (fun v H2 => v = .ref z ∧ H2 = zpH r1 r2 z TI TO i1 i2 H1) I ⟨.ref z, hs, rfl, rfl⟩) fun u s1 ⟨v, H2, I2, rv, e1, e2⟩ => ?_
  subst e1 e2
  cases rv
  have ez : IsZip s1.heap z TI TO .none := (I2.hok _ _ zp_z).1
  have eI : IsTupOf2 s1.heap TI (.ref i1) (.ref i2) := (I2.hok _ _ (zp_I new.five)).1
  have eO : ∃ x y, IsTupOf2 s1.heap TO x y := (I2.hok _ _ (zp_O new.five)).1
  have e1 : r1.at_ i1 0 s1.heap := (I2.hok _ _ (zp_1 new.five)).1
  have e2 : r2.at_ i2 0 s1.heap := (I2.hok _ _ (zp_2 new.five)).1
  refine wpAny_pyIter_zip ez ?_
  have fpo : ∀ {a : Addr} {φ : Heap → Prop}, zpH r1 r2 z TI TO i1 i2 H1 a = some (.ext φ) → X.s_0.heap.objs.size ≤ a → H1 a = none → FpOk X pins H1 a := fun {a φ} e hn h1 => ⟨h1, (ItX.inv_fp I2 e hn).2⟩
  refine ⟨z, [z, TI, TO, i1, i2], _, _, H1, rfl, inv_drops I2 (fun b => ?_), turn_zipS new.five, ⟨ez, eI, eO, e1, e2⟩, fun c hc => ?_, q⟩
  · rcases zp_cases (z := z) (TI := TI) (TO := TO) (i1 := i1) (i2 := i2) b with w | w | w | w | w | w
    · subst w; exact .inr ⟨new.hz.1, _, zp_z⟩
    · subst w; exact .inr ⟨new.hI.1, _, zp_I new.five⟩
    · subst w; exact .inr ⟨new.hO.1, _, zp_O new.five⟩
    · subst w; exact .inr ⟨new.h1.1, _, zp_1 new.five⟩
    · subst w; exact .inr ⟨new.h2.1, _, zp_2 new.five⟩
    · exact .inl (zp_old w).symm
  · have e' : c = z ∨ c = TI ∨ c = TO ∨ c = i1 ∨ c = i2 := by simpa using hc
    rcases e' with w | w | w | w | w
    · subst w; exact fpo zp_z new.hz.2 new.hz.1
    · subst w; exact fpo (zp_I new.five) new.hI.2 new.hI.1
    · subst w; exact fpo (zp_O new.five) new.hO.2 new.hO.1
    · subst w; exact fpo (zp_1 new.five) new.h1.2 new.h1.1
    · subst w; exact fpo (zp_2 new.five) new.h2.2 new.h2.1
/-- pairs = zip(x, y); return f([.. for .. in pairs if ..]) -/
@[simp] def dZipRet (i : Nat) (l : DL) (f : DB) (gd : DG) (u : DT) (t : DE) (vs : List Nat) : DS := fun D ρ => i < ρ.length ∧ dZip l ρ fun ds => lcD gd u t (wipeE (ρ.set i .un) vs) ds [] fun y => f [y] fun z => D.rt (.sh z)
section
variable {C : Cfg}
theorem sims_zipRet {n i : Nat} {ta : TA} {l : DL} {r : List V → Hp → VK → Prop} {f : DB} {g : TG} {gd : DG} {tt : TT} {u : DT} {te : TE} {t : DE} {ks vs : List Nat} (hl : SimLP C ta l) (hf : SimB C r f) (hg : SimG C ks g gd) (hu : SimT C tt u) (he : SimE C te t) (hk : ∀ k ∈ ks, k ∈ vs) :
    SimS C (tSeq (tAsg (tZipV C.K n ta) (gName i)) (tRet (tCB r (tCons (tLc (iZipV C.K n i) g tt te vs) tNil)))) (dZipRet i l f gd u t vs) := by
  intro F0 H0 F H σ ρ D DH x S ⟨hi, ht⟩ L
  rw [← S.len] at hi
  refine hl H0 F H σ ρ _ _ x.g S ht fun as F1 H1 ds x1 r1 q1 => ?_
  split at q1
  · rename_i d d'
    split at q1
    · rename_i ds es e e'
      cases r1 with
      | cons r1 rr =>
        cases rr with
        | cons r2 rr =>
          cases rr
          obtain ⟨s, xs, e1, e2, e3, e4⟩ := src_rp x1.g r1 e
          obtain ⟨s', ys, f1, f2, f3, f4⟩ := src_rp x1.g r2 e'
          subst e1 f1
          refine ⟨s, s', xs, ys, rfl, e2 _ _ (.refl x1.g), f2 _ _ (.refl x1.g), fun z TI TO i1 i2 new => ?_⟩
          have S1 := S.ext x1
          have S2 : Slots C H0 F1 H1 (σ.set i (some (.ref z))) (ρ.set i .un) := S1.set i (s := .un) trivial fun _ _ w => nomatch w
          refine ⟨s, s', xs, ys, z, TI, TO, i1, i2, H1, by rw [List.getElem?_set_self hi], rfl, new, e2 _ _ (.refl x1.g), f2 _ _ (.refl x1.g), ?_⟩
          refine lc_body (Q := fun v H2 => tNil (σ.set i (some (.ref z))) H2 fun xs H3 => r (v :: xs) H3 DH.rt) hg hu he hk S2 (.refl x1.g) (itZ_ok e3 f3) (fun F2 H2 y => ⟨e2 F2 H2 y, f2 F2 H2 y⟩) (Nat.le_trans zip_len e4) q1 fun a F2 H2 y x2 o2 q2 => ?_
          refine hf F2 H2 [.ref a] [y] _ _ x2.g (.cons (.inr ⟨a, rfl, o2.ns, o2.ct⟩) .nil) q2 fun v F3 H3 w x3 r3 q3 => ?_
          exact L.rt F3 H3 v (.sh w) (x.trans (x1.trans (x2.trans x3))) r3 q3
    · exact q1.elim
  · exact q1.elim
end
end VL

set_option Elab.async false
set_option linter.all false
set_option maxRecDepth 100000
set_option maxHeartbeats 4000000
/-! VLX: what is never reached, isinstance, dict comprehensions, comprehensions of two clauses, a dict walked. -/
namespace VL
open PySem PySem.Spec PyProof.Rows L2
@[simp] def dNever : DS := fun _ _ => False
theorem sims_never {C : Cfg} {th : TS} : SimS C th dNever := fun F0 H0 F H σ ρ D DH x S ht L => ht.elim

/-! ### isinstance -/
def tyN : PyData → String
  | .none => "NoneType"
  | .bool _ => "bool"
  | .int _ => "int"
  | .str _ => "str"
  | .list _ => "list"
  | .tuple _ => "tuple"
  | .dict _ => "dict"
theorem tyx_of {K : PySem.W.Frag} {H : Hp} {v : V} {d : PyData} (r : R K H v d) : TyX K H v (.type (tyN d)) := by
  cases r with
  | non => exact .base .non
  | bl b => exact .base (.bl b)
  | int i => exact .base (.int i)
  | str x l => exact .base (.str x)
  | lst e l q => exact .base (.lst e)
  | tup e l q =>
    rcases e with ⟨o, e, _⟩ | e
    · exact .fTuple e
    · obtain ⟨o, _, _, e1, e2, _⟩ := e
      exact .kTuple e1 e2.1
  | dct e l q => exact .base (.dK e)
def rIsa (T : String) (K : PySem.W.Frag) : List V → Hp → VK → Prop := fun xs H Q => ∃ (v : V) (t : String) (b : Bool), xs = [v, .ty T] ∧ TyX K H v (.type t) ∧ kitB t T = some b ∧ Q (.bl b) H
theorem call_isa {X : Cx} {T : String} : CallR X (.builtin "isinstance") (rIsa T X.K) := by
  intro pins s σ H xs us Q I r h
  obtain ⟨v, t, b, rfl, ty, k, q⟩ := h
  exact call_isi pins s σ H _ us Q I r ⟨v, .ty T, _, _, b, rfl, .ty T, ty, kit_ty k, q⟩
@[simp] def isaTuple : PyData → Bool
  | .tuple _ => true
  | _ => false
@[simp] def isaList : PyData → Bool
  | .list _ => true
  | _ => false
@[simp] def isaDict : PyData → Bool
  | .dict _ => true
  | _ => false
@[simp] def isaStr : PyData → Bool
  | .str _ => true
  | _ => false
@[simp] def isaInt : PyData → Bool
  | .int _ => true
  | .bool _ => true
  | _ => false
@[simp] def isaBool : PyData → Bool
  | .bool _ => true
  | _ => false
theorem isa_tuple (d : PyData) : kitB (tyN d) "tuple" = some (isaTuple d) := by cases d <;> (simp only [tyN, isaTuple]; decide +kernel)
theorem isa_list (d : PyData) : kitB (tyN d) "list" = some (isaList d) := by cases d <;> (simp only [tyN, isaList]; decide +kernel)
theorem isa_dict (d : PyData) : kitB (tyN d) "dict" = some (isaDict d) := by cases d <;> (simp only [tyN, isaDict]; decide +kernel)
theorem isa_str (d : PyData) : kitB (tyN d) "str" = some (isaStr d) := by cases d <;> (simp only [tyN, isaStr]; decide +kernel)
theorem isa_int (d : PyData) : kitB (tyN d) "int" = some (isaInt d) := by cases d <;> (simp only [tyN, isaInt]; decide +kernel)
theorem isa_bool (d : PyData) : kitB (tyN d) "bool" = some (isaBool d) := by cases d <;> (simp only [tyN, isaBool]; decide +kernel)
@[simp] def dIsa (f : PyData → Bool) (t : DE) : DE := fun ρ Q => t ρ fun d => Q (.bool (f d))
section
variable {C : Cfg}
theorem sim_isa {th : TE} {t : DE} {T : String} {f : PyData → Bool} (hf : ∀ d, kitB (tyN d) T = some (f d)) (h : SimP C th t) : SimE C (tCB (rIsa T C.K) (tCons th (tCons (tC (.ty T)) tNil))) (dIsa f t) := by
  intro H0 F H σ ρ Qd Q g S ht k
  refine h H0 F H σ ρ _ _ g S ht fun v F1 H1 d x1 r1 q1 => ?_
  exact ⟨v, _, _, rfl, tyx_of (r1.all x1.g), hf d, k _ F1 H1 _ x1 (.bl _) q1⟩

/-! ### three at once -/
@[simp] def dPar3EEF (i j l : Nat) (t u w : DE) : DS := fun D ρ => t ρ fun d => u ρ fun e => w ρ fun f => D.nx (((ρ.set i (.sh d)).set j (.sh e)).set l (.ow f))
theorem sims_par3EEF {i j l : Nat} {ta tb tc : TE} {t u w : DE} (h1 : SimE C ta t) (h2 : SimE C tb u) (h3 : SimF C tc w) : SimS C (tPar3 i j l (tCons ta (tCons tb (tCons tc tNil)))) (dPar3EEF i j l t u w) := fun F0 H0 F H σ ρ D DH x S ht L => by
  refine h1 H0 F H σ ρ _ _ x.g S ht fun v F1 H1 d x1 r1 q1 => ?_
  refine h2 H0 F1 H1 σ ρ _ _ x1.g (S.ext x1) q1 fun w F2 H2 e x2 r2 q2 => ?_
  refine h3 H0 F2 H2 σ ρ _ _ x2.g (S.ext (x1.trans x2)) q2 fun y F3 H3 f x3 r3 q3 => ?_
  exact ⟨_, _, _, rfl, L.nx F3 H3 _ _ (x.trans (x1.trans (x2.trans x3))) (set_own (x.trans (x1.trans x2)) (set_sh (set_sh S x1 r1 i) x2 r2 j) x3 r3 l) q3⟩
@[simp] def dPar3EFE (i j l : Nat) (t u w : DE) : DS := fun D ρ => t ρ fun d => u ρ fun e => w ρ fun f => D.nx (((ρ.set i (.sh d)).set j (.ow e)).set l (.sh f))
theorem sims_par3EFE {i j l : Nat} {ta tb tc : TE} {t u w : DE} (h1 : SimE C ta t) (h2 : SimF C tb u) (h3 : SimE C tc w) : SimS C (tPar3 i j l (tCons ta (tCons tb (tCons tc tNil)))) (dPar3EFE i j l t u w) := fun F0 H0 F H σ ρ D DH x S ht L => by
  refine h1 H0 F H σ ρ _ _ x.g S ht fun v F1 H1 d x1 r1 q1 => ?_
  refine h2 H0 F1 H1 σ ρ _ _ x1.g (S.ext x1) q1 fun w F2 H2 e x2 r2 q2 => ?_
  refine h3 H0 F2 H2 σ ρ _ _ x2.g (S.ext (x1.trans x2)) q2 fun y F3 H3 f x3 r3 q3 => ?_
  exact ⟨_, _, _, rfl, L.nx F3 H3 _ _ (x.trans (x1.trans (x2.trans x3))) (set_sh (set_own (x.trans x1) (set_sh S x1 r1 i) x2 r2 j) x3 r3 l) q3⟩
@[simp] def dPar3EFF (i j l : Nat) (t u w : DE) : DS := fun D ρ => t ρ fun d => u ρ fun e => w ρ fun f => D.nx (((ρ.set i (.sh d)).set j (.ow e)).set l (.ow f))
theorem sims_par3EFF {i j l : Nat} {ta tb tc : TE} {t u w : DE} (h1 : SimE C ta t) (h2 : SimF C tb u) (h3 : SimF C tc w) : SimS C (tPar3 i j l (tCons ta (tCons tb (tCons tc tNil)))) (dPar3EFF i j l t u w) := fun F0 H0 F H σ ρ D DH x S ht L => by
  refine h1 H0 F H σ ρ _ _ x.g S ht fun v F1 H1 d x1 r1 q1 => ?_
  refine h2 H0 F1 H1 σ ρ _ _ x1.g (S.ext x1) q1 fun w F2 H2 e x2 r2 q2 => ?_
  refine h3 H0 F2 H2 σ ρ _ _ x2.g (S.ext (x1.trans x2)) q2 fun y F3 H3 f x3 r3 q3 => ?_
  exact ⟨_, _, _, rfl, L.nx F3 H3 _ _ (x.trans (x1.trans (x2.trans x3))) (set_own (x.trans (x1.trans x2)) (set_own (x.trans x1) (set_sh S x1 r1 i) x2 r2 j) x3 r3 l) q3⟩
@[simp] def dPar3FEE (i j l : Nat) (t u w : DE) : DS := fun D ρ => t ρ fun d => u ρ fun e => w ρ fun f => D.nx (((ρ.set i (.ow d)).set j (.sh e)).set l (.sh f))
theorem sims_par3FEE {i j l : Nat} {ta tb tc : TE} {t u w : DE} (h1 : SimF C ta t) (h2 : SimE C tb u) (h3 : SimE C tc w) : SimS C (tPar3 i j l (tCons ta (tCons tb (tCons tc tNil)))) (dPar3FEE i j l t u w) := fun F0 H0 F H σ ρ D DH x S ht L => by
  refine h1 H0 F H σ ρ _ _ x.g S ht fun v F1 H1 d x1 r1 q1 => ?_
  refine h2 H0 F1 H1 σ ρ _ _ x1.g (S.ext x1) q1 fun w F2 H2 e x2 r2 q2 => ?_
  refine h3 H0 F2 H2 σ ρ _ _ x2.g (S.ext (x1.trans x2)) q2 fun y F3 H3 f x3 r3 q3 => ?_
  exact ⟨_, _, _, rfl, L.nx F3 H3 _ _ (x.trans (x1.trans (x2.trans x3))) (set_sh (set_sh (set_own x S x1 r1 i) x2 r2 j) x3 r3 l) q3⟩
@[simp] def dPar3FEF (i j l : Nat) (t u w : DE) : DS := fun D ρ => t ρ fun d => u ρ fun e => w ρ fun f => D.nx (((ρ.set i (.ow d)).set j (.sh e)).set l (.ow f))
theorem sims_par3FEF {i j l : Nat} {ta tb tc : TE} {t u w : DE} (h1 : SimF C ta t) (h2 : SimE C tb u) (h3 : SimF C tc w) : SimS C (tPar3 i j l (tCons ta (tCons tb (tCons tc tNil)))) (dPar3FEF i j l t u w) := fun F0 H0 F H σ ρ D DH x S ht L => by
  refine h1 H0 F H σ ρ _ _ x.g S ht fun v F1 H1 d x1 r1 q1 => ?_
  refine h2 H0 F1 H1 σ ρ _ _ x1.g (S.ext x1) q1 fun w F2 H2 e x2 r2 q2 => ?_
  refine h3 H0 F2 H2 σ ρ _ _ x2.g (S.ext (x1.trans x2)) q2 fun y F3 H3 f x3 r3 q3 => ?_
  exact ⟨_, _, _, rfl, L.nx F3 H3 _ _ (x.trans (x1.trans (x2.trans x3))) (set_own (x.trans (x1.trans x2)) (set_sh (set_own x S x1 r1 i) x2 r2 j) x3 r3 l) q3⟩
@[simp] def dPar3FFE (i j l : Nat) (t u w : DE) : DS := fun D ρ => t ρ fun d => u ρ fun e => w ρ fun f => D.nx (((ρ.set i (.ow d)).set j (.ow e)).set l (.sh f))
theorem sims_par3FFE {i j l : Nat} {ta tb tc : TE} {t u w : DE} (h1 : SimF C ta t) (h2 : SimF C tb u) (h3 : SimE C tc w) : SimS C (tPar3 i j l (tCons ta (tCons tb (tCons tc tNil)))) (dPar3FFE i j l t u w) := fun F0 H0 F H σ ρ D DH x S ht L => by
  refine h1 H0 F H σ ρ _ _ x.g S ht fun v F1 H1 d x1 r1 q1 => ?_
  refine h2 H0 F1 H1 σ ρ _ _ x1.g (S.ext x1) q1 fun w F2 H2 e x2 r2 q2 => ?_
  refine h3 H0 F2 H2 σ ρ _ _ x2.g (S.ext (x1.trans x2)) q2 fun y F3 H3 f x3 r3 q3 => ?_
  exact ⟨_, _, _, rfl, L.nx F3 H3 _ _ (x.trans (x1.trans (x2.trans x3))) (set_sh (set_own (x.trans x1) (set_own x S x1 r1 i) x2 r2 j) x3 r3 l) q3⟩
@[simp] def dPar3FFF (i j l : Nat) (t u w : DE) : DS := fun D ρ => t ρ fun d => u ρ fun e => w ρ fun f => D.nx (((ρ.set i (.ow d)).set j (.ow e)).set l (.ow f))
theorem sims_par3FFF {i j l : Nat} {ta tb tc : TE} {t u w : DE} (h1 : SimF C ta t) (h2 : SimF C tb u) (h3 : SimF C tc w) : SimS C (tPar3 i j l (tCons ta (tCons tb (tCons tc tNil)))) (dPar3FFF i j l t u w) := fun F0 H0 F H σ ρ D DH x S ht L => by
  refine h1 H0 F H σ ρ _ _ x.g S ht fun v F1 H1 d x1 r1 q1 => ?_
  refine h2 H0 F1 H1 σ ρ _ _ x1.g (S.ext x1) q1 fun w F2 H2 e x2 r2 q2 => ?_
  refine h3 H0 F2 H2 σ ρ _ _ x2.g (S.ext (x1.trans x2)) q2 fun y F3 H3 f x3 r3 q3 => ?_
  exact ⟨_, _, _, rfl, L.nx F3 H3 _ _ (x.trans (x1.trans (x2.trans x3))) (set_own (x.trans (x1.trans x2)) (set_own (x.trans x1) (set_own x S x1 r1 i) x2 r2 j) x3 r3 l) q3⟩
/-! ### dict comprehensions -/
@[simp] def dcD (g : DG) (u : DT) (tk tv : DE) (ρ : Vn) : List PyData → List (PyData × PyData) → (PyData → Prop) → Prop
  | [], acc, Q => Q (.dict acc)
  | d :: ds, acc, Q => g d ρ fun ρ1 => u ρ1 fun b => if b = true then tk ρ1 fun y => tv ρ1 fun z => ∃ k, keyD y = some k ∧ dcD g u tk tv ρ ds (putDv acc k z) Q else dcD g u tk tv ρ ds acc Q
@[simp] def dDc (ti : DL) (g : DG) (u : DT) (tk tv : DE) (vs : List Nat) : DE := fun ρ Q => ti ρ fun ds => dcD g u tk tv (wipeE ρ vs) ds [] Q
theorem wipe2 {σ : St} {vs ks : List Nat} {σ3 : St} (e : L2.wipe σ3 vs = L2.wipe (L2.wipe σ vs) vs) : L2.wipe σ3 vs = L2.wipe σ vs := by
  rw [e]
  refine List.ext_getElem? fun j => ?_
  by_cases hj : j ∈ vs
  · by_cases hl : j < σ.length
    · rw [wipe_get hj (by rw [L2.wipe_length]; exact hl), wipe_get hj hl]
    · rw [List.getElem?_eq_none (by rw [L2.wipe_length, L2.wipe_length]; omega), List.getElem?_eq_none (by rw [L2.wipe_length]; omega)]
  · rw [wipe_other hj]
theorem keepD {F H F' H' : Hp} {D : Addr} {o : HO} (y : Ext C F H F' H') (fD : F D = none) (eD : H D = some o) (nS : ¬ C.S D) : F' D = none ∧ H' D = some o := by
  have e2 := y.hh D _ eD nS
  refine ⟨?_, e2⟩
  cases q : F' D with
  | none => rfl
  | some w =>
    rcases y.nw D w q with z | z
    · rw [fD] at z; cases z
    · rw [eD] at z; cases z
theorem simF_dc {wi : TI} {g : TG} {tt : TT} {tk tv : TE} {ti : DL} {gd : DG} {u : DT} {t w : DE} {ks vs : List Nat} (hi : SimIP C wi ti) (hg : SimG C ks g gd) (hu : SimT C tt u) (hk' : SimE C tk t) (hv : SimE C tv w) (hk : ∀ k ∈ ks, k ∈ vs) :
    SimF C (tDc wi g tt tk tv vs) (dDc ti gd u t w vs) := by
  intro H0 F H σ ρ Qd Q g0 S ht k
  refine hi H0 F H σ ρ _ _ g0 S ht fun J F1 H1 ds G x1 io st z q1 => ?_
  intro D hD
  have hD0 : H D = none := x1.free hD
  have nS : ¬ C.S D := x1.g.noS hD
  refine ⟨fun i m Hi => m = ds.length - i ∧ i ≤ ds.length ∧ ∃ (Fi : Hp) (acc : List (Key × V)) (as : List (PyData × PyData)), Ext C F1 H1 Fi Hi ∧ Fi D = none ∧ Hi D = some (.dK acc) ∧ acc.length ≤ i ∧ RK C.K Fi acc as ∧ dcD gd u t w (wipeE ρ vs) (ds.drop i) as Qd,
    ⟨_, rfl, Nat.zero_le _, F1, [], [], .newO x1.g hD _, x1.g.fnone hD, upd_same, Nat.le_refl _, .nil, by rw [List.drop_zero]; exact q1⟩, ?_⟩
  rintro i m Hi ⟨rfl, hle, Fi, acc, as, xi, fD, eD, la, ra, qi⟩
  have gi := st Fi Hi xi
  by_cases hlt : i < ds.length
  · refine .inr ⟨io.go i Hi hlt gi, fun H' => i + 1 ≤ ds.length ∧ ∃ (Fi : Hp) (acc : List (Key × V)) (as : List (PyData × PyData)), Ext C F1 H1 Fi H' ∧ Fi D = none ∧ H' D = some (.dK acc) ∧ acc.length ≤ i + 1 ∧ RK C.K Fi acc as ∧ dcD gd u t w (wipeE ρ vs) (ds.drop (i + 1)) as Qd,
      fun H' ⟨a, b, c⟩ => ⟨ds.length - (i + 1), by omega, rfl, a, b, c⟩, fun x H' hy => ?_⟩
    have hd : ds[i]? = some ds[i] := by simp [hlt]
    have hdr : ds.drop i = ds[i] :: ds.drop (i + 1) := List.drop_eq_getElem_cons hlt
    obtain ⟨F2, x2, r2⟩ := io.yld i Fi Hi x H' _ hd gi xi.g xi.ff hy
    rw [hdr] at qi
    have S2 : Slots C H0 F2 H' (L2.wipe σ vs) (wipeE ρ vs) := ((S.ext (x1.trans (xi.trans x2))).wipe vs)
    refine hg H0 F2 H' _ _ x _ _ _ x2.g S2 r2 qi fun F3 H3 σ3 ρ3 x3 S3 o3 q3 => ⟨wipe2 (ks := ks) (o3.wipe hk), ?_⟩
    refine hu H0 F3 H3 σ3 ρ3 _ _ x3.g S3 q3 fun b F4 H4 x4 q4 => ?_
    have y4 : Ext C Fi Hi F4 H4 := x2.trans (x3.trans x4)
    cases b with
    | false =>
      rw [if_neg (by decide)] at q4
      rw [if_neg (by decide)]
      obtain ⟨k1, k2⟩ := keepD y4 fD eD nS
      exact ⟨hlt, F4, acc, as, xi.trans y4, k1, k2, Nat.le_succ_of_le la, ra.mono y4.ff, q4⟩
    | true =>
      rw [if_pos rfl] at q4
      rw [if_pos rfl]
      refine hk' H0 F4 H4 σ3 ρ3 _ _ x4.g (S3.ext x4) q4 fun y F5 H5 d5 x5 r5 q5 => ?_
      refine hv H0 F5 H5 σ3 ρ3 _ _ x5.g (S3.ext (x4.trans x5)) q5 fun y2 F6 H6 d6 x6 r6 ⟨kk, ek, q6⟩ => ?_
      have y5 : Ext C Fi Hi F6 H6 := y4.trans (x5.trans x6)
      obtain ⟨k1, k2⟩ := keepD y5 fD eD nS
      have hl : (putK acc kk y2).length ≤ acc.length + 1 := by
        unfold putK
        split
        · rw [List.length_map]; omega
        · rw [List.length_append]; simp
      exact ⟨acc, kk, keyD_R r5 ek, k2, by omega, hlt, F6, putK acc kk y2, putDv as kk d6, (xi.trans y5).updO hD k1 nS, k1, upd_same, by omega, (ra.mono y5.ff).put r6, q6⟩
  · have e : i = ds.length := by omega
    subst e
    refine .inl ⟨io.stop Hi gi, ?_⟩
    rw [List.drop_length] at qi
    exact k D Fi Hi (.dict as) (x1.trans xi) ⟨fD, hD0, nS, acc, eD, by have := ra.length; omega, ra⟩ qi

/-! ### comprehensions of two clauses -/
@[simp] def hideS : Slot → Slot
  | .ow _ => .un
  | .lk _ => .un
  | s => s
@[simp] def hideO (ρ : Vn) : Vn := ρ.map hideS
theorem Slots.hide {H0 F H : Hp} {σ : St} {ρ : Vn} (S : Slots C H0 F H σ ρ) : Slots C H0 F H σ (hideO ρ) := by
  have no : ∀ (i : Nat) d, (hideO ρ)[i]? ≠ some (Slot.ow d) := fun i d e => by
    unfold hideO at e
    rw [List.getElem?_map] at e
    cases q : ρ[i]? with
    | none => rw [q] at e; cases e
    | some s => rw [q] at e; cases s <;> simp at e
  refine ⟨by simp [S.len], fun i s o e1 e2 => ?_, fun i j a d e _ e1 _ _ _ => absurd e1 (no i d)⟩
  unfold hideO at e1
  rw [List.getElem?_map] at e1
  cases q : ρ[i]? with
  | none => rw [q] at e1; cases e1
  | some t =>
    rw [q] at e1
    have := S.get i t o q e2
    cases t <;> simp at e1 <;> subst e1 <;> first | trivial | exact this
theorem Slots.hide_updO {H0 F H : Hp} {σ : St} {ρ : Vn} {D : Addr} {o : HO} (S : Slots C H0 F H σ (hideO ρ)) : Slots C H0 F (upd H D o) σ (hideO ρ) := by
  have no : ∀ (i : Nat) d, (hideO ρ)[i]? ≠ some (Slot.ow d) := fun i d e => by
    unfold hideO at e
    rw [List.getElem?_map] at e
    cases q : ρ[i]? with
    | none => rw [q] at e; cases e
    | some s => rw [q] at e; cases s <;> simp at e
  have no2 : ∀ (i : Nat) d, (hideO ρ)[i]? ≠ some (Slot.lk d) := fun i d e => by
    unfold hideO at e
    rw [List.getElem?_map] at e
    cases q : ρ[i]? with
    | none => rw [q] at e; cases e
    | some s => rw [q] at e; cases s <;> simp at e
  refine ⟨S.len, fun i s v e1 e2 => ?_, S.apart⟩
  have q := S.get i s v e1 e2
  cases s with
  | ow d => exact absurd e1 (no i d)
  | lk d => exact absurd e1 (no2 i d)
  | un => trivial
  | sh d => exact q
  | raw v => exact q
  | so => exact q
@[simp] def lcI (g : DG) (u : DT) (te : DE) (ρ : Vn) : List PyData → List PyData → (List PyData → Prop) → Prop
  | [], acc, k => k acc
  | d :: ds, acc, k => g d ρ fun ρ1 => u ρ1 fun b => if b = true then te ρ1 fun y => acc.length < sizeLine ∧ lcI g u te ρ ds (acc ++ [y]) k else lcI g u te ρ ds acc k
@[simp] def lcD2 (g : DG) (u : DT) (ti1 : DL) (g1 : DG) (u1 : DT) (te : DE) (vs1 : List Nat) (ρ : Vn) : List PyData → List PyData → (PyData → Prop) → Prop
  | [], acc, Q => Q (.list acc)
  | d :: ds, acc, Q => g d ρ fun ρ1 => u ρ1 fun b => if b = true then ti1 ρ1 fun es => lcI g1 u1 te (wipeE (hideO ρ1) vs1) es acc fun acc' => lcD2 g u ti1 g1 u1 te vs1 ρ ds acc' Q else lcD2 g u ti1 g1 u1 te vs1 ρ ds acc Q
@[simp] def dLc2 (ti : DL) (g : DG) (u : DT) (ti1 : DL) (g1 : DG) (u1 : DT) (te : DE) (vs vs1 : List Nat) : DE := fun ρ Q => ti ρ fun ds => lcD2 g u ti1 g1 u1 te vs1 (wipeE ρ vs) ds [] Q
theorem simF_lc2 {wi wi1 : TI} {g g1 : TG} {tt tt1 : TT} {te : TE} {ti ti1 : DL} {gd gd1 : DG} {u u1 : DT} {t : DE} {ks ks1 vs vs1 : List Nat} (hi : SimIP C wi ti) (hg : SimG C ks g gd) (hu : SimT C tt u) (hi1 : SimI C wi1 ti1) (hg1 : SimG C ks1 g1 gd1) (hu1 : SimT C tt1 u1) (he : SimE C te t) (hk : ∀ k ∈ ks, k ∈ vs) (hk1 : ∀ k ∈ ks1, k ∈ vs1) :
    SimF C (tLc2 wi g tt wi1 g1 tt1 te vs vs1) (dLc2 ti gd u ti1 gd1 u1 t vs vs1) := by
  intro H0 F H σ ρ Qd Q g0 S ht k
  refine hi H0 F H σ ρ _ _ g0 S ht fun J F1 H1 ds G x1 io st z q1 => ?_
  intro D hD
  have hD0 : H D = none := x1.free hD
  have nS : ¬ C.S D := x1.g.noS hD
  refine ⟨fun i m Hi => m = ds.length - i ∧ i ≤ ds.length ∧ ∃ (Fi : Hp) (acc : List V) (as : List PyData), Ext C F1 H1 Fi Hi ∧ Fi D = none ∧ Hi D = some (.lst acc) ∧ acc.length ≤ sizeLine ∧ RL C.K Fi acc as ∧ lcD2 gd u ti1 gd1 u1 t vs1 (wipeE ρ vs) (ds.drop i) as Qd,
    ⟨_, rfl, Nat.zero_le _, F1, [], [], .newO x1.g hD _, x1.g.fnone hD, upd_same, Nat.zero_le _, .nil, by rw [List.drop_zero]; exact q1⟩, ?_⟩
  rintro i m Hi ⟨rfl, hle, Fi, acc, as, xi, fD, eD, la, ra, qi⟩
  have gi := st Fi Hi xi
  by_cases hlt : i < ds.length
  · refine .inr ⟨io.go i Hi hlt gi, fun H' => i + 1 ≤ ds.length ∧ ∃ (Fi : Hp) (acc : List V) (as : List PyData), Ext C F1 H1 Fi H' ∧ Fi D = none ∧ H' D = some (.lst acc) ∧ acc.length ≤ sizeLine ∧ RL C.K Fi acc as ∧ lcD2 gd u ti1 gd1 u1 t vs1 (wipeE ρ vs) (ds.drop (i + 1)) as Qd,
      fun H' ⟨a, b, c⟩ => ⟨ds.length - (i + 1), by omega, rfl, a, b, c⟩, fun x H' hy => ?_⟩
    have hd : ds[i]? = some ds[i] := by simp [hlt]
    have hdr : ds.drop i = ds[i] :: ds.drop (i + 1) := List.drop_eq_getElem_cons hlt
    obtain ⟨F2, x2, r2⟩ := io.yld i Fi Hi x H' _ hd gi xi.g xi.ff hy
    rw [hdr] at qi
    have S2 : Slots C H0 F2 H' (L2.wipe σ vs) (wipeE ρ vs) := ((S.ext (x1.trans (xi.trans x2))).wipe vs)
    refine hg H0 F2 H' _ _ x _ _ _ x2.g S2 r2 qi fun F3 H3 σ3 ρ3 x3 S3 o3 q3 => ⟨wipe2 (ks := ks) (o3.wipe hk), ?_⟩
    refine hu H0 F3 H3 σ3 ρ3 _ _ x3.g S3 q3 fun b F4 H4 x4 q4 => ?_
    have y4 : Ext C Fi Hi F4 H4 := x2.trans (x3.trans x4)
    cases b with
    | false =>
      rw [if_neg (by decide)] at q4
      rw [if_neg (by decide)]
      obtain ⟨k1, k2⟩ := keepD y4 fD eD nS
      exact ⟨hlt, F4, acc, as, xi.trans y4, k1, k2, la, ra.mono y4.ff, q4⟩
    | true =>
      rw [if_pos rfl] at q4
      rw [if_pos rfl]
      refine hi1 H0 F4 H4 σ3 ρ3 _ _ x4.g (S3.ext x4) q4 fun J1 F5 H5 es G1 x5 io1 st1 z1 q5 => ?_
      have y5 : Ext C Fi Hi F5 H5 := y4.trans x5
      obtain ⟨k1, k2⟩ := keepD y5 fD eD nS
      refine ⟨fun j n Hj => n = es.length - j ∧ j ≤ es.length ∧ ∃ (Fj : Hp) (acc : List V) (as : List PyData), Ext C F1 H1 Fj Hj ∧ Same F5 Fj ∧ Fj D = none ∧ Hj D = some (.lst acc) ∧ acc.length ≤ sizeLine ∧ RL C.K Fj acc as ∧ Slots C H0 Fj Hj σ3 (hideO ρ3) ∧ lcI gd1 u1 t (wipeE (hideO ρ3) vs1) (es.drop j) as fun acc' => lcD2 gd u ti1 gd1 u1 t vs1 (wipeE ρ vs) (ds.drop (i + 1)) acc' Qd,
        ⟨_, rfl, Nat.zero_le _, F5, acc, as, xi.trans y5, .refl _, k1, k2, la, ra.mono y5.ff, (S3.ext (x4.trans x5)).hide, by rw [List.drop_zero]; exact q5⟩, ?_⟩
      rintro j n Hj ⟨rfl, hlj, Fj, accj, asj, xj, sj, fDj, eDj, laj, raj, Sj, qj⟩
      have gj := st1 Hj (sj.trans xj.g.fh)
      by_cases hlt1 : j < es.length
      · refine .inr ⟨io1.go j Hj hlt1 gj, fun H' => j + 1 ≤ es.length ∧ ∃ (Fj : Hp) (acc : List V) (as : List PyData), Ext C F1 H1 Fj H' ∧ Same F5 Fj ∧ Fj D = none ∧ H' D = some (.lst acc) ∧ acc.length ≤ sizeLine ∧ RL C.K Fj acc as ∧ Slots C H0 Fj H' σ3 (hideO ρ3) ∧ lcI gd1 u1 t (wipeE (hideO ρ3) vs1) (es.drop (j + 1)) as fun acc' => lcD2 gd u ti1 gd1 u1 t vs1 (wipeE ρ vs) (ds.drop (i + 1)) acc' Qd,
          fun H' ⟨a, b⟩ => ⟨es.length - (j + 1), by omega, rfl, a, b⟩, fun x H' hy => ?_⟩
        have hd1 : es[j]? = some es[j] := by simp [hlt1]
        obtain ⟨F6, x6, r6⟩ := io1.yld j Fj Hj x H' _ hd1 gj xj.g sj hy
        rw [List.drop_eq_getElem_cons hlt1] at qj
        have S6 : Slots C H0 F6 H' (L2.wipe σ3 vs1) (wipeE (hideO ρ3) vs1) := (Sj.ext x6).wipe vs1
        refine hg1 H0 F6 H' _ _ x _ _ _ x6.g S6 r6 qj fun F7 H7 σ7 ρ7 x7 S7 o7 q7 => ⟨wipe2 (ks := ks1) (o7.wipe hk1), ?_⟩
        refine hu1 H0 F7 H7 σ7 ρ7 _ _ x7.g S7 q7 fun b F8 H8 x8 q8 => ?_
        have y8 : Ext C Fj Hj F8 H8 := x6.trans (x7.trans x8)
        cases b with
        | false =>
          rw [if_neg (by decide)] at q8
          rw [if_neg (by decide)]
          obtain ⟨m1, m2⟩ := keepD y8 fDj eDj nS
          exact ⟨hlt1, F8, accj, asj, xj.trans y8, sj.trans y8.ff, m1, m2, laj, raj.mono y8.ff, Sj.ext y8, q8⟩
        | true =>
          rw [if_pos rfl] at q8
          rw [if_pos rfl]
          refine he H0 F8 H8 σ7 ρ7 _ _ x8.g (S7.ext x8) q8 fun y F9 H9 d9 x9 r9 ⟨z9, q9⟩ => ?_
          have y9 : Ext C Fj Hj F9 H9 := y8.trans x9
          obtain ⟨m1, m2⟩ := keepD y9 fDj eDj nS
          have hlen := raj.length
          have S9 := Sj.ext y9
          refine ⟨accj, m2, by omega, hlt1, F9, accj ++ [y], asj ++ [d9], (xj.trans y9).updO hD m1 nS, sj.trans y9.ff, m1, upd_same, by rw [List.length_append]; simp; omega, (raj.mono y9.ff).snoc r9, ?_, q9⟩
          exact S9.hide_updO
      · have e : j = es.length := by omega
        subst e
        rw [List.drop_length] at qj
        exact .inl ⟨io1.stop Hj gj, hlt, Fj, accj, asj, xj, fDj, eDj, laj, raj, qj⟩
  · have e : i = ds.length := by omega
    subst e
    refine .inl ⟨io.stop Hi gi, ?_⟩
    rw [List.drop_length] at qi
    exact k D Fi Hi (.list as) (x1.trans xi) ⟨fD, hD0, nS, acc, eD, by have := ra.length; omega, ra⟩ qi

/-! ### a dict walked by its keys, within a comprehension: it is locked -/
mutual
/-- no dict within -/
def noD : PyData → Bool
  | .dict _ => false
  | .list xs => noDL xs
  | .tuple xs => noDL xs
  | _ => true
def noDL : List PyData → Bool
  | [] => true
  | x :: xs => noD x && noDL xs
end
def lessA (F : Hp) (a : Addr) : Hp := fun b => if b = a then none else F b
theorem lessA_ne {F : Hp} {a b : Addr} (h : b ≠ a) : lessA F a b = F b := if_neg h
theorem lessA_sub {F : Hp} {a b : Addr} {o : HO} (h : lessA F a b = some o) : b ≠ a ∧ F b = some o := by
  unfold lessA at h
  split at h
  · cases h
  · exact ⟨‹_›, h⟩
section
variable {K : PySem.W.Frag} {F : Hp} {a : Addr} {kvs : List (Key × V)}
mutual
theorem R.less (ha : F a = some (.dK kvs)) : ∀ {v : V} {d : PyData}, R K F v d → noD d = true → R K (lessA F a) v d
  | _, _, .non, _ => .non
  | _, _, .bl b, _ => .bl b
  | _, _, .int i, _ => .int i
  | _, _, .str x l, _ => .str x l
  | _, _, .lst (a := b) e l r, h => .lst (by rw [lessA_ne (fun z => by rw [z, ha] at e; cases e)]; exact e) l (r.less ha h)
  | _, _, .tup (a := b) e l r, h => .tup (by
      rcases e with ⟨o, e, d⟩ | e
      · exact .inl ⟨o, by rw [lessA_ne (fun z => by rw [z, ha] at e; cases e)]; exact e, d⟩
      · exact .inr e) l (r.less ha h)
  | _, _, .dct e l r, h => by simp [noD] at h
theorem RL.less (ha : F a = some (.dK kvs)) : ∀ {vs : List V} {ds : List PyData}, RL K F vs ds → noDL ds = true → RL K (lessA F a) vs ds
  | _, _, .nil, _ => .nil
  | _, _, .cons x y, h => by
    rw [noDL, Bool.and_eq_true] at h
    exact .cons (x.less ha h.1) (y.less ha h.2)
end
theorem RK.less (ha : F a = some (.dK kvs)) : ∀ {kv : List (Key × V)} {ds : List (PyData × PyData)}, RK K F kv ds → noDL (ds.map (·.2)) = true → RK K (lessA F a) kv ds
  | _, _, .nil, _ => .nil
  | _, _, .cons x y, h => by
    rw [List.map_cons, noDL, Bool.and_eq_true] at h
    exact .cons (x.less ha h.1) (RK.less ha y h.2)
end
@[simp] def hideD : Slot → Slot
  | .sh d => if noD d = true then .sh d else .un
  | .ow _ => .un
  | .lk _ => .un
  | s => s
@[simp] def lkE (i : Nat) (kvs : List (PyData × PyData)) (ρ : Vn) : Vn := (ρ.map hideD).set i (.lk (.dict kvs))
@[simp] def dLcK (i : Nat) (g : DG) (u : DT) (t : DE) (vs : List Nat) : DE := fun ρ Q => match ρ[i]? with
  | some (.sh (.dict kvs)) => keysOk kvs ∧ noDL (kvs.map (·.2)) = true ∧ lcD g u t (wipeE (lkE i kvs ρ) vs) (kvs.map (·.1)) [] Q
  | _ => False
theorem slots_lk {H0 F H : Hp} {σ : St} {ρ : Vn} {i : Nat} {a : Addr} {kvs : List (Key × V)} {ds : List (PyData × PyData)} {od : Obj} (g : Good C F H) (S : Slots C H0 F H σ ρ) (e : ρ[i]? = some (.sh (.dict ds))) (e2 : σ[i]? = some (some (.ref a)))
    (ha : F a = some (.dK kvs)) (rk : RK C.K F kvs ds) (nd : noDL (ds.map (·.2)) = true) (nS : ¬ C.S a) : Slots C H0 (lessA F a) (upd H a (.frz od (.dK kvs))) σ (lkE i ds ρ) := by
  have hi : i < ρ.length := (List.getElem?_eq_some_iff.mp e).1
  have no : ∀ (j : Nat) d, (lkE i ds ρ)[j]? ≠ some (Slot.ow d) := fun j d e => by
    unfold lkE at e
    by_cases h : i = j
    · subst h
      rw [List.getElem?_set_self (by simpa using hi)] at e
      cases e
    · rw [List.getElem?_set_ne h, List.getElem?_map] at e
      cases q : ρ[j]? with
      | none => rw [q] at e; cases e
      | some s =>
        rw [q] at e
        cases s with
        | sh x => simp only [Option.map_some, hideD] at e; split at e <;> cases e
        | _ => simp at e
  refine ⟨by simp [S.len], fun j s o e4 e5 => ?_, fun j k a d f hne e4 _ _ _ => absurd e4 (no j d)⟩
  unfold lkE at e4
  by_cases h : i = j
  · subst h
    rw [List.getElem?_set_self (by simpa using hi)] at e4
    rw [e2] at e5
    cases e4; cases e5
    exact ⟨a, od, kvs, rfl, nS, upd_same, rk.less ha nd⟩
  · rw [List.getElem?_set_ne h, List.getElem?_map] at e4
    cases q : ρ[j]? with
    | none => rw [q] at e4; cases e4
    | some t =>
      rw [q] at e4
      have w := S.get j t o q e5
      cases t with
      | un => simp at e4; subst e4; trivial
      | sh x =>
        simp only [Option.map_some, hideD] at e4
        split at e4
        · cases e4
          obtain ⟨v, w1, w2⟩ := w
          exact ⟨v, w1, w2.less ha ‹_›⟩
        · cases e4; trivial
      | ow x => simp at e4; subst e4; trivial
      | lk x => simp at e4; subst e4; trivial
      | raw v => simp at e4; subst e4; exact w
      | so => simp at e4; subst e4; exact w
theorem simF_lcK {i : Nat} {g : TG} {tt : TT} {te : TE} {gd : DG} {u : DT} {t : DE} {ks vs : List Nat} (hg : SimG C ks g gd) (hu : SimT C tt u) (he : SimE C te t) (hk : ∀ k ∈ ks, k ∈ vs) : SimF C (tLockE (tLc (iKeys (tVar i)) g tt te vs)) (dLcK i gd u t vs) := by
  intro H0 F H σ ρ Qd Q g0 S ht k
  unfold dLcK at ht
  split at ht
  · rename_i ds e
    obtain ⟨h1, h2, ht⟩ := ht
    obtain ⟨o, e2, v, e3, r⟩ := S.at e
    subst e3
    cases r with
    | dct eF l rk =>
      rename_i a kvs
      have eH := g0.fh _ _ eF
      have nS : ¬ C.S a := fun s => by have := g0.fs a s; rw [eF] at this; cases this
      refine ⟨a, _, eH, trivial, fun od => ?_⟩
      have gL : Good C (lessA F a) (upd H a (.frz od (.dK kvs))) := by
        refine ⟨fun b u e => ?_, C.loc H _ (fun b s => upd_ne (fun z : b = a => nS (z ▸ s))) g0.ok, fun b s => ?_⟩
        · obtain ⟨n, e⟩ := lessA_sub e
          rw [upd_ne n]; exact g0.fh b u e
        · rw [lessA_ne (fun z : b = a => nS (z ▸ s))]; exact g0.fs b s
      have SL := slots_lk (od := od) g0 S e e2 eF rk h2 nS
      have rkL := rk.less eF h2
      have hl := rk.length
      have rl := rkL.keys h1
      refine ⟨_, e2, a, od, rfl, .inl ⟨kvs, upd_same, ?_⟩⟩
      have io : ItOk C (lessA F a) (fun H => H a = some (.frz od (.dK kvs))) (Itk a od kvs) (ds.map (·.1)) := by
        refine ⟨fun i H h g => ⟨g, by simpa [hl] using h⟩, fun H g => ⟨g, by simp [hl]⟩, fun i F1 H1 x H' d hd g gd s hy => ?_⟩
        obtain ⟨e1, kk, vv, e4, e5⟩ := hy
        subst e1 e5
        obtain ⟨d', w1, w2⟩ := rl.get (show (kvs.map fun kv => kV kv.1)[i]? = some (kV kk) by rw [List.getElem?_map, e4]; rfl)
        rw [hd] at w1
        cases w1
        exact ⟨F1, .refl gd, w2.mono s⟩
      have goal : tLcB (Itk a od kvs) g tt te vs σ (upd H a (.frz od (.dK kvs))) (fun v H' => H' a = some (.frz od (.dK kvs)) ∧ Q v (upd H' a (.dK kvs))) := ?_
      · exact goal
      refine lc_body hg hu he hk SL (.refl gL) io (fun F2 H2 x2 => x2.hh a _ upd_same nS) (by simpa using l) ht fun p F' H' d x own q => ?_
      have hF' : F' a = none := by
        cases z : F' a with
        | none => rfl
        | some w =>
          rcases x.nw a w z with z | z
          · exact absurd (lessA_sub z).1 (fun n => n rfl)
          · rw [upd_same] at z; cases z
      have hH' := x.hh a _ upd_same nS
      have ff : Same F' (upd F' a (.dK kvs)) := fun b z q => by rw [upd_ne (ne_of_none q hF')]; exact q
      have hp : p ≠ a := fun z => by
        have := own.n0
        rw [z, upd_same] at this; cases this
      refine ⟨hH', k p (upd F' a (.dK kvs)) (upd H' a (.dK kvs)) d ⟨fun b o e => ?_, ⟨fun b o e => ?_, C.loc H' _ (fun b s => upd_ne (fun z : b = a => nS (z ▸ s))) x.g.ok, fun b s => ?_⟩, fun b o e n => ?_, fun b o e => ?_⟩ ⟨?_, ?_, own.ns, ?_⟩ q⟩
      · by_cases hb : b = a
        · subst hb; rw [upd_same]; rw [eF] at e; exact e
        · rw [upd_ne hb]; exact x.ff b o (by rw [lessA_ne hb]; exact e)
      · by_cases hb : b = a
        · subst hb; rw [upd_same] at e ⊢; exact e
        · rw [upd_ne hb] at e ⊢; exact x.g.fh b o e
      · rw [upd_ne (fun z : b = a => nS (z ▸ s))]; exact x.g.fs b s
      · by_cases hb : b = a
        · subst hb; rw [upd_same]; rw [eH] at e; exact e
        · rw [upd_ne hb]; exact x.hh b o (by rw [upd_ne hb]; exact e) n
      · by_cases hb : b = a
        · subst hb; rw [upd_same] at e; exact .inl (by rw [eF]; exact e)
        · rw [upd_ne hb] at e
          rcases x.nw b o e with z | z
          · exact .inl (lessA_sub z).2
          · rw [upd_ne hb] at z; exact .inr z
      · rw [upd_ne hp]; exact own.nf
      · have := own.n0
        rw [upd_ne hp] at this; exact this
      · exact own.ct.mono ff (upd_ne hp)
  · exact ht.elim
/-- d[k] of a locked dict -/
@[simp] def dIxLk (i : Nat) (t : DE) : DE := fun ρ Q => match ρ[i]? with
  | some (.lk (.dict kvs)) => t ρ fun e => match keyD e with
    | some k => match getD kvs k with
      | some z => Q z
      | none => False
    | none => False
  | _ => False
def rIxDr : R2 := fun x y H Q => ∃ a kvs k v, x = .ref a ∧ Rd H a (.dK kvs) ∧ y = kV k ∧ valV kvs k = some v ∧ Q v H
theorem ix_dictR {X : Cx} (hu : X.A.units + 200 < cLine) : IxR X rIxDr := by
  intro value slice pins s σ H x y v u Q I rx ry h hs
  obtain ⟨a, kvs, k, z, rfl, e2, e3, e4, q⟩ := h
  obtain rfl : v = Value.ref a := rx
  have g : DGet H a y (some z) := .inl ⟨kvs, k, e2, e3, e4.symm⟩
  have hT := dict_typeIs I g
  unfold PyProof.Rows.subscriptTail
  refine wpAny_bind ?_
  rw [getitemInPython_of_ne hT.not_modules]
  have fin : wpAny (model X.prog X.w) X.A (subscripted slice false (.ref a) u) (fun r s₃ => wpAny (model X.prog X.w) X.A (letTemporaryGo value (.ref a) r >>= fun _ => pure r) (EP X pins σ Q) X.xe s₃) X.xe s := by
    rw [hs]
    refine wpAny_operating (d_getItem (by omega) I g ry fun w' s3 I3 rw' => ?_)
    exact wpAny_bind (wpAny_letTemporaryGo (wpAny_pure ⟨z, H, I3, rw', q⟩))
  refine wpAny_bind (wpAny_specialOf hT PySem.F.slot_dict_getitem.lookup ?_)
  first
    | exact wpAny_pure (wpAny_bind fin)
    | exact wpAny_bind (wpAny_pure (wpAny_bind fin))
    | exact wpAny_bind fin
theorem sim_ixLk {i : Nat} {tb : TE} {t : DE} (h : SimP C tb t) : SimE C (tOp rIxDr (tVar i) tb) (dIxLk i t) := by
  intro H0 F H σ ρ Qd Q g S ht k
  unfold dIxLk at ht
  split at ht
  · rename_i ds e
    obtain ⟨o, e2, a, ob, kvs, e3, nS, hH, rk⟩ := S.at e
    subst e3
    refine ⟨_, e2, ?_⟩
    refine h H0 F H σ ρ _ _ g S ht fun w F1 H1 z x1 r1 q1 => ?_
    split at q1
    · rename_i kk ek
      split at q1
      · rename_i z2 ez
        rcases rk.val kk with ⟨w1, w2⟩ | ⟨v, d, w1, w2, w3⟩
        · rw [ez] at w2; cases w2
        · rw [ez] at w2
          cases w2
          exact ⟨a, kvs, kk, v, rfl, .inr ⟨ob, x1.hh _ _ hH nS⟩, keyD_rel r1 ek, w1, k v F1 H1 _ x1 (w3.mono x1.ff) q1⟩
      · exact q1.elim
    · exact q1.elim
  · exact ht.elim
theorem sims_lockSet {i : Nat} {th : TE} {t : DE} (h : SimF C (tLockE th) t) : SimS C (tLock (tAsg th (gName i))) (dSet i t) := fun F0 H0 F H σ ρ D DH x S ht L => by
  obtain ⟨d, u, hd, mu, hb⟩ := (SimF.e h) H0 F H σ ρ (fun z => D.nx (ρ.set i (.sh z))) (fun v H' => DH.nx (σ.set i (some v)) H') x.g S ht fun v F1 H1 z x1 r1 q1 => L.nx F1 H1 _ _ (x.trans x1) (set_sh S x1 r1 i) q1
  exact ⟨d, u, hd, mu, fun od => hb od⟩
/-! ### a, b = a list -/
@[simp] def dgLst (n : Nat) (h : DGs) : DG := fun d ρ Q => match d with
  | .list ds => ds.length = n ∧ h ds ρ Q
  | _ => False
theorem simg_lst {ks : List Nat} {n : Nat} {tgs : TGs} {dgs : DGs} (h : SimGs C ks tgs dgs) : SimG C ks (gLst C.K n tgs) (dgLst n dgs) := by
  intro H0 F H σ ρ v d Qd Q g S r ht k
  cases d with
  | list ds =>
    obtain ⟨a, vs, e, nS, q, l, rr⟩ := RP.list (C := C) (H := H) (.inl r) g
    subst e
    exact ⟨a, vs, rfl, SqL.of q, by rw [rr.length]; exact ht.1, h H0 F H σ ρ vs ds Qd Q g S rr ht.2 k⟩
  | _ => exact ht.elim
end
section
variable (K : PySem.W.Frag) {X : Cx} {es : List Expr} {pos : Pos}
theorem pg_lstK {k : Nat} {u : TGs} {n : Nat} (hc : X.calm = true) (h : PGs X es u) (hK : X.K = K) (hn : (assignEach es X.env).length = n := by rfl) (hst : (assignEach es X.env).findIdx? (·.1) = none := by rfl) : PG X (.Tuple es k pos) (gLst K n u) := by
  subst hK
  exact pg_lst hc h hn hst
end
/-! ### xs.remove(k) of a list of numbers that holds k -/
theorem takes_no {X : Cx} : Takes X (fun _ _ _ _ => False) := fun u s' ⟨a, B, sI, pins, σ, H, cls, d, e, I, nb, up, sky, na, os, ag, w⟩ => w.elim
@[simp] def dRem (i : Nat) (t : DE) : DS := fun D ρ => match ρ[i]? with
  | some (.ow (.list ds)) => t ρ fun d => ∃ (ns : List Int) (k : Int), ds = ns.map .int ∧ d = .int k ∧ k ∈ ns ∧ D.nx (ρ.set i (.ow (.list ((ns.erase k).map .int))))
  | _ => False
section
variable {C : Cfg}
theorem sims_rem {i : Nat} {th : TE} {t : DE} (h : SimE C th t) : SimS C (tDrop (tRemX C.K (fun _ _ _ _ => False) (tVar i) th)) (dRem i t) := by
  intro F0 H0 F H σ ρ D DH x S ht L
  unfold dRem at ht
  split at ht
  · rename_i ds e
    obtain ⟨o, e2, p, e3, r⟩ := S.at e
    subst e3
    obtain ⟨vs, ev, l, rv⟩ := id r.ct
    refine ⟨_, e2, .inl ⟨rfl, vs, SqL.of ev⟩, ?_⟩
    refine h H0 F H σ ρ _ _ x.g S ht fun v F1 H1 d x1 r1 ⟨ns, k, e4, e5, hk, q1⟩ => ?_
    subst e4 e5
    have S1 := S.ext x1
    obtain ⟨vs1, ev1, l1, rv1⟩ := id (r.ext x1).ct
    have hv := rv1.ints
    subst hv
    cases r1
    have hle : (ns.erase k).length ≤ ns.length := List.length_erase_le
    have re : ∀ ms : List Int, RL C.K F1 (ms.map V.int) (ms.map .int) := fun ms => by
      induction ms with
      | nil => exact .nil
      | cons a ms ih => exact .cons (.int a) ih
    obtain ⟨y, T⟩ := own_write (o' := .lst ((ns.erase k).map V.int)) (d' := .list ((ns.erase k).map .int)) (x.trans x1) S1 e e2 (r.ext x1) ⟨_, upd_same, by rw [List.length_map] at l1 ⊢; omega, re _⟩
    exact ⟨p, ns, k, rfl, rfl, ev1, fun _ => L.nx F1 _ σ _ y T q1, fun z => absurd hk z⟩
  · exact ht.elim
end
end VL

set_option Elab.async false
set_option linter.all false
set_option maxRecDepth 100000
set_option maxHeartbeats 4000000
/-! VLY: min and max of two data; one of two shapes. -/
namespace VL
open PySem PySem.Spec PyProof.Rows L2 PySem.SeqAt
section
variable {prog : Program} {w : World} {A : Around} {E : Value → Shared → Prop} {s : Shared}
theorem args_max2' (a b : Value) : argsOk "max" ⟨[a, b], []⟩ := by unfold argsOk; kernel_rfl
theorem call_min_twoH {a b : Value} {Q : Value → Shared → Prop}
    (h : wpAny (model prog w) A.in1 (pyIter (.ref s.heap.objs.size)) (fun it s₂ => ∃ I fp wr G n P St H bt, it = .ref I ∧ WalksS prog w A.in1 I fp wr G n P St ∧ St 0 s₂ ∧ (∀ b ∈ fp, b < s₂.heap.objs.size) ∧ 0 < n ∧
      (∀ b o, H.get? b = some o → b ∉ wr) ∧ (∀ b o, H.get? b = some o → s₂.heap.get? b = some o) ∧ CmpIn prog w A.in1 .Lt H P bt ∧ ∀ v s', P (argBest bt (n - 1)) v → Moved wr G s₂ s' → Q v s') E
      { s with heap := s.heap.push { cls := .type "tuple", data := .seq #[a, b] } }) :
    wpAny (model prog w) A (call (.builtin "min") [a, b]) Q E s := by
  have hname : (toString "min" ++ toString ".loop" : String) = "min.loop" := by decide
  refine call_function_tree F.kind_min F.plain_min F.entry_min (F.args_min2 _ _) ?_
  show wpAny _ A.in1 (Builtin.Builtins.bindParams "min" ["key", "default"] 0 ⟨[], []⟩ >>= _) _ _ s
  refine wpAny_bind (wpAny_of_eq (show Builtin.Builtins.bindParams "min" ["key", "default"] 0 ⟨[], []⟩ = pure [none, none] from rfl) ?_)
  show wpAny _ A.in1 (newTuple [a, b] >>= _) _ _ s
  refine wpAny_bind (wpAny_newObj_type ?_)
  refine wpAny_bind (wpAny_mono h (fun it s₂ h₂ => ?_) fun _ _ e => e)
  obtain ⟨I, fp, wr, G, n, P, St, H, bt, rfl, W, hst, hfp, hn, hw, hkeep, hcmp, hQ⟩ := h₂
  refine wpAny_bind (wpAny_newObj_type ?_)
  have hSf : s₂.heap.objs.size ∉ fp := fun hm => Nat.lt_irrefl _ (hfp _ hm)
  rw [hname]
  refine wpAny_pure ⟨plainId_quiet F.plain_min_loop _, codeAny_min_loop_firstH W H hw bt hcmp s₂.heap.objs.size hSf (fresh_in hkeep) _ hn (fun b o e => Heap.get?_push_of_some _ (hkeep b o e)) (W.frame 0 s₂ _ s₂.toks hst (Nat.le_refl _) fun b _ o e => Heap.get?_push_of_some _ e) (Heap.get?_push_size _ rfl) fun v s' hP hm => ?_⟩
  exact hQ v s' hP (Moved.drop_new (tk := s₂.toks) hm (Nat.le_refl _))
theorem call_max_twoH {a b : Value} {Q : Value → Shared → Prop}
    (h : wpAny (model prog w) A.in1 (pyIter (.ref s.heap.objs.size)) (fun it s₂ => ∃ I fp wr G n P St H bt, it = .ref I ∧ WalksS prog w A.in1 I fp wr G n P St ∧ St 0 s₂ ∧ (∀ b ∈ fp, b < s₂.heap.objs.size) ∧ 0 < n ∧
      (∀ b o, H.get? b = some o → b ∉ wr) ∧ (∀ b o, H.get? b = some o → s₂.heap.get? b = some o) ∧ CmpIn prog w A.in1 .Gt H P bt ∧ ∀ v s', P (argBest bt (n - 1)) v → Moved wr G s₂ s' → Q v s') E
      { s with heap := s.heap.push { cls := .type "tuple", data := .seq #[a, b] } }) :
    wpAny (model prog w) A (call (.builtin "max") [a, b]) Q E s := by
  have hname : (toString "max" ++ toString ".loop" : String) = "max.loop" := by decide
  refine call_function_tree F.kind_max F.plain_max F.entry_max (args_max2' _ _) ?_
  show wpAny _ A.in1 (Builtin.Builtins.bindParams "max" ["key", "default"] 0 ⟨[], []⟩ >>= _) _ _ s
  refine wpAny_bind (wpAny_of_eq (show Builtin.Builtins.bindParams "max" ["key", "default"] 0 ⟨[], []⟩ = pure [none, none] from rfl) ?_)
  show wpAny _ A.in1 (newTuple [a, b] >>= _) _ _ s
  refine wpAny_bind (wpAny_newObj_type ?_)
  refine wpAny_bind (wpAny_mono h (fun it s₂ h₂ => ?_) fun _ _ e => e)
  obtain ⟨I, fp, wr, G, n, P, St, H, bt, rfl, W, hst, hfp, hn, hw, hkeep, hcmp, hQ⟩ := h₂
  refine wpAny_bind (wpAny_newObj_type ?_)
  have hSf : s₂.heap.objs.size ∉ fp := fun hm => Nat.lt_irrefl _ (hfp _ hm)
  rw [hname]
  refine wpAny_pure ⟨plainId_quiet F.plain_max_loop _, codeAny_max_loop_firstH W H hw bt hcmp s₂.heap.objs.size hSf (fresh_in hkeep) _ hn (fun b o e => Heap.get?_push_of_some _ (hkeep b o e)) (W.frame 0 s₂ _ s₂.toks hst (Nat.le_refl _) fun b _ o e => Heap.get?_push_of_some _ e) (Heap.get?_push_size _ rfl) fun v s' hP hm => ?_⟩
  exact hQ v s' hP (Moved.drop_new (tk := s₂.toks) hm (Nat.le_refl _))
theorem min_two_data {a b : Value} {x y : PyData} {as : List Addr} {Q : Value → Shared → Prop} (hh : A.handled = none) (hr : ReadsAll s.heap [a, b] [x, y] as) (ha : PySem.W.AlikeAll [x, y]) (hu : A.units + 1 + PyData.depthAll [x, y] < cLine)
    (h : ∀ h' tk, (∀ c o, s.heap.get? c = some o → h'.get? c = some o) → Q (if PySem.W.dataLt y x = true then b else a) { s with heap := h', toks := tk }) :
    wpAny (model prog w) A (call (.builtin "min") [a, b]) Q E s := by
  have kp : ∀ c o, s.heap.get? c = some o → (s.heap.push { cls := .type "tuple", data := .seq #[a, b] }).get? c = some o := fun c o e => Heap.get?_push_of_some _ e
  have hT : (s.heap.push { cls := .type "tuple", data := .seq #[a, b] }).IsTuple s.heap.objs.size #[a, b] := ⟨_, Heap.get?_push_size _ rfl, rfl, 0, rfl⟩
  have hr' : ReadsAll (s.heap.push { cls := .type "tuple", data := .seq #[a, b] }) [a, b] [x, y] as := ReadsAll.keeps kp hr
  refine call_min_twoH (PySem.W.iter_tupleW (A := A.in1) (s := { s with heap := s.heap.push { cls := .type "tuple", data := .seq #[a, b] } }) hh hT fun s₂ e W st hfp hw hk => ?_)
  refine ⟨_, _, _, _, _, _, _, s.heap.push { cls := .type "tuple", data := .seq #[a, b] }, _, rfl, W, st, hfp, by simp, hw, hk, PySem.W.cmpIn_lt (A := A.in1) (s := { s with heap := s.heap.push { cls := .type "tuple", data := .seq #[a, b] } }) hr' ha (by show A.units + 1 + _ < _; exact hu), fun v s' hP m => ?_⟩
  obtain ⟨h', tk, rfl, hk'⟩ := PySem.W.moved_old e rfl m
  have hv : v = if PySem.W.dataLt y x = true then b else a := by
    have e2 : argBest (fun i j => PySem.W.dataLt ([x, y].getD i .none) ([x, y].getD j .none)) 1 = if PySem.W.dataLt y x = true then 1 else 0 := rfl
    have hP : #[a, b][argBest (fun i j => PySem.W.dataLt ([x, y].getD i .none) ([x, y].getD j .none)) 1]? = some v := hP
    rw [e2] at hP
    split at hP <;> simp_all
  rw [hv]
  exact h h' tk fun c o e3 => hk' c o (kp c o e3)
theorem max_two_data {a b : Value} {x y : PyData} {as : List Addr} {Q : Value → Shared → Prop} (hh : A.handled = none) (hr : ReadsAll s.heap [a, b] [x, y] as) (ha : PySem.W.AlikeAll [x, y]) (hu : A.units + 1 + PyData.depthAll [x, y] < cLine)
    (h : ∀ h' tk, (∀ c o, s.heap.get? c = some o → h'.get? c = some o) → Q (if PySem.W.dataLt x y = true then b else a) { s with heap := h', toks := tk }) :
    wpAny (model prog w) A (call (.builtin "max") [a, b]) Q E s := by
  have kp : ∀ c o, s.heap.get? c = some o → (s.heap.push { cls := .type "tuple", data := .seq #[a, b] }).get? c = some o := fun c o e => Heap.get?_push_of_some _ e
  have hT : (s.heap.push { cls := .type "tuple", data := .seq #[a, b] }).IsTuple s.heap.objs.size #[a, b] := ⟨_, Heap.get?_push_size _ rfl, rfl, 0, rfl⟩
  have hr' : ReadsAll (s.heap.push { cls := .type "tuple", data := .seq #[a, b] }) [a, b] [x, y] as := ReadsAll.keeps kp hr
  refine call_max_twoH (PySem.W.iter_tupleW (A := A.in1) (s := { s with heap := s.heap.push { cls := .type "tuple", data := .seq #[a, b] } }) hh hT fun s₂ e W st hfp hw hk => ?_)
  refine ⟨_, _, _, _, _, _, _, s.heap.push { cls := .type "tuple", data := .seq #[a, b] }, _, rfl, W, st, hfp, by simp, hw, hk, PySem.W.cmpIn_gt (A := A.in1) (s := { s with heap := s.heap.push { cls := .type "tuple", data := .seq #[a, b] } }) hr' ha (by show A.units + 1 + _ < _; exact hu), fun v s' hP m => ?_⟩
  obtain ⟨h', tk, rfl, hk'⟩ := PySem.W.moved_old e rfl m
  have hv : v = if PySem.W.dataLt x y = true then b else a := by
    have e2 : argBest (fun i j => PySem.W.dataLt ([x, y].getD j .none) ([x, y].getD i .none)) 1 = if PySem.W.dataLt x y = true then 1 else 0 := rfl
    have hP : #[a, b][argBest (fun i j => PySem.W.dataLt ([x, y].getD j .none) ([x, y].getD i .none)) 1]? = some v := hP
    rw [e2] at hP
    split at hP <;> simp_all
  rw [hv]
  exact h h' tk fun c o e3 => hk' c o (kp c o e3)
end
def rMin2D (K : PySem.W.Frag) : List V → Hp → VK → Prop := fun xs H Q => ∃ u v x y F, xs = [u, v] ∧ Same F H ∧ RL K F [u, v] [x, y] ∧ PyData.plainAll [x, y] = true ∧ PySem.W.AlikeAll [x, y] ∧ PyData.depthAll [x, y] ≤ 60 ∧ Q (if PySem.W.dataLt y x = true then v else u) H
def rMax2D (K : PySem.W.Frag) : List V → Hp → VK → Prop := fun xs H Q => ∃ u v x y F, xs = [u, v] ∧ Same F H ∧ RL K F [u, v] [x, y] ∧ PyData.plainAll [x, y] = true ∧ PySem.W.AlikeAll [x, y] ∧ PyData.depthAll [x, y] ≤ 60 ∧ Q (if PySem.W.dataLt x y = true then v else u) H
section
variable {X : Cx}
theorem call_min2D (hc : X.calm = true) (hu : X.A.units + 200 < cLine) : CallR X (.builtin "min") (rMin2D X.K) := by
  intro pins s σ H xs us Q I r h
  obtain ⟨u, v, x, y, F, rfl, hF, rl, hp, ha, hd, q⟩ := h
  obtain ⟨a, b, rfl, ra, rb⟩ := vals2 r
  obtain ⟨as, rs⟩ := RL.reads I _ _ _ hp (rl.mono hF) r
  refine min_two_data (I.ok.hd hc) rs ha (by omega) fun h' tk kp => ⟨if PySem.W.dataLt y x = true then v else u, H, I.kept kp, ?_, q⟩
  split <;> assumption
theorem call_max2D (hc : X.calm = true) (hu : X.A.units + 200 < cLine) : CallR X (.builtin "max") (rMax2D X.K) := by
  intro pins s σ H xs us Q I r h
  obtain ⟨u, v, x, y, F, rfl, hF, rl, hp, ha, hd, q⟩ := h
  obtain ⟨a, b, rfl, ra, rb⟩ := vals2 r
  obtain ⟨as, rs⟩ := RL.reads I _ _ _ hp (rl.mono hF) r
  refine max_two_data (I.ok.hd hc) rs ha (by omega) fun h' tk kp => ⟨if PySem.W.dataLt x y = true then v else u, H, I.kept kp, ?_, q⟩
  split <;> assumption
theorem callR_or {f : Value} {r1 r2 : List V → Hp → VK → Prop} (h1 : CallR X f r1) (h2 : CallR X f r2) : CallR X f (fun xs H Q => r1 xs H Q ∨ r2 xs H Q) := fun pins s σ H xs us Q I r h => h.elim (h1 pins s σ H xs us Q I r) (h2 pins s σ H xs us Q I r)
def rMinA (K : PySem.W.Frag) : List V → Hp → VK → Prop := fun xs H Q => rMin2 xs H Q ∨ rMin2D K xs H Q
def rMaxA (K : PySem.W.Frag) : List V → Hp → VK → Prop := fun xs H Q => rMax2 xs H Q ∨ rMax2D K xs H Q
theorem call_minA (hc : X.calm = true) (hu : X.A.units + 200 < cLine) : CallR X (.builtin "min") (rMinA X.K) := callR_or (call_min2 hc) (call_min2D hc hu)
theorem call_maxA (hc : X.calm = true) (hu : X.A.units + 200 < cLine) : CallR X (.builtin "max") (rMaxA X.K) := callR_or (call_max2 hc) (call_max2D hc hu)
theorem pe_or' {e : Expr} {t1 t2 : TE} (h1 : PE X e t1) (h2 : PE X e t2) : PE X e (fun σ H Q => t1 σ H Q ∨ t2 σ H Q) := ⟨fun pins s σ H Q I h => h.elim (h1.run pins s σ H Q I) (h2.run pins s σ H Q I)⟩
end
@[simp] def dOrE (a b : DE) : DE := fun ρ Q => a ρ Q ∨ b ρ Q
@[simp] def dMinA : DB := fun xs Q => match xs with
  | [.int i, .int j] => Q (.int (if j < i then j else i))
  | [.tuple x, .tuple y] => PyData.plainAll [.tuple x, .tuple y] = true ∧ PySem.W.AlikeAll [.tuple x, .tuple y] ∧ PyData.depthAll [.tuple x, .tuple y] ≤ 60 ∧ Q (if PySem.W.dataLt (.tuple y) (.tuple x) = true then .tuple y else .tuple x)
  | _ => False
@[simp] def dMaxA : DB := fun xs Q => match xs with
  | [.int i, .int j] => Q (.int (if j > i then j else i))
  | [.tuple x, .tuple y] => PyData.plainAll [.tuple x, .tuple y] = true ∧ PySem.W.AlikeAll [.tuple x, .tuple y] ∧ PyData.depthAll [.tuple x, .tuple y] ≤ 60 ∧ Q (if PySem.W.dataLt (.tuple x) (.tuple y) = true then .tuple y else .tuple x)
  | _ => False
section
variable {C : Cfg}
theorem sim_orE {ta tb : TE} {a b : DE} (ha : SimE C ta a) (hb : SimE C tb b) : SimE C (fun σ H Q => ta σ H Q ∨ tb σ H Q) (dOrE a b) := by
  intro H0 F H σ ρ Qd Q g S ht k
  rcases ht with h | h
  · exact .inl (ha H0 F H σ ρ Qd Q g S h k)
  · exact .inr (hb H0 F H σ ρ Qd Q g S h k)
theorem rp_tupR {F H : Hp} {v : V} {xs : List PyData} (r : RP C F H v (.tuple xs)) : R C.K F v (.tuple xs) := by
  rcases r with r | ⟨a, _, _, c⟩
  · exact r
  · exact c.elim
theorem sb_minA : SimB C (rMinA C.K) dMinA := by
  intro F H xs ds Qd Q g rs h k
  unfold dMinA at h
  split at h
  · obtain ⟨v, w, e, r, r'⟩ := rps2 rs
    cases rp_int r
    cases rp_int r'
    subst e
    exact .inl ⟨_, _, rfl, k _ F H _ (.refl g) (.int _) h⟩
  · obtain ⟨v, w, e, r, r'⟩ := rps2 rs
    have r1 := rp_tupR r
    have r2 := rp_tupR r'
    subst e
    obtain ⟨h1, h2, h3, h4⟩ := h
    refine .inr ⟨v, w, _, _, F, rfl, g.fh, .cons r1 (.cons r2 .nil), h1, h2, h3, ?_⟩
    split at h4
    · rename_i hl
      rw [if_pos hl]
      exact k _ F H _ (.refl g) r2 h4
    · rename_i hl
      rw [if_neg hl]
      exact k _ F H _ (.refl g) r1 h4
  · exact h.elim
theorem sb_maxA : SimB C (rMaxA C.K) dMaxA := by
  intro F H xs ds Qd Q g rs h k
  unfold dMaxA at h
  split at h
  · obtain ⟨v, w, e, r, r'⟩ := rps2 rs
    cases rp_int r
    cases rp_int r'
    subst e
    exact .inl ⟨_, _, rfl, k _ F H _ (.refl g) (.int _) h⟩
  · obtain ⟨v, w, e, r, r'⟩ := rps2 rs
    have r1 := rp_tupR r
    have r2 := rp_tupR r'
    subst e
    obtain ⟨h1, h2, h3, h4⟩ := h
    refine .inr ⟨v, w, _, _, F, rfl, g.fh, .cons r1 (.cons r2 .nil), h1, h2, h3, ?_⟩
    split at h4
    · rename_i hl
      rw [if_pos hl]
      exact k _ F H _ (.refl g) r2 h4
    · rename_i hl
      rw [if_neg hl]
      exact k _ F H _ (.refl g) r1 h4
  · exact h.elim
end
end VL

set_option Elab.async false
set_option linter.all false
set_option maxRecDepth 100000
set_option maxHeartbeats 4000000
/-! VLSort: sorted(t) of a tuple. -/
namespace PySem.W
open PySem PySem.Calls PyProof.Rows
section
variable {prog : Program} {w : World} {A : Around} {E : Value → Shared → Prop} {s : Shared} {β : Type} {ws : List Value} {bs : List β} {enc : β → PyData} {R : Value → β → Prop}
theorem collect_tup {t : Addr} {Q : List Value → Shared → Prop} (ht : s.heap.IsTuple t ws.toArray)
    (q : Q ws { s with heap := (s.heap.push (seqObj "list" #[] 0)).update s.heap.objs.size (Obj.mapSeq (· ++ ws.toArray)) }) (hz : ws.length ≤ sizeLine) : wpAny (model prog w) A (collect (.ref t)) Q E s := by
  obtain ⟨ob, e1, e2, m, e3⟩ := id ht
  unfold collect
  refine wpAny_bind (wpAny_runValue (codeAny_builtin entry_proto_collect' ?_))
  show wpAny _ _ (do again (.builtin "list.__iadd__" ⟨[← newList [], .ref t], []⟩)) _ _ s
  refine wpAny_bind (wpAny_newList (wpAny_pure ⟨Code.quiet_builtin _ (by decide +kernel), codeAny_builtin entry_list_iadd' ?_⟩))
  show wpAny _ _ (Builtin.List.listExtendWith (.ref s.heap.objs.size) (.ref t) (.ref s.heap.objs.size)) _ _ { s with heap := s.heap.push (seqObj "list" #[] 0) }
  unfold Builtin.List.listExtendWith
  have e4 : (s.heap.push (seqObj "list" #[] 0)).get? t = some ob := Heap.get?_push_of_some _ e1
  refine wpAny_bind (wpAny_typeOf (T := "tuple") ⟨ob, e4, e2⟩ ?_)
  have e5 : (Value.type "tuple" == Value.type "tuple") = true := by rfl
  rw [if_pos (by rw [e5, Bool.or_true])]
  refine wpAny_bind (listItems_at e4 e3 ?_)
  refine wpAny_bind (listItems_at (xs := #[]) (n := 0) (Heap.get?_push_size _ rfl) rfl ?_)
  rw [if_neg (by simp)]
  refine wpAny_bind (listUpdate_at (xs := #[]) (n := 0) (Heap.get?_push_size _ rfl) rfl ?_ (Nat.zero_le _) (by show (#[] ++ ws.toArray).size ≤ sizeLine + 1; simp only [Array.size_append, List.size_toArray, List.length_nil]; omega))
  refine wpAny_pure ?_
  show wpAny (model prog w) A (do
      let o ← load s.heap.objs.size
      match o.data with
      | .seq xs _ => pure xs.toList
      | _ => unsupported "internal:collect") Q E { s with heap := (s.heap.push (seqObj "list" #[] 0)).update s.heap.objs.size (Obj.mapSeq (· ++ ws.toArray)) }
  refine wpAny_bind (wpAny_load (get?_update_seq (Heap.get?_push_size _ rfl) _) ?_)
  show wpAny _ _ (pure ((#[] : Array Value) ++ ws.toArray).toList) Q E _
  rw [show ((#[] : Array Value) ++ ws.toArray).toList = ws by simp]
  exact wpAny_pure q
theorem sorted_tup {t : Addr} {Q : Value → Shared → Prop} (ht : s.heap.IsTuple t ws.toArray) (e : EachIs R ws bs) (er : EachIs (fun v b => ∃ as, Reads s.heap v (enc b) as) ws bs) (hal : AllAlike (bs.map enc)) (hk : Sortable (bs.map enc)) (hL : bs.length ≤ sizeLine)
    (hu : ∀ b, b ∈ bs → A.units + 2 + (enc b).depth < cLine) (h : ∀ out, out.length = bs.length → EachIs R out (bs.mergeSort (dataLe false enc)) → Q (.ref (s.heap.objs.size + 1)) { s with heap := sortedAll s.heap ws (List.toArray out) }) :
    wpAny (model prog w) A (call (.builtin "sorted") [.ref t]) Q E s := by
  have hz : ws.length ≤ sizeLine := by rw [e.length]; exact hL
  have er2 : EachIs (fun v b => ∃ as, Reads (sortingHeap (copyHeap s.heap ws) (s.heap.objs.size + 1) ws) v (enc b) as) ws bs := er.mono fun _ _ ⟨as, r⟩ => ⟨as, PyProof.Rows.Reads.keeps (fun _ _ => sorting_copy_old) r⟩
  have S := SortsAt.data (prog := prog) (w := w) (A := A.in1.in1) (s := { s with heap := sortingHeap (copyHeap s.heap ws) (s.heap.objs.size + 1) ws }) (each_map (R := fun v d => ∃ as, Reads (sortingHeap (copyHeap s.heap ws) (s.heap.objs.size + 1) ws) v d as) enc er2) hal hk (bound_map hu)
  have fin := h _ (by rw [sortVals_length false rfl]; exact e.length) (sortVals_data false e er2 hal)
  refine call_function_entry_kw kind_sorted plain_sorted entry_sorted (args_sorted1 _) ?_
  unfold Builtin.«sorted»
  refine wpAny_bind (m := checkCount "sorted" 1 1 _) (wpAny_pure ?_)
  refine wpAny_bind (collect_tup ht ?_ hz)
  refine wpAny_bind (wpAny_newList ?_ hz)
  have z : ((s.heap.push (seqObj "list" #[] 0)).update s.heap.objs.size (Obj.mapSeq (· ++ ws.toArray))).objs.size = s.heap.objs.size + 1 := by rw [Heap.size_update, size_push']
  show wpAny _ _ _ _ _ { s with heap := copyHeap s.heap ws }
  rw [z]
  refine wpAny_bind (wpAny_holding (wpAny_call_entry_kw slot_list_sort ⟨_, copyHeap_at s.heap ws, rfl⟩ entry_list_sort ?body (args_list_sort _)))
  case body =>
    refine wpAny_mono (list_sort_vals (P := fun f s' => f = .done (.ret .none) ∧ Q (.ref (s.heap.objs.size + 1)) s') (s := { s with heap := copyHeap s.heap ws }) (copyHeap_at s.heap ws) S hz ⟨rfl, fin⟩) (fun f s' hf => ?_) fun _ _ e => e
    obtain ⟨rfl, hq⟩ := hf
    exact ⟨_, rfl, wpAny_pure ⟨_, rfl, hq⟩⟩
end
end PySem.W
namespace VL
open PySem PySem.Spec PyProof.Rows L2
open PySem.W (EachIs AllAlike Sortable dataLe sorted_tup)
def rSortT (K : PySem.W.Frag) : List V → Hp → VK → Prop := fun xs H Q => ∃ a vs ds F, xs = [V.ref a] ∧ SqT K H a vs ∧ Same F H ∧ RL K F vs ds ∧ ds.length ≤ sizeLine ∧ (PyData.plainAll ds = true ∧ AllAlike ds ∧ Sortable ds ∧ PyData.depthAll ds ≤ 60) ∧
  ∀ ys q, RL K F ys (ds.mergeSort keyLe) → H q = none → Q (.ref q) (upd H q (.lst ys))
section
variable {X : Cx}
theorem call_sortedT (hu : X.A.units + 200 < cLine) : CallR X (.builtin "sorted") (rSortT X.K) := by
  rintro pins s σ H xs us Q I r ⟨a, vs, ds, F, rfl, hs, hF, ha, hz, ⟨hp, hal, hk, hdp⟩, q⟩
  obtain ⟨u, rfl, rx⟩ := vals1 r
  obtain rfl : u = Value.ref a := rx
  obtain ⟨ws, rv, p, hlen⟩ := I.tuple hs
  obtain ⟨as, rs⟩ := RL.reads I ds _ ws hp (ha.mono hF) rv
  obtain ⟨e1, e2⟩ := each_of ha rv rs
  have hzs := zip_snd ha.length
  refine sorted_tup (enc := fun b : V × PyData => b.2) p e1 e2 (by rwa [hzs]) (by rwa [hzs]) (by rw [List.length_zip, ha.length, Nat.min_self]; exact hz) (fun b hb => ?_) fun out _ eo => ?_
  · have hm : b.2 ∈ ds := by rw [← hzs]; exact List.mem_map.mpr ⟨b, hb, rfl⟩
    have := depth_mem hm
    omega
  · obtain ⟨rv2, rl2⟩ := each_back eo
    obtain ⟨c, hc⟩ := sortedAll_at s.heap ws out.toArray
    have em : ((vs.zip ds).mergeSort (dataLe false fun b : V × PyData => b.2)).map (·.2) = ds.mergeSort keyLe := by
      have := List.map_mergeSort (r := dataLe false fun b : V × PyData => b.2) (s := keyLe) (f := fun b : V × PyData => b.2) (l := vs.zip ds) (fun a _ b _ => rfl)
      rwa [hzs] at this
    rw [em] at rl2
    have hz2 : (out.length) = out.length := rfl
    refine ⟨.ref (s.heap.objs.size + 1), upd H (s.heap.objs.size + 1) (.lst _), I.laid (t' := s.toks) (fun b o e => sortedAll_old e) (Nat.le_succ _) (show ObjOk X.prog X.w _ _ _ (.lst _) from ⟨by rw [rl2.length, List.length_mergeSort]; exact hz, out, c, rv2, hc⟩), rfl, q _ _ rl2 (I.hok.fresh (Nat.le_succ _))⟩
end
@[simp] def dSortedT : DB := fun xs Q => match xs with
  | [.tuple ds] => PyData.plainAll ds = true ∧ AllAlike ds ∧ Sortable ds ∧ PyData.depthAll ds ≤ 60 ∧ Q (.list (ds.mergeSort keyLe))
  | _ => False
section
variable {C : Cfg}
theorem sbF_sortedT : SimBF C (rSortT C.K) dSortedT := by
  intro F H xs ds Qd Q g rs h k
  unfold dSortedT at h
  split at h
  · obtain ⟨v, e, r⟩ := rps1 rs
    rename_i es
    obtain ⟨h1, h2, h3, h4, h5⟩ := h
    obtain ⟨a, vs, rfl, hv, l, rl⟩ := r.tuple
    refine ⟨a, vs, es, F, e, sqN_T g.fh hv, g.fh, rl, l, ⟨h1, h2, h3, h4⟩, fun ys q hy hq => ?_⟩
    exact k q F _ (.list (es.mergeSort keyLe)) (.newO g hq _) (own_at g hq ⟨ys, upd_same, by rw [List.length_mergeSort]; exact l, hy⟩) h5
  · exact h.elim
/-- sorted(x) of a list or a tuple -/
def rSortA (K : PySem.W.Frag) : List V → Hp → VK → Prop := fun xs H Q => rSortD K xs H Q ∨ rSortT K xs H Q
theorem call_sortedA {X : Cx} (hu : X.A.units + 200 < cLine) : CallR X (.builtin "sorted") (rSortA X.K) := fun pins s σ H xs us Q I r h => h.elim (call_sortedR hu pins s σ H xs us Q I r) (call_sortedT hu pins s σ H xs us Q I r)
@[simp] def dSortedA : DB := fun xs Q => match xs with
  | [.tuple ds] => PyData.plainAll ds = true ∧ AllAlike ds ∧ Sortable ds ∧ PyData.depthAll ds ≤ 60 ∧ Q (.list (ds.mergeSort keyLe))
  | [.list ds] => PyData.plainAll ds = true ∧ AllAlike ds ∧ Sortable ds ∧ PyData.depthAll ds ≤ 60 ∧ Q (.list (ds.mergeSort keyLe))
  | _ => False
theorem sbF_sortedA : SimBF C (rSortA C.K) dSortedA := by
  intro F H xs ds Qd Q g rs h k
  unfold dSortedA at h
  split at h
  · exact .inr (sbF_sortedT F H xs _ Qd Q g rs h k)
  · exact .inl (sbF_sorted F H xs _ Qd Q g rs h k)
  · exact h.elim
end
end VL

set_option Elab.async false
set_option linter.all false
set_option maxRecDepth 100000
set_option maxHeartbeats 4000000
/-! PLan: plans as data, without any program. -/
namespace PL
open PySem VL
/-! ### running the data level -/
@[simp] theorem line_eq : sizeLine = 16777216 := sizeLine_eq
theorem ofS_inj {a b : String} (h : Str.ofString a = Str.ofString b) : a = b := by
  rw [Str.ofString_eq_toList, Str.ofString_eq_toList] at h
  have h1 : a.toList.map Char.toNat = b.toList.map Char.toNat := by
    have := congrArg (fun s : Str => s.cps.toList) h
    simpa using this
  have h2 : a.toList = b.toList := by
    exact (List.map_inj_right fun x y e => Char.ext (UInt32.toNat_inj.mp e)).mp h1
  exact String.toList_inj.mp h2
@[simp] theorem ofS_eq (a b : String) : (Str.ofString a = Str.ofString b) = (a = b) := propext ⟨ofS_inj, fun h => by rw [h]⟩
@[simp] theorem okD_str (x : Str) : okD (.str x) = True := by simp [okD, PyData.plain, PyData.depth]
@[simp] theorem okD_int (x : Int) : okD (.int x) = True := by simp [okD, PyData.plain, PyData.depth]
@[simp] theorem okD_bool (x : Bool) : okD (.bool x) = True := by simp [okD, PyData.plain, PyData.depth]
@[simp] theorem okD_none : okD .none = True := by simp [okD, PyData.plain, PyData.depth]
@[simp] theorem okD_nil : okD (.list []) = True := by simp [okD, PyData.plain, PyData.plainAll, PyData.depth, PyData.depthAll]
@[simp] theorem okD_nilT : okD (.tuple []) = True := by simp [okD, PyData.plain, PyData.plainAll, PyData.depth, PyData.depthAll]
@[simp] theorem eqv_str (a b : Str) : PyData.eqv (.str a) (.str b) = decide (a = b) := by
  by_cases h : a = b <;> simp [PyData.eqv, h]
@[simp] theorem eqv_int (a b : Int) : PyData.eqv (.int a) (.int b) = decide (a = b) := by
  by_cases h : a = b <;> simp [PyData.eqv, h]
@[simp] theorem eqv_bool (a b : Bool) : PyData.eqv (.bool a) (.bool b) = decide (a = b) := by
  by_cases h : a = b <;> simp [PyData.eqv, h]
@[simp] theorem eqv_list (a b : List PyData) : PyData.eqv (.list a) (.list b) = PyData.eqvAll a b := by simp [PyData.eqv]
@[simp] theorem eqv_tuple (a b : List PyData) : PyData.eqv (.tuple a) (.tuple b) = PyData.eqvAll a b := by simp [PyData.eqv]
@[simp] theorem eqvAll_nn : PyData.eqvAll [] [] = true := by simp [PyData.eqvAll]
@[simp] theorem eqvAll_cn (x : PyData) (xs : List PyData) : PyData.eqvAll (x :: xs) [] = false := by simp [PyData.eqvAll]
@[simp] theorem eqvAll_nc (x : PyData) (xs : List PyData) : PyData.eqvAll [] (x :: xs) = false := by simp [PyData.eqvAll]
@[simp] theorem eqvAll_cc (x y : PyData) (xs ys : List PyData) : PyData.eqvAll (x :: xs) (y :: ys) = (PyData.eqv x y && PyData.eqvAll xs ys) := by simp [PyData.eqvAll]
@[simp] theorem eqvAll_nil (xs : List PyData) : PyData.eqvAll xs [] = xs.isEmpty := by cases xs <;> simp
@[simp] theorem plainAll_nil : PyData.plainAll [] = true := by simp [PyData.plainAll]
@[simp] theorem plainAll_cons (x : PyData) (xs : List PyData) : PyData.plainAll (x :: xs) = (x.plain && PyData.plainAll xs) := by simp [PyData.plainAll]
@[simp] theorem plain_str (x : Str) : PyData.plain (.str x) = true := by simp [PyData.plain]
@[simp] theorem plain_int (x : Int) : PyData.plain (.int x) = true := by simp [PyData.plain]
@[simp] theorem plain_bool (x : Bool) : PyData.plain (.bool x) = true := by simp [PyData.plain]
@[simp] theorem plain_list (x : List PyData) : PyData.plain (.list x) = PyData.plainAll x := by simp [PyData.plain]
@[simp] theorem plain_tuple (x : List PyData) : PyData.plain (.tuple x) = PyData.plainAll x := by simp [PyData.plain]
theorem atI_nat {α : Type} (xs : List α) (n : Nat) : L2.atI xs (n : Int) = xs[n]? := by
  unfold L2.atI L2.ixN
  rw [if_pos (Int.natCast_nonneg n)]
  by_cases h : n < xs.length
  · rw [if_pos (by omega)]; simp
  · rw [if_neg (by omega)]; simp; omega
@[simp] theorem atI_0 {α : Type} (a : α) (l : List α) : L2.atI (a :: l) 0 = some a := atI_nat _ 0
@[simp] theorem atI_1 {α : Type} (a b : α) (l : List α) : L2.atI (a :: b :: l) 1 = some b := atI_nat _ 1
@[simp] theorem atI_2 {α : Type} (a b c : α) (l : List α) : L2.atI (a :: b :: c :: l) 2 = some c := atI_nat _ 2
@[simp] theorem atI_3 {α : Type} (a b c d : α) (l : List α) : L2.atI (a :: b :: c :: d :: l) 3 = some d := atI_nat _ 3
@[simp] theorem atI_4 {α : Type} (a b c d e : α) (l : List α) : L2.atI (a :: b :: c :: d :: e :: l) 4 = some e := atI_nat _ 4
@[simp] theorem truthy_bool (b : Bool) : PyData.truthy (.bool b) = b := by cases b <;> rfl
@[simp] theorem slot_d (x : PyData) : slotOf (.d x) = .sh x := rfl
@[simp] theorem slot_s : slotOf .s = .so := rfl
@[simp] theorem ctlS_sh (Q : PyData → Prop) (d : PyData) : (ctlS Q).rt (.sh d) = Q d := rfl
@[simp] theorem ctlS_ow (Q : PyData → Prop) (d : PyData) : (ctlS Q).rt (.ow d) = Q d := rfl
@[simp] theorem ctlS_nx (Q : PyData → Prop) (ρ : Vn) : (ctlS Q).nx ρ = Q .none := rfl
/-- a comprehension whose parts are functions -/
theorem lcD_fn {α : Type} (enc : α → PyData) (p : α → Bool) (f : α → PyData) {g : DG} {u : DT} {te : DE} {ρ : Vn} {Q : PyData → Prop} : ∀ (xs : List α) (acc : List PyData),
    (∀ x ∈ xs, ∀ k : Option PyData → Prop, k (if p x = true then some (f x) else none) → g (enc x) ρ fun ρ1 => u ρ1 fun b => if b = true then te ρ1 fun y => k (some y) else k none) →
    Q (.list (acc ++ (xs.filter p).map f)) → lcD g u te ρ (xs.map enc) acc Q
  | [], acc, _, h => by simpa using h
  | x :: xs, acc, hs, h => by
    refine hs x (List.mem_cons_self ..) (fun o => match o with
      | some y => lcD g u te ρ (xs.map enc) (acc ++ [y]) Q
      | none => lcD g u te ρ (xs.map enc) acc Q) ?_
    by_cases hp : p x = true
    · rw [if_pos hp]
      refine lcD_fn enc p f xs _ (fun y hy => hs y (List.mem_cons_of_mem _ hy)) ?_
      simpa [List.filter_cons, hp] using h
    · rw [if_neg hp]
      refine lcD_fn enc p f xs _ (fun y hy => hs y (List.mem_cons_of_mem _ hy)) ?_
      simpa [List.filter_cons, hp] using h
/-- .. without a test -/
theorem lcD_map {α : Type} (enc : α → PyData) (f : α → PyData) {g : DG} {te : DE} {ρ : Vn} {Q : PyData → Prop} (xs : List α) (hs : ∀ x ∈ xs, ∀ k : PyData → Prop, k (f x) → g (enc x) ρ fun ρ1 => te ρ1 k) (h : Q (.list (xs.map f))) : lcD g dYes te ρ (xs.map enc) [] Q := by
  refine lcD_fn enc (fun _ => true) f xs [] (fun x hx k hk => ?_) ?_
  · simpa using hs x hx (fun y => k (some y)) (by simpa using hk)
  · have e : xs.filter (fun _ => true) = xs := List.filter_eq_self.mpr fun _ _ => rfl
    rw [e]
    exact h
/-- a loop by what stands before each turn -/
theorem forD_rule {α : Type} (enc : α → PyData) (P : List α → Vn → Prop) {g : DG} {b : DS} {D : Ctl} (hstep : ∀ x xs ρ, P (x :: xs) ρ → ∀ D' : Ctl, D'.rt = D.rt → D'.bk = D.nx → (∀ ρ', P xs ρ' → D'.nx ρ' ∧ D'.ct ρ') → g (enc x) ρ fun ρ1 => b D' ρ1)
    (hdone : ∀ ρ, P [] ρ → D.nx ρ) : ∀ (xs : List α) (ρ : Vn), P xs ρ → forD g b D (xs.map enc) ρ
  | [], ρ, h => hdone ρ h
  | x :: xs, ρ, h => hstep x xs ρ h { D with nx := forD g b D (xs.map enc), ct := forD g b D (xs.map enc), bk := D.nx } rfl rfl fun ρ' h' => ⟨forD_rule enc P hstep hdone xs ρ' h', forD_rule enc P hstep hdone xs ρ' h'⟩
def enumF {α : Type} (enc : α → PyData) : Nat → List α → List PyData
  | _, [] => []
  | i, x :: xs => .tuple [.int (i : Nat), enc x] :: enumF enc (i + 1) xs
theorem enumF_eq {α : Type} (enc : α → PyData) : ∀ (i : Nat) (xs : List α), (xs.map enc).mapIdx (fun j d => PyData.tuple [.int ((i + j : Nat) : Int), d]) = enumF enc i xs
  | _, [] => rfl
  | i, x :: xs => by
    rw [List.map_cons, List.mapIdx_cons, enumF, ← enumF_eq enc (i + 1) xs]
    congr 2
    funext j d
    have e : i + (j + 1) = i + 1 + j := by omega
    rw [e]
theorem enumD_eq {α : Type} (enc : α → PyData) (xs : List α) : enumD (xs.map enc) = enumF enc 0 xs := by
  rw [← enumF_eq]
  unfold enumD
  simp
theorem forE_rule {α : Type} (enc : α → PyData) (P : Nat → List α → Vn → Prop) {g : DG} {b : DS} {D : Ctl} (hstep : ∀ i x xs ρ, P i (x :: xs) ρ → ∀ D' : Ctl, D'.rt = D.rt → D'.bk = D.nx → (∀ ρ', P (i + 1) xs ρ' → D'.nx ρ' ∧ D'.ct ρ') → g (.tuple [.int (i : Nat), enc x]) ρ fun ρ1 => b D' ρ1)
    (hdone : ∀ i ρ, P i [] ρ → D.nx ρ) : ∀ (i : Nat) (xs : List α) (ρ : Vn), P i xs ρ → forD g b D (enumF enc i xs) ρ
  | i, [], ρ, h => hdone i ρ h
  | i, x :: xs, ρ, h => hstep i x xs ρ h { D with nx := forD g b D (enumF enc (i + 1) xs), ct := forD g b D (enumF enc (i + 1) xs), bk := D.nx } rfl rfl fun ρ' h' => ⟨forE_rule enc P hstep hdone (i + 1) xs ρ' h', forE_rule enc P hstep hdone (i + 1) xs ρ' h'⟩
/-- the same, from 0 -/
theorem forE_0 {α : Type} (enc : α → PyData) (P : Nat → List α → Vn → Prop) {g : DG} {b : DS} {D : Ctl} {xs : List α} {ρ : Vn} (h : P 0 xs ρ) (hstep : ∀ i x xs ρ, P i (x :: xs) ρ → ∀ D' : Ctl, D'.rt = D.rt → D'.bk = D.nx → (∀ ρ', P (i + 1) xs ρ' → D'.nx ρ' ∧ D'.ct ρ') → g (.tuple [.int (i : Nat), enc x]) ρ fun ρ1 => b D' ρ1)
    (hdone : ∀ i ρ, P i [] ρ → D.nx ρ) : forD g b D (enumD (xs.map enc)) ρ := by
  rw [enumD_eq]
  exact forE_rule enc P hstep hdone 0 xs ρ h
/-! ### plans -/
inductive Gw where
  | row | side | els
  deriving DecidableEq
inductive Kd where
  | undoable | sure | both | neither
  deriving DecidableEq
inductive Wd where
  | fresh | done | failed | undone
  deriving DecidableEq
def Gw.s : Gw → Str
  | .row => "row"
  | .side => "side"
  | .els => "else"
def Kd.s : Kd → Str
  | .undoable => "undoable"
  | .sure => "sure"
  | .both => "both"
  | .neither => "neither"
def Wd.s : Wd → Str
  | .fresh => "fresh"
  | .done => "done"
  | .failed => "failed"
  | .undone => "undone"
inductive Plan where
  | deed (n : Str) (k : Kd)
  | grp (w : Gw) (ms : List Plan)
namespace Plan
mutual
def d : Plan → PyData
  | deed n k => .tuple [.str "deed", .str n, .str k.s]
  | grp w ms => .tuple [.str w.s, .tuple (ds ms)]
def ds : List Plan → List PyData
  | [] => []
  | p :: ps => d p :: ds ps
end
mutual
def deeds : Plan → List (Str × Kd)
  | deed n k => [(n, k)]
  | grp _ ms => deedsL ms
def deedsL : List Plan → List (Str × Kd)
  | [] => []
  | p :: ps => deeds p ++ deedsL ps
end
mutual
def height : Plan → Nat
  | deed _ _ => 1
  | grp _ ms => heightL ms + 1
def heightL : List Plan → Nat
  | [] => 0
  | p :: ps => max (height p) (heightL ps)
end
mutual
def nodes : Plan → Nat
  | deed _ _ => 1
  | grp _ ms => nodesL ms + 1
def nodesL : List Plan → Nat
  | [] => 0
  | p :: ps => nodes p + nodesL ps
end
mutual
/-- no group is empty -/
def ok : Plan → Prop
  | deed _ _ => True
  | grp _ ms => ms ≠ [] ∧ okL ms
def okL : List Plan → Prop
  | [] => True
  | p :: ps => ok p ∧ okL ps
end
def de (x : Str × Kd) : PyData := .tuple [.str "deed", .str x.1, .str x.2.s]
theorem ds_map : ∀ ms : List Plan, ds ms = ms.map d
  | [] => rfl
  | p :: ps => by rw [ds, ds_map ps]; rfl
theorem deedsL_flat : ∀ ms : List Plan, deedsL ms = (ms.map deeds).flatten
  | [] => rfl
  | p :: ps => by rw [deedsL, deedsL_flat ps]; rfl
theorem okL_mem : ∀ {ms : List Plan}, okL ms → ∀ m ∈ ms, ok m
  | p :: ps, h, m, hm => by
    rcases List.mem_cons.mp hm with z | z
    · rw [z]; exact h.1
    · exact okL_mem h.2 m z
theorem heightL_mem : ∀ {ms : List Plan} {m : Plan}, m ∈ ms → height m ≤ heightL ms
  | p :: ps, m, hm => by
    rw [heightL]
    rcases List.mem_cons.mp hm with z | z
    · rw [z]; exact Nat.le_max_left _ _
    · exact Nat.le_trans (heightL_mem z) (Nat.le_max_right _ _)
theorem nodesL_mem : ∀ {ms : List Plan} {m : Plan}, m ∈ ms → nodes m ≤ nodesL ms
  | p :: ps, m, hm => by
    rw [nodesL]
    rcases List.mem_cons.mp hm with z | z
    · rw [z]; exact Nat.le_add_right _ _
    · exact Nat.le_trans (nodesL_mem z) (Nat.le_add_left _ _)
mutual
theorem deeds_le : ∀ p : Plan, (deeds p).length ≤ nodes p
  | deed n k => Nat.le_refl _
  | grp w ms => by
    rw [deeds, nodes]
    exact Nat.le_succ_of_le (deedsL_le ms)
theorem deedsL_le : ∀ ms : List Plan, (deedsL ms).length ≤ nodesL ms
  | [] => Nat.le_refl _
  | p :: ps => by
    rw [deedsL, nodesL, List.length_append]
    exact Nat.add_le_add (deeds_le p) (deedsL_le ps)
end
theorem len_le_nodesL : ∀ ms : List Plan, ms.length ≤ nodesL ms
  | [] => Nat.le_refl _
  | p :: ps => by
    have h1 : 1 ≤ nodes p := by cases p <;> simp [nodes]
    have h2 := len_le_nodesL ps
    rw [nodesL, List.length_cons]
    omega
@[simp] def mems : Plan → List Plan
  | deed _ _ => []
  | grp _ ms => ms
/-! places -/
mutual
/-- every part with its place, from the top -/
def placed : Plan → List (List Nat × Plan)
  | deed n k => [([], deed n k)]
  | grp w ms => ([], grp w ms) :: placedL 0 ms
def placedL : Nat → List Plan → List (List Nat × Plan)
  | _, [] => []
  | i, p :: ps => ((placed p).map fun q => (i :: q.1, q.2)) ++ placedL (i + 1) ps
end
theorem placed_eq (p : Plan) : placed p = ([], p) :: placedL 0 (mems p) := by cases p <;> rfl
theorem placedL_cons (i : Nat) (p : Plan) (ps : List Plan) : placedL i (p :: ps) = ((placed p).map fun q => (i :: q.1, q.2)) ++ placedL (i + 1) ps := by rw [placedL]
theorem mems_height {p m : Plan} (h : m ∈ mems p) : height m < height p := by
  cases p with
  | deed n k => simp at h
  | grp w ms =>
    have := heightL_mem (show m ∈ ms from h)
    rw [height]
    omega
theorem mems_nodes {p m : Plan} (h : m ∈ mems p) : nodes m < nodes p := by
  cases p with
  | deed n k => simp at h
  | grp w ms =>
    have := nodesL_mem (show m ∈ ms from h)
    rw [nodes]
    omega
@[simp] def pl (q : List Nat) : PyData := .tuple (q.map fun (i : Nat) => .int i)
mutual
theorem placed_len : ∀ p : Plan, (placed p).length = nodes p
  | deed n k => rfl
  | grp w ms => by
    rw [placed, nodes, List.length_cons, placedL_len 0 ms]
theorem placedL_len : ∀ (i : Nat) (ms : List Plan), (placedL i ms).length = nodesL ms
  | _, [] => rfl
  | i, p :: ps => by
    rw [placedL, nodesL, List.length_append, List.length_map, placed_len p, placedL_len (i + 1) ps]
end
def asDeed : Plan → Option (Str × Kd)
  | deed n k => some (n, k)
  | grp _ _ => none
def isDeed : Plan → Bool
  | deed _ _ => true
  | grp _ _ => false
@[simp] theorem isDeed_d (n : Str) (k : Kd) : isDeed (deed n k) = true := rfl
@[simp] theorem isDeed_g (w : Gw) (ms : List Plan) : isDeed (grp w ms) = false := rfl
@[simp] theorem asDeed_d (n : Str) (k : Kd) : asDeed (deed n k) = some (n, k) := rfl
@[simp] theorem asDeed_g (w : Gw) (ms : List Plan) : asDeed (grp w ms) = none := rfl
mutual
theorem placed_deeds : ∀ p : Plan, (placed p).filterMap (fun q => asDeed q.2) = deeds p
  | deed n k => rfl
  | grp w ms => by
    rw [placed, deeds, List.filterMap_cons, ← placedL_deeds 0 ms]
    rfl
theorem placedL_deeds : ∀ (i : Nat) (ms : List Plan), (placedL i ms).filterMap (fun q => asDeed q.2) = deedsL ms
  | _, [] => rfl
  | i, p :: ps => by
    rw [placedL, deedsL, List.filterMap_append, List.filterMap_map, placedL_deeds (i + 1) ps]
    congr 1
    exact placed_deeds p
end
mutual
theorem placed_depth : ∀ (p : Plan) (q : List Nat × Plan), q ∈ placed p → q.1.length < height p ∧ height q.2 ≤ height p ∧ nodes q.2 ≤ nodes p
  | deed n k, q, h => by
    have e : q = ([], deed n k) := by simpa [placed] using h
    subst e
    simp [height]
  | grp w ms, q, h => by
    rw [placed, List.mem_cons] at h
    rcases h with e | h
    · subst e
      simp [height]
    · have := placedL_depth 0 ms q h
      rw [height, nodes]
      omega
theorem placedL_depth : ∀ (i : Nat) (ms : List Plan) (q : List Nat × Plan), q ∈ placedL i ms → q.1.length ≤ heightL ms ∧ height q.2 ≤ heightL ms ∧ nodes q.2 ≤ nodesL ms
  | _, [], q, h => by simp [placedL] at h
  | i, p :: ps, q, h => by
    rw [placedL, List.mem_append] at h
    rw [heightL, nodesL]
    rcases h with h | h
    · obtain ⟨r, hr, e⟩ := List.mem_map.mp h
      subst e
      have := placed_depth p r hr
      simp only [List.length_cons]
      omega
    · have := placedL_depth (i + 1) ps q h
      omega
end
/-! words -/
def wds (σ : Str → Wd) (p : Plan) : PyData := .tuple ((deeds p).map fun x => .str (σ x.1).s)
def hasDone (σ : Str → Wd) (p : Plan) : Bool := (deeds p).any fun x => decide (σ x.1 = .done)
mutual
def lost (σ : Str → Wd) : Plan → Bool
  | deed n _ => decide (σ n = .failed)
  | grp .els ms => lastL σ ms
  | grp .row ms => anyL σ ms
  | grp .side ms => anyL σ ms
/-- the last one is lost -/
def lastL (σ : Str → Wd) : List Plan → Bool
  | [] => false
  | [p] => lost σ p
  | _ :: p :: ps => lastL σ (p :: ps)
def anyL (σ : Str → Wd) : List Plan → Bool
  | [] => false
  | p :: ps => lost σ p || anyL σ ps
end
theorem anyL_eq (σ : Str → Wd) : ∀ ms : List Plan, anyL σ ms = ms.any (lost σ)
  | [] => rfl
  | p :: ps => by rw [anyL, anyL_eq σ ps]; rfl
theorem lastL_eq (σ : Str → Wd) : ∀ ms : List Plan, ms ≠ [] → (ms.map (lost σ)).getLast? = some (lastL σ ms)
  | [p], _ => rfl
  | _ :: p :: ps, _ => by
    rw [lastL, ← lastL_eq σ (p :: ps) (by simp)]
    simp
def stays (σ : Str → Wd) (m : Plan) : Bool := !lost σ m || hasDone σ m
/-- where the force lies -/
def force (σ : Str → Wd) (ms : List Plan) : Nat := if ms.findIdx (stays σ) < ms.length then ms.findIdx (stays σ) else ms.length - 1
theorem force_lt (σ : Str → Wd) {ms : List Plan} (h : ms ≠ []) : force σ ms < ms.length := by
  unfold force
  have : 0 < ms.length := List.length_pos_iff.mpr h
  split <;> omega
mutual
def dead (σ : Str → Wd) : Plan → Bool
  | deed n _ => decide (σ n = .failed) || decide (σ n = .undone)
  | grp .els ms => decide (force σ ms = ms.length - 1) && lastD σ ms
  | grp .row ms => anyD σ ms
  | grp .side ms => anyD σ ms
def lastD (σ : Str → Wd) : List Plan → Bool
  | [] => false
  | [p] => dead σ p
  | _ :: p :: ps => lastD σ (p :: ps)
def anyD (σ : Str → Wd) : List Plan → Bool
  | [] => false
  | p :: ps => dead σ p || anyD σ ps
end
theorem anyD_eq (σ : Str → Wd) : ∀ ms : List Plan, anyD σ ms = ms.any (dead σ)
  | [] => rfl
  | p :: ps => by rw [anyD, anyD_eq σ ps]; rfl
theorem lastD_eq (σ : Str → Wd) : ∀ ms : List Plan, ms ≠ [] → (ms.map (dead σ)).getLast? = some (lastD σ ms)
  | [p], _ => rfl
  | _ :: p :: ps, _ => by
    rw [lastD, ← lastD_eq σ (p :: ps) (by simp)]
    simp
def pm (σ : Str → Wd) (m : Plan) : PyData := .tuple [m.d, wds σ m]
end Plan
/-! ### slices -/
theorem cutL_to {α : Type} (xs : List α) (n : Nat) : cutL xs none (some (n : Int)) = xs.take n := by
  unfold cutL
  rw [HT.sIx_none, HT.sIx_nat]
  simp
theorem cutL_from {α : Type} (xs : List α) (n : Nat) : cutL xs (some (n : Int)) none = xs.drop n := by
  unfold cutL
  rw [HT.sIx_none, HT.sIx_nat]
  rcases Nat.le_total n xs.length with h | h
  · rw [Nat.min_eq_left h, List.take_of_length_le (by simp)]
  · rw [Nat.min_eq_right h, List.drop_of_length_le (Nat.le_refl _), List.drop_of_length_le h]; simp
theorem cutL_mid {α : Type} (a b c : List α) : cutL (a ++ b ++ c) (some (a.length : Int)) (some ((a.length + b.length : Nat) : Int)) = b := by
  unfold cutL
  rw [HT.sIx_nat, HT.sIx_nat]
  have h1 : min a.length (a ++ b ++ c).length = a.length := Nat.min_eq_left (by simp only [List.length_append]; omega)
  have h2 : min (a.length + b.length) (a ++ b ++ c).length = a.length + b.length := Nat.min_eq_left (by simp only [List.length_append]; omega)
  rw [h1, h2]
  simp
theorem atI_last {α : Type} {xs : List α} (h : xs ≠ []) : L2.atI xs (-1) = xs.getLast? := by
  have hl : 0 < xs.length := List.length_pos_iff.mpr h
  unfold L2.atI L2.ixN
  rw [if_neg (by decide), if_pos (by omega)]
  simp
  rw [List.getLast?_eq_getElem?]
  congr 1
  omega
theorem cutL_last {α : Type} (xs : List α) : cutL xs (some (-1)) none = xs.drop (xs.length - 1) := by
  unfold cutL
  rw [HT.sIx_none]
  have e : HT.sIx xs.length 0 (some (-1)) = xs.length - 1 := by
    show (if (-1 : Int) < 0 then ((-1 : Int) + (xs.length : Int)).toNat else min (-1 : Int).toNat xs.length) = _
    rw [if_pos (by decide)]
    omega
  rw [e, List.take_of_length_le (by simp)]
@[simp] theorem plainAll_strs {α : Type} (f : α → Str) (xs : List α) : PyData.plainAll (xs.map fun x => .str (f x)) = true := by
  induction xs with
  | nil => simp
  | cons x xs ih => simp [ih]
@[simp] theorem plainAll_bools {α : Type} (f : α → Bool) (xs : List α) : PyData.plainAll (xs.map fun x => .bool (f x)) = true := by
  induction xs with
  | nil => simp
  | cons x xs ih => simp [ih]
@[simp] theorem Wd.s_eq (a b : Wd) : (a.s = b.s) = (a = b) := by cases a <;> cases b <;> simp [Wd.s]
@[simp] theorem Kd.s_eq (a b : Kd) : (a.s = b.s) = (a = b) := by cases a <;> cases b <;> simp [Kd.s]
@[simp] theorem Wd.is_fresh (a : Wd) : (a.s = Str.ofString "fresh") = (a = .fresh) := by cases a <;> simp [Wd.s]
@[simp] theorem Wd.si_fresh (a : Wd) : (Str.ofString "fresh" = a.s) = (a = .fresh) := by cases a <;> simp [Wd.s]
@[simp] theorem Wd.is_done (a : Wd) : (a.s = Str.ofString "done") = (a = .done) := by cases a <;> simp [Wd.s]
@[simp] theorem Wd.si_done (a : Wd) : (Str.ofString "done" = a.s) = (a = .done) := by cases a <;> simp [Wd.s]
@[simp] theorem Wd.is_failed (a : Wd) : (a.s = Str.ofString "failed") = (a = .failed) := by cases a <;> simp [Wd.s]
@[simp] theorem Wd.si_failed (a : Wd) : (Str.ofString "failed" = a.s) = (a = .failed) := by cases a <;> simp [Wd.s]
@[simp] theorem Wd.is_undone (a : Wd) : (a.s = Str.ofString "undone") = (a = .undone) := by cases a <;> simp [Wd.s]
@[simp] theorem Wd.si_undone (a : Wd) : (Str.ofString "undone" = a.s) = (a = .undone) := by cases a <;> simp [Wd.s]
@[simp] theorem Kd.is_undoable (a : Kd) : (a.s = Str.ofString "undoable") = (a = .undoable) := by cases a <;> simp [Kd.s]
@[simp] theorem Kd.si_undoable (a : Kd) : (Str.ofString "undoable" = a.s) = (a = .undoable) := by cases a <;> simp [Kd.s]
@[simp] theorem Kd.is_sure (a : Kd) : (a.s = Str.ofString "sure") = (a = .sure) := by cases a <;> simp [Kd.s]
@[simp] theorem Kd.si_sure (a : Kd) : (Str.ofString "sure" = a.s) = (a = .sure) := by cases a <;> simp [Kd.s]
@[simp] theorem Kd.is_both (a : Kd) : (a.s = Str.ofString "both") = (a = .both) := by cases a <;> simp [Kd.s]
@[simp] theorem Kd.si_both (a : Kd) : (Str.ofString "both" = a.s) = (a = .both) := by cases a <;> simp [Kd.s]
@[simp] theorem Kd.is_neither (a : Kd) : (a.s = Str.ofString "neither") = (a = .neither) := by cases a <;> simp [Kd.s]
@[simp] theorem Kd.si_neither (a : Kd) : (Str.ofString "neither" = a.s) = (a = .neither) := by cases a <;> simp [Kd.s]
@[simp] theorem Gw.is_row (a : Gw) : (a.s = Str.ofString "row") = (a = .row) := by cases a <;> simp [Gw.s]
@[simp] theorem Gw.si_row (a : Gw) : (Str.ofString "row" = a.s) = (a = .row) := by cases a <;> simp [Gw.s]
@[simp] theorem Gw.is_side (a : Gw) : (a.s = Str.ofString "side") = (a = .side) := by cases a <;> simp [Gw.s]
@[simp] theorem Gw.si_side (a : Gw) : (Str.ofString "side" = a.s) = (a = .side) := by cases a <;> simp [Gw.s]
@[simp] theorem Gw.is_els (a : Gw) : (a.s = Str.ofString "else") = (a = .els) := by cases a <;> simp [Gw.s]
@[simp] theorem Gw.si_els (a : Gw) : (Str.ofString "else" = a.s) = (a = .els) := by cases a <;> simp [Gw.s]
@[simp] theorem Gw.is_deed (a : Gw) : (a.s = Str.ofString "deed") = False := by cases a <;> simp [Gw.s]
@[simp] theorem Gw.si_deed (a : Gw) : (Str.ofString "deed" = a.s) = False := by cases a <;> simp [Gw.s]
@[simp] theorem plainAll_strs0 (xs : List Str) : PyData.plainAll (xs.map PyData.str) = true := plainAll_strs (fun x => x) xs
@[simp] theorem okD_strs {α : Type} (f : α → Str) (xs : List α) : okD (.list (xs.map fun x => .str (f x))) = True := by
  have h : ∀ xs : List α, PyData.depthAll (xs.map fun x => .str (f x)) = 0 := by
    intro xs
    induction xs with
    | nil => rfl
    | cons x xs ih => simp [PyData.depthAll, PyData.depth, ih]
  simp [okD, PyData.depth, h]
@[simp] theorem any_true {α : Type} (f : α → Bool) (xs : List α) : xs.any ((fun z => PyData.eqv z (.bool true)) ∘ fun m => PyData.bool (f m)) = xs.any f := by
  congr 1
  funext x
  cases h : f x <;> simp [h]
@[simp] theorem any_false {α : Type} (f : α → Bool) (xs : List α) : xs.any ((fun z => PyData.eqv z (.bool false)) ∘ fun m => PyData.bool (f m)) = xs.any fun x => !f x := by
  congr 1
  funext x
  cases h : f x <;> simp [h]
@[simp] theorem any_truthy {α : Type} (f : α → Bool) (xs : List α) : xs.any (PyData.truthy ∘ fun m => PyData.bool (f m)) = xs.any f := by
  congr 1
  first
    | done
    | (funext x; simp)
@[simp] theorem all_truthy {α : Type} (f : α → Bool) (xs : List α) : xs.all (PyData.truthy ∘ fun m => PyData.bool (f m)) = xs.all f := by
  congr 1
  first
    | done
    | (funext x; simp)
@[simp] theorem any_str {α : Type} (f : α → Str) (s : Str) (xs : List α) : xs.any ((fun z => PyData.eqv z (.str s)) ∘ fun m => PyData.str (f m)) = xs.any fun x => decide (f x = s) := by
  congr 1
  first
    | done
    | (funext x; simp)
theorem last_bool {α : Type} (f : α → Bool) (xs : List α) (b : Bool) (h : (xs.map f).getLast? = some b) : (xs.map fun m => PyData.bool (f m)).getLast? = some (.bool b) := by
  have e : (xs.map fun m => PyData.bool (f m)) = (xs.map f).map PyData.bool := by simp
  rw [e, List.getLast?_map, h]
  rfl
/-! ### marks -/
structure Mk where
  good : Bool
  sure : Bool
  loose : Bool
  ready : Bool
  whole : Bool
def Mk.d (m : Mk) : PyData := .tuple [.bool m.good, .bool m.sure, .bool m.loose, .bool m.ready, .bool m.whole]
def come : List Mk → List Mk
  | [] => []
  | r :: rs => if r.sure = true then [r] else r :: come rs
def hinge (sel : Mk → Bool) (rows : List Mk) (i : Nat) : Bool := (rows.take i).all (·.loose) && ((rows[i]?.map sel).getD false && (rows.drop (i + 1)).all (·.sure))
def hinges (sel : Mk → Bool) (rows : List Mk) : List Nat := (List.range rows.length).filter (hinge sel rows)
structure M4 where
  sure : Bool
  loose : Bool
  ready : Bool
  whole : Bool
def M4.d (m : M4) : PyData := .tuple [.bool m.sure, .bool m.loose, .bool m.ready, .bool m.whole]
def rowM (rows : List Mk) : M4 := ⟨rows.all (·.sure), rows.all (·.loose), !(hinges (·.ready) rows).isEmpty, !(hinges (·.whole) rows).isEmpty⟩
def late (rows : List Mk) : List Mk := rows.filter fun r => !r.ready
def sideM (rows : List Mk) : M4 := ⟨rows.all (·.sure), rows.all (·.loose), (late rows).isEmpty, (late rows).isEmpty || (decide ((late rows).length = 1) && ((late rows).head?.map (·.whole)).getD false)⟩
def elseM (rows : List Mk) : M4 := ⟨((come rows).getLast?.map (·.sure)).getD false && (come rows).all (·.whole), (come rows).all (·.loose), rows.all (·.ready), (come rows).all (·.whole)⟩
namespace Plan
def good (σ : Str → Wd) (pins : List Str) (p : Plan) : Bool := (deeds p).any fun x => decide (σ x.1 = .done) && (!(decide (x.2 = .undoable) || decide (x.2 = .both)) || decide (x.1 ∈ pins))
def deedM (σ : Str → Wd) (n : Str) (k : Kd) : M4 := ⟨decide (σ n = .done) || (decide (k = .sure) || decide (k = .both)), decide (σ n = .done) || (decide (k = .undoable) || decide (k = .both)), !decide (k = .neither), true⟩
/-- the marks, from whether it is good, whether it is dead, and the marks of its kind -/
def mkOf (g dd : Bool) (m : M4) : Mk := if dd = true then (if g = true then ⟨true, false, false, false, false⟩ else ⟨false, false, true, true, true⟩) else if g = true then ⟨true, m.sure, false, m.sure, m.sure⟩ else ⟨false, m.sure, m.loose, m.sure || m.ready, m.whole⟩
mutual
def marks (σ : Str → Wd) (pins : List Str) : Plan → Mk
  | deed n k => mkOf (good σ pins (deed n k)) (dead σ (deed n k)) (deedM σ n k)
  | grp .row ms => mkOf (good σ pins (grp .row ms)) (dead σ (grp .row ms)) (rowM (marksL σ pins ms))
  | grp .side ms => mkOf (good σ pins (grp .side ms)) (dead σ (grp .side ms)) (sideM (marksL σ pins ms))
  | grp .els ms => mkOf (good σ pins (grp .els ms)) (dead σ (grp .els ms)) (elseM ((marksL σ pins ms).drop (force σ ms)))
def marksL (σ : Str → Wd) (pins : List Str) : List Plan → List Mk
  | [] => []
  | p :: ps => marks σ pins p :: marksL σ pins ps
end
theorem marksL_eq (σ : Str → Wd) (pins : List Str) : ∀ ms : List Plan, marksL σ pins ms = ms.map (marks σ pins)
  | [] => rfl
  | p :: ps => by rw [marksL, marksL_eq σ pins ps]; rfl
def pinD (pins : List Str) : PyData := .tuple (pins.map .str)
end Plan
theorem come_ne : ∀ {rows : List Mk}, rows ≠ [] → come rows ≠ []
  | r :: rs, _ => by
    unfold come
    split <;> simp
theorem drop_last {α : Type} (f : α → Bool) (xs : List α) (b : Bool) (h : (xs.map f).getLast? = some b) : (xs.drop (xs.length - 1)).any f = b := by
  rcases List.eq_nil_or_concat xs with e | ⟨ys, y, e⟩
  · subst e
    simp at h
  · subst e
    simpa using h
theorem zipD_map {α : Type} (f g : α → PyData) (xs : List α) : zipD (xs.map f) (xs.map g) = xs.map fun x => .tuple [f x, g x] := by
  unfold zipD
  induction xs with
  | nil => rfl
  | cons x xs ih => simpa using ih
theorem hinge_at {sel : Mk → Bool} {done r : List Mk} {m : Mk} : hinge sel (done ++ m :: r) done.length = (done.all (·.loose) && (sel m && r.all (·.sure))) := by
  unfold hinge
  simp
theorem range_filter (f : Nat → Bool) (j : Nat) : (List.range (j + 1)).filter f = (List.range j).filter f ++ (if f j = true then [j] else []) := by
  rw [List.range_succ, List.filter_append]
  congr 1
  by_cases h : f j = true <;> simp [h]
theorem str_pins (pins : List Str) : PyData.plainAll (pins.map PyData.str) = true := plainAll_strs (fun x => x) pins
@[simp] theorem any_strs (s : Str) (xs : List Str) : xs.any ((fun z => PyData.eqv z (.str s)) ∘ PyData.str) = decide (s ∈ xs) := by
  induction xs with
  | nil => rfl
  | cons x xs ih =>
    rw [List.any_cons, ih]
    by_cases h : x = s
    · simp [h]
    · have h2 : ¬ s = x := fun q => h q.symm
      simp [h, h2]
theorem seq_go {a b : DS} {D : Ctl} {ρ : Vn} (h : a { D with nx := b D } ρ) : dSeq a b D ρ := h
@[simp] theorem okD_mk0 (L : List Mk) : okD (.list (L.map Mk.d)) = True := by
  have h : ∀ xs : List Mk, PyData.depthAll (xs.map Mk.d) ≤ 1 ∧ PyData.plainAll (xs.map Mk.d) = true := by
    intro xs
    induction xs with
    | nil => exact ⟨Nat.zero_le _, rfl⟩
    | cons x xs ih =>
      obtain ⟨h1, h2⟩ := ih
      refine ⟨?_, ?_⟩
      · simp only [List.map_cons, PyData.depthAll]
        have : x.d.depth = 1 := by simp [Mk.d, PyData.depth, PyData.depthAll]
        omega
      · simp [h2, Mk.d]
  have := h L
  simp only [okD, PyData.depth, plain_list, this.2, true_and, eq_iff_iff, iff_true]
  omega
@[simp] theorem okD_ints (L : List Nat) : okD (.list (L.map fun (j : Nat) => .int j)) = True := by
  have h : ∀ xs : List Nat, PyData.depthAll (xs.map fun (j : Nat) => PyData.int j) = 0 ∧ PyData.plainAll (xs.map fun (j : Nat) => PyData.int j) = true := by
    intro xs
    induction xs with
    | nil => exact ⟨rfl, rfl⟩
    | cons x xs ih => exact ⟨by simp [PyData.depthAll, PyData.depth, ih.1], by simp [ih.2]⟩
  have := h L
  simp only [okD, PyData.depth, plain_list, this.2, this.1, true_and, eq_iff_iff, iff_true]
  omega
end PL

set_option Elab.async false
set_option linter.all false
set_option maxRecDepth 100000
set_option maxHeartbeats 4000000
/-! PRep: what repr asks of data: plain, not deep, to be shown, not long. -/
namespace PL
open PySem VL
theorem len_app (a b : Str) : (a ++ b).length = a.length + b.length := by
  show (a.cps ++ b.cps).size = _
  rw [Array.size_append]; rfl
theorem len_ofS (s : String) : (Str.ofString s).length = s.length := by
  rw [Str.ofString_eq_toList]
  show (Array.size _) = _
  simp [String.length_toList]
mutual
def W : PyData → Nat
  | .none => 4
  | .bool _ => 5
  | .int i => (Str.ofString (toString i)).length
  | .str x => (reprText x).length
  | .list xs => WL xs + 3
  | .tuple xs => WL xs + 3
  | .dict _ => 0
def WL : List PyData → Nat
  | [] => 0
  | x :: xs => W x + 2 + WL xs
end
theorem join_len : ∀ (ts : List Str), (Str.join ", " ts).length ≤ (ts.map fun t => t.length + 2).sum
  | [] => Nat.zero_le _
  | [t] => by
    show t.length ≤ _
    simp
  | t :: t2 :: ts => by
    have := join_len (t2 :: ts)
    show (t ++ (Str.ofString ", ") ++ Str.join ", " (t2 :: ts)).length ≤ _
    rw [len_app, len_app, len_ofS, List.map_cons, List.sum_cons]
    show t.length + 2 + _ ≤ _
    omega
mutual
theorem shown_W : ∀ d : PyData, d.plain = true → d.shown.length ≤ W d
  | .none, _ => by rw [PyData.shown_none, len_ofS, W]; decide
  | .bool b, _ => by rw [PyData.shown_bool, W]; cases b <;> (simp only [if_true, if_false, Bool.false_eq_true]; rw [len_ofS]; decide)
  | .int i, _ => by rw [PyData.shown_int, W]; exact Nat.le_refl _
  | .str x, _ => by rw [PyData.shown_str, W]; exact Nat.le_refl _
  | .list xs, h => by
    rw [PyData.shown_list, W, len_app, len_app, len_ofS, len_ofS]
    have a := join_len (PyData.shownAll xs)
    have b := shown_WL xs (by simpa using h)
    show 1 + _ + 1 ≤ _
    omega
  | .tuple xs, h => by
    rw [PyData.shown_tuple, W, len_app, len_app, len_ofS, len_ofS]
    have a := join_len (PyData.shownAll xs)
    have b := shown_WL xs (by simpa using h)
    have c : (if xs.length == 1 then ",)" else ")" : String).length ≤ 2 := by split <;> decide
    show 1 + _ + _ ≤ _
    omega
  | .dict _, h => by simp [PyData.plain] at h
theorem shown_WL : ∀ xs : List PyData, PyData.plainAll xs = true → ((PyData.shownAll xs).map fun t => t.length + 2).sum ≤ WL xs
  | [], _ => Nat.zero_le _
  | x :: xs, h => by
    rw [plainAll_cons, Bool.and_eq_true] at h
    have a := shown_W x h.1
    have b := shown_WL xs h.2
    rw [PyData.shownAll_cons, List.map_cons, List.sum_cons, WL]
    omega
end
/-- k: how deep at most; n: how long at most -/
structure Nice (k n : Nat) (d : PyData) : Prop where
  plain : d.plain = true
  depth : d.depth ≤ k
  show_ : d.showable = true
  len : W d ≤ n
theorem Nice.mono {k k' n n' : Nat} {d : PyData} (h : Nice k n d) (hk : k ≤ k') (hn : n ≤ n') : Nice k' n' d := ⟨h.plain, Nat.le_trans h.depth hk, h.show_, Nat.le_trans h.len hn⟩
theorem Nice.rep {n : Nat} {d : PyData} (h : Nice 60 n d) (hn : n ≤ 16777216) {Q : PyData → Prop} (q : Q (.str d.shown)) : dRepr [d] Q := by
  refine ⟨⟨h.plain, h.depth⟩, h.show_, ?_, q⟩
  have := shown_W d h.plain
  have := h.len
  simp only [line_eq]
  omega
theorem Nice.ok {n : Nat} {d : PyData} (h : Nice 60 n d) : okD d := ⟨h.plain, h.depth⟩
theorem nice_bool (b : Bool) : Nice 0 5 (.bool b) := ⟨by simp, Nat.le_refl _, by simp [PyData.showable], Nat.le_refl _⟩
theorem nice_none : Nice 0 4 .none := ⟨by simp [PyData.plain], Nat.le_refl _, by simp [PyData.showable], Nat.le_refl _⟩
theorem nice_str {x : Str} {n : Nat} (h : (reprText x).length ≤ n) : Nice 0 n (.str x) := ⟨by simp, Nat.le_refl _, by simp [PyData.showable], by rw [W]; exact h⟩
theorem nice_int {i : Int} (h : i.natAbs < 10 ^ 9) : Nice 0 10 (.int i) := by
  refine ⟨by simp, Nat.le_refl _, ?_, ?_⟩
  · simp [PyData.showable]
    have h2 : i.natAbs < 2 ^ 1920 := Nat.lt_of_lt_of_le h (by decide +kernel)
    by_cases h0 : i.natAbs = 0
    · rw [h0]; decide
    · exact (Nat.log2_lt h0).mpr h2
  · rw [W, len_ofS]
    exact int_text_length_le10 (k := 9) (by decide) h
theorem nice_nat {i : Nat} (h : i < 10 ^ 9) : Nice 0 10 (.int (i : Int)) := nice_int (by simpa using h)
structure NiceL (k n : Nat) (xs : List PyData) : Prop where
  plain : PyData.plainAll xs = true
  depth : PyData.depthAll xs ≤ k
  show_ : PyData.showableAll xs = true
  len : WL xs ≤ n
theorem niceL_nil {k n : Nat} : NiceL k n [] := ⟨rfl, Nat.zero_le _, by simp [PyData.showableAll], Nat.zero_le _⟩
theorem niceL_cons {k k1 n a b : Nat} {x : PyData} {xs : List PyData} (h : Nice k1 a x) (hs : NiceL k b xs) (hk : k1 ≤ k := by omega) (hn : a + 2 + b ≤ n := by omega) : NiceL k n (x :: xs) := by
  refine ⟨by simp [h.plain, hs.plain], ?_, by simp [PyData.showableAll, h.show_, hs.show_], ?_⟩
  · simp only [PyData.depthAll]
    exact Nat.max_le.mpr ⟨Nat.le_trans h.depth hk, hs.depth⟩
  · rw [WL]
    have := h.len
    have := hs.len
    omega
theorem niceL_all {k c m n : Nat} {xs : List PyData} (h : ∀ x ∈ xs, Nice k c x) (hm : xs.length ≤ m) (hn : (c + 2) * m ≤ n) : NiceL k n xs := by
  have : NiceL k ((c + 2) * xs.length) xs := by
    clear hm hn
    induction xs with
    | nil => exact niceL_nil
    | cons x xs ih =>
      refine niceL_cons (h x (List.mem_cons_self ..)) (ih fun y hy => h y (List.mem_cons_of_mem _ hy)) (Nat.le_refl _) ?_
      rw [List.length_cons, Nat.mul_succ]
      omega
  exact ⟨this.plain, this.depth, this.show_, Nat.le_trans this.len (Nat.le_trans (Nat.mul_le_mul_left _ hm) hn)⟩
theorem niceL_map {α : Type} {f : α → PyData} {k c m n : Nat} {xs : List α} (h : ∀ x ∈ xs, Nice k c (f x)) (hm : xs.length ≤ m) (hn : (c + 2) * m ≤ n) : NiceL k n (xs.map f) :=
  niceL_all (fun y hy => by obtain ⟨x, hx, e⟩ := List.mem_map.mp hy; rw [← e]; exact h x hx) (by rw [List.length_map]; exact hm) hn
theorem nice_list {k n m : Nat} {xs : List PyData} (h : NiceL k m xs) (hn : m + 3 ≤ n := by omega) : Nice (k + 1) n (.list xs) :=
  ⟨by simp [h.plain], by simp only [PyData.depth]; have := h.depth; omega, by simp [PyData.showable, h.show_], by rw [W]; have := h.len; omega⟩
theorem nice_tuple {k n m : Nat} {xs : List PyData} (h : NiceL k m xs) (hn : m + 3 ≤ n := by omega) : Nice (k + 1) n (.tuple xs) :=
  ⟨by simp [h.plain], by simp only [PyData.depth]; have := h.depth; omega, by simp [PyData.showable, h.show_], by rw [W]; have := h.len; omega⟩
theorem nice_place {q : List Nat} {m : Nat} (h : ∀ i ∈ q, i < 1000) (hm : q.length ≤ m) : Nice 1 (12 * m + 3) (Plan.pl q) :=
  nice_tuple (niceL_map (c := 10) (fun i hi => nice_nat (by have := h i hi; omega)) hm (Nat.le_refl _)) (Nat.le_refl _)
theorem nice_strs {xs : List Str} {c m : Nat} (h : ∀ x ∈ xs, (reprText x).length ≤ c) (hm : xs.length ≤ m) : NiceL 0 ((c + 2) * m) (xs.map .str) := niceL_map (fun x hx => nice_str (h x hx)) hm (Nat.le_refl _)
namespace Plan
theorem kd_len (k : Kd) : (reprText k.s).length ≤ 10 := by cases k <;> decide +kernel
theorem gw_len (w : Gw) : (reprText w.s).length ≤ 6 := by cases w <;> decide +kernel
theorem wd_len (w : Wd) : (reprText w.s).length ≤ 8 := by cases w <;> decide +kernel
mutual
theorem nice_plan : ∀ p : Plan, (∀ x ∈ deeds p, (reprText x.1).length ≤ 20) → Nice (2 * height p) (102 * nodes p - 2) p.d
  | deed n k, h => by
    have hn := h (n, k) (by simp [deeds])
    rw [Plan.d]
    exact (nice_tuple (k := 0) (m := 60) (n := 100) (niceL_cons (b := 40) (nice_str (n := 6) (by decide +kernel)) (niceL_cons (b := 12) (nice_str hn) (niceL_cons (b := 0) (nice_str (kd_len k)) niceL_nil)))).mono (by simp [height]) (by simp [nodes])
  | grp w ms, h => by
    have a := nice_planL ms (by simpa [deeds] using h)
    have b := nice_tuple a (Nat.le_refl _)
    rw [Plan.d]
    refine (nice_tuple (m := 102 * nodesL ms + 20) (n := 102 * nodesL ms + 30) (niceL_cons (b := 102 * nodesL ms + 5) (nice_str (gw_len w)) (niceL_cons (n := 102 * nodesL ms + 5) (b := 0) b niceL_nil (Nat.le_refl _) (by omega)) (by omega) (by omega)) (by omega)).mono (by rw [height]; omega) (by rw [nodes]; omega)
theorem nice_planL : ∀ ms : List Plan, (∀ x ∈ deedsL ms, (reprText x.1).length ≤ 20) → NiceL (2 * heightL ms) (102 * nodesL ms) (ds ms)
  | [], _ => niceL_nil
  | p :: ps, h => by
    have a := nice_plan p fun x hx => h x (by rw [deedsL]; exact List.mem_append_left _ hx)
    have b := nice_planL ps fun x hx => h x (by rw [deedsL]; exact List.mem_append_right _ hx)
    have h1 : 1 ≤ nodes p := by cases p <;> simp [nodes]
    rw [ds]
    have hm : 2 * height p ≤ 2 * heightL (p :: ps) := by rw [heightL]; omega
    have hm2 : 2 * heightL ps ≤ 2 * heightL (p :: ps) := by rw [heightL]; omega
    exact niceL_cons a ⟨b.plain, Nat.le_trans b.depth hm2, b.show_, b.len⟩ hm (by rw [nodesL]; omega)
end
end Plan
end PL

set_option Elab.async false
set_option linter.all false
set_option maxRecDepth 100000
set_option maxHeartbeats 4000000
/-! the walk of law_k17_whole_rests_and_knots, printed by walk.py -/
namespace W_k17
open PySem PySem.Spec PyProof.Rows L2 VL
def bd_members_of (K : PySem.W.Frag) : DS := dRet (dIfE (dTst (dOp (dIn false) (dOp dIx (dVar 0) (dC (.int 0))) (dC (.tuple [.str "row", .str "side", .str "else"])))) (dOp dIx (dVar 0) (dC (.int 1))) (dTup (lNil)))
def wp_members_of (K : PySem.W.Frag) : Wp := fun as Qd => as.length = 1 ∧ bd_members_of K (ctlS Qd) (env0 1 as)
def bd_placed (K : PySem.W.Frag) (r : Nat → Wp) : DS := dSeq (dSet 1 (dLst (lCons (dTup (lCons (dTup (lNil)) (lCons (dVar 0) (lNil)))) (lNil)))) (dSeq (dFor (dEnum (lCons (dCall ((wp_members_of) K) (aCons (dVar 0) (aNil))) (lNil))) (dgTup 2 (dgCons (dgName 2) (dgCons (dgName 3) (dgNil)))) (dSet 1 (dOp dAdd (dVar 1) (dLc (dIt (dCall (r 0) (aCons (dVar 3) (aNil)))) (dgTup 2 (dgCons (dgName 4) (dgCons (dgName 5) (dgNil)))) (dYes) (dTup (lCons (dOp dAdd (dTup (lCons (dVar 2) (lNil))) (dVar 4)) (lCons (dVar 5) (lNil)))) [4, 5])))) (dRet (dVar 1)))
def wpR_placed (K : PySem.W.Frag) : Nat → Nat → Wp
  | 0, _ => fun _ _ => False
  | n + 1, _ => fun as Qd => as.length = 1 ∧ bd_placed K (wpR_placed K n) (ctlS Qd) (env0 6 as)
def bd_part_at (K : PySem.W.Frag) : DS := dSeq (dFor (dIt (dVar 1)) (dgName 2) (dSet 0 (dOp dIx (dOp dIx (dVar 0) (dC (.int 1))) (dVar 2)))) (dRet (dVar 0))
def wp_part_at (K : PySem.W.Frag) : Wp := fun as Qd => as.length = 2 ∧ bd_part_at K (ctlS Qd) (env0 3 as)
def bd_place_of (K : PySem.W.Frag) : DS := dSeq (dFor (dIt (dCall ((fun K => wpR_placed K 24 0) K) (aCons (dVar 0) (aNil)))) (dgTup 2 (dgCons (dgName 2) (dgCons (dgName 3) (dgNil)))) (dIf (dAnd (dTst (dOp (dEq) (dOp dIx (dVar 3) (dC (.int 0))) (dC (.str "deed")))) (dAnd (dTru (dIsa isaStr (dVar 1))) (dTst (dOp (dEq) (dOp dIx (dVar 3) (dC (.int 1))) (dVar 1))))) (dRet (dVar 2)) (dNext))) (dNever)
def wp_place_of (K : PySem.W.Frag) : Wp := fun as Qd => as.length = 2 ∧ bd_place_of K (ctlS Qd) (env0 4 as)
def bd_common (K : PySem.W.Frag) : DS := dSeq (dSet 2 (dC (.int 0))) (dSeq (dWhile (dAnd (dTst (dOp (dCmp fun i j => decide (i < j)) (dVar 2) (dB dMin2 (lCons (dB (dLen) (lCons (dVar 0) (lNil))) (lCons (dB (dLen) (lCons (dVar 1) (lNil))) (lNil)))))) (dTst (dOp (dEq) (dOp dIx (dVar 0) (dVar 2)) (dOp dIx (dVar 1) (dVar 2))))) (dAug dAddI 2 (dC (.int 1)))) (dRet (dSl dCut (dVar 0) oNo (oYes (dVar 2)))))
def wp_common (K : PySem.W.Frag) : Wp := fun as Qd => as.length = 2 ∧ bd_common K (ctlS Qd) (env0 3 as)
def bd_relation (K : PySem.W.Frag) : DS := dSeq (dPar 3 4 (dCall ((wp_place_of) K) (aCons (dVar 0) (aCons (dVar 1) (aNil)))) (dCall ((wp_place_of) K) (aCons (dVar 0) (aCons (dVar 2) (aNil))))) (dSeq (dSet 5 (dCall ((wp_common) K) (aCons (dVar 3) (aCons (dVar 4) (aNil))))) (dSeq (dSet 6 (dOp dIx (dCall ((wp_part_at) K) (aCons (dVar 0) (aCons (dVar 5) (aNil)))) (dC (.int 0)))) (dSeq (dIf (dTst (dOp (dEq) (dVar 6) (dC (.str "side")))) (dRet (dTup (lCons (dVar 6) (lCons (dC (.int 0)) (lNil))))) (dNext)) (dRet (dTup (lCons (dVar 6) (lCons (dIfE (dTst (dOp (dCmp fun i j => decide (i < j)) (dOp dIx (dVar 3) (dB (dLen) (lCons (dVar 5) (lNil)))) (dOp dIx (dVar 4) (dB (dLen) (lCons (dVar 5) (lNil)))))) (dC (.int 1)) (dUn dNeg (dC (.int 1)))) (lNil))))))))
def wp_relation (K : PySem.W.Frag) : Wp := fun as Qd => as.length = 3 ∧ bd_relation K (ctlS Qd) (env0 7 as)
def bd_is_number (K : PySem.W.Frag) : DS := dRet (dAndT (dIsa isaInt (dVar 0)) (dAndT (dNotT (dIsa isaBool (dVar 0))) (dOp (dCmp fun i j => decide (j ≤ i)) (dVar 0) (dC (.int 0)))))
def wp_is_number (K : PySem.W.Frag) : Wp := fun as Qd => as.length = 1 ∧ bd_is_number K (ctlS Qd) (env0 1 as)
def bd_do_fight (K : PySem.W.Frag) : DS := dSeq (dIf (dTst (dOp (dNe) (dOp dIx (dVar 2) (dC (.int 0))) (dOp dIx (dVar 3) (dC (.int 0))))) (dRet (dOp (dIn false) (dTup (lCons (dB dMinA (lCons (dVar 2) (lCons (dVar 3) (lNil)))) (lCons (dB dMaxA (lCons (dVar 2) (lCons (dVar 3) (lNil)))) (lNil)))) (dVar 1))) (dNext)) (dRet (dAndT (dOp (dNe) (dOp dIx (dVar 2) (dC (.int 1))) (dOp dIx (dVar 3) (dC (.int 1)))) (dOp (dEq) (dOp dIx (dCall ((wp_relation) K) (aCons (dOp dIx (dVar 0) (dOp dIx (dVar 2) (dC (.int 0)))) (aCons (dOp dIx (dVar 2) (dC (.int 1))) (aCons (dOp dIx (dVar 3) (dC (.int 1))) (aNil))))) (dC (.int 0))) (dC (.str "row")))))
def wp_do_fight (K : PySem.W.Frag) : Wp := fun as Qd => as.length = 4 ∧ bd_do_fight K (ctlS Qd) (env0 4 as)
def bd_are_bound (K : PySem.W.Frag) : DS := dRet (dOrT (dOp (dEq) (dSl dCut (dVar 2) oNo (oYes (dC (.int 2)))) (dSl dCut (dVar 3) oNo (oYes (dC (.int 2))))) (dCall ((wp_do_fight) K) (aCons (dVar 0) (aCons (dVar 1) (aCons (dSl dCut (dVar 2) oNo (oYes (dC (.int 2)))) (aCons (dSl dCut (dVar 3) oNo (oYes (dC (.int 2)))) (aNil)))))))
def wp_are_bound (K : PySem.W.Frag) : Wp := fun as Qd => as.length = 4 ∧ bd_are_bound K (ctlS Qd) (env0 4 as)
def bd_standing_deeds (K : PySem.W.Frag) : DS := dRet (dB (dTuple) (lCons (dLc (dIt (dVar 0)) (dgName 1) (dAnd (dTst (dOp (dEq) (dOp dIx (dVar 1) (dC (.int 2))) (dC (.int 1)))) (dTst (dOp (dIn true) (dTup (lStar (dSl dCut (dVar 1) oNo (oYes (dC (.int 2)))) (lCons (dUn dNeg (dC (.int 1))) (lNil)))) (dVar 0)))) (dSl dCut (dVar 1) oNo (oYes (dC (.int 2)))) [1]) (lNil)))
def wp_standing_deeds (K : PySem.W.Frag) : Wp := fun as Qd => as.length = 1 ∧ bd_standing_deeds K (ctlS Qd) (env0 2 as)
def bd_can_strike (K : PySem.W.Frag) : DS := dSeq (dIf (dOr (dTst (dOp (dIn true) (dTup (lStar (dVar 3) (lCons (dC (.int 1)) (lNil)))) (dVar 2))) (dTst (dOp (dIn true) (dTup (lStar (dVar 3) (lCons (dUn dNeg (dC (.int 1))) (lNil)))) (dVar 2)))) (dRet (dC (.bool false))) (dNext)) (dSeq (dPar 4 5 (dOrE (dM "list" dIdxL (dVar 2) (lCons (dTup (lStar (dVar 3) (lCons (dC (.int 1)) (lNil)))) (lNil))) (dM "tuple" dIdxT (dVar 2) (lCons (dTup (lStar (dVar 3) (lCons (dC (.int 1)) (lNil)))) (lNil)))) (dOrE (dM "list" dIdxL (dVar 2) (lCons (dTup (lStar (dVar 3) (lCons (dUn dNeg (dC (.int 1))) (lNil)))) (lNil))) (dM "tuple" dIdxT (dVar 2) (lCons (dTup (lStar (dVar 3) (lCons (dUn dNeg (dC (.int 1))) (lNil)))) (lNil))))) (dRet (dNotT (dB (dAny false) (lCons (dLc (dIt (dSl dCut (dVar 2) (oYes (dOp dAdd (dVar 4) (dC (.int 1)))) (oYes (dVar 5)))) (dgName 6) (dYes) (dCall ((wp_do_fight) K) (aCons (dVar 0) (aCons (dVar 1) (aCons (dSl dCut (dVar 6) oNo (oYes (dC (.int 2)))) (aCons (dVar 3) (aNil)))))) [6]) (lNil))))))
def wp_can_strike (K : PySem.W.Frag) : Wp := fun as Qd => as.length = 4 ∧ bd_can_strike K (ctlS Qd) (env0 7 as)
def bd_gone_through (K : PySem.W.Frag) : DS := dSeq (dParFF 3 4 (dLst (lNil)) (dLst (lNil))) (dSeq (dFor (dEnum (lCons (dVar 2) (lNil))) (dgTup 2 (dgCons (dgName 5) (dgCons (dgName 6) (dgNil)))) (dSeq (dIf (dTst (dOp (dEq) (dOp dIx (dVar 6) (dC (.int 2))) (dC (.int 1)))) (dSeq (dApp 3 (dVar 5)) (dCont)) (dNext)) (dSeq (dSet 7 (dOrE (dM "list" dIdxL (dVar 2) (lCons (dTup (lStar (dSl dCut (dVar 6) oNo (oYes (dC (.int 2)))) (lCons (dC (.int 1)) (lNil)))) (lNil))) (dM "tuple" dIdxT (dVar 2) (lCons (dTup (lStar (dSl dCut (dVar 6) oNo (oYes (dC (.int 2)))) (lCons (dC (.int 1)) (lNil)))) (lNil))))) (dIf (dTru (dB (dAny false) (lCons (dLc (dIt (dVarP 3)) (dgName 8) (dYes) (dAndT (dOp (dCmp fun i j => decide (j < i)) (dVar 8) (dVar 7)) (dCall ((wp_are_bound) K) (aCons (dVar 0) (aCons (dVar 1) (aCons (dOp dIx (dVar 2) (dVar 8)) (aCons (dVar 6) (aNil))))))) [8]) (lNil)))) (dApp 3 (dVar 5)) (dSeq (dRem 3 (dVar 7)) (dApp 4 (dVar 5))))))) (dFrz 3 (dFrz 4 (dRet (dTup (lCons (dVar 3) (lCons (dVar 4) (lNil))))))))
def wp_gone_through (K : PySem.W.Frag) : Wp := fun as Qd => as.length = 3 ∧ bd_gone_through K (ctlS Qd) (env0 9 as)
def bd_rest (K : PySem.W.Frag) : DS := dRet (dB (dTuple) (lCons (dOp dIx (dCall ((wp_gone_through) K) (aCons (dVar 0) (aCons (dVar 1) (aCons (dVar 2) (aNil))))) (dC (.int 0))) (lNil)))
def wp_rest (K : PySem.W.Frag) : Wp := fun as Qd => as.length = 3 ∧ bd_rest K (ctlS Qd) (env0 3 as)
def bd_strikes (K : PySem.W.Frag) : DS := dRet (dB (dTuple) (lCons (dLc (dIt (dOp dIx (dCall ((wp_gone_through) K) (aCons (dVar 0) (aCons (dVar 1) (aCons (dVar 2) (aNil))))) (dC (.int 1)))) (dgName 3) (dYes) (dSl dCut (dOp dIx (dVar 2) (dVar 3)) oNo (oYes (dC (.int 2)))) [3]) (lNil)))
def wp_strikes (K : PySem.W.Frag) : Wp := fun as Qd => as.length = 3 ∧ bd_strikes K (ctlS Qd) (env0 4 as)
def bd_may_undo (K : PySem.W.Frag) : DS := dSeq (dSet 4 (dCall ((wp_standing_deeds) K) (aCons (dVar 2) (aNil)))) (dSeq (dIf (dTst (dOp (dIn true) (dVar 3) (dVar 4))) (dRet (dC (.bool false))) (dNext)) (dRet (dNotT (dB (dAny false) (lCons (dLc (dIt (dSl dCut (dVar 4) (oYes (dOp dAdd (dOrE (dM "list" dIdxL (dVar 4) (lCons (dVar 3) (lNil))) (dM "tuple" dIdxT (dVar 4) (lCons (dVar 3) (lNil)))) (dC (.int 1)))) oNo)) (dgName 5) (dYes) (dCall ((wp_do_fight) K) (aCons (dVar 0) (aCons (dVar 1) (aCons (dVar 5) (aCons (dVar 3) (aNil)))))) [5]) (lNil))))))
def wp_may_undo (K : PySem.W.Frag) : Wp := fun as Qd => as.length = 4 ∧ bd_may_undo K (ctlS Qd) (env0 6 as)
def bd_lost_at (K : PySem.W.Frag) : DS := dSeq (dSet 3 (dLc (dIt (dCall ((wp_rest) K) (aCons (dVar 0) (aCons (dVar 1) (aCons (dVar 2) (aNil)))))) (dgName 4) (dTst (dOp (dEq) (dOp dIx (dOp dIx (dVar 2) (dVar 4)) (dC (.int 2))) (dUn dNeg (dC (.int 1))))) (dVar 4) [4])) (dRet (dIfE (dTst (dOp (dNe) (dVar 3) (dLst (lNil)))) (dOp dAdd (dOp dIx (dVar 3) (dC (.int 0))) (dC (.int 1))) (dC .none)))
def wp_lost_at (K : PySem.W.Frag) : Wp := fun as Qd => as.length = 3 ∧ bd_lost_at K (ctlS Qd) (env0 5 as)
def bd_knot (K : PySem.W.Frag) : DS := dSeq (dSet 4 (dCall ((wp_rest) K) (aCons (dVar 0) (aCons (dVar 1) (aCons (dVar 2) (aNil)))))) (dSeq (dIf (dOr (dTst (dOp (dIn true) (dVar 3) (dVar 4))) (dTst (dOp (dEq) (dOp dIx (dOp dIx (dVar 2) (dVar 3)) (dC (.int 2))) (dC (.int 1))))) (dRet (dC .none)) (dNext)) (dSeq (dSetO 5 (dLst (lCons (dOrE (dM "list" dIdxL (dVar 2) (lCons (dTup (lStar (dSl dCut (dOp dIx (dVar 2) (dVar 3)) oNo (oYes (dC (.int 2)))) (lCons (dC (.int 1)) (lNil)))) (lNil))) (dM "tuple" dIdxT (dVar 2) (lCons (dTup (lStar (dSl dCut (dOp dIx (dVar 2) (dVar 3)) oNo (oYes (dC (.int 2)))) (lCons (dC (.int 1)) (lNil)))) (lNil)))) (lNil)))) (dWhile (dTru (dC (.bool true))) (dSeq (dSet 6 (dSl dCut (dOp dIx (dVar 2) (dOp dIx (dVarP 5) (dUn dNeg (dC (.int 1))))) oNo (oYes (dC (.int 2))))) (dSeq (dAsg (dTup (lCons (dOp dIx (dVarP 5) (dUn dNeg (dC (.int 1)))) (lCons (dOrE (dM "list" dIdxL (dVar 2) (lCons (dTup (lStar (dVar 6) (lCons (dUn dNeg (dC (.int 1))) (lNil)))) (lNil))) (dM "tuple" dIdxT (dVar 2) (lCons (dTup (lStar (dVar 6) (lCons (dUn dNeg (dC (.int 1))) (lNil)))) (lNil)))) (lNil)))) (dgTup 2 (dgCons (dgName 7) (dgCons (dgName 8) (dgNil))))) (dSeq (dSet 9 (dLc (dIt (dVar 4)) (dgName 12) (dTst (dChain (dCmp fun i j => decide (i < j)) (dCmp fun i j => decide (i < j)) (dVar 7) (dVar 12) (dVar 8))) (dVar 12) [12])) (dSeq (dSet 10 (dOp dIx (dLc (dIt (dVar 9)) (dgName 12) (dTru (dCall ((wp_do_fight) K) (aCons (dVar 0) (aCons (dVar 1) (aCons (dSl dCut (dOp dIx (dVar 2) (dVar 12)) oNo (oYes (dC (.int 2)))) (aCons (dVar 6) (aNil))))))) (dVar 12) [12]) (dC (.int 0)))) (dSeq (dSet 11 (dLc (dIt (dVar 9)) (dgName 12) (dTst (dOp (dEq) (dSl dCut (dOp dIx (dVar 2) (dVar 12)) oNo (oYes (dC (.int 2)))) (dSl dCut (dOp dIx (dVar 2) (dVar 10)) oNo (oYes (dC (.int 2)))))) (dVar 12) [12])) (dSeq (dIf (dTst (dOp (dEq) (dB (dLen) (lCons (dVar 11) (lNil))) (dC (.int 1)))) (dFrz 5 (dRet (dTup (lStar (dVar 5) (lCons (dVar 10) (lNil)))))) (dNext)) (dApp 5 (dOp dIx (dVar 11) (dC (.int 0)))))))))))))
def wp_knot (K : PySem.W.Frag) : Wp := fun as Qd => as.length = 4 ∧ bd_knot K (ctlS Qd) (env0 13 as)
def bd_is_first_of_pair (K : PySem.W.Frag) : DS := dRet (dAndT (dOp (dEq) (dOp dIx (dOp dIx (dVar 0) (dVar 1)) (dC (.int 2))) (dC (.int 1))) (dOp (dIn false) (dTup (lStar (dSl dCut (dOp dIx (dVar 0) (dVar 1)) oNo (oYes (dC (.int 2)))) (lCons (dUn dNeg (dC (.int 1))) (lNil)))) (dVar 0)))
def wp_is_first_of_pair (K : PySem.W.Frag) : Wp := fun as Qd => as.length = 2 ∧ bd_is_first_of_pair K (ctlS Qd) (env0 2 as)
def bd_is_within (K : PySem.W.Frag) : DS := dRet (dAndT (dOp (dCmp fun i j => decide (i < j)) (dVar 1) (dVar 2)) (dOp (dCmp fun i j => decide (i < j)) (dOrE (dM "list" dIdxL (dVar 0) (lCons (dTup (lStar (dSl dCut (dOp dIx (dVar 0) (dVar 2)) oNo (oYes (dC (.int 2)))) (lCons (dUn dNeg (dC (.int 1))) (lNil)))) (lNil))) (dM "tuple" dIdxT (dVar 0) (lCons (dTup (lStar (dSl dCut (dOp dIx (dVar 0) (dVar 2)) oNo (oYes (dC (.int 2)))) (lCons (dUn dNeg (dC (.int 1))) (lNil)))) (lNil)))) (dOrE (dM "list" dIdxL (dVar 0) (lCons (dTup (lStar (dSl dCut (dOp dIx (dVar 0) (dVar 1)) oNo (oYes (dC (.int 2)))) (lCons (dUn dNeg (dC (.int 1))) (lNil)))) (lNil))) (dM "tuple" dIdxT (dVar 0) (lCons (dTup (lStar (dSl dCut (dOp dIx (dVar 0) (dVar 1)) oNo (oYes (dC (.int 2)))) (lCons (dUn dNeg (dC (.int 1))) (lNil)))) (lNil))))))
def wp_is_within (K : PySem.W.Frag) : Wp := fun as Qd => as.length = 3 ∧ bd_is_within K (ctlS Qd) (env0 3 as)
def bd_is_last_right (K : PySem.W.Frag) : DS := dSeq (dSet 3 (dOrE (dM "list" dIdxL (dVar 0) (lCons (dTup (lStar (dSl dCut (dOp dIx (dVar 0) (dVar 1)) oNo (oYes (dC (.int 2)))) (lCons (dUn dNeg (dC (.int 1))) (lNil)))) (lNil))) (dM "tuple" dIdxT (dVar 0) (lCons (dTup (lStar (dSl dCut (dOp dIx (dVar 0) (dVar 1)) oNo (oYes (dC (.int 2)))) (lCons (dUn dNeg (dC (.int 1))) (lNil)))) (lNil))))) (dRet (dOp (dEq) (dLc (dRng2 (lCons (dOp dAdd (dVar 1) (dC (.int 1))) (lCons (dVar 3) (lNil)))) (dgName 4) (dTst (dOp (dEq) (dSl dCut (dOp dIx (dVar 0) (dVar 4)) oNo (oYes (dC (.int 2)))) (dSl dCut (dOp dIx (dVar 0) (dVar 2)) oNo (oYes (dC (.int 2)))))) (dVar 4) [4]) (dLst (lCons (dVar 2) (lNil)))))
def wp_is_last_right (K : PySem.W.Frag) : Wp := fun as Qd => as.length = 3 ∧ bd_is_last_right K (ctlS Qd) (env0 5 as)
def bd_judge_knot (K : PySem.W.Frag) : DS := dSeq (dIf (dOr (dNot (dTru (dIsa isaTuple (dVar 3)))) (dOr (dTst (dOp (dCmp fun i j => decide (i < j)) (dB (dLen) (lCons (dVar 3) (lNil))) (dC (.int 2)))) (dNot (dTru (dB (dAny true) (lCons (dLc (dIt (dVar 3)) (dgName 5) (dYes) (dAndT (dCall ((wp_is_number) K) (aCons (dVar 5) (aNil))) (dOp (dCmp fun i j => decide (i < j)) (dVar 5) (dB (dLen) (lCons (dVar 2) (lNil))))) [5]) (lNil))))))) (dRet (dTup (lCons (dC (.str "form")) (lNil)))) (dNext)) (dSeq (dFor (dEnum (lCons (dSl dCut (dVar 3) oNo (oYes (dUn dNeg (dC (.int 1))))) (lNil))) (dgTup 2 (dgCons (dgName 4) (dgCons (dgName 5) (dgNil)))) (dIf (dNot (dTru (dCall ((wp_is_first_of_pair) K) (aCons (dVar 2) (aCons (dVar 5) (aNil)))))) (dRet (dTup (lCons (dC (.str "pair")) (lCons (dVar 4) (lNil))))) (dNext))) (dSeq (dFor (dRng2 (lCons (dC (.int 1)) (lCons (dOp dSub (dB (dLen) (lCons (dVar 3) (lNil))) (dC (.int 1))) (lNil)))) (dgName 4) (dIf (dNot (dTru (dCall ((wp_is_within) K) (aCons (dVar 2) (aCons (dOp dIx (dVar 3) (dOp dSub (dVar 4) (dC (.int 1)))) (aCons (dOp dIx (dVar 3) (dVar 4)) (aNil))))))) (dRet (dTup (lCons (dC (.str "within")) (lCons (dVar 4) (lNil))))) (dNext))) (dSeq (dIf (dNot (dTru (dCall ((wp_is_last_right) K) (aCons (dVar 2) (aCons (dOp dIx (dVar 3) (dUn dNeg (dC (.int 2)))) (aCons (dOp dIx (dVar 3) (dUn dNeg (dC (.int 1)))) (aNil))))))) (dRet (dTup (lCons (dC (.str "last")) (lNil)))) (dNext)) (dSeq (dFor (dRng2 (lCons (dC (.int 1)) (lCons (dB (dLen) (lCons (dVar 3) (lNil))) (lNil)))) (dgName 4) (dIf (dNot (dTru (dCall ((wp_do_fight) K) (aCons (dVar 0) (aCons (dVar 1) (aCons (dSl dCut (dOp dIx (dVar 2) (dOp dIx (dVar 3) (dOp dSub (dVar 4) (dC (.int 1))))) oNo (oYes (dC (.int 2)))) (aCons (dSl dCut (dOp dIx (dVar 2) (dOp dIx (dVar 3) (dVar 4))) oNo (oYes (dC (.int 2)))) (aNil)))))))) (dRet (dTup (lCons (dC (.str "fight")) (lCons (dVar 4) (lNil))))) (dNext))) (dRet (dC .none))))))
def wp_judge_knot (K : PySem.W.Frag) : Wp := fun as Qd => as.length = 4 ∧ bd_judge_knot K (ctlS Qd) (env0 6 as)
def bd__law_pick (K : PySem.W.Frag) : DS := dSeq (dIf (dTst (dOp (dCmp fun i j => decide (i < j)) (dVar 1) (dC (.int 2)))) (dRet (dC (.int 0))) (dNext)) (dFill (dSeq (dSet 3 (dSrcGet 0)) (dSeq (dIf (dTst (dOp (dCmp fun i j => decide (j < i)) (dVar 3) (dC (.int 1)))) (dSeq (dSrcPut 0 (dOp dFdiv (dVar 3) (dVar 1))) (dRet (dOp dMod (dB (dInt) (lCons (dVar 3) (lNil))) (dVar 1)))) (dNext)) (dSeq (dSrcPut 0 (dOp dAdd (dSrcGet 0) (dC (.int 1)))) (dSeq (dSet 4 (dSrcGet 0)) (dSeq (dSet 5 (dOp dMod (dB (dInt) (lCons (dOp dAdd (dSrcGet 0) (dOp dMul (dVar 4) (dC (.int 104729)))) (lNil))) (dC (.int 998244353)))) (dSeq (dSet 5 (dOp dMod (dB (dInt) (lCons (dOp dAdd (dOp dMul (dVar 5) (dVar 5)) (dOp dMul (dVar 4) (dC (.int 17)))) (lNil))) (dC (.int 2147483647)))) (dRet (dOp dMod (dB (dInt) (lCons (dOp dFdiv (dVar 5) (dC (.int 16))) (lNil))) (dVar 1))))))))))
def wp__law_pick (K : PySem.W.Frag) : Wp := fun as Qd => as.length = 2 ∧ bd__law_pick K (ctlS Qd) (env0 6 as)
def bd__law_of (K : PySem.W.Frag) : DS := dRet (dOp dIx (dVar 1) (dCall ((wpPick) K) (aSrc 0 (aCons (dB (dLen) (lCons (dVar 1) (lNil))) (aNil)))))
def wp__law_of (K : PySem.W.Frag) : Wp := fun as Qd => as.length = 2 ∧ bd__law_of K (ctlS Qd) (env0 2 as)
def bd__law_chunks (K : PySem.W.Frag) : DS := dSeq (dSet 3 (dB (dSorted) (lCons (dSl dCut (dCall ((wpAnyOrder) K) (aSrc 0 (aCons (dListRg (dRg2 (dC (.int 1)) (dB (dLen) (lCons (dVar 1) (lNil))))) (aNil)))) oNo (oYes (dOp dSub (dVar 2) (dC (.int 1))))) (lNil)))) (dRet (dLc (dZip (lCons (dOp dAdd (dLst (lCons (dC (.int 0)) (lNil))) (dVar 3)) (lCons (dOp dAdd (dVar 3) (dLst (lCons (dB (dLen) (lCons (dVar 1) (lNil))) (lNil)))) (lNil)))) (dgTup 2 (dgCons (dgName 4) (dgCons (dgName 5) (dgNil)))) (dYes) (dSl dCut (dVar 1) (oYes (dVar 4)) (oYes (dVar 5))) [4, 5]))
def wp__law_chunks (K : PySem.W.Frag) : Wp := fun as Qd => as.length = 3 ∧ bd__law_chunks K (ctlS Qd) (env0 6 as)
def bd__law_any_plan (K : PySem.W.Frag) (r : Nat → Wp) : DS := dSeq (dIf (dAnd (dTst (dOp (dEq) (dB (dLen) (lCons (dVar 1) (lNil))) (dC (.int 1)))) (dOr (dTst (dOp (dEq) (dVar 2) (dC (.int 0)))) (dTst (dOp (dCmp fun i j => decide (j < i)) (dCall ((wpPick) K) (aSrc 0 (aCons (dC (.int 5)) (aNil)))) (dC (.int 0)))))) (dRet (dTup (lCons (dC (.str "deed")) (lCons (dOp dIx (dVar 1) (dC (.int 0))) (lCons (dCall ((wp__law_of) K) (aSrc 0 (aCons (dLst (lCons (dC (.str "undoable")) (lCons (dC (.str "sure")) (lCons (dC (.str "both")) (lCons (dC (.str "neither")) (lNil)))))) (aNil)))) (lNil)))))) (dNext)) (dSeq (dIf (dTst (dOp (dEq) (dB (dLen) (lCons (dVar 1) (lNil))) (dC (.int 1)))) (dRet (dTup (lCons (dCall ((wp__law_of) K) (aSrc 0 (aCons (dLst (lCons (dC (.str "row")) (lCons (dC (.str "side")) (lNil)))) (aNil)))) (lCons (dTup (lCons (dCall (r 0) (aSrc 0 (aCons (dVar 1) (aCons (dOp dSub (dVar 2) (dC (.int 1))) (aNil))))) (lNil))) (lNil))))) (dNext)) (dSeq (dIf (dTst (dOp (dEq) (dVar 2) (dC (.int 0)))) (dRet (dTup (lCons (dC (.str "row")) (lCons (dB (dTuple) (lCons (dLc (dIt (dVar 1)) (dgName 6) (dYes) (dCall (r 0) (aSrc 0 (aCons (dLst (lCons (dVar 6) (lNil))) (aCons (dC (.int 0)) (aNil))))) [6]) (lNil))) (lNil))))) (dNext)) (dSeq (dSet 3 (dCall ((wp__law_chunks) K) (aSrc 0 (aCons (dVar 1) (aCons (dOp dAdd (dC (.int 2)) (dCall ((wpPick) K) (aSrc 0 (aCons (dB dMin2 (lCons (dC (.int 2)) (lCons (dOp dSub (dB (dLen) (lCons (dVar 1) (lNil))) (dC (.int 1))) (lNil)))) (aNil))))) (aNil)))))) (dSeq (dSet 4 (dCall ((wp__law_of) K) (aSrc 0 (aCons (dLst (lCons (dC (.str "row")) (lCons (dC (.str "row")) (lCons (dC (.str "side")) (lCons (dC (.str "else")) (lNil)))))) (aNil))))) (dRet (dTup (lCons (dVar 4) (lCons (dB (dTuple) (lCons (dLc (dIt (dVar 3)) (dgName 5) (dYes) (dCall (r 0) (aSrc 0 (aCons (dVar 5) (aCons (dOp dSub (dVar 2) (dC (.int 1))) (aNil))))) [5]) (lNil))) (lNil)))))))))
def wpR__law_any_plan (K : PySem.W.Frag) : Nat → Nat → Wp
  | 0, _ => fun _ _ => False
  | n + 1, _ => fun as Qd => as.length = 3 ∧ bd__law_any_plan K (wpR__law_any_plan K n) (ctlS Qd) (env0 7 as)
def bd__law_draw_lot (K : PySem.W.Frag) : DS := dSeq (dSetO 3 (dLst (lNil))) (dSeq (dFor (dRng1 (lCons (dVar 1) (lNil))) (dgName 4) (dSeq (dSet 5 (dSl dCut (dCall ((wpAnyOrder) K) (aSrc 0 (aCons (dLst (lCons (dC (.str "a")) (lCons (dC (.str "b")) (lCons (dC (.str "c")) (lCons (dC (.str "pay")) (lCons (dC (.str "x1")) (lCons (dC (.str "e")) (lNil)))))))) (aNil)))) oNo (oYes (dOp dAdd (dC (.int 1)) (dCall ((wpPick) K) (aSrc 0 (aCons (dVar 2) (aNil)))))))) (dApp 3 (dCall ((fun K => wpR__law_any_plan K 24 0) K) (aSrc 0 (aCons (dVar 5) (aCons (dC (.int 2)) (aNil)))))))) (dRet (dB (dTuple) (lCons (dVarP 3) (lNil)))))
def wp__law_draw_lot (K : PySem.W.Frag) : Wp := fun as Qd => as.length = 3 ∧ bd__law_draw_lot K (ctlS Qd) (env0 6 as)
def bd__law_names (K : PySem.W.Frag) (r : Nat → Wp) : DS := dSeq (dIf (dTst (dOp (dEq) (dOp dIx (dVar 0) (dC (.int 0))) (dC (.str "deed")))) (dRet (dLst (lCons (dOp dIx (dVar 0) (dC (.int 1))) (lNil)))) (dNext)) (dSeq (dSet 1 (dLst (lNil))) (dSeq (dFor (dIt (dOp dIx (dVar 0) (dC (.int 1)))) (dgName 2) (dSet 1 (dOp dAdd (dVar 1) (dCall (r 0) (aCons (dVar 2) (aNil)))))) (dRet (dVar 1))))
def wpR__law_names (K : PySem.W.Frag) : Nat → Nat → Wp
  | 0, _ => fun _ _ => False
  | n + 1, _ => fun as Qd => as.length = 1 ∧ bd__law_names K (wpR__law_names K n) (ctlS Qd) (env0 3 as)
def bd__law_deeds (K : PySem.W.Frag) : DS := dSeq (dSet 1 (dLst (lNil))) (dSeq (dFor (dEnum (lCons (dVar 0) (lNil))) (dgTup 2 (dgCons (dgName 2) (dgCons (dgName 3) (dgNil)))) (dSet 1 (dOp dAdd (dVar 1) (dLc (dIt (dCall ((fun K => wpR__law_names K 24 0) K) (aCons (dVar 3) (aNil)))) (dgName 4) (dYes) (dTup (lCons (dVar 2) (lCons (dVar 4) (lNil)))) [4])))) (dRet (dVar 1)))
def wp__law_deeds (K : PySem.W.Frag) : Wp := fun as Qd => as.length = 1 ∧ bd__law_deeds K (ctlS Qd) (env0 5 as)
def bd__law_down (K : PySem.W.Frag) (r : Nat → Wp) : DS := dSeq (dIf (dTst (dOp (dEq) (dOp dIx (dVar 0) (dC (.int 0))) (dC (.str "deed")))) (dRet (dLst (lNil))) (dNext)) (dSeq (dFor (dEnum (lCons (dOp dIx (dVar 0) (dC (.int 1))) (lNil))) (dgTup 2 (dgCons (dgName 2) (dgCons (dgName 3) (dgNil)))) (dIf (dTst (dOp (dIn false) (dVar 1) (dCall ((fun K => wpR__law_names K 24 0) K) (aCons (dVar 3) (aNil))))) (dRet (dOp dAdd (dLst (lCons (dTup (lCons (dOp dIx (dVar 0) (dC (.int 0))) (lCons (dVar 2) (lNil)))) (lNil))) (dCall (r 0) (aCons (dVar 3) (aCons (dVar 1) (aNil)))))) (dNext))) (dRet (dLst (lNil))))
def wpR__law_down (K : PySem.W.Frag) : Nat → Nat → Wp
  | 0, _ => fun _ _ => False
  | n + 1, _ => fun as Qd => as.length = 2 ∧ bd__law_down K (wpR__law_down K n) (ctlS Qd) (env0 4 as)
def bd__law_are_rowed (K : PySem.W.Frag) : DS := dSeq (dFor (dZip (lCons (dCall ((fun K => wpR__law_down K 24 0) K) (aCons (dVar 0) (aCons (dVar 1) (aNil)))) (lCons (dCall ((fun K => wpR__law_down K 24 0) K) (aCons (dVar 0) (aCons (dVar 2) (aNil)))) (lNil)))) (dgTup 2 (dgCons (dgTup 2 (dgCons (dgName 3) (dgCons (dgName 4) (dgNil)))) (dgCons (dgTup 2 (dgCons (dgName 5) (dgCons (dgName 6) (dgNil)))) (dgNil)))) (dIf (dTst (dOp (dNe) (dVar 4) (dVar 6))) (dRet (dOp (dEq) (dVar 3) (dC (.str "row")))) (dNext))) (dRet (dC (.bool false)))
def wp__law_are_rowed (K : PySem.W.Frag) : Wp := fun as Qd => as.length = 3 ∧ bd__law_are_rowed K (ctlS Qd) (env0 7 as)
def bd__law_fight (K : PySem.W.Frag) : DS := dSeq (dIf (dTst (dOp (dNe) (dOp dIx (dVar 2) (dC (.int 0))) (dOp dIx (dVar 3) (dC (.int 0))))) (dRet (dOrT (dOp (dIn false) (dTup (lCons (dVar 2) (lCons (dVar 3) (lNil)))) (dVar 1)) (dOp (dIn false) (dTup (lCons (dVar 3) (lCons (dVar 2) (lNil)))) (dVar 1)))) (dNext)) (dRet (dAndT (dOp (dNe) (dVar 2) (dVar 3)) (dCall ((wp__law_are_rowed) K) (aCons (dOp dIx (dVar 0) (dOp dIx (dVar 2) (dC (.int 0)))) (aCons (dOp dIx (dVar 2) (dC (.int 1))) (aCons (dOp dIx (dVar 3) (dC (.int 1))) (aNil)))))))
def wp__law_fight (K : PySem.W.Frag) : Wp := fun as Qd => as.length = 4 ∧ bd__law_fight K (ctlS Qd) (env0 4 as)
def bd__law_draw_fights (K : PySem.W.Frag) : DS := dSeq (dPar 3 4 (dLst (lNil)) (dB (dSorted) (lCons (dCall ((wp__law_deeds) K) (aCons (dVar 1) (aNil))) (lNil)))) (dSeq (dFor (dEnum (lCons (dVar 4) (lNil))) (dgTup 2 (dgCons (dgName 5) (dgCons (dgName 6) (dgNil)))) (dSet 3 (dOp dAdd (dVar 3) (dLc (dIt (dSl dCut (dVar 4) (oYes (dOp dAdd (dVar 5) (dC (.int 1)))) oNo)) (dgName 7) (dAnd (dTst (dOp (dCmp fun i j => decide (j < i)) (dOp dIx (dVar 7) (dC (.int 0))) (dOp dIx (dVar 6) (dC (.int 0))))) (dTst (dOp (dEq) (dCall ((wpPick) K) (aSrc 0 (aCons (dVar 2) (aNil)))) (dC (.int 0))))) (dTup (lCons (dVar 6) (lCons (dVar 7) (lNil)))) [7])))) (dRet (dB (dTuple) (lCons (dVar 3) (lNil)))))
def wp__law_draw_fights (K : PySem.W.Frag) : Wp := fun as Qd => as.length = 3 ∧ bd__law_draw_fights K (ctlS Qd) (env0 8 as)
def bd__law_draw_log (K : PySem.W.Frag) : DS := dSeq (dParFE 3 4 (dLst (lNil)) (dCall ((wp__law_deeds) K) (aCons (dVar 1) (aNil)))) (dSeq (dFor (dRng1 (lCons (dVar 2) (lNil))) (dgName 5) (dSeq (dSet 6 (dCall ((wp__law_of) K) (aSrc 0 (aCons (dVar 4) (aNil))))) (dIf (dTst (dOp (dIn true) (dOp dAdd (dVar 6) (dTup (lCons (dC (.int 1)) (lNil)))) (dVarP 3))) (dApp 3 (dOp dAdd (dVar 6) (dTup (lCons (dC (.int 1)) (lNil))))) (dIf (dTst (dOp (dIn true) (dOp dAdd (dVar 6) (dTup (lCons (dOp dSub (dC (.int 0)) (dC (.int 1))) (lNil)))) (dVarP 3))) (dApp 3 (dOp dAdd (dVar 6) (dTup (lCons (dOp dSub (dC (.int 0)) (dC (.int 1))) (lNil))))) (dNext))))) (dRet (dB (dTuple) (lCons (dVarP 3) (lNil)))))
def wp__law_draw_log (K : PySem.W.Frag) : Wp := fun as Qd => as.length = 3 ∧ bd__law_draw_log K (ctlS Qd) (env0 7 as)
def bd__law_undoing (K : PySem.W.Frag) : DS := dRet (dIfE (dTst (dOp (dIn false) (dOp dAdd (dSl dCut (dOp dIx (dVar 0) (dVar 1)) oNo (oYes (dC (.int 2)))) (dTup (lCons (dOp dSub (dC (.int 0)) (dC (.int 1))) (lNil)))) (dVar 0))) (dOrE (dM "list" dIdxL (dVar 0) (lCons (dOp dAdd (dSl dCut (dOp dIx (dVar 0) (dVar 1)) oNo (oYes (dC (.int 2)))) (dTup (lCons (dOp dSub (dC (.int 0)) (dC (.int 1))) (lNil)))) (lNil))) (dM "tuple" dIdxT (dVar 0) (lCons (dOp dAdd (dSl dCut (dOp dIx (dVar 0) (dVar 1)) oNo (oYes (dC (.int 2)))) (dTup (lCons (dOp dSub (dC (.int 0)) (dC (.int 1))) (lNil)))) (lNil)))) (dC .none))
def wp__law_undoing (K : PySem.W.Frag) : Wp := fun as Qd => as.length = 2 ∧ bd__law_undoing K (ctlS Qd) (env0 2 as)
def bd__law_rest (K : PySem.W.Frag) : DS := dSeq (dPar 3 4 (dListRg (dRg1 (dB (dLen) (lCons (dVar 2) (lNil))))) (dC (.int 0))) (dSeq (dWhile (dTst (dOp (dCmp fun i j => decide (i < j)) (dVar 4) (dB (dLen) (lCons (dVar 3) (lNil))))) (dSeq (dSet 5 (dOp dIx (dVar 3) (dVar 4))) (dSeq (dSet 6 (dIfE (dTst (dOp (dEq) (dOp dIx (dOp dIx (dVar 2) (dVar 5)) (dC (.int 2))) (dC (.int 1)))) (dCall ((wp__law_undoing) K) (aCons (dVar 2) (aCons (dVar 5) (aNil)))) (dC .none))) (dSeq (dSet 7 (dLc (dIt (dVar 3)) (dgName 8) (dAnd (dTst (dOp (dIs true) (dVar 6) (dC .none))) (dTst (dChain (dCmp fun i j => decide (i < j)) (dCmp fun i j => decide (i < j)) (dVar 5) (dVar 8) (dVar 6)))) (dVar 8) [8])) (dIf (dAnd (dTst (dOp (dIs true) (dVar 6) (dC .none))) (dNot (dTru (dB (dAny false) (lCons (dLc (dIt (dVar 7)) (dgName 8) (dYes) (dCall ((wp__law_fight) K) (aCons (dVar 0) (aCons (dVar 1) (aCons (dSl dCut (dOp dIx (dVar 2) (dVar 5)) oNo (oYes (dC (.int 2)))) (aCons (dSl dCut (dOp dIx (dVar 2) (dVar 8)) oNo (oYes (dC (.int 2)))) (aNil)))))) [8]) (lNil)))))) (dPar 3 4 (dLc (dIt (dVar 3)) (dgName 8) (dTst (dOp (dIn true) (dVar 8) (dTup (lCons (dVar 5) (lCons (dVar 6) (lNil)))))) (dVar 8) [8]) (dC (.int 0))) (dSet 4 (dOp dAdd (dVar 4) (dC (.int 1))))))))) (dRet (dVar 3)))
def wp__law_rest (K : PySem.W.Frag) : Wp := fun as Qd => as.length = 3 ∧ bd__law_rest K (ctlS Qd) (env0 9 as)
def bd__law_stand (K : PySem.W.Frag) : DS := dRet (dLc (dEnum (lCons (dVar 0) (lNil))) (dgTup 2 (dgCons (dgName 1) (dgCons (dgName 2) (dgNil)))) (dAnd (dTst (dOp (dEq) (dOp dIx (dVar 2) (dC (.int 2))) (dC (.int 1)))) (dTst (dOp (dIs false) (dCall ((wp__law_undoing) K) (aCons (dVar 0) (aCons (dVar 1) (aNil)))) (dC .none)))) (dVar 1) [1, 2])
def wp__law_stand (K : PySem.W.Frag) : Wp := fun as Qd => as.length = 1 ∧ bd__law_stand K (ctlS Qd) (env0 3 as)
def bd__law_is_number (K : PySem.W.Frag) : DS := dRet (dAndT (dIsa isaInt (dVar 0)) (dAndT (dNotT (dIsa isaBool (dVar 0))) (dOp (dCmp fun i j => decide (j ≤ i)) (dVar 0) (dC (.int 0)))))
def wp__law_is_number (K : PySem.W.Frag) : Wp := fun as Qd => as.length = 1 ∧ bd__law_is_number K (ctlS Qd) (env0 1 as)
def bd__law_are_numbers (K : PySem.W.Frag) : DS := dRet (dAndT (dIsa isaTuple (dVar 0)) (dB (dAny true) (lCons (dLc (dIt (dVar 0)) (dgName 2) (dYes) (dAndT (dCall ((wp__law_is_number) K) (aCons (dVar 2) (aNil))) (dOp (dCmp fun i j => decide (i < j)) (dVar 2) (dVar 1))) [2]) (lNil))))
def wp__law_are_numbers (K : PySem.W.Frag) : Wp := fun as Qd => as.length = 2 ∧ bd__law_are_numbers K (ctlS Qd) (env0 3 as)
def bd__law_knot_fault (K : PySem.W.Frag) : DS := dSeq (dIf (dOr (dNot (dTru (dCall ((wp__law_are_numbers) K) (aCons (dVar 3) (aCons (dB (dLen) (lCons (dVar 2) (lNil))) (aNil)))))) (dTst (dOp (dCmp fun i j => decide (i < j)) (dB (dLen) (lCons (dVar 3) (lNil))) (dC (.int 2))))) (dRet (dTup (lCons (dC (.str "form")) (lNil)))) (dNext)) (dSeq (dFor (dEnum (lCons (dSl dCut (dVar 3) oNo (oYes (dUn dNeg (dC (.int 1))))) (lNil))) (dgTup 2 (dgCons (dgName 4) (dgCons (dgName 5) (dgNil)))) (dIf (dOr (dTst (dOp (dNe) (dOp dIx (dOp dIx (dVar 2) (dVar 5)) (dC (.int 2))) (dC (.int 1)))) (dTst (dOp (dIs false) (dCall ((wp__law_undoing) K) (aCons (dVar 2) (aCons (dVar 5) (aNil)))) (dC .none)))) (dRet (dTup (lCons (dC (.str "pair")) (lCons (dVar 4) (lNil))))) (dNext))) (dSeq (dFor (dRng2 (lCons (dC (.int 1)) (lCons (dOp dSub (dB (dLen) (lCons (dVar 3) (lNil))) (dC (.int 1))) (lNil)))) (dgName 4) (dIf (dOr (dNot (dTst (dOp (dCmp fun i j => decide (i < j)) (dOp dIx (dVar 3) (dOp dSub (dVar 4) (dC (.int 1)))) (dOp dIx (dVar 3) (dVar 4))))) (dNot (dTst (dOp (dCmp fun i j => decide (i < j)) (dCall ((wp__law_undoing) K) (aCons (dVar 2) (aCons (dOp dIx (dVar 3) (dVar 4)) (aNil)))) (dCall ((wp__law_undoing) K) (aCons (dVar 2) (aCons (dOp dIx (dVar 3) (dOp dSub (dVar 4) (dC (.int 1)))) (aNil)))))))) (dRet (dTup (lCons (dC (.str "within")) (lCons (dVar 4) (lNil))))) (dNext))) (dSeq (dAsg (dTup (lCons (dOp dIx (dVar 3) (dUn dNeg (dC (.int 2)))) (lCons (dCall ((wp__law_undoing) K) (aCons (dVar 2) (aCons (dOp dIx (dVar 3) (dUn dNeg (dC (.int 2)))) (aNil)))) (lCons (dOp dIx (dVar 3) (dUn dNeg (dC (.int 1)))) (lNil))))) (dgTup 3 (dgCons (dgName 6) (dgCons (dgName 7) (dgCons (dgName 8) (dgNil)))))) (dSeq (dIf (dOr (dNot (dTst (dChain (dCmp fun i j => decide (i < j)) (dCmp fun i j => decide (i < j)) (dVar 6) (dVar 8) (dVar 7)))) (dTst (dOp (dNe) (dLc (dRng2 (lCons (dOp dAdd (dVar 6) (dC (.int 1))) (lCons (dVar 7) (lNil)))) (dgName 5) (dTst (dOp (dEq) (dSl dCut (dOp dIx (dVar 2) (dVar 5)) oNo (oYes (dC (.int 2)))) (dSl dCut (dOp dIx (dVar 2) (dVar 8)) oNo (oYes (dC (.int 2)))))) (dVar 5) [5]) (dLst (lCons (dVar 8) (lNil)))))) (dRet (dTup (lCons (dC (.str "last")) (lNil)))) (dNext)) (dSeq (dFor (dRng2 (lCons (dC (.int 1)) (lCons (dB (dLen) (lCons (dVar 3) (lNil))) (lNil)))) (dgName 4) (dIf (dNot (dTru (dCall ((wp__law_fight) K) (aCons (dVar 0) (aCons (dVar 1) (aCons (dSl dCut (dOp dIx (dVar 2) (dOp dIx (dVar 3) (dVar 4))) oNo (oYes (dC (.int 2)))) (aCons (dSl dCut (dOp dIx (dVar 2) (dOp dIx (dVar 3) (dOp dSub (dVar 4) (dC (.int 1))))) oNo (oYes (dC (.int 2)))) (aNil)))))))) (dRet (dTup (lCons (dC (.str "fight")) (lCons (dVar 4) (lNil))))) (dNext))) (dRet (dC .none)))))))
def wp__law_knot_fault (K : PySem.W.Frag) : Wp := fun as Qd => as.length = 4 ∧ bd__law_knot_fault K (ctlS Qd) (env0 9 as)
def bd__law_may_undo (K : PySem.W.Frag) : DS := dSeq (dSet 4 (dLc (dIt (dCall ((wp__law_stand) K) (aCons (dVar 2) (aNil)))) (dgName 5) (dYes) (dSl dCut (dOp dIx (dVar 2) (dVar 5)) oNo (oYes (dC (.int 2)))) [5])) (dSeq (dIf (dTst (dOp (dIn true) (dVar 3) (dVar 4))) (dRet (dC (.bool false))) (dNext)) (dRet (dNotT (dB (dAny false) (lCons (dLc (dIt (dSl dCut (dVar 4) (oYes (dOp dAdd (dM "list" dIdxL (dVar 4) (lCons (dVar 3) (lNil))) (dC (.int 1)))) oNo)) (dgName 6) (dYes) (dCall ((wp__law_fight) K) (aCons (dVar 0) (aCons (dVar 1) (aCons (dVar 3) (aCons (dVar 6) (aNil)))))) [6]) (lNil))))))
def wp__law_may_undo (K : PySem.W.Frag) : Wp := fun as Qd => as.length = 4 ∧ bd__law_may_undo K (ctlS Qd) (env0 7 as)
def bd__law_lawful_log (K : PySem.W.Frag) : DS := dSeq (dPar 4 5 (dTup (lNil)) (dCall ((wp__law_deeds) K) (aCons (dVar 1) (aNil)))) (dSeq (dFor (dRng1 (lCons (dVar 3) (lNil))) (dgName 6) (dSeq (dSet 7 (dCall ((wp__law_of) K) (aSrc 0 (aCons (dVar 5) (aNil))))) (dIf (dTst (dOp (dIn true) (dOp dAdd (dVar 7) (dTup (lCons (dC (.int 1)) (lNil)))) (dVar 4))) (dSet 4 (dOp dAdd (dVar 4) (dTup (lCons (dOp dAdd (dVar 7) (dTup (lCons (dC (.int 1)) (lNil)))) (lNil))))) (dIf (dAnd (dTst (dOp (dIn true) (dOp dAdd (dVar 7) (dTup (lCons (dOp dSub (dC (.int 0)) (dC (.int 1))) (lNil)))) (dVar 4))) (dOr (dTru (dCall ((wp__law_may_undo) K) (aCons (dVar 1) (aCons (dVar 2) (aCons (dVar 4) (aCons (dVar 7) (aNil))))))) (dTst (dOp (dEq) (dCall ((wpPick) K) (aSrc 0 (aCons (dC (.int 12)) (aNil)))) (dC (.int 0)))))) (dSet 4 (dOp dAdd (dVar 4) (dTup (lCons (dOp dAdd (dVar 7) (dTup (lCons (dOp dSub (dC (.int 0)) (dC (.int 1))) (lNil)))) (lNil))))) (dNext))))) (dRet (dVar 4)))
def wp__law_lawful_log (K : PySem.W.Frag) : Wp := fun as Qd => as.length = 4 ∧ bd__law_lawful_log K (ctlS Qd) (env0 8 as)
def bd__law_can_strike (K : PySem.W.Frag) : DS := dSeq (dIf (dTst (dOp (dIn true) (dOp dAdd (dVar 3) (dTup (lCons (dOp dSub (dC (.int 0)) (dC (.int 1))) (lNil)))) (dVar 2))) (dRet (dC (.bool false))) (dNext)) (dSeq (dSet 4 (dSl dCut (dVar 2) (oYes (dOp dAdd (dOrE (dM "list" dIdxL (dVar 2) (lCons (dOp dAdd (dVar 3) (dTup (lCons (dC (.int 1)) (lNil)))) (lNil))) (dM "tuple" dIdxT (dVar 2) (lCons (dOp dAdd (dVar 3) (dTup (lCons (dC (.int 1)) (lNil)))) (lNil)))) (dC (.int 1)))) (oYes (dOrE (dM "list" dIdxL (dVar 2) (lCons (dOp dAdd (dVar 3) (dTup (lCons (dOp dSub (dC (.int 0)) (dC (.int 1))) (lNil)))) (lNil))) (dM "tuple" dIdxT (dVar 2) (lCons (dOp dAdd (dVar 3) (dTup (lCons (dOp dSub (dC (.int 0)) (dC (.int 1))) (lNil)))) (lNil))))))) (dRet (dNotT (dB (dAny false) (lCons (dLc (dIt (dVar 4)) (dgName 5) (dYes) (dCall ((wp__law_fight) K) (aCons (dVar 0) (aCons (dVar 1) (aCons (dVar 3) (aCons (dSl dCut (dVar 5) oNo (oYes (dC (.int 2)))) (aNil)))))) [5]) (lNil))))))
def wp__law_can_strike (K : PySem.W.Frag) : Wp := fun as Qd => as.length = 4 ∧ bd__law_can_strike K (ctlS Qd) (env0 6 as)
def bd__law_strikes_right (K : PySem.W.Frag) : DS := dSeq (dPar 4 5 (dCall ((wp_strikes) K) (aCons (dVar 0) (aCons (dVar 1) (aCons (dVar 2) (aNil))))) (dVar 2)) (dSeq (dSet 6 (dLc (dEnum (lCons (dVar 2) (lNil))) (dgTup 2 (dgCons (dgName 8) (dgCons (dgName 9) (dgNil)))) (dAnd (dTst (dOp (dEq) (dOp dIx (dVar 9) (dC (.int 2))) (dC (.int 1)))) (dTst (dOp (dIn true) (dVar 8) (dVar 3)))) (dSl dCut (dVar 9) oNo (oYes (dC (.int 2)))) [8, 9])) (dSeq (dIf (dOr (dNot (dTru (dIsa isaTuple (dVar 4)))) (dTst (dOp (dNe) (dB (dRepr) (lCons (dB (dSortedA) (lCons (dVar 4) (lNil))) (lNil))) (dB (dRepr) (lCons (dB (dSorted) (lCons (dVar 6) (lNil))) (lNil)))))) (dRet (dC (.bool false))) (dNext)) (dSeq (dFor (dIt (dVar 4)) (dgName 7) (dSeq (dIf (dOr (dNot (dTru (dCall ((wp__law_can_strike) K) (aCons (dVar 0) (aCons (dVar 1) (aCons (dVar 5) (aCons (dVar 7) (aNil)))))))) (dTst (dOp (dIs true) (dCall ((wp_can_strike) K) (aCons (dVar 0) (aCons (dVar 1) (aCons (dVar 5) (aCons (dVar 7) (aNil)))))) (dC (.bool true))))) (dRet (dC (.bool false))) (dNext)) (dSet 5 (dB (dTuple) (lCons (dLc (dIt (dVar 5)) (dgName 9) (dTst (dOp (dNe) (dSl dCut (dVar 9) oNo (oYes (dC (.int 2)))) (dVar 7))) (dVar 9) [9]) (lNil)))))) (dRet (dOp (dEq) (dVar 5) (dB (dTuple) (lCons (dLc (dIt (dVar 3)) (dgName 8) (dYes) (dOp dIx (dVar 2) (dVar 8)) [8]) (lNil))))))))
def wp__law_strikes_right (K : PySem.W.Frag) : Wp := fun as Qd => as.length = 4 ∧ bd__law_strikes_right K (ctlS Qd) (env0 10 as)
def bd__law_knots_right (K : PySem.W.Frag) : DS := dSeq (dFor (dEnum (lCons (dVar 2) (lNil))) (dgTup 2 (dgCons (dgName 4) (dgCons (dgName 5) (dgNil)))) (dSeq (dSet 6 (dCall ((wp_knot) K) (aCons (dVar 0) (aCons (dVar 1) (aCons (dVar 2) (aCons (dVar 4) (aNil))))))) (dIf (dOr (dTst (dOp (dEq) (dOp dIx (dVar 5) (dC (.int 2))) (dC (.int 1)))) (dTst (dOp (dIn true) (dVar 4) (dVar 3)))) (dIf (dTst (dOp (dIs true) (dVar 6) (dC .none))) (dRet (dC (.bool false))) (dNext)) (dIf (dOr (dTst (dOp (dIs true) (dCall ((wp__law_knot_fault) K) (aCons (dVar 0) (aCons (dVar 1) (aCons (dVar 2) (aCons (dVar 6) (aNil)))))) (dC .none))) (dTst (dOp (dNe) (dOp dIx (dVar 2) (dOp dIx (dVar 6) (dC (.int 0)))) (dOp dAdd (dSl dCut (dVar 5) oNo (oYes (dC (.int 2)))) (dTup (lCons (dC (.int 1)) (lNil))))))) (dRet (dC (.bool false))) (dIf (dTst (dOp (dIs true) (dCall ((wp_judge_knot) K) (aCons (dVar 0) (aCons (dVar 1) (aCons (dVar 2) (aCons (dVar 6) (aNil)))))) (dC .none))) (dRet (dC (.bool false))) (dNext)))))) (dRet (dC (.bool true)))
def wp__law_knots_right (K : PySem.W.Frag) : Wp := fun as Qd => as.length = 4 ∧ bd__law_knots_right K (ctlS Qd) (env0 7 as)
def bd__law_steps_right (K : PySem.W.Frag) : DS := dSeq (dPar 3 4 (dLst (lNil)) (dC .none)) (dSeq (dFor (dEnum (lCons (dVar 2) (lNil))) (dgTup 2 (dgCons (dgName 5) (dgCons (dgName 6) (dgNil)))) (dSeq (dSet 7 (dLc (dIt (dVar 3)) (dgName 8) (dAnd (dTst (dOp (dNe) (dOp dIx (dVar 6) (dC (.int 2))) (dC (.int 1)))) (dTst (dOp (dCmp fun i j => decide (j < i)) (dVar 8) (dOrE (dM "list" dIdxL (dVar 2) (lCons (dOp dAdd (dSl dCut (dVar 6) oNo (oYes (dC (.int 2)))) (dTup (lCons (dC (.int 1)) (lNil)))) (lNil))) (dM "tuple" dIdxT (dVar 2) (lCons (dOp dAdd (dSl dCut (dVar 6) oNo (oYes (dC (.int 2)))) (dTup (lCons (dC (.int 1)) (lNil)))) (lNil))))))) (dVar 8) [8])) (dSeq (dIf (dOr (dTst (dOp (dEq) (dOp dIx (dVar 6) (dC (.int 2))) (dC (.int 1)))) (dTru (dB (dAny false) (lCons (dLc (dIt (dVar 7)) (dgName 8) (dYes) (dCall ((wp__law_fight) K) (aCons (dVar 0) (aCons (dVar 1) (aCons (dSl dCut (dOp dIx (dVar 2) (dVar 8)) oNo (oYes (dC (.int 2)))) (aCons (dSl dCut (dVar 6) oNo (oYes (dC (.int 2)))) (aNil)))))) [8]) (lNil))))) (dSeq (dSet 3 (dOp dAdd (dVar 3) (dLst (lCons (dVar 5) (lNil))))) (dSet 4 (dIfE (dAnd (dTst (dOp (dNe) (dOp dIx (dVar 6) (dC (.int 2))) (dC (.int 1)))) (dTst (dOp (dIs false) (dVar 4) (dC .none)))) (dOp dAdd (dVar 5) (dC (.int 1))) (dVar 4)))) (dSet 3 (dLc (dIt (dVar 3)) (dgName 8) (dTst (dOp (dNe) (dSl dCut (dOp dIx (dVar 2) (dVar 8)) oNo (oYes (dC (.int 2)))) (dSl dCut (dVar 6) oNo (oYes (dC (.int 2)))))) (dVar 8) [8]))) (dIf (dTst (dOp (dNe) (dB (dRepr) (lCons (dCall ((wp_rest) K) (aCons (dVar 0) (aCons (dVar 1) (aCons (dSl dCut (dVar 2) oNo (oYes (dOp dAdd (dVar 5) (dC (.int 1))))) (aNil))))) (lNil))) (dB (dRepr) (lCons (dB (dTuple) (lCons (dVar 3) (lNil))) (lNil))))) (dRet (dC (.bool false))) (dNext))))) (dRet (dOp (dEq) (dB (dRepr) (lCons (dCall ((wp_lost_at) K) (aCons (dVar 0) (aCons (dVar 1) (aCons (dVar 2) (aNil))))) (lNil))) (dB (dRepr) (lCons (dVar 4) (lNil))))))
def wp__law_steps_right (K : PySem.W.Frag) : Wp := fun as Qd => as.length = 3 ∧ bd__law_steps_right K (ctlS Qd) (env0 9 as)
def bd_law (K : PySem.W.Frag) : DS := dSeq (dFor (dRng1 (lCons (dC (.int 4)) (lNil))) (dgName 2) (dSeq (dSet 3 (dCall ((wp__law_draw_lot) K) (aSrc 1 (aCons (dOp dAdd (dC (.int 1)) (dCall ((wpPick) K) (aSrc 1 (aCons (dC (.int 4)) (aNil))))) (aCons (dC (.int 4)) (aNil)))))) (dSeq (dPar 4 5 (dCall ((wp__law_draw_fights) K) (aSrc 1 (aCons (dVar 3) (aCons (dOp dAdd (dC (.int 1)) (dCall ((wpPick) K) (aSrc 1 (aCons (dC (.int 4)) (aNil))))) (aNil))))) (dOp dAdd (dC (.int 4)) (dCall ((wpPick) K) (aSrc 1 (aCons (dC (.int 12)) (aNil)))))) (dSeq (dIf (dAnd (dTst (dOp (dEq) (dVar 2) (dC (.int 3)))) (dTst (dOp (dEq) (dCall ((wpPick) K) (aSrc 1 (aCons (dC (.int 20)) (aNil)))) (dC (.int 0))))) (dSeq (dPar 3 5 (dCall ((wp__law_draw_lot) K) (aSrc 1 (aCons (dC (.int 5)) (aCons (dC (.int 4)) (aNil))))) (dC (.int 60))) (dSet 4 (dCall ((wp__law_draw_fights) K) (aSrc 1 (aCons (dVar 3) (aCons (dOp dAdd (dC (.int 3)) (dCall ((wpPick) K) (aSrc 1 (aCons (dC (.int 5)) (aNil))))) (aNil))))))) (dNext)) (dSeq (dSet 6 (dIfE (dTst (dOp (dNe) (dVar 2) (dC (.int 2)))) (dCall ((wp__law_lawful_log) K) (aSrc 1 (aCons (dVar 3) (aCons (dVar 4) (aCons (dVar 5) (aNil)))))) (dCall ((wp__law_draw_log) K) (aSrc 1 (aCons (dVar 3) (aCons (dVar 5) (aNil))))))) (dSeq (dPar 7 8 (dB (dRepr) (lCons (dLst (lCons (dVar 3) (lCons (dVar 4) (lCons (dVar 6) (lNil))))) (lNil))) (dCall ((wp__law_rest) K) (aCons (dVar 3) (aCons (dVar 4) (aCons (dVar 6) (aNil)))))) (dSeq (dIf (dOr (dTst (dOp (dNe) (dB (dRepr) (lCons (dCall ((wp_rest) K) (aCons (dVar 3) (aCons (dVar 4) (aCons (dVar 6) (aNil))))) (lNil))) (dB (dRepr) (lCons (dB (dTuple) (lCons (dVar 8) (lNil))) (lNil))))) (dNot (dTru (dCall ((wp__law_strikes_right) K) (aCons (dVar 3) (aCons (dVar 4) (aCons (dVar 6) (aCons (dVar 8) (aNil))))))))) (dRet (dC (.bool false))) (dNext)) (dSeq (dFor (dIt (dCall ((wp__law_deeds) K) (aCons (dVar 3) (aNil)))) (dgName 9) (dSeq (dSet 10 (dLst (lCons (dCall ((wp_can_strike) K) (aCons (dVar 3) (aCons (dVar 4) (aCons (dVar 6) (aCons (dVar 9) (aNil)))))) (lCons (dCall ((wp_may_undo) K) (aCons (dVar 3) (aCons (dVar 4) (aCons (dVar 6) (aCons (dVar 9) (aNil)))))) (lNil))))) (dSeq (dSet 11 (dLst (lCons (dCall ((wp__law_can_strike) K) (aCons (dVar 3) (aCons (dVar 4) (aCons (dVar 6) (aCons (dVar 9) (aNil)))))) (lCons (dCall ((wp__law_may_undo) K) (aCons (dVar 3) (aCons (dVar 4) (aCons (dVar 6) (aCons (dVar 9) (aNil)))))) (lNil))))) (dIf (dTst (dOp (dNe) (dB (dRepr) (lCons (dVar 10) (lNil))) (dB (dRepr) (lCons (dVar 11) (lNil))))) (dRet (dC (.bool false))) (dNext))))) (dSeq (dIf (dOr (dNot (dTru (dCall ((wp__law_knots_right) K) (aCons (dVar 3) (aCons (dVar 4) (aCons (dVar 6) (aCons (dVar 8) (aNil)))))))) (dNot (dTru (dCall ((wp__law_steps_right) K) (aCons (dVar 3) (aCons (dVar 4) (aCons (dVar 6) (aNil)))))))) (dRet (dC (.bool false))) (dNext)) (dIf (dTst (dOp (dNe) (dB (dRepr) (lCons (dLst (lCons (dVar 3) (lCons (dVar 4) (lCons (dVar 6) (lNil))))) (lNil))) (dVar 7))) (dRet (dC (.bool false))) (dNext))))))))))) (dRet (dC (.bool true)))
theorem pick_wp {K : PySem.W.Frag} (as : List AV) (Qd : PyData → Prop) (h : wpPick K as Qd) : wp__law_pick K as Qd := by
  obtain ⟨m, rfl, hm, h⟩ := h
  refine ⟨rfl, ?_⟩
  show bd__law_pick K (ctlS Qd) [.so, .sh (.int m), .un, .un, .un, .un]
  have fin : ∀ x : Int, ¬ m < 2 → Qd (.int (x % m)) := fun x h2 => h _ (Int.emod_nonneg _ (by omega)) (.inl (Int.emod_lt_of_pos _ (by omega)))
  have cm : ∀ i j : Int, -(2 ^ 64) < j → j < 2 ^ 64 → CMul i j := fun i j a b => .inr ⟨a, b⟩
  by_cases h2 : m < 2
  · simp [bd__law_pick, ctlS, h2]
    exact h 0 (Int.le_refl _) (.inr rfl)
  · simp [bd__law_pick, ctlS, h2]
    intro n
    by_cases hn : 1 < n
    · simp [hn]
      exact ⟨⟨by omega, hm⟩, by omega, fin _ h2⟩
    · simp [hn]
      intro a b
      have g1 := Int.emod_nonneg (b + a * 104729) (b := 998244353) (by decide)
      have g2 := Int.emod_lt_of_pos (b + a * 104729) (b := 998244353) (by decide)
      exact ⟨cm _ _ (by decide) (by decide), cm _ _ (by omega) (by omega), cm _ _ (by decide) (by decide), ⟨by decide, by decide⟩, by omega, fin _ h2⟩

def top (i : Nat) : Stmt := PySem.Challenge.pw_togethersafe_k17_whole_rests_and_knots.main.body.getD i (.Pass ⟨0, 0, 0, 0⟩)
abbrev st_members_of : Stmt := top 6
abbrev st_placed : Stmt := top 7
abbrev st_part_at : Stmt := top 8
abbrev st_place_of : Stmt := top 9
abbrev st_common : Stmt := top 11
abbrev st_relation : Stmt := top 12
abbrev st_is_number : Stmt := top 14
abbrev st_do_fight : Stmt := top 15
abbrev st_are_bound : Stmt := top 16
abbrev st_standing_deeds : Stmt := top 17
abbrev st_can_strike : Stmt := top 19
abbrev st_gone_through : Stmt := top 20
abbrev st_rest : Stmt := top 21
abbrev st_strikes : Stmt := top 22
abbrev st_may_undo : Stmt := top 23
abbrev st_lost_at : Stmt := top 24
abbrev st_knot : Stmt := top 25
abbrev st_is_first_of_pair : Stmt := top 26
abbrev st_is_within : Stmt := top 27
abbrev st_is_last_right : Stmt := top 28
abbrev st_judge_knot : Stmt := top 29
abbrev st__law_open_cells : Stmt := top 31
abbrev st__law_pick : Stmt := top 32
abbrev st__law_any_order : Stmt := top 33
abbrev st__law_of : Stmt := top 34
abbrev st__law_chunks : Stmt := top 35
abbrev st__law_any_plan : Stmt := top 36
abbrev st__law_draw_lot : Stmt := top 37
abbrev st__law_names : Stmt := top 38
abbrev st__law_deeds : Stmt := top 39
abbrev st__law_down : Stmt := top 40
abbrev st__law_are_rowed : Stmt := top 41
abbrev st__law_fight : Stmt := top 42
abbrev st__law_draw_fights : Stmt := top 43
abbrev st__law_draw_log : Stmt := top 44
abbrev st__law_undoing : Stmt := top 45
abbrev st__law_rest : Stmt := top 46
abbrev st__law_stand : Stmt := top 47
abbrev st__law_is_number : Stmt := top 48
abbrev st__law_are_numbers : Stmt := top 49
abbrev st__law_knot_fault : Stmt := top 50
abbrev st__law_may_undo : Stmt := top 51
abbrev st__law_lawful_log : Stmt := top 52
abbrev st__law_can_strike : Stmt := top 53
abbrev st__law_strikes_right : Stmt := top 54
abbrev st__law_knots_right : Stmt := top 55
abbrev st__law_steps_right : Stmt := top 56
abbrev st_law : Stmt := top 57
theorem sc_members_of : FnScope ["plan"] ["plan"] (defScope st_members_of) := ⟨rfl, rfl, rfl, by decide +kernel, rfl, by decide +kernel, by decide +kernel⟩
theorem sc_placed : FnScope ["plan", "found", "number", "member", "place", "part"] ["plan"] (defScope st_placed) := ⟨rfl, rfl, rfl, by decide +kernel, rfl, by decide +kernel, by decide +kernel⟩
theorem sc_part_at : FnScope ["plan", "place", "number"] ["plan", "place"] (defScope st_part_at) := ⟨rfl, rfl, rfl, by decide +kernel, rfl, by decide +kernel, by decide +kernel⟩
theorem sc_place_of : FnScope ["plan", "name", "place", "part"] ["plan", "name"] (defScope st_place_of) := ⟨rfl, rfl, rfl, by decide +kernel, rfl, by decide +kernel, by decide +kernel⟩
theorem sc_common : FnScope ["one", "other", "many"] ["one", "other"] (defScope st_common) := ⟨rfl, rfl, rfl, by decide +kernel, rfl, by decide +kernel, by decide +kernel⟩
theorem sc_relation : FnScope ["plan", "one", "other", "here", "there", "place", "word"] ["plan", "one", "other"] (defScope st_relation) := ⟨rfl, rfl, rfl, by decide +kernel, rfl, by decide +kernel, by decide +kernel⟩
theorem sc_is_number : FnScope ["value"] ["value"] (defScope st_is_number) := ⟨rfl, rfl, rfl, by decide +kernel, rfl, by decide +kernel, by decide +kernel⟩
theorem sc_do_fight : FnScope ["plans", "fights", "one", "other"] ["plans", "fights", "one", "other"] (defScope st_do_fight) := ⟨rfl, rfl, rfl, by decide +kernel, rfl, by decide +kernel, by decide +kernel⟩
theorem sc_are_bound : FnScope ["plans", "fights", "one", "other"] ["plans", "fights", "one", "other"] (defScope st_are_bound) := ⟨rfl, rfl, rfl, by decide +kernel, rfl, by decide +kernel, by decide +kernel⟩
theorem sc_standing_deeds : FnScope ["log", "entry"] ["log"] (defScope st_standing_deeds) := ⟨rfl, rfl, rfl, by decide +kernel, rfl, by decide +kernel, by decide +kernel⟩
theorem sc_can_strike : FnScope ["plans", "fights", "log", "deed", "first", "last", "entry"] ["plans", "fights", "log", "deed"] (defScope st_can_strike) := ⟨rfl, rfl, rfl, by decide +kernel, rfl, by decide +kernel, by decide +kernel⟩
theorem sc_gone_through : FnScope ["plans", "fights", "log", "kept", "gone", "k", "entry", "first", "i"] ["plans", "fights", "log"] (defScope st_gone_through) := ⟨rfl, rfl, rfl, by decide +kernel, rfl, by decide +kernel, by decide +kernel⟩
theorem sc_rest : FnScope ["plans", "fights", "log"] ["plans", "fights", "log"] (defScope st_rest) := ⟨rfl, rfl, rfl, by decide +kernel, rfl, by decide +kernel, by decide +kernel⟩
theorem sc_strikes : FnScope ["plans", "fights", "log", "k"] ["plans", "fights", "log"] (defScope st_strikes) := ⟨rfl, rfl, rfl, by decide +kernel, rfl, by decide +kernel, by decide +kernel⟩
theorem sc_may_undo : FnScope ["plans", "fights", "log", "deed", "some", "one"] ["plans", "fights", "log", "deed"] (defScope st_may_undo) := ⟨rfl, rfl, rfl, by decide +kernel, rfl, by decide +kernel, by decide +kernel⟩
theorem sc_lost_at : FnScope ["plans", "fights", "log", "found", "k"] ["plans", "fights", "log"] (defScope st_lost_at) := ⟨rfl, rfl, rfl, by decide +kernel, rfl, by decide +kernel, by decide +kernel⟩
theorem sc_knot : FnScope ["plans", "fights", "log", "number", "kept", "found", "deed", "low", "high", "between", "last", "same", "k"] ["plans", "fights", "log", "number"] (defScope st_knot) := ⟨rfl, rfl, rfl, by decide +kernel, rfl, by decide +kernel, by decide +kernel⟩
theorem sc_is_first_of_pair : FnScope ["log", "k"] ["log", "k"] (defScope st_is_first_of_pair) := ⟨rfl, rfl, rfl, by decide +kernel, rfl, by decide +kernel, by decide +kernel⟩
theorem sc_is_within : FnScope ["log", "outer", "inner"] ["log", "outer", "inner"] (defScope st_is_within) := ⟨rfl, rfl, rfl, by decide +kernel, rfl, by decide +kernel, by decide +kernel⟩
theorem sc_is_last_right : FnScope ["log", "ahead", "last", "high", "k"] ["log", "ahead", "last"] (defScope st_is_last_right) := ⟨rfl, rfl, rfl, by decide +kernel, rfl, by decide +kernel, by decide +kernel⟩
theorem sc_judge_knot : FnScope ["plans", "fights", "log", "value", "i", "k"] ["plans", "fights", "log", "value"] (defScope st_judge_knot) := ⟨rfl, rfl, rfl, by decide +kernel, rfl, by decide +kernel, by decide +kernel⟩
theorem sc__law_open_cells : FnScope ["script", "stirred", "cell", "cells"] ["script"] (defScope st__law_open_cells) := ⟨rfl, rfl, rfl, by decide +kernel, rfl, by decide +kernel, by decide +kernel⟩
theorem sc__law_pick : FnScope ["source", "most", "cells", "others", "lap", "stirred"] ["source", "most"] (defScope st__law_pick) := ⟨rfl, rfl, rfl, by decide +kernel, rfl, by decide +kernel, by decide +kernel⟩
theorem sc__law_any_order : FnScope ["source", "things", "others", "lap"] ["source", "things"] (defScope st__law_any_order) := ⟨rfl, rfl, rfl, by decide +kernel, rfl, by decide +kernel, by decide +kernel⟩
theorem sc__law_of : FnScope ["source", "some"] ["source", "some"] (defScope st__law_of) := ⟨rfl, rfl, rfl, by decide +kernel, rfl, by decide +kernel, by decide +kernel⟩
theorem sc__law_chunks : FnScope ["source", "names", "many", "cuts", "low", "high"] ["source", "names", "many"] (defScope st__law_chunks) := ⟨rfl, rfl, rfl, by decide +kernel, rfl, by decide +kernel, by decide +kernel⟩
theorem sc__law_any_plan : FnScope ["source", "names", "deep", "parts", "word", "part", "name"] ["source", "names", "deep"] (defScope st__law_any_plan) := ⟨rfl, rfl, rfl, by decide +kernel, rfl, by decide +kernel, by decide +kernel⟩
theorem sc__law_draw_lot : FnScope ["source", "runs", "most", "found", "r", "names"] ["source", "runs", "most"] (defScope st__law_draw_lot) := ⟨rfl, rfl, rfl, by decide +kernel, rfl, by decide +kernel, by decide +kernel⟩
theorem sc__law_names : FnScope ["plan", "found", "member"] ["plan"] (defScope st__law_names) := ⟨rfl, rfl, rfl, by decide +kernel, rfl, by decide +kernel, by decide +kernel⟩
theorem sc__law_deeds : FnScope ["lot", "found", "r", "plan", "name"] ["lot"] (defScope st__law_deeds) := ⟨rfl, rfl, rfl, by decide +kernel, rfl, by decide +kernel, by decide +kernel⟩
theorem sc__law_down : FnScope ["plan", "name", "k", "member"] ["plan", "name"] (defScope st__law_down) := ⟨rfl, rfl, rfl, by decide +kernel, rfl, by decide +kernel, by decide +kernel⟩
theorem sc__law_are_rowed : FnScope ["plan", "one", "other", "word", "k", "late", "j"] ["plan", "one", "other"] (defScope st__law_are_rowed) := ⟨rfl, rfl, rfl, by decide +kernel, rfl, by decide +kernel, by decide +kernel⟩
theorem sc__law_fight : FnScope ["lot", "fights", "one", "other"] ["lot", "fights", "one", "other"] (defScope st__law_fight) := ⟨rfl, rfl, rfl, by decide +kernel, rfl, by decide +kernel, by decide +kernel⟩
theorem sc__law_draw_fights : FnScope ["source", "lot", "share", "found", "deeds", "k", "one", "other"] ["source", "lot", "share"] (defScope st__law_draw_fights) := ⟨rfl, rfl, rfl, by decide +kernel, rfl, by decide +kernel, by decide +kernel⟩
theorem sc__law_draw_log : FnScope ["source", "lot", "many", "found", "deeds", "lap", "deed"] ["source", "lot", "many"] (defScope st__law_draw_log) := ⟨rfl, rfl, rfl, by decide +kernel, rfl, by decide +kernel, by decide +kernel⟩
theorem sc__law_undoing : FnScope ["log", "k"] ["log", "k"] (defScope st__law_undoing) := ⟨rfl, rfl, rfl, by decide +kernel, rfl, by decide +kernel, by decide +kernel⟩
theorem sc__law_rest : FnScope ["lot", "fights", "log", "left", "k", "i", "j", "between", "late"] ["lot", "fights", "log"] (defScope st__law_rest) := ⟨rfl, rfl, rfl, by decide +kernel, rfl, by decide +kernel, by decide +kernel⟩
theorem sc__law_stand : FnScope ["log", "k", "entry"] ["log"] (defScope st__law_stand) := ⟨rfl, rfl, rfl, by decide +kernel, rfl, by decide +kernel, by decide +kernel⟩
theorem sc__law_is_number : FnScope ["value"] ["value"] (defScope st__law_is_number) := ⟨rfl, rfl, rfl, by decide +kernel, rfl, by decide +kernel, by decide +kernel⟩
theorem sc__law_are_numbers : FnScope ["value", "most", "k"] ["value", "most"] (defScope st__law_are_numbers) := ⟨rfl, rfl, rfl, by decide +kernel, rfl, by decide +kernel, by decide +kernel⟩
theorem sc__law_knot_fault : FnScope ["lot", "fights", "log", "value", "i", "k", "low", "high", "last"] ["lot", "fights", "log", "value"] (defScope st__law_knot_fault) := ⟨rfl, rfl, rfl, by decide +kernel, rfl, by decide +kernel, by decide +kernel⟩
theorem sc__law_may_undo : FnScope ["lot", "fights", "log", "deed", "stand", "k", "late"] ["lot", "fights", "log", "deed"] (defScope st__law_may_undo) := ⟨rfl, rfl, rfl, by decide +kernel, rfl, by decide +kernel, by decide +kernel⟩
theorem sc__law_lawful_log : FnScope ["source", "lot", "fights", "many", "found", "deeds", "lap", "deed"] ["source", "lot", "fights", "many"] (defScope st__law_lawful_log) := ⟨rfl, rfl, rfl, by decide +kernel, rfl, by decide +kernel, by decide +kernel⟩
theorem sc__law_can_strike : FnScope ["lot", "fights", "log", "deed", "between", "entry"] ["lot", "fights", "log", "deed"] (defScope st__law_can_strike) := ⟨rfl, rfl, rfl, by decide +kernel, rfl, by decide +kernel, by decide +kernel⟩
theorem sc__law_strikes_right : FnScope ["lot", "fights", "log", "left", "told", "now", "due", "deed", "k", "entry"] ["lot", "fights", "log", "left"] (defScope st__law_strikes_right) := ⟨rfl, rfl, rfl, by decide +kernel, rfl, by decide +kernel, by decide +kernel⟩
theorem sc__law_knots_right : FnScope ["lot", "fights", "log", "left", "k", "entry", "told"] ["lot", "fights", "log", "left"] (defScope st__law_knots_right) := ⟨rfl, rfl, rfl, by decide +kernel, rfl, by decide +kernel, by decide +kernel⟩
theorem sc__law_steps_right : FnScope ["lot", "fights", "log", "here", "lost", "k", "entry", "behind", "i"] ["lot", "fights", "log"] (defScope st__law_steps_right) := ⟨rfl, rfl, rfl, by decide +kernel, rfl, by decide +kernel, by decide +kernel⟩
theorem sc_law : FnScope ["script", "source", "lap", "lot", "fights", "many", "log", "held", "left", "deed", "told", "due"] ["script"] (defScope st_law) := ⟨rfl, rfl, rfl, by decide +kernel, rfl, by decide +kernel, by decide +kernel⟩
def fnl : List He.DefD := [dd "members_of" st_members_of, dd "placed" st_placed, dd "part_at" st_part_at, dd "place_of" st_place_of, dd "common" st_common, dd "relation" st_relation, dd "is_number" st_is_number, dd "do_fight" st_do_fight, dd "are_bound" st_are_bound, dd "standing_deeds" st_standing_deeds, dd "can_strike" st_can_strike, dd "gone_through" st_gone_through, dd "rest" st_rest, dd "strikes" st_strikes, dd "may_undo" st_may_undo, dd "lost_at" st_lost_at, dd "knot" st_knot, dd "is_first_of_pair" st_is_first_of_pair, dd "is_within" st_is_within, dd "is_last_right" st_is_last_right, dd "judge_knot" st_judge_knot, dd "_law_open_cells" st__law_open_cells, dd "_law_pick" st__law_pick, dd "_law_any_order" st__law_any_order, dd "_law_of" st__law_of, dd "_law_chunks" st__law_chunks, dd "_law_any_plan" st__law_any_plan, dd "_law_draw_lot" st__law_draw_lot, dd "_law_names" st__law_names, dd "_law_deeds" st__law_deeds, dd "_law_down" st__law_down, dd "_law_are_rowed" st__law_are_rowed, dd "_law_fight" st__law_fight, dd "_law_draw_fights" st__law_draw_fights, dd "_law_draw_log" st__law_draw_log, dd "_law_undoing" st__law_undoing, dd "_law_rest" st__law_rest, dd "_law_stand" st__law_stand, dd "_law_is_number" st__law_is_number, dd "_law_are_numbers" st__law_are_numbers, dd "_law_knot_fault" st__law_knot_fault, dd "_law_may_undo" st__law_may_undo, dd "_law_lawful_log" st__law_lawful_log, dd "_law_can_strike" st__law_can_strike, dd "_law_strikes_right" st__law_strikes_right, dd "_law_knots_right" st__law_knots_right, dd "_law_steps_right" st__law_steps_right, dd "law" st_law]
def fal : List He.Fa := [.glo "members_of", .glo "placed", .glo "part_at", .glo "place_of", .glo "common", .glo "relation", .glo "is_number", .glo "do_fight", .glo "are_bound", .glo "standing_deeds", .glo "can_strike", .glo "gone_through", .glo "rest", .glo "strikes", .glo "may_undo", .glo "lost_at", .glo "knot", .glo "is_first_of_pair", .glo "is_within", .glo "is_last_right", .glo "judge_knot", .glo "_law_open_cells", .glo "_law_pick", .glo "_law_any_order", .glo "_law_of", .glo "_law_chunks", .glo "_law_any_plan", .glo "_law_draw_lot", .glo "_law_names", .glo "_law_deeds", .glo "_law_down", .glo "_law_are_rowed", .glo "_law_fight", .glo "_law_draw_fights", .glo "_law_draw_log", .glo "_law_undoing", .glo "_law_rest", .glo "_law_stand", .glo "_law_is_number", .glo "_law_are_numbers", .glo "_law_knot_fault", .glo "_law_may_undo", .glo "_law_lawful_log", .glo "_law_can_strike", .glo "_law_strikes_right", .glo "_law_knots_right", .glo "_law_steps_right", .glo "law", .free "enumerate", .free "isinstance", .free "str", .free "min", .free "len", .free "bool", .free "int", .free "max", .free "tuple", .free "any", .free "range", .free "all", .free "abs", .free "list", .free "zip", .free "sorted", .free "repr"]
def gsl : List (Str × PyData) := [("GROUPS", .tuple [.str "row", .str "side", .str "else"])]
/-! the head: the run of the top -/
abbrev R : PySem.W.OpenRow := PySem.W.OpenLaw.row PySem.Challenge.rw_togethersafe_k17_whole_rests_and_knots
def nm0 : List Str := ["copied", "NameMissing", "UnknownName", "GROUPS", "members_of", "placed", "part_at", "place_of", "common", "relation", "is_number", "do_fight", "are_bound", "standing_deeds", "can_strike", "gone_through", "rest", "strikes", "may_undo", "lost_at", "knot", "is_first_of_pair", "is_within", "is_last_right", "judge_knot", "_law_open_cells", "_law_pick", "_law_any_order", "_law_of", "_law_chunks"]
def nm1 : List Str := ["_law_any_plan", "_law_draw_lot", "_law_names", "_law_deeds", "_law_down", "_law_are_rowed", "_law_fight", "_law_draw_fights", "_law_draw_log", "_law_undoing", "_law_rest", "_law_stand", "_law_is_number", "_law_are_numbers", "_law_knot_fault", "_law_may_undo", "_law_lawful_log", "_law_can_strike", "_law_strikes_right", "_law_knots_right", "_law_steps_right"]
def nms : List Str := nm0 ++ nm1
abbrev hk : PySem.W.Hook := hookV 4 fal gsl fnl
def ob (s : PySem.W.SharedT) : He.AlD := obsVG 4 fal gsl fnl (HandSHeadRun.getT s)
theorem ob_eq (s : PySem.W.SharedT) : ob s = hk.obs s.abs := obsVG_eq (HandSHeadRun.getT_eq s)
theorem run (w : World) : HandSHeadRun.RunEq R (PySem.W.view R.prog [57]) hk ob 3880 nms w := by
  intro os
  kernel_rfl


section
variable {P : Program} {w : World} {K : PySem.W.Frag} {mg : Str → Option Value} {base : Heap}
theorem ok_members_of (fx : Fx fal gsl fnl K mg)  : OkF P w K mg base 1 "members_of" (spA K ((wp_members_of) K)) := by
  obtain ⟨cv_GROUPS, cu_GROUPS, cm_GROUPS, cr_GROUPS, cd_GROUPS, ct_GROUPS⟩ := (fx.con 0 "GROUPS" (.tuple [.str "row", .str "side", .str "else"])).ex
  refine okF_of (st := st_members_of) (N := ["plan"]) (ps := ["plan"]) (fx.fd 0 "members_of" st_members_of) (fx.glo 0 "members_of") sc_members_of (fun _ _ _ _ _ _ us hl => match us, hl with | [_], _ => rfl) (spA_len fun as Qd h => h.1) (fun fd cdv A outer s H vs Q E hg hr h => ?_)
  have hu := VL.hu_of hr
  have hu1 := L2.hu_of hr
  refine ⟨_, PSs.nox (pss_one (ps_ret (pe_ifExp (pt_cmpR (opK K (fun K => rInAll K false) (op_inAll hu) (by rfl)) (pe_ix (ixK K rIxAll (ix_all hu) (by rfl)) (pv 0) (pe_int) (by exact fun _ _ => rfl)) (pe_glob (by rfl) cm_GROUPS cr_GROUPS) (by rfl)) (pe_ix (ixK K rIxAll (ix_all hu) (by rfl)) (pv 0) (pe_int) (by exact fun _ _ => rfl)) (pe_tupN (pa_nil))))), ?_⟩
  exact spA_of (fun o => sims_ret (sim_ifE (sim_tst (SimE.p (sim_op (so_in (neg := false)) (SimE.p (sim_op so_ix (SimE.p (sim_var)) (SimE.p (sim_int)))) (SimE.p ((sim_c cd_GROUPS)))))) (sim_op so_ix (SimE.p (sim_var)) (SimE.p (sim_int))) (sim_tup (sim_lnil)))) (fun as Qd h => h.2) vs H Q E h
theorem okS_placed (n : Nat) (fx : Fx fal gsl fnl K mg) (G_members_of : OkF P w K mg base 1 "members_of" (spA K ((wp_members_of) K))) (G_placed : OkF P w K mg base (1 + n) "placed" (spA K (wpR_placed K n 0))) : OkF P w K mg base (1 + n + 1) "placed" (spA K (wpR_placed K (n + 1) 0)) := by
  have fr_enumerate := fx.free 48 "enumerate"
  refine okF_of (st := st_placed) (N := ["plan", "found", "number", "member", "place", "part"]) (ps := ["plan"]) (fx.fd 1 "placed" st_placed) (fx.glo 1 "placed") sc_placed (fun _ _ _ _ _ _ us hl => match us, hl with | [_], _ => rfl) (spA_len fun as Qd h => h.1) (fun fd cdv A outer s H vs Q E hg hr h => ?_)
  have hu := VL.hu_of hr
  have hu1 := L2.hu_of hr
  refine ⟨_, PSs.nox (pss_cons (ps_set (i := 1) sc_placed.nd (by rfl) (by exact Or.inl rfl) (pe_lst (pa_cons (pe_tupN (pa_cons (pe_tupN (pa_nil)) (pa_cons (pv 0) (pa_nil)))) (pa_nil)))) (pss_cons (ps_for PassesOwn.never (by rfl) (pi_enumK K (by rfl) fr_enumerate (pa_cons (pe_callO G_members_of hg hr (by omega) (by rfl) (pa_cons (pv 0) (pa_nil))) (pa_nil)) (by rfl)) (pg_tupK K (n := 2) (by rfl) (pgs_cons (pg_name (i := 2) sc_placed.nd (by rfl) (by first | exact Or.inl rfl | exact Or.inr rfl)) (pgs_cons (pg_name (i := 3) sc_placed.nd (by rfl) (by first | exact Or.inl rfl | exact Or.inr rfl)) (pgs_nil))) (by rfl)) (pss_one (ps_set (i := 1) sc_placed.nd (by rfl) (by exact Or.inl rfl) (pe_op (opK K rAddAll op_addAll (by rfl)) (pv 1) (pe_lc (own := [("place", 4), ("part", 5)]) (by rfl) sc_placed.nd (pi_anyK K (pe_callO G_placed hg hr (by omega) (by rfl) (pa_cons (pv 3) (pa_nil))) (by rfl)) (blkOk_by (N := ["plan", "found", "number", "member", "place", "part"]) (sc := defScope st_placed) (by decide +kernel)) (fun _ _ _ _ _ => pg_tupK K (n := 2) (by rfl) (pgs_cons (pg_name (i := 4) sc_placed.nd (by rfl) (by first | exact Or.inl rfl | exact Or.inr rfl)) (pgs_cons (pg_name (i := 5) sc_placed.nd (by rfl) (by first | exact Or.inl rfl | exact Or.inr rfl)) (pgs_nil))) (by rfl)) (fun _ _ _ _ _ => pts_nil) (fun _ _ _ _ _ => pe_tupN (pa_cons (pe_op (opK K rAddAll op_addAll (by rfl)) (pe_tupN (pa_cons (pv 2) (pa_nil))) (pv 4)) (pa_cons (pv 5) (pa_nil))))))))) (pss_one (ps_ret (pv 1))))), ?_⟩
  exact spA_of (fun o => sims_seq (sims_set (SimF.e (simF_lst (sim_lcons (sim_tup (sim_lcons (sim_tup (sim_lnil)) (sim_lcons (sim_var) (sim_lnil)))) (sim_lnil))))) (sims_seq (sims_for (simI_enum (sim_lcons (sim_callA (sim_acons (sim_var) (sim_anil))) (sim_lnil))) (simg_tup (n := 2) (simgs_cons (simg_name (i := 2)) (simgs_cons (simg_name (i := 3)) (simgs_nil)))) (sims_set (sim_op so_add (SimE.p (sim_var)) (SimE.p (SimF.e (simF_lc (simIP_any (SimE.p (sim_callA (sim_acons (sim_var) (sim_anil))))) (simg_tup (n := 2) (simgs_cons (simg_name (i := 4)) (simgs_cons (simg_name (i := 5)) (simgs_nil)))) (sim_yes) (sim_tup (sim_lcons (sim_op so_add (SimE.p (sim_tup (sim_lcons (sim_var) (sim_lnil)))) (SimE.p (sim_var))) (sim_lcons (sim_var) (sim_lnil)))) (by decide))))))) (sims_ret (sim_var)))) (fun as Qd h => h.2) vs H Q E h
theorem okT_1 (fx : Fx fal gsl fnl K mg) (G_members_of : OkF P w K mg base 1 "members_of" (spA K ((wp_members_of) K))) : ∀ n : Nat, OkF P w K mg base (1 + n) "placed" (spA K (wpR_placed K n 0))
  | 0 => okF_never (st := st_placed) (ps := ["plan"]) (fx.fd 1 "placed" st_placed) (fx.glo 1 "placed") (fun _ _ _ _ _ _ us hl => match us, hl with | [_], _ => rfl) (spA_never fun _ _ h => h)
  | n + 1 => by
    have ih := okT_1 fx G_members_of n
    exact okS_placed n fx G_members_of ih
theorem ok_part_at (fx : Fx fal gsl fnl K mg)  : OkF P w K mg base 1 "part_at" (spA K ((wp_part_at) K)) := by
  refine okF_of (st := st_part_at) (N := ["plan", "place", "number"]) (ps := ["plan", "place"]) (fx.fd 2 "part_at" st_part_at) (fx.glo 2 "part_at") sc_part_at (fun _ _ _ _ _ _ us hl => match us, hl with | [_, _], _ => rfl) (spA_len fun as Qd h => h.1) (fun fd cdv A outer s H vs Q E hg hr h => ?_)
  have hu := VL.hu_of hr
  have hu1 := L2.hu_of hr
  refine ⟨_, PSs.nox (pss_cons (ps_for PassesOwn.never (by rfl) (pi_anyK K (pv 1) (by rfl)) (pg_name (i := 2) sc_part_at.nd (by rfl) (by first | exact Or.inl rfl | exact Or.inr rfl)) (pss_one (ps_set (i := 0) sc_part_at.nd (by rfl) (by exact Or.inl rfl) (pe_ix (ixK K rIxAll (ix_all hu) (by rfl)) (pe_ix (ixK K rIxAll (ix_all hu) (by rfl)) (pv 0) (pe_int) (by exact fun _ _ => rfl)) (pv 2) (by exact fun _ _ => rfl))))) (pss_one (ps_ret (pv 0)))), ?_⟩
  exact spA_of (fun o => sims_seq (sims_for (simI_any (sim_var)) (simg_name (i := 2)) (sims_set (sim_op so_ix (SimE.p (sim_op so_ix (SimE.p (sim_var)) (SimE.p (sim_int)))) (SimE.p (sim_var))))) (sims_ret (sim_var))) (fun as Qd h => h.2) vs H Q E h
theorem ok_place_of (fx : Fx fal gsl fnl K mg) (G_placed : OkF P w K mg base 25 "placed" (spA K ((fun K => wpR_placed K 24 0) K))) : OkF P w K mg base 26 "place_of" (spA K ((wp_place_of) K)) := by
  have fr_isinstance := fx.free 49 "isinstance"
  have fr_str := fx.free 50 "str"
  refine okF_of (st := st_place_of) (N := ["plan", "name", "place", "part"]) (ps := ["plan", "name"]) (fx.fd 3 "place_of" st_place_of) (fx.glo 3 "place_of") sc_place_of (fun _ _ _ _ _ _ us hl => match us, hl with | [_, _], _ => rfl) (spA_len fun as Qd h => h.1) (fun fd cdv A outer s H vs Q E hg hr h => ?_)
  have hu := VL.hu_of hr
  have hu1 := L2.hu_of hr
  refine ⟨_, PSs.nox (pss_cons (ps_for PassesOwn.never (by rfl) (pi_anyK K (pe_callO G_placed hg hr (by omega) (by rfl) (pa_cons (pv 0) (pa_nil))) (by rfl)) (pg_tupK K (n := 2) (by rfl) (pgs_cons (pg_name (i := 2) sc_place_of.nd (by rfl) (by first | exact Or.inl rfl | exact Or.inr rfl)) (pgs_cons (pg_name (i := 3) sc_place_of.nd (by rfl) (by first | exact Or.inl rfl | exact Or.inr rfl)) (pgs_nil))) (by rfl)) (pss_one (ps_if (PW.pt (pw_and (pt_cmpR (opK K rEqR (op_eqR hu) (by rfl)) (pe_ix (ixK K rIxAll (ix_all hu) (by rfl)) (pv 3) (pe_int) (by exact fun _ _ => rfl)) (pe_str) (nomark _)) (pw_and (pt_truK K (pe_callB (callK K (rIsa "str") call_isa (by rfl)) (by rfl) fr_isinstance PyProof.Rows.boot_isinstance (pa_cons (pv 1) (pa_cons (pe_bltn (v := V.ty "str") (by rfl) fr_str (by rfl) (by rfl)) pa_nil))) (by exact fun _ => rfl) (by rfl)) (pw_and1 (pt_cmpR (opK K rEqR (op_eqR hu) (by rfl)) (pe_ix (ixK K rIxAll (ix_all hu) (by rfl)) (pv 3) (pe_int) (by exact fun _ _ => rfl)) (pv 1) (nomark _)))))) (pss_one (ps_ret (pv 2))) (pss_nil)))) (pss_one (ps_never))), ?_⟩
  exact spA_of (fun o => sims_seq (sims_for (simI_any (sim_callA (sim_acons (sim_var) (sim_anil)))) (simg_tup (n := 2) (simgs_cons (simg_name (i := 2)) (simgs_cons (simg_name (i := 3)) (simgs_nil)))) (sims_if (sim_and (sim_tst (SimE.p (sim_op so_eq (SimE.p (sim_op so_ix (SimE.p (sim_var)) (SimE.p (sim_int)))) (SimE.p ((sim_str (by decide +kernel))))))) (sim_and (sim_truK (SimE.p (sim_isa isa_str (SimE.p (sim_var))))) (sim_tst (SimE.p (sim_op so_eq (SimE.p (sim_op so_ix (SimE.p (sim_var)) (SimE.p (sim_int)))) (SimE.p (sim_var))))))) (sims_ret (sim_var)) (sims_next))) (sims_never)) (fun as Qd h => h.2) vs H Q E h
theorem ok_common (fx : Fx fal gsl fnl K mg)  : OkF P w K mg base 1 "common" (spA K ((wp_common) K)) := by
  have fr_len := fx.free 52 "len"
  have fr_min := fx.free 51 "min"
  refine okF_of (st := st_common) (N := ["one", "other", "many"]) (ps := ["one", "other"]) (fx.fd 4 "common" st_common) (fx.glo 4 "common") sc_common (fun _ _ _ _ _ _ us hl => match us, hl with | [_, _], _ => rfl) (spA_len fun as Qd h => h.1) (fun fd cdv A outer s H vs Q E hg hr h => ?_)
  have hu := VL.hu_of hr
  have hu1 := L2.hu_of hr
  refine ⟨_, PSs.nox (pss_cons (ps_set (i := 2) sc_common.nd (by rfl) (by exact Or.inl rfl) (pe_int)) (pss_cons (ps_while PassesOwn.never (PW.pt (pw_and (pt_cmpR op_lt (pv 2) (pe_callB (call_min2 (by rfl)) (by rfl) fr_min boot_min (pa_cons (pe_callB (callK K rLenAll call_lenAll (by rfl)) (by rfl) fr_len boot_len (pa_cons (pv 0) (pa_nil))) (pa_cons (pe_callB (callK K rLenAll call_lenAll (by rfl)) (by rfl) fr_len boot_len (pa_cons (pv 1) (pa_nil))) (pa_nil)))) (nomark _)) (pw_and1 (pt_cmpR (opK K rEqR (op_eqR hu) (by rfl)) (pe_ix (ixK K rIxAll (ix_all hu) (by rfl)) (pv 0) (pv 2) (by exact fun _ _ => rfl)) (pe_ix (ixK K rIxAll (ix_all hu) (by rfl)) (pv 1) (pv 2) (by exact fun _ _ => rfl)) (nomark _))))) (pss_one (ps_aug (i := 2) sc_common.nd (by rfl) (by exact Or.inl rfl) (pe_int) iop_add))) (pss_one (ps_ret (pe_slice (slK K rSlAll sl_all (by rfl)) (pv 0) po_none (po_some (pv 2))))))), ?_⟩
  exact spA_of (fun o => sims_seq (sims_set (sim_int)) (sims_seq (sims_while (sim_and (sim_tst (SimE.p (sim_op (so_cmp (p := fun i j => decide (i < j))) (SimE.p (sim_var)) (SimE.p (sim_b sb_min2 (sim_pcons (SimE.p (sim_b sb_len (sim_pcons (SimE.p (sim_var)) (sim_pnil)))) (sim_pcons (SimE.p (sim_b sb_len (sim_pcons (SimE.p (sim_var)) (sim_pnil)))) (sim_pnil)))))))) (sim_tst (SimE.p (sim_op so_eq (SimE.p (sim_op so_ix (SimE.p (sim_var)) (SimE.p (sim_var)))) (SimE.p (sim_op so_ix (SimE.p (sim_var)) (SimE.p (sim_var)))))))) (sims_aug so_addI (SimE.p (sim_int)))) (sims_ret (sim_sl ss_cut (SimE.p (sim_var)) sim_ono (sim_oyes (SimE.p (sim_var))))))) (fun as Qd h => h.2) vs H Q E h
theorem ok_relation (fx : Fx fal gsl fnl K mg) (G_place_of : OkF P w K mg base 26 "place_of" (spA K ((wp_place_of) K))) (G_common : OkF P w K mg base 1 "common" (spA K ((wp_common) K))) (G_part_at : OkF P w K mg base 1 "part_at" (spA K ((wp_part_at) K))) : OkF P w K mg base 27 "relation" (spA K ((wp_relation) K)) := by
  have fr_len := fx.free 52 "len"
  refine okF_of (st := st_relation) (N := ["plan", "one", "other", "here", "there", "place", "word"]) (ps := ["plan", "one", "other"]) (fx.fd 5 "relation" st_relation) (fx.glo 5 "relation") sc_relation (fun _ _ _ _ _ _ us hl => match us, hl with | [_, _, _], _ => rfl) (spA_len fun as Qd h => h.1) (fun fd cdv A outer s H vs Q E hg hr h => ?_)
  have hu := VL.hu_of hr
  have hu1 := L2.hu_of hr
  refine ⟨_, PSs.nox (pss_cons (ps_par (i := 3) (j := 4) (by rfl) sc_relation.nd (by rfl) (by rfl) (by decide) (by rfl) (by rfl) (pa_cons (pe_callO G_place_of hg hr (by omega) (by rfl) (pa_cons (pv 0) (pa_cons (pv 1) (pa_nil)))) (pa_cons (pe_callO G_place_of hg hr (by omega) (by rfl) (pa_cons (pv 0) (pa_cons (pv 2) (pa_nil)))) (pa_nil))) (by rfl)) (pss_cons (ps_set (i := 5) sc_relation.nd (by rfl) (by exact Or.inl rfl) (pe_callO G_common hg hr (by omega) (by rfl) (pa_cons (pv 3) (pa_cons (pv 4) (pa_nil))))) (pss_cons (ps_set (i := 6) sc_relation.nd (by rfl) (by exact Or.inl rfl) (pe_ix (ixK K rIxAll (ix_all hu) (by rfl)) (pe_callO G_part_at hg hr (by omega) (by rfl) (pa_cons (pv 0) (pa_cons (pv 5) (pa_nil)))) (pe_int) (by exact fun _ _ => rfl))) (pss_cons (ps_if (pt_cmpR (opK K rEqR (op_eqR hu) (by rfl)) (pv 6) (pe_str) (nomark _)) (pss_one (ps_ret (pe_tupN (pa_cons (pv 6) (pa_cons (pe_int) (pa_nil)))))) (pss_nil)) (pss_one (ps_ret (pe_tupN (pa_cons (pv 6) (pa_cons (pe_ifExp (pt_cmpR op_lt (pe_ix (ixK K rIxAll (ix_all hu) (by rfl)) (pv 3) (pe_callB (callK K rLenAll call_lenAll (by rfl)) (by rfl) fr_len boot_len (pa_cons (pv 5) (pa_nil))) (by exact fun _ _ => rfl)) (pe_ix (ixK K rIxAll (ix_all hu) (by rfl)) (pv 4) (pe_callB (callK K rLenAll call_lenAll (by rfl)) (by rfl) fr_len boot_len (pa_cons (pv 5) (pa_nil))) (by exact fun _ _ => rfl)) (nomark _)) (pe_int) (pe_un un_neg (pe_int))) (pa_nil)))))))))), ?_⟩
  exact spA_of (fun o => sims_seq (sims_par (sim_callA (sim_acons (sim_var) (sim_acons (sim_var) (sim_anil)))) (sim_callA (sim_acons (sim_var) (sim_acons (sim_var) (sim_anil))))) (sims_seq (sims_set (sim_callA (sim_acons (sim_var) (sim_acons (sim_var) (sim_anil))))) (sims_seq (sims_set (sim_op so_ix (SimE.p (sim_callA (sim_acons (sim_var) (sim_acons (sim_var) (sim_anil))))) (SimE.p (sim_int)))) (sims_seq (sims_if (sim_tst (SimE.p (sim_op so_eq (SimE.p (sim_var)) (SimE.p ((sim_str (by decide +kernel))))))) (sims_ret (sim_tup (sim_lcons (sim_var) (sim_lcons (sim_int) (sim_lnil))))) (sims_next)) (sims_ret (sim_tup (sim_lcons (sim_var) (sim_lcons (sim_ifE (sim_tst (SimE.p (sim_op (so_cmp (p := fun i j => decide (i < j))) (SimE.p (sim_op so_ix (SimE.p (sim_var)) (SimE.p (sim_b sb_len (sim_pcons (SimE.p (sim_var)) (sim_pnil)))))) (SimE.p (sim_op so_ix (SimE.p (sim_var)) (SimE.p (sim_b sb_len (sim_pcons (SimE.p (sim_var)) (sim_pnil))))))))) (sim_int) (sim_un su_neg (SimE.p (sim_int)))) (sim_lnil))))))))) (fun as Qd h => h.2) vs H Q E h
theorem ok_is_number (fx : Fx fal gsl fnl K mg)  : OkF P w K mg base 1 "is_number" (spA K ((wp_is_number) K)) := by
  have fr_bool := fx.free 53 "bool"
  have fr_int := fx.free 54 "int"
  have fr_isinstance := fx.free 49 "isinstance"
  refine okF_of (st := st_is_number) (N := ["value"]) (ps := ["value"]) (fx.fd 6 "is_number" st_is_number) (fx.glo 6 "is_number") sc_is_number (fun _ _ _ _ _ _ us hl => match us, hl with | [_], _ => rfl) (spA_len fun as Qd h => h.1) (fun fd cdv A outer s H vs Q E hg hr h => ?_)
  have hu := VL.hu_of hr
  have hu1 := L2.hu_of hr
  refine ⟨_, PSs.nox (pss_one (ps_ret (pe_andK K (pe_callB (callK K (rIsa "int") call_isa (by rfl)) (by rfl) fr_isinstance PyProof.Rows.boot_isinstance (pa_cons (pv 0) (pa_cons (pe_bltn (v := V.ty "int") (by rfl) fr_int (by rfl) (by rfl)) pa_nil))) (pe_andK K (pe_notK K (pe_callB (callK K (rIsa "bool") call_isa (by rfl)) (by rfl) fr_isinstance PyProof.Rows.boot_isinstance (pa_cons (pv 0) (pa_cons (pe_bltn (v := V.ty "bool") (by rfl) fr_bool (by rfl) (by rfl)) pa_nil))) (by rfl)) (pe_one (pe_cmpR op_ge (pv 0) (pe_int) (nomark _))) (by rfl)) (by rfl)))), ?_⟩
  exact spA_of (fun o => sims_ret (sim_andT (sim_isa isa_int (SimE.p (sim_var))) (sim_andT (sim_notT (SimE.p (sim_isa isa_bool (SimE.p (sim_var))))) (sim_op (so_cmp (p := fun i j => decide (j ≤ i))) (SimE.p (sim_var)) (SimE.p (sim_int)))))) (fun as Qd h => h.2) vs H Q E h
theorem ok_do_fight (fx : Fx fal gsl fnl K mg) (G_relation : OkF P w K mg base 27 "relation" (spA K ((wp_relation) K))) : OkF P w K mg base 28 "do_fight" (spA K ((wp_do_fight) K)) := by
  have fr_max := fx.free 55 "max"
  have fr_min := fx.free 51 "min"
  refine okF_of (st := st_do_fight) (N := ["plans", "fights", "one", "other"]) (ps := ["plans", "fights", "one", "other"]) (fx.fd 7 "do_fight" st_do_fight) (fx.glo 7 "do_fight") sc_do_fight (fun _ _ _ _ _ _ us hl => match us, hl with | [_, _, _, _], _ => rfl) (spA_len fun as Qd h => h.1) (fun fd cdv A outer s H vs Q E hg hr h => ?_)
  have hu := VL.hu_of hr
  have hu1 := L2.hu_of hr
  refine ⟨_, PSs.nox (pss_cons (ps_if (pt_cmpR (opK K rNeR (op_neR hu) (by rfl)) (pe_ix (ixK K rIxAll (ix_all hu) (by rfl)) (pv 2) (pe_int) (by exact fun _ _ => rfl)) (pe_ix (ixK K rIxAll (ix_all hu) (by rfl)) (pv 3) (pe_int) (by exact fun _ _ => rfl)) (nomark _)) (pss_one (ps_ret (pe_cmpR (opK K (fun K => rInAll K false) (op_inAll hu) (by rfl)) (pe_tupN (pa_cons (pe_callB (callK K rMinA (call_minA (by rfl) hu) (by rfl)) (by rfl) fr_min boot_min (pa_cons (pv 2) (pa_cons (pv 3) (pa_nil)))) (pa_cons (pe_callB (callK K rMaxA (call_maxA (by rfl) hu) (by rfl)) (by rfl) fr_max boot_max (pa_cons (pv 2) (pa_cons (pv 3) (pa_nil)))) (pa_nil)))) (pv 1) (by rfl)))) (pss_nil)) (pss_one (ps_ret (pe_andK K (pe_cmpR (opK K rNeR (op_neR hu) (by rfl)) (pe_ix (ixK K rIxAll (ix_all hu) (by rfl)) (pv 2) (pe_int) (by exact fun _ _ => rfl)) (pe_ix (ixK K rIxAll (ix_all hu) (by rfl)) (pv 3) (pe_int) (by exact fun _ _ => rfl)) (nomark _)) (pe_one (pe_cmpR (opK K rEqR (op_eqR hu) (by rfl)) (pe_ix (ixK K rIxAll (ix_all hu) (by rfl)) (pe_callO G_relation hg hr (by omega) (by rfl) (pa_cons (pe_ix (ixK K rIxAll (ix_all hu) (by rfl)) (pv 0) (pe_ix (ixK K rIxAll (ix_all hu) (by rfl)) (pv 2) (pe_int) (by exact fun _ _ => rfl)) (by exact fun _ _ => rfl)) (pa_cons (pe_ix (ixK K rIxAll (ix_all hu) (by rfl)) (pv 2) (pe_int) (by exact fun _ _ => rfl)) (pa_cons (pe_ix (ixK K rIxAll (ix_all hu) (by rfl)) (pv 3) (pe_int) (by exact fun _ _ => rfl)) (pa_nil))))) (pe_int) (by exact fun _ _ => rfl)) (pe_str) (nomark _))) (by rfl))))), ?_⟩
  exact spA_of (fun o => sims_seq (sims_if (sim_tst (SimE.p (sim_op so_ne (SimE.p (sim_op so_ix (SimE.p (sim_var)) (SimE.p (sim_int)))) (SimE.p (sim_op so_ix (SimE.p (sim_var)) (SimE.p (sim_int))))))) (sims_ret (sim_op (so_in (neg := false)) (SimE.p (sim_tup (sim_lcons (sim_b sb_minA (sim_pcons (SimE.p (sim_var)) (sim_pcons (SimE.p (sim_var)) (sim_pnil)))) (sim_lcons (sim_b sb_maxA (sim_pcons (SimE.p (sim_var)) (sim_pcons (SimE.p (sim_var)) (sim_pnil)))) (sim_lnil))))) (SimE.p (sim_var)))) (sims_next)) (sims_ret (sim_andT (sim_op so_ne (SimE.p (sim_op so_ix (SimE.p (sim_var)) (SimE.p (sim_int)))) (SimE.p (sim_op so_ix (SimE.p (sim_var)) (SimE.p (sim_int))))) (sim_op so_eq (SimE.p (sim_op so_ix (SimE.p (sim_callA (sim_acons (sim_op so_ix (SimE.p (sim_var)) (SimE.p (sim_op so_ix (SimE.p (sim_var)) (SimE.p (sim_int))))) (sim_acons (sim_op so_ix (SimE.p (sim_var)) (SimE.p (sim_int))) (sim_acons (sim_op so_ix (SimE.p (sim_var)) (SimE.p (sim_int))) (sim_anil)))))) (SimE.p (sim_int)))) (SimE.p ((sim_str (by decide +kernel)))))))) (fun as Qd h => h.2) vs H Q E h
theorem ok_are_bound (fx : Fx fal gsl fnl K mg) (G_do_fight : OkF P w K mg base 28 "do_fight" (spA K ((wp_do_fight) K))) : OkF P w K mg base 29 "are_bound" (spA K ((wp_are_bound) K)) := by
  refine okF_of (st := st_are_bound) (N := ["plans", "fights", "one", "other"]) (ps := ["plans", "fights", "one", "other"]) (fx.fd 8 "are_bound" st_are_bound) (fx.glo 8 "are_bound") sc_are_bound (fun _ _ _ _ _ _ us hl => match us, hl with | [_, _, _, _], _ => rfl) (spA_len fun as Qd h => h.1) (fun fd cdv A outer s H vs Q E hg hr h => ?_)
  have hu := VL.hu_of hr
  have hu1 := L2.hu_of hr
  refine ⟨_, PSs.nox (pss_one (ps_ret (pe_orK K (pe_cmpR (opK K rEqR (op_eqR hu) (by rfl)) (pe_slice (slK K rSlAll sl_all (by rfl)) (pv 2) po_none (po_some (pe_int))) (pe_slice (slK K rSlAll sl_all (by rfl)) (pv 3) po_none (po_some (pe_int))) (nomark _)) (pe_one (pe_callO G_do_fight hg hr (by omega) (by rfl) (pa_cons (pv 0) (pa_cons (pv 1) (pa_cons (pe_slice (slK K rSlAll sl_all (by rfl)) (pv 2) po_none (po_some (pe_int))) (pa_cons (pe_slice (slK K rSlAll sl_all (by rfl)) (pv 3) po_none (po_some (pe_int))) (pa_nil))))))) (by rfl)))), ?_⟩
  exact spA_of (fun o => sims_ret (sim_orT (sim_op so_eq (SimE.p (sim_sl ss_cut (SimE.p (sim_var)) sim_ono (sim_oyes (SimE.p (sim_int))))) (SimE.p (sim_sl ss_cut (SimE.p (sim_var)) sim_ono (sim_oyes (SimE.p (sim_int)))))) (sim_callA (sim_acons (sim_var) (sim_acons (sim_var) (sim_acons (sim_sl ss_cut (SimE.p (sim_var)) sim_ono (sim_oyes (SimE.p (sim_int)))) (sim_acons (sim_sl ss_cut (SimE.p (sim_var)) sim_ono (sim_oyes (SimE.p (sim_int)))) (sim_anil)))))))) (fun as Qd h => h.2) vs H Q E h
theorem ok_standing_deeds (fx : Fx fal gsl fnl K mg)  : OkF P w K mg base 1 "standing_deeds" (spA K ((wp_standing_deeds) K)) := by
  have fr_tuple := fx.free 56 "tuple"
  refine okF_of (st := st_standing_deeds) (N := ["log", "entry"]) (ps := ["log"]) (fx.fd 9 "standing_deeds" st_standing_deeds) (fx.glo 9 "standing_deeds") sc_standing_deeds (fun _ _ _ _ _ _ us hl => match us, hl with | [_], _ => rfl) (spA_len fun as Qd h => h.1) (fun fd cdv A outer s H vs Q E hg hr h => ?_)
  have hu := VL.hu_of hr
  have hu1 := L2.hu_of hr
  refine ⟨_, PSs.nox (pss_one (ps_ret (pe_callTy (callK K rTupleOf call_tupleN (by rfl)) (by rfl) fr_tuple boot_tuple (pa_cons (pe_lc (own := [("entry", 1)]) (by rfl) sc_standing_deeds.nd (pi_anyK K (pv 0) (by rfl)) (blkOk_by (N := ["log", "entry"]) (sc := defScope st_standing_deeds) (by decide +kernel)) (fun _ _ _ _ _ => pg_name (i := 1) sc_standing_deeds.nd (by rfl) (by first | exact Or.inl rfl | exact Or.inr rfl)) (fun _ _ _ _ _ => pts_one (PW.pt (pw_and (pt_cmpR (opK K rEqR (op_eqR hu) (by rfl)) (pe_ix (ixK K rIxAll (ix_all hu) (by rfl)) (pv 1) (pe_int) (by exact fun _ _ => rfl)) (pe_int) (nomark _)) (pw_and1 (pt_cmpR (opK K (fun K => rInAll K true) (op_notInAll hu) (by rfl)) (pe_tupN (pa_starK K (pe_slice (slK K rSlAll sl_all (by rfl)) (pv 1) po_none (po_some (pe_int))) (pa_cons (pe_un un_neg (pe_int)) (pa_nil)) (by rfl))) (pv 0) (by rfl)))))) (fun _ _ _ _ _ => pe_slice (slK K rSlAll sl_all (by rfl)) (pv 1) po_none (po_some (pe_int)))) (pa_nil))))), ?_⟩
  exact spA_of (fun o => sims_ret (sim_b sb_tuple (sim_pcons (SimE.p (SimF.e (simF_lc (simIP_any (SimE.p (sim_var))) (simg_name (i := 1)) (sim_and (sim_tst (SimE.p (sim_op so_eq (SimE.p (sim_op so_ix (SimE.p (sim_var)) (SimE.p (sim_int)))) (SimE.p (sim_int))))) (sim_tst (SimE.p (sim_op (so_in (neg := true)) (SimE.p (sim_tup (sim_lstar (sim_sl ss_cut (SimE.p (sim_var)) sim_ono (sim_oyes (SimE.p (sim_int)))) (sim_lcons (sim_un su_neg (SimE.p (sim_int))) (sim_lnil))))) (SimE.p (sim_var)))))) (sim_sl ss_cut (SimE.p (sim_var)) sim_ono (sim_oyes (SimE.p (sim_int)))) (by decide)))) (sim_pnil)))) (fun as Qd h => h.2) vs H Q E h
theorem ok_can_strike (fx : Fx fal gsl fnl K mg) (G_do_fight : OkF P w K mg base 28 "do_fight" (spA K ((wp_do_fight) K))) : OkF P w K mg base 29 "can_strike" (spA K ((wp_can_strike) K)) := by
  have fr_any := fx.free 57 "any"
  refine okF_of (st := st_can_strike) (N := ["plans", "fights", "log", "deed", "first", "last", "entry"]) (ps := ["plans", "fights", "log", "deed"]) (fx.fd 10 "can_strike" st_can_strike) (fx.glo 10 "can_strike") sc_can_strike (fun _ _ _ _ _ _ us hl => match us, hl with | [_, _, _, _], _ => rfl) (spA_len fun as Qd h => h.1) (fun fd cdv A outer s H vs Q E hg hr h => ?_)
  have hu := VL.hu_of hr
  have hu1 := L2.hu_of hr
  refine ⟨_, PSs.nox (pss_cons (ps_if (PW.pt (pw_or (pt_cmpR (opK K (fun K => rInAll K true) (op_notInAll hu) (by rfl)) (pe_tupN (pa_starK K (pv 3) (pa_cons (pe_int) (pa_nil)) (by rfl))) (pv 2) (by rfl)) (pw_or1 (pt_cmpR (opK K (fun K => rInAll K true) (op_notInAll hu) (by rfl)) (pe_tupN (pa_starK K (pv 3) (pa_cons (pe_un un_neg (pe_int)) (pa_nil)) (by rfl))) (pv 2) (by rfl))))) (pss_one (ps_ret (pe_bl))) (pss_nil)) (pss_cons (ps_par (i := 4) (j := 5) (by rfl) sc_can_strike.nd (by rfl) (by rfl) (by decide) (by rfl) (by rfl) (pa_cons (pe_or' (peBX K (pe_bmX PySem.F.plainAttrs_list PySem.F.slot_list_index PySem.F.type_list_index (mtK K rIdxL (mt_idxL hu) (by rfl)) (pv 2) (pa_cons (pe_tupN (pa_starK K (pv 3) (pa_cons (pe_int) (pa_nil)) (by rfl))) (pa_nil))) (by rfl)) (peBX K (pe_bmX PySem.F.plainAttrs_tuple PySem.F.slot_tuple_index PySem.F.type_tuple_index (mtK K rIdxT (mt_idxT hu) (by rfl)) (pv 2) (pa_cons (pe_tupN (pa_starK K (pv 3) (pa_cons (pe_int) (pa_nil)) (by rfl))) (pa_nil))) (by rfl))) (pa_cons (pe_or' (peBX K (pe_bmX PySem.F.plainAttrs_list PySem.F.slot_list_index PySem.F.type_list_index (mtK K rIdxL (mt_idxL hu) (by rfl)) (pv 2) (pa_cons (pe_tupN (pa_starK K (pv 3) (pa_cons (pe_un un_neg (pe_int)) (pa_nil)) (by rfl))) (pa_nil))) (by rfl)) (peBX K (pe_bmX PySem.F.plainAttrs_tuple PySem.F.slot_tuple_index PySem.F.type_tuple_index (mtK K rIdxT (mt_idxT hu) (by rfl)) (pv 2) (pa_cons (pe_tupN (pa_starK K (pv 3) (pa_cons (pe_un un_neg (pe_int)) (pa_nil)) (by rfl))) (pa_nil))) (by rfl))) (pa_nil))) (by rfl)) (pss_one (ps_ret (pe_notK K (pe_callB (callK K (fun K => rAnyR K false) (call_anyR (by rfl)) (by rfl)) (by rfl) fr_any boot_any (pa_cons (pe_lc (own := [("entry", 6)]) (by rfl) sc_can_strike.nd (pi_anyK K (pe_slice (slK K rSlAll sl_all (by rfl)) (pv 2) (po_some (pe_op (opK K rAddAll op_addAll (by rfl)) (pv 4) (pe_int))) (po_some (pv 5))) (by rfl)) (blkOk_by (N := ["plans", "fights", "log", "deed", "first", "last", "entry"]) (sc := defScope st_can_strike) (by decide +kernel)) (fun _ _ _ _ _ => pg_name (i := 6) sc_can_strike.nd (by rfl) (by first | exact Or.inl rfl | exact Or.inr rfl)) (fun _ _ _ _ _ => pts_nil) (fun _ _ _ _ _ => pe_callO G_do_fight hg hr (by omega) (by rfl) (pa_cons (pv 0) (pa_cons (pv 1) (pa_cons (pe_slice (slK K rSlAll sl_all (by rfl)) (pv 6) po_none (po_some (pe_int))) (pa_cons (pv 3) (pa_nil))))))) (pa_nil))) (by rfl)))))), ?_⟩
  exact spA_of (fun o => sims_seq (sims_if (sim_or (sim_tst (SimE.p (sim_op (so_in (neg := true)) (SimE.p (sim_tup (sim_lstar (sim_var) (sim_lcons (sim_int) (sim_lnil))))) (SimE.p (sim_var))))) (sim_tst (SimE.p (sim_op (so_in (neg := true)) (SimE.p (sim_tup (sim_lstar (sim_var) (sim_lcons (sim_un su_neg (SimE.p (sim_int))) (sim_lnil))))) (SimE.p (sim_var)))))) (sims_ret (sim_bl)) (sims_next)) (sims_seq (sims_par (sim_orE (sim_m sm_idxL (SimE.p (sim_var)) (sim_pcons (SimE.p (sim_tup (sim_lstar (sim_var) (sim_lcons (sim_int) (sim_lnil))))) (sim_pnil))) (sim_m sm_idxT (SimE.p (sim_var)) (sim_pcons (SimE.p (sim_tup (sim_lstar (sim_var) (sim_lcons (sim_int) (sim_lnil))))) (sim_pnil)))) (sim_orE (sim_m sm_idxL (SimE.p (sim_var)) (sim_pcons (SimE.p (sim_tup (sim_lstar (sim_var) (sim_lcons (sim_un su_neg (SimE.p (sim_int))) (sim_lnil))))) (sim_pnil))) (sim_m sm_idxT (SimE.p (sim_var)) (sim_pcons (SimE.p (sim_tup (sim_lstar (sim_var) (sim_lcons (sim_un su_neg (SimE.p (sim_int))) (sim_lnil))))) (sim_pnil))))) (sims_ret (sim_notT (SimE.p (sim_b sb_any (sim_pcons (SimE.p (SimF.e (simF_lc (simIP_any (SimE.p (sim_sl ss_cut (SimE.p (sim_var)) (sim_oyes (SimE.p (sim_op so_add (SimE.p (sim_var)) (SimE.p (sim_int))))) (sim_oyes (SimE.p (sim_var)))))) (simg_name (i := 6)) (sim_yes) (sim_callA (sim_acons (sim_var) (sim_acons (sim_var) (sim_acons (sim_sl ss_cut (SimE.p (sim_var)) sim_ono (sim_oyes (SimE.p (sim_int)))) (sim_acons (sim_var) (sim_anil)))))) (by decide)))) (sim_pnil)))))))) (fun as Qd h => h.2) vs H Q E h
theorem ok_gone_through (fx : Fx fal gsl fnl K mg) (G_are_bound : OkF P w K mg base 29 "are_bound" (spA K ((wp_are_bound) K))) : OkF P w K mg base 30 "gone_through" (spA K ((wp_gone_through) K)) := by
  have fr_any := fx.free 57 "any"
  have fr_enumerate := fx.free 48 "enumerate"
  refine okF_of (st := st_gone_through) (N := ["plans", "fights", "log", "kept", "gone", "k", "entry", "first", "i"]) (ps := ["plans", "fights", "log"]) (fx.fd 11 "gone_through" st_gone_through) (fx.glo 11 "gone_through") sc_gone_through (fun _ _ _ _ _ _ us hl => match us, hl with | [_, _, _], _ => rfl) (spA_len fun as Qd h => h.1) (fun fd cdv A outer s H vs Q E hg hr h => ?_)
  have hu := VL.hu_of hr
  have hu1 := L2.hu_of hr
  refine ⟨_, PSs.nox (pss_cons (ps_par (i := 3) (j := 4) (by rfl) sc_gone_through.nd (by rfl) (by rfl) (by decide) (by rfl) (by rfl) (pa_cons (pe_lst (pa_nil)) (pa_cons (pe_lst (pa_nil)) (pa_nil))) (by rfl)) (pss_cons (ps_for PassesOwn.never (by rfl) (pi_enumK K (by rfl) fr_enumerate (pa_cons (pv 2) (pa_nil)) (by rfl)) (pg_tupK K (n := 2) (by rfl) (pgs_cons (pg_name (i := 5) sc_gone_through.nd (by rfl) (by first | exact Or.inl rfl | exact Or.inr rfl)) (pgs_cons (pg_name (i := 6) sc_gone_through.nd (by rfl) (by first | exact Or.inl rfl | exact Or.inr rfl)) (pgs_nil))) (by rfl)) (pss_cons (ps_if (pt_cmpR (opK K rEqR (op_eqR hu) (by rfl)) (pe_ix (ixK K rIxAll (ix_all hu) (by rfl)) (pv 6) (pe_int) (by exact fun _ _ => rfl)) (pe_int) (nomark _)) (pss_cons (ps_expr (pe_bm PySem.F.plainAttrs_list PySem.F.slot_list_append PySem.F.type_list_append mt_append (pv 3) (pa_cons (pv 5) pa_nil))) (pss_one (ps_continue))) (pss_nil)) (pss_cons (ps_set (i := 7) sc_gone_through.nd (by rfl) (by exact Or.inr rfl) (pe_or' (peBX K (pe_bmX PySem.F.plainAttrs_list PySem.F.slot_list_index PySem.F.type_list_index (mtK K rIdxL (mt_idxL hu) (by rfl)) (pv 2) (pa_cons (pe_tupN (pa_starK K (pe_slice (slK K rSlAll sl_all (by rfl)) (pv 6) po_none (po_some (pe_int))) (pa_cons (pe_int) (pa_nil)) (by rfl))) (pa_nil))) (by rfl)) (peBX K (pe_bmX PySem.F.plainAttrs_tuple PySem.F.slot_tuple_index PySem.F.type_tuple_index (mtK K rIdxT (mt_idxT hu) (by rfl)) (pv 2) (pa_cons (pe_tupN (pa_starK K (pe_slice (slK K rSlAll sl_all (by rfl)) (pv 6) po_none (po_some (pe_int))) (pa_cons (pe_int) (pa_nil)) (by rfl))) (pa_nil))) (by rfl)))) (pss_one (ps_if (pt_truK K (pe_callB (callK K (fun K => rAnyR K false) (call_anyR (by rfl)) (by rfl)) (by rfl) fr_any boot_any (pa_cons (pe_lc (own := [("i", 8)]) (by rfl) sc_gone_through.nd (pi_anyK K (pv 3) (by rfl)) (blkOk_by (N := ["plans", "fights", "log", "kept", "gone", "k", "entry", "first", "i"]) (sc := defScope st_gone_through) (by decide +kernel)) (fun _ _ _ _ _ => pg_name (i := 8) sc_gone_through.nd (by rfl) (by first | exact Or.inl rfl | exact Or.inr rfl)) (fun _ _ _ _ _ => pts_nil) (fun _ _ _ _ _ => pe_andK K (pe_cmpR op_gt (pv 8) (pv 7) (nomark _)) (pe_one (pe_callO G_are_bound hg hr (by omega) (by rfl) (pa_cons (pv 0) (pa_cons (pv 1) (pa_cons (pe_ix (ixK K rIxAll (ix_all hu) (by rfl)) (pv 2) (pv 8) (by exact fun _ _ => rfl)) (pa_cons (pv 6) (pa_nil))))))) (by rfl))) (pa_nil))) (by exact fun _ => rfl) (by rfl)) (pss_one (ps_expr (pe_bm PySem.F.plainAttrs_list PySem.F.slot_list_append PySem.F.type_list_append mt_append (pv 3) (pa_cons (pv 5) pa_nil)))) (pss_cons (ps_expr (pe_remX (by rfl) takes_no (pv 3) (pv 7))) (pss_one (ps_expr (pe_bm PySem.F.plainAttrs_list PySem.F.slot_list_append PySem.F.type_list_append mt_append (pv 4) (pa_cons (pv 5) pa_nil)))))))))) (pss_one (ps_ret (pe_tupN (pa_cons (pv 3) (pa_cons (pv 4) (pa_nil)))))))), ?_⟩
  exact spA_of (fun o => sims_seq (sims_parFF (simF_lst (sim_lnil)) (simF_lst (sim_lnil))) (sims_seq (sims_for (simI_enum (sim_lcons (sim_var) (sim_lnil))) (simg_tup (n := 2) (simgs_cons (simg_name (i := 5)) (simgs_cons (simg_name (i := 6)) (simgs_nil)))) (sims_seq (sims_if (sim_tst (SimE.p (sim_op so_eq (SimE.p (sim_op so_ix (SimE.p (sim_var)) (SimE.p (sim_int)))) (SimE.p (sim_int))))) (sims_seq (sims_app (sim_var)) (sims_cont)) (sims_next)) (sims_seq (sims_set (sim_orE (sim_m sm_idxL (SimE.p (sim_var)) (sim_pcons (SimE.p (sim_tup (sim_lstar (sim_sl ss_cut (SimE.p (sim_var)) sim_ono (sim_oyes (SimE.p (sim_int)))) (sim_lcons (sim_int) (sim_lnil))))) (sim_pnil))) (sim_m sm_idxT (SimE.p (sim_var)) (sim_pcons (SimE.p (sim_tup (sim_lstar (sim_sl ss_cut (SimE.p (sim_var)) sim_ono (sim_oyes (SimE.p (sim_int)))) (sim_lcons (sim_int) (sim_lnil))))) (sim_pnil))))) (sims_if (sim_truK (SimE.p (sim_b sb_any (sim_pcons (SimE.p (SimF.e (simF_lc (simIP_any (sim_varP)) (simg_name (i := 8)) (sim_yes) (sim_andT (sim_op (so_cmp (p := fun i j => decide (j < i))) (SimE.p (sim_var)) (SimE.p (sim_var))) (sim_callA (sim_acons (sim_var) (sim_acons (sim_var) (sim_acons (sim_op so_ix (SimE.p (sim_var)) (SimE.p (sim_var))) (sim_acons (sim_var) (sim_anil))))))) (by decide)))) (sim_pnil))))) (sims_app (sim_var)) (sims_seq (sims_rem (sim_var)) (sims_app (sim_var))))))) (sims_frz (i := 3) (sims_frz (i := 4) (sims_ret (sim_tup (sim_lcons (sim_var) (sim_lcons (sim_var) (sim_lnil))))))))) (fun as Qd h => h.2) vs H Q E h
theorem ok_rest (fx : Fx fal gsl fnl K mg) (G_gone_through : OkF P w K mg base 30 "gone_through" (spA K ((wp_gone_through) K))) : OkF P w K mg base 31 "rest" (spA K ((wp_rest) K)) := by
  have fr_tuple := fx.free 56 "tuple"
  refine okF_of (st := st_rest) (N := ["plans", "fights", "log"]) (ps := ["plans", "fights", "log"]) (fx.fd 12 "rest" st_rest) (fx.glo 12 "rest") sc_rest (fun _ _ _ _ _ _ us hl => match us, hl with | [_, _, _], _ => rfl) (spA_len fun as Qd h => h.1) (fun fd cdv A outer s H vs Q E hg hr h => ?_)
  have hu := VL.hu_of hr
  have hu1 := L2.hu_of hr
  refine ⟨_, PSs.nox (pss_one (ps_ret (pe_callTy (callK K rTupleOf call_tupleN (by rfl)) (by rfl) fr_tuple boot_tuple (pa_cons (pe_ix (ixK K rIxAll (ix_all hu) (by rfl)) (pe_callO G_gone_through hg hr (by omega) (by rfl) (pa_cons (pv 0) (pa_cons (pv 1) (pa_cons (pv 2) (pa_nil))))) (pe_int) (by exact fun _ _ => rfl)) (pa_nil))))), ?_⟩
  exact spA_of (fun o => sims_ret (sim_b sb_tuple (sim_pcons (SimE.p (sim_op so_ix (SimE.p (sim_callA (sim_acons (sim_var) (sim_acons (sim_var) (sim_acons (sim_var) (sim_anil)))))) (SimE.p (sim_int)))) (sim_pnil)))) (fun as Qd h => h.2) vs H Q E h
theorem ok_strikes (fx : Fx fal gsl fnl K mg) (G_gone_through : OkF P w K mg base 30 "gone_through" (spA K ((wp_gone_through) K))) : OkF P w K mg base 31 "strikes" (spA K ((wp_strikes) K)) := by
  have fr_tuple := fx.free 56 "tuple"
  refine okF_of (st := st_strikes) (N := ["plans", "fights", "log", "k"]) (ps := ["plans", "fights", "log"]) (fx.fd 13 "strikes" st_strikes) (fx.glo 13 "strikes") sc_strikes (fun _ _ _ _ _ _ us hl => match us, hl with | [_, _, _], _ => rfl) (spA_len fun as Qd h => h.1) (fun fd cdv A outer s H vs Q E hg hr h => ?_)
  have hu := VL.hu_of hr
  have hu1 := L2.hu_of hr
  refine ⟨_, PSs.nox (pss_one (ps_ret (pe_callTy (callK K rTupleOf call_tupleN (by rfl)) (by rfl) fr_tuple boot_tuple (pa_cons (pe_lc (own := [("k", 3)]) (by rfl) sc_strikes.nd (pi_anyK K (pe_ix (ixK K rIxAll (ix_all hu) (by rfl)) (pe_callO G_gone_through hg hr (by omega) (by rfl) (pa_cons (pv 0) (pa_cons (pv 1) (pa_cons (pv 2) (pa_nil))))) (pe_int) (by exact fun _ _ => rfl)) (by rfl)) (blkOk_by (N := ["plans", "fights", "log", "k"]) (sc := defScope st_strikes) (by decide +kernel)) (fun _ _ _ _ _ => pg_name (i := 3) sc_strikes.nd (by rfl) (by first | exact Or.inl rfl | exact Or.inr rfl)) (fun _ _ _ _ _ => pts_nil) (fun _ _ _ _ _ => pe_slice (slK K rSlAll sl_all (by rfl)) (pe_ix (ixK K rIxAll (ix_all hu) (by rfl)) (pv 2) (pv 3) (by exact fun _ _ => rfl)) po_none (po_some (pe_int)))) (pa_nil))))), ?_⟩
  exact spA_of (fun o => sims_ret (sim_b sb_tuple (sim_pcons (SimE.p (SimF.e (simF_lc (simIP_any (SimE.p (sim_op so_ix (SimE.p (sim_callA (sim_acons (sim_var) (sim_acons (sim_var) (sim_acons (sim_var) (sim_anil)))))) (SimE.p (sim_int))))) (simg_name (i := 3)) (sim_yes) (sim_sl ss_cut (SimE.p (sim_op so_ix (SimE.p (sim_var)) (SimE.p (sim_var)))) sim_ono (sim_oyes (SimE.p (sim_int)))) (by decide)))) (sim_pnil)))) (fun as Qd h => h.2) vs H Q E h
theorem ok_may_undo (fx : Fx fal gsl fnl K mg) (G_standing_deeds : OkF P w K mg base 1 "standing_deeds" (spA K ((wp_standing_deeds) K))) (G_do_fight : OkF P w K mg base 28 "do_fight" (spA K ((wp_do_fight) K))) : OkF P w K mg base 29 "may_undo" (spA K ((wp_may_undo) K)) := by
  have fr_any := fx.free 57 "any"
  refine okF_of (st := st_may_undo) (N := ["plans", "fights", "log", "deed", "some", "one"]) (ps := ["plans", "fights", "log", "deed"]) (fx.fd 14 "may_undo" st_may_undo) (fx.glo 14 "may_undo") sc_may_undo (fun _ _ _ _ _ _ us hl => match us, hl with | [_, _, _, _], _ => rfl) (spA_len fun as Qd h => h.1) (fun fd cdv A outer s H vs Q E hg hr h => ?_)
  have hu := VL.hu_of hr
  have hu1 := L2.hu_of hr
  refine ⟨_, PSs.nox (pss_cons (ps_set (i := 4) sc_may_undo.nd (by rfl) (by exact Or.inl rfl) (pe_callO G_standing_deeds hg hr (by omega) (by rfl) (pa_cons (pv 2) (pa_nil)))) (pss_cons (ps_if (pt_cmpR (opK K (fun K => rInAll K true) (op_notInAll hu) (by rfl)) (pv 3) (pv 4) (by rfl)) (pss_one (ps_ret (pe_bl))) (pss_nil)) (pss_one (ps_ret (pe_notK K (pe_callB (callK K (fun K => rAnyR K false) (call_anyR (by rfl)) (by rfl)) (by rfl) fr_any boot_any (pa_cons (pe_lc (own := [("one", 5)]) (by rfl) sc_may_undo.nd (pi_anyK K (pe_slice (slK K rSlAll sl_all (by rfl)) (pv 4) (po_some (pe_op (opK K rAddAll op_addAll (by rfl)) (pe_or' (peBX K (pe_bmX PySem.F.plainAttrs_list PySem.F.slot_list_index PySem.F.type_list_index (mtK K rIdxL (mt_idxL hu) (by rfl)) (pv 4) (pa_cons (pv 3) (pa_nil))) (by rfl)) (peBX K (pe_bmX PySem.F.plainAttrs_tuple PySem.F.slot_tuple_index PySem.F.type_tuple_index (mtK K rIdxT (mt_idxT hu) (by rfl)) (pv 4) (pa_cons (pv 3) (pa_nil))) (by rfl))) (pe_int))) po_none) (by rfl)) (blkOk_by (N := ["plans", "fights", "log", "deed", "some", "one"]) (sc := defScope st_may_undo) (by decide +kernel)) (fun _ _ _ _ _ => pg_name (i := 5) sc_may_undo.nd (by rfl) (by first | exact Or.inl rfl | exact Or.inr rfl)) (fun _ _ _ _ _ => pts_nil) (fun _ _ _ _ _ => pe_callO G_do_fight hg hr (by omega) (by rfl) (pa_cons (pv 0) (pa_cons (pv 1) (pa_cons (pv 5) (pa_cons (pv 3) (pa_nil))))))) (pa_nil))) (by rfl)))))), ?_⟩
  exact spA_of (fun o => sims_seq (sims_set (sim_callA (sim_acons (sim_var) (sim_anil)))) (sims_seq (sims_if (sim_tst (SimE.p (sim_op (so_in (neg := true)) (SimE.p (sim_var)) (SimE.p (sim_var))))) (sims_ret (sim_bl)) (sims_next)) (sims_ret (sim_notT (SimE.p (sim_b sb_any (sim_pcons (SimE.p (SimF.e (simF_lc (simIP_any (SimE.p (sim_sl ss_cut (SimE.p (sim_var)) (sim_oyes (SimE.p (sim_op so_add (SimE.p (sim_orE (sim_m sm_idxL (SimE.p (sim_var)) (sim_pcons (SimE.p (sim_var)) (sim_pnil))) (sim_m sm_idxT (SimE.p (sim_var)) (sim_pcons (SimE.p (sim_var)) (sim_pnil))))) (SimE.p (sim_int))))) sim_ono))) (simg_name (i := 5)) (sim_yes) (sim_callA (sim_acons (sim_var) (sim_acons (sim_var) (sim_acons (sim_var) (sim_acons (sim_var) (sim_anil)))))) (by decide)))) (sim_pnil)))))))) (fun as Qd h => h.2) vs H Q E h
theorem ok_lost_at (fx : Fx fal gsl fnl K mg) (G_rest : OkF P w K mg base 31 "rest" (spA K ((wp_rest) K))) : OkF P w K mg base 32 "lost_at" (spA K ((wp_lost_at) K)) := by
  refine okF_of (st := st_lost_at) (N := ["plans", "fights", "log", "found", "k"]) (ps := ["plans", "fights", "log"]) (fx.fd 15 "lost_at" st_lost_at) (fx.glo 15 "lost_at") sc_lost_at (fun _ _ _ _ _ _ us hl => match us, hl with | [_, _, _], _ => rfl) (spA_len fun as Qd h => h.1) (fun fd cdv A outer s H vs Q E hg hr h => ?_)
  have hu := VL.hu_of hr
  have hu1 := L2.hu_of hr
  refine ⟨_, PSs.nox (pss_cons (ps_setLc (i := 3) (own := [("k", 4)]) (by rfl) sc_lost_at.nd (by rfl) (by rfl) (sw_true (by rfl) (by rfl) (by rfl) (by decide +kernel)) (pi_anyK K (pe_callO G_rest hg hr (by omega) (by rfl) (pa_cons (pv 0) (pa_cons (pv 1) (pa_cons (pv 2) (pa_nil))))) (by rfl)) (blkOk_by (N := ["plans", "fights", "log", "found", "k"]) (sc := defScope st_lost_at) (by decide +kernel)) (fun _ _ _ _ _ => pg_name (i := 4) sc_lost_at.nd (by rfl) (by first | exact Or.inl rfl | exact Or.inr rfl)) (fun _ _ _ _ _ => pts_one (pt_cmpR (opK K rEqR (op_eqR hu) (by rfl)) (pe_ix (ixK K rIxAll (ix_all hu) (by rfl)) (pe_ix (ixK K rIxAll (ix_all hu) (by rfl)) (pv 2) (pv 4) (by exact fun _ _ => rfl)) (pe_int) (by exact fun _ _ => rfl)) (pe_un un_neg (pe_int)) (nomark _))) (fun _ _ _ _ _ => pv 4)) (pss_one (ps_ret (pe_ifExp (pt_cmpR (opK K rNeR (op_neR hu) (by rfl)) (pv 3) (pe_lst (pa_nil)) (nomark _)) (pe_op (opK K rAddAll op_addAll (by rfl)) (pe_ix (ixK K rIxAll (ix_all hu) (by rfl)) (pv 3) (pe_int) (by exact fun _ _ => rfl)) (pe_int)) (pe_non))))), ?_⟩
  exact spA_of (fun o => sims_seq (sims_set (SimF.e (simF_lc (simIP_any (SimE.p (sim_callA (sim_acons (sim_var) (sim_acons (sim_var) (sim_acons (sim_var) (sim_anil))))))) (simg_name (i := 4)) (sim_tst (SimE.p (sim_op so_eq (SimE.p (sim_op so_ix (SimE.p (sim_op so_ix (SimE.p (sim_var)) (SimE.p (sim_var)))) (SimE.p (sim_int)))) (SimE.p (sim_un su_neg (SimE.p (sim_int))))))) (sim_var) (by decide)))) (sims_ret (sim_ifE (sim_tst (SimE.p (sim_op so_ne (SimE.p (sim_var)) (SimE.p (SimF.e (simF_lst (sim_lnil))))))) (sim_op so_add (SimE.p (sim_op so_ix (SimE.p (sim_var)) (SimE.p (sim_int)))) (SimE.p (sim_int))) (sim_non)))) (fun as Qd h => h.2) vs H Q E h
theorem ok_knot (fx : Fx fal gsl fnl K mg) (G_rest : OkF P w K mg base 31 "rest" (spA K ((wp_rest) K))) (G_do_fight : OkF P w K mg base 28 "do_fight" (spA K ((wp_do_fight) K))) : OkF P w K mg base 32 "knot" (spA K ((wp_knot) K)) := by
  have fr_len := fx.free 52 "len"
  refine okF_of (st := st_knot) (N := ["plans", "fights", "log", "number", "kept", "found", "deed", "low", "high", "between", "last", "same", "k"]) (ps := ["plans", "fights", "log", "number"]) (fx.fd 16 "knot" st_knot) (fx.glo 16 "knot") sc_knot (fun _ _ _ _ _ _ us hl => match us, hl with | [_, _, _, _], _ => rfl) (spA_len fun as Qd h => h.1) (fun fd cdv A outer s H vs Q E hg hr h => ?_)
  have hu := VL.hu_of hr
  have hu1 := L2.hu_of hr
  refine ⟨_, PSs.nox (pss_cons (ps_set (i := 4) sc_knot.nd (by rfl) (by exact Or.inl rfl) (pe_callO G_rest hg hr (by omega) (by rfl) (pa_cons (pv 0) (pa_cons (pv 1) (pa_cons (pv 2) (pa_nil)))))) (pss_cons (ps_if (PW.pt (pw_or (pt_cmpR (opK K (fun K => rInAll K true) (op_notInAll hu) (by rfl)) (pv 3) (pv 4) (by rfl)) (pw_or1 (pt_cmpR (opK K rEqR (op_eqR hu) (by rfl)) (pe_ix (ixK K rIxAll (ix_all hu) (by rfl)) (pe_ix (ixK K rIxAll (ix_all hu) (by rfl)) (pv 2) (pv 3) (by exact fun _ _ => rfl)) (pe_int) (by exact fun _ _ => rfl)) (pe_int) (nomark _))))) (pss_one (ps_ret (pe_non))) (pss_nil)) (pss_cons (ps_set (i := 5) sc_knot.nd (by rfl) (by exact Or.inl rfl) (pe_lst (pa_cons (pe_or' (peBX K (pe_bmX PySem.F.plainAttrs_list PySem.F.slot_list_index PySem.F.type_list_index (mtK K rIdxL (mt_idxL hu) (by rfl)) (pv 2) (pa_cons (pe_tupN (pa_starK K (pe_slice (slK K rSlAll sl_all (by rfl)) (pe_ix (ixK K rIxAll (ix_all hu) (by rfl)) (pv 2) (pv 3) (by exact fun _ _ => rfl)) po_none (po_some (pe_int))) (pa_cons (pe_int) (pa_nil)) (by rfl))) (pa_nil))) (by rfl)) (peBX K (pe_bmX PySem.F.plainAttrs_tuple PySem.F.slot_tuple_index PySem.F.type_tuple_index (mtK K rIdxT (mt_idxT hu) (by rfl)) (pv 2) (pa_cons (pe_tupN (pa_starK K (pe_slice (slK K rSlAll sl_all (by rfl)) (pe_ix (ixK K rIxAll (ix_all hu) (by rfl)) (pv 2) (pv 3) (by exact fun _ _ => rfl)) po_none (po_some (pe_int))) (pa_cons (pe_int) (pa_nil)) (by rfl))) (pa_nil))) (by rfl))) (pa_nil)))) (pss_one (ps_while PassesOwn.never (pt_truK K (pe_bl) (by exact fun _ => rfl) (by rfl)) (pss_cons (ps_set (i := 6) sc_knot.nd (by rfl) (by exact Or.inr rfl) (pe_slice (slK K rSlAll sl_all (by rfl)) (pe_ix (ixK K rIxAll (ix_all hu) (by rfl)) (pv 2) (pe_ix (ixK K rIxAll (ix_all hu) (by rfl)) (pv 5) (pe_un un_neg (pe_int)) (by exact fun _ _ => rfl)) (by exact fun _ _ => rfl)) po_none (po_some (pe_int)))) (pss_cons (ps_asg (pe_tupN (pa_cons (pe_ix (ixK K rIxAll (ix_all hu) (by rfl)) (pv 5) (pe_un un_neg (pe_int)) (by exact fun _ _ => rfl)) (pa_cons (pe_or' (peBX K (pe_bmX PySem.F.plainAttrs_list PySem.F.slot_list_index PySem.F.type_list_index (mtK K rIdxL (mt_idxL hu) (by rfl)) (pv 2) (pa_cons (pe_tupN (pa_starK K (pv 6) (pa_cons (pe_un un_neg (pe_int)) (pa_nil)) (by rfl))) (pa_nil))) (by rfl)) (peBX K (pe_bmX PySem.F.plainAttrs_tuple PySem.F.slot_tuple_index PySem.F.type_tuple_index (mtK K rIdxT (mt_idxT hu) (by rfl)) (pv 2) (pa_cons (pe_tupN (pa_starK K (pv 6) (pa_cons (pe_un un_neg (pe_int)) (pa_nil)) (by rfl))) (pa_nil))) (by rfl))) (pa_nil)))) (pg_tupK K (n := 2) (by rfl) (pgs_cons (pg_name (i := 7) sc_knot.nd (by rfl) (by first | exact Or.inl rfl | exact Or.inr rfl)) (pgs_cons (pg_name (i := 8) sc_knot.nd (by rfl) (by first | exact Or.inl rfl | exact Or.inr rfl)) (pgs_nil))) (by rfl))) (pss_cons (ps_setLc (i := 9) (own := [("k", 12)]) (by rfl) sc_knot.nd (by rfl) (by rfl) (sw_true (by rfl) (by rfl) (by rfl) (by decide +kernel)) (pi_anyK K (pv 4) (by rfl)) (blkOk_by (N := ["plans", "fights", "log", "number", "kept", "found", "deed", "low", "high", "between", "last", "same", "k"]) (sc := defScope st_knot) (by decide +kernel)) (fun _ _ _ _ _ => pg_name (i := 12) sc_knot.nd (by rfl) (by first | exact Or.inl rfl | exact Or.inr rfl)) (fun _ _ _ _ _ => pts_one (pt_chain op_lt op_lt (pv 7) (pv 12) (pv 8))) (fun _ _ _ _ _ => pv 12)) (pss_cons (ps_set (i := 10) sc_knot.nd (by rfl) (by exact Or.inr rfl) (pe_ix (ixK K rIxAll (ix_all hu) (by rfl)) (pe_lc (own := [("k", 12)]) (by rfl) sc_knot.nd (pi_anyK K (pv 9) (by rfl)) (blkOk_by (N := ["plans", "fights", "log", "number", "kept", "found", "deed", "low", "high", "between", "last", "same", "k"]) (sc := defScope st_knot) (by decide +kernel)) (fun _ _ _ _ _ => pg_name (i := 12) sc_knot.nd (by rfl) (by first | exact Or.inl rfl | exact Or.inr rfl)) (fun _ _ _ _ _ => pts_one (pt_truK K (pe_callO G_do_fight hg hr (by omega) (by rfl) (pa_cons (pv 0) (pa_cons (pv 1) (pa_cons (pe_slice (slK K rSlAll sl_all (by rfl)) (pe_ix (ixK K rIxAll (ix_all hu) (by rfl)) (pv 2) (pv 12) (by exact fun _ _ => rfl)) po_none (po_some (pe_int))) (pa_cons (pv 6) (pa_nil)))))) (by exact fun _ => rfl) (by rfl))) (fun _ _ _ _ _ => pv 12)) (pe_int) (by exact fun _ _ => rfl))) (pss_cons (ps_setLc (i := 11) (own := [("k", 12)]) (by rfl) sc_knot.nd (by rfl) (by rfl) (sw_true (by rfl) (by rfl) (by rfl) (by decide +kernel)) (pi_anyK K (pv 9) (by rfl)) (blkOk_by (N := ["plans", "fights", "log", "number", "kept", "found", "deed", "low", "high", "between", "last", "same", "k"]) (sc := defScope st_knot) (by decide +kernel)) (fun _ _ _ _ _ => pg_name (i := 12) sc_knot.nd (by rfl) (by first | exact Or.inl rfl | exact Or.inr rfl)) (fun _ _ _ _ _ => pts_one (pt_cmpR (opK K rEqR (op_eqR hu) (by rfl)) (pe_slice (slK K rSlAll sl_all (by rfl)) (pe_ix (ixK K rIxAll (ix_all hu) (by rfl)) (pv 2) (pv 12) (by exact fun _ _ => rfl)) po_none (po_some (pe_int))) (pe_slice (slK K rSlAll sl_all (by rfl)) (pe_ix (ixK K rIxAll (ix_all hu) (by rfl)) (pv 2) (pv 10) (by exact fun _ _ => rfl)) po_none (po_some (pe_int))) (nomark _))) (fun _ _ _ _ _ => pv 12)) (pss_cons (ps_if (pt_cmpR (opK K rEqR (op_eqR hu) (by rfl)) (pe_callB (callK K rLenAll call_lenAll (by rfl)) (by rfl) fr_len boot_len (pa_cons (pv 11) (pa_nil))) (pe_int) (nomark _)) (pss_one (ps_ret (pe_tupN (pa_starK K (pv 5) (pa_cons (pv 10) (pa_nil)) (by rfl))))) (pss_nil)) (pss_one (ps_expr (pe_bm PySem.F.plainAttrs_list PySem.F.slot_list_append PySem.F.type_list_append mt_append (pv 5) (pa_cons (pe_ix (ixK K rIxAll (ix_all hu) (by rfl)) (pv 11) (pe_int) (by exact fun _ _ => rfl)) pa_nil))))))))))))))), ?_⟩
  exact spA_of (fun o => sims_seq (sims_set (sim_callA (sim_acons (sim_var) (sim_acons (sim_var) (sim_acons (sim_var) (sim_anil)))))) (sims_seq (sims_if (sim_or (sim_tst (SimE.p (sim_op (so_in (neg := true)) (SimE.p (sim_var)) (SimE.p (sim_var))))) (sim_tst (SimE.p (sim_op so_eq (SimE.p (sim_op so_ix (SimE.p (sim_op so_ix (SimE.p (sim_var)) (SimE.p (sim_var)))) (SimE.p (sim_int)))) (SimE.p (sim_int)))))) (sims_ret (sim_non)) (sims_next)) (sims_seq (sims_setO (simF_lst (sim_lcons (sim_orE (sim_m sm_idxL (SimE.p (sim_var)) (sim_pcons (SimE.p (sim_tup (sim_lstar (sim_sl ss_cut (SimE.p (sim_op so_ix (SimE.p (sim_var)) (SimE.p (sim_var)))) sim_ono (sim_oyes (SimE.p (sim_int)))) (sim_lcons (sim_int) (sim_lnil))))) (sim_pnil))) (sim_m sm_idxT (SimE.p (sim_var)) (sim_pcons (SimE.p (sim_tup (sim_lstar (sim_sl ss_cut (SimE.p (sim_op so_ix (SimE.p (sim_var)) (SimE.p (sim_var)))) sim_ono (sim_oyes (SimE.p (sim_int)))) (sim_lcons (sim_int) (sim_lnil))))) (sim_pnil)))) (sim_lnil)))) (sims_while (sim_truK (SimE.p (sim_bl))) (sims_seq (sims_set (sim_sl ss_cut (SimE.p (sim_op so_ix (SimE.p (sim_var)) (SimE.p (sim_op so_ix (sim_varP) (SimE.p (sim_un su_neg (SimE.p (sim_int)))))))) sim_ono (sim_oyes (SimE.p (sim_int))))) (sims_seq (sims_asg (sim_tup (sim_lcons (sim_op so_ix (sim_varP) (SimE.p (sim_un su_neg (SimE.p (sim_int))))) (sim_lcons (sim_orE (sim_m sm_idxL (SimE.p (sim_var)) (sim_pcons (SimE.p (sim_tup (sim_lstar (sim_var) (sim_lcons (sim_un su_neg (SimE.p (sim_int))) (sim_lnil))))) (sim_pnil))) (sim_m sm_idxT (SimE.p (sim_var)) (sim_pcons (SimE.p (sim_tup (sim_lstar (sim_var) (sim_lcons (sim_un su_neg (SimE.p (sim_int))) (sim_lnil))))) (sim_pnil)))) (sim_lnil)))) (simg_tup (n := 2) (simgs_cons (simg_name (i := 7)) (simgs_cons (simg_name (i := 8)) (simgs_nil))))) (sims_seq (sims_set (SimF.e (simF_lc (simIP_any (SimE.p (sim_var))) (simg_name (i := 12)) (sim_tst (SimE.p (sim_chain (so_cmp (p := fun i j => decide (i < j))) (so_cmp (p := fun i j => decide (i < j))) (SimE.p (sim_var)) (SimE.p (sim_var)) (SimE.p (sim_var))))) (sim_var) (by decide)))) (sims_seq (sims_set (sim_op so_ix (SimE.p (SimF.e (simF_lc (simIP_any (SimE.p (sim_var))) (simg_name (i := 12)) (sim_truK (SimE.p (sim_callA (sim_acons (sim_var) (sim_acons (sim_var) (sim_acons (sim_sl ss_cut (SimE.p (sim_op so_ix (SimE.p (sim_var)) (SimE.p (sim_var)))) sim_ono (sim_oyes (SimE.p (sim_int)))) (sim_acons (sim_var) (sim_anil)))))))) (sim_var) (by decide)))) (SimE.p (sim_int)))) (sims_seq (sims_set (SimF.e (simF_lc (simIP_any (SimE.p (sim_var))) (simg_name (i := 12)) (sim_tst (SimE.p (sim_op so_eq (SimE.p (sim_sl ss_cut (SimE.p (sim_op so_ix (SimE.p (sim_var)) (SimE.p (sim_var)))) sim_ono (sim_oyes (SimE.p (sim_int))))) (SimE.p (sim_sl ss_cut (SimE.p (sim_op so_ix (SimE.p (sim_var)) (SimE.p (sim_var)))) sim_ono (sim_oyes (SimE.p (sim_int)))))))) (sim_var) (by decide)))) (sims_seq (sims_if (sim_tst (SimE.p (sim_op so_eq (SimE.p (sim_b sb_len (sim_pcons (SimE.p (sim_var)) (sim_pnil)))) (SimE.p (sim_int))))) (sims_frz (i := 5) (sims_ret (sim_tup (sim_lstar (sim_var) (sim_lcons (sim_var) (sim_lnil)))))) (sims_next)) (sims_app (sim_op so_ix (SimE.p (sim_var)) (SimE.p (sim_int)))))))))))))) (fun as Qd h => h.2) vs H Q E h
theorem ok_is_first_of_pair (fx : Fx fal gsl fnl K mg)  : OkF P w K mg base 1 "is_first_of_pair" (spA K ((wp_is_first_of_pair) K)) := by
  refine okF_of (st := st_is_first_of_pair) (N := ["log", "k"]) (ps := ["log", "k"]) (fx.fd 17 "is_first_of_pair" st_is_first_of_pair) (fx.glo 17 "is_first_of_pair") sc_is_first_of_pair (fun _ _ _ _ _ _ us hl => match us, hl with | [_, _], _ => rfl) (spA_len fun as Qd h => h.1) (fun fd cdv A outer s H vs Q E hg hr h => ?_)
  have hu := VL.hu_of hr
  have hu1 := L2.hu_of hr
  refine ⟨_, PSs.nox (pss_one (ps_ret (pe_andK K (pe_cmpR (opK K rEqR (op_eqR hu) (by rfl)) (pe_ix (ixK K rIxAll (ix_all hu) (by rfl)) (pe_ix (ixK K rIxAll (ix_all hu) (by rfl)) (pv 0) (pv 1) (by exact fun _ _ => rfl)) (pe_int) (by exact fun _ _ => rfl)) (pe_int) (nomark _)) (pe_one (pe_cmpR (opK K (fun K => rInAll K false) (op_inAll hu) (by rfl)) (pe_tupN (pa_starK K (pe_slice (slK K rSlAll sl_all (by rfl)) (pe_ix (ixK K rIxAll (ix_all hu) (by rfl)) (pv 0) (pv 1) (by exact fun _ _ => rfl)) po_none (po_some (pe_int))) (pa_cons (pe_un un_neg (pe_int)) (pa_nil)) (by rfl))) (pv 0) (by rfl))) (by rfl)))), ?_⟩
  exact spA_of (fun o => sims_ret (sim_andT (sim_op so_eq (SimE.p (sim_op so_ix (SimE.p (sim_op so_ix (SimE.p (sim_var)) (SimE.p (sim_var)))) (SimE.p (sim_int)))) (SimE.p (sim_int))) (sim_op (so_in (neg := false)) (SimE.p (sim_tup (sim_lstar (sim_sl ss_cut (SimE.p (sim_op so_ix (SimE.p (sim_var)) (SimE.p (sim_var)))) sim_ono (sim_oyes (SimE.p (sim_int)))) (sim_lcons (sim_un su_neg (SimE.p (sim_int))) (sim_lnil))))) (SimE.p (sim_var))))) (fun as Qd h => h.2) vs H Q E h
theorem ok_is_within (fx : Fx fal gsl fnl K mg)  : OkF P w K mg base 1 "is_within" (spA K ((wp_is_within) K)) := by
  refine okF_of (st := st_is_within) (N := ["log", "outer", "inner"]) (ps := ["log", "outer", "inner"]) (fx.fd 18 "is_within" st_is_within) (fx.glo 18 "is_within") sc_is_within (fun _ _ _ _ _ _ us hl => match us, hl with | [_, _, _], _ => rfl) (spA_len fun as Qd h => h.1) (fun fd cdv A outer s H vs Q E hg hr h => ?_)
  have hu := VL.hu_of hr
  have hu1 := L2.hu_of hr
  refine ⟨_, PSs.nox (pss_one (ps_ret (pe_andK K (pe_cmpR op_lt (pv 1) (pv 2) (nomark _)) (pe_one (pe_cmpR op_lt (pe_or' (peBX K (pe_bmX PySem.F.plainAttrs_list PySem.F.slot_list_index PySem.F.type_list_index (mtK K rIdxL (mt_idxL hu) (by rfl)) (pv 0) (pa_cons (pe_tupN (pa_starK K (pe_slice (slK K rSlAll sl_all (by rfl)) (pe_ix (ixK K rIxAll (ix_all hu) (by rfl)) (pv 0) (pv 2) (by exact fun _ _ => rfl)) po_none (po_some (pe_int))) (pa_cons (pe_un un_neg (pe_int)) (pa_nil)) (by rfl))) (pa_nil))) (by rfl)) (peBX K (pe_bmX PySem.F.plainAttrs_tuple PySem.F.slot_tuple_index PySem.F.type_tuple_index (mtK K rIdxT (mt_idxT hu) (by rfl)) (pv 0) (pa_cons (pe_tupN (pa_starK K (pe_slice (slK K rSlAll sl_all (by rfl)) (pe_ix (ixK K rIxAll (ix_all hu) (by rfl)) (pv 0) (pv 2) (by exact fun _ _ => rfl)) po_none (po_some (pe_int))) (pa_cons (pe_un un_neg (pe_int)) (pa_nil)) (by rfl))) (pa_nil))) (by rfl))) (pe_or' (peBX K (pe_bmX PySem.F.plainAttrs_list PySem.F.slot_list_index PySem.F.type_list_index (mtK K rIdxL (mt_idxL hu) (by rfl)) (pv 0) (pa_cons (pe_tupN (pa_starK K (pe_slice (slK K rSlAll sl_all (by rfl)) (pe_ix (ixK K rIxAll (ix_all hu) (by rfl)) (pv 0) (pv 1) (by exact fun _ _ => rfl)) po_none (po_some (pe_int))) (pa_cons (pe_un un_neg (pe_int)) (pa_nil)) (by rfl))) (pa_nil))) (by rfl)) (peBX K (pe_bmX PySem.F.plainAttrs_tuple PySem.F.slot_tuple_index PySem.F.type_tuple_index (mtK K rIdxT (mt_idxT hu) (by rfl)) (pv 0) (pa_cons (pe_tupN (pa_starK K (pe_slice (slK K rSlAll sl_all (by rfl)) (pe_ix (ixK K rIxAll (ix_all hu) (by rfl)) (pv 0) (pv 1) (by exact fun _ _ => rfl)) po_none (po_some (pe_int))) (pa_cons (pe_un un_neg (pe_int)) (pa_nil)) (by rfl))) (pa_nil))) (by rfl))) (nomark _))) (by rfl)))), ?_⟩
  exact spA_of (fun o => sims_ret (sim_andT (sim_op (so_cmp (p := fun i j => decide (i < j))) (SimE.p (sim_var)) (SimE.p (sim_var))) (sim_op (so_cmp (p := fun i j => decide (i < j))) (SimE.p (sim_orE (sim_m sm_idxL (SimE.p (sim_var)) (sim_pcons (SimE.p (sim_tup (sim_lstar (sim_sl ss_cut (SimE.p (sim_op so_ix (SimE.p (sim_var)) (SimE.p (sim_var)))) sim_ono (sim_oyes (SimE.p (sim_int)))) (sim_lcons (sim_un su_neg (SimE.p (sim_int))) (sim_lnil))))) (sim_pnil))) (sim_m sm_idxT (SimE.p (sim_var)) (sim_pcons (SimE.p (sim_tup (sim_lstar (sim_sl ss_cut (SimE.p (sim_op so_ix (SimE.p (sim_var)) (SimE.p (sim_var)))) sim_ono (sim_oyes (SimE.p (sim_int)))) (sim_lcons (sim_un su_neg (SimE.p (sim_int))) (sim_lnil))))) (sim_pnil))))) (SimE.p (sim_orE (sim_m sm_idxL (SimE.p (sim_var)) (sim_pcons (SimE.p (sim_tup (sim_lstar (sim_sl ss_cut (SimE.p (sim_op so_ix (SimE.p (sim_var)) (SimE.p (sim_var)))) sim_ono (sim_oyes (SimE.p (sim_int)))) (sim_lcons (sim_un su_neg (SimE.p (sim_int))) (sim_lnil))))) (sim_pnil))) (sim_m sm_idxT (SimE.p (sim_var)) (sim_pcons (SimE.p (sim_tup (sim_lstar (sim_sl ss_cut (SimE.p (sim_op so_ix (SimE.p (sim_var)) (SimE.p (sim_var)))) sim_ono (sim_oyes (SimE.p (sim_int)))) (sim_lcons (sim_un su_neg (SimE.p (sim_int))) (sim_lnil))))) (sim_pnil)))))))) (fun as Qd h => h.2) vs H Q E h
theorem ok_is_last_right (fx : Fx fal gsl fnl K mg)  : OkF P w K mg base 1 "is_last_right" (spA K ((wp_is_last_right) K)) := by
  have fr_range := fx.free 58 "range"
  refine okF_of (st := st_is_last_right) (N := ["log", "ahead", "last", "high", "k"]) (ps := ["log", "ahead", "last"]) (fx.fd 19 "is_last_right" st_is_last_right) (fx.glo 19 "is_last_right") sc_is_last_right (fun _ _ _ _ _ _ us hl => match us, hl with | [_, _, _], _ => rfl) (spA_len fun as Qd h => h.1) (fun fd cdv A outer s H vs Q E hg hr h => ?_)
  have hu := VL.hu_of hr
  have hu1 := L2.hu_of hr
  refine ⟨_, PSs.nox (pss_cons (ps_set (i := 3) sc_is_last_right.nd (by rfl) (by exact Or.inl rfl) (pe_or' (peBX K (pe_bmX PySem.F.plainAttrs_list PySem.F.slot_list_index PySem.F.type_list_index (mtK K rIdxL (mt_idxL hu) (by rfl)) (pv 0) (pa_cons (pe_tupN (pa_starK K (pe_slice (slK K rSlAll sl_all (by rfl)) (pe_ix (ixK K rIxAll (ix_all hu) (by rfl)) (pv 0) (pv 1) (by exact fun _ _ => rfl)) po_none (po_some (pe_int))) (pa_cons (pe_un un_neg (pe_int)) (pa_nil)) (by rfl))) (pa_nil))) (by rfl)) (peBX K (pe_bmX PySem.F.plainAttrs_tuple PySem.F.slot_tuple_index PySem.F.type_tuple_index (mtK K rIdxT (mt_idxT hu) (by rfl)) (pv 0) (pa_cons (pe_tupN (pa_starK K (pe_slice (slK K rSlAll sl_all (by rfl)) (pe_ix (ixK K rIxAll (ix_all hu) (by rfl)) (pv 0) (pv 1) (by exact fun _ _ => rfl)) po_none (po_some (pe_int))) (pa_cons (pe_un un_neg (pe_int)) (pa_nil)) (by rfl))) (pa_nil))) (by rfl)))) (pss_one (ps_ret (pe_cmpR (opK K rEqR (op_eqR hu) (by rfl)) (pe_lc (own := [("k", 4)]) (by rfl) sc_is_last_right.nd (pi_range2 (by rfl) fr_range (pa_cons (pe_op (opK K rAddAll op_addAll (by rfl)) (pv 1) (pe_int)) (pa_cons (pv 3) (pa_nil)))) (blkOk_by (N := ["log", "ahead", "last", "high", "k"]) (sc := defScope st_is_last_right) (by decide +kernel)) (fun _ _ _ _ _ => pg_name (i := 4) sc_is_last_right.nd (by rfl) (by first | exact Or.inl rfl | exact Or.inr rfl)) (fun _ _ _ _ _ => pts_one (pt_cmpR (opK K rEqR (op_eqR hu) (by rfl)) (pe_slice (slK K rSlAll sl_all (by rfl)) (pe_ix (ixK K rIxAll (ix_all hu) (by rfl)) (pv 0) (pv 4) (by exact fun _ _ => rfl)) po_none (po_some (pe_int))) (pe_slice (slK K rSlAll sl_all (by rfl)) (pe_ix (ixK K rIxAll (ix_all hu) (by rfl)) (pv 0) (pv 2) (by exact fun _ _ => rfl)) po_none (po_some (pe_int))) (nomark _))) (fun _ _ _ _ _ => pv 4)) (pe_lst (pa_cons (pv 2) (pa_nil))) (nomark _))))), ?_⟩
  exact spA_of (fun o => sims_seq (sims_set (sim_orE (sim_m sm_idxL (SimE.p (sim_var)) (sim_pcons (SimE.p (sim_tup (sim_lstar (sim_sl ss_cut (SimE.p (sim_op so_ix (SimE.p (sim_var)) (SimE.p (sim_var)))) sim_ono (sim_oyes (SimE.p (sim_int)))) (sim_lcons (sim_un su_neg (SimE.p (sim_int))) (sim_lnil))))) (sim_pnil))) (sim_m sm_idxT (SimE.p (sim_var)) (sim_pcons (SimE.p (sim_tup (sim_lstar (sim_sl ss_cut (SimE.p (sim_op so_ix (SimE.p (sim_var)) (SimE.p (sim_var)))) sim_ono (sim_oyes (SimE.p (sim_int)))) (sim_lcons (sim_un su_neg (SimE.p (sim_int))) (sim_lnil))))) (sim_pnil))))) (sims_ret (sim_op so_eq (SimE.p (SimF.e (simF_lc (SimI.p (simI_rng2 (sim_pcons (SimE.p (sim_op so_add (SimE.p (sim_var)) (SimE.p (sim_int)))) (sim_pcons (SimE.p (sim_var)) (sim_pnil))))) (simg_name (i := 4)) (sim_tst (SimE.p (sim_op so_eq (SimE.p (sim_sl ss_cut (SimE.p (sim_op so_ix (SimE.p (sim_var)) (SimE.p (sim_var)))) sim_ono (sim_oyes (SimE.p (sim_int))))) (SimE.p (sim_sl ss_cut (SimE.p (sim_op so_ix (SimE.p (sim_var)) (SimE.p (sim_var)))) sim_ono (sim_oyes (SimE.p (sim_int)))))))) (sim_var) (by decide)))) (SimE.p (SimF.e (simF_lst (sim_lcons (sim_var) (sim_lnil)))))))) (fun as Qd h => h.2) vs H Q E h
theorem ok_judge_knot (fx : Fx fal gsl fnl K mg) (G_is_number : OkF P w K mg base 1 "is_number" (spA K ((wp_is_number) K))) (G_is_first_of_pair : OkF P w K mg base 1 "is_first_of_pair" (spA K ((wp_is_first_of_pair) K))) (G_is_within : OkF P w K mg base 1 "is_within" (spA K ((wp_is_within) K))) (G_is_last_right : OkF P w K mg base 1 "is_last_right" (spA K ((wp_is_last_right) K))) (G_do_fight : OkF P w K mg base 28 "do_fight" (spA K ((wp_do_fight) K))) : OkF P w K mg base 29 "judge_knot" (spA K ((wp_judge_knot) K)) := by
  have fr_all := fx.free 59 "all"
  have fr_enumerate := fx.free 48 "enumerate"
  have fr_isinstance := fx.free 49 "isinstance"
  have fr_len := fx.free 52 "len"
  have fr_range := fx.free 58 "range"
  have fr_tuple := fx.free 56 "tuple"
  refine okF_of (st := st_judge_knot) (N := ["plans", "fights", "log", "value", "i", "k"]) (ps := ["plans", "fights", "log", "value"]) (fx.fd 20 "judge_knot" st_judge_knot) (fx.glo 20 "judge_knot") sc_judge_knot (fun _ _ _ _ _ _ us hl => match us, hl with | [_, _, _, _], _ => rfl) (spA_len fun as Qd h => h.1) (fun fd cdv A outer s H vs Q E hg hr h => ?_)
  have hu := VL.hu_of hr
  have hu1 := L2.hu_of hr
  refine ⟨_, PSs.nox (pss_cons (ps_if (PW.pt (pw_or (pt_not (pt_truK K (pe_callB (callK K (rIsa "tuple") call_isa (by rfl)) (by rfl) fr_isinstance PyProof.Rows.boot_isinstance (pa_cons (pv 3) (pa_cons (pe_bltn (v := V.ty "tuple") (by rfl) fr_tuple (by rfl) (by rfl)) pa_nil))) (by exact fun _ => rfl) (by rfl))) (pw_or (pt_cmpR op_lt (pe_callB (callK K rLenAll call_lenAll (by rfl)) (by rfl) fr_len boot_len (pa_cons (pv 3) (pa_nil))) (pe_int) (nomark _)) (pw_or1 (pt_not (pt_truK K (pe_callB (callK K (fun K => rAnyR K true) (call_allR (by rfl)) (by rfl)) (by rfl) fr_all boot_all (pa_cons (pe_lc (own := [("k", 5)]) (by rfl) sc_judge_knot.nd (pi_anyK K (pv 3) (by rfl)) (blkOk_by (N := ["plans", "fights", "log", "value", "i", "k"]) (sc := defScope st_judge_knot) (by decide +kernel)) (fun _ _ _ _ _ => pg_name (i := 5) sc_judge_knot.nd (by rfl) (by first | exact Or.inl rfl | exact Or.inr rfl)) (fun _ _ _ _ _ => pts_nil) (fun _ _ _ _ _ => pe_andK K (pe_callO G_is_number hg hr (by omega) (by rfl) (pa_cons (pv 5) (pa_nil))) (pe_one (pe_cmpR op_lt (pv 5) (pe_callB (callK K rLenAll call_lenAll (by rfl)) (by rfl) fr_len boot_len (pa_cons (pv 2) (pa_nil))) (nomark _))) (by rfl))) (pa_nil))) (by exact fun _ => rfl) (by rfl))))))) (pss_one (ps_ret (pe_tupN (pa_cons (pe_str) (pa_nil))))) (pss_nil)) (pss_cons (ps_for PassesOwn.never (by rfl) (pi_enumK K (by rfl) fr_enumerate (pa_cons (pe_slice (slK K rSlAll sl_all (by rfl)) (pv 3) po_none (po_some (pe_un un_neg (pe_int)))) (pa_nil)) (by rfl)) (pg_tupK K (n := 2) (by rfl) (pgs_cons (pg_name (i := 4) sc_judge_knot.nd (by rfl) (by first | exact Or.inl rfl | exact Or.inr rfl)) (pgs_cons (pg_name (i := 5) sc_judge_knot.nd (by rfl) (by first | exact Or.inl rfl | exact Or.inr rfl)) (pgs_nil))) (by rfl)) (pss_one (ps_if (pt_not (pt_truK K (pe_callO G_is_first_of_pair hg hr (by omega) (by rfl) (pa_cons (pv 2) (pa_cons (pv 5) (pa_nil)))) (by exact fun _ => rfl) (by rfl))) (pss_one (ps_ret (pe_tupN (pa_cons (pe_str) (pa_cons (pv 4) (pa_nil)))))) (pss_nil)))) (pss_cons (ps_for PassesOwn.never (by rfl) (pi_range2 (by rfl) fr_range (pa_cons (pe_int) (pa_cons (pe_op op_sub (pe_callB (callK K rLenAll call_lenAll (by rfl)) (by rfl) fr_len boot_len (pa_cons (pv 3) (pa_nil))) (pe_int)) (pa_nil)))) (pg_name (i := 4) sc_judge_knot.nd (by rfl) (by first | exact Or.inl rfl | exact Or.inr rfl)) (pss_one (ps_if (pt_not (pt_truK K (pe_callO G_is_within hg hr (by omega) (by rfl) (pa_cons (pv 2) (pa_cons (pe_ix (ixK K rIxAll (ix_all hu) (by rfl)) (pv 3) (pe_op op_sub (pv 4) (pe_int)) (by exact fun _ _ => rfl)) (pa_cons (pe_ix (ixK K rIxAll (ix_all hu) (by rfl)) (pv 3) (pv 4) (by exact fun _ _ => rfl)) (pa_nil))))) (by exact fun _ => rfl) (by rfl))) (pss_one (ps_ret (pe_tupN (pa_cons (pe_str) (pa_cons (pv 4) (pa_nil)))))) (pss_nil)))) (pss_cons (ps_if (pt_not (pt_truK K (pe_callO G_is_last_right hg hr (by omega) (by rfl) (pa_cons (pv 2) (pa_cons (pe_ix (ixK K rIxAll (ix_all hu) (by rfl)) (pv 3) (pe_un un_neg (pe_int)) (by exact fun _ _ => rfl)) (pa_cons (pe_ix (ixK K rIxAll (ix_all hu) (by rfl)) (pv 3) (pe_un un_neg (pe_int)) (by exact fun _ _ => rfl)) (pa_nil))))) (by exact fun _ => rfl) (by rfl))) (pss_one (ps_ret (pe_tupN (pa_cons (pe_str) (pa_nil))))) (pss_nil)) (pss_cons (ps_for PassesOwn.never (by rfl) (pi_range2 (by rfl) fr_range (pa_cons (pe_int) (pa_cons (pe_callB (callK K rLenAll call_lenAll (by rfl)) (by rfl) fr_len boot_len (pa_cons (pv 3) (pa_nil))) (pa_nil)))) (pg_name (i := 4) sc_judge_knot.nd (by rfl) (by first | exact Or.inl rfl | exact Or.inr rfl)) (pss_one (ps_if (pt_not (pt_truK K (pe_callO G_do_fight hg hr (by omega) (by rfl) (pa_cons (pv 0) (pa_cons (pv 1) (pa_cons (pe_slice (slK K rSlAll sl_all (by rfl)) (pe_ix (ixK K rIxAll (ix_all hu) (by rfl)) (pv 2) (pe_ix (ixK K rIxAll (ix_all hu) (by rfl)) (pv 3) (pe_op op_sub (pv 4) (pe_int)) (by exact fun _ _ => rfl)) (by exact fun _ _ => rfl)) po_none (po_some (pe_int))) (pa_cons (pe_slice (slK K rSlAll sl_all (by rfl)) (pe_ix (ixK K rIxAll (ix_all hu) (by rfl)) (pv 2) (pe_ix (ixK K rIxAll (ix_all hu) (by rfl)) (pv 3) (pv 4) (by exact fun _ _ => rfl)) (by exact fun _ _ => rfl)) po_none (po_some (pe_int))) (pa_nil)))))) (by exact fun _ => rfl) (by rfl))) (pss_one (ps_ret (pe_tupN (pa_cons (pe_str) (pa_cons (pv 4) (pa_nil)))))) (pss_nil)))) (pss_one (ps_ret (pe_non)))))))), ?_⟩
  exact spA_of (fun o => sims_seq (sims_if (sim_or (sim_not (sim_truK (SimE.p (sim_isa isa_tuple (SimE.p (sim_var)))))) (sim_or (sim_tst (SimE.p (sim_op (so_cmp (p := fun i j => decide (i < j))) (SimE.p (sim_b sb_len (sim_pcons (SimE.p (sim_var)) (sim_pnil)))) (SimE.p (sim_int))))) (sim_not (sim_truK (SimE.p (sim_b sb_any (sim_pcons (SimE.p (SimF.e (simF_lc (simIP_any (SimE.p (sim_var))) (simg_name (i := 5)) (sim_yes) (sim_andT (sim_callA (sim_acons (sim_var) (sim_anil))) (sim_op (so_cmp (p := fun i j => decide (i < j))) (SimE.p (sim_var)) (SimE.p (sim_b sb_len (sim_pcons (SimE.p (sim_var)) (sim_pnil)))))) (by decide)))) (sim_pnil)))))))) (sims_ret (sim_tup (sim_lcons ((sim_str (by decide +kernel))) (sim_lnil)))) (sims_next)) (sims_seq (sims_for (simI_enum (sim_lcons (sim_sl ss_cut (SimE.p (sim_var)) sim_ono (sim_oyes (SimE.p (sim_un su_neg (SimE.p (sim_int)))))) (sim_lnil))) (simg_tup (n := 2) (simgs_cons (simg_name (i := 4)) (simgs_cons (simg_name (i := 5)) (simgs_nil)))) (sims_if (sim_not (sim_truK (SimE.p (sim_callA (sim_acons (sim_var) (sim_acons (sim_var) (sim_anil))))))) (sims_ret (sim_tup (sim_lcons ((sim_str (by decide +kernel))) (sim_lcons (sim_var) (sim_lnil))))) (sims_next))) (sims_seq (sims_for (simI_rng2 (sim_pcons (SimE.p (sim_int)) (sim_pcons (SimE.p (sim_op so_sub (SimE.p (sim_b sb_len (sim_pcons (SimE.p (sim_var)) (sim_pnil)))) (SimE.p (sim_int)))) (sim_pnil)))) (simg_name (i := 4)) (sims_if (sim_not (sim_truK (SimE.p (sim_callA (sim_acons (sim_var) (sim_acons (sim_op so_ix (SimE.p (sim_var)) (SimE.p (sim_op so_sub (SimE.p (sim_var)) (SimE.p (sim_int))))) (sim_acons (sim_op so_ix (SimE.p (sim_var)) (SimE.p (sim_var))) (sim_anil)))))))) (sims_ret (sim_tup (sim_lcons ((sim_str (by decide +kernel))) (sim_lcons (sim_var) (sim_lnil))))) (sims_next))) (sims_seq (sims_if (sim_not (sim_truK (SimE.p (sim_callA (sim_acons (sim_var) (sim_acons (sim_op so_ix (SimE.p (sim_var)) (SimE.p (sim_un su_neg (SimE.p (sim_int))))) (sim_acons (sim_op so_ix (SimE.p (sim_var)) (SimE.p (sim_un su_neg (SimE.p (sim_int))))) (sim_anil)))))))) (sims_ret (sim_tup (sim_lcons ((sim_str (by decide +kernel))) (sim_lnil)))) (sims_next)) (sims_seq (sims_for (simI_rng2 (sim_pcons (SimE.p (sim_int)) (sim_pcons (SimE.p (sim_b sb_len (sim_pcons (SimE.p (sim_var)) (sim_pnil)))) (sim_pnil)))) (simg_name (i := 4)) (sims_if (sim_not (sim_truK (SimE.p (sim_callA (sim_acons (sim_var) (sim_acons (sim_var) (sim_acons (sim_sl ss_cut (SimE.p (sim_op so_ix (SimE.p (sim_var)) (SimE.p (sim_op so_ix (SimE.p (sim_var)) (SimE.p (sim_op so_sub (SimE.p (sim_var)) (SimE.p (sim_int)))))))) sim_ono (sim_oyes (SimE.p (sim_int)))) (sim_acons (sim_sl ss_cut (SimE.p (sim_op so_ix (SimE.p (sim_var)) (SimE.p (sim_op so_ix (SimE.p (sim_var)) (SimE.p (sim_var)))))) sim_ono (sim_oyes (SimE.p (sim_int)))) (sim_anil))))))))) (sims_ret (sim_tup (sim_lcons ((sim_str (by decide +kernel))) (sim_lcons (sim_var) (sim_lnil))))) (sims_next))) (sims_ret (sim_non))))))) (fun as Qd h => h.2) vs H Q E h
theorem ok__law_open_cells (fx : Fx fal gsl fnl K mg)  : OkF P w K mg base 1 "_law_open_cells" (spOpen K) := by
  have fr_abs := fx.free 60 "abs"
  have fr_int := fx.free 54 "int"
  refine okF_of (st := st__law_open_cells) (N := ["script", "stirred", "cell", "cells"]) (ps := ["script"]) (fx.fd 21 "_law_open_cells" st__law_open_cells) (fx.glo 21 "_law_open_cells") sc__law_open_cells (fun _ _ _ _ _ _ us hl => match us, hl with | [_], _ => rfl) (spOpen_len) (fun fd cdv A outer s H vs Q E hg hr h => ?_)
  have hu := VL.hu_of hr
  have hu1 := L2.hu_of hr
  refine ⟨_, PSs.nox (pss_cons (ps_set (i := 1) sc__law_open_cells.nd (by rfl) (by exact Or.inl rfl) (pe_int)) (pss_cons (ps_for PassesOwn.never (by rfl) (pi_anyK K (pv 0) (by rfl)) (pg_name (i := 2) sc__law_open_cells.nd (by rfl) (by first | exact Or.inl rfl | exact Or.inr rfl)) (pss_one (ps_set (i := 1) sc__law_open_cells.nd (by rfl) (by exact Or.inl rfl) (pe_op op_mod (pe_callTy call_intAll (by rfl) fr_int boot_int (pa_cons (pe_op (opK K rAddAll op_addAll (by rfl)) (pe_op (opK K rAddAll op_addAll (by rfl)) (pe_op (opK K rMulAll op_mulAll (by rfl)) (pv 1) (pe_int)) (pe_op (opK K rMulAll op_mulAll (by rfl)) (pv 2) (pe_int))) (pe_int)) (pa_nil))) (pe_int))))) (pss_cons (ps_setLc (i := 3) (own := [("cell", 2)]) (by rfl) sc__law_open_cells.nd (by rfl) (by rfl) (sw_true (by rfl) (by rfl) (by rfl) (by decide +kernel)) (pi_anyK K (pv 0) (by rfl)) (blkOk_by (N := ["script", "stirred", "cell", "cells"]) (sc := defScope st__law_open_cells) (by decide +kernel)) (fun _ _ _ _ _ => pg_name (i := 2) sc__law_open_cells.nd (by rfl) (by first | exact Or.inl rfl | exact Or.inr rfl)) (fun _ _ _ _ _ => pts_nil) (fun _ _ _ _ _ => pe_callB call_abs (by rfl) fr_abs boot_abs (pa_cons (pv 2) (pa_nil)))) (pss_one (ps_ret (pe_disp (pps_cons (pe_str) (pe_revK K (pv 3) (by rfl)) (pps_cons (pe_str) (pe_int) (pps_cons (pe_str) (pv 1) (pps_cons (pe_str) (pe_int) (pps_nil))))) (by rfl) (by rfl) (by simp) (by decide))))))), ?_⟩
  exact open_ok vs H Q E h
theorem okW__law_pick (fx : Fx fal gsl fnl K mg)  : OkF P w K mg base 1 "_law_pick" (spA K (wp__law_pick K)) := by
  have fr_int := fx.free 54 "int"
  have fr_len := fx.free 52 "len"
  refine okF_of (st := st__law_pick) (N := ["source", "most", "cells", "others", "lap", "stirred"]) (ps := ["source", "most"]) (fx.fd 22 "_law_pick" st__law_pick) (fx.glo 22 "_law_pick") sc__law_pick (fun _ _ _ _ _ _ us hl => match us, hl with | [_, _], _ => rfl) (spA_len fun as Qd h => h.1) (fun fd cdv A outer s H vs Q E hg hr h => ?_)
  have hu := VL.hu_of hr
  have hu1 := L2.hu_of hr
  refine ⟨_, PSs.nox (pss_cons (ps_if (pt_cmpR op_lt (pv 1) (pe_int) (nomark _)) (pss_one (ps_ret (pe_int))) (pss_nil)) (pss_cons (ps_set (i := 2) sc__law_pick.nd (by rfl) (by exact Or.inl rfl) (pe_ix (ixK K rIxAll (ix_all hu) (by rfl)) (pv 0) (pe_str) (by exact fun _ _ => rfl))) (pss_cons (ps_while PassesOwn.never (PW.pt (pw_and (pt_cmpR op_lt (pe_ix (ixK K rIxAll (ix_all hu) (by rfl)) (pv 0) (pe_str) (by exact fun _ _ => rfl)) (pe_int) (nomark _)) (pw_and1 (pt_cmpR op_gt (pe_callB (callK K rLenAll call_lenAll (by rfl)) (by rfl) fr_len boot_len (pa_cons (pv 2) (pa_nil))) (pe_int) (nomark _))))) (pss_one (ps_dput hu1 (pv 0) (pe_str) (peBM0 K (pe_bm0 PySem.F.plainAttrs_list PySem.F.slot_list_pop PySem.F.type_list_pop mt_pop (pv 2)) (by rfl)) (by rfl)))) (pss_cons (ps_set (i := 3) sc__law_pick.nd (by rfl) (by exact Or.inl rfl) (pe_ix (ixK K rIxAll (ix_all hu) (by rfl)) (pv 0) (pe_str) (by exact fun _ _ => rfl))) (pss_cons (ps_if (pt_cmpR op_gt (pv 3) (pe_int) (nomark _)) (pss_cons (ps_dput hu1 (pv 0) (pe_str) (pe_op op_fdiv (pv 3) (pv 1)) (by rfl)) (pss_one (ps_ret (pe_op op_mod (pe_callTy call_intAll (by rfl) fr_int boot_int (pa_cons (pv 3) (pa_nil))) (pv 1))))) (pss_nil)) (pss_cons (ps_dput hu1 (pv 0) (pe_str) (pe_op (opK K rAddAll op_addAll (by rfl)) (pe_ix (ixK K rIxAll (ix_all hu) (by rfl)) (pv 0) (pe_str) (by exact fun _ _ => rfl)) (pe_int)) (by rfl)) (pss_cons (ps_set (i := 4) sc__law_pick.nd (by rfl) (by exact Or.inl rfl) (pe_ix (ixK K rIxAll (ix_all hu) (by rfl)) (pv 0) (pe_str) (by exact fun _ _ => rfl))) (pss_cons (ps_set (i := 5) sc__law_pick.nd (by rfl) (by exact Or.inl rfl) (pe_op op_mod (pe_callTy call_intAll (by rfl) fr_int boot_int (pa_cons (pe_op (opK K rAddAll op_addAll (by rfl)) (pe_ix (ixK K rIxAll (ix_all hu) (by rfl)) (pv 0) (pe_str) (by exact fun _ _ => rfl)) (pe_op (opK K rMulAll op_mulAll (by rfl)) (pv 4) (pe_int))) (pa_nil))) (pe_int))) (pss_cons (ps_set (i := 5) sc__law_pick.nd (by rfl) (by exact Or.inl rfl) (pe_op op_mod (pe_callTy call_intAll (by rfl) fr_int boot_int (pa_cons (pe_op (opK K rAddAll op_addAll (by rfl)) (pe_op (opK K rMulAll op_mulAll (by rfl)) (pv 5) (pv 5)) (pe_op (opK K rMulAll op_mulAll (by rfl)) (pv 4) (pe_int))) (pa_nil))) (pe_int))) (pss_one (ps_ret (pe_op op_mod (pe_callTy call_intAll (by rfl) fr_int boot_int (pa_cons (pe_op op_fdiv (pv 5) (pe_int)) (pa_nil))) (pv 1))))))))))))), ?_⟩
  exact spA_of (fun o => sims_seq (sims_if (sim_tst (SimE.p (sim_op (so_cmp (p := fun i j => decide (i < j))) (SimE.p (sim_var)) (SimE.p (sim_int))))) (sims_ret (sim_int)) (sims_next)) (sims_fill (sims_seq (sims_set (sim_srcGet .left)) (sims_seq (sims_if (sim_tst (SimE.p (sim_op (so_cmp (p := fun i j => decide (j < i))) (SimE.p (sim_var)) (SimE.p (sim_int))))) (sims_seq (sims_srcPut .left (sim_op so_fdiv (SimE.p (sim_var)) (SimE.p (sim_var)))) (sims_ret (sim_op so_mod (SimE.p (sim_b sb_int (sim_pcons (SimE.p (sim_var)) (sim_pnil)))) (SimE.p (sim_var))))) (sims_next)) (sims_seq (sims_srcPut .turn (sim_op so_add (SimE.p (sim_srcGet .turn)) (SimE.p (sim_int)))) (sims_seq (sims_set (sim_srcGet .turn)) (sims_seq (sims_set (sim_op so_mod (SimE.p (sim_b sb_int (sim_pcons (SimE.p (sim_op so_add (SimE.p (sim_srcGet .mixed)) (SimE.p (sim_op so_mul (SimE.p (sim_var)) (SimE.p (sim_int)))))) (sim_pnil)))) (SimE.p (sim_int)))) (sims_seq (sims_set (sim_op so_mod (SimE.p (sim_b sb_int (sim_pcons (SimE.p (sim_op so_add (SimE.p (sim_op so_mul (SimE.p (sim_var)) (SimE.p (sim_var)))) (SimE.p (sim_op so_mul (SimE.p (sim_var)) (SimE.p (sim_int)))))) (sim_pnil)))) (SimE.p (sim_int)))) (sims_ret (sim_op so_mod (SimE.p (sim_b sb_int (sim_pcons (SimE.p (sim_op so_fdiv (SimE.p (sim_var)) (SimE.p (sim_int)))) (sim_pnil)))) (SimE.p (sim_var)))))))))))) (fun as Qd h => h.2) vs H Q E h
theorem ok__law_pick (fx : Fx fal gsl fnl K mg)  : OkF P w K mg base 1 "_law_pick" (spA K ((wpPick) K)) := (okW__law_pick fx ).imp (spA_imp pick_wp)
theorem ok__law_any_order (fx : Fx fal gsl fnl K mg) (G__law_pick : OkF P w K mg base 1 "_law_pick" (spA K ((wpPick) K))) : OkF P w K mg base 2 "_law_any_order" (spA K ((wpAnyOrder) K)) := by
  have fr_len := fx.free 52 "len"
  have fr_list := fx.free 61 "list"
  have fr_range := fx.free 58 "range"
  refine okF_of (st := st__law_any_order) (N := ["source", "things", "others", "lap"]) (ps := ["source", "things"]) (fx.fd 23 "_law_any_order" st__law_any_order) (fx.glo 23 "_law_any_order") sc__law_any_order (fun _ _ _ _ _ _ us hl => match us, hl with | [_, _], _ => rfl) (spA_len anyO_len) (fun fd cdv A outer s H vs Q E hg hr h => ?_)
  have hu := VL.hu_of hr
  have hu1 := L2.hu_of hr
  refine ⟨_, PSs.nox (pss_cons (ps_set (i := 2) sc__law_any_order.nd (by rfl) (by exact Or.inr rfl) (pe_callTy (callK K rListOf (call_listAll (by rfl)) (by rfl)) (by rfl) fr_list boot_list (pa_cons (pv 1) (pa_nil)))) (pss_one (ps_ret (pe_lc (own := [("lap", 3)]) (by rfl) sc__law_any_order.nd (pi_range1 (by rfl) fr_range (pa_cons (pe_callB (callK K rLenAll call_lenAll (by rfl)) (by rfl) fr_len boot_len (pa_cons (pv 2) (pa_nil))) (pa_nil))) (blkOk_by (N := ["source", "things", "others", "lap"]) (sc := defScope st__law_any_order) (by decide +kernel)) (fun _ _ _ _ _ => pg_name (i := 3) sc__law_any_order.nd (by rfl) (by first | exact Or.inl rfl | exact Or.inr rfl)) (fun _ _ _ _ _ => pts_nil) (fun _ _ _ _ _ => peBM K (pe_bm PySem.F.plainAttrs_list PySem.F.slot_list_pop PySem.F.type_list_pop mt_popAt (pv 2) (pa_cons (pe_callO G__law_pick hg hr (by omega) (by rfl) (pa_cons (pv 0) (pa_cons (pe_callB (callK K rLenAll call_lenAll (by rfl)) (by rfl) fr_len boot_len (pa_cons (pv 2) (pa_nil))) (pa_nil)))) pa_nil)) (by rfl)))))), ?_⟩
  exact spA_of (fun o => sims_anyO) anyO_wp vs H Q E h
theorem ok__law_of (fx : Fx fal gsl fnl K mg) (G__law_pick : OkF P w K mg base 1 "_law_pick" (spA K ((wpPick) K))) : OkF P w K mg base 2 "_law_of" (spA K ((wp__law_of) K)) := by
  have fr_len := fx.free 52 "len"
  refine okF_of (st := st__law_of) (N := ["source", "some"]) (ps := ["source", "some"]) (fx.fd 24 "_law_of" st__law_of) (fx.glo 24 "_law_of") sc__law_of (fun _ _ _ _ _ _ us hl => match us, hl with | [_, _], _ => rfl) (spA_len fun as Qd h => h.1) (fun fd cdv A outer s H vs Q E hg hr h => ?_)
  have hu := VL.hu_of hr
  have hu1 := L2.hu_of hr
  refine ⟨_, PSs.nox (pss_one (ps_ret (pe_ix (ixK K rIxAll (ix_all hu) (by rfl)) (pv 1) (pe_callO G__law_pick hg hr (by omega) (by rfl) (pa_cons (pv 0) (pa_cons (pe_callB (callK K rLenAll call_lenAll (by rfl)) (by rfl) fr_len boot_len (pa_cons (pv 1) (pa_nil))) (pa_nil)))) (by exact fun _ _ => rfl)))), ?_⟩
  exact spA_of (fun o => sims_ret (sim_op so_ix (SimE.p (sim_var)) (SimE.p (sim_callA (sim_asrc (sim_acons (sim_b sb_len (sim_pcons (SimE.p (sim_var)) (sim_pnil))) (sim_anil))))))) (fun as Qd h => h.2) vs H Q E h
theorem ok__law_chunks (fx : Fx fal gsl fnl K mg) (G__law_any_order : OkF P w K mg base 2 "_law_any_order" (spA K ((wpAnyOrder) K))) : OkF P w K mg base 3 "_law_chunks" (spA K ((wp__law_chunks) K)) := by
  have fr_len := fx.free 52 "len"
  have fr_list := fx.free 61 "list"
  have fr_range := fx.free 58 "range"
  have fr_sorted := fx.free 63 "sorted"
  have fr_zip := fx.free 62 "zip"
  refine okF_of (st := st__law_chunks) (N := ["source", "names", "many", "cuts", "low", "high"]) (ps := ["source", "names", "many"]) (fx.fd 25 "_law_chunks" st__law_chunks) (fx.glo 25 "_law_chunks") sc__law_chunks (fun _ _ _ _ _ _ us hl => match us, hl with | [_, _, _], _ => rfl) (spA_len fun as Qd h => h.1) (fun fd cdv A outer s H vs Q E hg hr h => ?_)
  have hu := VL.hu_of hr
  have hu1 := L2.hu_of hr
  refine ⟨_, PSs.nox (pss_cons (ps_set (i := 3) sc__law_chunks.nd (by rfl) (by exact Or.inl rfl) (pe_callB (callK K rSortD (call_sortedR hu) (by rfl)) (by rfl) fr_sorted boot_sorted (pa_cons (pe_slice (slK K rSlAll sl_all (by rfl)) (pe_callO G__law_any_order hg hr (by omega) (by rfl) (pa_cons (pv 0) (pa_cons (pe_listRg (by rfl) (by rfl) fr_list (prg_2 (by rfl) fr_range (pe_int) (pe_callB (callK K rLenAll call_lenAll (by rfl)) (by rfl) fr_len boot_len (pa_cons (pv 1) (pa_nil))))) (pa_nil)))) po_none (po_some (pe_op op_sub (pv 2) (pe_int)))) (pa_nil)))) (pss_one (ps_ret (pe_lc (own := [("low", 4), ("high", 5)]) (by rfl) sc__law_chunks.nd (pi_zipK K (by rfl) fr_zip (pa_cons (pe_op (opK K rAddAll op_addAll (by rfl)) (pe_lst (pa_cons (pe_int) (pa_nil))) (pv 3)) (pa_cons (pe_op (opK K rAddAll op_addAll (by rfl)) (pv 3) (pe_lst (pa_cons (pe_callB (callK K rLenAll call_lenAll (by rfl)) (by rfl) fr_len boot_len (pa_cons (pv 1) (pa_nil))) (pa_nil)))) (pa_nil))) (by rfl)) (blkOk_by (N := ["source", "names", "many", "cuts", "low", "high"]) (sc := defScope st__law_chunks) (by decide +kernel)) (fun _ _ _ _ _ => pg_tupK K (n := 2) (by rfl) (pgs_cons (pg_name (i := 4) sc__law_chunks.nd (by rfl) (by first | exact Or.inl rfl | exact Or.inr rfl)) (pgs_cons (pg_name (i := 5) sc__law_chunks.nd (by rfl) (by first | exact Or.inl rfl | exact Or.inr rfl)) (pgs_nil))) (by rfl)) (fun _ _ _ _ _ => pts_nil) (fun _ _ _ _ _ => pe_slice (slK K rSlAll sl_all (by rfl)) (pv 1) (po_some (pv 4)) (po_some (pv 5))))))), ?_⟩
  exact spA_of (fun o => sims_seq (sims_set (SimF.e (simF_b sbF_sorted (sim_pcons (SimE.p (sim_sl ss_cut (SimE.p (sim_callA (sim_asrc (sim_acons (SimF.e (simF_listRg (sim_rg2 (SimE.p (sim_int)) (SimE.p (sim_b sb_len (sim_pcons (SimE.p (sim_var)) (sim_pnil))))))) (sim_anil))))) sim_ono (sim_oyes (SimE.p (sim_op so_sub (SimE.p (sim_var)) (SimE.p (sim_int))))))) (sim_pnil))))) (sims_ret (SimF.e (simF_lc (simIP_zip (sim_pcons (SimE.p (sim_op so_add (SimE.p (SimF.e (simF_lst (sim_lcons (sim_int) (sim_lnil))))) (SimE.p (sim_var)))) (sim_pcons (SimE.p (sim_op so_add (SimE.p (sim_var)) (SimE.p (SimF.e (simF_lst (sim_lcons (sim_b sb_len (sim_pcons (SimE.p (sim_var)) (sim_pnil))) (sim_lnil))))))) (sim_pnil)))) (simg_tup (n := 2) (simgs_cons (simg_name (i := 4)) (simgs_cons (simg_name (i := 5)) (simgs_nil)))) (sim_yes) (sim_sl ss_cut (SimE.p (sim_var)) (sim_oyes (SimE.p (sim_var))) (sim_oyes (SimE.p (sim_var)))) (by decide))))) (fun as Qd h => h.2) vs H Q E h
theorem okS__law_any_plan (n : Nat) (fx : Fx fal gsl fnl K mg) (G__law_pick : OkF P w K mg base 1 "_law_pick" (spA K ((wpPick) K))) (G__law_of : OkF P w K mg base 2 "_law_of" (spA K ((wp__law_of) K))) (G__law_chunks : OkF P w K mg base 3 "_law_chunks" (spA K ((wp__law_chunks) K))) (G__law_any_plan : OkF P w K mg base (3 + n) "_law_any_plan" (spA K (wpR__law_any_plan K n 0))) : OkF P w K mg base (3 + n + 1) "_law_any_plan" (spA K (wpR__law_any_plan K (n + 1) 0)) := by
  have fr_len := fx.free 52 "len"
  have fr_min := fx.free 51 "min"
  have fr_tuple := fx.free 56 "tuple"
  refine okF_of (st := st__law_any_plan) (N := ["source", "names", "deep", "parts", "word", "part", "name"]) (ps := ["source", "names", "deep"]) (fx.fd 26 "_law_any_plan" st__law_any_plan) (fx.glo 26 "_law_any_plan") sc__law_any_plan (fun _ _ _ _ _ _ us hl => match us, hl with | [_, _, _], _ => rfl) (spA_len fun as Qd h => h.1) (fun fd cdv A outer s H vs Q E hg hr h => ?_)
  have hu := VL.hu_of hr
  have hu1 := L2.hu_of hr
  refine ⟨_, PSs.nox (pss_cons (ps_if (PW.pt (pw_and (pt_cmpR (opK K rEqR (op_eqR hu) (by rfl)) (pe_callB (callK K rLenAll call_lenAll (by rfl)) (by rfl) fr_len boot_len (pa_cons (pv 1) (pa_nil))) (pe_int) (nomark _)) (pw_and1 (PW.pt (pw_or (pt_cmpR (opK K rEqR (op_eqR hu) (by rfl)) (pv 2) (pe_int) (nomark _)) (pw_or1 (pt_cmpR op_gt (pe_callO G__law_pick hg hr (by omega) (by rfl) (pa_cons (pv 0) (pa_cons (pe_int) (pa_nil)))) (pe_int) (nomark _)))))))) (pss_one (ps_ret (pe_tupN (pa_cons (pe_str) (pa_cons (pe_ix (ixK K rIxAll (ix_all hu) (by rfl)) (pv 1) (pe_int) (by exact fun _ _ => rfl)) (pa_cons (pe_callO G__law_of hg hr (by omega) (by rfl) (pa_cons (pv 0) (pa_cons (pe_lst (pa_cons (pe_str) (pa_cons (pe_str) (pa_cons (pe_str) (pa_cons (pe_str) (pa_nil)))))) (pa_nil)))) (pa_nil))))))) (pss_nil)) (pss_cons (ps_if (pt_cmpR (opK K rEqR (op_eqR hu) (by rfl)) (pe_callB (callK K rLenAll call_lenAll (by rfl)) (by rfl) fr_len boot_len (pa_cons (pv 1) (pa_nil))) (pe_int) (nomark _)) (pss_one (ps_ret (pe_tupN (pa_cons (pe_callO G__law_of hg hr (by omega) (by rfl) (pa_cons (pv 0) (pa_cons (pe_lst (pa_cons (pe_str) (pa_cons (pe_str) (pa_nil)))) (pa_nil)))) (pa_cons (pe_tupN (pa_cons (pe_callO G__law_any_plan hg hr (by omega) (by rfl) (pa_cons (pv 0) (pa_cons (pv 1) (pa_cons (pe_op op_sub (pv 2) (pe_int)) (pa_nil))))) (pa_nil))) (pa_nil)))))) (pss_nil)) (pss_cons (ps_if (pt_cmpR (opK K rEqR (op_eqR hu) (by rfl)) (pv 2) (pe_int) (nomark _)) (pss_one (ps_ret (pe_tupN (pa_cons (pe_str) (pa_cons (pe_callTy (callK K rTupleOf call_tupleN (by rfl)) (by rfl) fr_tuple boot_tuple (pa_cons (pe_lc (own := [("name", 6)]) (by rfl) sc__law_any_plan.nd (pi_anyK K (pv 1) (by rfl)) (blkOk_by (N := ["source", "names", "deep", "parts", "word", "part", "name"]) (sc := defScope st__law_any_plan) (by decide +kernel)) (fun _ _ _ _ _ => pg_name (i := 6) sc__law_any_plan.nd (by rfl) (by first | exact Or.inl rfl | exact Or.inr rfl)) (fun _ _ _ _ _ => pts_nil) (fun _ _ _ _ _ => pe_callO G__law_any_plan hg hr (by omega) (by rfl) (pa_cons (pv 0) (pa_cons (pe_lst (pa_cons (pv 6) (pa_nil))) (pa_cons (pe_int) (pa_nil)))))) (pa_nil))) (pa_nil)))))) (pss_nil)) (pss_cons (ps_set (i := 3) sc__law_any_plan.nd (by rfl) (by exact Or.inl rfl) (pe_callO G__law_chunks hg hr (by omega) (by rfl) (pa_cons (pv 0) (pa_cons (pv 1) (pa_cons (pe_op (opK K rAddAll op_addAll (by rfl)) (pe_int) (pe_callO G__law_pick hg hr (by omega) (by rfl) (pa_cons (pv 0) (pa_cons (pe_callB (call_min2 (by rfl)) (by rfl) fr_min boot_min (pa_cons (pe_int) (pa_cons (pe_op op_sub (pe_callB (callK K rLenAll call_lenAll (by rfl)) (by rfl) fr_len boot_len (pa_cons (pv 1) (pa_nil))) (pe_int)) (pa_nil)))) (pa_nil))))) (pa_nil)))))) (pss_cons (ps_set (i := 4) sc__law_any_plan.nd (by rfl) (by exact Or.inl rfl) (pe_callO G__law_of hg hr (by omega) (by rfl) (pa_cons (pv 0) (pa_cons (pe_lst (pa_cons (pe_str) (pa_cons (pe_str) (pa_cons (pe_str) (pa_cons (pe_str) (pa_nil)))))) (pa_nil))))) (pss_one (ps_ret (pe_tupN (pa_cons (pv 4) (pa_cons (pe_callTy (callK K rTupleOf call_tupleN (by rfl)) (by rfl) fr_tuple boot_tuple (pa_cons (pe_lc (own := [("part", 5)]) (by rfl) sc__law_any_plan.nd (pi_anyK K (pv 3) (by rfl)) (blkOk_by (N := ["source", "names", "deep", "parts", "word", "part", "name"]) (sc := defScope st__law_any_plan) (by decide +kernel)) (fun _ _ _ _ _ => pg_name (i := 5) sc__law_any_plan.nd (by rfl) (by first | exact Or.inl rfl | exact Or.inr rfl)) (fun _ _ _ _ _ => pts_nil) (fun _ _ _ _ _ => pe_callO G__law_any_plan hg hr (by omega) (by rfl) (pa_cons (pv 0) (pa_cons (pv 5) (pa_cons (pe_op op_sub (pv 2) (pe_int)) (pa_nil)))))) (pa_nil))) (pa_nil))))))))))), ?_⟩
  exact spA_of (fun o => sims_seq (sims_if (sim_and (sim_tst (SimE.p (sim_op so_eq (SimE.p (sim_b sb_len (sim_pcons (SimE.p (sim_var)) (sim_pnil)))) (SimE.p (sim_int))))) (sim_or (sim_tst (SimE.p (sim_op so_eq (SimE.p (sim_var)) (SimE.p (sim_int))))) (sim_tst (SimE.p (sim_op (so_cmp (p := fun i j => decide (j < i))) (SimE.p (sim_callA (sim_asrc (sim_acons (sim_int) (sim_anil))))) (SimE.p (sim_int))))))) (sims_ret (sim_tup (sim_lcons ((sim_str (by decide +kernel))) (sim_lcons (sim_op so_ix (SimE.p (sim_var)) (SimE.p (sim_int))) (sim_lcons (sim_callA (sim_asrc (sim_acons (SimF.e (simF_lst (sim_lcons ((sim_str (by decide +kernel))) (sim_lcons ((sim_str (by decide +kernel))) (sim_lcons ((sim_str (by decide +kernel))) (sim_lcons ((sim_str (by decide +kernel))) (sim_lnil))))))) (sim_anil)))) (sim_lnil)))))) (sims_next)) (sims_seq (sims_if (sim_tst (SimE.p (sim_op so_eq (SimE.p (sim_b sb_len (sim_pcons (SimE.p (sim_var)) (sim_pnil)))) (SimE.p (sim_int))))) (sims_ret (sim_tup (sim_lcons (sim_callA (sim_asrc (sim_acons (SimF.e (simF_lst (sim_lcons ((sim_str (by decide +kernel))) (sim_lcons ((sim_str (by decide +kernel))) (sim_lnil))))) (sim_anil)))) (sim_lcons (sim_tup (sim_lcons (sim_callA (sim_asrc (sim_acons (sim_var) (sim_acons (sim_op so_sub (SimE.p (sim_var)) (SimE.p (sim_int))) (sim_anil))))) (sim_lnil))) (sim_lnil))))) (sims_next)) (sims_seq (sims_if (sim_tst (SimE.p (sim_op so_eq (SimE.p (sim_var)) (SimE.p (sim_int))))) (sims_ret (sim_tup (sim_lcons ((sim_str (by decide +kernel))) (sim_lcons (sim_b sb_tuple (sim_pcons (SimE.p (SimF.e (simF_lc (simIP_any (SimE.p (sim_var))) (simg_name (i := 6)) (sim_yes) (sim_callA (sim_asrc (sim_acons (SimF.e (simF_lst (sim_lcons (sim_var) (sim_lnil)))) (sim_acons (sim_int) (sim_anil))))) (by decide)))) (sim_pnil))) (sim_lnil))))) (sims_next)) (sims_seq (sims_set (sim_callA (sim_asrc (sim_acons (sim_var) (sim_acons (sim_op so_add (SimE.p (sim_int)) (SimE.p (sim_callA (sim_asrc (sim_acons (sim_b sb_min2 (sim_pcons (SimE.p (sim_int)) (sim_pcons (SimE.p (sim_op so_sub (SimE.p (sim_b sb_len (sim_pcons (SimE.p (sim_var)) (sim_pnil)))) (SimE.p (sim_int)))) (sim_pnil)))) (sim_anil)))))) (sim_anil)))))) (sims_seq (sims_set (sim_callA (sim_asrc (sim_acons (SimF.e (simF_lst (sim_lcons ((sim_str (by decide +kernel))) (sim_lcons ((sim_str (by decide +kernel))) (sim_lcons ((sim_str (by decide +kernel))) (sim_lcons ((sim_str (by decide +kernel))) (sim_lnil))))))) (sim_anil))))) (sims_ret (sim_tup (sim_lcons (sim_var) (sim_lcons (sim_b sb_tuple (sim_pcons (SimE.p (SimF.e (simF_lc (simIP_any (SimE.p (sim_var))) (simg_name (i := 5)) (sim_yes) (sim_callA (sim_asrc (sim_acons (sim_var) (sim_acons (sim_op so_sub (SimE.p (sim_var)) (SimE.p (sim_int))) (sim_anil))))) (by decide)))) (sim_pnil))) (sim_lnil)))))))))) (fun as Qd h => h.2) vs H Q E h
theorem okT_26 (fx : Fx fal gsl fnl K mg) (G__law_pick : OkF P w K mg base 1 "_law_pick" (spA K ((wpPick) K))) (G__law_of : OkF P w K mg base 2 "_law_of" (spA K ((wp__law_of) K))) (G__law_chunks : OkF P w K mg base 3 "_law_chunks" (spA K ((wp__law_chunks) K))) : ∀ n : Nat, OkF P w K mg base (3 + n) "_law_any_plan" (spA K (wpR__law_any_plan K n 0))
  | 0 => okF_never (st := st__law_any_plan) (ps := ["source", "names", "deep"]) (fx.fd 26 "_law_any_plan" st__law_any_plan) (fx.glo 26 "_law_any_plan") (fun _ _ _ _ _ _ us hl => match us, hl with | [_, _, _], _ => rfl) (spA_never fun _ _ h => h)
  | n + 1 => by
    have ih := okT_26 fx G__law_pick G__law_of G__law_chunks n
    exact okS__law_any_plan n fx G__law_pick G__law_of G__law_chunks ih
theorem ok__law_draw_lot (fx : Fx fal gsl fnl K mg) (G__law_any_order : OkF P w K mg base 2 "_law_any_order" (spA K ((wpAnyOrder) K))) (G__law_pick : OkF P w K mg base 1 "_law_pick" (spA K ((wpPick) K))) (G__law_any_plan : OkF P w K mg base 27 "_law_any_plan" (spA K ((fun K => wpR__law_any_plan K 24 0) K))) : OkF P w K mg base 28 "_law_draw_lot" (spA K ((wp__law_draw_lot) K)) := by
  have fr_range := fx.free 58 "range"
  have fr_tuple := fx.free 56 "tuple"
  refine okF_of (st := st__law_draw_lot) (N := ["source", "runs", "most", "found", "r", "names"]) (ps := ["source", "runs", "most"]) (fx.fd 27 "_law_draw_lot" st__law_draw_lot) (fx.glo 27 "_law_draw_lot") sc__law_draw_lot (fun _ _ _ _ _ _ us hl => match us, hl with | [_, _, _], _ => rfl) (spA_len fun as Qd h => h.1) (fun fd cdv A outer s H vs Q E hg hr h => ?_)
  have hu := VL.hu_of hr
  have hu1 := L2.hu_of hr
  refine ⟨_, PSs.nox (pss_cons (ps_set (i := 3) sc__law_draw_lot.nd (by rfl) (by exact Or.inl rfl) (pe_lst (pa_nil))) (pss_cons (ps_for PassesOwn.never (by rfl) (pi_range1 (by rfl) fr_range (pa_cons (pv 1) (pa_nil))) (pg_name (i := 4) sc__law_draw_lot.nd (by rfl) (by first | exact Or.inl rfl | exact Or.inr rfl)) (pss_cons (ps_set (i := 5) sc__law_draw_lot.nd (by rfl) (by exact Or.inl rfl) (pe_slice (slK K rSlAll sl_all (by rfl)) (pe_callO G__law_any_order hg hr (by omega) (by rfl) (pa_cons (pv 0) (pa_cons (pe_lst (pa_cons (pe_str) (pa_cons (pe_str) (pa_cons (pe_str) (pa_cons (pe_str) (pa_cons (pe_str) (pa_cons (pe_str) (pa_nil)))))))) (pa_nil)))) po_none (po_some (pe_op (opK K rAddAll op_addAll (by rfl)) (pe_int) (pe_callO G__law_pick hg hr (by omega) (by rfl) (pa_cons (pv 0) (pa_cons (pv 2) (pa_nil)))))))) (pss_one (ps_expr (pe_bm PySem.F.plainAttrs_list PySem.F.slot_list_append PySem.F.type_list_append mt_append (pv 3) (pa_cons (pe_callO G__law_any_plan hg hr (by omega) (by rfl) (pa_cons (pv 0) (pa_cons (pv 5) (pa_cons (pe_int) (pa_nil))))) pa_nil)))))) (pss_one (ps_ret (pe_callTy (callK K rTupleOf call_tupleN (by rfl)) (by rfl) fr_tuple boot_tuple (pa_cons (pv 3) (pa_nil))))))), ?_⟩
  exact spA_of (fun o => sims_seq (sims_setO (simF_lst (sim_lnil))) (sims_seq (sims_for (simI_rng1 (sim_pcons (SimE.p (sim_var)) (sim_pnil))) (simg_name (i := 4)) (sims_seq (sims_set (sim_sl ss_cut (SimE.p (sim_callA (sim_asrc (sim_acons (SimF.e (simF_lst (sim_lcons ((sim_str (by decide +kernel))) (sim_lcons ((sim_str (by decide +kernel))) (sim_lcons ((sim_str (by decide +kernel))) (sim_lcons ((sim_str (by decide +kernel))) (sim_lcons ((sim_str (by decide +kernel))) (sim_lcons ((sim_str (by decide +kernel))) (sim_lnil))))))))) (sim_anil))))) sim_ono (sim_oyes (SimE.p (sim_op so_add (SimE.p (sim_int)) (SimE.p (sim_callA (sim_asrc (sim_acons (sim_var) (sim_anil)))))))))) (sims_app (sim_callA (sim_asrc (sim_acons (sim_var) (sim_acons (sim_int) (sim_anil)))))))) (sims_ret (sim_b sb_tuple (sim_pcons (sim_varP) (sim_pnil)))))) (fun as Qd h => h.2) vs H Q E h
theorem okS__law_names (n : Nat) (fx : Fx fal gsl fnl K mg)  (G__law_names : OkF P w K mg base (0 + n) "_law_names" (spA K (wpR__law_names K n 0))) : OkF P w K mg base (0 + n + 1) "_law_names" (spA K (wpR__law_names K (n + 1) 0)) := by
  refine okF_of (st := st__law_names) (N := ["plan", "found", "member"]) (ps := ["plan"]) (fx.fd 28 "_law_names" st__law_names) (fx.glo 28 "_law_names") sc__law_names (fun _ _ _ _ _ _ us hl => match us, hl with | [_], _ => rfl) (spA_len fun as Qd h => h.1) (fun fd cdv A outer s H vs Q E hg hr h => ?_)
  have hu := VL.hu_of hr
  have hu1 := L2.hu_of hr
  refine ⟨_, PSs.nox (pss_cons (ps_if (pt_cmpR (opK K rEqR (op_eqR hu) (by rfl)) (pe_ix (ixK K rIxAll (ix_all hu) (by rfl)) (pv 0) (pe_int) (by exact fun _ _ => rfl)) (pe_str) (nomark _)) (pss_one (ps_ret (pe_lst (pa_cons (pe_ix (ixK K rIxAll (ix_all hu) (by rfl)) (pv 0) (pe_int) (by exact fun _ _ => rfl)) (pa_nil))))) (pss_nil)) (pss_cons (ps_set (i := 1) sc__law_names.nd (by rfl) (by exact Or.inl rfl) (pe_lst (pa_nil))) (pss_cons (ps_for PassesOwn.never (by rfl) (pi_anyK K (pe_ix (ixK K rIxAll (ix_all hu) (by rfl)) (pv 0) (pe_int) (by exact fun _ _ => rfl)) (by rfl)) (pg_name (i := 2) sc__law_names.nd (by rfl) (by first | exact Or.inl rfl | exact Or.inr rfl)) (pss_one (ps_set (i := 1) sc__law_names.nd (by rfl) (by exact Or.inl rfl) (pe_op (opK K rAddAll op_addAll (by rfl)) (pv 1) (pe_callO G__law_names hg hr (by omega) (by rfl) (pa_cons (pv 2) (pa_nil))))))) (pss_one (ps_ret (pv 1)))))), ?_⟩
  exact spA_of (fun o => sims_seq (sims_if (sim_tst (SimE.p (sim_op so_eq (SimE.p (sim_op so_ix (SimE.p (sim_var)) (SimE.p (sim_int)))) (SimE.p ((sim_str (by decide +kernel))))))) (sims_ret (SimF.e (simF_lst (sim_lcons (sim_op so_ix (SimE.p (sim_var)) (SimE.p (sim_int))) (sim_lnil))))) (sims_next)) (sims_seq (sims_set (SimF.e (simF_lst (sim_lnil)))) (sims_seq (sims_for (simI_any (sim_op so_ix (SimE.p (sim_var)) (SimE.p (sim_int)))) (simg_name (i := 2)) (sims_set (sim_op so_add (SimE.p (sim_var)) (SimE.p (sim_callA (sim_acons (sim_var) (sim_anil))))))) (sims_ret (sim_var))))) (fun as Qd h => h.2) vs H Q E h
theorem okT_28 (fx : Fx fal gsl fnl K mg)  : ∀ n : Nat, OkF P w K mg base (0 + n) "_law_names" (spA K (wpR__law_names K n 0))
  | 0 => okF_never (st := st__law_names) (ps := ["plan"]) (fx.fd 28 "_law_names" st__law_names) (fx.glo 28 "_law_names") (fun _ _ _ _ _ _ us hl => match us, hl with | [_], _ => rfl) (spA_never fun _ _ h => h)
  | n + 1 => by
    have ih := okT_28 fx  n
    exact okS__law_names n fx  ih
theorem ok__law_deeds (fx : Fx fal gsl fnl K mg) (G__law_names : OkF P w K mg base 24 "_law_names" (spA K ((fun K => wpR__law_names K 24 0) K))) : OkF P w K mg base 25 "_law_deeds" (spA K ((wp__law_deeds) K)) := by
  have fr_enumerate := fx.free 48 "enumerate"
  refine okF_of (st := st__law_deeds) (N := ["lot", "found", "r", "plan", "name"]) (ps := ["lot"]) (fx.fd 29 "_law_deeds" st__law_deeds) (fx.glo 29 "_law_deeds") sc__law_deeds (fun _ _ _ _ _ _ us hl => match us, hl with | [_], _ => rfl) (spA_len fun as Qd h => h.1) (fun fd cdv A outer s H vs Q E hg hr h => ?_)
  have hu := VL.hu_of hr
  have hu1 := L2.hu_of hr
  refine ⟨_, PSs.nox (pss_cons (ps_set (i := 1) sc__law_deeds.nd (by rfl) (by exact Or.inl rfl) (pe_lst (pa_nil))) (pss_cons (ps_for PassesOwn.never (by rfl) (pi_enumK K (by rfl) fr_enumerate (pa_cons (pv 0) (pa_nil)) (by rfl)) (pg_tupK K (n := 2) (by rfl) (pgs_cons (pg_name (i := 2) sc__law_deeds.nd (by rfl) (by first | exact Or.inl rfl | exact Or.inr rfl)) (pgs_cons (pg_name (i := 3) sc__law_deeds.nd (by rfl) (by first | exact Or.inl rfl | exact Or.inr rfl)) (pgs_nil))) (by rfl)) (pss_one (ps_set (i := 1) sc__law_deeds.nd (by rfl) (by exact Or.inl rfl) (pe_op (opK K rAddAll op_addAll (by rfl)) (pv 1) (pe_lc (own := [("name", 4)]) (by rfl) sc__law_deeds.nd (pi_anyK K (pe_callO G__law_names hg hr (by omega) (by rfl) (pa_cons (pv 3) (pa_nil))) (by rfl)) (blkOk_by (N := ["lot", "found", "r", "plan", "name"]) (sc := defScope st__law_deeds) (by decide +kernel)) (fun _ _ _ _ _ => pg_name (i := 4) sc__law_deeds.nd (by rfl) (by first | exact Or.inl rfl | exact Or.inr rfl)) (fun _ _ _ _ _ => pts_nil) (fun _ _ _ _ _ => pe_tupN (pa_cons (pv 2) (pa_cons (pv 4) (pa_nil))))))))) (pss_one (ps_ret (pv 1))))), ?_⟩
  exact spA_of (fun o => sims_seq (sims_set (SimF.e (simF_lst (sim_lnil)))) (sims_seq (sims_for (simI_enum (sim_lcons (sim_var) (sim_lnil))) (simg_tup (n := 2) (simgs_cons (simg_name (i := 2)) (simgs_cons (simg_name (i := 3)) (simgs_nil)))) (sims_set (sim_op so_add (SimE.p (sim_var)) (SimE.p (SimF.e (simF_lc (simIP_any (SimE.p (sim_callA (sim_acons (sim_var) (sim_anil))))) (simg_name (i := 4)) (sim_yes) (sim_tup (sim_lcons (sim_var) (sim_lcons (sim_var) (sim_lnil)))) (by decide))))))) (sims_ret (sim_var)))) (fun as Qd h => h.2) vs H Q E h
theorem okS__law_down (n : Nat) (fx : Fx fal gsl fnl K mg) (G__law_names : OkF P w K mg base 24 "_law_names" (spA K ((fun K => wpR__law_names K 24 0) K))) (G__law_down : OkF P w K mg base (24 + n) "_law_down" (spA K (wpR__law_down K n 0))) : OkF P w K mg base (24 + n + 1) "_law_down" (spA K (wpR__law_down K (n + 1) 0)) := by
  have fr_enumerate := fx.free 48 "enumerate"
  refine okF_of (st := st__law_down) (N := ["plan", "name", "k", "member"]) (ps := ["plan", "name"]) (fx.fd 30 "_law_down" st__law_down) (fx.glo 30 "_law_down") sc__law_down (fun _ _ _ _ _ _ us hl => match us, hl with | [_, _], _ => rfl) (spA_len fun as Qd h => h.1) (fun fd cdv A outer s H vs Q E hg hr h => ?_)
  have hu := VL.hu_of hr
  have hu1 := L2.hu_of hr
  refine ⟨_, PSs.nox (pss_cons (ps_if (pt_cmpR (opK K rEqR (op_eqR hu) (by rfl)) (pe_ix (ixK K rIxAll (ix_all hu) (by rfl)) (pv 0) (pe_int) (by exact fun _ _ => rfl)) (pe_str) (nomark _)) (pss_one (ps_ret (pe_lst (pa_nil)))) (pss_nil)) (pss_cons (ps_for PassesOwn.never (by rfl) (pi_enumK K (by rfl) fr_enumerate (pa_cons (pe_ix (ixK K rIxAll (ix_all hu) (by rfl)) (pv 0) (pe_int) (by exact fun _ _ => rfl)) (pa_nil)) (by rfl)) (pg_tupK K (n := 2) (by rfl) (pgs_cons (pg_name (i := 2) sc__law_down.nd (by rfl) (by first | exact Or.inl rfl | exact Or.inr rfl)) (pgs_cons (pg_name (i := 3) sc__law_down.nd (by rfl) (by first | exact Or.inl rfl | exact Or.inr rfl)) (pgs_nil))) (by rfl)) (pss_one (ps_if (pt_cmpR (opK K (fun K => rInAll K false) (op_inAll hu) (by rfl)) (pv 1) (pe_callO G__law_names hg hr (by omega) (by rfl) (pa_cons (pv 3) (pa_nil))) (by rfl)) (pss_one (ps_ret (pe_op (opK K rAddAll op_addAll (by rfl)) (pe_lst (pa_cons (pe_tupN (pa_cons (pe_ix (ixK K rIxAll (ix_all hu) (by rfl)) (pv 0) (pe_int) (by exact fun _ _ => rfl)) (pa_cons (pv 2) (pa_nil)))) (pa_nil))) (pe_callO G__law_down hg hr (by omega) (by rfl) (pa_cons (pv 3) (pa_cons (pv 1) (pa_nil))))))) (pss_nil)))) (pss_one (ps_ret (pe_lst (pa_nil)))))), ?_⟩
  exact spA_of (fun o => sims_seq (sims_if (sim_tst (SimE.p (sim_op so_eq (SimE.p (sim_op so_ix (SimE.p (sim_var)) (SimE.p (sim_int)))) (SimE.p ((sim_str (by decide +kernel))))))) (sims_ret (SimF.e (simF_lst (sim_lnil)))) (sims_next)) (sims_seq (sims_for (simI_enum (sim_lcons (sim_op so_ix (SimE.p (sim_var)) (SimE.p (sim_int))) (sim_lnil))) (simg_tup (n := 2) (simgs_cons (simg_name (i := 2)) (simgs_cons (simg_name (i := 3)) (simgs_nil)))) (sims_if (sim_tst (SimE.p (sim_op (so_in (neg := false)) (SimE.p (sim_var)) (SimE.p (sim_callA (sim_acons (sim_var) (sim_anil))))))) (sims_ret (sim_op so_add (SimE.p (SimF.e (simF_lst (sim_lcons (sim_tup (sim_lcons (sim_op so_ix (SimE.p (sim_var)) (SimE.p (sim_int))) (sim_lcons (sim_var) (sim_lnil)))) (sim_lnil))))) (SimE.p (sim_callA (sim_acons (sim_var) (sim_acons (sim_var) (sim_anil))))))) (sims_next))) (sims_ret (SimF.e (simF_lst (sim_lnil)))))) (fun as Qd h => h.2) vs H Q E h
theorem okT_30 (fx : Fx fal gsl fnl K mg) (G__law_names : OkF P w K mg base 24 "_law_names" (spA K ((fun K => wpR__law_names K 24 0) K))) : ∀ n : Nat, OkF P w K mg base (24 + n) "_law_down" (spA K (wpR__law_down K n 0))
  | 0 => okF_never (st := st__law_down) (ps := ["plan", "name"]) (fx.fd 30 "_law_down" st__law_down) (fx.glo 30 "_law_down") (fun _ _ _ _ _ _ us hl => match us, hl with | [_, _], _ => rfl) (spA_never fun _ _ h => h)
  | n + 1 => by
    have ih := okT_30 fx G__law_names n
    exact okS__law_down n fx G__law_names ih
theorem ok__law_are_rowed (fx : Fx fal gsl fnl K mg) (G__law_down : OkF P w K mg base 48 "_law_down" (spA K ((fun K => wpR__law_down K 24 0) K))) : OkF P w K mg base 49 "_law_are_rowed" (spA K ((wp__law_are_rowed) K)) := by
  have fr_zip := fx.free 62 "zip"
  refine okF_of (st := st__law_are_rowed) (N := ["plan", "one", "other", "word", "k", "late", "j"]) (ps := ["plan", "one", "other"]) (fx.fd 31 "_law_are_rowed" st__law_are_rowed) (fx.glo 31 "_law_are_rowed") sc__law_are_rowed (fun _ _ _ _ _ _ us hl => match us, hl with | [_, _, _], _ => rfl) (spA_len fun as Qd h => h.1) (fun fd cdv A outer s H vs Q E hg hr h => ?_)
  have hu := VL.hu_of hr
  have hu1 := L2.hu_of hr
  refine ⟨_, PSs.nox (pss_cons (ps_for PassesOwn.never (by rfl) (pi_zipK K (by rfl) fr_zip (pa_cons (pe_callO G__law_down hg hr (by omega) (by rfl) (pa_cons (pv 0) (pa_cons (pv 1) (pa_nil)))) (pa_cons (pe_callO G__law_down hg hr (by omega) (by rfl) (pa_cons (pv 0) (pa_cons (pv 2) (pa_nil)))) (pa_nil))) (by rfl)) (pg_tupK K (n := 2) (by rfl) (pgs_cons (pg_tupK K (n := 2) (by rfl) (pgs_cons (pg_name (i := 3) sc__law_are_rowed.nd (by rfl) (by first | exact Or.inl rfl | exact Or.inr rfl)) (pgs_cons (pg_name (i := 4) sc__law_are_rowed.nd (by rfl) (by first | exact Or.inl rfl | exact Or.inr rfl)) (pgs_nil))) (by rfl)) (pgs_cons (pg_tupK K (n := 2) (by rfl) (pgs_cons (pg_name (i := 5) sc__law_are_rowed.nd (by rfl) (by first | exact Or.inl rfl | exact Or.inr rfl)) (pgs_cons (pg_name (i := 6) sc__law_are_rowed.nd (by rfl) (by first | exact Or.inl rfl | exact Or.inr rfl)) (pgs_nil))) (by rfl)) (pgs_nil))) (by rfl)) (pss_one (ps_if (pt_cmpR (opK K rNeR (op_neR hu) (by rfl)) (pv 4) (pv 6) (nomark _)) (pss_one (ps_ret (pe_cmpR (opK K rEqR (op_eqR hu) (by rfl)) (pv 3) (pe_str) (nomark _)))) (pss_nil)))) (pss_one (ps_ret (pe_bl)))), ?_⟩
  exact spA_of (fun o => sims_seq (sims_for (simI_zip (sim_lcons (sim_callA (sim_acons (sim_var) (sim_acons (sim_var) (sim_anil)))) (sim_lcons (sim_callA (sim_acons (sim_var) (sim_acons (sim_var) (sim_anil)))) (sim_lnil)))) (simg_tup (n := 2) (simgs_cons (simg_tup (n := 2) (simgs_cons (simg_name (i := 3)) (simgs_cons (simg_name (i := 4)) (simgs_nil)))) (simgs_cons (simg_tup (n := 2) (simgs_cons (simg_name (i := 5)) (simgs_cons (simg_name (i := 6)) (simgs_nil)))) (simgs_nil)))) (sims_if (sim_tst (SimE.p (sim_op so_ne (SimE.p (sim_var)) (SimE.p (sim_var))))) (sims_ret (sim_op so_eq (SimE.p (sim_var)) (SimE.p ((sim_str (by decide +kernel)))))) (sims_next))) (sims_ret (sim_bl))) (fun as Qd h => h.2) vs H Q E h
theorem ok__law_fight (fx : Fx fal gsl fnl K mg) (G__law_are_rowed : OkF P w K mg base 49 "_law_are_rowed" (spA K ((wp__law_are_rowed) K))) : OkF P w K mg base 50 "_law_fight" (spA K ((wp__law_fight) K)) := by
  refine okF_of (st := st__law_fight) (N := ["lot", "fights", "one", "other"]) (ps := ["lot", "fights", "one", "other"]) (fx.fd 32 "_law_fight" st__law_fight) (fx.glo 32 "_law_fight") sc__law_fight (fun _ _ _ _ _ _ us hl => match us, hl with | [_, _, _, _], _ => rfl) (spA_len fun as Qd h => h.1) (fun fd cdv A outer s H vs Q E hg hr h => ?_)
  have hu := VL.hu_of hr
  have hu1 := L2.hu_of hr
  refine ⟨_, PSs.nox (pss_cons (ps_if (pt_cmpR (opK K rNeR (op_neR hu) (by rfl)) (pe_ix (ixK K rIxAll (ix_all hu) (by rfl)) (pv 2) (pe_int) (by exact fun _ _ => rfl)) (pe_ix (ixK K rIxAll (ix_all hu) (by rfl)) (pv 3) (pe_int) (by exact fun _ _ => rfl)) (nomark _)) (pss_one (ps_ret (pe_orK K (pe_cmpR (opK K (fun K => rInAll K false) (op_inAll hu) (by rfl)) (pe_tupN (pa_cons (pv 2) (pa_cons (pv 3) (pa_nil)))) (pv 1) (by rfl)) (pe_one (pe_cmpR (opK K (fun K => rInAll K false) (op_inAll hu) (by rfl)) (pe_tupN (pa_cons (pv 3) (pa_cons (pv 2) (pa_nil)))) (pv 1) (by rfl))) (by rfl)))) (pss_nil)) (pss_one (ps_ret (pe_andK K (pe_cmpR (opK K rNeR (op_neR hu) (by rfl)) (pv 2) (pv 3) (nomark _)) (pe_one (pe_callO G__law_are_rowed hg hr (by omega) (by rfl) (pa_cons (pe_ix (ixK K rIxAll (ix_all hu) (by rfl)) (pv 0) (pe_ix (ixK K rIxAll (ix_all hu) (by rfl)) (pv 2) (pe_int) (by exact fun _ _ => rfl)) (by exact fun _ _ => rfl)) (pa_cons (pe_ix (ixK K rIxAll (ix_all hu) (by rfl)) (pv 2) (pe_int) (by exact fun _ _ => rfl)) (pa_cons (pe_ix (ixK K rIxAll (ix_all hu) (by rfl)) (pv 3) (pe_int) (by exact fun _ _ => rfl)) (pa_nil)))))) (by rfl))))), ?_⟩
  exact spA_of (fun o => sims_seq (sims_if (sim_tst (SimE.p (sim_op so_ne (SimE.p (sim_op so_ix (SimE.p (sim_var)) (SimE.p (sim_int)))) (SimE.p (sim_op so_ix (SimE.p (sim_var)) (SimE.p (sim_int))))))) (sims_ret (sim_orT (sim_op (so_in (neg := false)) (SimE.p (sim_tup (sim_lcons (sim_var) (sim_lcons (sim_var) (sim_lnil))))) (SimE.p (sim_var))) (sim_op (so_in (neg := false)) (SimE.p (sim_tup (sim_lcons (sim_var) (sim_lcons (sim_var) (sim_lnil))))) (SimE.p (sim_var))))) (sims_next)) (sims_ret (sim_andT (sim_op so_ne (SimE.p (sim_var)) (SimE.p (sim_var))) (sim_callA (sim_acons (sim_op so_ix (SimE.p (sim_var)) (SimE.p (sim_op so_ix (SimE.p (sim_var)) (SimE.p (sim_int))))) (sim_acons (sim_op so_ix (SimE.p (sim_var)) (SimE.p (sim_int))) (sim_acons (sim_op so_ix (SimE.p (sim_var)) (SimE.p (sim_int))) (sim_anil)))))))) (fun as Qd h => h.2) vs H Q E h
theorem ok__law_draw_fights (fx : Fx fal gsl fnl K mg) (G__law_deeds : OkF P w K mg base 25 "_law_deeds" (spA K ((wp__law_deeds) K))) (G__law_pick : OkF P w K mg base 1 "_law_pick" (spA K ((wpPick) K))) : OkF P w K mg base 26 "_law_draw_fights" (spA K ((wp__law_draw_fights) K)) := by
  have fr_enumerate := fx.free 48 "enumerate"
  have fr_sorted := fx.free 63 "sorted"
  have fr_tuple := fx.free 56 "tuple"
  refine okF_of (st := st__law_draw_fights) (N := ["source", "lot", "share", "found", "deeds", "k", "one", "other"]) (ps := ["source", "lot", "share"]) (fx.fd 33 "_law_draw_fights" st__law_draw_fights) (fx.glo 33 "_law_draw_fights") sc__law_draw_fights (fun _ _ _ _ _ _ us hl => match us, hl with | [_, _, _], _ => rfl) (spA_len fun as Qd h => h.1) (fun fd cdv A outer s H vs Q E hg hr h => ?_)
  have hu := VL.hu_of hr
  have hu1 := L2.hu_of hr
  refine ⟨_, PSs.nox (pss_cons (ps_par (i := 3) (j := 4) (by rfl) sc__law_draw_fights.nd (by rfl) (by rfl) (by decide) (by rfl) (by rfl) (pa_cons (pe_lst (pa_nil)) (pa_cons (pe_callB (callK K rSortD (call_sortedR hu) (by rfl)) (by rfl) fr_sorted boot_sorted (pa_cons (pe_callO G__law_deeds hg hr (by omega) (by rfl) (pa_cons (pv 1) (pa_nil))) (pa_nil))) (pa_nil))) (by rfl)) (pss_cons (ps_for PassesOwn.never (by rfl) (pi_enumK K (by rfl) fr_enumerate (pa_cons (pv 4) (pa_nil)) (by rfl)) (pg_tupK K (n := 2) (by rfl) (pgs_cons (pg_name (i := 5) sc__law_draw_fights.nd (by rfl) (by first | exact Or.inl rfl | exact Or.inr rfl)) (pgs_cons (pg_name (i := 6) sc__law_draw_fights.nd (by rfl) (by first | exact Or.inl rfl | exact Or.inr rfl)) (pgs_nil))) (by rfl)) (pss_one (ps_set (i := 3) sc__law_draw_fights.nd (by rfl) (by exact Or.inl rfl) (pe_op (opK K rAddAll op_addAll (by rfl)) (pv 3) (pe_lc (own := [("other", 7)]) (by rfl) sc__law_draw_fights.nd (pi_anyK K (pe_slice (slK K rSlAll sl_all (by rfl)) (pv 4) (po_some (pe_op (opK K rAddAll op_addAll (by rfl)) (pv 5) (pe_int))) po_none) (by rfl)) (blkOk_by (N := ["source", "lot", "share", "found", "deeds", "k", "one", "other"]) (sc := defScope st__law_draw_fights) (by decide +kernel)) (fun _ _ _ _ _ => pg_name (i := 7) sc__law_draw_fights.nd (by rfl) (by first | exact Or.inl rfl | exact Or.inr rfl)) (fun _ _ _ _ _ => pts_one (PW.pt (pw_and (pt_cmpR op_gt (pe_ix (ixK K rIxAll (ix_all hu) (by rfl)) (pv 7) (pe_int) (by exact fun _ _ => rfl)) (pe_ix (ixK K rIxAll (ix_all hu) (by rfl)) (pv 6) (pe_int) (by exact fun _ _ => rfl)) (nomark _)) (pw_and1 (pt_cmpR (opK K rEqR (op_eqR hu) (by rfl)) (pe_callO G__law_pick hg hr (by omega) (by rfl) (pa_cons (pv 0) (pa_cons (pv 2) (pa_nil)))) (pe_int) (nomark _)))))) (fun _ _ _ _ _ => pe_tupN (pa_cons (pv 6) (pa_cons (pv 7) (pa_nil))))))))) (pss_one (ps_ret (pe_callTy (callK K rTupleOf call_tupleN (by rfl)) (by rfl) fr_tuple boot_tuple (pa_cons (pv 3) (pa_nil))))))), ?_⟩
  exact spA_of (fun o => sims_seq (sims_par (SimF.e (simF_lst (sim_lnil))) (SimF.e (simF_b sbF_sorted (sim_pcons (SimE.p (sim_callA (sim_acons (sim_var) (sim_anil)))) (sim_pnil))))) (sims_seq (sims_for (simI_enum (sim_lcons (sim_var) (sim_lnil))) (simg_tup (n := 2) (simgs_cons (simg_name (i := 5)) (simgs_cons (simg_name (i := 6)) (simgs_nil)))) (sims_set (sim_op so_add (SimE.p (sim_var)) (SimE.p (SimF.e (simF_lc (simIP_any (SimE.p (sim_sl ss_cut (SimE.p (sim_var)) (sim_oyes (SimE.p (sim_op so_add (SimE.p (sim_var)) (SimE.p (sim_int))))) sim_ono))) (simg_name (i := 7)) (sim_and (sim_tst (SimE.p (sim_op (so_cmp (p := fun i j => decide (j < i))) (SimE.p (sim_op so_ix (SimE.p (sim_var)) (SimE.p (sim_int)))) (SimE.p (sim_op so_ix (SimE.p (sim_var)) (SimE.p (sim_int))))))) (sim_tst (SimE.p (sim_op so_eq (SimE.p (sim_callA (sim_asrc (sim_acons (sim_var) (sim_anil))))) (SimE.p (sim_int)))))) (sim_tup (sim_lcons (sim_var) (sim_lcons (sim_var) (sim_lnil)))) (by decide))))))) (sims_ret (sim_b sb_tuple (sim_pcons (SimE.p (sim_var)) (sim_pnil)))))) (fun as Qd h => h.2) vs H Q E h
theorem ok__law_draw_log (fx : Fx fal gsl fnl K mg) (G__law_deeds : OkF P w K mg base 25 "_law_deeds" (spA K ((wp__law_deeds) K))) (G__law_of : OkF P w K mg base 2 "_law_of" (spA K ((wp__law_of) K))) : OkF P w K mg base 26 "_law_draw_log" (spA K ((wp__law_draw_log) K)) := by
  have fr_range := fx.free 58 "range"
  have fr_tuple := fx.free 56 "tuple"
  refine okF_of (st := st__law_draw_log) (N := ["source", "lot", "many", "found", "deeds", "lap", "deed"]) (ps := ["source", "lot", "many"]) (fx.fd 34 "_law_draw_log" st__law_draw_log) (fx.glo 34 "_law_draw_log") sc__law_draw_log (fun _ _ _ _ _ _ us hl => match us, hl with | [_, _, _], _ => rfl) (spA_len fun as Qd h => h.1) (fun fd cdv A outer s H vs Q E hg hr h => ?_)
  have hu := VL.hu_of hr
  have hu1 := L2.hu_of hr
  refine ⟨_, PSs.nox (pss_cons (ps_par (i := 3) (j := 4) (by rfl) sc__law_draw_log.nd (by rfl) (by rfl) (by decide) (by rfl) (by rfl) (pa_cons (pe_lst (pa_nil)) (pa_cons (pe_callO G__law_deeds hg hr (by omega) (by rfl) (pa_cons (pv 1) (pa_nil))) (pa_nil))) (by rfl)) (pss_cons (ps_for PassesOwn.never (by rfl) (pi_range1 (by rfl) fr_range (pa_cons (pv 2) (pa_nil))) (pg_name (i := 5) sc__law_draw_log.nd (by rfl) (by first | exact Or.inl rfl | exact Or.inr rfl)) (pss_cons (ps_set (i := 6) sc__law_draw_log.nd (by rfl) (by exact Or.inl rfl) (pe_callO G__law_of hg hr (by omega) (by rfl) (pa_cons (pv 0) (pa_cons (pv 4) (pa_nil))))) (pss_one (ps_if (pt_cmpR (opK K (fun K => rInAll K true) (op_notInAll hu) (by rfl)) (pe_op (opK K rAddAll op_addAll (by rfl)) (pv 6) (pe_tupN (pa_cons (pe_int) (pa_nil)))) (pv 3) (by rfl)) (pss_one (ps_expr (pe_bm PySem.F.plainAttrs_list PySem.F.slot_list_append PySem.F.type_list_append mt_append (pv 3) (pa_cons (pe_op (opK K rAddAll op_addAll (by rfl)) (pv 6) (pe_tupN (pa_cons (pe_int) (pa_nil)))) pa_nil)))) (pss_one (ps_if (pt_cmpR (opK K (fun K => rInAll K true) (op_notInAll hu) (by rfl)) (pe_op (opK K rAddAll op_addAll (by rfl)) (pv 6) (pe_tupN (pa_cons (pe_op op_sub (pe_int) (pe_int)) (pa_nil)))) (pv 3) (by rfl)) (pss_one (ps_expr (pe_bm PySem.F.plainAttrs_list PySem.F.slot_list_append PySem.F.type_list_append mt_append (pv 3) (pa_cons (pe_op (opK K rAddAll op_addAll (by rfl)) (pv 6) (pe_tupN (pa_cons (pe_op op_sub (pe_int) (pe_int)) (pa_nil)))) pa_nil)))) (pss_nil))))))) (pss_one (ps_ret (pe_callTy (callK K rTupleOf call_tupleN (by rfl)) (by rfl) fr_tuple boot_tuple (pa_cons (pv 3) (pa_nil))))))), ?_⟩
  exact spA_of (fun o => sims_seq (sims_parFE (simF_lst (sim_lnil)) (sim_callA (sim_acons (sim_var) (sim_anil)))) (sims_seq (sims_for (simI_rng1 (sim_pcons (SimE.p (sim_var)) (sim_pnil))) (simg_name (i := 5)) (sims_seq (sims_set (sim_callA (sim_asrc (sim_acons (sim_var) (sim_anil))))) (sims_if (sim_tst (SimE.p (sim_op (so_in (neg := true)) (SimE.p (sim_op so_add (SimE.p (sim_var)) (SimE.p (sim_tup (sim_lcons (sim_int) (sim_lnil)))))) (sim_varP)))) (sims_app (sim_op so_add (SimE.p (sim_var)) (SimE.p (sim_tup (sim_lcons (sim_int) (sim_lnil)))))) (sims_if (sim_tst (SimE.p (sim_op (so_in (neg := true)) (SimE.p (sim_op so_add (SimE.p (sim_var)) (SimE.p (sim_tup (sim_lcons (sim_op so_sub (SimE.p (sim_int)) (SimE.p (sim_int))) (sim_lnil)))))) (sim_varP)))) (sims_app (sim_op so_add (SimE.p (sim_var)) (SimE.p (sim_tup (sim_lcons (sim_op so_sub (SimE.p (sim_int)) (SimE.p (sim_int))) (sim_lnil)))))) (sims_next))))) (sims_ret (sim_b sb_tuple (sim_pcons (sim_varP) (sim_pnil)))))) (fun as Qd h => h.2) vs H Q E h
theorem ok__law_undoing (fx : Fx fal gsl fnl K mg)  : OkF P w K mg base 1 "_law_undoing" (spA K ((wp__law_undoing) K)) := by
  refine okF_of (st := st__law_undoing) (N := ["log", "k"]) (ps := ["log", "k"]) (fx.fd 35 "_law_undoing" st__law_undoing) (fx.glo 35 "_law_undoing") sc__law_undoing (fun _ _ _ _ _ _ us hl => match us, hl with | [_, _], _ => rfl) (spA_len fun as Qd h => h.1) (fun fd cdv A outer s H vs Q E hg hr h => ?_)
  have hu := VL.hu_of hr
  have hu1 := L2.hu_of hr
  refine ⟨_, PSs.nox (pss_one (ps_ret (pe_ifExp (pt_cmpR (opK K (fun K => rInAll K false) (op_inAll hu) (by rfl)) (pe_op (opK K rAddAll op_addAll (by rfl)) (pe_slice (slK K rSlAll sl_all (by rfl)) (pe_ix (ixK K rIxAll (ix_all hu) (by rfl)) (pv 0) (pv 1) (by exact fun _ _ => rfl)) po_none (po_some (pe_int))) (pe_tupN (pa_cons (pe_op op_sub (pe_int) (pe_int)) (pa_nil)))) (pv 0) (by rfl)) (pe_or' (peBX K (pe_bmX PySem.F.plainAttrs_list PySem.F.slot_list_index PySem.F.type_list_index (mtK K rIdxL (mt_idxL hu) (by rfl)) (pv 0) (pa_cons (pe_op (opK K rAddAll op_addAll (by rfl)) (pe_slice (slK K rSlAll sl_all (by rfl)) (pe_ix (ixK K rIxAll (ix_all hu) (by rfl)) (pv 0) (pv 1) (by exact fun _ _ => rfl)) po_none (po_some (pe_int))) (pe_tupN (pa_cons (pe_op op_sub (pe_int) (pe_int)) (pa_nil)))) (pa_nil))) (by rfl)) (peBX K (pe_bmX PySem.F.plainAttrs_tuple PySem.F.slot_tuple_index PySem.F.type_tuple_index (mtK K rIdxT (mt_idxT hu) (by rfl)) (pv 0) (pa_cons (pe_op (opK K rAddAll op_addAll (by rfl)) (pe_slice (slK K rSlAll sl_all (by rfl)) (pe_ix (ixK K rIxAll (ix_all hu) (by rfl)) (pv 0) (pv 1) (by exact fun _ _ => rfl)) po_none (po_some (pe_int))) (pe_tupN (pa_cons (pe_op op_sub (pe_int) (pe_int)) (pa_nil)))) (pa_nil))) (by rfl))) (pe_non)))), ?_⟩
  exact spA_of (fun o => sims_ret (sim_ifE (sim_tst (SimE.p (sim_op (so_in (neg := false)) (SimE.p (sim_op so_add (SimE.p (sim_sl ss_cut (SimE.p (sim_op so_ix (SimE.p (sim_var)) (SimE.p (sim_var)))) sim_ono (sim_oyes (SimE.p (sim_int))))) (SimE.p (sim_tup (sim_lcons (sim_op so_sub (SimE.p (sim_int)) (SimE.p (sim_int))) (sim_lnil)))))) (SimE.p (sim_var))))) (sim_orE (sim_m sm_idxL (SimE.p (sim_var)) (sim_pcons (SimE.p (sim_op so_add (SimE.p (sim_sl ss_cut (SimE.p (sim_op so_ix (SimE.p (sim_var)) (SimE.p (sim_var)))) sim_ono (sim_oyes (SimE.p (sim_int))))) (SimE.p (sim_tup (sim_lcons (sim_op so_sub (SimE.p (sim_int)) (SimE.p (sim_int))) (sim_lnil)))))) (sim_pnil))) (sim_m sm_idxT (SimE.p (sim_var)) (sim_pcons (SimE.p (sim_op so_add (SimE.p (sim_sl ss_cut (SimE.p (sim_op so_ix (SimE.p (sim_var)) (SimE.p (sim_var)))) sim_ono (sim_oyes (SimE.p (sim_int))))) (SimE.p (sim_tup (sim_lcons (sim_op so_sub (SimE.p (sim_int)) (SimE.p (sim_int))) (sim_lnil)))))) (sim_pnil)))) (sim_non))) (fun as Qd h => h.2) vs H Q E h
theorem ok__law_rest (fx : Fx fal gsl fnl K mg) (G__law_undoing : OkF P w K mg base 1 "_law_undoing" (spA K ((wp__law_undoing) K))) (G__law_fight : OkF P w K mg base 50 "_law_fight" (spA K ((wp__law_fight) K))) : OkF P w K mg base 51 "_law_rest" (spA K ((wp__law_rest) K)) := by
  have fr_any := fx.free 57 "any"
  have fr_len := fx.free 52 "len"
  have fr_list := fx.free 61 "list"
  have fr_range := fx.free 58 "range"
  refine okF_of (st := st__law_rest) (N := ["lot", "fights", "log", "left", "k", "i", "j", "between", "late"]) (ps := ["lot", "fights", "log"]) (fx.fd 36 "_law_rest" st__law_rest) (fx.glo 36 "_law_rest") sc__law_rest (fun _ _ _ _ _ _ us hl => match us, hl with | [_, _, _], _ => rfl) (spA_len fun as Qd h => h.1) (fun fd cdv A outer s H vs Q E hg hr h => ?_)
  have hu := VL.hu_of hr
  have hu1 := L2.hu_of hr
  refine ⟨_, PSs.nox (pss_cons (ps_par (i := 3) (j := 4) (by rfl) sc__law_rest.nd (by rfl) (by rfl) (by decide) (by rfl) (by rfl) (pa_cons (pe_listRg (by rfl) (by rfl) fr_list (prg_1 (by rfl) fr_range (pe_callB (callK K rLenAll call_lenAll (by rfl)) (by rfl) fr_len boot_len (pa_cons (pv 2) (pa_nil))))) (pa_cons (pe_int) (pa_nil))) (by rfl)) (pss_cons (ps_while PassesOwn.never (pt_cmpR op_lt (pv 4) (pe_callB (callK K rLenAll call_lenAll (by rfl)) (by rfl) fr_len boot_len (pa_cons (pv 3) (pa_nil))) (nomark _)) (pss_cons (ps_set (i := 5) sc__law_rest.nd (by rfl) (by exact Or.inr rfl) (pe_ix (ixK K rIxAll (ix_all hu) (by rfl)) (pv 3) (pv 4) (by exact fun _ _ => rfl))) (pss_cons (ps_set (i := 6) sc__law_rest.nd (by rfl) (by exact Or.inr rfl) (pe_ifExp (pt_cmpR (opK K rEqR (op_eqR hu) (by rfl)) (pe_ix (ixK K rIxAll (ix_all hu) (by rfl)) (pe_ix (ixK K rIxAll (ix_all hu) (by rfl)) (pv 2) (pv 5) (by exact fun _ _ => rfl)) (pe_int) (by exact fun _ _ => rfl)) (pe_int) (nomark _)) (pe_callO G__law_undoing hg hr (by omega) (by rfl) (pa_cons (pv 2) (pa_cons (pv 5) (pa_nil)))) (pe_non))) (pss_cons (ps_setLc (i := 7) (own := [("late", 8)]) (by rfl) sc__law_rest.nd (by rfl) (by rfl) (sw_true (by rfl) (by rfl) (by rfl) (by decide +kernel)) (pi_anyK K (pv 3) (by rfl)) (blkOk_by (N := ["lot", "fights", "log", "left", "k", "i", "j", "between", "late"]) (sc := defScope st__law_rest) (by decide +kernel)) (fun _ _ _ _ _ => pg_name (i := 8) sc__law_rest.nd (by rfl) (by first | exact Or.inl rfl | exact Or.inr rfl)) (fun _ _ _ _ _ => pts_one (PW.pt (pw_and (pt_cmpR op_isnot (pv 6) (pe_non) (nomark _)) (pw_and1 (pt_chain op_lt op_lt (pv 5) (pv 8) (pv 6)))))) (fun _ _ _ _ _ => pv 8)) (pss_one (ps_if (PW.pt (pw_and (pt_cmpR op_isnot (pv 6) (pe_non) (nomark _)) (pw_and1 (pt_not (pt_truK K (pe_callB (callK K (fun K => rAnyR K false) (call_anyR (by rfl)) (by rfl)) (by rfl) fr_any boot_any (pa_cons (pe_lc (own := [("late", 8)]) (by rfl) sc__law_rest.nd (pi_anyK K (pv 7) (by rfl)) (blkOk_by (N := ["lot", "fights", "log", "left", "k", "i", "j", "between", "late"]) (sc := defScope st__law_rest) (by decide +kernel)) (fun _ _ _ _ _ => pg_name (i := 8) sc__law_rest.nd (by rfl) (by first | exact Or.inl rfl | exact Or.inr rfl)) (fun _ _ _ _ _ => pts_nil) (fun _ _ _ _ _ => pe_callO G__law_fight hg hr (by omega) (by rfl) (pa_cons (pv 0) (pa_cons (pv 1) (pa_cons (pe_slice (slK K rSlAll sl_all (by rfl)) (pe_ix (ixK K rIxAll (ix_all hu) (by rfl)) (pv 2) (pv 5) (by exact fun _ _ => rfl)) po_none (po_some (pe_int))) (pa_cons (pe_slice (slK K rSlAll sl_all (by rfl)) (pe_ix (ixK K rIxAll (ix_all hu) (by rfl)) (pv 2) (pv 8) (by exact fun _ _ => rfl)) po_none (po_some (pe_int))) (pa_nil))))))) (pa_nil))) (by exact fun _ => rfl) (by rfl)))))) (pss_one (ps_par (i := 3) (j := 4) (by rfl) sc__law_rest.nd (by rfl) (by rfl) (by decide) (by rfl) (by rfl) (pa_cons (pe_lc (own := [("late", 8)]) (by rfl) sc__law_rest.nd (pi_anyK K (pv 3) (by rfl)) (blkOk_by (N := ["lot", "fights", "log", "left", "k", "i", "j", "between", "late"]) (sc := defScope st__law_rest) (by decide +kernel)) (fun _ _ _ _ _ => pg_name (i := 8) sc__law_rest.nd (by rfl) (by first | exact Or.inl rfl | exact Or.inr rfl)) (fun _ _ _ _ _ => pts_one (pt_cmpR (opK K (fun K => rInAll K true) (op_notInAll hu) (by rfl)) (pv 8) (pe_tupN (pa_cons (pv 5) (pa_cons (pv 6) (pa_nil)))) (by rfl))) (fun _ _ _ _ _ => pv 8)) (pa_cons (pe_int) (pa_nil))) (by rfl))) (pss_one (ps_set (i := 4) sc__law_rest.nd (by rfl) (by exact Or.inl rfl) (pe_op (opK K rAddAll op_addAll (by rfl)) (pv 4) (pe_int)))))))))) (pss_one (ps_ret (pv 3))))), ?_⟩
  exact spA_of (fun o => sims_seq (sims_par (SimF.e (simF_listRg (sim_rg1 (SimE.p (sim_b sb_len (sim_pcons (SimE.p (sim_var)) (sim_pnil))))))) (sim_int)) (sims_seq (sims_while (sim_tst (SimE.p (sim_op (so_cmp (p := fun i j => decide (i < j))) (SimE.p (sim_var)) (SimE.p (sim_b sb_len (sim_pcons (SimE.p (sim_var)) (sim_pnil))))))) (sims_seq (sims_set (sim_op so_ix (SimE.p (sim_var)) (SimE.p (sim_var)))) (sims_seq (sims_set (sim_ifE (sim_tst (SimE.p (sim_op so_eq (SimE.p (sim_op so_ix (SimE.p (sim_op so_ix (SimE.p (sim_var)) (SimE.p (sim_var)))) (SimE.p (sim_int)))) (SimE.p (sim_int))))) (sim_callA (sim_acons (sim_var) (sim_acons (sim_var) (sim_anil)))) (sim_non))) (sims_seq (sims_set (SimF.e (simF_lc (simIP_any (SimE.p (sim_var))) (simg_name (i := 8)) (sim_and (sim_tst (SimE.p (sim_op (so_is (neg := true)) (SimE.p (sim_var)) (SimE.p (sim_non))))) (sim_tst (SimE.p (sim_chain (so_cmp (p := fun i j => decide (i < j))) (so_cmp (p := fun i j => decide (i < j))) (SimE.p (sim_var)) (SimE.p (sim_var)) (SimE.p (sim_var)))))) (sim_var) (by decide)))) (sims_if (sim_and (sim_tst (SimE.p (sim_op (so_is (neg := true)) (SimE.p (sim_var)) (SimE.p (sim_non))))) (sim_not (sim_truK (SimE.p (sim_b sb_any (sim_pcons (SimE.p (SimF.e (simF_lc (simIP_any (SimE.p (sim_var))) (simg_name (i := 8)) (sim_yes) (sim_callA (sim_acons (sim_var) (sim_acons (sim_var) (sim_acons (sim_sl ss_cut (SimE.p (sim_op so_ix (SimE.p (sim_var)) (SimE.p (sim_var)))) sim_ono (sim_oyes (SimE.p (sim_int)))) (sim_acons (sim_sl ss_cut (SimE.p (sim_op so_ix (SimE.p (sim_var)) (SimE.p (sim_var)))) sim_ono (sim_oyes (SimE.p (sim_int)))) (sim_anil)))))) (by decide)))) (sim_pnil))))))) (sims_par (SimF.e (simF_lc (simIP_any (SimE.p (sim_var))) (simg_name (i := 8)) (sim_tst (SimE.p (sim_op (so_in (neg := true)) (SimE.p (sim_var)) (SimE.p (sim_tup (sim_lcons (sim_var) (sim_lcons (sim_var) (sim_lnil)))))))) (sim_var) (by decide))) (sim_int)) (sims_set (sim_op so_add (SimE.p (sim_var)) (SimE.p (sim_int))))))))) (sims_ret (sim_var)))) (fun as Qd h => h.2) vs H Q E h
theorem ok__law_stand (fx : Fx fal gsl fnl K mg) (G__law_undoing : OkF P w K mg base 1 "_law_undoing" (spA K ((wp__law_undoing) K))) : OkF P w K mg base 2 "_law_stand" (spA K ((wp__law_stand) K)) := by
  have fr_enumerate := fx.free 48 "enumerate"
  refine okF_of (st := st__law_stand) (N := ["log", "k", "entry"]) (ps := ["log"]) (fx.fd 37 "_law_stand" st__law_stand) (fx.glo 37 "_law_stand") sc__law_stand (fun _ _ _ _ _ _ us hl => match us, hl with | [_], _ => rfl) (spA_len fun as Qd h => h.1) (fun fd cdv A outer s H vs Q E hg hr h => ?_)
  have hu := VL.hu_of hr
  have hu1 := L2.hu_of hr
  refine ⟨_, PSs.nox (pss_one (ps_ret (pe_lc (own := [("k", 1), ("entry", 2)]) (by rfl) sc__law_stand.nd (pi_enumK K (by rfl) fr_enumerate (pa_cons (pv 0) (pa_nil)) (by rfl)) (blkOk_by (N := ["log", "k", "entry"]) (sc := defScope st__law_stand) (by decide +kernel)) (fun _ _ _ _ _ => pg_tupK K (n := 2) (by rfl) (pgs_cons (pg_name (i := 1) sc__law_stand.nd (by rfl) (by first | exact Or.inl rfl | exact Or.inr rfl)) (pgs_cons (pg_name (i := 2) sc__law_stand.nd (by rfl) (by first | exact Or.inl rfl | exact Or.inr rfl)) (pgs_nil))) (by rfl)) (fun _ _ _ _ _ => pts_one (PW.pt (pw_and (pt_cmpR (opK K rEqR (op_eqR hu) (by rfl)) (pe_ix (ixK K rIxAll (ix_all hu) (by rfl)) (pv 2) (pe_int) (by exact fun _ _ => rfl)) (pe_int) (nomark _)) (pw_and1 (pt_cmpR op_is (pe_callO G__law_undoing hg hr (by omega) (by rfl) (pa_cons (pv 0) (pa_cons (pv 1) (pa_nil)))) (pe_non) (nomark _)))))) (fun _ _ _ _ _ => pv 1)))), ?_⟩
  exact spA_of (fun o => sims_ret (SimF.e (simF_lc (simIP_enum (sim_pcons (SimE.p (sim_var)) (sim_pnil))) (simg_tup (n := 2) (simgs_cons (simg_name (i := 1)) (simgs_cons (simg_name (i := 2)) (simgs_nil)))) (sim_and (sim_tst (SimE.p (sim_op so_eq (SimE.p (sim_op so_ix (SimE.p (sim_var)) (SimE.p (sim_int)))) (SimE.p (sim_int))))) (sim_tst (SimE.p (sim_op (so_is (neg := false)) (SimE.p (sim_callA (sim_acons (sim_var) (sim_acons (sim_var) (sim_anil))))) (SimE.p (sim_non)))))) (sim_var) (by decide)))) (fun as Qd h => h.2) vs H Q E h
theorem ok__law_is_number (fx : Fx fal gsl fnl K mg)  : OkF P w K mg base 1 "_law_is_number" (spA K ((wp__law_is_number) K)) := by
  have fr_bool := fx.free 53 "bool"
  have fr_int := fx.free 54 "int"
  have fr_isinstance := fx.free 49 "isinstance"
  refine okF_of (st := st__law_is_number) (N := ["value"]) (ps := ["value"]) (fx.fd 38 "_law_is_number" st__law_is_number) (fx.glo 38 "_law_is_number") sc__law_is_number (fun _ _ _ _ _ _ us hl => match us, hl with | [_], _ => rfl) (spA_len fun as Qd h => h.1) (fun fd cdv A outer s H vs Q E hg hr h => ?_)
  have hu := VL.hu_of hr
  have hu1 := L2.hu_of hr
  refine ⟨_, PSs.nox (pss_one (ps_ret (pe_andK K (pe_callB (callK K (rIsa "int") call_isa (by rfl)) (by rfl) fr_isinstance PyProof.Rows.boot_isinstance (pa_cons (pv 0) (pa_cons (pe_bltn (v := V.ty "int") (by rfl) fr_int (by rfl) (by rfl)) pa_nil))) (pe_andK K (pe_notK K (pe_callB (callK K (rIsa "bool") call_isa (by rfl)) (by rfl) fr_isinstance PyProof.Rows.boot_isinstance (pa_cons (pv 0) (pa_cons (pe_bltn (v := V.ty "bool") (by rfl) fr_bool (by rfl) (by rfl)) pa_nil))) (by rfl)) (pe_one (pe_cmpR op_ge (pv 0) (pe_int) (nomark _))) (by rfl)) (by rfl)))), ?_⟩
  exact spA_of (fun o => sims_ret (sim_andT (sim_isa isa_int (SimE.p (sim_var))) (sim_andT (sim_notT (SimE.p (sim_isa isa_bool (SimE.p (sim_var))))) (sim_op (so_cmp (p := fun i j => decide (j ≤ i))) (SimE.p (sim_var)) (SimE.p (sim_int)))))) (fun as Qd h => h.2) vs H Q E h
theorem ok__law_are_numbers (fx : Fx fal gsl fnl K mg) (G__law_is_number : OkF P w K mg base 1 "_law_is_number" (spA K ((wp__law_is_number) K))) : OkF P w K mg base 2 "_law_are_numbers" (spA K ((wp__law_are_numbers) K)) := by
  have fr_all := fx.free 59 "all"
  have fr_isinstance := fx.free 49 "isinstance"
  have fr_tuple := fx.free 56 "tuple"
  refine okF_of (st := st__law_are_numbers) (N := ["value", "most", "k"]) (ps := ["value", "most"]) (fx.fd 39 "_law_are_numbers" st__law_are_numbers) (fx.glo 39 "_law_are_numbers") sc__law_are_numbers (fun _ _ _ _ _ _ us hl => match us, hl with | [_, _], _ => rfl) (spA_len fun as Qd h => h.1) (fun fd cdv A outer s H vs Q E hg hr h => ?_)
  have hu := VL.hu_of hr
  have hu1 := L2.hu_of hr
  refine ⟨_, PSs.nox (pss_one (ps_ret (pe_andK K (pe_callB (callK K (rIsa "tuple") call_isa (by rfl)) (by rfl) fr_isinstance PyProof.Rows.boot_isinstance (pa_cons (pv 0) (pa_cons (pe_bltn (v := V.ty "tuple") (by rfl) fr_tuple (by rfl) (by rfl)) pa_nil))) (pe_one (pe_callB (callK K (fun K => rAnyR K true) (call_allR (by rfl)) (by rfl)) (by rfl) fr_all boot_all (pa_cons (pe_lc (own := [("k", 2)]) (by rfl) sc__law_are_numbers.nd (pi_anyK K (pv 0) (by rfl)) (blkOk_by (N := ["value", "most", "k"]) (sc := defScope st__law_are_numbers) (by decide +kernel)) (fun _ _ _ _ _ => pg_name (i := 2) sc__law_are_numbers.nd (by rfl) (by first | exact Or.inl rfl | exact Or.inr rfl)) (fun _ _ _ _ _ => pts_nil) (fun _ _ _ _ _ => pe_andK K (pe_callO G__law_is_number hg hr (by omega) (by rfl) (pa_cons (pv 2) (pa_nil))) (pe_one (pe_cmpR op_lt (pv 2) (pv 1) (nomark _))) (by rfl))) (pa_nil)))) (by rfl)))), ?_⟩
  exact spA_of (fun o => sims_ret (sim_andT (sim_isa isa_tuple (SimE.p (sim_var))) (sim_b sb_any (sim_pcons (SimE.p (SimF.e (simF_lc (simIP_any (SimE.p (sim_var))) (simg_name (i := 2)) (sim_yes) (sim_andT (sim_callA (sim_acons (sim_var) (sim_anil))) (sim_op (so_cmp (p := fun i j => decide (i < j))) (SimE.p (sim_var)) (SimE.p (sim_var)))) (by decide)))) (sim_pnil))))) (fun as Qd h => h.2) vs H Q E h
theorem ok__law_knot_fault (fx : Fx fal gsl fnl K mg) (G__law_are_numbers : OkF P w K mg base 2 "_law_are_numbers" (spA K ((wp__law_are_numbers) K))) (G__law_undoing : OkF P w K mg base 1 "_law_undoing" (spA K ((wp__law_undoing) K))) (G__law_fight : OkF P w K mg base 50 "_law_fight" (spA K ((wp__law_fight) K))) : OkF P w K mg base 51 "_law_knot_fault" (spA K ((wp__law_knot_fault) K)) := by
  have fr_enumerate := fx.free 48 "enumerate"
  have fr_len := fx.free 52 "len"
  have fr_range := fx.free 58 "range"
  refine okF_of (st := st__law_knot_fault) (N := ["lot", "fights", "log", "value", "i", "k", "low", "high", "last"]) (ps := ["lot", "fights", "log", "value"]) (fx.fd 40 "_law_knot_fault" st__law_knot_fault) (fx.glo 40 "_law_knot_fault") sc__law_knot_fault (fun _ _ _ _ _ _ us hl => match us, hl with | [_, _, _, _], _ => rfl) (spA_len fun as Qd h => h.1) (fun fd cdv A outer s H vs Q E hg hr h => ?_)
  have hu := VL.hu_of hr
  have hu1 := L2.hu_of hr
  refine ⟨_, PSs.nox (pss_cons (ps_if (PW.pt (pw_or (pt_not (pt_truK K (pe_callO G__law_are_numbers hg hr (by omega) (by rfl) (pa_cons (pv 3) (pa_cons (pe_callB (callK K rLenAll call_lenAll (by rfl)) (by rfl) fr_len boot_len (pa_cons (pv 2) (pa_nil))) (pa_nil)))) (by exact fun _ => rfl) (by rfl))) (pw_or1 (pt_cmpR op_lt (pe_callB (callK K rLenAll call_lenAll (by rfl)) (by rfl) fr_len boot_len (pa_cons (pv 3) (pa_nil))) (pe_int) (nomark _))))) (pss_one (ps_ret (pe_tupN (pa_cons (pe_str) (pa_nil))))) (pss_nil)) (pss_cons (ps_for PassesOwn.never (by rfl) (pi_enumK K (by rfl) fr_enumerate (pa_cons (pe_slice (slK K rSlAll sl_all (by rfl)) (pv 3) po_none (po_some (pe_un un_neg (pe_int)))) (pa_nil)) (by rfl)) (pg_tupK K (n := 2) (by rfl) (pgs_cons (pg_name (i := 4) sc__law_knot_fault.nd (by rfl) (by first | exact Or.inl rfl | exact Or.inr rfl)) (pgs_cons (pg_name (i := 5) sc__law_knot_fault.nd (by rfl) (by first | exact Or.inl rfl | exact Or.inr rfl)) (pgs_nil))) (by rfl)) (pss_one (ps_if (PW.pt (pw_or (pt_cmpR (opK K rNeR (op_neR hu) (by rfl)) (pe_ix (ixK K rIxAll (ix_all hu) (by rfl)) (pe_ix (ixK K rIxAll (ix_all hu) (by rfl)) (pv 2) (pv 5) (by exact fun _ _ => rfl)) (pe_int) (by exact fun _ _ => rfl)) (pe_int) (nomark _)) (pw_or1 (pt_cmpR op_is (pe_callO G__law_undoing hg hr (by omega) (by rfl) (pa_cons (pv 2) (pa_cons (pv 5) (pa_nil)))) (pe_non) (nomark _))))) (pss_one (ps_ret (pe_tupN (pa_cons (pe_str) (pa_cons (pv 4) (pa_nil)))))) (pss_nil)))) (pss_cons (ps_for PassesOwn.never (by rfl) (pi_range2 (by rfl) fr_range (pa_cons (pe_int) (pa_cons (pe_op op_sub (pe_callB (callK K rLenAll call_lenAll (by rfl)) (by rfl) fr_len boot_len (pa_cons (pv 3) (pa_nil))) (pe_int)) (pa_nil)))) (pg_name (i := 4) sc__law_knot_fault.nd (by rfl) (by first | exact Or.inl rfl | exact Or.inr rfl)) (pss_one (ps_if (PW.pt (pw_or (pt_not (pt_cmpR op_lt (pe_ix (ixK K rIxAll (ix_all hu) (by rfl)) (pv 3) (pe_op op_sub (pv 4) (pe_int)) (by exact fun _ _ => rfl)) (pe_ix (ixK K rIxAll (ix_all hu) (by rfl)) (pv 3) (pv 4) (by exact fun _ _ => rfl)) (nomark _))) (pw_or1 (pt_not (pt_cmpR op_lt (pe_callO G__law_undoing hg hr (by omega) (by rfl) (pa_cons (pv 2) (pa_cons (pe_ix (ixK K rIxAll (ix_all hu) (by rfl)) (pv 3) (pv 4) (by exact fun _ _ => rfl)) (pa_nil)))) (pe_callO G__law_undoing hg hr (by omega) (by rfl) (pa_cons (pv 2) (pa_cons (pe_ix (ixK K rIxAll (ix_all hu) (by rfl)) (pv 3) (pe_op op_sub (pv 4) (pe_int)) (by exact fun _ _ => rfl)) (pa_nil)))) (nomark _)))))) (pss_one (ps_ret (pe_tupN (pa_cons (pe_str) (pa_cons (pv 4) (pa_nil)))))) (pss_nil)))) (pss_cons (ps_asg (pe_tupN (pa_cons (pe_ix (ixK K rIxAll (ix_all hu) (by rfl)) (pv 3) (pe_un un_neg (pe_int)) (by exact fun _ _ => rfl)) (pa_cons (pe_callO G__law_undoing hg hr (by omega) (by rfl) (pa_cons (pv 2) (pa_cons (pe_ix (ixK K rIxAll (ix_all hu) (by rfl)) (pv 3) (pe_un un_neg (pe_int)) (by exact fun _ _ => rfl)) (pa_nil)))) (pa_cons (pe_ix (ixK K rIxAll (ix_all hu) (by rfl)) (pv 3) (pe_un un_neg (pe_int)) (by exact fun _ _ => rfl)) (pa_nil))))) (pg_tupK K (n := 3) (by rfl) (pgs_cons (pg_name (i := 6) sc__law_knot_fault.nd (by rfl) (by first | exact Or.inl rfl | exact Or.inr rfl)) (pgs_cons (pg_name (i := 7) sc__law_knot_fault.nd (by rfl) (by first | exact Or.inl rfl | exact Or.inr rfl)) (pgs_cons (pg_name (i := 8) sc__law_knot_fault.nd (by rfl) (by first | exact Or.inl rfl | exact Or.inr rfl)) (pgs_nil)))) (by rfl))) (pss_cons (ps_if (PW.pt (pw_or (pt_not (pt_chain op_lt op_lt (pv 6) (pv 8) (pv 7))) (pw_or1 (pt_cmpR (opK K rNeR (op_neR hu) (by rfl)) (pe_lc (own := [("k", 5)]) (by rfl) sc__law_knot_fault.nd (pi_range2 (by rfl) fr_range (pa_cons (pe_op (opK K rAddAll op_addAll (by rfl)) (pv 6) (pe_int)) (pa_cons (pv 7) (pa_nil)))) (blkOk_by (N := ["lot", "fights", "log", "value", "i", "k", "low", "high", "last"]) (sc := defScope st__law_knot_fault) (by decide +kernel)) (fun _ _ _ _ _ => pg_name (i := 5) sc__law_knot_fault.nd (by rfl) (by first | exact Or.inl rfl | exact Or.inr rfl)) (fun _ _ _ _ _ => pts_one (pt_cmpR (opK K rEqR (op_eqR hu) (by rfl)) (pe_slice (slK K rSlAll sl_all (by rfl)) (pe_ix (ixK K rIxAll (ix_all hu) (by rfl)) (pv 2) (pv 5) (by exact fun _ _ => rfl)) po_none (po_some (pe_int))) (pe_slice (slK K rSlAll sl_all (by rfl)) (pe_ix (ixK K rIxAll (ix_all hu) (by rfl)) (pv 2) (pv 8) (by exact fun _ _ => rfl)) po_none (po_some (pe_int))) (nomark _))) (fun _ _ _ _ _ => pv 5)) (pe_lst (pa_cons (pv 8) (pa_nil))) (nomark _))))) (pss_one (ps_ret (pe_tupN (pa_cons (pe_str) (pa_nil))))) (pss_nil)) (pss_cons (ps_for PassesOwn.never (by rfl) (pi_range2 (by rfl) fr_range (pa_cons (pe_int) (pa_cons (pe_callB (callK K rLenAll call_lenAll (by rfl)) (by rfl) fr_len boot_len (pa_cons (pv 3) (pa_nil))) (pa_nil)))) (pg_name (i := 4) sc__law_knot_fault.nd (by rfl) (by first | exact Or.inl rfl | exact Or.inr rfl)) (pss_one (ps_if (pt_not (pt_truK K (pe_callO G__law_fight hg hr (by omega) (by rfl) (pa_cons (pv 0) (pa_cons (pv 1) (pa_cons (pe_slice (slK K rSlAll sl_all (by rfl)) (pe_ix (ixK K rIxAll (ix_all hu) (by rfl)) (pv 2) (pe_ix (ixK K rIxAll (ix_all hu) (by rfl)) (pv 3) (pv 4) (by exact fun _ _ => rfl)) (by exact fun _ _ => rfl)) po_none (po_some (pe_int))) (pa_cons (pe_slice (slK K rSlAll sl_all (by rfl)) (pe_ix (ixK K rIxAll (ix_all hu) (by rfl)) (pv 2) (pe_ix (ixK K rIxAll (ix_all hu) (by rfl)) (pv 3) (pe_op op_sub (pv 4) (pe_int)) (by exact fun _ _ => rfl)) (by exact fun _ _ => rfl)) po_none (po_some (pe_int))) (pa_nil)))))) (by exact fun _ => rfl) (by rfl))) (pss_one (ps_ret (pe_tupN (pa_cons (pe_str) (pa_cons (pv 4) (pa_nil)))))) (pss_nil)))) (pss_one (ps_ret (pe_non))))))))), ?_⟩
  exact spA_of (fun o => sims_seq (sims_if (sim_or (sim_not (sim_truK (SimE.p (sim_callA (sim_acons (sim_var) (sim_acons (sim_b sb_len (sim_pcons (SimE.p (sim_var)) (sim_pnil))) (sim_anil))))))) (sim_tst (SimE.p (sim_op (so_cmp (p := fun i j => decide (i < j))) (SimE.p (sim_b sb_len (sim_pcons (SimE.p (sim_var)) (sim_pnil)))) (SimE.p (sim_int)))))) (sims_ret (sim_tup (sim_lcons ((sim_str (by decide +kernel))) (sim_lnil)))) (sims_next)) (sims_seq (sims_for (simI_enum (sim_lcons (sim_sl ss_cut (SimE.p (sim_var)) sim_ono (sim_oyes (SimE.p (sim_un su_neg (SimE.p (sim_int)))))) (sim_lnil))) (simg_tup (n := 2) (simgs_cons (simg_name (i := 4)) (simgs_cons (simg_name (i := 5)) (simgs_nil)))) (sims_if (sim_or (sim_tst (SimE.p (sim_op so_ne (SimE.p (sim_op so_ix (SimE.p (sim_op so_ix (SimE.p (sim_var)) (SimE.p (sim_var)))) (SimE.p (sim_int)))) (SimE.p (sim_int))))) (sim_tst (SimE.p (sim_op (so_is (neg := false)) (SimE.p (sim_callA (sim_acons (sim_var) (sim_acons (sim_var) (sim_anil))))) (SimE.p (sim_non)))))) (sims_ret (sim_tup (sim_lcons ((sim_str (by decide +kernel))) (sim_lcons (sim_var) (sim_lnil))))) (sims_next))) (sims_seq (sims_for (simI_rng2 (sim_pcons (SimE.p (sim_int)) (sim_pcons (SimE.p (sim_op so_sub (SimE.p (sim_b sb_len (sim_pcons (SimE.p (sim_var)) (sim_pnil)))) (SimE.p (sim_int)))) (sim_pnil)))) (simg_name (i := 4)) (sims_if (sim_or (sim_not (sim_tst (SimE.p (sim_op (so_cmp (p := fun i j => decide (i < j))) (SimE.p (sim_op so_ix (SimE.p (sim_var)) (SimE.p (sim_op so_sub (SimE.p (sim_var)) (SimE.p (sim_int)))))) (SimE.p (sim_op so_ix (SimE.p (sim_var)) (SimE.p (sim_var)))))))) (sim_not (sim_tst (SimE.p (sim_op (so_cmp (p := fun i j => decide (i < j))) (SimE.p (sim_callA (sim_acons (sim_var) (sim_acons (sim_op so_ix (SimE.p (sim_var)) (SimE.p (sim_var))) (sim_anil))))) (SimE.p (sim_callA (sim_acons (sim_var) (sim_acons (sim_op so_ix (SimE.p (sim_var)) (SimE.p (sim_op so_sub (SimE.p (sim_var)) (SimE.p (sim_int))))) (sim_anil)))))))))) (sims_ret (sim_tup (sim_lcons ((sim_str (by decide +kernel))) (sim_lcons (sim_var) (sim_lnil))))) (sims_next))) (sims_seq (sims_asg (sim_tup (sim_lcons (sim_op so_ix (SimE.p (sim_var)) (SimE.p (sim_un su_neg (SimE.p (sim_int))))) (sim_lcons (sim_callA (sim_acons (sim_var) (sim_acons (sim_op so_ix (SimE.p (sim_var)) (SimE.p (sim_un su_neg (SimE.p (sim_int))))) (sim_anil)))) (sim_lcons (sim_op so_ix (SimE.p (sim_var)) (SimE.p (sim_un su_neg (SimE.p (sim_int))))) (sim_lnil))))) (simg_tup (n := 3) (simgs_cons (simg_name (i := 6)) (simgs_cons (simg_name (i := 7)) (simgs_cons (simg_name (i := 8)) (simgs_nil)))))) (sims_seq (sims_if (sim_or (sim_not (sim_tst (SimE.p (sim_chain (so_cmp (p := fun i j => decide (i < j))) (so_cmp (p := fun i j => decide (i < j))) (SimE.p (sim_var)) (SimE.p (sim_var)) (SimE.p (sim_var)))))) (sim_tst (SimE.p (sim_op so_ne (SimE.p (SimF.e (simF_lc (SimI.p (simI_rng2 (sim_pcons (SimE.p (sim_op so_add (SimE.p (sim_var)) (SimE.p (sim_int)))) (sim_pcons (SimE.p (sim_var)) (sim_pnil))))) (simg_name (i := 5)) (sim_tst (SimE.p (sim_op so_eq (SimE.p (sim_sl ss_cut (SimE.p (sim_op so_ix (SimE.p (sim_var)) (SimE.p (sim_var)))) sim_ono (sim_oyes (SimE.p (sim_int))))) (SimE.p (sim_sl ss_cut (SimE.p (sim_op so_ix (SimE.p (sim_var)) (SimE.p (sim_var)))) sim_ono (sim_oyes (SimE.p (sim_int)))))))) (sim_var) (by decide)))) (SimE.p (SimF.e (simF_lst (sim_lcons (sim_var) (sim_lnil))))))))) (sims_ret (sim_tup (sim_lcons ((sim_str (by decide +kernel))) (sim_lnil)))) (sims_next)) (sims_seq (sims_for (simI_rng2 (sim_pcons (SimE.p (sim_int)) (sim_pcons (SimE.p (sim_b sb_len (sim_pcons (SimE.p (sim_var)) (sim_pnil)))) (sim_pnil)))) (simg_name (i := 4)) (sims_if (sim_not (sim_truK (SimE.p (sim_callA (sim_acons (sim_var) (sim_acons (sim_var) (sim_acons (sim_sl ss_cut (SimE.p (sim_op so_ix (SimE.p (sim_var)) (SimE.p (sim_op so_ix (SimE.p (sim_var)) (SimE.p (sim_var)))))) sim_ono (sim_oyes (SimE.p (sim_int)))) (sim_acons (sim_sl ss_cut (SimE.p (sim_op so_ix (SimE.p (sim_var)) (SimE.p (sim_op so_ix (SimE.p (sim_var)) (SimE.p (sim_op so_sub (SimE.p (sim_var)) (SimE.p (sim_int)))))))) sim_ono (sim_oyes (SimE.p (sim_int)))) (sim_anil))))))))) (sims_ret (sim_tup (sim_lcons ((sim_str (by decide +kernel))) (sim_lcons (sim_var) (sim_lnil))))) (sims_next))) (sims_ret (sim_non)))))))) (fun as Qd h => h.2) vs H Q E h
theorem ok__law_may_undo (fx : Fx fal gsl fnl K mg) (G__law_stand : OkF P w K mg base 2 "_law_stand" (spA K ((wp__law_stand) K))) (G__law_fight : OkF P w K mg base 50 "_law_fight" (spA K ((wp__law_fight) K))) : OkF P w K mg base 51 "_law_may_undo" (spA K ((wp__law_may_undo) K)) := by
  have fr_any := fx.free 57 "any"
  refine okF_of (st := st__law_may_undo) (N := ["lot", "fights", "log", "deed", "stand", "k", "late"]) (ps := ["lot", "fights", "log", "deed"]) (fx.fd 41 "_law_may_undo" st__law_may_undo) (fx.glo 41 "_law_may_undo") sc__law_may_undo (fun _ _ _ _ _ _ us hl => match us, hl with | [_, _, _, _], _ => rfl) (spA_len fun as Qd h => h.1) (fun fd cdv A outer s H vs Q E hg hr h => ?_)
  have hu := VL.hu_of hr
  have hu1 := L2.hu_of hr
  refine ⟨_, PSs.nox (pss_cons (ps_setLc (i := 4) (own := [("k", 5)]) (by rfl) sc__law_may_undo.nd (by rfl) (by rfl) (sw_true (by rfl) (by rfl) (by rfl) (by decide +kernel)) (pi_anyK K (pe_callO G__law_stand hg hr (by omega) (by rfl) (pa_cons (pv 2) (pa_nil))) (by rfl)) (blkOk_by (N := ["lot", "fights", "log", "deed", "stand", "k", "late"]) (sc := defScope st__law_may_undo) (by decide +kernel)) (fun _ _ _ _ _ => pg_name (i := 5) sc__law_may_undo.nd (by rfl) (by first | exact Or.inl rfl | exact Or.inr rfl)) (fun _ _ _ _ _ => pts_nil) (fun _ _ _ _ _ => pe_slice (slK K rSlAll sl_all (by rfl)) (pe_ix (ixK K rIxAll (ix_all hu) (by rfl)) (pv 2) (pv 5) (by exact fun _ _ => rfl)) po_none (po_some (pe_int)))) (pss_cons (ps_if (pt_cmpR (opK K (fun K => rInAll K true) (op_notInAll hu) (by rfl)) (pv 3) (pv 4) (by rfl)) (pss_one (ps_ret (pe_bl))) (pss_nil)) (pss_one (ps_ret (pe_notK K (pe_callB (callK K (fun K => rAnyR K false) (call_anyR (by rfl)) (by rfl)) (by rfl) fr_any boot_any (pa_cons (pe_lc (own := [("late", 6)]) (by rfl) sc__law_may_undo.nd (pi_anyK K (pe_slice (slK K rSlAll sl_all (by rfl)) (pv 4) (po_some (pe_op (opK K rAddAll op_addAll (by rfl)) (peBX K (pe_bmX PySem.F.plainAttrs_list PySem.F.slot_list_index PySem.F.type_list_index (mtK K rIdxL (mt_idxL hu) (by rfl)) (pv 4) (pa_cons (pv 3) (pa_nil))) (by rfl)) (pe_int))) po_none) (by rfl)) (blkOk_by (N := ["lot", "fights", "log", "deed", "stand", "k", "late"]) (sc := defScope st__law_may_undo) (by decide +kernel)) (fun _ _ _ _ _ => pg_name (i := 6) sc__law_may_undo.nd (by rfl) (by first | exact Or.inl rfl | exact Or.inr rfl)) (fun _ _ _ _ _ => pts_nil) (fun _ _ _ _ _ => pe_callO G__law_fight hg hr (by omega) (by rfl) (pa_cons (pv 0) (pa_cons (pv 1) (pa_cons (pv 3) (pa_cons (pv 6) (pa_nil))))))) (pa_nil))) (by rfl)))))), ?_⟩
  exact spA_of (fun o => sims_seq (sims_set (SimF.e (simF_lc (simIP_any (SimE.p (sim_callA (sim_acons (sim_var) (sim_anil))))) (simg_name (i := 5)) (sim_yes) (sim_sl ss_cut (SimE.p (sim_op so_ix (SimE.p (sim_var)) (SimE.p (sim_var)))) sim_ono (sim_oyes (SimE.p (sim_int)))) (by decide)))) (sims_seq (sims_if (sim_tst (SimE.p (sim_op (so_in (neg := true)) (SimE.p (sim_var)) (SimE.p (sim_var))))) (sims_ret (sim_bl)) (sims_next)) (sims_ret (sim_notT (SimE.p (sim_b sb_any (sim_pcons (SimE.p (SimF.e (simF_lc (simIP_any (SimE.p (sim_sl ss_cut (SimE.p (sim_var)) (sim_oyes (SimE.p (sim_op so_add (SimE.p (sim_m sm_idxL (SimE.p (sim_var)) (sim_pcons (SimE.p (sim_var)) (sim_pnil)))) (SimE.p (sim_int))))) sim_ono))) (simg_name (i := 6)) (sim_yes) (sim_callA (sim_acons (sim_var) (sim_acons (sim_var) (sim_acons (sim_var) (sim_acons (sim_var) (sim_anil)))))) (by decide)))) (sim_pnil)))))))) (fun as Qd h => h.2) vs H Q E h
theorem ok__law_lawful_log (fx : Fx fal gsl fnl K mg) (G__law_deeds : OkF P w K mg base 25 "_law_deeds" (spA K ((wp__law_deeds) K))) (G__law_of : OkF P w K mg base 2 "_law_of" (spA K ((wp__law_of) K))) (G__law_may_undo : OkF P w K mg base 51 "_law_may_undo" (spA K ((wp__law_may_undo) K))) (G__law_pick : OkF P w K mg base 1 "_law_pick" (spA K ((wpPick) K))) : OkF P w K mg base 52 "_law_lawful_log" (spA K ((wp__law_lawful_log) K)) := by
  have fr_range := fx.free 58 "range"
  refine okF_of (st := st__law_lawful_log) (N := ["source", "lot", "fights", "many", "found", "deeds", "lap", "deed"]) (ps := ["source", "lot", "fights", "many"]) (fx.fd 42 "_law_lawful_log" st__law_lawful_log) (fx.glo 42 "_law_lawful_log") sc__law_lawful_log (fun _ _ _ _ _ _ us hl => match us, hl with | [_, _, _, _], _ => rfl) (spA_len fun as Qd h => h.1) (fun fd cdv A outer s H vs Q E hg hr h => ?_)
  have hu := VL.hu_of hr
  have hu1 := L2.hu_of hr
  refine ⟨_, PSs.nox (pss_cons (ps_par (i := 4) (j := 5) (by rfl) sc__law_lawful_log.nd (by rfl) (by rfl) (by decide) (by rfl) (by rfl) (pa_cons (pe_tupN (pa_nil)) (pa_cons (pe_callO G__law_deeds hg hr (by omega) (by rfl) (pa_cons (pv 1) (pa_nil))) (pa_nil))) (by rfl)) (pss_cons (ps_for PassesOwn.never (by rfl) (pi_range1 (by rfl) fr_range (pa_cons (pv 3) (pa_nil))) (pg_name (i := 6) sc__law_lawful_log.nd (by rfl) (by first | exact Or.inl rfl | exact Or.inr rfl)) (pss_cons (ps_set (i := 7) sc__law_lawful_log.nd (by rfl) (by exact Or.inl rfl) (pe_callO G__law_of hg hr (by omega) (by rfl) (pa_cons (pv 0) (pa_cons (pv 5) (pa_nil))))) (pss_one (ps_if (pt_cmpR (opK K (fun K => rInAll K true) (op_notInAll hu) (by rfl)) (pe_op (opK K rAddAll op_addAll (by rfl)) (pv 7) (pe_tupN (pa_cons (pe_int) (pa_nil)))) (pv 4) (by rfl)) (pss_one (ps_set (i := 4) sc__law_lawful_log.nd (by rfl) (by exact Or.inl rfl) (pe_op (opK K rAddAll op_addAll (by rfl)) (pv 4) (pe_tupN (pa_cons (pe_op (opK K rAddAll op_addAll (by rfl)) (pv 7) (pe_tupN (pa_cons (pe_int) (pa_nil)))) (pa_nil)))))) (pss_one (ps_if (PW.pt (pw_and (pt_cmpR (opK K (fun K => rInAll K true) (op_notInAll hu) (by rfl)) (pe_op (opK K rAddAll op_addAll (by rfl)) (pv 7) (pe_tupN (pa_cons (pe_op op_sub (pe_int) (pe_int)) (pa_nil)))) (pv 4) (by rfl)) (pw_and1 (PW.pt (pw_or (pt_truK K (pe_callO G__law_may_undo hg hr (by omega) (by rfl) (pa_cons (pv 1) (pa_cons (pv 2) (pa_cons (pv 4) (pa_cons (pv 7) (pa_nil)))))) (by exact fun _ => rfl) (by rfl)) (pw_or1 (pt_cmpR (opK K rEqR (op_eqR hu) (by rfl)) (pe_callO G__law_pick hg hr (by omega) (by rfl) (pa_cons (pv 0) (pa_cons (pe_int) (pa_nil)))) (pe_int) (nomark _)))))))) (pss_one (ps_set (i := 4) sc__law_lawful_log.nd (by rfl) (by exact Or.inl rfl) (pe_op (opK K rAddAll op_addAll (by rfl)) (pv 4) (pe_tupN (pa_cons (pe_op (opK K rAddAll op_addAll (by rfl)) (pv 7) (pe_tupN (pa_cons (pe_op op_sub (pe_int) (pe_int)) (pa_nil)))) (pa_nil)))))) (pss_nil))))))) (pss_one (ps_ret (pv 4))))), ?_⟩
  exact spA_of (fun o => sims_seq (sims_par (sim_tup (sim_lnil)) (sim_callA (sim_acons (sim_var) (sim_anil)))) (sims_seq (sims_for (simI_rng1 (sim_pcons (SimE.p (sim_var)) (sim_pnil))) (simg_name (i := 6)) (sims_seq (sims_set (sim_callA (sim_asrc (sim_acons (sim_var) (sim_anil))))) (sims_if (sim_tst (SimE.p (sim_op (so_in (neg := true)) (SimE.p (sim_op so_add (SimE.p (sim_var)) (SimE.p (sim_tup (sim_lcons (sim_int) (sim_lnil)))))) (SimE.p (sim_var))))) (sims_set (sim_op so_add (SimE.p (sim_var)) (SimE.p (sim_tup (sim_lcons (sim_op so_add (SimE.p (sim_var)) (SimE.p (sim_tup (sim_lcons (sim_int) (sim_lnil))))) (sim_lnil)))))) (sims_if (sim_and (sim_tst (SimE.p (sim_op (so_in (neg := true)) (SimE.p (sim_op so_add (SimE.p (sim_var)) (SimE.p (sim_tup (sim_lcons (sim_op so_sub (SimE.p (sim_int)) (SimE.p (sim_int))) (sim_lnil)))))) (SimE.p (sim_var))))) (sim_or (sim_truK (SimE.p (sim_callA (sim_acons (sim_var) (sim_acons (sim_var) (sim_acons (sim_var) (sim_acons (sim_var) (sim_anil)))))))) (sim_tst (SimE.p (sim_op so_eq (SimE.p (sim_callA (sim_asrc (sim_acons (sim_int) (sim_anil))))) (SimE.p (sim_int))))))) (sims_set (sim_op so_add (SimE.p (sim_var)) (SimE.p (sim_tup (sim_lcons (sim_op so_add (SimE.p (sim_var)) (SimE.p (sim_tup (sim_lcons (sim_op so_sub (SimE.p (sim_int)) (SimE.p (sim_int))) (sim_lnil))))) (sim_lnil)))))) (sims_next))))) (sims_ret (sim_var)))) (fun as Qd h => h.2) vs H Q E h
theorem ok__law_can_strike (fx : Fx fal gsl fnl K mg) (G__law_fight : OkF P w K mg base 50 "_law_fight" (spA K ((wp__law_fight) K))) : OkF P w K mg base 51 "_law_can_strike" (spA K ((wp__law_can_strike) K)) := by
  have fr_any := fx.free 57 "any"
  refine okF_of (st := st__law_can_strike) (N := ["lot", "fights", "log", "deed", "between", "entry"]) (ps := ["lot", "fights", "log", "deed"]) (fx.fd 43 "_law_can_strike" st__law_can_strike) (fx.glo 43 "_law_can_strike") sc__law_can_strike (fun _ _ _ _ _ _ us hl => match us, hl with | [_, _, _, _], _ => rfl) (spA_len fun as Qd h => h.1) (fun fd cdv A outer s H vs Q E hg hr h => ?_)
  have hu := VL.hu_of hr
  have hu1 := L2.hu_of hr
  refine ⟨_, PSs.nox (pss_cons (ps_if (pt_cmpR (opK K (fun K => rInAll K true) (op_notInAll hu) (by rfl)) (pe_op (opK K rAddAll op_addAll (by rfl)) (pv 3) (pe_tupN (pa_cons (pe_op op_sub (pe_int) (pe_int)) (pa_nil)))) (pv 2) (by rfl)) (pss_one (ps_ret (pe_bl))) (pss_nil)) (pss_cons (ps_set (i := 4) sc__law_can_strike.nd (by rfl) (by exact Or.inl rfl) (pe_slice (slK K rSlAll sl_all (by rfl)) (pv 2) (po_some (pe_op (opK K rAddAll op_addAll (by rfl)) (pe_or' (peBX K (pe_bmX PySem.F.plainAttrs_list PySem.F.slot_list_index PySem.F.type_list_index (mtK K rIdxL (mt_idxL hu) (by rfl)) (pv 2) (pa_cons (pe_op (opK K rAddAll op_addAll (by rfl)) (pv 3) (pe_tupN (pa_cons (pe_int) (pa_nil)))) (pa_nil))) (by rfl)) (peBX K (pe_bmX PySem.F.plainAttrs_tuple PySem.F.slot_tuple_index PySem.F.type_tuple_index (mtK K rIdxT (mt_idxT hu) (by rfl)) (pv 2) (pa_cons (pe_op (opK K rAddAll op_addAll (by rfl)) (pv 3) (pe_tupN (pa_cons (pe_int) (pa_nil)))) (pa_nil))) (by rfl))) (pe_int))) (po_some (pe_or' (peBX K (pe_bmX PySem.F.plainAttrs_list PySem.F.slot_list_index PySem.F.type_list_index (mtK K rIdxL (mt_idxL hu) (by rfl)) (pv 2) (pa_cons (pe_op (opK K rAddAll op_addAll (by rfl)) (pv 3) (pe_tupN (pa_cons (pe_op op_sub (pe_int) (pe_int)) (pa_nil)))) (pa_nil))) (by rfl)) (peBX K (pe_bmX PySem.F.plainAttrs_tuple PySem.F.slot_tuple_index PySem.F.type_tuple_index (mtK K rIdxT (mt_idxT hu) (by rfl)) (pv 2) (pa_cons (pe_op (opK K rAddAll op_addAll (by rfl)) (pv 3) (pe_tupN (pa_cons (pe_op op_sub (pe_int) (pe_int)) (pa_nil)))) (pa_nil))) (by rfl)))))) (pss_one (ps_ret (pe_notK K (pe_callB (callK K (fun K => rAnyR K false) (call_anyR (by rfl)) (by rfl)) (by rfl) fr_any boot_any (pa_cons (pe_lc (own := [("entry", 5)]) (by rfl) sc__law_can_strike.nd (pi_anyK K (pv 4) (by rfl)) (blkOk_by (N := ["lot", "fights", "log", "deed", "between", "entry"]) (sc := defScope st__law_can_strike) (by decide +kernel)) (fun _ _ _ _ _ => pg_name (i := 5) sc__law_can_strike.nd (by rfl) (by first | exact Or.inl rfl | exact Or.inr rfl)) (fun _ _ _ _ _ => pts_nil) (fun _ _ _ _ _ => pe_callO G__law_fight hg hr (by omega) (by rfl) (pa_cons (pv 0) (pa_cons (pv 1) (pa_cons (pv 3) (pa_cons (pe_slice (slK K rSlAll sl_all (by rfl)) (pv 5) po_none (po_some (pe_int))) (pa_nil))))))) (pa_nil))) (by rfl)))))), ?_⟩
  exact spA_of (fun o => sims_seq (sims_if (sim_tst (SimE.p (sim_op (so_in (neg := true)) (SimE.p (sim_op so_add (SimE.p (sim_var)) (SimE.p (sim_tup (sim_lcons (sim_op so_sub (SimE.p (sim_int)) (SimE.p (sim_int))) (sim_lnil)))))) (SimE.p (sim_var))))) (sims_ret (sim_bl)) (sims_next)) (sims_seq (sims_set (sim_sl ss_cut (SimE.p (sim_var)) (sim_oyes (SimE.p (sim_op so_add (SimE.p (sim_orE (sim_m sm_idxL (SimE.p (sim_var)) (sim_pcons (SimE.p (sim_op so_add (SimE.p (sim_var)) (SimE.p (sim_tup (sim_lcons (sim_int) (sim_lnil)))))) (sim_pnil))) (sim_m sm_idxT (SimE.p (sim_var)) (sim_pcons (SimE.p (sim_op so_add (SimE.p (sim_var)) (SimE.p (sim_tup (sim_lcons (sim_int) (sim_lnil)))))) (sim_pnil))))) (SimE.p (sim_int))))) (sim_oyes (SimE.p (sim_orE (sim_m sm_idxL (SimE.p (sim_var)) (sim_pcons (SimE.p (sim_op so_add (SimE.p (sim_var)) (SimE.p (sim_tup (sim_lcons (sim_op so_sub (SimE.p (sim_int)) (SimE.p (sim_int))) (sim_lnil)))))) (sim_pnil))) (sim_m sm_idxT (SimE.p (sim_var)) (sim_pcons (SimE.p (sim_op so_add (SimE.p (sim_var)) (SimE.p (sim_tup (sim_lcons (sim_op so_sub (SimE.p (sim_int)) (SimE.p (sim_int))) (sim_lnil)))))) (sim_pnil)))))))) (sims_ret (sim_notT (SimE.p (sim_b sb_any (sim_pcons (SimE.p (SimF.e (simF_lc (simIP_any (SimE.p (sim_var))) (simg_name (i := 5)) (sim_yes) (sim_callA (sim_acons (sim_var) (sim_acons (sim_var) (sim_acons (sim_var) (sim_acons (sim_sl ss_cut (SimE.p (sim_var)) sim_ono (sim_oyes (SimE.p (sim_int)))) (sim_anil)))))) (by decide)))) (sim_pnil)))))))) (fun as Qd h => h.2) vs H Q E h
theorem ok__law_strikes_right (fx : Fx fal gsl fnl K mg) (G_strikes : OkF P w K mg base 31 "strikes" (spA K ((wp_strikes) K))) (G__law_can_strike : OkF P w K mg base 51 "_law_can_strike" (spA K ((wp__law_can_strike) K))) (G_can_strike : OkF P w K mg base 29 "can_strike" (spA K ((wp_can_strike) K))) : OkF P w K mg base 52 "_law_strikes_right" (spA K ((wp__law_strikes_right) K)) := by
  have fr_enumerate := fx.free 48 "enumerate"
  have fr_isinstance := fx.free 49 "isinstance"
  have fr_repr := fx.free 64 "repr"
  have fr_sorted := fx.free 63 "sorted"
  have fr_tuple := fx.free 56 "tuple"
  refine okF_of (st := st__law_strikes_right) (N := ["lot", "fights", "log", "left", "told", "now", "due", "deed", "k", "entry"]) (ps := ["lot", "fights", "log", "left"]) (fx.fd 44 "_law_strikes_right" st__law_strikes_right) (fx.glo 44 "_law_strikes_right") sc__law_strikes_right (fun _ _ _ _ _ _ us hl => match us, hl with | [_, _, _, _], _ => rfl) (spA_len fun as Qd h => h.1) (fun fd cdv A outer s H vs Q E hg hr h => ?_)
  have hu := VL.hu_of hr
  have hu1 := L2.hu_of hr
  refine ⟨_, PSs.nox (pss_cons (ps_par (i := 4) (j := 5) (by rfl) sc__law_strikes_right.nd (by rfl) (by rfl) (by decide) (by rfl) (by rfl) (pa_cons (pe_callO G_strikes hg hr (by omega) (by rfl) (pa_cons (pv 0) (pa_cons (pv 1) (pa_cons (pv 2) (pa_nil))))) (pa_cons (pv 2) (pa_nil))) (by rfl)) (pss_cons (ps_setLc (i := 6) (own := [("k", 8), ("entry", 9)]) (by rfl) sc__law_strikes_right.nd (by rfl) (by rfl) (sw_true (by rfl) (by rfl) (by rfl) (by decide +kernel)) (pi_enumK K (by rfl) fr_enumerate (pa_cons (pv 2) (pa_nil)) (by rfl)) (blkOk_by (N := ["lot", "fights", "log", "left", "told", "now", "due", "deed", "k", "entry"]) (sc := defScope st__law_strikes_right) (by decide +kernel)) (fun _ _ _ _ _ => pg_tupK K (n := 2) (by rfl) (pgs_cons (pg_name (i := 8) sc__law_strikes_right.nd (by rfl) (by first | exact Or.inl rfl | exact Or.inr rfl)) (pgs_cons (pg_name (i := 9) sc__law_strikes_right.nd (by rfl) (by first | exact Or.inl rfl | exact Or.inr rfl)) (pgs_nil))) (by rfl)) (fun _ _ _ _ _ => pts_one (PW.pt (pw_and (pt_cmpR (opK K rEqR (op_eqR hu) (by rfl)) (pe_ix (ixK K rIxAll (ix_all hu) (by rfl)) (pv 9) (pe_int) (by exact fun _ _ => rfl)) (pe_int) (nomark _)) (pw_and1 (pt_cmpR (opK K (fun K => rInAll K true) (op_notInAll hu) (by rfl)) (pv 8) (pv 3) (by rfl)))))) (fun _ _ _ _ _ => pe_slice (slK K rSlAll sl_all (by rfl)) (pv 9) po_none (po_some (pe_int)))) (pss_cons (ps_if (PW.pt (pw_or (pt_not (pt_truK K (pe_callB (callK K (rIsa "tuple") call_isa (by rfl)) (by rfl) fr_isinstance PyProof.Rows.boot_isinstance (pa_cons (pv 4) (pa_cons (pe_bltn (v := V.ty "tuple") (by rfl) fr_tuple (by rfl) (by rfl)) pa_nil))) (by exact fun _ => rfl) (by rfl))) (pw_or1 (pt_cmpR (opK K rNeR (op_neR hu) (by rfl)) (pe_callB (callK K rRepr (call_reprR hg hu) (by rfl)) (by rfl) fr_repr boot_repr (pa_cons (pe_callB (callK K rSortA (call_sortedA hu) (by rfl)) (by rfl) fr_sorted boot_sorted (pa_cons (pv 4) (pa_nil))) (pa_nil))) (pe_callB (callK K rRepr (call_reprR hg hu) (by rfl)) (by rfl) fr_repr boot_repr (pa_cons (pe_callB (callK K rSortD (call_sortedR hu) (by rfl)) (by rfl) fr_sorted boot_sorted (pa_cons (pv 6) (pa_nil))) (pa_nil))) (nomark _))))) (pss_one (ps_ret (pe_bl))) (pss_nil)) (pss_cons (ps_for PassesOwn.never (by rfl) (pi_anyK K (pv 4) (by rfl)) (pg_name (i := 7) sc__law_strikes_right.nd (by rfl) (by first | exact Or.inl rfl | exact Or.inr rfl)) (pss_cons (ps_if (PW.pt (pw_or (pt_not (pt_truK K (pe_callO G__law_can_strike hg hr (by omega) (by rfl) (pa_cons (pv 0) (pa_cons (pv 1) (pa_cons (pv 5) (pa_cons (pv 7) (pa_nil)))))) (by exact fun _ => rfl) (by rfl))) (pw_or1 (pt_cmpR op_isnot (pe_callO G_can_strike hg hr (by omega) (by rfl) (pa_cons (pv 0) (pa_cons (pv 1) (pa_cons (pv 5) (pa_cons (pv 7) (pa_nil)))))) (pe_bl) (nomark _))))) (pss_one (ps_ret (pe_bl))) (pss_nil)) (pss_one (ps_set (i := 5) sc__law_strikes_right.nd (by rfl) (by exact Or.inl rfl) (pe_callTy (callK K rTupleOf call_tupleN (by rfl)) (by rfl) fr_tuple boot_tuple (pa_cons (pe_lc (own := [("entry", 9)]) (by rfl) sc__law_strikes_right.nd (pi_anyK K (pv 5) (by rfl)) (blkOk_by (N := ["lot", "fights", "log", "left", "told", "now", "due", "deed", "k", "entry"]) (sc := defScope st__law_strikes_right) (by decide +kernel)) (fun _ _ _ _ _ => pg_name (i := 9) sc__law_strikes_right.nd (by rfl) (by first | exact Or.inl rfl | exact Or.inr rfl)) (fun _ _ _ _ _ => pts_one (pt_cmpR (opK K rNeR (op_neR hu) (by rfl)) (pe_slice (slK K rSlAll sl_all (by rfl)) (pv 9) po_none (po_some (pe_int))) (pv 7) (nomark _))) (fun _ _ _ _ _ => pv 9)) (pa_nil))))))) (pss_one (ps_ret (pe_cmpR (opK K rEqR (op_eqR hu) (by rfl)) (pv 5) (pe_callTy (callK K rTupleOf call_tupleN (by rfl)) (by rfl) fr_tuple boot_tuple (pa_cons (pe_lc (own := [("k", 8)]) (by rfl) sc__law_strikes_right.nd (pi_anyK K (pv 3) (by rfl)) (blkOk_by (N := ["lot", "fights", "log", "left", "told", "now", "due", "deed", "k", "entry"]) (sc := defScope st__law_strikes_right) (by decide +kernel)) (fun _ _ _ _ _ => pg_name (i := 8) sc__law_strikes_right.nd (by rfl) (by first | exact Or.inl rfl | exact Or.inr rfl)) (fun _ _ _ _ _ => pts_nil) (fun _ _ _ _ _ => pe_ix (ixK K rIxAll (ix_all hu) (by rfl)) (pv 2) (pv 8) (by exact fun _ _ => rfl))) (pa_nil))) (nomark _)))))))), ?_⟩
  exact spA_of (fun o => sims_seq (sims_par (sim_callA (sim_acons (sim_var) (sim_acons (sim_var) (sim_acons (sim_var) (sim_anil))))) (sim_var)) (sims_seq (sims_set (SimF.e (simF_lc (simIP_enum (sim_pcons (SimE.p (sim_var)) (sim_pnil))) (simg_tup (n := 2) (simgs_cons (simg_name (i := 8)) (simgs_cons (simg_name (i := 9)) (simgs_nil)))) (sim_and (sim_tst (SimE.p (sim_op so_eq (SimE.p (sim_op so_ix (SimE.p (sim_var)) (SimE.p (sim_int)))) (SimE.p (sim_int))))) (sim_tst (SimE.p (sim_op (so_in (neg := true)) (SimE.p (sim_var)) (SimE.p (sim_var)))))) (sim_sl ss_cut (SimE.p (sim_var)) sim_ono (sim_oyes (SimE.p (sim_int)))) (by decide)))) (sims_seq (sims_if (sim_or (sim_not (sim_truK (SimE.p (sim_isa isa_tuple (SimE.p (sim_var)))))) (sim_tst (SimE.p (sim_op so_ne (SimE.p (sim_b sb_repr (sim_pcons (SimE.p (SimF.e (simF_b sbF_sortedA (sim_pcons (SimE.p (sim_var)) (sim_pnil))))) (sim_pnil)))) (SimE.p (sim_b sb_repr (sim_pcons (SimE.p (SimF.e (simF_b sbF_sorted (sim_pcons (SimE.p (sim_var)) (sim_pnil))))) (sim_pnil)))))))) (sims_ret (sim_bl)) (sims_next)) (sims_seq (sims_for (simI_any (sim_var)) (simg_name (i := 7)) (sims_seq (sims_if (sim_or (sim_not (sim_truK (SimE.p (sim_callA (sim_acons (sim_var) (sim_acons (sim_var) (sim_acons (sim_var) (sim_acons (sim_var) (sim_anil))))))))) (sim_tst (SimE.p (sim_op (so_is (neg := true)) (SimE.p (sim_callA (sim_acons (sim_var) (sim_acons (sim_var) (sim_acons (sim_var) (sim_acons (sim_var) (sim_anil))))))) (SimE.p (sim_bl)))))) (sims_ret (sim_bl)) (sims_next)) (sims_set (sim_b sb_tuple (sim_pcons (SimE.p (SimF.e (simF_lc (simIP_any (SimE.p (sim_var))) (simg_name (i := 9)) (sim_tst (SimE.p (sim_op so_ne (SimE.p (sim_sl ss_cut (SimE.p (sim_var)) sim_ono (sim_oyes (SimE.p (sim_int))))) (SimE.p (sim_var))))) (sim_var) (by decide)))) (sim_pnil)))))) (sims_ret (sim_op so_eq (SimE.p (sim_var)) (SimE.p (sim_b sb_tuple (sim_pcons (SimE.p (SimF.e (simF_lc (simIP_any (SimE.p (sim_var))) (simg_name (i := 8)) (sim_yes) (sim_op so_ix (SimE.p (sim_var)) (SimE.p (sim_var))) (by decide)))) (sim_pnil)))))))))) (fun as Qd h => h.2) vs H Q E h
theorem ok__law_knots_right (fx : Fx fal gsl fnl K mg) (G_knot : OkF P w K mg base 32 "knot" (spA K ((wp_knot) K))) (G__law_knot_fault : OkF P w K mg base 51 "_law_knot_fault" (spA K ((wp__law_knot_fault) K))) (G_judge_knot : OkF P w K mg base 29 "judge_knot" (spA K ((wp_judge_knot) K))) : OkF P w K mg base 52 "_law_knots_right" (spA K ((wp__law_knots_right) K)) := by
  have fr_enumerate := fx.free 48 "enumerate"
  refine okF_of (st := st__law_knots_right) (N := ["lot", "fights", "log", "left", "k", "entry", "told"]) (ps := ["lot", "fights", "log", "left"]) (fx.fd 45 "_law_knots_right" st__law_knots_right) (fx.glo 45 "_law_knots_right") sc__law_knots_right (fun _ _ _ _ _ _ us hl => match us, hl with | [_, _, _, _], _ => rfl) (spA_len fun as Qd h => h.1) (fun fd cdv A outer s H vs Q E hg hr h => ?_)
  have hu := VL.hu_of hr
  have hu1 := L2.hu_of hr
  refine ⟨_, PSs.nox (pss_cons (ps_for PassesOwn.never (by rfl) (pi_enumK K (by rfl) fr_enumerate (pa_cons (pv 2) (pa_nil)) (by rfl)) (pg_tupK K (n := 2) (by rfl) (pgs_cons (pg_name (i := 4) sc__law_knots_right.nd (by rfl) (by first | exact Or.inl rfl | exact Or.inr rfl)) (pgs_cons (pg_name (i := 5) sc__law_knots_right.nd (by rfl) (by first | exact Or.inl rfl | exact Or.inr rfl)) (pgs_nil))) (by rfl)) (pss_cons (ps_set (i := 6) sc__law_knots_right.nd (by rfl) (by exact Or.inl rfl) (pe_callO G_knot hg hr (by omega) (by rfl) (pa_cons (pv 0) (pa_cons (pv 1) (pa_cons (pv 2) (pa_cons (pv 4) (pa_nil))))))) (pss_one (ps_if (PW.pt (pw_or (pt_cmpR (opK K rEqR (op_eqR hu) (by rfl)) (pe_ix (ixK K rIxAll (ix_all hu) (by rfl)) (pv 5) (pe_int) (by exact fun _ _ => rfl)) (pe_int) (nomark _)) (pw_or1 (pt_cmpR (opK K (fun K => rInAll K true) (op_notInAll hu) (by rfl)) (pv 4) (pv 3) (by rfl))))) (pss_one (ps_if (pt_cmpR op_isnot (pv 6) (pe_non) (nomark _)) (pss_one (ps_ret (pe_bl))) (pss_nil))) (pss_one (ps_if (PW.pt (pw_or (pt_cmpR op_isnot (pe_callO G__law_knot_fault hg hr (by omega) (by rfl) (pa_cons (pv 0) (pa_cons (pv 1) (pa_cons (pv 2) (pa_cons (pv 6) (pa_nil)))))) (pe_non) (nomark _)) (pw_or1 (pt_cmpR (opK K rNeR (op_neR hu) (by rfl)) (pe_ix (ixK K rIxAll (ix_all hu) (by rfl)) (pv 2) (pe_ix (ixK K rIxAll (ix_all hu) (by rfl)) (pv 6) (pe_int) (by exact fun _ _ => rfl)) (by exact fun _ _ => rfl)) (pe_op (opK K rAddAll op_addAll (by rfl)) (pe_slice (slK K rSlAll sl_all (by rfl)) (pv 5) po_none (po_some (pe_int))) (pe_tupN (pa_cons (pe_int) (pa_nil)))) (nomark _))))) (pss_one (ps_ret (pe_bl))) (pss_one (ps_if (pt_cmpR op_isnot (pe_callO G_judge_knot hg hr (by omega) (by rfl) (pa_cons (pv 0) (pa_cons (pv 1) (pa_cons (pv 2) (pa_cons (pv 6) (pa_nil)))))) (pe_non) (nomark _)) (pss_one (ps_ret (pe_bl))) (pss_nil))))))))) (pss_one (ps_ret (pe_bl)))), ?_⟩
  exact spA_of (fun o => sims_seq (sims_for (simI_enum (sim_lcons (sim_var) (sim_lnil))) (simg_tup (n := 2) (simgs_cons (simg_name (i := 4)) (simgs_cons (simg_name (i := 5)) (simgs_nil)))) (sims_seq (sims_set (sim_callA (sim_acons (sim_var) (sim_acons (sim_var) (sim_acons (sim_var) (sim_acons (sim_var) (sim_anil))))))) (sims_if (sim_or (sim_tst (SimE.p (sim_op so_eq (SimE.p (sim_op so_ix (SimE.p (sim_var)) (SimE.p (sim_int)))) (SimE.p (sim_int))))) (sim_tst (SimE.p (sim_op (so_in (neg := true)) (SimE.p (sim_var)) (SimE.p (sim_var)))))) (sims_if (sim_tst (SimE.p (sim_op (so_is (neg := true)) (SimE.p (sim_var)) (SimE.p (sim_non))))) (sims_ret (sim_bl)) (sims_next)) (sims_if (sim_or (sim_tst (SimE.p (sim_op (so_is (neg := true)) (SimE.p (sim_callA (sim_acons (sim_var) (sim_acons (sim_var) (sim_acons (sim_var) (sim_acons (sim_var) (sim_anil))))))) (SimE.p (sim_non))))) (sim_tst (SimE.p (sim_op so_ne (SimE.p (sim_op so_ix (SimE.p (sim_var)) (SimE.p (sim_op so_ix (SimE.p (sim_var)) (SimE.p (sim_int)))))) (SimE.p (sim_op so_add (SimE.p (sim_sl ss_cut (SimE.p (sim_var)) sim_ono (sim_oyes (SimE.p (sim_int))))) (SimE.p (sim_tup (sim_lcons (sim_int) (sim_lnil)))))))))) (sims_ret (sim_bl)) (sims_if (sim_tst (SimE.p (sim_op (so_is (neg := true)) (SimE.p (sim_callA (sim_acons (sim_var) (sim_acons (sim_var) (sim_acons (sim_var) (sim_acons (sim_var) (sim_anil))))))) (SimE.p (sim_non))))) (sims_ret (sim_bl)) (sims_next)))))) (sims_ret (sim_bl))) (fun as Qd h => h.2) vs H Q E h
theorem ok__law_steps_right (fx : Fx fal gsl fnl K mg) (G__law_fight : OkF P w K mg base 50 "_law_fight" (spA K ((wp__law_fight) K))) (G_rest : OkF P w K mg base 31 "rest" (spA K ((wp_rest) K))) (G_lost_at : OkF P w K mg base 32 "lost_at" (spA K ((wp_lost_at) K))) : OkF P w K mg base 51 "_law_steps_right" (spA K ((wp__law_steps_right) K)) := by
  have fr_any := fx.free 57 "any"
  have fr_enumerate := fx.free 48 "enumerate"
  have fr_repr := fx.free 64 "repr"
  have fr_tuple := fx.free 56 "tuple"
  refine okF_of (st := st__law_steps_right) (N := ["lot", "fights", "log", "here", "lost", "k", "entry", "behind", "i"]) (ps := ["lot", "fights", "log"]) (fx.fd 46 "_law_steps_right" st__law_steps_right) (fx.glo 46 "_law_steps_right") sc__law_steps_right (fun _ _ _ _ _ _ us hl => match us, hl with | [_, _, _], _ => rfl) (spA_len fun as Qd h => h.1) (fun fd cdv A outer s H vs Q E hg hr h => ?_)
  have hu := VL.hu_of hr
  have hu1 := L2.hu_of hr
  refine ⟨_, PSs.nox (pss_cons (ps_par (i := 3) (j := 4) (by rfl) sc__law_steps_right.nd (by rfl) (by rfl) (by decide) (by rfl) (by rfl) (pa_cons (pe_lst (pa_nil)) (pa_cons (pe_non) (pa_nil))) (by rfl)) (pss_cons (ps_for PassesOwn.never (by rfl) (pi_enumK K (by rfl) fr_enumerate (pa_cons (pv 2) (pa_nil)) (by rfl)) (pg_tupK K (n := 2) (by rfl) (pgs_cons (pg_name (i := 5) sc__law_steps_right.nd (by rfl) (by first | exact Or.inl rfl | exact Or.inr rfl)) (pgs_cons (pg_name (i := 6) sc__law_steps_right.nd (by rfl) (by first | exact Or.inl rfl | exact Or.inr rfl)) (pgs_nil))) (by rfl)) (pss_cons (ps_setLc (i := 7) (own := [("i", 8)]) (by rfl) sc__law_steps_right.nd (by rfl) (by rfl) (sw_true (by rfl) (by rfl) (by rfl) (by decide +kernel)) (pi_anyK K (pv 3) (by rfl)) (blkOk_by (N := ["lot", "fights", "log", "here", "lost", "k", "entry", "behind", "i"]) (sc := defScope st__law_steps_right) (by decide +kernel)) (fun _ _ _ _ _ => pg_name (i := 8) sc__law_steps_right.nd (by rfl) (by first | exact Or.inl rfl | exact Or.inr rfl)) (fun _ _ _ _ _ => pts_one (PW.pt (pw_and (pt_cmpR (opK K rNeR (op_neR hu) (by rfl)) (pe_ix (ixK K rIxAll (ix_all hu) (by rfl)) (pv 6) (pe_int) (by exact fun _ _ => rfl)) (pe_int) (nomark _)) (pw_and1 (pt_cmpR op_gt (pv 8) (pe_or' (peBX K (pe_bmX PySem.F.plainAttrs_list PySem.F.slot_list_index PySem.F.type_list_index (mtK K rIdxL (mt_idxL hu) (by rfl)) (pv 2) (pa_cons (pe_op (opK K rAddAll op_addAll (by rfl)) (pe_slice (slK K rSlAll sl_all (by rfl)) (pv 6) po_none (po_some (pe_int))) (pe_tupN (pa_cons (pe_int) (pa_nil)))) (pa_nil))) (by rfl)) (peBX K (pe_bmX PySem.F.plainAttrs_tuple PySem.F.slot_tuple_index PySem.F.type_tuple_index (mtK K rIdxT (mt_idxT hu) (by rfl)) (pv 2) (pa_cons (pe_op (opK K rAddAll op_addAll (by rfl)) (pe_slice (slK K rSlAll sl_all (by rfl)) (pv 6) po_none (po_some (pe_int))) (pe_tupN (pa_cons (pe_int) (pa_nil)))) (pa_nil))) (by rfl))) (nomark _)))))) (fun _ _ _ _ _ => pv 8)) (pss_cons (ps_if (PW.pt (pw_or (pt_cmpR (opK K rEqR (op_eqR hu) (by rfl)) (pe_ix (ixK K rIxAll (ix_all hu) (by rfl)) (pv 6) (pe_int) (by exact fun _ _ => rfl)) (pe_int) (nomark _)) (pw_or1 (pt_truK K (pe_callB (callK K (fun K => rAnyR K false) (call_anyR (by rfl)) (by rfl)) (by rfl) fr_any boot_any (pa_cons (pe_lc (own := [("i", 8)]) (by rfl) sc__law_steps_right.nd (pi_anyK K (pv 7) (by rfl)) (blkOk_by (N := ["lot", "fights", "log", "here", "lost", "k", "entry", "behind", "i"]) (sc := defScope st__law_steps_right) (by decide +kernel)) (fun _ _ _ _ _ => pg_name (i := 8) sc__law_steps_right.nd (by rfl) (by first | exact Or.inl rfl | exact Or.inr rfl)) (fun _ _ _ _ _ => pts_nil) (fun _ _ _ _ _ => pe_callO G__law_fight hg hr (by omega) (by rfl) (pa_cons (pv 0) (pa_cons (pv 1) (pa_cons (pe_slice (slK K rSlAll sl_all (by rfl)) (pe_ix (ixK K rIxAll (ix_all hu) (by rfl)) (pv 2) (pv 8) (by exact fun _ _ => rfl)) po_none (po_some (pe_int))) (pa_cons (pe_slice (slK K rSlAll sl_all (by rfl)) (pv 6) po_none (po_some (pe_int))) (pa_nil))))))) (pa_nil))) (by exact fun _ => rfl) (by rfl))))) (pss_cons (ps_set (i := 3) sc__law_steps_right.nd (by rfl) (by exact Or.inl rfl) (pe_op (opK K rAddAll op_addAll (by rfl)) (pv 3) (pe_lst (pa_cons (pv 5) (pa_nil))))) (pss_one (ps_set (i := 4) sc__law_steps_right.nd (by rfl) (by exact Or.inl rfl) (pe_ifExp (PW.pt (pw_and (pt_cmpR (opK K rNeR (op_neR hu) (by rfl)) (pe_ix (ixK K rIxAll (ix_all hu) (by rfl)) (pv 6) (pe_int) (by exact fun _ _ => rfl)) (pe_int) (nomark _)) (pw_and1 (pt_cmpR op_is (pv 4) (pe_non) (nomark _))))) (pe_op (opK K rAddAll op_addAll (by rfl)) (pv 5) (pe_int)) (pv 4))))) (pss_one (ps_setLc (i := 3) (own := [("i", 8)]) (by rfl) sc__law_steps_right.nd (by rfl) (by rfl) (sw_true (by rfl) (by rfl) (by rfl) (by decide +kernel)) (pi_anyK K (pv 3) (by rfl)) (blkOk_by (N := ["lot", "fights", "log", "here", "lost", "k", "entry", "behind", "i"]) (sc := defScope st__law_steps_right) (by decide +kernel)) (fun _ _ _ _ _ => pg_name (i := 8) sc__law_steps_right.nd (by rfl) (by first | exact Or.inl rfl | exact Or.inr rfl)) (fun _ _ _ _ _ => pts_one (pt_cmpR (opK K rNeR (op_neR hu) (by rfl)) (pe_slice (slK K rSlAll sl_all (by rfl)) (pe_ix (ixK K rIxAll (ix_all hu) (by rfl)) (pv 2) (pv 8) (by exact fun _ _ => rfl)) po_none (po_some (pe_int))) (pe_slice (slK K rSlAll sl_all (by rfl)) (pv 6) po_none (po_some (pe_int))) (nomark _))) (fun _ _ _ _ _ => pv 8)))) (pss_one (ps_if (pt_cmpR (opK K rNeR (op_neR hu) (by rfl)) (pe_callB (callK K rRepr (call_reprR hg hu) (by rfl)) (by rfl) fr_repr boot_repr (pa_cons (pe_callO G_rest hg hr (by omega) (by rfl) (pa_cons (pv 0) (pa_cons (pv 1) (pa_cons (pe_slice (slK K rSlAll sl_all (by rfl)) (pv 2) po_none (po_some (pe_op (opK K rAddAll op_addAll (by rfl)) (pv 5) (pe_int)))) (pa_nil))))) (pa_nil))) (pe_callB (callK K rRepr (call_reprR hg hu) (by rfl)) (by rfl) fr_repr boot_repr (pa_cons (pe_callTy (callK K rTupleOf call_tupleN (by rfl)) (by rfl) fr_tuple boot_tuple (pa_cons (pv 3) (pa_nil))) (pa_nil))) (nomark _)) (pss_one (ps_ret (pe_bl))) (pss_nil)))))) (pss_one (ps_ret (pe_cmpR (opK K rEqR (op_eqR hu) (by rfl)) (pe_callB (callK K rRepr (call_reprR hg hu) (by rfl)) (by rfl) fr_repr boot_repr (pa_cons (pe_callO G_lost_at hg hr (by omega) (by rfl) (pa_cons (pv 0) (pa_cons (pv 1) (pa_cons (pv 2) (pa_nil))))) (pa_nil))) (pe_callB (callK K rRepr (call_reprR hg hu) (by rfl)) (by rfl) fr_repr boot_repr (pa_cons (pv 4) (pa_nil))) (nomark _)))))), ?_⟩
  exact spA_of (fun o => sims_seq (sims_par (SimF.e (simF_lst (sim_lnil))) (sim_non)) (sims_seq (sims_for (simI_enum (sim_lcons (sim_var) (sim_lnil))) (simg_tup (n := 2) (simgs_cons (simg_name (i := 5)) (simgs_cons (simg_name (i := 6)) (simgs_nil)))) (sims_seq (sims_set (SimF.e (simF_lc (simIP_any (SimE.p (sim_var))) (simg_name (i := 8)) (sim_and (sim_tst (SimE.p (sim_op so_ne (SimE.p (sim_op so_ix (SimE.p (sim_var)) (SimE.p (sim_int)))) (SimE.p (sim_int))))) (sim_tst (SimE.p (sim_op (so_cmp (p := fun i j => decide (j < i))) (SimE.p (sim_var)) (SimE.p (sim_orE (sim_m sm_idxL (SimE.p (sim_var)) (sim_pcons (SimE.p (sim_op so_add (SimE.p (sim_sl ss_cut (SimE.p (sim_var)) sim_ono (sim_oyes (SimE.p (sim_int))))) (SimE.p (sim_tup (sim_lcons (sim_int) (sim_lnil)))))) (sim_pnil))) (sim_m sm_idxT (SimE.p (sim_var)) (sim_pcons (SimE.p (sim_op so_add (SimE.p (sim_sl ss_cut (SimE.p (sim_var)) sim_ono (sim_oyes (SimE.p (sim_int))))) (SimE.p (sim_tup (sim_lcons (sim_int) (sim_lnil)))))) (sim_pnil))))))))) (sim_var) (by decide)))) (sims_seq (sims_if (sim_or (sim_tst (SimE.p (sim_op so_eq (SimE.p (sim_op so_ix (SimE.p (sim_var)) (SimE.p (sim_int)))) (SimE.p (sim_int))))) (sim_truK (SimE.p (sim_b sb_any (sim_pcons (SimE.p (SimF.e (simF_lc (simIP_any (SimE.p (sim_var))) (simg_name (i := 8)) (sim_yes) (sim_callA (sim_acons (sim_var) (sim_acons (sim_var) (sim_acons (sim_sl ss_cut (SimE.p (sim_op so_ix (SimE.p (sim_var)) (SimE.p (sim_var)))) sim_ono (sim_oyes (SimE.p (sim_int)))) (sim_acons (sim_sl ss_cut (SimE.p (sim_var)) sim_ono (sim_oyes (SimE.p (sim_int)))) (sim_anil)))))) (by decide)))) (sim_pnil)))))) (sims_seq (sims_set (sim_op so_add (SimE.p (sim_var)) (SimE.p (SimF.e (simF_lst (sim_lcons (sim_var) (sim_lnil))))))) (sims_set (sim_ifE (sim_and (sim_tst (SimE.p (sim_op so_ne (SimE.p (sim_op so_ix (SimE.p (sim_var)) (SimE.p (sim_int)))) (SimE.p (sim_int))))) (sim_tst (SimE.p (sim_op (so_is (neg := false)) (SimE.p (sim_var)) (SimE.p (sim_non)))))) (sim_op so_add (SimE.p (sim_var)) (SimE.p (sim_int))) (sim_var)))) (sims_set (SimF.e (simF_lc (simIP_any (SimE.p (sim_var))) (simg_name (i := 8)) (sim_tst (SimE.p (sim_op so_ne (SimE.p (sim_sl ss_cut (SimE.p (sim_op so_ix (SimE.p (sim_var)) (SimE.p (sim_var)))) sim_ono (sim_oyes (SimE.p (sim_int))))) (SimE.p (sim_sl ss_cut (SimE.p (sim_var)) sim_ono (sim_oyes (SimE.p (sim_int)))))))) (sim_var) (by decide))))) (sims_if (sim_tst (SimE.p (sim_op so_ne (SimE.p (sim_b sb_repr (sim_pcons (SimE.p (sim_callA (sim_acons (sim_var) (sim_acons (sim_var) (sim_acons (sim_sl ss_cut (SimE.p (sim_var)) sim_ono (sim_oyes (SimE.p (sim_op so_add (SimE.p (sim_var)) (SimE.p (sim_int)))))) (sim_anil)))))) (sim_pnil)))) (SimE.p (sim_b sb_repr (sim_pcons (SimE.p (sim_b sb_tuple (sim_pcons (SimE.p (sim_var)) (sim_pnil)))) (sim_pnil))))))) (sims_ret (sim_bl)) (sims_next))))) (sims_ret (sim_op so_eq (SimE.p (sim_b sb_repr (sim_pcons (SimE.p (sim_callA (sim_acons (sim_var) (sim_acons (sim_var) (sim_acons (sim_var) (sim_anil)))))) (sim_pnil)))) (SimE.p (sim_b sb_repr (sim_pcons (SimE.p (sim_var)) (sim_pnil)))))))) (fun as Qd h => h.2) vs H Q E h
end
/-- what is left of the law: no program in it -/
def Plain (K : PySem.W.Frag) : Prop := bd_law K (ctlS fun d => d = .bool true) (.un :: .so :: List.replicate 10 .un)
section
variable {P : Program} {w : World} {K : PySem.W.Frag} {mg : Str → Option Value} {base : Heap}
theorem law_fn (pl : Plain K) (fx : Fx fal gsl fnl K mg) {fd : FuncData} (F : FunD K "law" "law" (defArgs st_law) (defBody st_law) (defScope st_law) [] [] (He.ga K "law") fd) (G__law_open_cells : OkF P w K mg base 1 "_law_open_cells" (spOpen K)) (G__law_draw_lot : OkF P w K mg base 28 "_law_draw_lot" (spA K ((wp__law_draw_lot) K))) (G__law_pick : OkF P w K mg base 1 "_law_pick" (spA K ((wpPick) K))) (G__law_draw_fights : OkF P w K mg base 26 "_law_draw_fights" (spA K ((wp__law_draw_fights) K))) (G__law_lawful_log : OkF P w K mg base 52 "_law_lawful_log" (spA K ((wp__law_lawful_log) K))) (G__law_draw_log : OkF P w K mg base 26 "_law_draw_log" (spA K ((wp__law_draw_log) K))) (G__law_rest : OkF P w K mg base 51 "_law_rest" (spA K ((wp__law_rest) K))) (G_rest : OkF P w K mg base 31 "rest" (spA K ((wp_rest) K))) (G__law_strikes_right : OkF P w K mg base 52 "_law_strikes_right" (spA K ((wp__law_strikes_right) K))) (G__law_deeds : OkF P w K mg base 25 "_law_deeds" (spA K ((wp__law_deeds) K))) (G_can_strike : OkF P w K mg base 29 "can_strike" (spA K ((wp_can_strike) K))) (G_may_undo : OkF P w K mg base 29 "may_undo" (spA K ((wp_may_undo) K))) (G__law_can_strike : OkF P w K mg base 51 "_law_can_strike" (spA K ((wp__law_can_strike) K))) (G__law_may_undo : OkF P w K mg base 51 "_law_may_undo" (spA K ((wp__law_may_undo) K))) (G__law_knots_right : OkF P w K mg base 52 "_law_knots_right" (spA K ((wp__law_knots_right) K))) (G__law_steps_right : OkF P w K mg base 51 "_law_steps_right" (spA K ((wp__law_steps_right) K))) : FnG P w K mg base CXn 53 (He.ga K "law") fd ["script"] (spLaw K) := by
  have fr_range := fx.free 58 "range"
  have fr_repr := fx.free 64 "repr"
  have fr_tuple := fx.free 56 "tuple"
  refine fnG_of F sc_law spLaw_len (fun cdv A outer s H vs Q E hg hr h => ?_)
  have hu := VL.hu_of hr
  have hu1 := L2.hu_of hr
  refine ⟨_, PSs.nox (pss_cons (ps_set (i := 1) sc_law.nd (by rfl) (by exact Or.inl rfl) (pe_callO G__law_open_cells hg hr (by omega) (by rfl) (pa_cons (pv 0) (pa_nil)))) (pss_cons (ps_for PassesOwn.never (by rfl) (pi_range1 (by rfl) fr_range (pa_cons (pe_int) (pa_nil))) (pg_name (i := 2) sc_law.nd (by rfl) (by first | exact Or.inl rfl | exact Or.inr rfl)) (pss_cons (ps_set (i := 3) sc_law.nd (by rfl) (by exact Or.inl rfl) (pe_callO G__law_draw_lot hg hr (by omega) (by rfl) (pa_cons (pv 1) (pa_cons (pe_op (opK K rAddAll op_addAll (by rfl)) (pe_int) (pe_callO G__law_pick hg hr (by omega) (by rfl) (pa_cons (pv 1) (pa_cons (pe_int) (pa_nil))))) (pa_cons (pe_int) (pa_nil)))))) (pss_cons (ps_par (i := 4) (j := 5) (by rfl) sc_law.nd (by rfl) (by rfl) (by decide) (by rfl) (by rfl) (pa_cons (pe_callO G__law_draw_fights hg hr (by omega) (by rfl) (pa_cons (pv 1) (pa_cons (pv 3) (pa_cons (pe_op (opK K rAddAll op_addAll (by rfl)) (pe_int) (pe_callO G__law_pick hg hr (by omega) (by rfl) (pa_cons (pv 1) (pa_cons (pe_int) (pa_nil))))) (pa_nil))))) (pa_cons (pe_op (opK K rAddAll op_addAll (by rfl)) (pe_int) (pe_callO G__law_pick hg hr (by omega) (by rfl) (pa_cons (pv 1) (pa_cons (pe_int) (pa_nil))))) (pa_nil))) (by rfl)) (pss_cons (ps_if (PW.pt (pw_and (pt_cmpR (opK K rEqR (op_eqR hu) (by rfl)) (pv 2) (pe_int) (nomark _)) (pw_and1 (pt_cmpR (opK K rEqR (op_eqR hu) (by rfl)) (pe_callO G__law_pick hg hr (by omega) (by rfl) (pa_cons (pv 1) (pa_cons (pe_int) (pa_nil)))) (pe_int) (nomark _))))) (pss_cons (ps_par (i := 3) (j := 5) (by rfl) sc_law.nd (by rfl) (by rfl) (by decide) (by rfl) (by rfl) (pa_cons (pe_callO G__law_draw_lot hg hr (by omega) (by rfl) (pa_cons (pv 1) (pa_cons (pe_int) (pa_cons (pe_int) (pa_nil))))) (pa_cons (pe_int) (pa_nil))) (by rfl)) (pss_one (ps_set (i := 4) sc_law.nd (by rfl) (by exact Or.inl rfl) (pe_callO G__law_draw_fights hg hr (by omega) (by rfl) (pa_cons (pv 1) (pa_cons (pv 3) (pa_cons (pe_op (opK K rAddAll op_addAll (by rfl)) (pe_int) (pe_callO G__law_pick hg hr (by omega) (by rfl) (pa_cons (pv 1) (pa_cons (pe_int) (pa_nil))))) (pa_nil)))))))) (pss_nil)) (pss_cons (ps_set (i := 6) sc_law.nd (by rfl) (by exact Or.inl rfl) (pe_ifExp (pt_cmpR (opK K rNeR (op_neR hu) (by rfl)) (pv 2) (pe_int) (nomark _)) (pe_callO G__law_lawful_log hg hr (by omega) (by rfl) (pa_cons (pv 1) (pa_cons (pv 3) (pa_cons (pv 4) (pa_cons (pv 5) (pa_nil)))))) (pe_callO G__law_draw_log hg hr (by omega) (by rfl) (pa_cons (pv 1) (pa_cons (pv 3) (pa_cons (pv 5) (pa_nil))))))) (pss_cons (ps_par (i := 7) (j := 8) (by rfl) sc_law.nd (by rfl) (by rfl) (by decide) (by rfl) (by rfl) (pa_cons (pe_callB (callK K rRepr (call_reprR hg hu) (by rfl)) (by rfl) fr_repr boot_repr (pa_cons (pe_lst (pa_cons (pv 3) (pa_cons (pv 4) (pa_cons (pv 6) (pa_nil))))) (pa_nil))) (pa_cons (pe_callO G__law_rest hg hr (by omega) (by rfl) (pa_cons (pv 3) (pa_cons (pv 4) (pa_cons (pv 6) (pa_nil))))) (pa_nil))) (by rfl)) (pss_cons (ps_if (PW.pt (pw_or (pt_cmpR (opK K rNeR (op_neR hu) (by rfl)) (pe_callB (callK K rRepr (call_reprR hg hu) (by rfl)) (by rfl) fr_repr boot_repr (pa_cons (pe_callO G_rest hg hr (by omega) (by rfl) (pa_cons (pv 3) (pa_cons (pv 4) (pa_cons (pv 6) (pa_nil))))) (pa_nil))) (pe_callB (callK K rRepr (call_reprR hg hu) (by rfl)) (by rfl) fr_repr boot_repr (pa_cons (pe_callTy (callK K rTupleOf call_tupleN (by rfl)) (by rfl) fr_tuple boot_tuple (pa_cons (pv 8) (pa_nil))) (pa_nil))) (nomark _)) (pw_or1 (pt_not (pt_truK K (pe_callO G__law_strikes_right hg hr (by omega) (by rfl) (pa_cons (pv 3) (pa_cons (pv 4) (pa_cons (pv 6) (pa_cons (pv 8) (pa_nil)))))) (by exact fun _ => rfl) (by rfl)))))) (pss_one (ps_ret (pe_bl))) (pss_nil)) (pss_cons (ps_for PassesOwn.never (by rfl) (pi_anyK K (pe_callO G__law_deeds hg hr (by omega) (by rfl) (pa_cons (pv 3) (pa_nil))) (by rfl)) (pg_name (i := 9) sc_law.nd (by rfl) (by first | exact Or.inl rfl | exact Or.inr rfl)) (pss_cons (ps_set (i := 10) sc_law.nd (by rfl) (by exact Or.inl rfl) (pe_lst (pa_cons (pe_callO G_can_strike hg hr (by omega) (by rfl) (pa_cons (pv 3) (pa_cons (pv 4) (pa_cons (pv 6) (pa_cons (pv 9) (pa_nil)))))) (pa_cons (pe_callO G_may_undo hg hr (by omega) (by rfl) (pa_cons (pv 3) (pa_cons (pv 4) (pa_cons (pv 6) (pa_cons (pv 9) (pa_nil)))))) (pa_nil))))) (pss_cons (ps_set (i := 11) sc_law.nd (by rfl) (by exact Or.inl rfl) (pe_lst (pa_cons (pe_callO G__law_can_strike hg hr (by omega) (by rfl) (pa_cons (pv 3) (pa_cons (pv 4) (pa_cons (pv 6) (pa_cons (pv 9) (pa_nil)))))) (pa_cons (pe_callO G__law_may_undo hg hr (by omega) (by rfl) (pa_cons (pv 3) (pa_cons (pv 4) (pa_cons (pv 6) (pa_cons (pv 9) (pa_nil)))))) (pa_nil))))) (pss_one (ps_if (pt_cmpR (opK K rNeR (op_neR hu) (by rfl)) (pe_callB (callK K rRepr (call_reprR hg hu) (by rfl)) (by rfl) fr_repr boot_repr (pa_cons (pv 10) (pa_nil))) (pe_callB (callK K rRepr (call_reprR hg hu) (by rfl)) (by rfl) fr_repr boot_repr (pa_cons (pv 11) (pa_nil))) (nomark _)) (pss_one (ps_ret (pe_bl))) (pss_nil)))))) (pss_cons (ps_if (PW.pt (pw_or (pt_not (pt_truK K (pe_callO G__law_knots_right hg hr (by omega) (by rfl) (pa_cons (pv 3) (pa_cons (pv 4) (pa_cons (pv 6) (pa_cons (pv 8) (pa_nil)))))) (by exact fun _ => rfl) (by rfl))) (pw_or1 (pt_not (pt_truK K (pe_callO G__law_steps_right hg hr (by omega) (by rfl) (pa_cons (pv 3) (pa_cons (pv 4) (pa_cons (pv 6) (pa_nil))))) (by exact fun _ => rfl) (by rfl)))))) (pss_one (ps_ret (pe_bl))) (pss_nil)) (pss_one (ps_if (pt_cmpR (opK K rNeR (op_neR hu) (by rfl)) (pe_callB (callK K rRepr (call_reprR hg hu) (by rfl)) (by rfl) fr_repr boot_repr (pa_cons (pe_lst (pa_cons (pv 3) (pa_cons (pv 4) (pa_cons (pv 6) (pa_nil))))) (pa_nil))) (pv 7) (nomark _)) (pss_one (ps_ret (pe_bl))) (pss_nil)))))))))))) (pss_one (ps_ret (pe_bl))))), ?_⟩
  exact law_start (N := ["script", "source", "lap", "lot", "fights", "many", "log", "held", "left", "deed", "told", "due"]) (by decide) (fun s c => (show SimS (Cf K (some (s, c))) _ (bd_law K) from (fun o => sims_seq (sims_for (simI_rng1 (sim_pcons (SimE.p (sim_int)) (sim_pnil))) (simg_name (i := 2)) (sims_seq (sims_set (sim_callA (sim_asrc (sim_acons (sim_op so_add (SimE.p (sim_int)) (SimE.p (sim_callA (sim_asrc (sim_acons (sim_int) (sim_anil)))))) (sim_acons (sim_int) (sim_anil)))))) (sims_seq (sims_par (sim_callA (sim_asrc (sim_acons (sim_var) (sim_acons (sim_op so_add (SimE.p (sim_int)) (SimE.p (sim_callA (sim_asrc (sim_acons (sim_int) (sim_anil)))))) (sim_anil))))) (sim_op so_add (SimE.p (sim_int)) (SimE.p (sim_callA (sim_asrc (sim_acons (sim_int) (sim_anil))))))) (sims_seq (sims_if (sim_and (sim_tst (SimE.p (sim_op so_eq (SimE.p (sim_var)) (SimE.p (sim_int))))) (sim_tst (SimE.p (sim_op so_eq (SimE.p (sim_callA (sim_asrc (sim_acons (sim_int) (sim_anil))))) (SimE.p (sim_int)))))) (sims_seq (sims_par (sim_callA (sim_asrc (sim_acons (sim_int) (sim_acons (sim_int) (sim_anil))))) (sim_int)) (sims_set (sim_callA (sim_asrc (sim_acons (sim_var) (sim_acons (sim_op so_add (SimE.p (sim_int)) (SimE.p (sim_callA (sim_asrc (sim_acons (sim_int) (sim_anil)))))) (sim_anil))))))) (sims_next)) (sims_seq (sims_set (sim_ifE (sim_tst (SimE.p (sim_op so_ne (SimE.p (sim_var)) (SimE.p (sim_int))))) (sim_callA (sim_asrc (sim_acons (sim_var) (sim_acons (sim_var) (sim_acons (sim_var) (sim_anil)))))) (sim_callA (sim_asrc (sim_acons (sim_var) (sim_acons (sim_var) (sim_anil))))))) (sims_seq (sims_par (sim_b sb_repr (sim_pcons (SimE.p (SimF.e (simF_lst (sim_lcons (sim_var) (sim_lcons (sim_var) (sim_lcons (sim_var) (sim_lnil))))))) (sim_pnil))) (sim_callA (sim_acons (sim_var) (sim_acons (sim_var) (sim_acons (sim_var) (sim_anil)))))) (sims_seq (sims_if (sim_or (sim_tst (SimE.p (sim_op so_ne (SimE.p (sim_b sb_repr (sim_pcons (SimE.p (sim_callA (sim_acons (sim_var) (sim_acons (sim_var) (sim_acons (sim_var) (sim_anil)))))) (sim_pnil)))) (SimE.p (sim_b sb_repr (sim_pcons (SimE.p (sim_b sb_tuple (sim_pcons (SimE.p (sim_var)) (sim_pnil)))) (sim_pnil))))))) (sim_not (sim_truK (SimE.p (sim_callA (sim_acons (sim_var) (sim_acons (sim_var) (sim_acons (sim_var) (sim_acons (sim_var) (sim_anil)))))))))) (sims_ret (sim_bl)) (sims_next)) (sims_seq (sims_for (simI_any (sim_callA (sim_acons (sim_var) (sim_anil)))) (simg_name (i := 9)) (sims_seq (sims_set (SimF.e (simF_lst (sim_lcons (sim_callA (sim_acons (sim_var) (sim_acons (sim_var) (sim_acons (sim_var) (sim_acons (sim_var) (sim_anil)))))) (sim_lcons (sim_callA (sim_acons (sim_var) (sim_acons (sim_var) (sim_acons (sim_var) (sim_acons (sim_var) (sim_anil)))))) (sim_lnil)))))) (sims_seq (sims_set (SimF.e (simF_lst (sim_lcons (sim_callA (sim_acons (sim_var) (sim_acons (sim_var) (sim_acons (sim_var) (sim_acons (sim_var) (sim_anil)))))) (sim_lcons (sim_callA (sim_acons (sim_var) (sim_acons (sim_var) (sim_acons (sim_var) (sim_acons (sim_var) (sim_anil)))))) (sim_lnil)))))) (sims_if (sim_tst (SimE.p (sim_op so_ne (SimE.p (sim_b sb_repr (sim_pcons (SimE.p (sim_var)) (sim_pnil)))) (SimE.p (sim_b sb_repr (sim_pcons (SimE.p (sim_var)) (sim_pnil))))))) (sims_ret (sim_bl)) (sims_next))))) (sims_seq (sims_if (sim_or (sim_not (sim_truK (SimE.p (sim_callA (sim_acons (sim_var) (sim_acons (sim_var) (sim_acons (sim_var) (sim_acons (sim_var) (sim_anil))))))))) (sim_not (sim_truK (SimE.p (sim_callA (sim_acons (sim_var) (sim_acons (sim_var) (sim_acons (sim_var) (sim_anil))))))))) (sims_ret (sim_bl)) (sims_next)) (sims_if (sim_tst (SimE.p (sim_op so_ne (SimE.p (sim_b sb_repr (sim_pcons (SimE.p (SimF.e (simF_lst (sim_lcons (sim_var) (sim_lcons (sim_var) (sim_lcons (sim_var) (sim_lnil))))))) (sim_pnil)))) (SimE.p (sim_var))))) (sims_ret (sim_bl)) (sims_next))))))))))) (sims_ret (sim_bl))) (some (s, c)))) pl vs H Q E h
theorem law_all (pl : Plain K) (fx : Fx fal gsl fnl K mg) {fd : FuncData} (F : FunD K "law" "law" (defArgs st_law) (defBody st_law) (defScope st_law) [] [] (He.ga K "law") fd) : FnG P w K mg base CXn 53 (He.ga K "law") fd ["script"] (spLaw K) := by
  have G_members_of : OkF P w K mg base 1 "members_of" (spA K ((wp_members_of) K)) := ok_members_of fx 
  have G_placed : OkF P w K mg base 25 "placed" (spA K ((fun K => wpR_placed K 24 0) K)) := okT_1 fx G_members_of 24
  have G_part_at : OkF P w K mg base 1 "part_at" (spA K ((wp_part_at) K)) := ok_part_at fx 
  have G_place_of : OkF P w K mg base 26 "place_of" (spA K ((wp_place_of) K)) := ok_place_of fx G_placed
  have G_common : OkF P w K mg base 1 "common" (spA K ((wp_common) K)) := ok_common fx 
  have G_relation : OkF P w K mg base 27 "relation" (spA K ((wp_relation) K)) := ok_relation fx G_place_of G_common G_part_at
  have G_is_number : OkF P w K mg base 1 "is_number" (spA K ((wp_is_number) K)) := ok_is_number fx 
  have G_do_fight : OkF P w K mg base 28 "do_fight" (spA K ((wp_do_fight) K)) := ok_do_fight fx G_relation
  have G_are_bound : OkF P w K mg base 29 "are_bound" (spA K ((wp_are_bound) K)) := ok_are_bound fx G_do_fight
  have G_standing_deeds : OkF P w K mg base 1 "standing_deeds" (spA K ((wp_standing_deeds) K)) := ok_standing_deeds fx 
  have G_can_strike : OkF P w K mg base 29 "can_strike" (spA K ((wp_can_strike) K)) := ok_can_strike fx G_do_fight
  have G_gone_through : OkF P w K mg base 30 "gone_through" (spA K ((wp_gone_through) K)) := ok_gone_through fx G_are_bound
  have G_rest : OkF P w K mg base 31 "rest" (spA K ((wp_rest) K)) := ok_rest fx G_gone_through
  have G_strikes : OkF P w K mg base 31 "strikes" (spA K ((wp_strikes) K)) := ok_strikes fx G_gone_through
  have G_may_undo : OkF P w K mg base 29 "may_undo" (spA K ((wp_may_undo) K)) := ok_may_undo fx G_standing_deeds G_do_fight
  have G_lost_at : OkF P w K mg base 32 "lost_at" (spA K ((wp_lost_at) K)) := ok_lost_at fx G_rest
  have G_knot : OkF P w K mg base 32 "knot" (spA K ((wp_knot) K)) := ok_knot fx G_rest G_do_fight
  have G_is_first_of_pair : OkF P w K mg base 1 "is_first_of_pair" (spA K ((wp_is_first_of_pair) K)) := ok_is_first_of_pair fx 
  have G_is_within : OkF P w K mg base 1 "is_within" (spA K ((wp_is_within) K)) := ok_is_within fx 
  have G_is_last_right : OkF P w K mg base 1 "is_last_right" (spA K ((wp_is_last_right) K)) := ok_is_last_right fx 
  have G_judge_knot : OkF P w K mg base 29 "judge_knot" (spA K ((wp_judge_knot) K)) := ok_judge_knot fx G_is_number G_is_first_of_pair G_is_within G_is_last_right G_do_fight
  have G__law_open_cells : OkF P w K mg base 1 "_law_open_cells" (spOpen K) := ok__law_open_cells fx 
  have G__law_pick : OkF P w K mg base 1 "_law_pick" (spA K ((wpPick) K)) := ok__law_pick fx 
  have G__law_any_order : OkF P w K mg base 2 "_law_any_order" (spA K ((wpAnyOrder) K)) := ok__law_any_order fx G__law_pick
  have G__law_of : OkF P w K mg base 2 "_law_of" (spA K ((wp__law_of) K)) := ok__law_of fx G__law_pick
  have G__law_chunks : OkF P w K mg base 3 "_law_chunks" (spA K ((wp__law_chunks) K)) := ok__law_chunks fx G__law_any_order
  have G__law_any_plan : OkF P w K mg base 27 "_law_any_plan" (spA K ((fun K => wpR__law_any_plan K 24 0) K)) := okT_26 fx G__law_pick G__law_of G__law_chunks 24
  have G__law_draw_lot : OkF P w K mg base 28 "_law_draw_lot" (spA K ((wp__law_draw_lot) K)) := ok__law_draw_lot fx G__law_any_order G__law_pick G__law_any_plan
  have G__law_names : OkF P w K mg base 24 "_law_names" (spA K ((fun K => wpR__law_names K 24 0) K)) := okT_28 fx  24
  have G__law_deeds : OkF P w K mg base 25 "_law_deeds" (spA K ((wp__law_deeds) K)) := ok__law_deeds fx G__law_names
  have G__law_down : OkF P w K mg base 48 "_law_down" (spA K ((fun K => wpR__law_down K 24 0) K)) := okT_30 fx G__law_names 24
  have G__law_are_rowed : OkF P w K mg base 49 "_law_are_rowed" (spA K ((wp__law_are_rowed) K)) := ok__law_are_rowed fx G__law_down
  have G__law_fight : OkF P w K mg base 50 "_law_fight" (spA K ((wp__law_fight) K)) := ok__law_fight fx G__law_are_rowed
  have G__law_draw_fights : OkF P w K mg base 26 "_law_draw_fights" (spA K ((wp__law_draw_fights) K)) := ok__law_draw_fights fx G__law_deeds G__law_pick
  have G__law_draw_log : OkF P w K mg base 26 "_law_draw_log" (spA K ((wp__law_draw_log) K)) := ok__law_draw_log fx G__law_deeds G__law_of
  have G__law_undoing : OkF P w K mg base 1 "_law_undoing" (spA K ((wp__law_undoing) K)) := ok__law_undoing fx 
  have G__law_rest : OkF P w K mg base 51 "_law_rest" (spA K ((wp__law_rest) K)) := ok__law_rest fx G__law_undoing G__law_fight
  have G__law_stand : OkF P w K mg base 2 "_law_stand" (spA K ((wp__law_stand) K)) := ok__law_stand fx G__law_undoing
  have G__law_is_number : OkF P w K mg base 1 "_law_is_number" (spA K ((wp__law_is_number) K)) := ok__law_is_number fx 
  have G__law_are_numbers : OkF P w K mg base 2 "_law_are_numbers" (spA K ((wp__law_are_numbers) K)) := ok__law_are_numbers fx G__law_is_number
  have G__law_knot_fault : OkF P w K mg base 51 "_law_knot_fault" (spA K ((wp__law_knot_fault) K)) := ok__law_knot_fault fx G__law_are_numbers G__law_undoing G__law_fight
  have G__law_may_undo : OkF P w K mg base 51 "_law_may_undo" (spA K ((wp__law_may_undo) K)) := ok__law_may_undo fx G__law_stand G__law_fight
  have G__law_lawful_log : OkF P w K mg base 52 "_law_lawful_log" (spA K ((wp__law_lawful_log) K)) := ok__law_lawful_log fx G__law_deeds G__law_of G__law_may_undo G__law_pick
  have G__law_can_strike : OkF P w K mg base 51 "_law_can_strike" (spA K ((wp__law_can_strike) K)) := ok__law_can_strike fx G__law_fight
  have G__law_strikes_right : OkF P w K mg base 52 "_law_strikes_right" (spA K ((wp__law_strikes_right) K)) := ok__law_strikes_right fx G_strikes G__law_can_strike G_can_strike
  have G__law_knots_right : OkF P w K mg base 52 "_law_knots_right" (spA K ((wp__law_knots_right) K)) := ok__law_knots_right fx G_knot G__law_knot_fault G_judge_knot
  have G__law_steps_right : OkF P w K mg base 51 "_law_steps_right" (spA K ((wp__law_steps_right) K)) := ok__law_steps_right fx G__law_fight G_rest G_lost_at
  exact law_fn pl fx F G__law_open_cells G__law_draw_lot G__law_pick G__law_draw_fights G__law_lawful_log G__law_draw_log G__law_rest G_rest G__law_strikes_right G__law_deeds G_can_strike G_may_undo G__law_can_strike G__law_may_undo G__law_knots_right G__law_steps_right
end
end W_k17

set_option Elab.async false
set_option linter.all false
set_option maxRecDepth 100000
set_option maxHeartbeats 4000000
/-! V1 (k17): striking, without any program: positions of a log, u: is an undoing, f: where its doing stands, g: whether the deeds at two positions fight. -/
namespace PL
structure Lg where
  u : Nat → Bool
  f : Nat → Nat
  g : Nat → Nat → Bool
  lt : ∀ k, u k = true → f k < k
  dn : ∀ k, u k = true → u (f k) = false
  gf : ∀ k, u k = true → ∀ j, g j (f k) = g j k
  sym : ∀ i j, g i j = g j i
namespace Lg
variable (L : Lg)
/-- not struck -/
def alive (G : List Nat) (i : Nat) : Bool := !decide (i ∈ G) && G.all fun k => !decide (L.f k = i)
variable {L}
theorem alive_iff {G : List Nat} {i : Nat} : L.alive G i = true ↔ i ∉ G ∧ ∀ k ∈ G, L.f k ≠ i := by
  unfold alive
  rw [Bool.and_eq_true, List.all_eq_true]
  simp
theorem alive_mono {G G' : List Nat} {i : Nat} (h : ∀ k ∈ G, k ∈ G') (a : L.alive G' i = true) : L.alive G i = true := by
  rw [alive_iff] at a ⊢
  exact ⟨fun z => a.1 (h i z), fun k hk => a.2 k (h k hk)⟩
/-- nothing alive between fights -/
def free (L : Lg) (G : List Nat) (k : Nat) : Prop := ∀ i, L.f k < i → i < k → L.alive G i = true → L.g i k = false
def Valid (L : Lg) (G : List Nat) : Prop := ∀ A k B, G = A ++ k :: B → L.u k = true ∧ L.free A k
def Irred (L : Lg) (n : Nat) (G : List Nat) : Prop := ∀ k, k < n → L.u k = true → k ∉ G → ¬ L.free G k
theorem valid_sub {n : Nat} {A B : List Nat} (va : L.Valid A) (ib : L.Irred n B) (ha : ∀ k ∈ A, k < n) : ∀ k ∈ A, k ∈ B := by
  have key : ∀ A2 A1 : List Nat, A = A1 ++ A2 → (∀ k ∈ A1, k ∈ B) → ∀ k ∈ A, k ∈ B := by
    intro A2
    induction A2 with
    | nil => intro A1 e h k hk; rw [e, List.append_nil] at hk; exact h k hk
    | cons x A2 ih =>
      intro A1 e h
      refine ih (A1 ++ [x]) (by rw [e]; simp) fun k hk => ?_
      rcases List.mem_append.mp hk with z | z
      · exact h k z
      · rw [List.mem_singleton.mp z]
        obtain ⟨hu, hf⟩ := va A1 x A2 e
        by_cases hx : x ∈ B
        · exact hx
        · exact absurd (fun i h1 h2 h3 => hf i h1 h2 (alive_mono h h3)) (ib x (ha x (by rw [e]; simp)) hu hx)
  exact key A [] rfl (by simp)
theorem valid_snoc {G : List Nat} {k : Nat} (v : L.Valid G) (hu : L.u k = true) (hf : L.free G k) : L.Valid (G ++ [k]) := by
  intro A x B e
  rcases List.eq_nil_or_concat B with z | ⟨B', y, z⟩
  · subst z
    have := List.append_inj' e rfl
    obtain ⟨rfl, h2⟩ := this
    cases h2
    exact ⟨hu, hf⟩
  · rw [List.concat_eq_append] at z
    subst z
    have e2 : G ++ [k] = (A ++ x :: B') ++ [y] := by rw [e]; simp
    obtain ⟨h1, _⟩ := List.append_inj' e2 rfl
    exact v A x B' h1
/-- one going through: (kept, gone) -/
noncomputable def st (L : Lg) (s : List Nat × List Nat) (k : Nat) : List Nat × List Nat :=
  if L.u k = false then (s.1 ++ [k], s.2) else if (s.1.any fun i => decide (L.f k < i) && L.g i k) = true then (s.1 ++ [k], s.2) else (s.1.erase (L.f k), s.2 ++ [k])
noncomputable def gt (L : Lg) : Nat → List Nat × List Nat
  | 0 => ([], [])
  | n + 1 => L.st (gt L n) n
structure Ok (L : Lg) (n : Nat) (s : List Nat × List Nat) : Prop where
  kept : s.1 = (List.range n).filter (L.alive s.2)
  lt : ∀ k ∈ s.2, k < n
  valid : L.Valid s.2
  irred : L.Irred n s.2
theorem filter_erase {P Q : Nat → Bool} {xs : List Nat} (hn : xs.Nodup) {a : Nat} (h : ∀ x ∈ xs, Q x = (P x && !decide (x = a))) : (xs.filter P).erase a = xs.filter Q := by
  rw [List.Nodup.erase_eq_filter (hn.filter P), List.filter_filter]
  refine List.filter_congr fun x hx => ?_
  rw [h x hx]
  by_cases e : x = a <;> cases P x <;> simp [e, bne]
theorem gt_ok : ∀ n, L.Ok n (L.gt n)
  | 0 => ⟨rfl, by simp [gt], fun A k B e => by simp [gt] at e, fun k hk => by omega⟩
  | n + 1 => by
    have o := gt_ok n
    generalize hs : L.gt n = s at o
    have hgt : L.gt (n + 1) = L.st s n := by rw [gt, hs]
    rw [hgt]
    obtain ⟨K, G⟩ := s
    obtain ⟨hk, hl, hv, hi⟩ := o
    simp only at hk hl hv hi
    have hal : L.alive G n = true := by
      rw [alive_iff]
      refine ⟨fun z => by have := hl n z; omega, fun k hk2 e => ?_⟩
      have h1 := hl k hk2
      obtain ⟨A, B, e2⟩ := List.append_of_mem hk2
      have := L.lt k (hv A k B e2).1
      omega
    have keep : K ++ [n] = (List.range (n + 1)).filter (L.alive G) := by
      rw [List.range_succ, List.filter_append, ← hk]
      simp [hal]
    unfold st
    by_cases hu : L.u n = false
    · rw [if_pos hu]
      refine ⟨keep, fun k hk2 => Nat.lt_succ_of_lt (hl k hk2), hv, fun k hkn huk hkg => ?_⟩
      have hne : k ≠ n := fun e => by rw [e, hu] at huk; cases huk
      exact hi k (by omega) huk hkg
    · rw [if_neg hu]
      have hu : L.u n = true := by simpa using hu
      have memK : ∀ i, i ∈ K ↔ i < n ∧ L.alive G i = true := fun i => by rw [hk, List.mem_filter, List.mem_range]
      by_cases hany : (K.any fun i => decide (L.f n < i) && L.g i n) = true
      · rw [if_pos hany]
        refine ⟨keep, fun k hk2 => Nat.lt_succ_of_lt (hl k hk2), hv, fun k hkn huk hkg => ?_⟩
        by_cases hne : k = n
        · subst hne
          intro hfree
          obtain ⟨i, hiK, hgi⟩ := List.any_eq_true.mp hany
          rw [Bool.and_eq_true, decide_eq_true_eq] at hgi
          obtain ⟨h1, h2⟩ := (memK i).mp hiK
          have := hfree i hgi.1 h1 h2
          rw [hgi.2] at this
          cases this
        · exact hi k (by omega) huk hkg
      · rw [if_neg hany]
        have hfr : L.free G n := fun i h1 h2 h3 => by
          cases hg : L.g i n with
          | false => rfl
          | true => exact absurd (List.any_eq_true.mpr ⟨i, (memK i).mpr ⟨h2, h3⟩, by simp [h1, hg]⟩) hany
        have hfn := L.lt n hu
        have al2 : ∀ i, L.alive (G ++ [n]) i = (L.alive G i && (!decide (i = n) && !decide (i = L.f n))) := fun i => by
          unfold alive
          have e1 : decide (i ∈ G ++ [n]) = (decide (i ∈ G) || decide (i = n)) := by simp
          have e2 : decide (L.f n = i) = decide (i = L.f n) := by
            by_cases h : i = L.f n <;> simp [h, eq_comm]
          rw [e1, List.all_append, List.all_cons, List.all_nil, Bool.and_true, e2]
          cases decide (i ∈ G) <;> cases decide (i = n) <;> cases (G.all fun k => !decide (L.f k = i)) <;> cases decide (i = L.f n) <;> rfl
        refine ⟨?_, fun k hk2 => ?_, valid_snoc hv hu hfr, fun k hkn huk hkg => ?_⟩
        · show K.erase (L.f n) = (List.range (n + 1)).filter (L.alive (G ++ [n]))
          rw [List.range_succ, List.filter_append, hk]
          have : [n].filter (L.alive (G ++ [n])) = [] := by simp [al2]
          rw [this, List.append_nil]
          refine filter_erase List.nodup_range fun x hx => ?_
          have hx := List.mem_range.mp hx
          have hxn : ¬ x = n := by omega
          rw [al2]
          simp [hxn]
        · rcases List.mem_append.mp hk2 with z | z
          · exact Nat.lt_succ_of_lt (hl k z)
          · rw [List.mem_singleton.mp z]; omega
        · have hkn' : k ≠ n := fun e => hkg (by rw [e]; simp)
          have hkG : k ∉ G := fun z => hkg (List.mem_append_left _ z)
          have hnf := hi k (by omega) huk hkG
          intro hfree
          refine hnf fun i h1 h2 h3 => ?_
          cases hg : L.g i k with
          | false => rfl
          | true =>
            exfalso
            by_cases hif : i = L.f n
            · -- k is alive behind i and fights it
              have hka : L.alive G k = true := by
                rw [alive_iff]
                refine ⟨hkG, fun j hj e => ?_⟩
                obtain ⟨A, B, e2⟩ := List.append_of_mem hj
                have := L.dn j (hv A j B e2).1
                rw [e, huk] at this
                cases this
              have := hfr k (by omega) (by omega) hka
              rw [← L.gf n hu, ← hif, L.sym, hg] at this
              cases this
            · have hin : ¬ i = n := by omega
              have := hfree i h1 h2 (by rw [al2]; simp [h3, hin, hif])
              rw [hg] at this
              cases this
end Lg
end PL

set_option Elab.async false
set_option linter.all false
set_option maxRecDepth 100000
set_option maxHeartbeats 4000000
namespace W_k17
open PySem VL PL PL.Plan
section
variable {K : PySem.W.Frag} {Qd : PyData → Prop}
theorem seq_gen {a b : DS} {D : Ctl} {ρ : Vn} (h : ∀ k : DS, k = b → a { D with nx := k D } ρ) : dSeq a b D ρ := h b rfl
end
end W_k17
namespace W_k17
open PySem VL PL PL.Plan
section
variable {K : PySem.W.Frag} {Qd : PyData → Prop}
theorem s_members_of {p : Plan} (h : Qd (.tuple ((mems p).map d))) : Cl (wp_members_of K) [.d p.d] Qd := by
  refine ⟨rfl, ?_⟩
  cases p with
  | deed n k => simpa [bd_members_of, env0, Plan.d] using h
  | grp w l => cases w <;> simpa [bd_members_of, env0, Plan.d, ds_map, Gw.s] using h
end
end W_k17
namespace W_k17
open PySem VL PL PL.Plan
section
variable {K : PySem.W.Frag} {Qd : PyData → Prop}
def pq (q : List Nat × Plan) : PyData := .tuple [pl q.1, q.2.d]
end
end W_k17
namespace W_k17
open PySem VL PL PL.Plan
section
variable {K : PySem.W.Frag} {Qd : PyData → Prop}
theorem s_placed : ∀ (n : Nat) (p : Plan) (Qd : PyData → Prop), height p ≤ n → n ≤ 1000 → nodes p ≤ 1000 → Qd (.list ((placed p).map pq)) → Cl (wpR_placed K n 0) [.d p.d] Qd := by
  intro n
  induction n with
  | zero => intro p Qd h; cases p <;> simp [height] at h
  | succ n ih =>
    intro p Qd hh hn1 hn h
    refine ⟨rfl, ?_⟩
    simp [bd_placed, env0]
    refine s_members_of ?_
    simp only [srcD]
    refine forE_0 d (fun i ms ρ => (∀ m ∈ ms, m ∈ mems p) ∧ ∃ (acc : List (List Nat × Plan)) (s2 s3 : Slot), ρ = [.sh p.d, .sh (.list (acc.map pq)), s2, s3, .un, .un] ∧ acc ++ placedL i ms = placed p) ⟨fun _ h => h, [([], p)], _, _, rfl, (placed_eq p).symm⟩ (fun i m ms ρ hP D' e1 e2 hD => ?_) fun i ρ hP => ?_
    · obtain ⟨hm, acc, s2, s3, rfl, e⟩ := hP
      have hmm := hm m (List.mem_cons_self ..)
      simp
      refine ih m _ (by have := mems_height hmm; omega) (by omega) (by have := mems_nodes hmm; omega) ?_
      simp only [srcD]
      have hln : acc.length + (placed m).length ≤ 1000 := by
        have := congrArg List.length e
        rw [placedL_cons] at this
        simp [placed_len] at this
        rw [placed_len]
        omega
      refine lcD_map pq (fun q => pq (i :: q.1, q.2)) _ (fun q hq k hk => ?_) ?_
      · have := (placed_depth m q hq).1
        have := mems_height hmm
        simp [pq]
        exact ⟨by omega, by simpa [pq] using hk⟩
      · simp
        refine ⟨by omega, (hD _ ⟨fun m h => hm m (List.mem_cons_of_mem _ h), acc ++ (placed m).map (fun q => (i :: q.1, q.2)), .sh (.int i), .sh m.d, ?_, ?_⟩).1⟩
        · simp
        · rw [← e, placedL_cons, List.append_assoc]
    · obtain ⟨hm, acc, s2, s3, rfl, e⟩ := hP
      simp [placedL] at e
      subst e
      simpa using h
end
end W_k17
namespace PL.Plan

section

def Leads : Plan → List Nat → Plan → Prop
  | p, [], r => p = r
  | p, i :: q, r => ∃ m, (mems p)[i]? = some m ∧ Leads m q r
end
end PL.Plan
namespace PL.Plan

section

mutual
theorem placed_leads : ∀ (p : Plan) (q : List Nat) (r : Plan), (q, r) ∈ placed p → Leads p q r
  | deed n k, q, r, h => by
    have e : q = [] ∧ r = deed n k := by simpa [placed] using h
    rw [e.1, e.2]
    rfl
  | grp w ms, q, r, h => by
    rw [placed, List.mem_cons] at h
    rcases h with e | h
    · cases e
      rfl
    · obtain ⟨j, q', m, e, h1, h2⟩ := placedL_leads 0 ms q r h
      rw [e]
      exact ⟨m, by simpa using h1, h2⟩
theorem placedL_leads : ∀ (i : Nat) (ms : List Plan) (q : List Nat) (r : Plan), (q, r) ∈ placedL i ms → ∃ j q' m, q = (i + j) :: q' ∧ ms[j]? = some m ∧ Leads m q' r
  | _, [], q, r, h => by simp [placedL] at h
  | i, p :: ps, q, r, h => by
    rw [placedL, List.mem_append] at h
    rcases h with h | h
    · obtain ⟨⟨q', r'⟩, hr, e⟩ := List.mem_map.mp h
      cases e
      exact ⟨0, q', p, rfl, rfl, placed_leads p q' r' hr⟩
    · obtain ⟨j, q', m, e, h1, h2⟩ := placedL_leads (i + 1) ps q r h
      exact ⟨j + 1, q', m, by rw [e]; congr 1; omega, by simpa using h1, h2⟩
end
end
end PL.Plan
namespace PL.Plan

section

theorem leads_ok : ∀ {q : List Nat} {p r : Plan}, Leads p q r → ok p → ok r
  | [], p, r, h, o => by
    have e : p = r := h
    rw [← e]; exact o
  | i :: q, p, r, ⟨m, h1, h2⟩, o => by
    refine leads_ok h2 ?_
    cases p with
    | deed n k => simp at h1
    | grp w ms => exact okL_mem o.2 m (List.mem_of_getElem? h1)
end
end PL.Plan
namespace PL.Plan

section

theorem leads_height : ∀ {q : List Nat} {p r : Plan}, Leads p q r → height r + q.length ≤ height p ∧ nodes r ≤ nodes p
  | [], p, r, h => by
    have e : p = r := h
    rw [← e]; exact ⟨Nat.le_refl _, Nat.le_refl _⟩
  | i :: q, p, r, ⟨m, h1, h2⟩ => by
    have := leads_height h2
    have hm := List.mem_of_getElem? h1
    have a := mems_height hm
    have b := mems_nodes hm
    simp only [List.length_cons]
    omega
end
end PL.Plan
namespace PL.Plan
open PySem VL
section

def names (p : Plan) : List Str := (deeds p).map (·.1)
end
end PL.Plan
namespace PL.Plan
open PySem VL
section

theorem names_mem {w : Gw} {ms : List Plan} {m : Plan} (hm : m ∈ ms) : ∀ n ∈ names m, n ∈ names (grp w ms) := by
  intro n hn
  obtain ⟨x, hx, e⟩ := List.mem_map.mp hn
  refine List.mem_map.mpr ⟨x, ?_, e⟩
  rw [deeds, deedsL_flat]
  exact List.mem_flatten.mpr ⟨deeds m, List.mem_map.mpr ⟨m, hm, rfl⟩, hx⟩
end
end PL.Plan
namespace PL.Plan
open PySem VL
section

theorem d_grp (w : Gw) (ms : List Plan) : (grp w ms).d = .tuple [.str w.s, .tuple (ms.map d)] := by simp [Plan.d, ds_map]
end
end PL.Plan
namespace W_k17
open PySem VL PL PL.Plan
section
variable {K : PySem.W.Frag} {Qd : PyData → Prop}
theorem names_grp (w : Gw) (ms : List Plan) : names (grp w ms) = (ms.map names).flatten := by
  unfold names
  rw [deeds, deedsL_flat, List.map_flatten, List.map_map]
  rfl
end
end W_k17
namespace PL
open PySem VL PL.Plan
section

theorem split_at {α : Type} {xs : List α} {i : Nat} {x : α} (h : xs[i]? = some x) : xs = xs.take i ++ x :: xs.drop (i + 1) := by
  have hi : i < xs.length := (List.getElem?_eq_some_iff.mp h).1
  have e : xs[i] = x := (List.getElem?_eq_some_iff.mp h).2
  rw [← e, ← List.drop_eq_getElem_cons hi, List.take_append_drop]
end
end PL
namespace PL
open PySem VL PL.Plan
section
variable {σ τ : Str → Wd} {pins : List Str}
theorem nodup_member {w : Gw} {A B : List Plan} {y : Plan} (hn : (names (grp w (A ++ y :: B))).Nodup) {n : Str} (hy : n ∈ names y) : (names y).Nodup ∧ ∀ m ∈ A ++ B, n ∉ names m := by
  rw [W_k17.names_grp] at hn
  simp only [List.map_append, List.map_cons, List.flatten_append, List.flatten_cons] at hn
  rw [List.nodup_append] at hn
  obtain ⟨h1, h2, h3⟩ := hn
  rw [List.nodup_append] at h2
  obtain ⟨h4, h5, h6⟩ := h2
  refine ⟨h4, fun m hm hc => ?_⟩
  rcases List.mem_append.mp hm with z | z
  · exact h3 n (List.mem_flatten.mpr ⟨names m, List.mem_map.mpr ⟨m, z, rfl⟩, hc⟩) n (List.mem_append_left _ hy) rfl
  · exact h6 n hy n (List.mem_flatten.mpr ⟨names m, List.mem_map.mpr ⟨m, z, rfl⟩, hc⟩) rfl
end
end PL
namespace PL
open PySem VL PL.Plan
section
variable {σ τ : Str → Wd} {pins : List Str}
theorem split_cmp {α : Type} : ∀ {A A1 B B1 : List α} {y t : α}, A ++ y :: B = A1 ++ t :: B1 → (∃ C, A1 = A ++ y :: C ∧ B = C ++ t :: B1) ∨ (A = A1 ∧ y = t ∧ B = B1) ∨ ∃ C, A = A1 ++ t :: C ∧ B1 = C ++ y :: B
  | [], [], _, _, _, _, h => by
    simp at h
    exact .inr (.inl ⟨rfl, h.1, h.2⟩)
  | [], a :: A1, _, _, _, _, h => by
    simp at h
    exact .inl ⟨A1, by rw [h.1]; rfl, h.2⟩
  | a :: A, [], _, _, _, _, h => by
    simp at h
    exact .inr (.inr ⟨A, by rw [h.1]; rfl, h.2.symm⟩)
  | a :: A, b :: A1, _, _, _, _, h => by
    simp at h
    rcases split_cmp h.2 with ⟨C, e1, e2⟩ | ⟨e1, e2, e3⟩ | ⟨C, e1, e2⟩
    · exact .inl ⟨C, by rw [h.1, e1]; rfl, e2⟩
    · exact .inr (.inl ⟨by rw [h.1, e1], e2, e3⟩)
    · exact .inr (.inr ⟨C, by rw [h.1, e1]; rfl, e2⟩)
end
end PL
namespace PL
open PySem VL PL.Plan
section
variable {σ τ : Str → Wd} {pins : List Str}
theorem split_same {w : Gw} {A A1 B B1 : List Plan} {y t : Plan} (hn : (names (grp w (A ++ y :: B))).Nodup) (e : A ++ y :: B = A1 ++ t :: B1) {n : Str} (hy : n ∈ names y) (ht : n ∈ names t) : A = A1 ∧ y = t ∧ B = B1 := by
  have := (nodup_member hn hy).2
  rcases split_cmp e with ⟨C, e1, e2⟩ | h | ⟨C, e1, e2⟩
  · exact absurd ht (this t (by rw [e2]; simp))
  · exact h
  · exact absurd ht (this t (by rw [e1]; simp))
end
end PL
namespace PL
open PySem VL PL.Plan
section

theorem leads_names : ∀ {q : List Nat} {p r : Plan}, Leads p q r → ∀ x ∈ names r, x ∈ names p
  | [], p, r, h, x, hx => by
    have e : p = r := h
    rw [e]; exact hx
  | i :: q, p, r, ⟨m, h1, h2⟩, x, hx => by
    have := leads_names h2 x hx
    cases p with
    | deed n k => simp at h1
    | grp w ms => exact names_mem (List.mem_of_getElem? h1) x this
end
end PL
namespace PL
open PySem VL PL.Plan
section

theorem index_same {w : Gw} {ms : List Plan} (hn : (names (grp w ms)).Nodup) {i j : Nat} {a b : Plan} (ha : ms[i]? = some a) (hb : ms[j]? = some b) {n : Str} (h1 : n ∈ names a) (h2 : n ∈ names b) : i = j := by
  have e := split_at ha
  have e2 := split_at hb
  rw [e] at hn
  have hi : i < ms.length := (List.getElem?_eq_some_iff.mp ha).1
  have hj : j < ms.length := (List.getElem?_eq_some_iff.mp hb).1
  obtain ⟨h, _, _⟩ := split_same hn (e.symm.trans e2) h1 h2
  have := congrArg List.length h
  simp at this
  omega
end
end PL
namespace PL
open PySem VL PL.Plan
section

theorem leads_same : ∀ {q q' : List Nat} {p : Plan} {n : Str} {k k' : Kd}, (names p).Nodup → Leads p q (deed n k) → Leads p q' (deed n k') → q = q' ∧ k = k'
  | [], [], p, n, k, k', _, h, h' => by
    have e : p = deed n k := h
    have e' : p = deed n k' := h'
    rw [e] at e'
    cases e'
    exact ⟨rfl, rfl⟩
  | [], j :: q', p, n, k, k', _, h, h' => by
    have e : p = deed n k := h
    obtain ⟨m, h1, _⟩ := h'
    rw [e] at h1
    simp at h1
  | i :: q, [], p, n, k, k', _, h, h' => by
    have e : p = deed n k' := h'
    obtain ⟨m, h1, _⟩ := h
    rw [e] at h1
    simp at h1
  | i :: q, j :: q', p, n, k, k', hn, h, h' => by
    obtain ⟨m, h1, h2⟩ := h
    obtain ⟨m', h1', h2'⟩ := h'
    cases p with
    | deed a b => simp at h1
    | grp w ms =>
      have hm := leads_names h2 n (by simp [names, deeds])
      have hm' := leads_names h2' n (by simp [names, deeds])
      have e := index_same hn h1 h1' hm hm'
      subst e
      rw [h1] at h1'
      cases h1'
      have e2 : ms = ms.take i ++ m :: ms.drop (i + 1) := split_at h1
      rw [e2] at hn
      obtain ⟨e3, e4⟩ := leads_same (nodup_member hn hm).1 h2 h2'
      exact ⟨by rw [e3], e4⟩
end
end PL
namespace PL
open PySem VL PL.Plan
section

theorem leads_placed : ∀ {q : List Nat} {p r : Plan}, Leads p q r → (q, r) ∈ placed p
  | [], p, r, h => by
    have e : p = r := h
    rw [placed_eq, e]; simp
  | i :: q, p, r, ⟨m, h1, h2⟩ => by
    rw [placed_eq]
    refine List.mem_cons_of_mem _ ?_
    have key : ∀ (ms : List Plan) (i j : Nat) (m : Plan), ms[i]? = some m → (q, r) ∈ placed m → ((j + i) :: q, r) ∈ placedL j ms := by
      intro ms
      induction ms with
      | nil => intro i j m h; simp at h
      | cons x ms ih =>
        intro i j m h hq
        rw [placedL, List.mem_append]
        cases i with
        | zero =>
          simp at h
          subst h
          exact .inl (List.mem_map.mpr ⟨(q, r), hq, rfl⟩)
        | succ i =>
          right
          have := ih i (j + 1) m (by simpa using h) hq
          rw [show j + (i + 1) = j + 1 + i by omega]
          exact this
    have := key (mems p) i 0 m h1 (leads_placed h2)
    simpa using this
end
end PL
namespace PL
open PySem VL PL.Plan
section

theorem deed_leads {p : Plan} {n : Str} {k : Kd} (h : (n, k) ∈ deeds p) : ∃ q, Leads p q (deed n k) := by
  rw [← placed_deeds, List.mem_filterMap] at h
  obtain ⟨⟨q, r⟩, h1, h2⟩ := h
  cases r with
  | deed a b =>
    simp at h2
    rw [h2.1, h2.2] at h1
    exact ⟨q, placed_leads p q _ h1⟩
  | grp w ms => simp at h2
end
end PL
namespace PL
open PySem VL PL.Plan
section

theorem leads_deed {p : Plan} {q : List Nat} {n : Str} {k : Kd} (h : Leads p q (deed n k)) : (n, k) ∈ deeds p := by
  rw [← placed_deeds, List.mem_filterMap]
  exact ⟨(q, deed n k), leads_placed h, rfl⟩
end
end PL
namespace W_k17
open PySem VL PL PL.Plan
section
variable {K : PySem.W.Frag} {Qd : PyData → Prop}
theorem s_part_at {p r : Plan} {q : List Nat} (hq : Leads p q r) (h : Qd r.d) : Cl (wp_part_at K) [.d p.d, .d (pl q)] Qd := by
  refine ⟨rfl, ?_⟩
  unfold bd_part_at
  refine seq_gen fun k2 e2 => ?_
  simp [env0]
  refine forD_rule (fun i : Nat => PyData.int i) (fun rest ρ => ∃ (c : Plan) (s3 : Slot), Leads c rest r ∧ ρ = [.sh c.d, .sh (pl q), s3]) (fun i rest ρ hP D' e3 e4 hD => ?_) (fun ρ hP => ?_) q _ ⟨p, .un, hq, by simp⟩
  · obtain ⟨c, s3, ⟨m, hm, hl⟩, rfl⟩ := hP
    cases c with
    | deed n k => simp at hm
    | grp w ms =>
      have hm : ms[i]? = some m := hm
      have ha : L2.atI (ms.map d) (i : Int) = some m.d := by rw [atI_nat, List.getElem?_map, hm]; rfl
      rw [d_grp]
      simp [ha]
      exact (hD _ ⟨m, .sh (.int i), hl, by simp⟩).1
  · obtain ⟨c, s3, hl, rfl⟩ := hP
    have e : c = r := hl
    subst e
    subst e2
    simpa using h
end
end W_k17
namespace W_k17
open PySem VL PL PL.Plan
section
variable {K : PySem.W.Frag} {Qd : PyData → Prop}
theorem s_place_of {p : Plan} {q : List Nat} {n : Str} {k : Kd} (hh : height p ≤ 24) (hn : nodes p ≤ 1000) (hd : (names p).Nodup) (hq : Leads p q (deed n k)) (h : Qd (pl q)) : Cl (wp_place_of K) [.d p.d, .d (.str n)] Qd := by
  refine ⟨rfl, ?_⟩
  unfold bd_place_of
  refine seq_gen fun k2 e2 => ?_
  simp [env0]
  refine s_placed 24 p _ hh (by decide) hn ?_
  simp
  refine forD_rule pq (fun rest ρ => ∃ (s2 s3 : Slot), (∀ x ∈ rest, x ∈ placed p) ∧ (q, deed n k) ∈ rest ∧ ρ = [.sh p.d, .sh (.str n), s2, s3]) (fun x rest ρ hP D' e3 e4 hD => ?_) (fun ρ hP => ?_) (placed p) _ ⟨.un, .un, fun _ h => h, leads_placed hq, rfl⟩
  · obtain ⟨s2, s3, hx, hm, rfl⟩ := hP
    obtain ⟨q', r⟩ := x
    have hl := placed_leads p q' r (hx _ (List.mem_cons_self ..))
    have nxt : ¬ (q', r) = (q, deed n k) → D'.nx [.sh p.d, .sh (.str n), .sh (pl q'), .sh r.d] := fun hne => (hD _ ⟨_, _, fun x h => hx x (List.mem_cons_of_mem _ h), by
      rcases List.mem_cons.mp hm with z | z
      · exact absurd z.symm hne
      · exact z, rfl⟩).1
    cases r with
    | grp w ms =>
      have := nxt (by simp)
      simp [pq, Plan.d]
      simpa [Plan.d] using this
    | deed a b =>
      by_cases ha : a = n
      · subst ha
        obtain ⟨e5, e6⟩ := leads_same hd hl hq
        subst e5 e6
        simp [pq, Plan.d]
        rw [e3]
        simpa using h
      · have := nxt (by simp [ha])
        simp [pq, Plan.d, ha]
        simpa [Plan.d] using this
  · obtain ⟨s2, s3, hx, hm, rfl⟩ := hP
    simp at hm
end
end W_k17
namespace PL
open PySem VL PL.Plan
section
variable {σ : Str → Wd}
theorem leads_uniq : ∀ {q : List Nat} {p r r' : Plan}, Leads p q r → Leads p q r' → r = r'
  | [], p, r, r', h, h' => by
    have e : p = r := h
    have e' : p = r' := h'
    rw [← e, e']
  | i :: q, p, r, r', ⟨m, h1, h2⟩, ⟨m', h1', h2'⟩ => by
    rw [h1] at h1'
    cases h1'
    exact leads_uniq h2 h2'
end
end PL
namespace PL
open PySem VL PL.Plan
section

theorem deedsL_app (ms ns : List Plan) : deedsL (ms ++ ns) = deedsL ms ++ deedsL ns := by simp [deedsL_flat]
end
end PL
namespace W_k17
open PySem VL PL PL.Plan
section
variable {K : PySem.W.Frag} {Qd : PyData → Prop}
theorem lcD_fnAt {α : Type} (enc : α → PyData) (p : α → Bool) (f : α → PyData) {g : DG} {u : DT} {te : DE} {ρ : Vn} {Q : PyData → Prop} (xs : List α)
    (hs : ∀ x ∈ xs, ∀ k : Option PyData → Prop, k (if p x = true then some (f x) else none) → g (enc x) ρ fun ρ1 => u ρ1 fun b => if b = true then te ρ1 fun y => k (some y) else k none)
    (h : Q (.list ((xs.filter p).map f))) : lcD g u te ρ (xs.map enc) [] Q := lcD_fn enc p f xs [] hs (by simpa using h)
end
end W_k17
namespace PL
open PySem VL
section

theorem lcD_sub {α : Type} (enc : α → PyData) (f : α → PyData) {g : DG} {u : DT} {te : DE} {ρ : Vn} {Q : PyData → Prop} : ∀ (xs : List α) (acc : List PyData),
    (∀ x ∈ xs, ∀ k : Option PyData → Prop, k none → k (some (f x)) → g (enc x) ρ fun ρ1 => u ρ1 fun b => if b = true then te ρ1 fun y => k (some y) else k none) →
    (∀ ys : List α, ys.Sublist xs → Q (.list (acc ++ ys.map f))) → lcD g u te ρ (xs.map enc) acc Q
  | [], acc, _, h => by simpa using h [] (List.Sublist.refl _)
  | x :: xs, acc, hs, h => by
    refine hs x (List.mem_cons_self ..) (fun o => match o with
      | some y => lcD g u te ρ (xs.map enc) (acc ++ [y]) Q
      | none => lcD g u te ρ (xs.map enc) acc Q) ?_ ?_
    · exact lcD_sub enc f xs _ (fun y hy => hs y (List.mem_cons_of_mem _ hy)) fun ys hy => h ys (hy.trans (List.sublist_cons_self _ _))
    · refine lcD_sub enc f xs _ (fun y hy => hs y (List.mem_cons_of_mem _ hy)) fun ys hy => ?_
      have := h (x :: ys) (hy.cons_cons x)
      simpa using this
end
end PL
namespace PL
open PySem VL
section

@[simp] theorem okD_strs0 (xs : List Str) : okD (.list (xs.map .str)) = True := okD_strs (fun x => x) xs
end
end PL
namespace PL
open PySem VL
section

theorem perm_map {α β : Type} {f : α → β} : ∀ {xs : List α} {ys : List β}, ys.Perm (xs.map f) → ∃ zs : List α, ys = zs.map f ∧ zs.Perm xs := by
  intro xs ys h
  generalize e : xs.map f = us at h
  induction h generalizing xs with
  | nil => exact ⟨[], rfl, by cases xs with | nil => exact .nil | cons a b => simp at e⟩
  | cons x h ih =>
    rename_i l1 l2
    cases xs with
    | nil => simp at e
    | cons a b =>
      simp at e
      obtain ⟨zs, h1, h2⟩ := ih e.2
      exact ⟨a :: zs, by rw [List.map_cons, e.1, h1], h2.cons a⟩
  | swap x y l =>
    cases xs with
    | nil => simp at e
    | cons a b =>
      cases b with
      | nil => simp at e
      | cons c r =>
        simp at e
        exact ⟨c :: a :: r, by simp [e.1, e.2.1, e.2.2], .swap a c r⟩
  | trans h1 h2 ih1 ih2 =>
    obtain ⟨zs, e1, p1⟩ := ih2 e
    obtain ⟨ws, e2, p2⟩ := ih1 e1.symm
    exact ⟨ws, e2, p2.trans p1⟩
end
end PL
namespace PL
open PySem VL
section

theorem depth_strs : ∀ xs : List Str, PyData.depthAll (xs.map .str) = 0
  | [] => rfl
  | x :: xs => by
    have := depth_strs xs
    simp [PyData.depthAll, PyData.depth, this]
end
end PL
namespace PL
open PySem VL
section

theorem sorted_strs {xs : List Str} {Q : PyData → Prop} (h : ∀ ys : List Str, ys.Perm xs → Q (.list (ys.map .str))) : dSorted [.list (xs.map .str)] Q := by
  obtain ⟨zs, e, p⟩ := perm_map (f := PyData.str) (List.mergeSort_perm (xs.map .str) keyLe)
  refine ⟨by simp, PySem.W.AllAlike.of fun a b => by simp [PySem.W.alike], PySem.W.Sortable.others fun b => ⟨by simp, by simp⟩, ?_, ?_⟩
  · have := depth_strs xs
    omega
  · rw [e]
    exact h zs p
end
end PL
namespace W_k17
open PySem VL PL PL.Plan
section
variable {K : PySem.W.Frag} {Qd : PyData → Prop}
theorem l_pick {m : Int} (hm : m < 1073741824) (h : ∀ r : Int, 0 ≤ r → (r < m ∨ r = 0) → Qd (.int r)) : Cl (wpPick K) [.s, .d (.int m)] Qd := ⟨⟨m, rfl, hm, h⟩⟩
end
end W_k17
namespace W_k17
open PySem VL PL PL.Plan
section
variable {K : PySem.W.Frag} {Qd : PyData → Prop}
theorem l_any {ds : List PyData} {d : PyData} (e : d = .list ds ∨ d = .tuple ds) (hm : ds.length < 1073741824) (h : ∀ es : List PyData, es.Perm ds → Qd (.list es)) : Cl (wpAnyOrder K) [.s, .d d] Qd := ⟨⟨d, ds, rfl, e, hm, h⟩⟩
end
end W_k17
namespace W_k17
open PySem VL PL PL.Plan
section
variable {K : PySem.W.Frag} {Qd : PyData → Prop}
theorem l_any_map {α : Type} {f : α → PyData} {xs : List α} (hm : xs.length < 1073741824) (h : ∀ ys : List α, ys.Perm xs → Qd (.list (ys.map f))) : Cl (wpAnyOrder K) [.s, .d (.list (xs.map f))] Qd := by
  refine l_any (.inl rfl) (by simpa using hm) fun es he => ?_
  obtain ⟨zs, e, p⟩ := perm_map he
  rw [e]
  exact h zs p
end
end W_k17
namespace PL
open PySem VL PL.Plan
section

theorem rngD_0 (n : Nat) : rngD 0 n = (List.range n).map fun (i : Nat) => .int (i : Int) := by
  unfold rngD
  simp
end
end PL
namespace PL
open PySem VL PL.Plan
section

theorem atI_map {α : Type} {f : α → PyData} {xs : List α} {r : Int} (h0 : 0 ≤ r) (h1 : r < xs.length) : ∃ x ∈ xs, L2.atI (xs.map f) r = some (f x) := by
  obtain ⟨n, rfl⟩ : ∃ n : Nat, r = n := ⟨r.toNat, by omega⟩
  have hn : n < xs.length := by omega
  refine ⟨xs[n], List.getElem_mem _, ?_⟩
  rw [atI_nat, List.getElem?_map, List.getElem?_eq_getElem hn]
  rfl
end
end PL
namespace PL
open PySem VL PL.Plan
section

theorem plain_strs : ∀ xs : List Str, PyData.plainAll (xs.map .str) = true
  | [] => by simp
  | x :: xs => by
    have := plain_strs xs
    simp [this]
end
end PL
namespace PL
open PySem VL PL.Plan
section

theorem eqv_any {α : Type} (f : α → Str) (n : Str) : ∀ xs : List α, ((xs.map fun x => PyData.str (f x)).any fun z => PyData.eqv z (.str n)) = decide (n ∈ xs.map f)
  | [] => by simp
  | x :: xs => by
    have := eqv_any f n xs
    rw [List.map_cons, List.any_cons, this, List.map_cons, eqv_str]
    by_cases h : f x = n
    · simp [h]
    · have h2 : ¬ n = f x := fun e => h e.symm
      simp [h, h2]
end
end PL
namespace PL
open PySem VL PL.Plan
section

theorem plain_strsF {α : Type} (f : α → Str) (xs : List α) : PyData.plainAll (xs.map fun x => .str (f x)) = true := by
  have := plain_strs (xs.map f)
  rwa [List.map_map] at this
end
end PL
namespace PL
open PySem VL PL.Plan
section

theorem in_strs {α : Type} (f : α → Str) (xs : List α) {n : Str} {Q : PyData → Prop} (h : Q (.bool (decide (n ∈ xs.map f)))) : dIn false (.str n) (.list (xs.map fun x => .str (f x))) Q := by
  have e := eqv_any f n xs
  exact ⟨plain_strsF f xs, by simp, by simpa only [e, Bool.false_eq_true, if_false] using h⟩
end
end PL
namespace PL
open PySem VL PL.Plan
section

theorem in_strsT {α : Type} (f : α → Str) (xs : List α) {n : Str} {Q : PyData → Prop} (h : Q (.bool (decide (n ∈ xs.map f)))) : dIn false (.str n) (.tuple (xs.map fun x => .str (f x))) Q := by
  have e := eqv_any f n xs
  exact ⟨plain_strsF f xs, by simp, by simpa only [e, Bool.false_eq_true, if_false] using h⟩
end
end PL
namespace PL
open PySem VL PL.Plan
section

theorem plain_bools {α : Type} (f : α → Bool) : ∀ xs : List α, PyData.plainAll (xs.map fun x => .bool (f x)) = true
  | [] => by simp
  | x :: xs => by
    have := plain_bools f xs
    simp [this]
end
end PL
namespace PL
open PySem VL PL.Plan
section

theorem any_bools {α : Type} (f : α → Bool) (xs : List α) : (xs.map fun x => PyData.bool (f x)).any PyData.truthy = xs.any f := by
  rw [List.any_map]
  congr 1
end
end PL
namespace PL
open PySem VL PL.Plan
section

theorem all_bools {α : Type} (f : α → Bool) (xs : List α) : (xs.map fun x => PyData.bool (f x)).all PyData.truthy = xs.all f := by
  rw [List.all_map]
  congr 1
end
end PL

set_option Elab.async false
set_option linter.all false
set_option maxRecDepth 100000
set_option maxHeartbeats 4000000
/-! V2 (k17): while, common, relation. -/
namespace PL
open PySem VL PL.Plan
theorem whileD_rule (P : Nat → Vn → Prop) {c : DT} {b : DS} {D : Ctl} (hs : ∀ m ρ, P m ρ → ∀ D' : Ctl, D'.rt = D.rt → D'.bk = D.nx → (∀ m' ρ', m = m' + 1 → P m' ρ' → D'.nx ρ' ∧ D'.ct ρ') → c ρ fun k => if k = true then b D' ρ else D.nx ρ) : ∀ n ρ, P n ρ → whileD c b D (n + 1) ρ
  | 0, ρ, h => hs 0 ρ h { D with nx := whileD c b D 0, ct := whileD c b D 0, bk := D.nx } rfl rfl fun m' ρ' e _ => by omega
  | n + 1, ρ, h => hs (n + 1) ρ h { D with nx := whileD c b D (n + 1), ct := whileD c b D (n + 1), bk := D.nx } rfl rfl fun m' ρ' e h' => by
    obtain rfl : m' = n := by omega
    exact ⟨whileD_rule P hs m' ρ' h', whileD_rule P hs m' ρ' h'⟩
theorem dWhile_rule (P : Nat → Vn → Prop) {c : DT} {b : DS} {D : Ctl} {n : Nat} {ρ : Vn} (h : P n ρ) (hs : ∀ m ρ, P m ρ → ∀ D' : Ctl, D'.rt = D.rt → D'.bk = D.nx → (∀ m' ρ', m = m' + 1 → P m' ρ' → D'.nx ρ' ∧ D'.ct ρ') → c ρ fun k => if k = true then b D' ρ else D.nx ρ) : dWhile c b D ρ := ⟨n + 1, whileD_rule P hs n ρ h⟩
/-- the common beginning -/
def cpre : List Nat → List Nat → List Nat
  | a :: as, b :: bs => if a = b then a :: cpre as bs else []
  | _, _ => []
theorem cpre_take : ∀ (a b : List Nat), cpre a b = a.take (cpre a b).length
  | a :: as, b :: bs => by
    unfold cpre
    by_cases h : a = b
    · rw [if_pos h, List.length_cons, List.take_succ_cons, ← cpre_take as bs]
    · rw [if_neg h]; rfl
  | [], b => by simp [cpre]
  | a :: as, [] => by simp [cpre]
/-- at i: both go on alike just if i < the common length -/
theorem cpre_at : ∀ (a b : List Nat) (i : Nat), i ≤ (cpre a b).length → (i < (cpre a b).length ↔ i < a.length ∧ i < b.length ∧ a[i]? = b[i]?)
  | a :: as, b :: bs, i, h => by
    unfold cpre at h ⊢
    by_cases e : a = b
    · rw [if_pos e] at h ⊢
      cases i with
      | zero => simp [e]
      | succ i =>
        have := cpre_at as bs i (by simpa using h)
        simpa using this
    · rw [if_neg e] at h ⊢
      simp at h
      subst h
      simp [e]
  | [], b, i, h => by simp [cpre]
  | a :: as, [], i, h => by simp [cpre]
end PL
namespace W_k17
open PySem VL PL PL.Plan
section
variable {K : PySem.W.Frag} {Qd : PyData → Prop}
theorem s_common {a b : List Nat} (ha : a.length ≤ 100) (hb : b.length ≤ 100) (h : Qd (pl (cpre a b))) : Cl (wp_common K) [.d (pl a), .d (pl b)] Qd := by
  refine ⟨rfl, ?_⟩
  unfold bd_common
  refine seq_gen fun k1 e1 => ?_
  simp [env0]
  subst e1
  refine seq_gen fun k2 e2 => ?_
  refine dWhile_rule (fun m ρ => ∃ i, i ≤ (cpre a b).length ∧ i + m = (cpre a b).length ∧ ρ = [.sh (pl a), .sh (pl b), .sh (.int (i : Nat))]) (n := (cpre a b).length) ⟨0, Nat.zero_le _, by simp, by simp⟩ fun m ρ hP D' e3 e4 hD => ?_
  obtain ⟨i, hi, hm, rfl⟩ := hP
  have hc := cpre_at a b i hi
  have hcl : (cpre a b).length ≤ a.length := by have := congrArg List.length (cpre_take a b); simp at this; omega
  have fin : ¬ i < (cpre a b).length → k2 (ctlS Qd) [.sh (pl a), .sh (pl b), .sh (.int (i : Nat))] := fun hn => by
    have : i = (cpre a b).length := by omega
    subst e2
    have et : cutL (a.map fun (i : Nat) => PyData.int i) none (some (i : Int)) = (cpre a b).map fun (i : Nat) => .int i := by
      rw [cutL_to, ← List.map_take, this, ← cpre_take]
    simp [et]
    simpa using h
  by_cases h1 : i < a.length ∧ i < b.length
  · have ea : L2.atI (a.map fun (i : Nat) => PyData.int i) (i : Int) = some (.int (a[i]'h1.1)) := by rw [atI_nat, List.getElem?_map, List.getElem?_eq_getElem h1.1]; rfl
    have eb : L2.atI (b.map fun (i : Nat) => PyData.int i) (i : Int) = some (.int (b[i]'h1.2)) := by rw [atI_nat, List.getElem?_map, List.getElem?_eq_getElem h1.2]; rfl
    have hlt : (i : Int) < if b.length < a.length then (b.length : Int) else (a.length : Int) := by split <;> omega
    by_cases hab : a[i]'h1.1 = b[i]'h1.2
    · have hii : i < (cpre a b).length := hc.mpr ⟨h1.1, h1.2, by rw [List.getElem?_eq_getElem h1.1, List.getElem?_eq_getElem h1.2, hab]⟩
      obtain ⟨m', rfl⟩ : ∃ m', m = m' + 1 := ⟨m - 1, by omega⟩
      have nx := (hD m' _ rfl ⟨i + 1, by omega, by omega, rfl⟩).1
      simp [hlt, ea, eb, hab]
      simpa using nx
    · have hno : ¬ i < (cpre a b).length := fun z => by
        have := (hc.mp z).2.2
        rw [List.getElem?_eq_getElem h1.1, List.getElem?_eq_getElem h1.2] at this
        exact hab (Option.some.inj this)
      have hab2 : ¬ ((a[i]'h1.1 : Nat) : Int) = ((b[i]'h1.2 : Nat) : Int) := by omega
      simp [hlt, ea, eb, hab2, hab]
      simpa using fin hno
  · have hno : ¬ i < (cpre a b).length := fun z => h1 ⟨(hc.mp z).1, (hc.mp z).2.1⟩
    have hlt : ¬ (i : Int) < if b.length < a.length then (b.length : Int) else (a.length : Int) := by split <;> omega
    simp [hlt]
    simpa using fin hno
end
end W_k17

set_option Elab.async false
set_option linter.all false
set_option maxRecDepth 100000
set_option maxHeartbeats 4000000
/-! V3 (k17): rowed deeds. -/
namespace PL
open PySem VL PL.Plan
def isRow : Plan → Bool
  | grp .row _ => true
  | _ => false
/-- whether the places part in a row -/
def rowed : Plan → List Nat → List Nat → Bool
  | p, i :: q, j :: q' => if i = j then (match (mems p)[i]? with | some m => rowed m q q' | none => false) else isRow p
  | _, _, _ => false
theorem part_place {n n' : Str} {k k' : Kd} : ∀ {q q' : List Nat} {p : Plan}, Leads p q (deed n k) → Leads p q' (deed n' k') → q ≠ q' → ∃ w ms, Leads p (cpre q q') (grp w ms) ∧ rowed p q q' = isRow (grp w ms) ∧ (cpre q q').length < q.length ∧ (cpre q q').length < q'.length
  | [], [], p, _, _, hne => absurd rfl hne
  | [], j :: q', p, h, ⟨m, h1, _⟩, _ => by
    have e : p = deed n k := h
    rw [e] at h1
    simp at h1
  | i :: q, [], p, ⟨m, h1, _⟩, h, _ => by
    have e : p = deed n' k' := h
    rw [e] at h1
    simp at h1
  | i :: q, j :: q', p, ⟨m, h1, h2⟩, ⟨m', h1', h2'⟩, hne => by
    by_cases e : i = j
    · subst e
      rw [h1] at h1'
      cases h1'
      obtain ⟨w, ms, a, b, c, d⟩ := part_place h2 h2' (fun z => hne (by rw [z]))
      refine ⟨w, ms, ?_, ?_, ?_, ?_⟩
      · unfold cpre; rw [if_pos rfl]; exact ⟨m, h1, a⟩
      · unfold rowed; rw [if_pos rfl, h1]; exact b
      · unfold cpre; rw [if_pos rfl]; simpa using c
      · unfold cpre; rw [if_pos rfl]; simpa using d
    · cases p with
      | deed a b => simp at h1
      | grp w ms =>
        refine ⟨w, ms, ?_, ?_, ?_, ?_⟩
        · unfold cpre; rw [if_neg e]; rfl
        · unfold rowed; rw [if_neg e]
        · unfold cpre; rw [if_neg e]; simp
        · unfold cpre; rw [if_neg e]; simp
end PL
namespace W_k17
open PySem VL PL PL.Plan
section
variable {K : PySem.W.Frag} {Qd : PyData → Prop}
theorem s_relation {p : Plan} {q q' : List Nat} {n n' : Str} {k k' : Kd} (hh : height p ≤ 24) (hn : nodes p ≤ 1000) (hd : (names p).Nodup) (hq : Leads p q (deed n k)) (hq' : Leads p q' (deed n' k')) (hne : n ≠ n') (h : ∀ (w : Gw) (i : Int), rowed p q q' = decide (w = .row) → Qd (.tuple [.str w.s, .int i])) : Cl (wp_relation K) [.d p.d, .d (.str n), .d (.str n')] Qd := by
  refine ⟨rfl, ?_⟩
  unfold bd_relation
  have hl := leads_height hq
  have hl' := leads_height hq'
  have hqq : q ≠ q' := fun e => by
    subst e
    have := leads_uniq hq hq'
    cases this
    exact hne rfl
  obtain ⟨w, ms, hc, hr, c1, c2⟩ := part_place hq hq' hqq
  have hrw : rowed p q q' = decide (w = .row) := by rw [hr]; cases w <;> rfl
  refine seq_gen fun k1 e1 => ?_
  simp [env0, -pl]
  refine s_place_of hh hn hd hq ?_
  refine s_place_of hh hn hd hq' ?_
  subst e1
  refine seq_gen fun k2 e2 => ?_
  simp [-pl]
  refine s_common (by omega) (by omega) ?_
  subst e2
  refine seq_gen fun k3 e3 => ?_
  simp [-pl]
  refine s_part_at hc ?_
  rw [d_grp]
  simp [-pl]
  subst e3
  refine seq_gen fun k4 e4 => ?_
  by_cases hw : w = .side
  · subst hw
    simp [-pl]
    exact h .side 0 hrw
  · have hat : L2.atI (q.map fun (i : Nat) => PyData.int i) ((cpre q q').length : Int) = some (.int (q[(cpre q q').length]'c1 : Nat)) := by rw [atI_nat, List.getElem?_map, List.getElem?_eq_getElem c1]; rfl
    have hat' : L2.atI (q'.map fun (i : Nat) => PyData.int i) ((cpre q q').length : Int) = some (.int (q'[(cpre q q').length]'c2 : Nat)) := by rw [atI_nat, List.getElem?_map, List.getElem?_eq_getElem c2]; rfl
    have fin : k4 (ctlS Qd) [.sh p.d, .sh (.str n), .sh (.str n'), .sh (pl q), .sh (pl q'), .sh (pl (cpre q q')), .sh (.str w.s)] := by
      subst e4
      simp [hat, hat']
      by_cases hlt : (q[(cpre q q').length]'c1) < (q'[(cpre q q').length]'c2)
      · simp [hlt]
        exact h w _ hrw
      · simp [hlt]
        exact h w _ hrw
    cases w with
    | side => exact absurd rfl hw
    | row => simp [-pl]; exact fin
    | els => simp [-pl]; exact fin
end
end W_k17

set_option Elab.async false
set_option linter.all false
set_option maxRecDepth 100000
set_option maxHeartbeats 4000000
/-! V4 (k17): fights. -/
namespace PL
open PySem VL PL.Plan
abbrev De := Nat × Str
def deD (x : De) : PyData := .tuple [.int (x.1 : Nat), .str x.2]
def lotD (lot : List Plan) : PyData := .tuple (lot.map d)
def fiD (fs : List (De × De)) : PyData := .tuple (fs.map fun z => .tuple [deD z.1, deD z.2])
theorem deD_lt {x y : De} (h : x.1 ≠ y.1) : PySem.W.dataLt (deD x) (deD y) = decide (x.1 < y.1) := by
  have h2 : ¬ (x.1 : Int) = (y.1 : Int) := by omega
  unfold PySem.W.dataLt deD
  simp only [PySem.W.keyToks, PySem.W.keyToksAll, List.cons_append, List.nil_append]
  rw [PyProof.Rows.lex_cons, PyProof.Rows.lex_cons]
  by_cases h3 : x.1 < y.1
  · have h4 : (x.1 : Int) < (y.1 : Int) := by omega
    have h5 : ¬ (y.1 : Int) < (x.1 : Int) := by omega
    simp [PyProof.Rows.itemOrd, PyProof.Rows.itemLt, h3]
  · have h4 : ¬ (x.1 : Int) < (y.1 : Int) := by omega
    have h5 : (y.1 : Int) < (x.1 : Int) := by omega
    simp [PyProof.Rows.itemOrd, PyProof.Rows.itemLt, h3]
    omega
theorem deD_alike (x y : De) : PySem.W.AlikeAll [deD x, deD y] := by
  refine ⟨?_, ?_⟩
  · intro a ha b hb
    simp at ha hb
    rcases ha with rfl | rfl <;> rcases hb with rfl | rfl <;> simp [deD, PySem.W.alike, PySem.W.alikeAll]
  · intro a ha
    simp at ha
    rcases ha with rfl | rfl <;> simp [deD]
theorem eqv_dd (x y : De) : PyData.eqv (deD x) (deD y) = decide (x = y) := by
  obtain ⟨a, b⟩ := x
  obtain ⟨c, e⟩ := y
  unfold deD
  simp
  have hi : ((a : Int) = (c : Int)) ↔ a = c := by omega
  simp [hi]
theorem plain_dd (x : De) : (deD x).plain = true := by simp [deD]
theorem plain_fi : ∀ fs : List (De × De), PyData.plainAll (fs.map fun z => .tuple [deD z.1, deD z.2]) = true
  | [] => by simp
  | z :: fs => by
    have := plain_fi fs
    simp [this, plain_dd]
theorem eqv_fi (a b : De) : ∀ fs : List (De × De), ((fs.map fun z => PyData.tuple [deD z.1, deD z.2]).any fun w => PyData.eqv w (.tuple [deD a, deD b])) = decide ((a, b) ∈ fs)
  | [] => by simp
  | z :: fs => by
    have := eqv_fi a b fs
    obtain ⟨c, e⟩ := z
    rw [List.map_cons, List.any_cons, this, eqv_tuple, eqvAll_cc, eqvAll_cc, eqv_dd, eqv_dd, eqvAll_nn]
    by_cases h : c = a <;> by_cases h2 : e = b <;> simp [h, h2]
    · exact fun z => absurd z.symm h2
    · exact fun z => absurd z.symm h
    · exact fun z => absurd z.symm h
theorem okD_pair (a b : De) : okD (.tuple [deD a, deD b]) := by
  refine ⟨by simp [plain_dd], ?_⟩
  simp [PyData.depth, PyData.depthAll, deD]
theorem in_fi {fs : List (De × De)} {a b : De} {Q : PyData → Prop} (h : Q (.bool (decide ((a, b) ∈ fs)))) : dIn false (.tuple [deD a, deD b]) (fiD fs) Q := by
  have e := eqv_fi a b fs
  exact ⟨plain_fi fs, okD_pair a b, by simpa only [e, Bool.false_eq_true, if_false] using h⟩
noncomputable def plc (p : Plan) (n : Str) : List Nat := @dite _ (∃ q k, Leads p q (deed n k)) (Classical.propDecidable _) (fun h => Classical.choose h) fun _ => []
theorem plc_eq {p : Plan} (hd : (names p).Nodup) {q : List Nat} {n : Str} {k : Kd} (h : Leads p q (deed n k)) : plc p n = q := by
  unfold plc
  have hx : ∃ q k, Leads p q (deed n k) := ⟨q, k, h⟩
  rw [dif_pos hx]
  obtain ⟨k', h'⟩ := Classical.choose_spec hx
  exact (leads_same hd h' h).1
structure LotOk (lot : List Plan) : Prop where
  ht : ∀ p ∈ lot, height p ≤ 24
  nd : ∀ p ∈ lot, nodes p ≤ 1000
  nm : ∀ p ∈ lot, (names p).Nodup
def HasDeed (lot : List Plan) (x : De) : Prop := ∃ p q k, lot[x.1]? = some p ∧ Leads p q (deed x.2 k)
noncomputable def gF (lot : List Plan) (fs : List (De × De)) (x y : De) : Bool := if x.1 = y.1 then !decide (x.2 = y.2) && (match lot[x.1]? with | some p => rowed p (plc p x.2) (plc p y.2) | none => false) else decide ((x, y) ∈ fs) || decide ((y, x) ∈ fs)
end PL
namespace W_k17
open PySem VL PL PL.Plan
section
variable {K : PySem.W.Frag} {Qd : PyData → Prop}
theorem s_do_fight {lot : List Plan} {fs : List (De × De)} {x y : De} (ho : LotOk lot) (hf : ∀ z ∈ fs, z.1.1 < z.2.1) (hx : HasDeed lot x) (hy : HasDeed lot y) (h : Qd (.bool (gF lot fs x y))) : Cl (wp_do_fight K) [.d (lotD lot), .d (fiD fs), .d (deD x), .d (deD y)] Qd := by
  refine ⟨rfl, ?_⟩
  unfold bd_do_fight
  refine seq_gen fun k1 e1 => ?_
  obtain ⟨p, q, k, hp, hq⟩ := hx
  obtain ⟨p', q', k', hp', hq'⟩ := hy
  have hd0 : ∀ (z : De) (Q : PyData → Prop), Q (.int (z.1 : Nat)) → dIx (deD z) (.int 0) Q := fun z Q q => by simpa [deD] using q
  have hd1 : ∀ (z : De) (Q : PyData → Prop), Q (.str z.2) → dIx (deD z) (.int 1) Q := fun z Q q => by simpa [deD] using q
  simp [env0, -dIx, -dIn, -dMinA, -dMaxA]
  refine hd0 _ _ (hd0 _ _ ?_)
  by_cases hr : x.1 = y.1
  · have hr2 : (x.1 : Int) = (y.1 : Int) := by omega
    have hpp : p' = p := by rw [← hr, hp] at hp'; exact (Option.some.inj hp').symm
    subst hpp
    have hm := List.mem_of_getElem? hp
    have hat : L2.atI (lot.map d) (x.1 : Int) = some p'.d := by rw [atI_nat, List.getElem?_map, hp]; rfl
    simp [hr2, -dIx]
    subst e1
    simp [-dIx]
    refine hd1 _ _ (hd1 _ _ ?_)
    by_cases hn : x.2 = y.2
    · simp [hn]
      simpa [gF, hr, hn] using h
    · simp [hn, -dIx]
      refine hd0 _ _ ?_
      have hix : ∀ Q : PyData → Prop, Q p'.d → dIx (lotD lot) (.int (x.1 : Nat)) Q := fun Q q => by simpa [lotD, hat] using q
      refine hix _ (hd1 _ _ (hd1 _ _ ?_))
      refine s_relation (ho.ht _ hm) (ho.nd _ hm) (ho.nm _ hm) hq hq' hn fun w i hw => ?_
      have e1 := plc_eq (ho.nm _ hm) hq
      have e2 := plc_eq (ho.nm _ hm) hq'
      have hg : gF lot fs x y = decide (w = .row) := by
        unfold gF
        rw [if_pos hr, hp]
        simp [hn, e1, e2, hw]
      rw [hg] at h
      cases w <;> simp [Gw.s] <;> simpa using h
  · have hr2 : ¬ (x.1 : Int) = (y.1 : Int) := by omega
    simp [hr2, -dIx, -dIn, -dMinA, -dMaxA]
    have hg : gF lot fs x y = (decide ((x, y) ∈ fs) || decide ((y, x) ∈ fs)) := by unfold gF; rw [if_neg hr]
    rw [hg] at h
    have hno : ∀ a b : De, b.1 < a.1 → (a, b) ∉ fs := fun a b hab hm => by have := hf _ hm; simp at this; omega
    have hal := deD_alike x y
    have hpl : PyData.plainAll [deD x, deD y] = true := by simp [plain_dd]
    have hdp : PyData.depthAll [deD x, deD y] ≤ 60 := by simp [PyData.depth, PyData.depthAll, deD]
    have hmin : ∀ Q : PyData → Prop, Q (if x.1 < y.1 then deD x else deD y) → dMinA [deD x, deD y] Q := fun Q q => by
      refine ⟨hpl, hal, hdp, ?_⟩
      have := deD_lt (x := y) (y := x) (fun e => hr e.symm)
      show Q (if PySem.W.dataLt (deD y) (deD x) = true then deD y else deD x)
      rw [this]
      by_cases hlt : x.1 < y.1
      · have : ¬ y.1 < x.1 := by omega
        simpa [hlt, this] using q
      · have : y.1 < x.1 := by omega
        simpa [hlt, this] using q
    have hmax : ∀ Q : PyData → Prop, Q (if x.1 < y.1 then deD y else deD x) → dMaxA [deD x, deD y] Q := fun Q q => by
      refine ⟨hpl, hal, hdp, ?_⟩
      have := deD_lt (x := x) (y := y) hr
      show Q (if PySem.W.dataLt (deD x) (deD y) = true then deD y else deD x)
      rw [this]
      by_cases hlt : x.1 < y.1
      · simpa [hlt] using q
      · simpa [hlt] using q
    refine hmin _ (hmax _ ?_)
    by_cases hlt : x.1 < y.1
    · have hn1 := hno y x hlt
      simp only [hlt, if_true]
      refine in_fi ?_
      simpa [hn1] using h
    · have hlt2 : y.1 < x.1 := by omega
      have hn1 := hno x y hlt2
      simp only [hlt, if_false]
      refine in_fi ?_
      simpa [hn1] using h
end
end W_k17

set_option Elab.async false
set_option linter.all false
set_option maxRecDepth 100000
set_option maxHeartbeats 4000000
/-! V5 (k17): the law's names, ways down, fights. -/
namespace PL
open PySem VL PL.Plan
/-- the way down along a place -/
def downs : Plan → List Nat → List (Gw × Nat)
  | grp w ms, i :: q => (w, i) :: (match ms[i]? with | some m => downs m q | none => [])
  | _, _ => []
theorem downs_len : ∀ (q : List Nat) (p : Plan), (downs p q).length ≤ q.length
  | [], p => by cases p <;> simp [downs]
  | i :: q, deed a b => by simp [downs]
  | i :: q, grp w ms => by
    unfold downs
    cases h : ms[i]? with
    | none => simp
    | some m =>
      have := downs_len q m
      simp
      omega
def dnD (z : Gw × Nat) : PyData := .tuple [.str z.1.s, .int (z.2 : Nat)]
theorem names_len (p : Plan) : (names p).length ≤ nodes p := by unfold names; rw [List.length_map]; exact deeds_le p
/-- the first place where the ways part -/
def parts : List ((Gw × Nat) × (Gw × Nat)) → Bool
  | [] => false
  | z :: zs => if z.1.2 = z.2.2 then parts zs else decide (z.1.1 = .row)
theorem parts_rowed {n n' : Str} {k k' : Kd} : ∀ {q q' : List Nat} {p : Plan}, Leads p q (deed n k) → Leads p q' (deed n' k') → q ≠ q' → parts ((downs p q).zip (downs p q')) = rowed p q q'
  | [], [], p, _, _, hne => absurd rfl hne
  | [], j :: q', p, h, ⟨m, h1, _⟩, _ => by
    have e : p = deed n k := h
    rw [e] at h1
    simp at h1
  | i :: q, [], p, ⟨m, h1, _⟩, h, _ => by
    have e : p = deed n' k' := h
    rw [e] at h1
    simp at h1
  | i :: q, j :: q', p, ⟨m, h1, h2⟩, ⟨m', h1', h2'⟩, hne => by
    cases p with
    | deed a b => simp at h1
    | grp w ms =>
      have h3 : ms[i]? = some m := h1
      have h3' : ms[j]? = some m' := h1'
      unfold downs
      rw [h3, h3']
      simp only [List.zip_cons_cons, parts]
      by_cases e : i = j
      · subst e
        rw [h3] at h3'
        cases h3'
        have := parts_rowed h2 h2' (fun z => hne (by rw [z]))
        unfold rowed
        rw [if_pos rfl, if_pos rfl, this, h1]
      · unfold rowed
        rw [if_neg e, if_neg e]
        cases w <;> rfl
end PL
namespace W_k17
open PySem VL PL PL.Plan
section
variable {K : PySem.W.Frag} {Qd : PyData → Prop}
theorem l_names : ∀ (n : Nat) (p : Plan) (Qd : PyData → Prop), height p ≤ n → nodes p ≤ 1000 → Qd (.list ((names p).map .str)) → Cl (wpR__law_names K n 0) [.d p.d] Qd := by
  intro n
  induction n with
  | zero => intro p Qd h; cases p <;> simp [height] at h
  | succ n ih =>
    intro p Qd hh hn h
    refine ⟨rfl, ?_⟩
    unfold bd__law_names
    refine seq_gen fun k1 e1 => ?_
    cases p with
    | deed nm k =>
      simp [env0, Plan.d]
      simpa [names, deeds] using h
    | grp w ms =>
      simp [env0, Plan.d]
      subst e1
      refine seq_gen fun k2 e2 => ?_
      simp
      subst e2
      refine seq_gen fun k3 e3 => ?_
      simp [ds_map]
      refine forD_rule d (fun r ρ => ∃ (done : List Plan) (s2 : Slot), ms = done ++ r ∧ ρ = [.sh (.tuple [.str w.s, .tuple (ms.map d)]), .sh (.list (((deedsL done).map (·.1)).map .str)), s2]) (fun m r ρ hP D' e1 e2 hD => ?_) (fun ρ hP => ?_) ms _ ⟨[], .un, rfl, by simp [deedsL]⟩
      · obtain ⟨done, s2, e, rfl⟩ := hP
        have hm : m ∈ ms := by rw [e]; simp
        have h1 := heightL_mem hm
        have h2 := nodesL_mem hm
        rw [height] at hh
        rw [nodes] at hn
        simp
        refine ih m _ (by omega) (by omega) ?_
        have hx : deedsL ms = deedsL done ++ deeds m ++ deedsL r := by rw [e]; simp [deedsL_flat]
        have hl := deedsL_le ms
        rw [hx] at hl
        simp at hl
        simp [names]
        refine ⟨by omega, (hD _ ⟨done ++ [m], .sh m.d, by rw [e]; simp, ?_⟩).1⟩
        simp [deedsL_flat, Function.comp_def]
      · obtain ⟨done, s2, e, rfl⟩ := hP
        rw [List.append_nil] at e
        subst e
        subst e3
        simpa [names, deeds] using h
theorem l_down : ∀ (f : Nat) (p : Plan) (q : List Nat) (n : Str) (k : Kd) (Qd : PyData → Prop), height p ≤ f → f ≤ 24 → nodes p ≤ 1000 → (names p).Nodup → Leads p q (deed n k) → Qd (.list ((downs p q).map dnD)) → Cl (wpR__law_down K f 0) [.d p.d, .d (.str n)] Qd := by
  intro f
  induction f with
  | zero => intro p q n k Qd h; cases p <;> simp [height] at h
  | succ f ih =>
    intro p q n k Qd hh h24 hn hd hq h
    refine ⟨rfl, ?_⟩
    unfold bd__law_down
    refine seq_gen fun k1 e1 => ?_
    cases p with
    | deed m kk =>
      simp [env0, Plan.d]
      cases q with
      | nil => simpa [downs] using h
      | cons i q => obtain ⟨m, h1, _⟩ := hq; simp at h1
    | grp w ms =>
      have hh' := hh
      have hn' := hn
      rw [height] at hh'
      rw [nodes] at hn'
      cases q with
      | nil => cases (show grp w ms = deed n k from hq)
      | cons i0 q =>
        obtain ⟨m0, hm0, hl0⟩ := hq
        have hm0 : ms[i0]? = some m0 := hm0
        rw [d_grp]
        simp [env0]
        subst e1
        refine seq_gen fun k2 e2 => ?_
        simp [-dIn]
        refine forE_0 d (fun i r ρ => ∃ (done : List Plan) (s2 s3 : Slot), ms = done ++ r ∧ done.length = i ∧ i ≤ i0 ∧ ρ = [.sh (.tuple [.str w.s, .tuple (ms.map d)]), .sh (.str n), s2, s3]) ⟨[], .un, .un, rfl, rfl, Nat.zero_le _, rfl⟩ (fun i m r ρ hP D' e4 e5 hD => ?_) fun i ρ hP => ?_
        · obtain ⟨done, s2, s3, e, ei, hi0, rfl⟩ := hP
          have hm : m ∈ ms := by rw [e]; simp
          have hmi : ms[i]? = some m := by rw [e, ← ei]; simp
          have a1 := heightL_mem hm
          have a2 := nodesL_mem hm
          simp [-dIn]
          refine l_names 24 m _ (by omega) (by omega) ?_
          refine in_strs (fun n : Str => n) (names m) ?_
          by_cases hii : i = i0
          · subst hii
            rw [hm0] at hmi
            cases hmi
            have hnm : n ∈ (names m0).map fun n : Str => n := by
              rw [List.map_id']
              exact leads_names hl0 n (by simp [names, deeds])
            have hmn : (names m0).Nodup := by
              have e3 : ms = done ++ m0 :: r := e
              rw [e3] at hd
              exact (nodup_member hd (leads_names hl0 n (by simp [names, deeds]))).1
            simp only [decide_eq_true hnm]
            simp
            refine ih m0 q n k _ (by omega) (by omega) (by omega) hmn hl0 ?_
            have hdl : (downs m0 q).length ≤ 1000 := by
              have h5 := downs_len q m0
              have h6 := leads_height hl0
              omega
            simp
            refine ⟨by omega, ?_⟩
            rw [e4]
            simp [downs, hm0, dnD] at h ⊢
            exact h
          · have hnm : n ∉ (names m).map fun n : Str => n := by
              rw [List.map_id']
              intro z
              exact hii (index_same (w := w) hd hmi hm0 z (leads_names hl0 n (by simp [names, deeds])))
            simp only [decide_eq_false hnm]
            simp
            exact (hD _ ⟨done ++ [m], _, _, by rw [e]; simp, by simp [ei], by omega, rfl⟩).1
        · obtain ⟨done, s2, s3, e, ei, hi0, rfl⟩ := hP
          exfalso
          have := (List.getElem?_eq_some_iff.mp hm0).1
          rw [e] at this
          simp at this
          omega
theorem l_are_rowed {p : Plan} {q q' : List Nat} {n n' : Str} {k k' : Kd} (hh : height p ≤ 24) (hn : nodes p ≤ 1000) (hd : (names p).Nodup) (hq : Leads p q (deed n k)) (hq' : Leads p q' (deed n' k')) (hne : n ≠ n') (h : Qd (.bool (rowed p q q'))) : Cl (wp__law_are_rowed K) [.d p.d, .d (.str n), .d (.str n')] Qd := by
  refine ⟨rfl, ?_⟩
  unfold bd__law_are_rowed
  have hqq : q ≠ q' := fun e => by
    subst e
    have := leads_uniq hq hq'
    cases this
    exact hne rfl
  rw [← parts_rowed hq hq' hqq] at h
  refine seq_gen fun k1 e1 => ?_
  simp [env0]
  refine l_down 24 p q n k _ hh (by decide) hn hd hq ?_
  refine l_down 24 p q' n' k' _ hh (by decide) hn hd hq' ?_
  have ez : zipD ((downs p q).map dnD) ((downs p q').map dnD) = ((downs p q).zip (downs p q')).map fun z => .tuple [dnD z.1, dnD z.2] := by
    unfold zipD
    rw [List.zipWith_map, List.zip, List.map_zipWith]
  simp
  rw [ez]
  generalize (downs p q).zip (downs p q') = Z at h
  refine forD_rule (fun z : (Gw × Nat) × (Gw × Nat) => PyData.tuple [dnD z.1, dnD z.2]) (fun r ρ => ∃ s3 s4 s5 s6 : Slot, parts r = parts Z ∧ ρ = [.sh p.d, .sh (.str n), .sh (.str n'), s3, s4, s5, s6]) (fun z r ρ hP D' e3 e4 hD => ?_) (fun ρ hP => ?_) Z _ ⟨.un, .un, .un, .un, rfl, rfl⟩
  · obtain ⟨s3, s4, s5, s6, ep, rfl⟩ := hP
    obtain ⟨⟨w, i⟩, ⟨w', j⟩⟩ := z
    by_cases hij : i = j
    · have hij2 : (i : Int) = (j : Int) := by omega
      simp [dnD, hij2]
      simp only [parts, hij, if_true] at ep
      simpa [hij] using (hD _ ⟨_, _, _, _, ep, rfl⟩).1
    · have hij2 : ¬ (i : Int) = (j : Int) := by omega
      simp only [parts, hij, if_false] at ep
      simp [dnD, hij2]
      rw [e3]
      rw [← ep] at h
      cases w <;> simp [Gw.s] <;> simpa using h
  · obtain ⟨s3, s4, s5, s6, ep, rfl⟩ := hP
    subst e1
    have e9 : parts Z = false := ep.symm.trans rfl
    rw [e9] at h
    simp
    exact h
theorem l_fight {lot : List Plan} {fs : List (De × De)} {x y : De} (ho : LotOk lot) (hx : HasDeed lot x) (hy : HasDeed lot y) (h : Qd (.bool (gF lot fs x y))) : Cl (wp__law_fight K) [.d (lotD lot), .d (fiD fs), .d (deD x), .d (deD y)] Qd := by
  refine ⟨rfl, ?_⟩
  unfold bd__law_fight
  refine seq_gen fun k1 e1 => ?_
  obtain ⟨p, q, k, hp, hq⟩ := hx
  obtain ⟨p', q', k', hp', hq'⟩ := hy
  have hd0 : ∀ (z : De) (Q : PyData → Prop), Q (.int (z.1 : Nat)) → dIx (deD z) (.int 0) Q := fun z Q q => by simpa [deD] using q
  have hd1 : ∀ (z : De) (Q : PyData → Prop), Q (.str z.2) → dIx (deD z) (.int 1) Q := fun z Q q => by simpa [deD] using q
  have okx : ∀ z : De, okD (deD z) := fun z => by
    refine ⟨plain_dd z, ?_⟩
    simp [PyData.depth, PyData.depthAll, deD]
  simp [env0, -dIx, -dIn]
  refine hd0 _ _ (hd0 _ _ ?_)
  by_cases hr : x.1 = y.1
  · have hr2 : (x.1 : Int) = (y.1 : Int) := by omega
    have hpp : p' = p := by rw [← hr, hp] at hp'; exact (Option.some.inj hp').symm
    subst hpp
    have hm := List.mem_of_getElem? hp
    have hat : L2.atI (lot.map d) (x.1 : Int) = some p'.d := by rw [atI_nat, List.getElem?_map, hp]; rfl
    have hix : ∀ Q : PyData → Prop, Q p'.d → dIx (lotD lot) (.int (x.1 : Nat)) Q := fun Q q => by simpa [lotD, hat] using q
    simp [hr2, -dIx]
    subst e1
    simp [-dIx, okx, eqv_dd]
    by_cases hn : x.2 = y.2
    · have hxy : x = y := Prod.ext hr hn
      simp [hxy]
      simpa [gF, hr, hn] using h
    · have hxy : ¬ x = y := fun e => hn (by rw [e])
      simp [hxy, -dIx]
      refine hd0 _ _ (hix _ (hd1 _ _ (hd1 _ _ ?_)))
      refine l_are_rowed (ho.ht _ hm) (ho.nd _ hm) (ho.nm _ hm) hq hq' hn ?_
      have e1 := plc_eq (ho.nm _ hm) hq
      have e2 := plc_eq (ho.nm _ hm) hq'
      have hg : gF lot fs x y = rowed p' q q' := by
        unfold gF
        rw [if_pos hr, hp]
        simp [hn, e1, e2]
      rw [← hg]
      exact h
  · have hr2 : ¬ (x.1 : Int) = (y.1 : Int) := by omega
    have hg : gF lot fs x y = (decide ((x, y) ∈ fs) || decide ((y, x) ∈ fs)) := by unfold gF; rw [if_neg hr]
    rw [hg] at h
    simp [hr2, -dIx, -dIn]
    refine in_fi ?_
    by_cases h1 : (x, y) ∈ fs
    · simp [h1]
      simpa [h1] using h
    · simp [h1, -dIn]
      refine in_fi ?_
      simpa [h1] using h
end
end W_k17

set_option Elab.async false
set_option linter.all false
set_option maxRecDepth 100000
set_option maxHeartbeats 4000000
/-! V6 (k17): logs as positions. -/
namespace PL
open PySem VL PL.Plan
theorem rowed_sym : ∀ (q q' : List Nat) (p : Plan), rowed p q q' = rowed p q' q
  | [], [], p => rfl
  | [], j :: q', p => by unfold rowed; rfl
  | i :: q, [], p => by unfold rowed; rfl
  | i :: q, j :: q', p => by
    unfold rowed
    by_cases e : i = j
    · subst e
      rw [if_pos rfl, if_pos rfl]
      cases (mems p)[i]? with
      | none => rfl
      | some m => exact rowed_sym q q' m
    · rw [if_neg e, if_neg (fun z => e z.symm)]
theorem gF_sym (lot : List Plan) (fs : List (De × De)) (x y : De) : gF lot fs x y = gF lot fs y x := by
  unfold gF
  by_cases h : x.1 = y.1
  · rw [if_pos h, if_pos h.symm, h]
    have e : decide (x.2 = y.2) = decide (y.2 = x.2) := by
      by_cases h2 : x.2 = y.2
      · simp [h2]
      · simp [h2]
        exact fun z => h2 z.symm
    rw [e]
    cases lot[y.1]? with
    | none => rfl
    | some p => simp only; rw [rowed_sym]
  · rw [if_neg h, if_neg (fun z => h z.symm), Bool.or_comm]
abbrev En := De × Bool
def enD (e : En) : PyData := .tuple [.int (e.1.1 : Nat), .str e.1.2, .int (if e.2 = true then 1 else -1)]
def logD (log : List En) : PyData := .tuple (log.map enD)
/-- entries once each, an undoing behind its doing -/
structure LogOk (log : List En) : Prop where
  nd : log.Nodup
  bh : ∀ (k : Nat) (x : De), log[k]? = some (x, false) → ∃ i : Nat, i < k ∧ log[i]? = some (x, true)
noncomputable def atE (log : List En) (k : Nat) : En := (log[k]?).getD ((0, ⟨#[]⟩), true)
theorem atE_eq {log : List En} {k : Nat} {e : En} (h : log[k]? = some e) : atE log k = e := by unfold atE; rw [h]; rfl
theorem idx_at {log : List En} (hn : log.Nodup) {i : Nat} {e : En} (h : log[i]? = some e) : log.idxOf e = i := by
  obtain ⟨hi, he⟩ := List.getElem?_eq_some_iff.mp h
  rw [← he]
  exact hn.idxOf_getElem i hi
noncomputable def mkLg (F : De → De → Bool) (hF : ∀ x y, F x y = F y x) (log : List En) (ho : LogOk log) : Lg where
  u k := !(atE log k).2
  f k := log.idxOf ((atE log k).1, true)
  g i j := F (atE log i).1 (atE log j).1
  lt k hk := by
    cases h : log[k]? with
    | none => simp [atE, h] at hk
    | some e =>
      rw [atE_eq h] at hk ⊢
      obtain ⟨x, b⟩ := e
      have hb : b = false := by simpa using hk
      subst hb
      obtain ⟨i, hi, hi2⟩ := ho.bh k x h
      rw [idx_at ho.nd hi2]
      exact hi
  dn k hk := by
    cases h : log[k]? with
    | none => simp [atE, h] at hk
    | some e =>
      rw [atE_eq h] at hk ⊢
      obtain ⟨x, b⟩ := e
      have hb : b = false := by simpa using hk
      subst hb
      obtain ⟨i, hi, hi2⟩ := ho.bh k x h
      rw [idx_at ho.nd hi2, atE_eq hi2]
      rfl
  gf k hk j := by
    cases h : log[k]? with
    | none => simp [atE, h] at hk
    | some e =>
      rw [atE_eq h] at hk ⊢
      obtain ⟨x, b⟩ := e
      have hb : b = false := by simpa using hk
      subst hb
      obtain ⟨i, hi, hi2⟩ := ho.bh k x h
      rw [idx_at ho.nd hi2, atE_eq hi2]
  sym i j := hF _ _
end PL

set_option Elab.async false
set_option linter.all false
set_option maxRecDepth 100000
set_option maxHeartbeats 4000000
/-! V7 (k17): entries, their places, one going through. -/
namespace PL
open PySem VL PL.Plan
theorem eqv_en (a b : En) : PyData.eqv (enD a) (enD b) = decide (a = b) := by
  obtain ⟨⟨r, n⟩, s⟩ := a
  obtain ⟨⟨r', n'⟩, s'⟩ := b
  unfold enD
  have hi : ((r : Int) = (r' : Int)) ↔ r = r' := by omega
  cases s <;> cases s' <;> simp [hi, and_assoc]
theorem plain_en (e : En) : (enD e).plain = true := by simp [enD]
theorem plain_log : ∀ log : List En, PyData.plainAll (log.map enD) = true
  | [] => by simp
  | e :: log => by
    have := plain_log log
    simp [this, plain_en]
theorem okD_en (e : En) : okD (enD e) := ⟨plain_en e, by simp [PyData.depth, PyData.depthAll, enD]⟩
theorem place_en : ∀ (log : List En) (e : En), e ∈ log → SeqAt.dataPlace (log.map enD) (enD e) = some (log.idxOf e)
  | a :: log, e, h => by
    unfold SeqAt.dataPlace
    rw [List.map_cons, List.findIdx?_cons, eqv_en]
    by_cases ha : a = e
    · simp [ha]
    · have hm : e ∈ log := by
        rcases List.mem_cons.mp h with z | z
        · exact absurd z.symm ha
        · exact z
      have := place_en log e hm
      unfold SeqAt.dataPlace at this
      rw [this]
      have hb : (a == e) = false := by simpa using ha
      simp [ha, List.idxOf_cons, hb]
theorem any_en (log : List En) (e : En) : ((log.map enD).any fun z => PyData.eqv z (enD e)) = decide (e ∈ log) := by
  induction log with
  | nil => simp
  | cons a log ih =>
    rw [List.map_cons, List.any_cons, ih, eqv_en]
    by_cases h : a = e
    · simp [h]
    · have h2 : ¬ e = a := fun z => h z.symm
      simp [h, h2]
theorem idx_en {log : List En} {e : En} {Q : PyData → Prop} (h : e ∈ log) (q : Q (.int (log.idxOf e : Nat))) : dIdxT (logD log) [enD e] Q := ⟨plain_log log, okD_en e, _, place_en log e h, q⟩
theorem cut_en (e : En) : cutL [PyData.int (e.1.1 : Nat), .str e.1.2, .int (if e.2 = true then 1 else -1)] none (some 2) = [.int (e.1.1 : Nat), .str e.1.2] := by
  have := cutL_to [PyData.int (e.1.1 : Nat), .str e.1.2, .int (if e.2 = true then 1 else -1)] 2
  simpa using this
end PL
namespace W_k17
open PySem VL PL PL.Plan
section
variable {K : PySem.W.Frag} {Qd : PyData → Prop}
theorem s_are_bound {lot : List Plan} {fs : List (De × De)} {a b : En} (ho : LotOk lot) (hf : ∀ z ∈ fs, z.1.1 < z.2.1) (hx : HasDeed lot a.1) (hy : HasDeed lot b.1) (h : Qd (.bool (decide (a.1 = b.1) || gF lot fs a.1 b.1))) : Cl (wp_are_bound K) [.d (lotD lot), .d (fiD fs), .d (enD a), .d (enD b)] Qd := by
  refine ⟨rfl, ?_⟩
  have ea : ∀ e : En, PyData.tuple (cutL [PyData.int (e.1.1 : Nat), .str e.1.2, .int (if e.2 = true then 1 else -1)] none (some 2)) = deD e.1 := fun e => by rw [cut_en]; rfl
  have okx : ∀ z : De, okD (deD z) := fun z => ⟨plain_dd z, by simp [PyData.depth, PyData.depthAll, deD]⟩
  have hcut : ∀ (e : En) (Q : PyData → Prop), Q (deD e.1) → dCut (enD e) none (some 2) Q := fun e Q q => by
    unfold enD
    show Q (.tuple (cutL _ none (some 2)))
    rw [ea]
    exact q
  simp [bd_are_bound, env0, -dCut]
  refine hcut a _ (hcut b _ ⟨okx _, okx _, ?_⟩)
  rw [eqv_dd]
  by_cases e : a.1 = b.1
  · simp [e] at h ⊢
    exact h
  · simp only [e, decide_false, Bool.false_eq_true, if_false]
    refine hcut a _ (hcut b _ ?_)
    refine s_do_fight ho hf hx hy ?_
    simpa [e] using h
end
end W_k17

set_option Elab.async false
set_option linter.all false
set_option maxRecDepth 100000
set_option maxHeartbeats 4000000
/-! V8 (k17): one going through. -/
namespace PL
open PySem VL PL.Plan
theorem Lg.gt_len (L : Lg) : ∀ n, (L.gt n).1.length ≤ n ∧ (L.gt n).2.length ≤ n
  | 0 => by simp [Lg.gt]
  | n + 1 => by
    have := Lg.gt_len L n
    rw [Lg.gt, Lg.st]
    split
    · simp; omega
    · split
      · simp; omega
      · have h2 : ((L.gt n).1.erase (L.f n)).length ≤ (L.gt n).1.length := List.length_erase_le
        simp
        omega
noncomputable def lgOf (lot : List Plan) (fs : List (De × De)) (log : List En) (ho : LogOk log) : Lg := mkLg (gF lot fs) (gF_sym lot fs) log ho
theorem nats_erase : ∀ (xs : List Nat) (k : Nat), ((xs.map fun (i : Nat) => (i : Int)).erase (k : Int)) = (xs.erase k).map fun (i : Nat) => (i : Int)
  | [], k => rfl
  | x :: xs, k => by
    by_cases h : x = k
    · subst h; simp
    · have h2 : ¬ (x : Int) = (k : Int) := by omega
      have e1 : ((x : Int) == (k : Int)) = false := by simpa using h2
      have e2 : (x == k) = false := by simpa using h
      rw [List.map_cons, List.erase_cons_tail (by simp [h2]), List.erase_cons_tail (by simp [h]), nats_erase xs k]
      rfl
/-! entries as tuples -/
theorem en_t (x : De) : enD (x, true) = .tuple [.int (x.1 : Nat), .str x.2, .int 1] := by simp [enD]
theorem en_f (x : De) : enD (x, false) = .tuple [.int (x.1 : Nat), .str x.2, .int (-1)] := by simp [enD]
@[simp] theorem cut2 (a b c : PyData) : cutL [a, b, c] none (some 2) = [a, b] := by
  have := cutL_to [a, b, c] 2
  simpa using this
theorem ixLog {log : List En} {k : Nat} {e : En} (h : log[k]? = some e) {Q : PyData → Prop} : dIx (logD log) (.int (k : Int)) Q = Q (enD e) := by
  have : L2.atI (log.map enD) (k : Int) = some (enD e) := by rw [atI_nat, List.getElem?_map, h]; rfl
  simp [logD, this]
theorem inLog {log : List En} {e : En} {neg : Bool} {Q : PyData → Prop} (h : Q (.bool (if neg then !decide (e ∈ log) else decide (e ∈ log)))) : dIn neg (enD e) (logD log) Q := by
  have ea := any_en log e
  refine ⟨plain_log log, okD_en e, ?_⟩
  simp only [ea]
  exact h
theorem inLogT {log : List En} {x : De} {neg : Bool} {Q : PyData → Prop} (h : Q (.bool (if neg then !decide ((x, true) ∈ log) else decide ((x, true) ∈ log)))) : dIn neg (.tuple [.int (x.1 : Nat), .str x.2, .int 1]) (logD log) Q := by rw [← en_t]; exact inLog h
theorem inLogF {log : List En} {x : De} {neg : Bool} {Q : PyData → Prop} (h : Q (.bool (if neg then !decide ((x, false) ∈ log) else decide ((x, false) ∈ log)))) : dIn neg (.tuple [.int (x.1 : Nat), .str x.2, .int (-1)]) (logD log) Q := by rw [← en_f]; exact inLog h
/-- log.index(e) -/
theorem idxLog {log : List En} {e : En} (he : e ∈ log) {i : Nat} {es : Vn} {Q : PyData → Prop} {l : DL} (hv : es[i]? = some (.sh (logD log))) (hl : ∀ k : List PyData → Prop, k [enD e] → l es k) (q : Q (.int (log.idxOf e : Nat))) :
    (dM "list" dIdxL (dVar i) l es Q) ∨ (dM "tuple" dIdxT (dVar i) l es Q) := by
  right
  simp only [dM, dVar, hv]
  exact ⟨by simp [logD, tyD], hl _ (idx_en he q)⟩
theorem tyD_log (log : List En) : tyD "tuple" (logD log) := by simp [logD, tyD]
end PL
namespace W_k17
open PySem VL PL PL.Plan
section
variable {K : PySem.W.Frag} {Qd : PyData → Prop}
theorem s_gone_through {lot : List Plan} {fs : List (De × De)} {log : List En} (ho : LotOk lot) (hf : ∀ z ∈ fs, z.1.1 < z.2.1) (hl : LogOk log) (hx : ∀ e ∈ log, HasDeed lot e.1) (hn : log.length ≤ 1000) (h : Qd (.tuple [.list (((lgOf lot fs log hl).gt log.length).1.map fun (i : Nat) => .int i), .list (((lgOf lot fs log hl).gt log.length).2.map fun (i : Nat) => .int i)])) : Cl (wp_gone_through K) [.d (lotD lot), .d (fiD fs), .d (logD log)] Qd := by
  refine ⟨rfl, ?_⟩
  unfold bd_gone_through
  generalize hL : lgOf lot fs log hl = L at h
  refine seq_gen fun k1 e1 => ?_
  simp [env0]
  subst e1
  refine seq_gen fun k2 e2 => ?_
  have hen : ∀ Q : List PyData → Prop, Q (enumD (log.map enD)) → dEnum (lCons (dVar 2) lNil) [.sh (lotD lot), .sh (fiD fs), .sh (logD log), .ow (.list []), .ow (.list []), .un, .un, .un, .un] Q := fun Q q => by simpa [logD] using q
  refine hen _ ?_
  refine forE_0 enD (fun i r ρ => ∃ (done : List En) (s5 s6 s7 s8 : Slot), log = done ++ r ∧ done.length = i ∧ ρ = [.sh (lotD lot), .sh (fiD fs), .sh (logD log), .ow (.list ((L.gt i).1.map fun (i : Nat) => .int i)), .ow (.list ((L.gt i).2.map fun (i : Nat) => .int i)), s5, s6, s7, s8]) ⟨[], .un, .un, .un, .un, rfl, rfl, rfl⟩ (fun i e r ρ hP D' e4 e5 hD => ?_) fun i ρ hP => ?_
  · obtain ⟨done, s5, s6, s7, s8, ed, ei, rfl⟩ := hP
    have hei : log[i]? = some e := by rw [ed, ← ei]; simp
    have hil : i < log.length := (List.getElem?_eq_some_iff.mp hei).1
    have hgl := L.gt_len i
    have hu : L.u i = !e.2 := by rw [← hL]; show (!(atE log i).2) = _; rw [atE_eq hei]
    have hfi : L.f i = log.idxOf (e.1, true) := by rw [← hL]; show log.idxOf ((atE log i).1, true) = _; rw [atE_eq hei]
    have nx : ∀ s5 s6 s7 s8, D'.nx [.sh (lotD lot), .sh (fiD fs), .sh (logD log), .ow (.list ((L.gt (i + 1)).1.map fun (i : Nat) => .int i)), .ow (.list ((L.gt (i + 1)).2.map fun (i : Nat) => .int i)), s5, s6, s7, s8] ∧ D'.ct [.sh (lotD lot), .sh (fiD fs), .sh (logD log), .ow (.list ((L.gt (i + 1)).1.map fun (i : Nat) => .int i)), .ow (.list ((L.gt (i + 1)).2.map fun (i : Nat) => .int i)), s5, s6, s7, s8] := fun s5 s6 s7 s8 => hD _ ⟨done ++ [e], s5, s6, s7, s8, by rw [ed]; simp, by simp [ei], rfl⟩
    have hgt : L.gt (i + 1) = L.st (L.gt i) i := rfl
    simp [-dSeq]
    refine seq_gen fun k3 e3 => ?_
    obtain ⟨x, b⟩ := e
    cases b with
    | true =>
      have hst : L.gt (i + 1) = ((L.gt i).1 ++ [i], (L.gt i).2) := by rw [hgt, Lg.st, if_pos (by rw [hu]; rfl)]
      rw [hst] at nx
      simp [en_t]
      refine ⟨by omega, ?_⟩
      have := (nx (.sh (.int i)) (.sh (enD (x, true))) s7 s8).2
      simpa [en_t] using this
    | false =>
      have hun : ¬ L.u i = false := by rw [hu]; simp
      obtain ⟨j0, hj0, hj⟩ := hl.bh i x hei
      have hmem : (x, true) ∈ log := List.mem_of_getElem? hj
      have hfj : L.f i = j0 := by rw [hfi]; exact idx_at hl.nd hj
      simp [en_f]
      subst e3
      refine seq_gen fun k4 e5 => ?_
      simp only [dSet, dOrE]
      refine idxLog hmem rfl (fun k hk => by simpa [← en_t] using hk) ?_
      subst e5
      simp [-dSeq, -List.any_eq_true]
      have memG : ∀ j ∈ (L.gt i).1, j < i := fun j hjm => by
        have ok := (Lg.gt_ok (L := L) i).kept
        rw [ok, List.mem_filter, List.mem_range] at hjm
        exact hjm.1
      refine lcD_map (fun i : Nat => PyData.int i) (fun j => .bool (decide (L.f i < j) && L.g j i)) (L.gt i).1 (fun j hjm kk hk => ?_) ?_
      · have hji := memG j hjm
        have hjl : j < log.length := by omega
        obtain ⟨ej, hej⟩ : ∃ e, log[j]? = some e := ⟨_, List.getElem?_eq_getElem hjl⟩
        have hgj : L.g j i = gF lot fs ej.1 x := by rw [← hL]; show gF lot fs (atE log j).1 (atE log i).1 = _; rw [atE_eq hej, atE_eq hei]
        have hfi2 : (log.idxOf (x, true)) = L.f i := by rw [hfi]
        rw [hfi2]
        by_cases hlt : L.f i < j
        · have hlt2 : (L.f i : Int) < (j : Int) := by omega
          simp [hlt2, -dIx, ixLog hej]
          rw [← en_f]
          have hne : ¬ ej.1 = x := fun e => by
            obtain ⟨y, b⟩ := ej
            simp at e
            subst e
            cases b with
            | true => have := idx_at hl.nd hej; rw [hfi2] at this; omega
            | false =>
              have h1 := idx_at hl.nd hej
              have h2 := idx_at hl.nd hei
              omega
          refine s_are_bound ho hf (hx _ (List.mem_of_getElem? hej)) (hx _ (List.mem_of_getElem? hei)) ?_
          simpa [hne, hlt, hgj] using hk
        · have hlt2 : ¬ (L.f i : Int) < (j : Int) := by omega
          simpa [hlt2, hlt] using hk
      · have hany : (List.map (fun j : Nat => PyData.bool (decide (L.f i < j) && L.g j i)) (L.gt i).1).any PyData.truthy = (L.gt i).1.any fun j => decide (L.f i < j) && L.g j i := by
          rw [List.any_map]
          congr 1
        simp only [dAny, Bool.false_eq_true, if_false, hany]
        obtain ⟨hgt1, hgt2⟩ := hgl
        by_cases ha : ((L.gt i).1.any fun j => decide (L.f i < j) && L.g j i) = true
        · have hst : L.gt (i + 1) = ((L.gt i).1 ++ [i], (L.gt i).2) := by rw [hgt, Lg.st, if_neg hun, if_pos ha]
          rw [hst] at nx
          simp [ha, -List.any_eq_true]
          refine ⟨by omega, ?_⟩
          simpa using (nx _ _ _ _).1
        · have hst : L.gt (i + 1) = ((L.gt i).1.erase (L.f i), (L.gt i).2 ++ [i]) := by rw [hgt, Lg.st, if_neg hun, if_neg ha]
          rw [hst] at nx
          simp [ha, -List.any_eq_true]
          refine ⟨(L.gt i).1.map fun (i : Nat) => (i : Int), by simp [Function.comp_def], ?_, ?_⟩
          · have hal : j0 ∈ (L.gt i).1 := by
              have ok := Lg.gt_ok (L := L) i
              rw [ok.kept, List.mem_filter, List.mem_range]
              refine ⟨hj0, ?_⟩
              rw [Lg.alive_iff]
              refine ⟨fun z => ?_, fun k hk e => ?_⟩
              · obtain ⟨A, B, e2⟩ := List.append_of_mem z
                have h1 := (ok.valid A _ B e2).1
                have h2 := L.dn i (by rw [hu]; rfl)
                rw [hfj, h1] at h2
                cases h2
              · have hki := ok.lt k hk
                obtain ⟨A, B, e2⟩ := List.append_of_mem hk
                have h1 := (ok.valid A _ B e2).1
                have hkl : k < log.length := by omega
                obtain ⟨⟨y, c⟩, hek⟩ : ∃ e, log[k]? = some e := ⟨_, List.getElem?_eq_getElem hkl⟩
                have hc : c = false := by
                  have : L.u k = !c := by rw [← hL]; show (!(atE log k).2) = _; rw [atE_eq hek]
                  have h9 := this.symm.trans h1
                  simpa using h9
                subst hc
                have hfk : L.f k = log.idxOf (y, true) := by rw [← hL]; show log.idxOf ((atE log k).1, true) = _; rw [atE_eq hek]
                obtain ⟨j1, hj1, hj2⟩ := hl.bh k y hek
                rw [hfk, idx_at hl.nd hj2] at e
                subst e
                rw [hj] at hj2
                cases hj2
                have h1 := idx_at hl.nd hek
                have h2 := idx_at hl.nd hei
                omega
            rw [← hfi, hfj]
            exact List.mem_map.mpr ⟨j0, hal, rfl⟩
          · refine ⟨by omega, ?_⟩
            rw [← hfi, nats_erase]
            simpa [Function.comp_def] using (nx _ _ _ _).1
  · obtain ⟨done, s5, s6, s7, s8, ed, ei, rfl⟩ := hP
    have : log = done := by simpa using ed
    subst this
    subst e2
    rw [← ei]
    simp
    exact h
end
end W_k17

set_option Elab.async false
set_option linter.all false
set_option maxRecDepth 100000
set_option maxHeartbeats 4000000
/-! V9 (k17): the rest, strikes, standing deeds, what may be struck and undone. -/
namespace PL
open PySem VL PL.Plan
theorem at_log {log : List En} {k : Nat} (h : k < log.length) : log[k]? = some (atE log k) := by
  rw [List.getElem?_eq_getElem h]
  unfold atE
  rw [List.getElem?_eq_getElem h]
  rfl
theorem at_mem {log : List En} {k : Nat} (h : k < log.length) : atE log k ∈ log := List.mem_of_getElem? (at_log h)
theorem map_at (log : List En) : (List.range log.length).map (atE log) = log := by
  refine List.ext_getElem? fun i => ?_
  rw [List.getElem?_map]
  by_cases h : i < log.length
  · rw [List.getElem?_range h, at_log h]; rfl
  · rw [List.getElem?_eq_none (by simp; omega), List.getElem?_eq_none (by omega)]; rfl
theorem enum_log (log : List En) : enumD (log.map enD) = (List.range log.length).map fun k => .tuple [.int (k : Nat), enD (atE log k)] := by
  unfold enumD
  refine List.ext_getElem? fun i => ?_
  rw [List.getElem?_mapIdx, List.getElem?_map, List.getElem?_map]
  by_cases h : i < log.length
  · rw [List.getElem?_range h, at_log h]; rfl
  · rw [List.getElem?_eq_none (show log.length ≤ i by omega), List.getElem?_eq_none (show (List.range log.length).length ≤ i by simp; omega)]; rfl
theorem place_de : ∀ (xs : List De) (e : De), e ∈ xs → SeqAt.dataPlace (xs.map deD) (deD e) = some (xs.idxOf e)
  | a :: xs, e, h => by
    unfold SeqAt.dataPlace
    rw [List.map_cons, List.findIdx?_cons, eqv_dd]
    by_cases ha : a = e
    · simp [ha]
    · have hm : e ∈ xs := by
        rcases List.mem_cons.mp h with z | z
        · exact absurd z.symm ha
        · exact z
      have := place_de xs e hm
      unfold SeqAt.dataPlace at this
      rw [this]
      have hb : (a == e) = false := by simpa using ha
      simp [ha, List.idxOf_cons, hb]
theorem any_de (xs : List De) (e : De) : ((xs.map deD).any fun z => PyData.eqv z (deD e)) = decide (e ∈ xs) := by
  induction xs with
  | nil => simp
  | cons a xs ih =>
    rw [List.map_cons, List.any_cons, ih, eqv_dd]
    by_cases h : a = e
    · simp [h]
    · have h2 : ¬ e = a := fun z => h z.symm
      simp [h, h2]
theorem plain_des : ∀ xs : List De, PyData.plainAll (xs.map deD) = true
  | [] => by simp
  | e :: xs => by
    have := plain_des xs
    simp [this, plain_dd]
theorem okD_de (e : De) : okD (deD e) := ⟨plain_dd e, by simp [PyData.depth, PyData.depthAll, deD]⟩
def desD (xs : List De) : PyData := .tuple (xs.map deD)
theorem inDes {D : List De} {x : De} {neg : Bool} {Q : PyData → Prop} (h : Q (.bool (if neg then !decide (x ∈ D) else decide (x ∈ D)))) : dIn neg (deD x) (desD D) Q := by
  have ea := any_de D x
  refine ⟨plain_des D, okD_de x, ?_⟩
  simp only [ea]
  exact h
theorem inDesL {D : List De} {x : De} {neg : Bool} {Q : PyData → Prop} (h : Q (.bool (if neg then !decide (x ∈ D) else decide (x ∈ D)))) : dIn neg (deD x) (.list (D.map deD)) Q := by
  have ea := any_de D x
  refine ⟨plain_des D, okD_de x, ?_⟩
  simp only [ea]
  exact h
theorem idxDes {D : List De} {x : De} (hm : x ∈ D) {i j : Nat} {es : Vn} {Q : PyData → Prop} (hv : es[i]? = some (.sh (desD D))) (hj : es[j]? = some (.sh (deD x))) (q : Q (.int (D.idxOf x : Nat))) :
    (dM "list" dIdxL (dVar i) (lCons (dVar j) lNil) es Q) ∨ (dM "tuple" dIdxT (dVar i) (lCons (dVar j) lNil) es Q) := by
  right
  simp only [dM, dVar, hv, hj, lCons, lNil]
  exact ⟨by simp [desD, tyD], plain_des D, okD_de x, _, place_de D x hm, q⟩
theorem idxDesL {D : List De} {x : De} (hm : x ∈ D) {i j : Nat} {es : Vn} {Q : PyData → Prop} (hv : es[i]? = some (.sh (.list (D.map deD)))) (hj : es[j]? = some (.sh (deD x))) (q : Q (.int (D.idxOf x : Nat))) :
    dM "list" dIdxL (dVar i) (lCons (dVar j) lNil) es Q := by
  simp only [dM, dVar, hv, hj, lCons, lNil]
  exact ⟨by simp [tyD], plain_des D, okD_de x, _, place_de D x hm, q⟩
/-- the deeds that stand -/
def stDeeds (log : List En) : List De := (log.filter fun e => e.2 && !decide ((e.1, false) ∈ log)).map (·.1)
noncomputable def stPos (log : List En) : List Nat := (List.range log.length).filter fun k => (atE log k).2 && !decide (((atE log k).1, false) ∈ log)
theorem stPos_map (log : List En) : (stPos log).map (fun k => (atE log k).1) = stDeeds log := by
  unfold stPos stDeeds
  conv => rhs; rw [← map_at log]
  rw [List.filter_map, List.map_map, map_at]
  rfl
def mayU (F : De → De → Bool) (log : List En) (x : De) : Bool := decide (x ∈ stDeeds log) && !((stDeeds log).drop ((stDeeds log).idxOf x + 1)).any fun y => F y x
noncomputable def canS (F : De → De → Bool) (log : List En) (x : De) : Bool := (decide ((x, true) ∈ log) && decide ((x, false) ∈ log)) && !((log.take (log.idxOf (x, false))).drop (log.idxOf (x, true) + 1)).any fun e => F e.1 x
theorem any_truthyB {α : Type} (f : α → Bool) (xs : List α) : (xs.map fun m => PyData.bool (f m)).any PyData.truthy = xs.any f := by
  rw [List.any_map]
  congr 1
theorem anyMap {α : Type} {f : α → Bool} {xs : List α} {Q : PyData → Prop} (h : Q (.bool (xs.any f))) : dAny false [.list (xs.map fun m => .bool (f m))] Q := by
  simp only [dAny, Bool.false_eq_true, if_false, any_truthyB]
  exact ⟨plainAll_bools f xs, h⟩
theorem allMap {α : Type} {f : α → Bool} {xs : List α} {Q : PyData → Prop} (h : Q (.bool (xs.all f))) : dAny true [.list (xs.map fun m => .bool (f m))] Q := by
  have e : (xs.map fun m => PyData.bool (f m)).all PyData.truthy = xs.all f := by
    rw [List.all_map]
    congr 1
  simp only [dAny, if_true, e]
  exact ⟨plainAll_bools f xs, h⟩
theorem cut_mid {α : Type} (xs : List α) (i j : Nat) (hj : j ≤ xs.length) : cutL xs (some (i : Int)) (some (j : Int)) = (xs.take j).drop i := by
  unfold cutL
  rw [HT.sIx_nat, HT.sIx_nat, Nat.min_eq_left hj]
  rcases Nat.le_total i xs.length with h | h
  · rw [Nat.min_eq_left h, List.drop_take]
  · rw [Nat.min_eq_right h, List.drop_of_length_le (Nat.le_refl _), List.drop_of_length_le (by simp; omega)]; simp
end PL
namespace W_k17
open PySem VL PL PL.Plan
section
variable {K : PySem.W.Frag} {Qd : PyData → Prop}
abbrev NL (xs : List Nat) : List PyData := xs.map fun (i : Nat) => PyData.int i
theorem s_rest {lot : List Plan} {fs : List (De × De)} {log : List En} (ho : LotOk lot) (hf : ∀ z ∈ fs, z.1.1 < z.2.1) (hl : LogOk log) (hx : ∀ e ∈ log, HasDeed lot e.1) (hn : log.length ≤ 1000) (h : Qd (.tuple (NL ((lgOf lot fs log hl).gt log.length).1))) : Cl (wp_rest K) [.d (lotD lot), .d (fiD fs), .d (logD log)] Qd := by
  refine ⟨rfl, ?_⟩
  simp [bd_rest, env0]
  refine s_gone_through ho hf hl hx hn ?_
  simpa using h
theorem s_strikes {lot : List Plan} {fs : List (De × De)} {log : List En} (ho : LotOk lot) (hf : ∀ z ∈ fs, z.1.1 < z.2.1) (hl : LogOk log) (hx : ∀ e ∈ log, HasDeed lot e.1) (hn : log.length ≤ 1000) (h : Qd (desD (((lgOf lot fs log hl).gt log.length).2.map fun k => (atE log k).1))) : Cl (wp_strikes K) [.d (lotD lot), .d (fiD fs), .d (logD log)] Qd := by
  refine ⟨rfl, ?_⟩
  simp [bd_strikes, env0]
  refine s_gone_through ho hf hl hx hn ?_
  simp
  have hlt := (Lg.gt_ok (L := lgOf lot fs log hl) log.length).lt
  refine lcD_map (fun i : Nat => PyData.int i) (fun k => deD (atE log k).1) _ (fun k hk q hq => ?_) ?_
  · simp [-dIx, ixLog (at_log (hlt k hk)), enD]
    exact hq
  · simp
    simpa [desD, Function.comp_def] using h
theorem s_standing_deeds {log : List En} (hn : log.length ≤ 1000) (h : Qd (desD (stDeeds log))) : Cl (wp_standing_deeds K) [.d (logD log)] Qd := by
  refine ⟨rfl, ?_⟩
  simp [bd_standing_deeds, env0]
  rw [show logD log = .tuple (log.map enD) from rfl]
  simp only [srcD]
  refine lcD_fn enD (fun e => e.2 && !decide ((e.1, false) ∈ log)) (fun e => deD e.1) log [] (fun e he k hk => ?_) ?_
  · rw [← show logD log = .tuple (log.map enD) from rfl]
    obtain ⟨x, b⟩ := e
    cases b with
    | false => simpa [en_f] using hk
    | true =>
      simp [en_t, -dIn]
      refine inLogF ?_
      by_cases hin : (x, false) ∈ log
      · simpa [hin] using hk
      · simpa [hin, deD] using hk
  · simpa [desD, stDeeds, Function.comp_def] using h
theorem s_may_undo {lot : List Plan} {fs : List (De × De)} {log : List En} {x : De} (ho : LotOk lot) (hf : ∀ z ∈ fs, z.1.1 < z.2.1) (hx : ∀ e ∈ log, HasDeed lot e.1) (hd : HasDeed lot x) (hn : log.length ≤ 1000) (h : Qd (.bool (mayU (gF lot fs) log x))) : Cl (wp_may_undo K) [.d (lotD lot), .d (fiD fs), .d (logD log), .d (deD x)] Qd := by
  refine ⟨rfl, ?_⟩
  unfold bd_may_undo
  refine seq_gen fun k1 e1 => ?_
  simp [env0]
  refine s_standing_deeds hn ?_
  subst e1
  refine seq_gen fun k2 e2 => ?_
  have hmem : ∀ y ∈ stDeeds log, HasDeed lot y := fun y hy => by
    obtain ⟨e, he, rfl⟩ := List.mem_map.mp hy
    exact hx e (List.mem_filter.mp he).1
  unfold mayU at h
  generalize hD : stDeeds log = D at h hmem
  simp [-dIn]
  refine inDes ?_
  by_cases hin : x ∈ D
  · simp [hin]
    subst e2
    simp [-dM]
    refine idxDes hin rfl rfl ?_
    simp [desD]
    rw [show ((D.idxOf x : Nat) : Int) + 1 = ((D.idxOf x + 1 : Nat) : Int) by omega, cutL_from, ← List.map_drop]
    refine lcD_map deD (fun y => .bool (gF lot fs y x)) _ (fun y hy k hk => ?_) ?_
    · simp
      exact s_do_fight ho hf (hmem y (List.mem_of_mem_drop hy)) hd hk
    · refine ⟨plainAll_bools _ _, ?_⟩
      rw [any_truthyB]
      simpa [hin] using h
  · simp [hin]
    simpa [hin] using h
theorem s_can_strike {lot : List Plan} {fs : List (De × De)} {log : List En} {x : De} (ho : LotOk lot) (hf : ∀ z ∈ fs, z.1.1 < z.2.1) (hl : LogOk log) (hx : ∀ e ∈ log, HasDeed lot e.1) (hd : HasDeed lot x) (hn : log.length ≤ 1000) (h : Qd (.bool (canS (gF lot fs) log x))) : Cl (wp_can_strike K) [.d (lotD lot), .d (fiD fs), .d (logD log), .d (deD x)] Qd := by
  refine ⟨rfl, ?_⟩
  unfold bd_can_strike
  refine seq_gen fun k1 e1 => ?_
  simp [env0, -dIn, deD]
  unfold canS at h
  refine inLogT ?_
  by_cases h1 : (x, true) ∈ log
  · simp [h1, -dIn]
    refine inLogF ?_
    by_cases h2 : (x, false) ∈ log
    · simp [h2]
      subst e1
      refine seq_gen fun k2 e2 => ?_
      simp only [dPar, dOrE]
      refine idxLog h1 rfl (fun k hk => by simpa [← en_t] using hk) ?_
      refine idxLog h2 rfl (fun k hk => by simpa [← en_f] using hk) ?_
      subst e2
      obtain ⟨j, hj⟩ := List.getElem?_of_mem h2
      obtain ⟨i, hi, hi2⟩ := hl.bh j x hj
      have hjl : j < log.length := (List.getElem?_eq_some_iff.mp hj).1
      rw [idx_at hl.nd hj, idx_at hl.nd hi2] at h ⊢
      simp [logD]
      rw [show ((i : Nat) : Int) + 1 = ((i + 1 : Nat) : Int) by omega, cut_mid _ _ _ (by simp; omega), ← List.map_take, ← List.map_drop]
      refine lcD_map enD (fun e => .bool (gF lot fs e.1 x)) _ (fun e he k hk => ?_) ?_
      · simp [enD]
        exact s_do_fight (x := e.1) (y := x) ho hf (hx _ (List.mem_of_mem_take (List.mem_of_mem_drop he))) hd hk
      · refine ⟨plainAll_bools _ _, ?_⟩
        rw [any_truthyB]
        simpa [h1, h2] using h
    · simpa [h1, h2] using h
  · simpa [h1] using h
/-! the law's own -/
noncomputable def undP (log : List En) (k : Nat) : PyData := if ((atE log k).1, false) ∈ log then .int (log.idxOf ((atE log k).1, false) : Nat) else .none
theorem l_undoing {log : List En} {k : Nat} (hk : k < log.length) (h : Qd (undP log k)) : Cl (wp__law_undoing K) [.d (logD log), .d (.int (k : Nat))] Qd := by
  refine ⟨rfl, ?_⟩
  unfold undP at h
  simp [bd__law_undoing, env0, -dIx, -dIn, -dM, ixLog (at_log hk), enD]
  refine inLogF ?_
  by_cases h2 : ((atE log k).1, false) ∈ log
  · simp [h2, -dM]
    simp [h2] at h
    exact idxLog h2 rfl (fun q hq => by simpa [-dIx, ixLog (at_log hk), enD] using hq) h
  · simpa [h2] using h
theorem l_stand {log : List En} (hn : log.length ≤ 1000) (h : Qd (.list (NL (stPos log)))) : Cl (wp__law_stand K) [.d (logD log)] Qd := by
  refine ⟨rfl, ?_⟩
  have hen : ∀ Q : List PyData → Prop, Q (enumD (log.map enD)) → dEnum (lCons (dVar 0) lNil) [.sh (logD log), .un, .un] Q := fun Q q => by simpa [logD] using q
  simp [bd__law_stand, env0, -dEnum]
  refine hen _ ?_
  rw [enum_log]
  refine lcD_fn (fun k : Nat => PyData.tuple [.int k, enD (atE log k)]) (fun k => (atE log k).2 && !decide (((atE log k).1, false) ∈ log)) (fun k => .int k) (List.range log.length) [] (fun k hk q hq => ?_) ?_
  · have hk := List.mem_range.mp hk
    generalize he : atE log k = e at hq
    obtain ⟨x, b⟩ := e
    cases b with
    | false => simpa [en_f] using hq
    | true =>
      simp [en_t]
      refine l_undoing hk ?_
      unfold undP
      rw [he]
      by_cases h2 : (x, false) ∈ log
      · simpa [h2, isNoneD] using hq
      · simpa [h2, isNoneD] using hq
  · simpa [stPos] using h
theorem l_may_undo {lot : List Plan} {fs : List (De × De)} {log : List En} {x : De} (ho : LotOk lot) (hx : ∀ e ∈ log, HasDeed lot e.1) (hd : HasDeed lot x) (hn : log.length ≤ 1000) (h : Qd (.bool (mayU (gF lot fs) log x))) : Cl (wp__law_may_undo K) [.d (lotD lot), .d (fiD fs), .d (logD log), .d (deD x)] Qd := by
  refine ⟨rfl, ?_⟩
  unfold bd__law_may_undo
  refine seq_gen fun k1 e1 => ?_
  have hmem : ∀ y ∈ stDeeds log, HasDeed lot y := fun y hy => by
    obtain ⟨e, he, rfl⟩ := List.mem_map.mp hy
    exact hx e (List.mem_filter.mp he).1
  simp [env0]
  refine l_stand hn ?_
  simp
  refine lcD_map (fun i : Nat => PyData.int i) (fun k => deD (atE log k).1) _ (fun k hk q hq => ?_) ?_
  · have hk : k < log.length := List.mem_range.mp (List.mem_filter.mp hk).1
    simp [-dIx, ixLog (at_log hk), enD]
    exact hq
  rw [show (stPos log).map (fun k => deD (atE log k).1) = (stDeeds log).map deD by rw [← stPos_map, List.map_map]; rfl]
  subst e1
  refine seq_gen fun k2 e2 => ?_
  unfold mayU at h
  generalize hD : stDeeds log = D at h hmem
  simp [-dIn]
  refine inDesL ?_
  by_cases hin : x ∈ D
  · simp [hin]
    subst e2
    simp [-dM]
    refine idxDesL hin rfl rfl ?_
    simp
    rw [show ((D.idxOf x : Nat) : Int) + 1 = ((D.idxOf x + 1 : Nat) : Int) by omega, cutL_from, ← List.map_drop]
    refine lcD_map deD (fun y => .bool (gF lot fs y x)) _ (fun y hy k hk => ?_) ?_
    · simp
      exact l_fight ho hd (hmem y (List.mem_of_mem_drop hy)) (by rw [gF_sym]; exact hk)
    · refine ⟨plainAll_bools _ _, ?_⟩
      rw [any_truthyB]
      simpa [hin] using h
  · simp [hin]
    simpa [hin] using h
theorem l_can_strike {lot : List Plan} {fs : List (De × De)} {log : List En} {x : De} (ho : LotOk lot) (hl : LogOk log) (hx : ∀ e ∈ log, HasDeed lot e.1) (hd : HasDeed lot x) (hn : log.length ≤ 1000) (h : Qd (.bool (canS (gF lot fs) log x))) : Cl (wp__law_can_strike K) [.d (lotD lot), .d (fiD fs), .d (logD log), .d (deD x)] Qd := by
  refine ⟨rfl, ?_⟩
  unfold bd__law_can_strike
  refine seq_gen fun k1 e1 => ?_
  simp [env0, -dIn, deD]
  unfold canS at h
  refine inLogF ?_
  by_cases h2 : (x, false) ∈ log
  · simp [h2, -dIn]
    obtain ⟨j, hj⟩ := List.getElem?_of_mem h2
    obtain ⟨i, hi, hi2⟩ := hl.bh j x hj
    have h1 : (x, true) ∈ log := List.mem_of_getElem? hi2
    have hjl : j < log.length := (List.getElem?_eq_some_iff.mp hj).1
    subst e1
    refine seq_gen fun k2 e2 => ?_
    simp [-dM, logD]
    refine idxLog h1 rfl (fun k hk => by simpa [← en_t] using hk) ?_
    simp [-dM]
    refine idxLog h2 rfl (fun k hk => by simpa [← en_f] using hk) ?_
    subst e2
    rw [idx_at hl.nd hj, idx_at hl.nd hi2] at h ⊢
    simp [logD]
    rw [show ((i : Nat) : Int) + 1 = ((i + 1 : Nat) : Int) by omega, cut_mid _ _ _ (by simp; omega), ← List.map_take, ← List.map_drop]
    refine lcD_map enD (fun e => .bool (gF lot fs e.1 x)) _ (fun e he k hk => ?_) ?_
    · simp [enD]
      exact l_fight (x := x) (y := e.1) ho hd (hx _ (List.mem_of_mem_take (List.mem_of_mem_drop he))) (by rw [gF_sym]; exact hk)
    · refine ⟨plainAll_bools _ _, ?_⟩
      rw [any_truthyB]
      simpa [h1, h2] using h
  · simpa [h2] using h
theorem s_lost_at {lot : List Plan} {fs : List (De × De)} {log : List En} (ho : LotOk lot) (hf : ∀ z ∈ fs, z.1.1 < z.2.1) (hl : LogOk log) (hx : ∀ e ∈ log, HasDeed lot e.1) (hn : log.length ≤ 1000) (h : Qd (match (((lgOf lot fs log hl).gt log.length).1.filter fun k => !(atE log k).2).head? with | some k => .int ((k + 1 : Nat) : Int) | none => .none)) : Cl (wp_lost_at K) [.d (lotD lot), .d (fiD fs), .d (logD log)] Qd := by
  refine ⟨rfl, ?_⟩
  unfold bd_lost_at
  refine seq_gen fun k1 e1 => ?_
  simp [env0]
  refine s_rest ho hf hl hx hn ?_
  have hk := (Lg.gt_ok (L := lgOf lot fs log hl) log.length).kept
  have hlt : ∀ k ∈ ((lgOf lot fs log hl).gt log.length).1, k < log.length := fun k h => by
    rw [hk, List.mem_filter, List.mem_range] at h
    exact h.1
  generalize ((lgOf lot fs log hl).gt log.length).1 = R at h hlt
  simp
  refine lcD_fn (fun i : Nat => PyData.int i) (fun k => !(atE log k).2) (fun k => .int k) R [] (fun k hk q hq => ?_) ?_
  · have he := at_log (hlt k hk)
    generalize atE log k = e at hq he
    obtain ⟨x, b⟩ := e
    cases b with
    | true =>
      simp [-dIx, ixLog he, en_t]
      simpa using hq
    | false =>
      simp [-dIx, ixLog he, en_f]
      simpa using hq
  · subst e1
    cases hR : R.filter (fun k => !(atE log k).2) with
    | nil => rw [hR] at h; simpa using h
    | cons a l =>
      rw [hR] at h
      simp
      exact ⟨of_eq_true (okD_ints (a :: l)), by simpa using h⟩
end
end W_k17

set_option Elab.async false
set_option linter.all false
set_option maxRecDepth 100000
set_option maxHeartbeats 4000000
/-! V10 (k17): knots. -/
namespace PL
open PySem VL PL.Plan
theorem uniq_filter {α : Type} [DecidableEq α] {P : α → Bool} {a : α} : ∀ {xs : List α}, xs.Nodup → a ∈ xs → (∀ x ∈ xs, P x = decide (x = a)) → xs.filter P = [a]
  | x :: xs, hn, hm, hP => by
    have hx := hP x (List.mem_cons_self ..)
    rw [List.nodup_cons] at hn
    by_cases e : x = a
    · subst e
      rw [List.filter_cons_of_pos (by rw [hx]; simp)]
      congr 1
      refine List.filter_eq_nil_iff.mpr fun y hy => ?_
      rw [hP y (List.mem_cons_of_mem _ hy)]
      simp
      exact fun z => hn.1 (z ▸ hy)
    · rw [List.filter_cons_of_neg (by rw [hx]; simp [e])]
      refine uniq_filter hn.2 ?_ fun y hy => hP y (List.mem_cons_of_mem _ hy)
      rcases List.mem_cons.mp hm with z | z
      · exact absurd z.symm e
      · exact z
/-- the undoing of the deed at k -/
noncomputable def un (log : List En) (k : Nat) : Nat := log.idxOf ((atE log k).1, false)
section
variable {lot : List Plan} {fs : List (De × De)} {log : List En} (hl : LogOk log)
/-- what is held of the log, of what is kept -/
structure Kp (log : List En) (F : De → De → Bool) (R : List Nat) : Prop where
  lt : ∀ k ∈ R, k < log.length
  sorted : R.Pairwise (· < ·)
  part : ∀ k ∈ R, ∀ j, j < log.length → (atE log j).1 = (atE log k).1 → j ∈ R
  stuck : ∀ k ∈ R, (atE log k).2 = false → ∃ i ∈ R, log.idxOf ((atE log k).1, true) < i ∧ i < k ∧ F (atE log i).1 (atE log k).1 = true
theorem at_uniq {log : List En} (hn : log.Nodup) {i j : Nat} (hi : i < log.length) (hj : j < log.length) (h : atE log i = atE log j) : i = j := by
  have a := idx_at hn (at_log hi)
  have b := idx_at hn (at_log hj)
  rw [h] at a
  omega
theorem first_at {log : List En} (hl : LogOk log) {k : Nat} (hk : k < log.length) (hu : (atE log k).2 = false) : log.idxOf ((atE log k).1, true) < k ∧ atE log (log.idxOf ((atE log k).1, true)) = ((atE log k).1, true) := by
  have h := at_log hk
  generalize atE log k = e at h hu ⊢
  obtain ⟨x, b⟩ := e
  simp at hu
  subst hu
  obtain ⟨i, hi, hi2⟩ := hl.bh k x h
  rw [idx_at hl.nd hi2]
  exact ⟨hi, atE_eq hi2⟩
theorem kp_of (hl : LogOk log) : Kp log (gF lot fs) ((lgOf lot fs log hl).gt log.length).1 := by
  have ok := Lg.gt_ok (L := lgOf lot fs log hl) log.length
  have hu : ∀ k, (lgOf lot fs log hl).u k = !(atE log k).2 := fun k => rfl
  have hfk : ∀ k, (lgOf lot fs log hl).f k = log.idxOf ((atE log k).1, true) := fun k => rfl
  have hg : ∀ i j, (lgOf lot fs log hl).g i j = gF lot fs (atE log i).1 (atE log j).1 := fun i j => rfl
  generalize lgOf lot fs log hl = L at ok hu hfk hg
  generalize hs : L.gt log.length = s at ok
  obtain ⟨R, G⟩ := s
  obtain ⟨hk, hlt, hv, hi⟩ := ok
  simp only at hk hlt hv hi ⊢
  have memR : ∀ k, k ∈ R ↔ k < log.length ∧ L.alive G k = true := fun k => by rw [hk, List.mem_filter, List.mem_range]
  have uG : ∀ k ∈ G, (atE log k).2 = false := fun k hkG => by
    obtain ⟨A, B, e⟩ := List.append_of_mem hkG
    have := (hv A k B e).1
    rw [hu] at this
    simpa using this
  refine ⟨fun k h => ((memR k).mp h).1, ?_, fun k h j hj he => ?_, fun k h hf => ?_⟩
  · rw [hk]; exact List.pairwise_lt_range.filter _
  · obtain ⟨h1, h2⟩ := (memR k).mp h
    by_cases ejk : j = k
    · rw [ejk]; exact h
    rw [Lg.alive_iff] at h2
    refine (memR j).mpr ⟨hj, Lg.alive_iff.mpr ⟨fun z => ?_, fun i hiG e => ?_⟩⟩
    · -- j struck: k is its doing
      have uj := uG j z
      have fj := first_at hl hj uj
      have uk : (atE log k).2 = true := by
        cases hb : (atE log k).2 with
        | true => rfl
        | false => exact absurd (at_uniq hl.nd hj h1 (Prod.ext he (uj.trans hb.symm))) ejk
      have : L.f j = k := by
        rw [hfk]
        refine at_uniq hl.nd (by have := fj.1; omega) h1 ?_
        rw [fj.2]
        exact Prod.ext he uk.symm
      exact h2.2 j z this
    · -- j = the doing of a struck i: k is i
      have ui := uG i hiG
      have hil := hlt i hiG
      have fi := first_at hl hil ui
      rw [hfk] at e
      rw [e] at fi
      have uk : (atE log k).2 = false := by
        cases hb : (atE log k).2 with
        | false => rfl
        | true => exact absurd (at_uniq hl.nd hj h1 (Prod.ext he (by rw [fi.2, hb]))) ejk
      have : i = k := at_uniq hl.nd hil h1 (Prod.ext (by rw [← he, fi.2]) (ui.trans uk.symm))
      rw [this] at hiG
      exact h2.1 hiG
  · obtain ⟨h1, h2⟩ := (memR k).mp h
    have h3 := (Lg.alive_iff.mp h2).1
    have hn := hi k h1 (by rw [hu, hf]; rfl) h3
    apply Classical.byContradiction
    intro hno
    refine hn fun i a b c => ?_
    cases hgi : L.g i k with
    | false => rfl
    | true =>
      rw [hg] at hgi
      rw [hfk] at a
      exact absurd ⟨i, (memR i).mpr ⟨by omega, c⟩, a, b, hgi⟩ hno
end
/-- a knot's beginning -/
structure KnB (log : List En) (F : De → De → Bool) (R : List Nat) (v : List Nat) : Prop where
  lt : ∀ k ∈ v, k < log.length
  pr : ∀ k ∈ v, (atE log k).2 = true ∧ ((atE log k).1, false) ∈ log ∧ un log k ∈ R
  wi : ∀ i, i + 1 < v.length → v.getD i 0 < v.getD (i + 1) 0 ∧ un log (v.getD (i + 1) 0) < un log (v.getD i 0)
  fi : ∀ i, i + 1 < v.length → F (atE log (v.getD i 0)).1 (atE log (v.getD (i + 1) 0)).1 = true
/-- a knot -/
structure Kn (log : List En) (F : De → De → Bool) (v : List Nat) : Prop where
  len : 2 ≤ v.length
  lt : ∀ k ∈ v, k < log.length
  pr : ∀ i, i + 1 < v.length → (atE log (v.getD i 0)).2 = true ∧ ((atE log (v.getD i 0)).1, false) ∈ log
  wi : ∀ i, i + 2 < v.length → v.getD i 0 < v.getD (i + 1) 0 ∧ un log (v.getD (i + 1) 0) < un log (v.getD i 0)
  la : v.getD (v.length - 2) 0 < v.getD (v.length - 1) 0 ∧ v.getD (v.length - 1) 0 < un log (v.getD (v.length - 2) 0)
  on : ∀ k, v.getD (v.length - 2) 0 < k → k < un log (v.getD (v.length - 2) 0) → (atE log k).1 = (atE log (v.getD (v.length - 1) 0)).1 → k = v.getD (v.length - 1) 0
  fi : ∀ i, i + 1 < v.length → F (atE log (v.getD i 0)).1 (atE log (v.getD (i + 1) 0)).1 = true
section
variable {log : List En} {F : De → De → Bool} {R : List Nat}
theorem un_at {log : List En} (hl : LogOk log) {k : Nat} (h : ((atE log k).1, false) ∈ log) : un log k < log.length ∧ atE log (un log k) = ((atE log k).1, false) := by
  obtain ⟨j, hj⟩ := List.getElem?_of_mem h
  unfold un
  rw [idx_at hl.nd hj]
  exact ⟨(List.getElem?_eq_some_iff.mp hj).1, atE_eq hj⟩
theorem un_gt {log : List En} (hl : LogOk log) {k : Nat} (hk : k < log.length) (hd : (atE log k).2 = true) (h : ((atE log k).1, false) ∈ log) : k < un log k ∧ log.idxOf ((atE log k).1, true) = k := by
  have a := un_at hl h
  have b := first_at hl a.1 (by rw [a.2])
  rw [a.2] at b
  have e : log.idxOf ((atE log k).1, true) = k := by
    have := idx_at hl.nd (at_log hk)
    rw [show atE log k = ((atE log k).1, true) from Prod.ext rfl hd] at this
    exact this
  simp only [e] at b
  exact ⟨b.1, e⟩
/-- one more lap: the first fighting kept entry between; alone it closes the knot, otherwise it goes on -/
theorem lap (hl : LogOk log) (hF : ∀ x y, F x y = F y x) (hirr : ∀ x, F x x = false) (kp : Kp log F R) {v : List Nat} {low : Nat} (kb : KnB log F R (v ++ [low])) :
    ∃ last rest, (R.filter fun k => decide (low < k) && decide (k < un log low)).filter (fun k => F (atE log k).1 (atE log low).1) = last :: rest ∧ last < log.length ∧
      (((R.filter fun k => decide (low < k) && decide (k < un log low)).filter fun k => decide ((atE log k).1 = (atE log last).1)) = [last] ∧ Kn log F (v ++ [low] ++ [last]) ∨
        ∃ s r, ((R.filter fun k => decide (low < k) && decide (k < un log low)).filter fun k => decide ((atE log k).1 = (atE log last).1)) = s :: r ∧ r ≠ [] ∧ low < s ∧ KnB log F R (v ++ [low] ++ [s])) := by
  obtain ⟨lt, pr, wi, fi⟩ := kb
  have hlow := lt low (by simp)
  obtain ⟨p1, p2, p3⟩ := pr low (by simp)
  have hun := un_at hl p2
  have hgt := un_gt hl hlow p1 p2
  obtain ⟨i, hiR, hi1, hi2, hi3⟩ := kp.stuck _ p3 (by rw [hun.2])
  rw [hun.2] at hi1 hi3
  simp only at hi1 hi3
  rw [hgt.2] at hi1
  generalize hB : (R.filter fun k => decide (low < k) && decide (k < un log low)) = B
  have memB : ∀ k, k ∈ B ↔ k ∈ R ∧ low < k ∧ k < un log low := fun k => by rw [← hB, List.mem_filter, Bool.and_eq_true, decide_eq_true_eq, decide_eq_true_eq]
  have sB : B.Pairwise (· < ·) := by rw [← hB]; exact kp.sorted.filter _
  have hiF : i ∈ B.filter fun k => F (atE log k).1 (atE log low).1 := List.mem_filter.mpr ⟨(memB i).mpr ⟨hiR, hi1, hi2⟩, hi3⟩
  cases hf : B.filter (fun k => F (atE log k).1 (atE log low).1) with
  | nil => rw [hf] at hiF; simp at hiF
  | cons last rest =>
    have hlm : last ∈ B.filter fun k => F (atE log k).1 (atE log low).1 := by rw [hf]; simp
    obtain ⟨hlB, hlF⟩ := List.mem_filter.mp hlm
    obtain ⟨l1, l2, l3⟩ := (memB last).mp hlB
    have hll := kp.lt _ l1
    refine ⟨last, rest, rfl, hll, ?_⟩
    have hsm : last ∈ B.filter fun k => decide ((atE log k).1 = (atE log last).1) := List.mem_filter.mpr ⟨hlB, by simp⟩
    have pS : (B.filter fun k => decide ((atE log k).1 = (atE log last).1)).Pairwise (· < ·) := sB.filter _
    have gA : ∀ i, i < (v ++ [low]).length → ∀ s, (v ++ [low] ++ [s]).getD i 0 = (v ++ [low]).getD i 0 := fun i h s => by
      rw [List.getD_eq_getElem?_getD, List.getD_eq_getElem?_getD, List.getElem?_append_left h]
    have gL : ∀ s, (v ++ [low] ++ [s]).getD (v.length + 1) 0 = s := fun s => by simp
    have gM : ∀ s, (v ++ [low] ++ [s]).getD v.length 0 = low := fun s => by simp
    cases hS : B.filter (fun k => decide ((atE log k).1 = (atE log last).1)) with
    | nil => rw [hS] at hsm; simp at hsm
    | cons s r =>
      rw [hS] at hsm pS
      by_cases hr : r = []
      · left
        subst hr
        have es : last = s := by simpa using hsm
        subst es
        refine ⟨rfl, by simp, fun k hk => ?_, fun i h => ?_, fun i h => ?_, ?_, ?_, fun i h => ?_⟩
        · rcases List.mem_append.mp hk with z | z
          · exact lt k z
          · rw [List.mem_singleton.mp z]; exact hll
        · simp only [List.length_append, List.length_singleton] at h
          rw [gA i (by simp; omega)]
          have hm : (v ++ [low]).getD i 0 ∈ v ++ [low] := by
            rw [List.getD_eq_getElem?_getD, List.getElem?_eq_getElem (by simp; omega)]
            exact List.getElem_mem _
          exact ⟨(pr _ hm).1, (pr _ hm).2.1⟩
        · simp only [List.length_append, List.length_singleton] at h
          rw [gA i (by simp; omega), gA (i + 1) (by simp; omega)]
          exact wi i (by simp; omega)
        · have e1 : (v ++ [low] ++ [last]).length - 2 = v.length := by simp
          have e2 : (v ++ [low] ++ [last]).length - 1 = v.length + 1 := by simp
          rw [e1, e2, gL, gM]
          exact ⟨l2, l3⟩
        · have e1 : (v ++ [low] ++ [last]).length - 2 = v.length := by simp
          have e2 : (v ++ [low] ++ [last]).length - 1 = v.length + 1 := by simp
          rw [e1, e2, gL, gM]
          intro k a b c
          have hkl : k < log.length := by have := hun.1; omega
          have : k ∈ B.filter fun k => decide ((atE log k).1 = (atE log last).1) := List.mem_filter.mpr ⟨(memB k).mpr ⟨kp.part _ l1 k hkl c, a, b⟩, by simp [c]⟩
          rw [hS] at this
          simpa using this
        · simp only [List.length_append, List.length_singleton] at h
          by_cases hi : i = v.length
          · subst hi
            rw [gL, gM, hF]
            exact hlF
          · rw [gA i (by simp; omega), gA (i + 1) (by simp; omega)]
            exact fi i (by simp; omega)
      · right
        refine ⟨s, r, rfl, hr, ?_⟩
        obtain ⟨t, r', rfl⟩ : ∃ t r', r = t :: r' := by cases r with
          | nil => exact absurd rfl hr
          | cons t r' => exact ⟨t, r', rfl⟩
        have hst : s < t := (List.pairwise_cons.mp pS).1 t (by simp)
        have hsm2 : s ∈ B.filter fun k => decide ((atE log k).1 = (atE log last).1) := by rw [hS]; simp
        have htm2 : t ∈ B.filter fun k => decide ((atE log k).1 = (atE log last).1) := by rw [hS]; simp
        obtain ⟨s1, s2⟩ := List.mem_filter.mp hsm2
        obtain ⟨t1, t2⟩ := List.mem_filter.mp htm2
        simp only [decide_eq_true_eq] at s2 t2
        obtain ⟨s3, s4, s5⟩ := (memB s).mp s1
        obtain ⟨t3, t4, t5⟩ := (memB t).mp t1
        have hsl := kp.lt _ s3
        have htl := kp.lt _ t3
        have bs : (atE log s).2 = true := by
          cases hb : (atE log s).2 with
          | true => rfl
          | false =>
            have f := first_at hl hsl hb
            cases hbt : (atE log t).2 with
            | false => have := at_uniq hl.nd hsl htl (Prod.ext (s2.trans t2.symm) (hb.trans hbt.symm)); omega
            | true =>
              have := at_uniq hl.nd (show log.idxOf ((atE log s).1, true) < log.length by have := f.1; omega) htl (by rw [f.2]; exact Prod.ext (s2.trans t2.symm) hbt.symm)
              have := f.1
              omega
        have bt : (atE log t).2 = false := by
          cases hbt : (atE log t).2 with
          | false => rfl
          | true => have := at_uniq hl.nd hsl htl (Prod.ext (s2.trans t2.symm) (bs.trans hbt.symm)); omega
        have et : atE log t = ((atE log s).1, false) := Prod.ext (t2.trans s2.symm) bt
        have hin : ((atE log s).1, false) ∈ log := by rw [← et]; exact at_mem htl
        have eun : un log s = t := by
          unfold un
          rw [← et]
          exact idx_at hl.nd (at_log htl)
        refine ⟨s4, fun k hk => ?_, fun k hk => ?_, fun i h => ?_, fun i h => ?_⟩
        · rcases List.mem_append.mp hk with z | z
          · exact lt k z
          · rw [List.mem_singleton.mp z]; exact hsl
        · rcases List.mem_append.mp hk with z | z
          · exact pr k z
          · rw [List.mem_singleton.mp z]
            exact ⟨bs, hin, by rw [eun]; exact t3⟩
        · simp only [List.length_append, List.length_singleton] at h
          by_cases hi : i = v.length
          · subst hi
            rw [gL, gM, eun]
            exact ⟨s4, t5⟩
          · rw [gA i (by simp; omega), gA (i + 1) (by simp; omega)]
            exact wi i (by simp; omega)
        · simp only [List.length_append, List.length_singleton] at h
          by_cases hi : i = v.length
          · subst hi
            rw [gL, gM, hF, s2]
            exact hlF
          · rw [gA i (by simp; omega), gA (i + 1) (by simp; omega)]
            exact fi i (by simp; omega)
end
theorem gF_self (lot : List Plan) (fs : List (De × De)) (x : De) : gF lot fs x x = false := by
  unfold gF
  simp
end PL

set_option Elab.async false
set_option linter.all false
set_option maxRecDepth 100000
set_option maxHeartbeats 4000000
/-! V11 (k17): knot, by the program. -/
namespace PL
open PySem VL PL.Plan
theorem plain_nats : ∀ xs : List Nat, PyData.plainAll (xs.map fun (i : Nat) => PyData.int i) = true
  | [] => by simp
  | x :: xs => by have := plain_nats xs; simp [this]
theorem any_nat (xs : List Nat) (k : Nat) : ((xs.map fun (i : Nat) => PyData.int i).any fun z => PyData.eqv z (.int (k : Int))) = decide (k ∈ xs) := by
  induction xs with
  | nil => simp
  | cons a xs ih =>
    rw [List.map_cons, List.any_cons, ih, eqv_int]
    by_cases h : a = k
    · simp [h]
    · have h2 : ¬ k = a := fun z => h z.symm
      have h3 : ¬ (a : Int) = (k : Int) := by omega
      simp [h2, h3]
theorem inNatT {R : List Nat} {k : Nat} {neg : Bool} {Q : PyData → Prop} (h : Q (.bool (if neg then !decide (k ∈ R) else decide (k ∈ R)))) : dIn neg (.int (k : Int)) (.tuple (R.map fun (i : Nat) => PyData.int i)) Q := by
  have ea := any_nat R k
  refine ⟨plain_nats R, by simp, ?_⟩
  simp only [ea]
  exact h
theorem inNatL {R : List Nat} {k : Nat} {neg : Bool} {Q : PyData → Prop} (h : Q (.bool (if neg then !decide (k ∈ R) else decide (k ∈ R)))) : dIn neg (.int (k : Int)) (.list (R.map fun (i : Nat) => PyData.int i)) Q := by
  have ea := any_nat R k
  refine ⟨plain_nats R, by simp, ?_⟩
  simp only [ea]
  exact h
@[simp] theorem ixL (xs : List PyData) (i : Int) (Q : PyData → Prop) : dIx (.list xs) (.int i) Q = match L2.atI xs i with | some z => Q z | none => False := rfl
@[simp] theorem ixT (xs : List PyData) (i : Int) (Q : PyData → Prop) : dIx (.tuple xs) (.int i) Q = match L2.atI xs i with | some z => Q z | none => False := rfl
@[simp] theorem cutLi (xs : List PyData) (l h : Option Int) (Q : PyData → Prop) : dCut (.list xs) l h Q = Q (.list (cutL xs l h)) := rfl
@[simp] theorem cutTu (xs : List PyData) (l h : Option Int) (Q : PyData → Prop) : dCut (.tuple xs) l h Q = Q (.tuple (cutL xs l h)) := rfl
@[simp] theorem eq_int (a b : Int) (Q : PyData → Prop) : dEq (.int a) (.int b) Q = Q (.bool (decide (a = b))) := by simp
@[simp] theorem eq_str (a b : Str) (Q : PyData → Prop) : dEq (.str a) (.str b) Q = Q (.bool (decide (a = b))) := by simp
@[simp] theorem eq_bool (a b : Bool) (Q : PyData → Prop) : dEq (.bool a) (.bool b) Q = Q (.bool (decide (a = b))) := by simp
@[simp] theorem eq_list (a b : List PyData) (Q : PyData → Prop) : dEq (.list a) (.list b) Q = (okD (.list a) ∧ okD (.list b) ∧ Q (.bool (PyData.eqvAll a b))) := by simp
@[simp] theorem eq_tuple (a b : List PyData) (Q : PyData → Prop) : dEq (.tuple a) (.tuple b) Q = (okD (.tuple a) ∧ okD (.tuple b) ∧ Q (.bool (PyData.eqvAll a b))) := by simp
@[simp] theorem ne_int (a b : Int) (Q : PyData → Prop) : dNe (.int a) (.int b) Q = Q (.bool (!decide (a = b))) := by simp
@[simp] theorem ne_str (a b : Str) (Q : PyData → Prop) : dNe (.str a) (.str b) Q = Q (.bool (!decide (a = b))) := by simp
@[simp] theorem ne_bool (a b : Bool) (Q : PyData → Prop) : dNe (.bool a) (.bool b) Q = Q (.bool (!decide (a = b))) := by simp
@[simp] theorem ne_list (a b : List PyData) (Q : PyData → Prop) : dNe (.list a) (.list b) Q = (okD (.list a) ∧ okD (.list b) ∧ Q (.bool (!PyData.eqvAll a b))) := by simp
@[simp] theorem ne_tuple (a b : List PyData) (Q : PyData → Prop) : dNe (.tuple a) (.tuple b) Q = (okD (.tuple a) ∧ okD (.tuple b) ∧ Q (.bool (!PyData.eqvAll a b))) := by simp
theorem iteq {c : Prop} [Decidable c] {q : Option PyData → Prop} {a b : Option PyData} (h : q (if c then a else b)) : if c then q a else q b := by
  split <;> simp_all
@[simp] theorem ixLogA {log : List En} {k : Nat} (h : k < log.length) {Q : PyData → Prop} : dIx (logD log) (.int (k : Int)) Q = Q (enD (atE log k)) := by rw [ixLog (at_log h)]
@[simp] theorem ix2En (e : En) {Q : PyData → Prop} : dIx (enD e) (.int 2) Q = Q (.int (if e.2 = true then 1 else -1)) := by simp [enD]
@[simp] theorem cutEn (e : En) {Q : PyData → Prop} : dCut (enD e) none (some 2) Q = Q (deD e.1) := by simp [enD, deD]
@[simp] theorem eqDe (a b : De) {Q : PyData → Prop} : dEq (deD a) (deD b) Q = Q (.bool (decide (a = b))) := by
  have ea := eqv_dd a b
  simp [okD_de, ea]
@[simp] theorem neDe (a b : De) {Q : PyData → Prop} : dNe (deD a) (deD b) Q = Q (.bool (!decide (a = b))) := by
  have ea := eqv_dd a b
  simp [okD_de, ea]
theorem kb_len {log : List En} {F : De → De → Bool} {R v : List Nat} (kb : KnB log F R v) : v.length ≤ log.length := by
  have key : ∀ i, i < v.length → i ≤ v.getD i 0 := by
    intro i
    induction i with
    | zero => intro _; exact Nat.zero_le _
    | succ i ih =>
      intro h
      have := ih (by omega)
      have := (kb.wi i h).1
      omega
  rcases Nat.eq_zero_or_pos v.length with z | z
  · omega
  · have h1 := key (v.length - 1) (by omega)
    have hm : v.getD (v.length - 1) 0 ∈ v := by
      rw [List.getD_eq_getElem?_getD, List.getElem?_eq_getElem (by omega)]
      exact List.getElem_mem _
    have := kb.lt _ hm
    omega
theorem at_end (v : List Nat) (low : Nat) : L2.atI ((v ++ [low]).map fun (i : Nat) => PyData.int i) (-1) = some (.int (low : Nat)) := by
  rw [atI_last (by simp)]
  simp
end PL
namespace W_k17
open PySem VL PL PL.Plan
section
variable {K : PySem.W.Frag} {Qd : PyData → Prop}
theorem s_knot {lot : List Plan} {fs : List (De × De)} {log : List En} {k : Nat} (ho : LotOk lot) (hf : ∀ z ∈ fs, z.1.1 < z.2.1) (hl : LogOk log) (hx : ∀ e ∈ log, HasDeed lot e.1) (hn : log.length ≤ 1000) (hk : k < log.length)
    (h0 : (atE log k).2 = true ∨ k ∉ ((lgOf lot fs log hl).gt log.length).1 → Qd .none)
    (h1 : (atE log k).2 = false → k ∈ ((lgOf lot fs log hl).gt log.length).1 → ∀ v, Kn log (gF lot fs) v → v.getD 0 0 = log.idxOf ((atE log k).1, true) → Qd (pl v)) : Cl (wp_knot K) [.d (lotD lot), .d (fiD fs), .d (logD log), .d (.int (k : Nat))] Qd := by
  refine ⟨rfl, ?_⟩
  unfold bd_knot
  refine seq_gen fun k1 e1 => ?_
  simp [-dSeq, -dIx, -dCut, -dIn, -dEq, -dNe, -dM, -List.any_eq_true, -List.all_eq_true, -List.any_eq_false, -List.all_eq_false, env0]
  refine s_rest ho hf hl hx hn ?_
  have kp := kp_of (lot := lot) (fs := fs) hl
  generalize ((lgOf lot fs log hl).gt log.length).1 = R at h0 h1 kp
  subst e1
  refine seq_gen fun k2 e2 => ?_
  simp [-dSeq, -dIx, -dCut, -dIn, -dEq, -dNe, -dM, -List.any_eq_true, -List.all_eq_true, -List.any_eq_false, -List.all_eq_false]
  refine inNatT ?_
  by_cases hkR : k ∈ R
  · simp [-dSeq, -dIx, -dCut, -dIn, -dEq, -dNe, -dM, -List.any_eq_true, -List.all_eq_true, -List.any_eq_false, -List.all_eq_false, hkR, hk]
    cases hb : (atE log k).2 with
    | true =>
      simp [-dSeq, -dIx, -dCut, -dIn, -dEq, -dNe, -dM, -List.any_eq_true, -List.all_eq_true, -List.any_eq_false, -List.all_eq_false]
      exact h0 (.inl hb)
    | false =>
      have ek : atE log k = ((atE log k).1, false) := Prod.ext rfl hb
      simp [-dSeq, -dIx, -dCut, -dIn, -dEq, -dNe, -dM, -List.any_eq_true, -List.all_eq_true, -List.any_eq_false, -List.all_eq_false]
      subst e2
      refine seq_gen fun k3 e3 => ?_
      have hfa := first_at hl hk hb
      have hm1 : ((atE log k).1, true) ∈ log := by rw [← hfa.2]; exact at_mem (by have := hfa.1; omega)
      simp [-dSeq, -dIx, -dCut, -dIn, -dEq, -dNe, -dM, -List.any_eq_true, -List.all_eq_true, -List.any_eq_false, -List.all_eq_false]
      refine idxLog hm1 rfl (fun q hq => by
        simp [-dSeq, -dIx, -dCut, -dIn, -dEq, -dNe, -dM, -List.any_eq_true, -List.all_eq_true, -List.any_eq_false, -List.all_eq_false, hk, deD]
        simpa [-dIx, -dCut, -dIn, -dEq, -dNe, -dM, -List.any_eq_true, -List.all_eq_true, -List.any_eq_false, -List.all_eq_false, ← en_t] using hq) ?_
      subst e3
      have hun : un log (log.idxOf ((atE log k).1, true)) = k := by
        unfold un
        rw [hfa.2]
        have := idx_at hl.nd (at_log hk)
        rw [ek] at this
        exact this
      have kb0 : KnB log (gF lot fs) R ([] ++ [log.idxOf ((atE log k).1, true)]) := ⟨fun j hj => by
          have : j = log.idxOf ((atE log k).1, true) := by simpa [-dIx, -dCut, -dIn, -dEq, -dNe, -dM, -List.any_eq_true, -List.all_eq_true, -List.any_eq_false, -List.all_eq_false] using hj
          rw [this]; have := hfa.1; omega, fun j hj => by
          have : j = log.idxOf ((atE log k).1, true) := by simpa [-dIx, -dCut, -dIn, -dEq, -dNe, -dM, -List.any_eq_true, -List.all_eq_true, -List.any_eq_false, -List.all_eq_false] using hj
          rw [this, hun, hfa.2]
          exact ⟨rfl, by rw [← ek]; exact at_mem hk, hkR⟩, fun i hi => by simp [-dSeq, -dIx, -dCut, -dIn, -dEq, -dNe, -dM, -List.any_eq_true, -List.all_eq_true, -List.any_eq_false, -List.all_eq_false] at hi, fun i hi => by simp [-dSeq, -dIx, -dCut, -dIn, -dEq, -dNe, -dM, -List.any_eq_true, -List.all_eq_true, -List.any_eq_false, -List.all_eq_false] at hi⟩
      generalize hfirst : log.idxOf ((atE log k).1, true) = first at *
      refine dWhile_rule (fun m ρ => ∃ (v : List Nat) (low : Nat) (s6 s7 s8 s9 s10 s11 s12 : Slot), KnB log (gF lot fs) R (v ++ [low]) ∧ (v ++ [low]).getD 0 0 = first ∧ log.length ≤ m + low ∧ ρ = [.sh (lotD lot), .sh (fiD fs), .sh (logD log), .sh (.int (k : Nat)), .sh (.tuple (R.map fun (i : Nat) => PyData.int i)), .ow (.list ((v ++ [low]).map fun (i : Nat) => PyData.int i)), s6, s7, s8, s9, s10, s11, s12]) (n := log.length) ⟨[], first, _, _, _, _, _, _, _, kb0, rfl, Nat.le_add_right _ _, rfl⟩ fun m ρ hP D' e3 e4 hD => ?_
      obtain ⟨v, low, s6, s7, s8, s9, s10, s11, s12, kb, hv0, hm, rfl⟩ := hP
      have hlow := kb.lt low (by simp [-dSeq, -dIx, -dCut, -dIn, -dEq, -dNe, -dM, -List.any_eq_true, -List.all_eq_true, -List.any_eq_false, -List.all_eq_false])
      obtain ⟨p1, p2, p3⟩ := kb.pr low (by simp [-dSeq, -dIx, -dCut, -dIn, -dEq, -dNe, -dM, -List.any_eq_true, -List.all_eq_true, -List.any_eq_false, -List.all_eq_false])
      have hu := un_at hl p2
      have elow : atE log low = ((atE log low).1, true) := Prod.ext rfl p1
      obtain ⟨last, rest, hfl, hll, hcase⟩ := lap hl (gF_sym lot fs) (gF_self lot fs) kp kb
      simp only [dTru, dC, truthy_bool, if_true]
      refine seq_gen fun k4 e5 => ?_
      simp [-dSeq, -dIx, -dCut, -dIn, -dEq, -dNe, -dM, -List.any_eq_true, -List.all_eq_true, -List.any_eq_false, -List.all_eq_false, at_end, -List.map_append, hlow]
      subst e5
      refine seq_gen fun k5 e6 => ?_
      simp [-dSeq, -dIx, -dCut, -dIn, -dEq, -dNe, -dM, -List.any_eq_true, -List.all_eq_true, -List.any_eq_false, -List.all_eq_false, at_end, -List.map_append]
      refine idxLog p2 rfl (fun q hq => by simpa [-dIx, -dCut, -dIn, -dEq, -dNe, -dM, -List.any_eq_true, -List.all_eq_true, -List.any_eq_false, -List.all_eq_false, deD, ← en_f] using hq) ?_
      subst e6
      refine seq_gen fun k6 e7 => ?_
      have hmap := hD
      simp [-dSeq, -dIx, -dCut, -dIn, -dEq, -dNe, -dM, -List.any_eq_true, -List.all_eq_true, -List.any_eq_false, -List.all_eq_false, -List.map_append]
      refine lcD_fn (fun i : Nat => PyData.int i) (fun j => decide (low < j) && decide (j < un log low)) (fun j => .int j) R [] (fun j hj q hq => ?_) ?_
      · have e1 : ((low : Int) < (j : Int)) ↔ low < j := by omega
        have e2 : ((j : Int) < (log.idxOf ((atE log low).1, false) : Nat)) ↔ j < un log low := by unfold un; omega
        by_cases a : low < j
        · by_cases b : j < un log low
          · simpa [-dIx, -dCut, -dIn, -dEq, -dNe, -dM, -List.any_eq_true, -List.all_eq_true, -List.any_eq_false, -List.all_eq_false, e1, e2, a, b] using hq
          · simpa [-dIx, -dCut, -dIn, -dEq, -dNe, -dM, -List.any_eq_true, -List.all_eq_true, -List.any_eq_false, -List.all_eq_false, e1, e2, a, b] using hq
        · simpa [-dIx, -dCut, -dIn, -dEq, -dNe, -dM, -List.any_eq_true, -List.all_eq_true, -List.any_eq_false, -List.all_eq_false, e1, a] using hq
      have memB : ∀ j ∈ R.filter (fun j => decide (low < j) && decide (j < un log low)), j < log.length := fun j hj => kp.lt j (List.mem_filter.mp hj).1
      generalize R.filter (fun j => decide (low < j) && decide (j < un log low)) = B at hfl hcase memB
      simp only [List.nil_append]
      subst e7
      refine seq_gen fun k7 e8 => ?_
      simp [-dSeq, -dIx, -dCut, -dIn, -dEq, -dNe, -dM, -List.any_eq_true, -List.all_eq_true, -List.any_eq_false, -List.all_eq_false, -List.map_append]
      refine lcD_fn (fun i : Nat => PyData.int i) (fun j => gF lot fs (atE log j).1 (atE log low).1) (fun j => .int j) B [] (fun j hj q hq => ?_) ?_
      · simp [-dSeq, -dIx, -dCut, -dIn, -dEq, -dNe, -dM, -List.any_eq_true, -List.all_eq_true, -List.any_eq_false, -List.all_eq_false, memB j hj]
        refine s_do_fight (x := (atE log j).1) (y := (atE log low).1) ho hf (hx _ (at_mem (memB j hj))) (hx _ (at_mem hlow)) ?_
        simpa using iteq hq
      rw [hfl]
      simp [-dSeq, -dIx, -dCut, -dIn, -dEq, -dNe, -dM, -List.any_eq_true, -List.all_eq_true, -List.any_eq_false, -List.all_eq_false, -List.map_append]
      subst e8
      refine seq_gen fun k8 e9 => ?_
      simp [-dSeq, -dIx, -dCut, -dIn, -dEq, -dNe, -dM, -List.any_eq_true, -List.all_eq_true, -List.any_eq_false, -List.all_eq_false, -List.map_append]
      refine lcD_fn (fun i : Nat => PyData.int i) (fun j => decide ((atE log j).1 = (atE log last).1)) (fun j => .int j) B [] (fun j hj q hq => ?_) ?_
      · simp [-dSeq, -dIx, -dCut, -dIn, -dEq, -dNe, -dM, -List.any_eq_true, -List.all_eq_true, -List.any_eq_false, -List.all_eq_false, memB j hj, hll]
        simpa using iteq hq
      subst e9
      refine seq_gen fun k9 e10 => ?_
      rcases hcase with ⟨hS, kn⟩ | ⟨s, r, hS, hr, hls, kb'⟩
      · rw [hS]
        simp [-dSeq, -dIx, -dCut, -dIn, -dEq, -dNe, -dM, -List.any_eq_true, -List.all_eq_true, -List.any_eq_false, -List.all_eq_false, -List.map_append]
        have hvl := kb_len kb
        rw [List.length_append, List.length_singleton] at hvl
        have := h1 hb hkR _ kn (by
          rw [← hv0, List.getD_eq_getElem?_getD, List.getD_eq_getElem?_getD, List.getElem?_append_left (by simp [-dSeq, -dIx, -dCut, -dIn, -dEq, -dNe, -dM, -List.any_eq_true, -List.all_eq_true, -List.any_eq_false, -List.all_eq_false])])
        rw [e3]
        refine ⟨by omega, ?_⟩
        simpa [-dIx, -dCut, -dIn, -dEq, -dNe, -dM, -List.any_eq_true, -List.all_eq_true, -List.any_eq_false, -List.all_eq_false] using this
      · rw [hS]
        have hr1 : ¬ ((r.length : Int) + 1 = 1) := by
          have := List.length_pos_iff.mpr hr
          omega
        simp [-dSeq, -dIx, -dCut, -dIn, -dEq, -dNe, -dM, -List.any_eq_true, -List.all_eq_true, -List.any_eq_false, -List.all_eq_false, -List.map_append, hr1]
        subst e10
        obtain ⟨m', rfl⟩ : ∃ m', m = m' + 1 := ⟨m - 1, by omega⟩
        have nx := fun s6 s7 s8 s9 s10 s11 s12 => (hD m' _ rfl ⟨v ++ [low], s, s6, s7, s8, s9, s10, s11, s12, kb', by
          rw [← hv0, List.getD_eq_getElem?_getD, List.getD_eq_getElem?_getD, List.getElem?_append_left (by simp)], by omega, rfl⟩).1
        have hvl := kb_len kb
        simp [-dSeq, -dIx, -dCut, -dIn, -dEq, -dNe, -dM, -List.any_eq_true, -List.all_eq_true, -List.any_eq_false, -List.all_eq_false] at hvl
        simp [-dSeq, -dIx, -dCut, -dIn, -dEq, -dNe, -dM, -List.any_eq_true, -List.all_eq_true, -List.any_eq_false, -List.all_eq_false]
        refine ⟨by omega, ?_⟩
        simpa using nx _ _ _ _ _ _ _
  · simp [-dSeq, -dIx, -dCut, -dIn, -dEq, -dNe, -dM, -List.any_eq_true, -List.all_eq_true, -List.any_eq_false, -List.all_eq_false, hkR]
    exact h0 (.inr hkR)
end
end W_k17

set_option Elab.async false
set_option linter.all false
set_option maxRecDepth 100000
set_option maxHeartbeats 4000000
/-! V12 (k17): knots judged. -/
namespace PL
open PySem VL PL.Plan
theorem atI_pl {v : List Nat} {i : Nat} (h : i < v.length) : L2.atI (v.map fun (i : Nat) => PyData.int i) (i : Int) = some (.int (v.getD i 0 : Nat)) := by
  rw [atI_nat, List.getElem?_map, List.getD_eq_getElem?_getD, List.getElem?_eq_getElem h]
  rfl
theorem atI_pl1 {v : List Nat} {i : Nat} (h : i + 1 < v.length) : L2.atI (v.map fun (i : Nat) => PyData.int i) (1 + (i : Int)) = some (.int (v.getD (i + 1) 0 : Nat)) := by
  rw [show (1 + (i : Int)) = ((i + 1 : Nat) : Int) by omega]
  exact atI_pl h
theorem atI_neg {v : List Nat} {m : Nat} (h1 : 1 ≤ m) (h : m ≤ v.length) : L2.atI (v.map fun (i : Nat) => PyData.int i) (-(m : Int)) = some (.int (v.getD (v.length - m) 0 : Nat)) := by
  unfold L2.atI L2.ixN
  rw [if_neg (by omega), if_pos (by simp; omega)]
  have e : ((-(m : Int)) + ((v.map fun (i : Nat) => PyData.int i).length : Int)).toNat = v.length - m := by simp; omega
  simp only [e]
  show (List.map (fun (i : Nat) => PyData.int i) v)[v.length - m]? = _
  rw [List.getElem?_map, List.getD_eq_getElem?_getD, List.getElem?_eq_getElem (by omega)]
  rfl
theorem cutL_init {α : Type} (xs : List α) : cutL xs none (some (-1)) = xs.dropLast := by
  unfold cutL
  rw [List.dropLast_eq_take]
  have a : HT.sIx xs.length xs.length (some (-1)) = xs.length - 1 := by
    unfold HT.sIx
    simp
    omega
  rw [a, HT.sIx_none, List.drop_zero, Nat.sub_zero]
theorem getD_mem {v : List Nat} {i : Nat} (h : i < v.length) : v.getD i 0 ∈ v := by
  rw [List.getD_eq_getElem?_getD, List.getElem?_eq_getElem h]
  exact List.getElem_mem _
section
variable {log : List En} {F : De → De → Bool} {v : List Nat}
theorem Kn.pr' (kn : Kn log F v) : ∀ k ∈ v.dropLast, k < log.length ∧ (atE log k).2 = true ∧ ((atE log k).1, false) ∈ log := fun k hk => by
  refine ⟨kn.lt k (List.dropLast_subset _ hk), ?_⟩
  obtain ⟨i, hi⟩ := List.getElem?_of_mem hk
  have hlt := (List.getElem?_eq_some_iff.mp hi).1
  rw [List.length_dropLast] at hlt
  have := kn.pr i (by omega)
  rw [List.dropLast_eq_take, List.getElem?_take_of_lt (by omega)] at hi
  rw [List.getD_eq_getElem?_getD, hi] at this
  exact this
end
theorem kn_len {log : List En} {F : De → De → Bool} {v : List Nat} (kn : Kn log F v) : v.length ≤ log.length + 1 := by
  have hl := kn.len
  have key : ∀ i, i + 1 < v.length → i ≤ v.getD i 0 := by
    intro i
    induction i with
    | zero => intro _; exact Nat.zero_le _
    | succ i ih =>
      intro h
      have := ih (by omega)
      have := (kn.wi i (by omega)).1
      omega
  have h1 := key (v.length - 2) (by omega)
  have := kn.lt _ (getD_mem (v := v) (i := v.length - 2) (by omega))
  omega
@[simp] theorem lenL (xs : List PyData) (Q : PyData → Prop) : dLen [.list xs] Q = Q (.int (xs.length : Nat)) := rfl
@[simp] theorem lenT (xs : List PyData) (Q : PyData → Prop) : dLen [.tuple xs] Q = Q (.int (xs.length : Nat)) := rfl
@[simp] theorem lenLog (log : List En) (Q : PyData → Prop) : dLen [logD log] Q = Q (.int (log.length : Nat)) := by simp [logD]
/-- a loop that keeps something -/
theorem forPass {α : Type} (enc : α → PyData) (P : Vn → Prop) {g : DG} {b : DS} {D : Ctl} {xs : List α} {ρ : Vn} (h0 : P ρ) (hs : ∀ x ∈ xs, ∀ ρ, P ρ → ∀ D' : Ctl, D'.rt = D.rt → D'.bk = D.nx → (∀ ρ', P ρ' → D'.nx ρ' ∧ D'.ct ρ') → g (enc x) ρ fun ρ1 => b D' ρ1) (hd : ∀ ρ, P ρ → D.nx ρ) : forD g b D (xs.map enc) ρ :=
  forD_rule enc (fun r ρ => (∀ x ∈ r, x ∈ xs) ∧ P ρ) (fun x r ρ h D' e1 e2 hD => hs x (h.1 x (List.mem_cons_self ..)) ρ h.2 D' e1 e2 fun ρ' h' => hD ρ' ⟨fun y hy => h.1 y (List.mem_cons_of_mem _ hy), h'⟩) (fun ρ h => hd ρ h.2) xs ρ ⟨fun _ h => h, h0⟩
theorem forPassE {α : Type} (enc : α → PyData) (P : Vn → Prop) {g : DG} {b : DS} {D : Ctl} {xs : List α} {ρ : Vn} (h0 : P ρ) (hs : ∀ i x, xs[i]? = some x → ∀ ρ, P ρ → ∀ D' : Ctl, D'.rt = D.rt → D'.bk = D.nx → (∀ ρ', P ρ' → D'.nx ρ' ∧ D'.ct ρ') → g (.tuple [.int (i : Nat), enc x]) ρ fun ρ1 => b D' ρ1) (hd : ∀ ρ, P ρ → D.nx ρ) : forD g b D (enumD (xs.map enc)) ρ :=
  forE_0 enc (fun i r ρ => (∀ j x, r[j]? = some x → xs[i + j]? = some x) ∧ P ρ) ⟨fun j x h => by rw [Nat.zero_add]; exact h, h0⟩ (fun i x r ρ h D' e1 e2 hD => hs i x (h.1 0 x rfl) ρ h.2 D' e1 e2 fun ρ' h' => hD ρ' ⟨fun j y hy => by
    have := h.1 (j + 1) y (by simpa using hy)
    rw [show i + 1 + j = i + (j + 1) by omega]; exact this, h'⟩) fun i ρ h => hd ρ h.2
theorem addsub (i : Int) : 1 + i - 1 = i := by omega
theorem zeroNat (n : Nat) : decide ((0 : Int) ≤ (n : Int)) = true := by simp
end PL
namespace W_k17
open PySem VL PL PL.Plan
section
variable {K : PySem.W.Frag} {Qd : PyData → Prop}
theorem s_is_number {k : Nat} (h : Qd (.bool true)) : Cl (wp_is_number K) [.d (.int (k : Int))] Qd := by
  refine ⟨rfl, ?_⟩
  simpa [bd_is_number, env0] using h
theorem l_is_number {k : Nat} (h : Qd (.bool true)) : Cl (wp__law_is_number K) [.d (.int (k : Int))] Qd := by
  refine ⟨rfl, ?_⟩
  simpa [bd__law_is_number, env0] using h
theorem l_are_numbers {v : List Nat} {n : Nat} (hv : ∀ k ∈ v, k < n) (h : Qd (.bool true)) : Cl (wp__law_are_numbers K) [.d (pl v), .d (.int (n : Int))] Qd := by
  refine ⟨rfl, ?_⟩
  simp [bd__law_are_numbers, env0, -dAny]
  refine lcD_map (fun i : Nat => PyData.int i) (fun _ => .bool true) v (fun k hk q hq => ?_) ?_
  · simp
    refine l_is_number ?_
    have := hv k hk
    simpa [this] using hq
  · refine allMap ?_
    rw [show (v.all fun _ => true) = true by simp]
    exact h
theorem is_last {log : List En} {low high last : Nat} (hl : LogOk log) (hh : high ≤ log.length) (h1 : low < last) (h2 : last < high) (on : ∀ k, low < k → k < high → (atE log k).1 = (atE log last).1 → k = last) :
    ((List.range (high - low - 1)).filter fun i => decide ((atE log (low + 1 + i)).1 = (atE log last).1)) = [last - low - 1] := by
  refine uniq_filter List.nodup_range (List.mem_range.mpr (by omega)) fun i hi => ?_
  have hi := List.mem_range.mp hi
  by_cases e : i = last - low - 1
  · have : low + 1 + i = last := by omega
    rw [this, e]
    simp
  · have : ¬ (atE log (low + 1 + i)).1 = (atE log last).1 := fun z => by
      have := on _ (by omega) (by omega) z
      omega
    simp [this, e]
theorem l_knot_fault {lot : List Plan} {fs : List (De × De)} {log : List En} {v : List Nat} (ho : LotOk lot) (hl : LogOk log) (hx : ∀ e ∈ log, HasDeed lot e.1) (hn : log.length ≤ 1000) (kn : Kn log (gF lot fs) v) (h : Qd .none) : Cl (wp__law_knot_fault K) [.d (lotD lot), .d (fiD fs), .d (logD log), .d (pl v)] Qd := by
  refine ⟨rfl, ?_⟩
  unfold bd__law_knot_fault
  have hlen := kn.len
  have hvn := kn_len kn
  have und : ∀ i, i + 1 < v.length → undP log (v.getD i 0) = .int (un log (v.getD i 0) : Nat) := fun i hi => by
    unfold undP un
    rw [if_pos (kn.pr i hi).2]
  refine seq_gen fun k1 e1 => ?_
  simp [-dSeq, -List.getD_eq_getElem?_getD, -dIx, -dCut, -dIn, -dEq, -dNe, -dM, -dLen, -List.any_eq_true, -List.all_eq_true, -List.any_eq_false, -List.all_eq_false, env0]
  refine l_are_numbers kn.lt ?_
  have h2 : ¬ (v.length : Int) < 2 := by omega
  simp [-dSeq, -List.getD_eq_getElem?_getD, -dIx, -dCut, -dIn, -dEq, -dNe, -dM, -dLen, -List.any_eq_true, -List.all_eq_true, -List.any_eq_false, -List.all_eq_false, h2]
  subst e1
  refine seq_gen fun k2 e2 => ?_
  simp [-dSeq, -List.getD_eq_getElem?_getD, -dIx, -dCut, -dIn, -dEq, -dNe, -dM, -dLen, -List.any_eq_true, -List.all_eq_true, -List.any_eq_false, -List.all_eq_false, cutL_init]
  rw [← List.map_dropLast]
  refine forPassE (fun i : Nat => PyData.int i) (fun ρ => ∃ s4 s5 : Slot, ρ = [.sh (lotD lot), .sh (fiD fs), .sh (logD log), .sh (pl v), s4, s5, .un, .un, .un]) ⟨_, _, rfl⟩ (fun i k hk ρ hP D' e3 e4 hD => ?_) fun ρ hP => ?_
  · obtain ⟨s4, s5, rfl⟩ := hP
    obtain ⟨a, b, c⟩ := kn.pr' k (List.mem_of_getElem? hk)
    simp [-dSeq, -List.getD_eq_getElem?_getD, -dIx, -dCut, -dIn, -dEq, -dNe, -dM, -dLen, -List.any_eq_true, -List.all_eq_true, -List.any_eq_false, -List.all_eq_false, a, b]
    refine l_undoing a ?_
    unfold undP
    rw [if_pos c]
    simp [-dSeq, -List.getD_eq_getElem?_getD, -dIx, -dCut, -dIn, -dEq, -dNe, -dM, -dLen, -List.any_eq_true, -List.all_eq_true, -List.any_eq_false, -List.all_eq_false, isNoneD]
    simpa [-List.getD_eq_getElem?_getD, -dIx, -dCut, -dIn, -dEq, -dNe, -dM, -dLen, -List.any_eq_true, -List.all_eq_true, -List.any_eq_false, -List.all_eq_false] using (hD _ ⟨_, _, rfl⟩).1
  obtain ⟨s4, s5, rfl⟩ := hP
  subst e2
  dsimp only
  refine seq_gen fun k3 e3 => ?_
  simp [-dSeq, -List.getD_eq_getElem?_getD, -dIx, -dCut, -dIn, -dEq, -dNe, -dM, -dLen, -List.any_eq_true, -List.all_eq_true, -List.any_eq_false, -List.all_eq_false]
  refine ⟨by omega, by omega, ?_⟩
  unfold rngD
  refine forPass (fun i : Nat => PyData.int (1 + (i : Int))) (fun ρ => ∃ s4 s5 : Slot, ρ = [.sh (lotD lot), .sh (fiD fs), .sh (logD log), .sh (pl v), s4, s5, .un, .un, .un]) ⟨_, _, rfl⟩ (fun i hi ρ hP D' e4 e5 hD => ?_) fun ρ hP => ?_
  · obtain ⟨s4, s5, rfl⟩ := hP
    have hi := List.mem_range.mp hi
    have w := kn.wi i (by omega)
    have l1 := kn.lt _ (getD_mem (v := v) (i := i) (by omega))
    have l2 := kn.lt _ (getD_mem (v := v) (i := i + 1) (by omega))
    simp [-dSeq, -List.getD_eq_getElem?_getD, -dIx, -dCut, -dIn, -dEq, -dNe, -dM, -dLen, -List.any_eq_true, -List.all_eq_true, -List.any_eq_false, -List.all_eq_false, addsub, atI_pl1 (v := v) (i := i) (by omega), atI_pl (v := v) (i := i) (by omega), Nat.not_le.mpr w.1]
    refine l_undoing l2 ?_
    rw [und _ (by omega)]
    refine l_undoing l1 ?_
    rw [und _ (by omega)]
    simp [-dSeq, -List.getD_eq_getElem?_getD, -dIx, -dCut, -dIn, -dEq, -dNe, -dM, -dLen, -List.any_eq_true, -List.all_eq_true, -List.any_eq_false, -List.all_eq_false, Nat.not_le.mpr w.2]
    simpa [-List.getD_eq_getElem?_getD, -dIx, -dCut, -dIn, -dEq, -dNe, -dM, -dLen, -List.any_eq_true, -List.all_eq_true, -List.any_eq_false, -List.all_eq_false] using (hD _ ⟨_, _, rfl⟩).1
  obtain ⟨s4, s5, rfl⟩ := hP
  subst e3
  dsimp only
  refine seq_gen fun k4 e4 => ?_
  have n2 : L2.atI (v.map fun (i : Nat) => PyData.int i) (-2) = some (.int (v.getD (v.length - 2) 0 : Nat)) := atI_neg (v := v) (m := 2) (by omega) hlen
  have n1 : L2.atI (v.map fun (i : Nat) => PyData.int i) (-1) = some (.int (v.getD (v.length - 1) 0 : Nat)) := atI_neg (v := v) (m := 1) (by omega) (by omega)
  have pl2 := kn.pr (v.length - 2) (by omega)
  have lt2 := kn.lt _ (getD_mem (v := v) (i := v.length - 2) (by omega))
  have lt1 := kn.lt _ (getD_mem (v := v) (i := v.length - 1) (by omega))
  have ud := und (v.length - 2) (by omega)
  have hun := un_at hl pl2.2
  have la := kn.la
  have on := kn.on
  have hfi := kn.fi
  simp [-dSeq, -List.getD_eq_getElem?_getD, -dIx, -dCut, -dIn, -dEq, -dNe, -dM, -dLen, -List.any_eq_true, -List.all_eq_true, -List.any_eq_false, -List.all_eq_false, n2, n1]
  generalize hlo : v.getD (v.length - 2) 0 = low at *
  generalize hla : v.getD (v.length - 1) 0 = last at *
  refine l_undoing lt2 ?_
  rw [ud]
  subst e4
  refine seq_gen fun k5 e5 => ?_
  generalize hhi : un log low = high at *
  simp [-dSeq, -List.getD_eq_getElem?_getD, -dIx, -dCut, -dIn, -dEq, -dNe, -dM, -dLen, -List.any_eq_true, -List.all_eq_true, -List.any_eq_false, -List.all_eq_false, Nat.not_le.mpr la.1, Nat.not_le.mpr la.2, la.1, la.2]
  have hu1 := hun.1
  refine ⟨⟨by omega, by omega, by omega⟩, by omega, ?_⟩
  unfold rngD
  have hll := is_last hl (by have := hun.1; omega) la.1 la.2 on
  have en : ((high : Int) - ((low : Int) + 1)).toNat = high - low - 1 := by omega
  rw [en]
  refine lcD_fn (fun i : Nat => PyData.int (((low : Int) + 1) + (i : Int))) (fun i => decide ((atE log (low + 1 + i)).1 = (atE log last).1)) (fun i => .int (((low : Int) + 1) + (i : Int))) (List.range (high - low - 1)) [] (fun i hi q hq => ?_) ?_
  · have hi := List.mem_range.mp hi
    have ei : ((low : Int) + 1) + (i : Int) = ((low + 1 + i : Nat) : Int) := by omega
    rw [ei] at hq ⊢
    have hil : low + 1 + i < log.length := by have := hun.1; omega
    clear ei
    generalize low + 1 + i = k at hq hil ⊢
    simp [-dSeq, -List.getD_eq_getElem?_getD, -dIx, -dCut, -dIn, -dEq, -dNe, -dM, -dLen, -List.any_eq_true, -List.all_eq_true, -List.any_eq_false, -List.all_eq_false, hil, lt1]
    simpa [-List.getD_eq_getElem?_getD, -dIx, -dCut, -dIn, -dEq, -dNe, -dM, -dLen, -List.any_eq_true, -List.all_eq_true, -List.any_eq_false, -List.all_eq_false] using iteq hq
  rw [hll]
  have el : ((low : Int) + 1) + ((last - low - 1 : Nat) : Int) = (last : Int) := by omega
  simp only [List.nil_append, List.map_cons, List.map_nil, el]
  have okl : okD (.list [.int (last : Int)]) := of_eq_true (okD_ints [last])
  simp [-dSeq, -List.getD_eq_getElem?_getD, -dIx, -dCut, -dIn, -dEq, -dNe, -dM, -dLen, -List.any_eq_true, -List.all_eq_true, -List.any_eq_false, -List.all_eq_false, okl]
  subst e5
  refine seq_gen fun k6 e6 => ?_
  simp [-dSeq, -List.getD_eq_getElem?_getD, -dIx, -dCut, -dIn, -dEq, -dNe, -dM, -dLen, -List.any_eq_true, -List.all_eq_true, -List.any_eq_false, -List.all_eq_false]
  refine ⟨by omega, by omega, ?_⟩
  unfold rngD
  refine forPass (fun i : Nat => PyData.int (1 + (i : Int))) (fun ρ => ∃ s4 s5 s6 s7 s8 : Slot, ρ = [.sh (lotD lot), .sh (fiD fs), .sh (logD log), .sh (pl v), s4, s5, s6, s7, s8]) ⟨_, _, _, _, _, rfl⟩ (fun i hi ρ hP D' e4 e5 hD => ?_) fun ρ hP => ?_
  · obtain ⟨s4, s5, s6, s7, s8, rfl⟩ := hP
    have hi := List.mem_range.mp hi
    have w := hfi i (by omega)
    have l1 := kn.lt _ (getD_mem (v := v) (i := i) (by omega))
    have l2 := kn.lt _ (getD_mem (v := v) (i := i + 1) (by omega))
    simp [-dSeq, -List.getD_eq_getElem?_getD, -dIx, -dCut, -dIn, -dEq, -dNe, -dM, -dLen, -List.any_eq_true, -List.all_eq_true, -List.any_eq_false, -List.all_eq_false, addsub, atI_pl1 (v := v) (i := i) (by omega), atI_pl (v := v) (i := i) (by omega), l1, l2]
    refine l_fight ho (hx _ (at_mem l2)) (hx _ (at_mem l1)) ?_
    rw [gF_sym, w]
    simp [-dSeq, -List.getD_eq_getElem?_getD, -dIx, -dCut, -dIn, -dEq, -dNe, -dM, -dLen, -List.any_eq_true, -List.all_eq_true, -List.any_eq_false, -List.all_eq_false]
    have nx := fun s4 s5 s6 s7 s8 => (hD _ ⟨s4, s5, s6, s7, s8, rfl⟩).1
    simpa [-List.getD_eq_getElem?_getD, -dIx, -dCut, -dIn, -dEq, -dNe, -dM, -dLen, -List.any_eq_true, -List.all_eq_true, -List.any_eq_false, -List.all_eq_false] using nx _ _ _ _ _
  obtain ⟨s4, s5, s6, s7, s8, rfl⟩ := hP
  subst e6
  dsimp only
  simpa [-List.getD_eq_getElem?_getD, -dIx, -dCut, -dIn, -dEq, -dNe, -dM, -dLen, -List.any_eq_true, -List.all_eq_true, -List.any_eq_false, -List.all_eq_false] using h
end
end W_k17

set_option Elab.async false
set_option linter.all false
set_option maxRecDepth 100000
set_option maxHeartbeats 4000000
/-! V13 (k17): knots judged by the program. -/
namespace W_k17
open PySem VL PL PL.Plan
section
variable {K : PySem.W.Frag} {Qd : PyData → Prop}
theorem s_is_first_of_pair {log : List En} {k : Nat} (hk : k < log.length) (h1 : (atE log k).2 = true) (h2 : ((atE log k).1, false) ∈ log) (h : Qd (.bool true)) : Cl (wp_is_first_of_pair K) [.d (logD log), .d (.int (k : Int))] Qd := by
  refine ⟨rfl, ?_⟩
  simp [-dSeq, -List.getD_eq_getElem?_getD, -dIx, -dCut, -dIn, -dEq, -dNe, -dM, -dLen, -List.any_eq_true, -List.all_eq_true, -List.any_eq_false, -List.all_eq_false, bd_is_first_of_pair, env0, hk, h1, deD]
  refine inLogF ?_
  simpa [h2] using h
theorem s_is_within {log : List En} {a b : Nat} (ha : a < log.length) (hb : b < log.length) (h1 : ((atE log a).1, false) ∈ log) (h2 : ((atE log b).1, false) ∈ log) (hab : a < b) (hu : un log b < un log a) (h : Qd (.bool true)) : Cl (wp_is_within K) [.d (logD log), .d (.int (a : Int)), .d (.int (b : Int))] Qd := by
  refine ⟨rfl, ?_⟩
  simp [-dSeq, -List.getD_eq_getElem?_getD, -dIx, -dCut, -dIn, -dEq, -dNe, -dM, -dLen, -List.any_eq_true, -List.all_eq_true, -List.any_eq_false, -List.all_eq_false, bd_is_within, env0, hab]
  refine idxLog h2 rfl (fun q hq => by
    simp [-dSeq, -List.getD_eq_getElem?_getD, -dIx, -dCut, -dIn, -dEq, -dNe, -dM, -dLen, -List.any_eq_true, -List.all_eq_true, -List.any_eq_false, -List.all_eq_false, hb, deD]
    simpa [← en_f] using hq) ?_
  refine idxLog h1 rfl (fun q hq => by
    simp [-dSeq, -List.getD_eq_getElem?_getD, -dIx, -dCut, -dIn, -dEq, -dNe, -dM, -dLen, -List.any_eq_true, -List.all_eq_true, -List.any_eq_false, -List.all_eq_false, ha, deD]
    simpa [← en_f] using hq) ?_
  unfold un at hu
  simpa [hu] using h
theorem s_is_last_right {log : List En} {low last : Nat} (hl : LogOk log) (hn : log.length ≤ 1000) (ha : low < log.length) (hb : last < log.length) (h1 : ((atE log low).1, false) ∈ log) (hlt : low < last) (hlt2 : last < un log low) (on : ∀ k, low < k → k < un log low → (atE log k).1 = (atE log last).1 → k = last) (h : Qd (.bool true)) : Cl (wp_is_last_right K) [.d (logD log), .d (.int (low : Int)), .d (.int (last : Int))] Qd := by
  refine ⟨rfl, ?_⟩
  unfold bd_is_last_right
  refine seq_gen fun k1 e1 => ?_
  simp [-dSeq, -List.getD_eq_getElem?_getD, -dIx, -dCut, -dIn, -dEq, -dNe, -dM, -dLen, -List.any_eq_true, -List.all_eq_true, -List.any_eq_false, -List.all_eq_false, env0]
  refine idxLog h1 rfl (fun q hq => by
    simp [-dSeq, -List.getD_eq_getElem?_getD, -dIx, -dCut, -dIn, -dEq, -dNe, -dM, -dLen, -List.any_eq_true, -List.all_eq_true, -List.any_eq_false, -List.all_eq_false, ha, deD]
    simpa [← en_f] using hq) ?_
  have hun := un_at hl h1
  have hu1 := hun.1
  rw [show log.idxOf ((atE log low).1, false) = un log low from rfl]
  generalize un log low = high at *
  subst e1
  simp [-dSeq, -List.getD_eq_getElem?_getD, -dIx, -dCut, -dIn, -dEq, -dNe, -dM, -dLen, -List.any_eq_true, -List.all_eq_true, -List.any_eq_false, -List.all_eq_false]
  refine ⟨⟨by omega, by omega, by omega⟩, by omega, ?_⟩
  unfold rngD
  have hll := is_last hl (by omega) hlt hlt2 on
  have en : ((high : Int) - ((low : Int) + 1)).toNat = high - low - 1 := by omega
  rw [en]
  refine lcD_fn (fun i : Nat => PyData.int (((low : Int) + 1) + (i : Int))) (fun i => decide ((atE log (low + 1 + i)).1 = (atE log last).1)) (fun i => .int (((low : Int) + 1) + (i : Int))) (List.range (high - low - 1)) [] (fun i hi q hq => ?_) ?_
  · have hi := List.mem_range.mp hi
    have ei : ((low : Int) + 1) + (i : Int) = ((low + 1 + i : Nat) : Int) := by omega
    rw [ei] at hq ⊢
    have hil : low + 1 + i < log.length := by omega
    clear ei
    generalize low + 1 + i = k at hq hil ⊢
    simp [-dSeq, -List.getD_eq_getElem?_getD, -dIx, -dCut, -dIn, -dEq, -dNe, -dM, -dLen, -List.any_eq_true, -List.all_eq_true, -List.any_eq_false, -List.all_eq_false, hil, hb]
    simpa [-List.getD_eq_getElem?_getD, -dIx, -dCut, -dIn, -dEq, -dNe, -dM, -dLen, -List.any_eq_true, -List.all_eq_true, -List.any_eq_false, -List.all_eq_false] using iteq hq
  rw [hll]
  have el : ((low : Int) + 1) + ((last - low - 1 : Nat) : Int) = (last : Int) := by omega
  simp only [List.nil_append, List.map_cons, List.map_nil, el]
  have okl : okD (.list [.int (last : Int)]) := of_eq_true (okD_ints [last])
  simp [-dSeq, -List.getD_eq_getElem?_getD, -dIx, -dCut, -dIn, -dEq, -dNe, -dM, -dLen, -List.any_eq_true, -List.all_eq_true, -List.any_eq_false, -List.all_eq_false, okl]
  exact h
theorem s_judge_knot {lot : List Plan} {fs : List (De × De)} {log : List En} {v : List Nat} (ho : LotOk lot) (hf : ∀ z ∈ fs, z.1.1 < z.2.1) (hl : LogOk log) (hx : ∀ e ∈ log, HasDeed lot e.1) (hn : log.length ≤ 1000) (kn : Kn log (gF lot fs) v) (h : Qd .none) : Cl (wp_judge_knot K) [.d (lotD lot), .d (fiD fs), .d (logD log), .d (pl v)] Qd := by
  refine ⟨rfl, ?_⟩
  unfold bd_judge_knot
  have hlen := kn.len
  have hvn := kn_len kn
  have h2 : ¬ (v.length : Int) < 2 := by omega
  refine seq_gen fun k1 e1 => ?_
  simp [-dSeq, -List.getD_eq_getElem?_getD, -dIx, -dCut, -dIn, -dEq, -dNe, -dM, -dLen, -List.any_eq_true, -List.all_eq_true, -List.any_eq_false, -List.all_eq_false, env0, h2, -dAny]
  refine lcD_map (fun i : Nat => PyData.int i) (fun _ => .bool true) v (fun k hk q hq => ?_) ?_
  · simp [-dSeq, -List.getD_eq_getElem?_getD, -dIx, -dCut, -dIn, -dEq, -dNe, -dM, -dLen, -List.any_eq_true, -List.all_eq_true, -List.any_eq_false, -List.all_eq_false]
    refine s_is_number ?_
    have := kn.lt k hk
    simpa [this] using hq
  refine allMap ?_
  rw [show (v.all fun _ => true) = true by simp]
  simp [-dSeq, -List.getD_eq_getElem?_getD, -dIx, -dCut, -dIn, -dEq, -dNe, -dM, -dLen, -List.any_eq_true, -List.all_eq_true, -List.any_eq_false, -List.all_eq_false]
  subst e1
  refine seq_gen fun k2 e2 => ?_
  simp [-dSeq, -List.getD_eq_getElem?_getD, -dIx, -dCut, -dIn, -dEq, -dNe, -dM, -dLen, -List.any_eq_true, -List.all_eq_true, -List.any_eq_false, -List.all_eq_false, cutL_init]
  rw [← List.map_dropLast]
  refine forPassE (fun i : Nat => PyData.int i) (fun ρ => ∃ s4 s5 : Slot, ρ = [.sh (lotD lot), .sh (fiD fs), .sh (logD log), .sh (pl v), s4, s5]) ⟨_, _, rfl⟩ (fun i k hk ρ hP D' e3 e4 hD => ?_) fun ρ hP => ?_
  · obtain ⟨s4, s5, rfl⟩ := hP
    obtain ⟨a, b, c⟩ := kn.pr' k (List.mem_of_getElem? hk)
    simp [-dSeq, -List.getD_eq_getElem?_getD, -dIx, -dCut, -dIn, -dEq, -dNe, -dM, -dLen, -List.any_eq_true, -List.all_eq_true, -List.any_eq_false, -List.all_eq_false]
    refine s_is_first_of_pair a b c ?_
    simp [-dSeq, -List.getD_eq_getElem?_getD, -dIx, -dCut, -dIn, -dEq, -dNe, -dM, -dLen, -List.any_eq_true, -List.all_eq_true, -List.any_eq_false, -List.all_eq_false]
    simpa [-List.getD_eq_getElem?_getD, -dIx, -dCut, -dIn, -dEq, -dNe, -dM, -dLen, -List.any_eq_true, -List.all_eq_true, -List.any_eq_false, -List.all_eq_false] using (hD _ ⟨_, _, rfl⟩).1
  obtain ⟨s4, s5, rfl⟩ := hP
  subst e2
  dsimp only
  refine seq_gen fun k3 e3 => ?_
  simp [-dSeq, -List.getD_eq_getElem?_getD, -dIx, -dCut, -dIn, -dEq, -dNe, -dM, -dLen, -List.any_eq_true, -List.all_eq_true, -List.any_eq_false, -List.all_eq_false]
  refine ⟨by omega, by omega, ?_⟩
  unfold rngD
  refine forPass (fun i : Nat => PyData.int (1 + (i : Int))) (fun ρ => ∃ s4 s5 : Slot, ρ = [.sh (lotD lot), .sh (fiD fs), .sh (logD log), .sh (pl v), s4, s5]) ⟨_, _, rfl⟩ (fun i hi ρ hP D' e4 e5 hD => ?_) fun ρ hP => ?_
  · obtain ⟨s4, s5, rfl⟩ := hP
    have hi := List.mem_range.mp hi
    have w := kn.wi i (by omega)
    have l1 := kn.lt _ (getD_mem (v := v) (i := i) (by omega))
    have l2 := kn.lt _ (getD_mem (v := v) (i := i + 1) (by omega))
    simp [-dSeq, -List.getD_eq_getElem?_getD, -dIx, -dCut, -dIn, -dEq, -dNe, -dM, -dLen, -List.any_eq_true, -List.all_eq_true, -List.any_eq_false, -List.all_eq_false, addsub, atI_pl1 (v := v) (i := i) (by omega), atI_pl (v := v) (i := i) (by omega)]
    refine s_is_within l1 l2 (kn.pr i (by omega)).2 (kn.pr (i + 1) (by omega)).2 w.1 w.2 ?_
    simp [-dSeq, -List.getD_eq_getElem?_getD, -dIx, -dCut, -dIn, -dEq, -dNe, -dM, -dLen, -List.any_eq_true, -List.all_eq_true, -List.any_eq_false, -List.all_eq_false]
    simpa [-List.getD_eq_getElem?_getD, -dIx, -dCut, -dIn, -dEq, -dNe, -dM, -dLen, -List.any_eq_true, -List.all_eq_true, -List.any_eq_false, -List.all_eq_false] using (hD _ ⟨_, _, rfl⟩).1
  obtain ⟨s4, s5, rfl⟩ := hP
  subst e3
  dsimp only
  refine seq_gen fun k4 e4 => ?_
  have n2 : L2.atI (v.map fun (i : Nat) => PyData.int i) (-2) = some (.int (v.getD (v.length - 2) 0 : Nat)) := atI_neg (m := 2) (by omega) hlen
  have n1 : L2.atI (v.map fun (i : Nat) => PyData.int i) (-1) = some (.int (v.getD (v.length - 1) 0 : Nat)) := atI_neg (m := 1) (by omega) (by omega)
  have pl2 := kn.pr (v.length - 2) (by omega)
  have lt2 := kn.lt _ (getD_mem (v := v) (i := v.length - 2) (by omega))
  have lt1 := kn.lt _ (getD_mem (v := v) (i := v.length - 1) (by omega))
  simp [-dSeq, -List.getD_eq_getElem?_getD, -dIx, -dCut, -dIn, -dEq, -dNe, -dM, -dLen, -List.any_eq_true, -List.all_eq_true, -List.any_eq_false, -List.all_eq_false, n2, n1]
  refine s_is_last_right hl hn lt2 lt1 pl2.2 kn.la.1 kn.la.2 kn.on ?_
  simp [-dSeq, -List.getD_eq_getElem?_getD, -dIx, -dCut, -dIn, -dEq, -dNe, -dM, -dLen, -List.any_eq_true, -List.all_eq_true, -List.any_eq_false, -List.all_eq_false]
  subst e4
  refine seq_gen fun k6 e6 => ?_
  simp [-dSeq, -List.getD_eq_getElem?_getD, -dIx, -dCut, -dIn, -dEq, -dNe, -dM, -dLen, -List.any_eq_true, -List.all_eq_true, -List.any_eq_false, -List.all_eq_false]
  refine ⟨by omega, by omega, ?_⟩
  unfold rngD
  refine forPass (fun i : Nat => PyData.int (1 + (i : Int))) (fun ρ => ∃ s4 s5 : Slot, ρ = [.sh (lotD lot), .sh (fiD fs), .sh (logD log), .sh (pl v), s4, s5]) ⟨_, _, rfl⟩ (fun i hi ρ hP D' e4 e5 hD => ?_) fun ρ hP => ?_
  · obtain ⟨s4, s5, rfl⟩ := hP
    have hi := List.mem_range.mp hi
    have w := kn.fi i (by omega)
    have l1 := kn.lt _ (getD_mem (v := v) (i := i) (by omega))
    have l2 := kn.lt _ (getD_mem (v := v) (i := i + 1) (by omega))
    simp [-dSeq, -List.getD_eq_getElem?_getD, -dIx, -dCut, -dIn, -dEq, -dNe, -dM, -dLen, -List.any_eq_true, -List.all_eq_true, -List.any_eq_false, -List.all_eq_false, addsub, atI_pl1 (v := v) (i := i) (by omega), atI_pl (v := v) (i := i) (by omega), l1, l2]
    refine s_do_fight ho hf (hx _ (at_mem l1)) (hx _ (at_mem l2)) ?_
    rw [w]
    simp [-dSeq, -List.getD_eq_getElem?_getD, -dIx, -dCut, -dIn, -dEq, -dNe, -dM, -dLen, -List.any_eq_true, -List.all_eq_true, -List.any_eq_false, -List.all_eq_false]
    have nx := fun s4 s5 => (hD _ ⟨s4, s5, rfl⟩).1
    simpa [-List.getD_eq_getElem?_getD, -dIx, -dCut, -dIn, -dEq, -dNe, -dM, -dLen, -List.any_eq_true, -List.all_eq_true, -List.any_eq_false, -List.all_eq_false] using nx _ _
  obtain ⟨s4, s5, rfl⟩ := hP
  subst e6
  dsimp only
  simpa [-List.getD_eq_getElem?_getD, -dIx, -dCut, -dIn, -dEq, -dNe, -dM, -dLen, -List.any_eq_true, -List.all_eq_true, -List.any_eq_false, -List.all_eq_false] using h
end
end W_k17

set_option Elab.async false
set_option linter.all false
set_option maxRecDepth 100000
set_option maxHeartbeats 4000000
/-! V14 (k17): the law's own rest: striking as long as one can. -/
namespace PL
open PySem VL PL.Plan
namespace Lg
variable {L : Lg}
def kept (L : Lg) (n : Nat) (G : List Nat) : List Nat := (List.range n).filter (L.alive G)
theorem alive_snoc (G : List Nat) (n i : Nat) : L.alive (G ++ [n]) i = (L.alive G i && (!decide (i = n) && !decide (i = L.f n))) := by
  unfold alive
  have e1 : decide (i ∈ G ++ [n]) = (decide (i ∈ G) || decide (i = n)) := by simp
  have e2 : decide (L.f n = i) = decide (i = L.f n) := by
    by_cases h : i = L.f n <;> simp [h, eq_comm]
  rw [e1, List.all_append, List.all_cons, List.all_nil, Bool.and_true, e2]
  cases decide (i ∈ G) <;> cases decide (i = n) <;> cases (G.all fun k => !decide (L.f k = i)) <;> cases decide (i = L.f n) <;> rfl
theorem alive_same {G G' : List Nat} (h : ∀ k, k ∈ G ↔ k ∈ G') (i : Nat) : L.alive G i = L.alive G' i := by
  have a : L.alive G i = true ↔ L.alive G' i = true := ⟨fun z => alive_mono (fun k hk => (h k).mpr hk) z, fun z => alive_mono (fun k hk => (h k).mp hk) z⟩
  cases h1 : L.alive G i <;> cases h2 : L.alive G' i <;> simp_all
theorem rest_same {n : Nat} {G : List Nat} (v : L.Valid G) (hl : ∀ k ∈ G, k < n) (ir : L.Irred n G) : (∀ k, k ∈ G ↔ k ∈ (L.gt n).2) ∧ L.kept n G = (L.gt n).1 := by
  have ok := Lg.gt_ok (L := L) n
  have hs : ∀ k, k ∈ G ↔ k ∈ (L.gt n).2 := fun k => ⟨fun h => valid_sub v ok.irred hl k h, fun h => valid_sub ok.valid ir ok.lt k h⟩
  refine ⟨hs, ?_⟩
  rw [ok.kept]
  unfold kept
  congr 1
  funext i
  exact alive_same hs i
theorem mem_kept {n : Nat} {G : List Nat} {i : Nat} : i ∈ L.kept n G ↔ i < n ∧ L.alive G i = true := by
  unfold kept
  rw [List.mem_filter, List.mem_range]
theorem u_of {G : List Nat} (v : L.Valid G) {k : Nat} (h : k ∈ G) : L.u k = true := by
  obtain ⟨A, B, e⟩ := List.append_of_mem h
  exact (v A k B e).1
end Lg
section
variable {lot : List Plan} {fs : List (De × De)} {log : List En} (hl : LogOk log)
theorem lg_f {k : Nat} (hk : k < log.length) (hu : (atE log k).2 = true) (hin : ((atE log k).1, false) ∈ log) : (lgOf lot fs log hl).f (un log k) = k ∧ (lgOf lot fs log hl).u (un log k) = true ∧ un log k < log.length ∧ k < un log k := by
  have a := un_at hl hin
  have b := un_gt hl hk hu hin
  refine ⟨?_, ?_, a.1, b.1⟩
  · show log.idxOf ((atE log (un log k)).1, true) = k
    rw [a.2]; exact b.2
  · show (!(atE log (un log k)).2) = true
    rw [a.2]; rfl
theorem lg_inv {j : Nat} (hj : j < log.length) (hu : (lgOf lot fs log hl).u j = true) : (lgOf lot fs log hl).f j < j ∧ (atE log ((lgOf lot fs log hl).f j)).2 = true ∧ ((atE log ((lgOf lot fs log hl).f j)).1, false) ∈ log ∧ un log ((lgOf lot fs log hl).f j) = j := by
  have hu2 : (atE log j).2 = false := by
    have : (!(atE log j).2) = true := hu
    simpa using this
  have a := first_at hl hj hu2
  have e : atE log j = ((atE log j).1, false) := Prod.ext rfl hu2
  show log.idxOf ((atE log j).1, true) < j ∧ (atE log (log.idxOf ((atE log j).1, true))).2 = true ∧ ((atE log (log.idxOf ((atE log j).1, true))).1, false) ∈ log ∧ un log (log.idxOf ((atE log j).1, true)) = j
  rw [a.2]
  refine ⟨a.1, rfl, ?_, ?_⟩
  · show ((atE log j).1, false) ∈ log
    rw [← e]; exact at_mem hj
  · unfold un
    rw [a.2]
    show log.idxOf ((atE log j).1, false) = j
    rw [← e]
    exact idx_at hl.nd (at_log hj)
end
end PL
namespace W_k17
open PySem VL PL PL.Plan
section
variable {K : PySem.W.Frag} {Qd : PyData → Prop}
theorem l_rest {lot : List Plan} {fs : List (De × De)} {log : List En} (ho : LotOk lot) (hl : LogOk log) (hx : ∀ e ∈ log, HasDeed lot e.1) (hn : log.length ≤ 1000) (h : Qd (.list (NL ((lgOf lot fs log hl).gt log.length).1))) : Cl (wp__law_rest K) [.d (lotD lot), .d (fiD fs), .d (logD log)] Qd := by
  refine ⟨rfl, ?_⟩
  unfold bd__law_rest
  have lf := fun k => lg_f (lot := lot) (fs := fs) hl (k := k)
  have li := fun j => lg_inv (lot := lot) (fs := fs) hl (j := j)
  have hg : ∀ i j, (lgOf lot fs log hl).g i j = gF lot fs (atE log i).1 (atE log j).1 := fun i j => rfl
  generalize lgOf lot fs log hl = L at h lf li hg
  have k0 : L.kept log.length [] = List.range log.length := by
    unfold Lg.kept
    rw [List.filter_eq_self]
    intro a _
    rw [Lg.alive_iff]
    simp
  refine seq_gen fun k1 e1 => ?_
  simp [-dSeq, -List.getD_eq_getElem?_getD, -dIx, -dCut, -dIn, -dEq, -dNe, -dM, -dLen, -List.any_eq_true, -List.all_eq_true, -List.any_eq_false, -List.all_eq_false, env0]
  refine ⟨⟨by omega, by omega⟩, ?_⟩
  subst e1
  refine seq_gen fun k2 e2 => ?_
  refine dWhile_rule (fun m ρ => ∃ (G : List Nat) (k : Nat) (s5 s6 s7 s8 : Slot), L.Valid G ∧ (∀ g ∈ G, g < log.length) ∧ k ≤ (L.kept log.length G).length ∧ (∀ p, p < k → ∀ j, j < log.length → L.u j = true → L.f j = (L.kept log.length G).getD p 0 → ¬ L.free G j) ∧ (L.kept log.length G).length * (log.length + 1) + ((L.kept log.length G).length - k) ≤ m ∧
    ρ = [.sh (lotD lot), .sh (fiD fs), .sh (logD log), .sh (.list (NL (L.kept log.length G))), .sh (.int (k : Nat)), s5, s6, s7, s8]) (n := log.length * (log.length + 1) + log.length) ⟨[], 0, .un, .un, .un, .un, fun A k B e => by simp at e, by simp, Nat.zero_le _, fun p hp => by omega, by rw [k0]; simp, ?_⟩ fun m ρ hP D' e3 e4 hD => ?_
  · rw [k0]
    simp [NL]
  obtain ⟨G, k, s5, s6, s7, s8, hv, hgl, hk, hns, hm, rfl⟩ := hP
  have kl : ∀ i ∈ L.kept log.length G, i < log.length := fun i hi => (Lg.mem_kept.mp hi).1
  generalize hleft : L.kept log.length G = left at *
  by_cases hkl : k < left.length
  · simp [-dSeq, -List.getD_eq_getElem?_getD, -dIx, -dCut, -dIn, -dEq, -dNe, -dM, -dLen, -List.any_eq_true, -List.all_eq_true, -List.any_eq_false, -List.all_eq_false, hkl]
    refine seq_gen fun k3 e3 => ?_
    have hil := kl _ (getD_mem hkl)
    have him := getD_mem hkl
    have hik := (Lg.mem_kept.mp (show left.getD k 0 ∈ L.kept log.length G by rw [hleft]; exact him)).2
    simp [-dSeq, -List.getD_eq_getElem?_getD, -dIx, -dCut, -dIn, -dEq, -dNe, -dM, -dLen, -List.any_eq_true, -List.all_eq_true, -List.any_eq_false, -List.all_eq_false, NL, atI_pl hkl]
    have last : k + 1 ≤ left.length := hkl
    have go1 : (∀ j, j < log.length → L.u j = true → L.f j = left.getD k 0 → ¬ L.free G j) → ∀ s5 s6 s7 s8, D'.nx [.sh (lotD lot), .sh (fiD fs), .sh (logD log), .sh (.list (NL left)), .sh (.int ((k : Int) + 1)), s5, s6, s7, s8] := fun hno s5 s6 s7 s8 => by
      obtain ⟨m', rfl⟩ : ∃ m', m = m' + 1 := ⟨m - 1, by
        have : 1 ≤ left.length * (log.length + 1) + (left.length - k) := by omega
        omega⟩
      refine (hD m' _ rfl ⟨G, k + 1, s5, s6, s7, s8, hv, hgl, by rw [hleft]; exact last, fun p hp => ?_, by rw [hleft]; omega, by rw [hleft]; rfl⟩).1
      rw [hleft]
      rcases Nat.lt_succ_iff_lt_or_eq.mp hp with z | z
      · exact hns p z
      · rw [z]; exact hno
    generalize left.getD k 0 = i at *
    subst e3
    refine seq_gen fun k4 e4 => ?_
    have lle : left.length ≤ log.length := by
      rw [← hleft]
      unfold Lg.kept
      exact Nat.le_trans (List.length_filter_le _ _) (by simp)
    by_cases hc : (atE log i).2 = true ∧ ((atE log i).1, false) ∈ log
    · obtain ⟨c1, c2⟩ := hc
      obtain ⟨f1, f2, f3, f4⟩ := lf i hil c1 c2
      have hej : (atE log (un log i)).1 = (atE log i).1 := by rw [(un_at hl c2).2]
      simp [-dSeq, -List.getD_eq_getElem?_getD, -dIx, -dCut, -dIn, -dEq, -dNe, -dM, -dLen, -List.any_eq_true, -List.all_eq_true, -List.any_eq_false, -List.all_eq_false, hil, c1]
      refine l_undoing hil ?_
      unfold undP
      rw [if_pos c2, show log.idxOf ((atE log i).1, false) = un log i from rfl]
      generalize hj : un log i = j at *
      subst e4
      refine seq_gen fun k5 e5 => ?_
      simp [-dSeq, -List.getD_eq_getElem?_getD, -dIx, -dCut, -dIn, -dEq, -dNe, -dM, -dLen, -List.any_eq_true, -List.all_eq_true, -List.any_eq_false, -List.all_eq_false]
      refine lcD_fn (fun i : Nat => PyData.int i) (fun late => decide (i < late) && decide (late < j)) (fun j => .int j) left [] (fun late hl2 q hq => ?_) ?_
      · simp [-dSeq, -List.getD_eq_getElem?_getD, -dIx, -dCut, -dIn, -dEq, -dNe, -dM, -dLen, -List.any_eq_true, -List.all_eq_true, -List.any_eq_false, -List.all_eq_false, isNoneD]
        by_cases a : i < late
        · by_cases b : late < j
          · simpa [a, b] using hq
          · simpa [a, b] using hq
        · simpa [a] using hq
      subst e5
      have memB : ∀ late, late ∈ left.filter (fun late => decide (i < late) && decide (late < j)) ↔ late ∈ left ∧ i < late ∧ late < j := fun late => by
        rw [List.mem_filter, Bool.and_eq_true, decide_eq_true_eq, decide_eq_true_eq]
      generalize left.filter (fun late => decide (i < late) && decide (late < j)) = B at memB ⊢
      simp [-dSeq, -List.getD_eq_getElem?_getD, -dIx, -dCut, -dIn, -dEq, -dNe, -dM, -dLen, -List.any_eq_true, -List.all_eq_true, -List.any_eq_false, -List.all_eq_false, isNoneD, -dAny]
      refine lcD_map (fun i : Nat => PyData.int i) (fun late => .bool (gF lot fs (atE log i).1 (atE log late).1)) B (fun late hlB q hq => ?_) ?_
      · have hll := kl late ((memB late).mp hlB).1
        simp [-dSeq, -List.getD_eq_getElem?_getD, -dIx, -dCut, -dIn, -dEq, -dNe, -dM, -dLen, -List.any_eq_true, -List.all_eq_true, -List.any_eq_false, -List.all_eq_false, hil, hll]
        exact l_fight ho (hx _ (at_mem hil)) (hx _ (at_mem hll)) hq
      refine anyMap ?_
      by_cases hany : (B.any fun late => gF lot fs (atE log i).1 (atE log late).1) = true
      · simp [-dSeq, -List.getD_eq_getElem?_getD, -dIx, -dCut, -dIn, -dEq, -dNe, -dM, -dLen, -List.any_eq_true, -List.all_eq_true, -List.any_eq_false, -List.all_eq_false, hany]
        have := go1 (fun j' a b c hfree => by
          have h2 := (li j' a b).2.2.2
          rw [c, hj] at h2
          subst h2
          obtain ⟨late, h3, h4⟩ := List.any_eq_true.mp hany
          obtain ⟨h5, h6, h7⟩ := (memB late).mp h3
          have := hfree late (by rw [c]; exact h6) h7 (Lg.mem_kept.mp (show late ∈ L.kept log.length G by rw [hleft]; exact h5)).2
          rw [hg, hej, gF_sym, h4] at this
          cases this)
        simpa [-List.getD_eq_getElem?_getD, -dIx, -dCut, -dIn, -dEq, -dNe, -dM, -dLen, -List.any_eq_true, -List.all_eq_true, -List.any_eq_false, -List.all_eq_false, NL] using this _ _ _ _
      · simp [-dSeq, -List.getD_eq_getElem?_getD, -dIx, -dCut, -dIn, -dEq, -dNe, -dM, -dLen, -List.any_eq_true, -List.all_eq_true, -List.any_eq_false, -List.all_eq_false, hany]
        refine lcD_fn (fun i : Nat => PyData.int i) (fun late => !decide (late = i) && !decide (late = j)) (fun j => .int j) left [] (fun late hl2 q hq => ?_) ?_
        · simp [-dSeq, -List.getD_eq_getElem?_getD, -dIx, -dCut, -dIn, -dEq, -dNe, -dM, -dLen, -List.any_eq_true, -List.all_eq_true, -List.any_eq_false, -List.all_eq_false]
          refine inNatT (R := [i, j]) ?_
          by_cases a : late = i
          · simpa [a] using hq
          · by_cases b : late = j
            · simpa [b] using hq
            · simpa [a, b] using hq
        have hfree : L.free G j := fun late h6 h7 h8 => by
          rw [f1] at h6
          have h5 : late ∈ left := by rw [← hleft]; exact Lg.mem_kept.mpr ⟨by omega, h8⟩
          have : ¬ gF lot fs (atE log i).1 (atE log late).1 = true := fun z => hany (List.any_eq_true.mpr ⟨late, (memB late).mpr ⟨h5, h6, h7⟩, z⟩)
          rw [hg, hej, gF_sym]
          simpa using this
        have hnew : L.kept log.length (G ++ [j]) = left.filter (fun late => !decide (late = i) && !decide (late = j)) := by
          rw [← hleft]
          unfold Lg.kept
          rw [List.filter_filter]
          refine List.filter_congr fun x _ => ?_
          rw [Lg.alive_snoc, f1, Bool.and_comm]
          congr 1
          rw [Bool.and_comm]
        have hshort : (left.filter (fun late => !decide (late = i) && !decide (late = j))).length < left.length := by
          refine List.length_filter_lt_length_iff_exists.mpr ⟨i, him, by simp⟩
        generalize hl' : left.filter (fun late => !decide (late = i) && !decide (late = j)) = left' at *
        obtain ⟨m', rfl⟩ : ∃ m', m = m' + 1 := ⟨m - 1, by
          have : 1 ≤ left.length * (log.length + 1) + (left.length - k) := by omega
          omega⟩
        have hmul : left'.length * (log.length + 1) + (log.length + 1) ≤ left.length * (log.length + 1) := by
          have := Nat.mul_le_mul_right (log.length + 1) (show left'.length + 1 ≤ left.length by omega)
          rw [Nat.add_mul, Nat.one_mul] at this
          exact this
        have nx := fun s5 s6 s7 s8 => (hD m' _ rfl ⟨G ++ [j], 0, s5, s6, s7, s8, Lg.valid_snoc hv f2 hfree, fun g hgm => by
          rcases List.mem_append.mp hgm with z | z
          · exact hgl g z
          · rw [List.mem_singleton.mp z]; exact f3, Nat.zero_le _, fun p hp => by omega, by rw [hnew]; omega, by rw [hnew]⟩).1
        simpa [-List.getD_eq_getElem?_getD, -dIx, -dCut, -dIn, -dEq, -dNe, -dM, -dLen, -List.any_eq_true, -List.all_eq_true, -List.any_eq_false, -List.all_eq_false, NL] using nx _ _ _ _
    · have hno : ∀ j', j' < log.length → L.u j' = true → L.f j' = i → ¬ L.free G j' := fun j' a b c _ => by
        have h2 := li j' a b
        rw [c] at h2
        exact hc ⟨h2.2.1, h2.2.2.1⟩
      have fin : ∀ s6 s8, k4 D' [.sh (lotD lot), .sh (fiD fs), .sh (logD log), .sh (.list (NL left)), .sh (.int (k : Nat)), .sh (.int (i : Nat)), .sh .none, s6, s8] := fun s6 s8 => by
        subst e4
        refine seq_gen fun k5 e5 => ?_
        simp [-dSeq, -List.getD_eq_getElem?_getD, -dIx, -dCut, -dIn, -dEq, -dNe, -dM, -dLen, -List.any_eq_true, -List.all_eq_true, -List.any_eq_false, -List.all_eq_false, NL]
        refine lcD_fn (fun i : Nat => PyData.int i) (fun _ => false) (fun j => .int j) left [] (fun late hl2 q hq => ?_) ?_
        · simp [-dSeq, -List.getD_eq_getElem?_getD, -dIx, -dCut, -dIn, -dEq, -dNe, -dM, -dLen, -List.any_eq_true, -List.all_eq_true, -List.any_eq_false, -List.all_eq_false, isNoneD]
          simpa using hq
        subst e5
        simp [-dSeq, -List.getD_eq_getElem?_getD, -dIx, -dCut, -dIn, -dEq, -dNe, -dM, -dLen, -List.any_eq_true, -List.all_eq_true, -List.any_eq_false, -List.all_eq_false, isNoneD]
        have := go1 hno
        simpa [-List.getD_eq_getElem?_getD, -dIx, -dCut, -dIn, -dEq, -dNe, -dM, -dLen, -List.any_eq_true, -List.all_eq_true, -List.any_eq_false, -List.all_eq_false, NL] using this _ _ _ _
      by_cases c1 : (atE log i).2 = true
      · simp [-dSeq, -List.getD_eq_getElem?_getD, -dIx, -dCut, -dIn, -dEq, -dNe, -dM, -dLen, -List.any_eq_true, -List.all_eq_true, -List.any_eq_false, -List.all_eq_false, hil, c1]
        refine l_undoing hil ?_
        unfold undP
        rw [if_neg (fun z => hc ⟨c1, z⟩)]
        exact fin _ _
      · simp [-dSeq, -List.getD_eq_getElem?_getD, -dIx, -dCut, -dIn, -dEq, -dNe, -dM, -dLen, -List.any_eq_true, -List.all_eq_true, -List.any_eq_false, -List.all_eq_false, hil, c1]
        exact fin _ _
  · simp [-dSeq, -List.getD_eq_getElem?_getD, -dIx, -dCut, -dIn, -dEq, -dNe, -dM, -dLen, -List.any_eq_true, -List.all_eq_true, -List.any_eq_false, -List.all_eq_false, hkl]
    have hke : k = left.length := by omega
    have hir : L.Irred log.length G := fun j hjn hju hjG hfree => by
      have hl2 := li j hjn hju
      have al : L.alive G (L.f j) = true := by
        rw [Lg.alive_iff]
        refine ⟨fun z => ?_, fun g hg2 e => ?_⟩
        · have := Lg.u_of hv z
          rw [L.dn j hju] at this
          cases this
        · have a := li g (hgl g hg2) (Lg.u_of hv hg2)
          have b := hl2.2.2.2
          rw [e, b] at a
          have := a.2.2.2
          rw [this] at hjG
          exact hjG hg2
      have hm : L.f j ∈ left := by rw [← hleft]; exact Lg.mem_kept.mpr ⟨by have := hl2.1; omega, al⟩
      obtain ⟨p, hp⟩ := List.getElem?_of_mem hm
      have hpl := (List.getElem?_eq_some_iff.mp hp).1
      refine hns p (by omega) j hjn hju ?_ hfree
      rw [List.getD_eq_getElem?_getD, hp]
      rfl
    have := (Lg.rest_same hv hgl hir).2
    rw [hleft] at this
    rw [this]
    subst e2
    simpa [-List.getD_eq_getElem?_getD, -dIx, -dCut, -dIn, -dEq, -dNe, -dM, -dLen, -List.any_eq_true, -List.all_eq_true, -List.any_eq_false, -List.all_eq_false] using h
end
end W_k17

set_option Elab.async false
set_option linter.all false
set_option maxRecDepth 100000
set_option maxHeartbeats 4000000
/-! V15 (k17): strikes, one by one. -/
namespace PL
open PySem VL PL.Plan
theorem keyLe_antisymm {a b : PyData} (h : keyLe a b = true) (h' : keyLe b a = true) : PySem.W.keyToks a = PySem.W.keyToks b := by
  unfold keyLe PySem.W.dataLe PySem.W.sortLe at h h'
  simp at h h'
  exact (PyProof.Rows.listOrd PyProof.Rows.itemOrd).total _ _ h' h
theorem sort_perm {ds es : List PyData} (hp : ds.Perm es) (inj : ∀ a ∈ ds, ∀ b ∈ ds, PySem.W.keyToks a = PySem.W.keyToks b → a = b) : ds.mergeSort keyLe = es.mergeSort keyLe := by
  have T := PySem.W.sortLe_total (PyProof.Rows.listOrd PyProof.Rows.itemOrd) false (fun b : PyData => PySem.W.keyToks b)
  refine List.Perm.eq_of_pairwise (le := fun a b => keyLe a b = true) (fun a b ha hb h1 h2 => ?_) (List.pairwise_mergeSort T.trans (fun a b => by rw [Bool.or_eq_true]; exact T.total a b) _) (List.pairwise_mergeSort T.trans (fun a b => by rw [Bool.or_eq_true]; exact T.total a b) _) ((List.mergeSort_perm _ _).trans (hp.trans (List.mergeSort_perm _ _).symm))
  exact inj a (List.mem_mergeSort.mp ha) b (hp.mem_iff.mpr (List.mem_mergeSort.mp hb)) (keyLe_antisymm h1 h2)
theorem de_inj {x y : De} (h : PySem.W.keyToks (deD x) = PySem.W.keyToks (deD y)) : x = y := by
  unfold deD at h
  simp only [PySem.W.keyToks, PySem.W.keyToksAll] at h
  simp at h
  refine Prod.ext (by omega) ?_
  exact PySem.W.str_of_cps (by rw [h.2])
theorem mono_at {xs : List Nat} (hs : xs.Pairwise (· < ·)) {p q a b : Nat} (hp : xs[p]? = some a) (hq : xs[q]? = some b) : (a < b ↔ p < q) := by
  obtain ⟨p1, p2⟩ := List.getElem?_eq_some_iff.mp hp
  obtain ⟨q1, q2⟩ := List.getElem?_eq_some_iff.mp hq
  rw [List.pairwise_iff_getElem] at hs
  rcases Nat.lt_trichotomy p q with z | z | z
  · have := hs p q p1 q1 z; omega
  · subst z; rw [hp] at hq; cases hq; simp
  · have := hs q p q1 p1 z; omega
section
variable {lot : List Plan} {fs : List (De × De)} {log : List En}
noncomputable def subE (L : Lg) (log : List En) (A : List Nat) : List En := (L.kept log.length A).map (atE log)
variable (hl : LogOk log)
include hl
theorem kept_sorted (L : Lg) (n : Nat) (A : List Nat) : (L.kept n A).Pairwise (· < ·) := by
  unfold Lg.kept
  exact List.pairwise_lt_range.filter _
theorem sub_at {L : Lg} {A : List Nat} {p : Nat} {e : En} : (subE L log A)[p]? = some e ↔ ∃ k, (L.kept log.length A)[p]? = some k ∧ atE log k = e := by
  unfold subE
  rw [List.getElem?_map]
  cases (L.kept log.length A)[p]? <;> simp
theorem alive_f {A : List Nat} (hv : (lgOf lot fs log hl).Valid A) (ha : ∀ g ∈ A, g < log.length) {k : Nat} (hk : k < log.length) (hu : (lgOf lot fs log hl).u k = true) : (lgOf lot fs log hl).alive A k = true → (lgOf lot fs log hl).alive A ((lgOf lot fs log hl).f k) = true := by
  intro h
  rw [Lg.alive_iff] at h ⊢
  refine ⟨fun z => ?_, fun g hg e => ?_⟩
  · have := Lg.u_of hv z
    rw [(lgOf lot fs log hl).dn k hu] at this
    cases this
  · have a := (lg_inv (lot := lot) (fs := fs) hl (ha g hg) (Lg.u_of hv hg)).2.2.2
    have b := (lg_inv (lot := lot) (fs := fs) hl hk hu).2.2.2
    rw [e, b] at a
    exact h.1 (a ▸ hg)
theorem sub_ok {A : List Nat} (hv : (lgOf lot fs log hl).Valid A) (ha : ∀ g ∈ A, g < log.length) : LogOk (subE (lgOf lot fs log hl) log A) := by
  have hs := kept_sorted hl (lgOf lot fs log hl) log.length A
  refine ⟨?_, fun p x hp => ?_⟩
  · unfold subE
    refine List.pairwise_map.mpr (hs.imp_of_mem fun {a b} h1 h2 hab e => ?_)
    have := at_uniq hl.nd (Lg.mem_kept.mp h1).1 (Lg.mem_kept.mp h2).1 e
    omega
  · obtain ⟨k, hk, he⟩ := (sub_at hl).mp hp
    obtain ⟨h1, h2⟩ := Lg.mem_kept.mp (List.mem_of_getElem? hk)
    have hu : (lgOf lot fs log hl).u k = true := by show (!(atE log k).2) = true; rw [he]; rfl
    have al := alive_f hl hv ha h1 hu h2
    have inv := lg_inv (lot := lot) (fs := fs) hl h1 hu
    have hm : (lgOf lot fs log hl).f k ∈ (lgOf lot fs log hl).kept log.length A := Lg.mem_kept.mpr ⟨by omega, al⟩
    obtain ⟨q, hq⟩ := List.getElem?_of_mem hm
    refine ⟨q, (mono_at hs hq hk).mp inv.1, (sub_at hl).mpr ⟨_, hq, ?_⟩⟩
    refine Prod.ext ?_ inv.2.1
    show (atE log (log.idxOf ((atE log k).1, true))).1 = x
    rw [(first_at hl h1 (by rw [he])).2, he]
theorem sub_can {A : List Nat} (hv : (lgOf lot fs log hl).Valid A) (ha : ∀ g ∈ A, g < log.length) {k : Nat} (hk : k < log.length) (hu : (lgOf lot fs log hl).u k = true) (hkA : k ∉ A) (hf : (lgOf lot fs log hl).free A k) : canS (gF lot fs) (subE (lgOf lot fs log hl) log A) (atE log k).1 = true := by
  have hs := kept_sorted hl (lgOf lot fs log hl) log.length A
  have ok := sub_ok (lot := lot) (fs := fs) hl hv ha
  have hu2 : (atE log k).2 = false := by
    have : (!(atE log k).2) = true := hu
    simpa using this
  have fa := first_at hl hk hu2
  have alk : (lgOf lot fs log hl).alive A k = true := by
    rw [Lg.alive_iff]
    refine ⟨hkA, fun g hg e => ?_⟩
    have := (lgOf lot fs log hl).dn g (Lg.u_of hv hg)
    rw [e, hu] at this
    cases this
  have alf := alive_f hl hv ha hk hu alk
  obtain ⟨p, hp⟩ := List.getElem?_of_mem (Lg.mem_kept.mpr ⟨hk, alk⟩ : k ∈ (lgOf lot fs log hl).kept log.length A)
  obtain ⟨q, hq⟩ := List.getElem?_of_mem (Lg.mem_kept.mpr ⟨by show log.idxOf ((atE log k).1, true) < _; have := fa.1; omega, alf⟩ : (lgOf lot fs log hl).f k ∈ (lgOf lot fs log hl).kept log.length A)
  have ep : (subE (lgOf lot fs log hl) log A)[p]? = some ((atE log k).1, false) := (sub_at hl).mpr ⟨k, hp, Prod.ext rfl hu2⟩
  have eq : (subE (lgOf lot fs log hl) log A)[q]? = some ((atE log k).1, true) := (sub_at hl).mpr ⟨_, hq, fa.2⟩
  unfold canS
  rw [idx_at ok.nd ep, idx_at ok.nd eq]
  have m1 := List.mem_of_getElem? ep
  have m2 := List.mem_of_getElem? eq
  have hno : (((subE (lgOf lot fs log hl) log A).take p).drop (q + 1)).any (fun e => gF lot fs e.1 (atE log k).1) = false := by
    rw [List.any_eq_false]
    intro e he
    obtain ⟨j, hj⟩ := List.getElem?_of_mem he
    rw [List.getElem?_drop, List.getElem?_take] at hj
    split at hj
    · rename_i hjp
      obtain ⟨i, hi, hie⟩ := (sub_at hl).mp hj
      have a1 := (mono_at hs hq hi).mpr (by omega)
      have a2 := (mono_at hs hi hp).mpr hjp
      have a3 := (Lg.mem_kept.mp (List.mem_of_getElem? hi)).2
      have := hf i a1 a2 a3
      have hg : (lgOf lot fs log hl).g i k = gF lot fs (atE log i).1 (atE log k).1 := rfl
      rw [hg, hie] at this
      rw [this]
      simp
    · cases hj
  rw [hno]
  simp [m1, m2]
theorem sub_next {A : List Nat} (hv : (lgOf lot fs log hl).Valid A) {k : Nat} (hk : k < log.length) (hu : (lgOf lot fs log hl).u k = true) : (subE (lgOf lot fs log hl) log A).filter (fun e => !decide (e.1 = (atE log k).1)) = subE (lgOf lot fs log hl) log (A ++ [k]) := by
  unfold subE Lg.kept
  rw [List.filter_map, List.filter_filter]
  congr 1
  refine List.filter_congr fun x hx => ?_
  have hx := List.mem_range.mp hx
  rw [Lg.alive_snoc, Bool.and_comm]
  congr 1
  have hu2 : (atE log k).2 = false := by
    have : (!(atE log k).2) = true := hu
    simpa using this
  have fa := first_at hl hk hu2
  show (!decide ((atE log x).1 = (atE log k).1)) = _
  have hfk : (lgOf lot fs log hl).f k = log.idxOf ((atE log k).1, true) := rfl
  rw [hfk]
  by_cases e : (atE log x).1 = (atE log k).1
  · cases hb : (atE log x).2 with
    | false =>
      have : x = k := at_uniq hl.nd hx hk (Prod.ext e (hb.trans hu2.symm))
      simp [this]
    | true =>
      have : x = log.idxOf ((atE log k).1, true) := at_uniq hl.nd hx (by have := fa.1; omega) (by rw [fa.2]; exact Prod.ext e hb)
      simp [e, ← this]
  · have h1 : ¬ x = k := fun z => e (by rw [z])
    have h2 : ¬ x = log.idxOf ((atE log k).1, true) := fun z => e (by rw [z, fa.2])
    simp [e, h1, h2]
end
theorem eqvAll_log : ∀ log : List En, PyData.eqvAll (log.map enD) (log.map enD) = true
  | [] => by simp
  | e :: log => by
    have := eqvAll_log log
    have h2 := eqv_en e e
    simp [this, h2]
theorem depth_log : ∀ log : List En, PyData.depthAll (log.map enD) ≤ 3
  | [] => by simp [PyData.depthAll]
  | e :: log => by
    have := depth_log log
    simp only [List.map_cons, PyData.depthAll]
    have : (enD e).depth ≤ 3 := by simp [enD, PyData.depth, PyData.depthAll]
    omega
theorem okD_log (log : List En) : okD (logD log) := ⟨by simp [logD, plain_log], by
  have := depth_log log
  simp [logD, PyData.depth]; omega⟩
@[simp] theorem eqLog (log : List En) (Q : PyData → Prop) : dEq (logD log) (logD log) Q = Q (.bool true) := by
  have h1 := okD_log log
  have h2 := eqvAll_log log
  unfold logD at *
  simp [h1, h2]
end PL

set_option Elab.async false
set_option linter.all false
set_option maxRecDepth 100000
set_option maxHeartbeats 4000000
/-! V16 (k17): strikes are right. -/
namespace PL
open PySem VL PL.Plan
theorem Nice.rep' {k n : Nat} {d : PyData} (h : Nice k n d) (hk : k ≤ 60) (hn : n ≤ 16777216) {Q : PyData → Prop} (q : Q (.str d.shown)) : dRepr [d] Q := (h.mono hk (Nat.le_refl _)).rep hn q
/-- deeds that can be shown -/
structure DeNice (x : De) : Prop where
  run : x.1 < 1000
  nm : (reprText x.2).length ≤ 20
theorem nice_de {x : De} (h : DeNice x) : Nice 1 60 (deD x) := by
  unfold deD
  refine nice_tuple (k := 0) (m := 50) ?_
  exact niceL_cons (k1 := 0) (a := 10) (b := 30) (nice_nat (show x.1 < 10 ^ 9 by have := h.run; omega)) (niceL_cons (k1 := 0) (a := 20) (b := 0) (nice_str h.nm) niceL_nil)
theorem nice_des {xs : List De} (h : ∀ x ∈ xs, DeNice x) (hm : xs.length ≤ 1000) : NiceL 1 70000 (xs.map deD) := niceL_map (c := 60) (m := 1000) (fun x hx => nice_de (h x hx)) hm (by omega)
theorem alike_de (xs : List De) : PySem.W.AllAlike (xs.map deD) := by
  intro d hd d' hd'
  obtain ⟨x, _, rfl⟩ := List.mem_map.mp hd
  obtain ⟨y, _, rfl⟩ := List.mem_map.mp hd'
  simp [deD, PySem.W.alike, PySem.W.alikeAll]
theorem sortable_de (xs : List De) : PySem.W.Sortable (xs.map deD) := .inl fun d hd => by
  obtain ⟨x, _, rfl⟩ := List.mem_map.mp hd
  exact ⟨_, _, rfl⟩
theorem depth_des : ∀ xs : List De, PyData.depthAll (xs.map deD) ≤ 60
  | [] => by simp [PyData.depthAll]
  | e :: xs => by
    have := depth_des xs
    simp only [List.map_cons, PyData.depthAll]
    have : (deD e).depth ≤ 3 := by simp [deD, PyData.depth, PyData.depthAll]
    omega
theorem nice_sorted {xs : List De} (h : ∀ x ∈ xs, DeNice x) (hm : xs.length ≤ 1000) : Nice 2 70003 (.list ((xs.map deD).mergeSort keyLe)) := by
  refine nice_list (k := 1) (m := 70000) (niceL_all (c := 60) (m := 1000) (fun d hd => ?_) (by simpa using hm) (by omega))
  obtain ⟨x, hx, rfl⟩ := List.mem_map.mp (List.mem_mergeSort.mp hd)
  exact nice_de (h x hx)
theorem Lg.gt_sorted (L : Lg) : ∀ n, (L.gt n).2.Pairwise (· < ·)
  | 0 => by simp [Lg.gt]
  | n + 1 => by
    have ih := Lg.gt_sorted L n
    have lt := (Lg.gt_ok (L := L) n).lt
    rw [Lg.gt, Lg.st]
    split
    · exact ih
    · split
      · exact ih
      · exact List.pairwise_append.mpr ⟨ih, by simp, fun a ha b hb => by rw [List.mem_singleton.mp hb]; exact lt a ha⟩
section
variable {lot : List Plan} {fs : List (De × De)} {log : List En}
/-- the deeds told to be struck are those whose doings are not left -/
theorem struck_perm (hl : LogOk log) : (((lgOf lot fs log hl).gt log.length).2.map fun k => (atE log k).1).Perm (((List.range log.length).filter fun k => (atE log k).2 && !decide (k ∈ ((lgOf lot fs log hl).gt log.length).1)).map fun k => (atE log k).1) := by
  have ok := Lg.gt_ok (L := lgOf lot fs log hl) log.length
  have sG := Lg.gt_sorted (lgOf lot fs log hl) log.length
  have li := fun j => lg_inv (lot := lot) (fs := fs) hl (j := j)
  have hu : ∀ k, (lgOf lot fs log hl).u k = !(atE log k).2 := fun k => rfl
  have hfd : ∀ j, j < log.length → (lgOf lot fs log hl).u j = true → (atE log ((lgOf lot fs log hl).f j)).1 = (atE log j).1 := fun j hj hu => by
    have hu2 : (atE log j).2 = false := by
      have : (!(atE log j).2) = true := hu
      simpa using this
    show (atE log (log.idxOf ((atE log j).1, true))).1 = _
    rw [(first_at hl hj hu2).2]
  generalize lgOf lot fs log hl = L at *
  generalize hs : L.gt log.length = s at *
  obtain ⟨R, G⟩ := s
  obtain ⟨hk, hlt, hv, hi⟩ := ok
  simp only at hk hlt hv hi sG ⊢
  have uG : ∀ k ∈ G, L.u k = true := fun k h => Lg.u_of hv h
  have e1 : G.map (fun k => (atE log k).1) = (G.map L.f).map fun k => (atE log k).1 := by
    rw [List.map_map]
    refine List.map_congr_left fun k hk2 => ?_
    exact (hfd k (hlt k hk2) (uG k hk2)).symm
  rw [e1]
  refine List.Perm.map _ ?_
  refine (List.perm_ext_iff_of_nodup ?_ ((List.nodup_range).filter _)).mpr fun i => ?_
  · refine List.pairwise_map.mpr (sG.imp_of_mem fun {a b} h1 h2 hab e => ?_)
    have x := (li a (hlt a h1) (uG a h1)).2.2.2
    have y := (li b (hlt b h2) (uG b h2)).2.2.2
    rw [e, y] at x
    omega
  · rw [List.mem_map, List.mem_filter, List.mem_range, Bool.and_eq_true]
    constructor
    · rintro ⟨g, hg, rfl⟩
      have x := li g (hlt g hg) (uG g hg)
      refine ⟨by have := hlt g hg; omega, x.2.1, ?_⟩
      simp only [Bool.not_eq_true', decide_eq_false_iff_not]
      intro z
      rw [hk, List.mem_filter, Lg.alive_iff] at z
      exact z.2.2 g hg rfl
    · rintro ⟨h1, h2, h3⟩
      simp only [Bool.not_eq_true', decide_eq_false_iff_not] at h3
      rw [hk, List.mem_filter, List.mem_range, Lg.alive_iff] at h3
      apply Classical.byContradiction
      intro hno
      refine h3 ⟨h1, fun z => ?_, fun g hg e => hno ⟨g, hg, e⟩⟩
      have := uG i z
      rw [hu, h2] at this
      cases this
end
end PL
namespace W_k17
open PySem VL PL PL.Plan
section
variable {K : PySem.W.Frag} {Qd : PyData → Prop}
theorem l_strikes_right {lot : List Plan} {fs : List (De × De)} {log : List En} (ho : LotOk lot) (hf : ∀ z ∈ fs, z.1.1 < z.2.1) (hl : LogOk log) (hx : ∀ e ∈ log, HasDeed lot e.1) (hni : ∀ e ∈ log, DeNice e.1) (hn : log.length ≤ 1000) (h : Qd (.bool true)) : Cl (wp__law_strikes_right K) [.d (lotD lot), .d (fiD fs), .d (logD log), .d (.list (NL ((lgOf lot fs log hl).gt log.length).1))] Qd := by
  refine ⟨rfl, ?_⟩
  unfold bd__law_strikes_right
  have hen : ∀ (ρ : Vn) (Q : List PyData → Prop), ρ[2]? = some (.sh (logD log)) → Q (enumD (log.map enD)) → dEnum (lCons (dVar 2) lNil) ρ Q := fun ρ Q hρ q => by simpa [logD, dVar, hρ] using q
  have sp := struck_perm (lot := lot) (fs := fs) hl
  have ok := Lg.gt_ok (L := lgOf lot fs log hl) log.length
  have lenG := (Lg.gt_len (lgOf lot fs log hl) log.length).2
  refine seq_gen fun k1 e1 => ?_
  simp [-dSeq, -List.getD_eq_getElem?_getD, -dIx, -dCut, -dIn, -dEq, -dNe, -dM, -dLen, -List.any_eq_true, -List.all_eq_true, -List.any_eq_false, -List.all_eq_false, env0]
  refine s_strikes ho hf hl hx hn ?_
  subst e1
  refine seq_gen fun k2 e2 => ?_
  simp [-dSeq, -List.getD_eq_getElem?_getD, -dIx, -dCut, -dIn, -dEq, -dNe, -dM, -dLen, -List.any_eq_true, -List.all_eq_true, -List.any_eq_false, -List.all_eq_false, -dEnum]
  refine hen _ _ rfl ?_
  rw [enum_log]
  refine lcD_fn (fun k : Nat => PyData.tuple [.int k, enD (atE log k)]) (fun k => (atE log k).2 && !decide (k ∈ ((lgOf lot fs log hl).gt log.length).1)) (fun k => deD (atE log k).1) (List.range log.length) [] (fun k hk q hq => ?_) ?_
  · simp [-dSeq, -List.getD_eq_getElem?_getD, -dIx, -dCut, -dIn, -dEq, -dNe, -dM, -dLen, -List.any_eq_true, -List.all_eq_true, -List.any_eq_false, -List.all_eq_false]
    cases hb : (atE log k).2 with
    | false => simpa [hb] using hq
    | true =>
      simp [-dSeq, -List.getD_eq_getElem?_getD, -dIx, -dCut, -dIn, -dEq, -dNe, -dM, -dLen, -List.any_eq_true, -List.all_eq_true, -List.any_eq_false, -List.all_eq_false]
      refine inNatL ?_
      by_cases hin : k ∈ ((lgOf lot fs log hl).gt log.length).1
      · simpa [hb, hin] using hq
      · simpa [hb, hin] using hq
  subst e2
  refine seq_gen fun k3 e3 => ?_
  have emap : ((List.range log.length).filter fun k => (atE log k).2 && !decide (k ∈ ((lgOf lot fs log hl).gt log.length).1)).map (fun k => deD (atE log k).1) = (((List.range log.length).filter fun k => (atE log k).2 && !decide (k ∈ ((lgOf lot fs log hl).gt log.length).1)).map fun k => (atE log k).1).map deD := by rw [List.map_map]; rfl
  rw [emap]
  have hG1 : ∀ x ∈ ((lgOf lot fs log hl).gt log.length).2.map (fun k => (atE log k).1), DeNice x ∧ HasDeed lot x := fun x hxm => by
    obtain ⟨k, hk, rfl⟩ := List.mem_map.mp hxm
    exact ⟨hni _ (at_mem (ok.lt k hk)), hx _ (at_mem (ok.lt k hk))⟩
  have hD1 : ∀ x ∈ ((List.range log.length).filter fun k => (atE log k).2 && !decide (k ∈ ((lgOf lot fs log hl).gt log.length).1)).map (fun k => (atE log k).1), DeNice x := fun x hxm => (hG1 x (sp.mem_iff.mpr hxm)).1
  have lenD := sp.length_eq
  rw [List.length_map] at lenD
  have esort := sort_perm (sp.map deD) (fun a ha b hb e => by
    obtain ⟨x, _, rfl⟩ := List.mem_map.mp ha
    obtain ⟨y, _, rfl⟩ := List.mem_map.mp hb
    rw [de_inj e])
  have hGv := ok.valid
  have hGl := ok.lt
  have hkept := ok.kept
  have hsame := (Lg.rest_same ok.valid ok.lt ok.irred).2
  generalize hdue : ((List.range log.length).filter fun k => (atE log k).2 && !decide (k ∈ ((lgOf lot fs log hl).gt log.length).1)).map (fun k => (atE log k).1) = due at *
  have pa := plain_des (((lgOf lot fs log hl).gt log.length).2.map fun k => (atE log k).1)
  have aa := alike_de (((lgOf lot fs log hl).gt log.length).2.map fun k => (atE log k).1)
  have sa := sortable_de (((lgOf lot fs log hl).gt log.length).2.map fun k => (atE log k).1)
  have da := depth_des (((lgOf lot fs log hl).gt log.length).2.map fun k => (atE log k).1)
  have pb := plain_des due
  have ab := alike_de due
  have sb := sortable_de due
  have db := depth_des due
  have na := nice_sorted (fun x hx => (hG1 x hx).1) (by rw [List.length_map]; omega)
  have nb := nice_sorted hD1 (by omega)
  have hdes : desD (((lgOf lot fs log hl).gt log.length).2.map fun k => (atE log k).1) = .tuple ((((lgOf lot fs log hl).gt log.length).2.map fun k => (atE log k).1).map deD) := rfl
  simp [-dSeq, -List.getD_eq_getElem?_getD, -dIx, -dCut, -dIn, -dEq, -dNe, -dM, -dLen, -List.any_eq_true, -List.all_eq_true, -List.any_eq_false, -List.all_eq_false, hdes, pa, aa, sa, da, -dRepr, -List.map_map]
  refine na.rep' (by omega) (by omega) ?_
  rw [esort] at na ⊢
  simp [-dSeq, -List.getD_eq_getElem?_getD, -dIx, -dCut, -dIn, -dEq, -dNe, -dM, -dLen, -List.any_eq_true, -List.all_eq_true, -List.any_eq_false, -List.all_eq_false, pb, ab, sb, db, -dRepr, -List.map_map]
  refine nb.rep' (by omega) (by omega) ?_
  simp [-dSeq, -List.getD_eq_getElem?_getD, -dIx, -dCut, -dIn, -dEq, -dNe, -dM, -dLen, -List.any_eq_true, -List.all_eq_true, -List.any_eq_false, -List.all_eq_false]
  subst e3
  refine seq_gen fun k4 e4 => ?_
  simp [-dSeq, -List.getD_eq_getElem?_getD, -dIx, -dCut, -dIn, -dEq, -dNe, -dM, -dLen, -List.any_eq_true, -List.all_eq_true, -List.any_eq_false, -List.all_eq_false, -List.map_map]
  have hsub0 : subE (lgOf lot fs log hl) log [] = log := by
    unfold subE Lg.kept
    rw [List.filter_eq_self.mpr (fun a _ => by rw [Lg.alive_iff]; simp)]
    exact map_at log
  refine forD_rule (deD ∘ fun k => (atE log k).1) (fun r ρ => ∃ (A : List Nat) (s7 s8 s9 : Slot), ((lgOf lot fs log hl).gt log.length).2 = A ++ r ∧ ρ = [.sh (lotD lot), .sh (fiD fs), .sh (logD log), .sh (.list (NL ((lgOf lot fs log hl).gt log.length).1)), .sh (.tuple (((lgOf lot fs log hl).gt log.length).2.map (deD ∘ fun k => (atE log k).1))), .sh (logD (subE (lgOf lot fs log hl) log A)), .sh (.list (due.map deD)), s7, s8, s9]) (fun k r ρ hP D' e5 e6 hD => ?_) (fun ρ hP => ?_) _ _ ⟨[], .un, .un, .un, rfl, by rw [hsub0]⟩
  · obtain ⟨A, s7, s8, s9, hA, rfl⟩ := hP
    have hkG : k ∈ ((lgOf lot fs log hl).gt log.length).2 := by rw [hA]; simp
    have hk := hGl k hkG
    obtain ⟨hu, hfree⟩ := hGv A k r hA
    have hvA : (lgOf lot fs log hl).Valid A := fun A1 x B1 e => hGv A1 x (B1 ++ k :: r) (by rw [hA, e]; simp)
    have hlA : ∀ g ∈ A, g < log.length := fun g hg => hGl g (by rw [hA]; simp [hg])
    have hkA : k ∉ A := fun z => by
      have := Lg.gt_sorted (lgOf lot fs log hl) log.length
      rw [hA] at this
      have := (List.pairwise_append.mp this).2.2 k z k (by simp)
      omega
    have oks := sub_ok (lot := lot) (fs := fs) hl hvA hlA
    have can := sub_can (lot := lot) (fs := fs) hl hvA hlA hk hu hkA hfree
    have lens : (subE (lgOf lot fs log hl) log A).length ≤ 1000 := by
      unfold subE Lg.kept
      rw [List.length_map]
      have := List.length_filter_le ((lgOf lot fs log hl).alive A) (List.range log.length)
      simp at this
      omega
    have hxs : ∀ e ∈ subE (lgOf lot fs log hl) log A, HasDeed lot e.1 := fun e he => by
      obtain ⟨i, hi, rfl⟩ := List.mem_map.mp he
      exact hx _ (at_mem (Lg.mem_kept.mp hi).1)
    have hdk := hx _ (at_mem hk)
    have nxt := sub_next (lot := lot) (fs := fs) hl hvA hk hu
    have nx := fun s7 s8 s9 => (hD _ ⟨A ++ [k], s7, s8, s9, by rw [hA]; simp, rfl⟩).1
    generalize subE (lgOf lot fs log hl) log A = now at *
    simp [-dSeq, -List.getD_eq_getElem?_getD, -dIx, -dCut, -dIn, -dEq, -dNe, -dM, -dLen, -List.any_eq_true, -List.all_eq_true, -List.any_eq_false, -List.all_eq_false, -List.map_map]
    refine seq_gen fun k5 e7 => ?_
    simp [-dSeq, -List.getD_eq_getElem?_getD, -dIx, -dCut, -dIn, -dEq, -dNe, -dM, -dLen, -List.any_eq_true, -List.all_eq_true, -List.any_eq_false, -List.all_eq_false, -List.map_map]
    refine l_can_strike ho oks hxs hdk lens ?_
    rw [can]
    simp [-dSeq, -List.getD_eq_getElem?_getD, -dIx, -dCut, -dIn, -dEq, -dNe, -dM, -dLen, -List.any_eq_true, -List.all_eq_true, -List.any_eq_false, -List.all_eq_false, -List.map_map]
    refine s_can_strike ho hf oks hxs hdk lens ?_
    rw [can]
    simp [-dSeq, -List.getD_eq_getElem?_getD, -dIx, -dCut, -dIn, -dEq, -dNe, -dM, -dLen, -List.any_eq_true, -List.all_eq_true, -List.any_eq_false, -List.all_eq_false, -List.map_map]
    subst e7
    have hit : ∀ (Q : List PyData → Prop) (ρ : Vn), ρ[5]? = some (.sh (logD now)) → Q (now.map enD) → dIt (dVar 5) ρ Q := fun Q ρ hρ q => by simpa [dVar, hρ, logD] using q
    simp [-dSeq, -List.getD_eq_getElem?_getD, -dIx, -dCut, -dIn, -dEq, -dNe, -dM, -dLen, -List.any_eq_true, -List.all_eq_true, -List.any_eq_false, -List.all_eq_false, -dIt, -List.map_map]
    refine hit _ _ rfl ?_
    refine lcD_fn enD (fun e => !decide (e.1 = (atE log k).1)) enD now [] (fun e he q hq => ?_) ?_
    · simp [-dSeq, -List.getD_eq_getElem?_getD, -dIx, -dCut, -dIn, -dEq, -dNe, -dM, -dLen, -List.any_eq_true, -List.all_eq_true, -List.any_eq_false, -List.all_eq_false]
      by_cases c : e.1 = (atE log k).1
      · simpa [c] using hq
      · simpa [c] using hq
    rw [nxt]
    simp [-dSeq, -List.getD_eq_getElem?_getD, -dIx, -dCut, -dIn, -dEq, -dNe, -dM, -dLen, -List.any_eq_true, -List.all_eq_true, -List.any_eq_false, -List.all_eq_false, -List.map_map]
    have := nx (.sh (deD (atE log k).1)) s8 s9
    simpa [-List.getD_eq_getElem?_getD, -dIx, -dCut, -dIn, -dEq, -dNe, -dM, -dLen, -List.any_eq_true, -List.all_eq_true, -List.any_eq_false, -List.all_eq_false, logD, -List.map_map] using this
  obtain ⟨A, s7, s8, s9, hA, rfl⟩ := hP
  rw [List.append_nil] at hA
  subst e4
  simp [-dSeq, -List.getD_eq_getElem?_getD, -dIx, -dCut, -dIn, -dEq, -dNe, -dM, -dLen, -List.any_eq_true, -List.all_eq_true, -List.any_eq_false, -List.all_eq_false, -List.map_map]
  refine lcD_map (fun i : Nat => PyData.int i) (fun k => enD (atE log k)) _ (fun k hk q hq => ?_) ?_
  · have hkl : k < log.length := by rw [hkept, List.mem_filter, List.mem_range] at hk; exact hk.1
    simp [-dSeq, -List.getD_eq_getElem?_getD, -dIx, -dCut, -dIn, -dEq, -dNe, -dM, -dLen, -List.any_eq_true, -List.all_eq_true, -List.any_eq_false, -List.all_eq_false, hkl]
    exact hq
  have efin : ((lgOf lot fs log hl).gt log.length).1.map (fun k => enD (atE log k)) = (subE (lgOf lot fs log hl) log A).map enD := by
    unfold subE
    rw [List.map_map, ← hA, hsame]
    rfl
  rw [efin]
  simp [-dSeq, -List.getD_eq_getElem?_getD, -dIx, -dCut, -dIn, -dEq, -dNe, -dM, -dLen, -List.any_eq_true, -List.all_eq_true, -List.any_eq_false, -List.all_eq_false]
  rw [show PyData.tuple ((subE (lgOf lot fs log hl) log A).map enD) = logD (subE (lgOf lot fs log hl) log A) from rfl]
  simpa [-List.getD_eq_getElem?_getD, -dIx, -dCut, -dIn, -dEq, -dNe, -dM, -dLen, -List.any_eq_true, -List.all_eq_true, -List.any_eq_false, -List.all_eq_false] using h
end
end W_k17

set_option Elab.async false
set_option linter.all false
set_option maxRecDepth 100000
set_option maxHeartbeats 4000000
/-! V17 (k17): knots are right; step by step. -/
namespace PL
open PySem VL PL.Plan
theorem atI_pl0 {v : List Nat} (h : 0 < v.length) : L2.atI (v.map fun (i : Nat) => PyData.int i) 0 = some (.int (v.getD 0 0 : Nat)) := atI_pl (i := 0) h
@[simp] theorem neEn (a b : En) {Q : PyData → Prop} : dNe (enD a) (enD b) Q = Q (.bool (!decide (a = b))) := by
  have ea := eqv_en a b
  simp [okD_en, ea]
@[simp] theorem addInt (a b : Int) (Q : PyData → Prop) : dAdd (.int a) (.int b) Q = Q (.int (a + b)) := rfl
@[simp] theorem addStr (a b : Str) (Q : PyData → Prop) : dAdd (.str a) (.str b) Q = (a.length + b.length ≤ sizeLine ∧ Q (.str (a ++ b))) := rfl
@[simp] theorem addLst (a b : List PyData) (Q : PyData → Prop) : dAdd (.list a) (.list b) Q = (a.length + b.length ≤ sizeLine ∧ Q (.list (a ++ b))) := rfl
@[simp] theorem addTup (a b : List PyData) (Q : PyData → Prop) : dAdd (.tuple a) (.tuple b) Q = (a.length + b.length ≤ sizeLine ∧ Q (.tuple (a ++ b))) := rfl
@[simp] theorem addDeT (x : De) (Q : PyData → Prop) : dAdd (deD x) (.tuple [.int 1]) Q = Q (enD (x, true)) := by simp [deD, en_t]
@[simp] theorem addDeF (x : De) (Q : PyData → Prop) : dAdd (deD x) (.tuple [.int (-1)]) Q = Q (enD (x, false)) := by simp [deD, en_f]
section
variable {L L' : Lg}
theorem Lg.gt_congr : ∀ n, (∀ k, k < n → L.u k = L'.u k ∧ (L.u k = true → L.f k = L'.f k) ∧ ∀ i, i < k → L.g i k = L'.g i k) → L.gt n = L'.gt n
  | 0, _ => rfl
  | n + 1, h => by
    have ih := Lg.gt_congr n fun k hk => h k (by omega)
    obtain ⟨h1, h2, h3⟩ := h n (by omega)
    rw [Lg.gt, Lg.gt, ← ih]
    have lt : ∀ i ∈ (L.gt n).1, i < n := fun i hi => by
      rw [(Lg.gt_ok (L := L) n).kept, List.mem_filter, List.mem_range] at hi
      exact hi.1
    unfold Lg.st
    rw [← h1]
    by_cases hu : L.u n = false
    · rw [if_pos hu, if_pos hu]
    · have hu' : L.u n = true := by simpa using hu
      rw [if_neg hu, if_neg hu, ← h2 hu']
      have e : ((L.gt n).1.any fun i => decide (L.f n < i) && L.g i n) = ((L.gt n).1.any fun i => decide (L.f n < i) && L'.g i n) := by
        rw [Bool.eq_iff_iff, List.any_eq_true, List.any_eq_true]
        constructor
        · rintro ⟨i, hi, h⟩; exact ⟨i, hi, by rw [← h3 i (lt i hi)]; exact h⟩
        · rintro ⟨i, hi, h⟩; exact ⟨i, hi, by rw [h3 i (lt i hi)]; exact h⟩
      rw [e]
end
section
variable {lot : List Plan} {fs : List (De × De)} {log : List En}
theorem log_take (hl : LogOk log) (m : Nat) : LogOk (log.take m) := ⟨hl.nd.sublist (List.take_sublist _ _), fun k x hk => by
  have hlt := (List.getElem?_eq_some_iff.mp hk).1
  rw [List.length_take] at hlt
  rw [List.getElem?_take_of_lt (by omega)] at hk
  obtain ⟨i, hi, hi2⟩ := hl.bh k x hk
  exact ⟨i, hi, by rw [List.getElem?_take_of_lt (by omega)]; exact hi2⟩⟩
theorem gt_take (hl : LogOk log) {m : Nat} (hm : m ≤ log.length) : (lgOf lot fs (log.take m) (log_take hl m)).gt (log.take m).length = (lgOf lot fs log hl).gt m := by
  have hlen : (log.take m).length = m := by rw [List.length_take]; omega
  rw [hlen]
  have ha : ∀ k, k < m → atE (log.take m) k = atE log k := fun k hk => by
    unfold atE
    rw [List.getElem?_take_of_lt hk]
  refine Lg.gt_congr m fun k hk => ⟨?_, fun hu => ?_, fun i hi => ?_⟩
  · show (!(atE (log.take m) k).2) = (!(atE log k).2)
    rw [ha k hk]
  · show (log.take m).idxOf ((atE (log.take m) k).1, true) = log.idxOf ((atE log k).1, true)
    have hu2 : (atE log k).2 = false := by
      have : (!(atE (log.take m) k).2) = true := hu
      rw [ha k hk] at this
      simpa using this
    rw [ha k hk]
    have fa := first_at hl (show k < log.length by omega) hu2
    have h1 : (log.take m)[log.idxOf ((atE log k).1, true)]? = some ((atE log k).1, true) := by
      rw [List.getElem?_take_of_lt (by omega), at_log (by omega), fa.2]
    exact idx_at (log_take hl m).nd h1
  · show gF lot fs (atE (log.take m) i).1 (atE (log.take m) k).1 = gF lot fs (atE log i).1 (atE log k).1
    rw [ha i (by omega), ha k hk]
/-- the first undoing kept -/
noncomputable def lostP (log : List En) (R : List Nat) : PyData := match (R.filter fun k => !(atE log k).2).head? with
  | some k => .int ((k + 1 : Nat) : Int)
  | none => .none
end
end PL
namespace W_k17
open PySem VL PL PL.Plan
section
variable {K : PySem.W.Frag} {Qd : PyData → Prop}
theorem l_knots_right {lot : List Plan} {fs : List (De × De)} {log : List En} (ho : LotOk lot) (hf : ∀ z ∈ fs, z.1.1 < z.2.1) (hl : LogOk log) (hx : ∀ e ∈ log, HasDeed lot e.1) (hn : log.length ≤ 1000) (h : Qd (.bool true)) : Cl (wp__law_knots_right K) [.d (lotD lot), .d (fiD fs), .d (logD log), .d (.list (NL ((lgOf lot fs log hl).gt log.length).1))] Qd := by
  refine ⟨rfl, ?_⟩
  unfold bd__law_knots_right
  refine seq_gen fun k1 e1 => ?_
  have hen : ∀ (ρ : Vn) (Q : List PyData → Prop), ρ[2]? = some (.sh (logD log)) → Q (enumD (log.map enD)) → dEnum (lCons (dVar 2) lNil) ρ Q := fun ρ Q hρ q => by simpa [logD, dVar, hρ] using q
  simp [-dSeq, -List.getD_eq_getElem?_getD, -dIx, -dCut, -dIn, -dEq, -dNe, -dM, -dLen, -dAdd, -List.any_eq_true, -List.all_eq_true, -List.any_eq_false, -List.all_eq_false, env0, -dEnum]
  refine hen _ _ rfl ?_
  refine forPassE enD (fun ρ => ∃ s4 s5 s6 : Slot, ρ = [.sh (lotD lot), .sh (fiD fs), .sh (logD log), .sh (.list (NL ((lgOf lot fs log hl).gt log.length).1)), s4, s5, s6]) ⟨_, _, _, rfl⟩ (fun k e hk ρ hP D' e3 e4 hD => ?_) fun ρ hP => ?_
  · obtain ⟨s4, s5, s6, rfl⟩ := hP
    have hkl := (List.getElem?_eq_some_iff.mp hk).1
    have hae : atE log k = e := atE_eq hk
    have nx := fun s4 s5 s6 => (hD _ ⟨s4, s5, s6, rfl⟩).1
    subst hae
    simp [-dSeq, -List.getD_eq_getElem?_getD, -dIx, -dCut, -dIn, -dEq, -dNe, -dM, -dLen, -dAdd, -List.any_eq_true, -List.all_eq_true, -List.any_eq_false, -List.all_eq_false]
    refine seq_gen fun k2 e2 => ?_
    simp [-dSeq, -List.getD_eq_getElem?_getD, -dIx, -dCut, -dIn, -dEq, -dNe, -dM, -dLen, -dAdd, -List.any_eq_true, -List.all_eq_true, -List.any_eq_false, -List.all_eq_false]
    refine s_knot ho hf hl hx hn hkl (fun hc => ?_) (fun c1 c2 v kn hv => ?_)
    · subst e2
      by_cases hb : (atE log k).2 = true
      · simp [-dSeq, -List.getD_eq_getElem?_getD, -dIx, -dCut, -dIn, -dEq, -dNe, -dM, -dLen, -dAdd, -List.any_eq_true, -List.all_eq_true, -List.any_eq_false, -List.all_eq_false, hb, isNoneD]
        simpa [-List.getD_eq_getElem?_getD, -dIx, -dCut, -dIn, -dEq, -dNe, -dM, -dLen, -dAdd, -List.any_eq_true, -List.all_eq_true, -List.any_eq_false, -List.all_eq_false] using nx _ _ _
      · simp [-dSeq, -List.getD_eq_getElem?_getD, -dIx, -dCut, -dIn, -dEq, -dNe, -dM, -dLen, -dAdd, -List.any_eq_true, -List.all_eq_true, -List.any_eq_false, -List.all_eq_false, hb]
        refine inNatL ?_
        have : k ∉ ((lgOf lot fs log hl).gt log.length).1 := hc.resolve_left hb
        simp [-dSeq, -List.getD_eq_getElem?_getD, -dIx, -dCut, -dIn, -dEq, -dNe, -dM, -dLen, -dAdd, -List.any_eq_true, -List.all_eq_true, -List.any_eq_false, -List.all_eq_false, this, isNoneD]
        simpa [-List.getD_eq_getElem?_getD, -dIx, -dCut, -dIn, -dEq, -dNe, -dM, -dLen, -dAdd, -List.any_eq_true, -List.all_eq_true, -List.any_eq_false, -List.all_eq_false] using nx _ _ _
    · subst e2
      simp [-dSeq, -List.getD_eq_getElem?_getD, -dIx, -dCut, -dIn, -dEq, -dNe, -dM, -dLen, -dAdd, -List.any_eq_true, -List.all_eq_true, -List.any_eq_false, -List.all_eq_false, c1]
      refine inNatL ?_
      simp [-dSeq, -List.getD_eq_getElem?_getD, -dIx, -dCut, -dIn, -dEq, -dNe, -dM, -dLen, -dAdd, -List.any_eq_true, -List.all_eq_true, -List.any_eq_false, -List.all_eq_false, c2]
      refine l_knot_fault ho hl hx hn kn ?_
      have hl0 : 0 < v.length := by have := kn.len; omega
      have fa := first_at hl hkl c1
      have hlt : v.getD 0 0 < log.length := kn.lt _ (getD_mem hl0)
      simp [-dSeq, -List.getD_eq_getElem?_getD, -dIx, -dCut, -dIn, -dEq, -dNe, -dM, -dLen, -dAdd, -List.any_eq_true, -List.all_eq_true, -List.any_eq_false, -List.all_eq_false, isNoneD, atI_pl0 hl0, hlt]
      have e9 : atE log (v.getD 0 0) = ((atE log k).1, true) := by rw [hv, fa.2]
      rw [e9]
      simp [-dSeq, -List.getD_eq_getElem?_getD, -dIx, -dCut, -dIn, -dEq, -dNe, -dM, -dLen, -dAdd, -List.any_eq_true, -List.all_eq_true, -List.any_eq_false, -List.all_eq_false, isNoneD]
      refine s_judge_knot ho hf hl hx hn kn ?_
      simp [-dSeq, -List.getD_eq_getElem?_getD, -dIx, -dCut, -dIn, -dEq, -dNe, -dM, -dLen, -dAdd, -List.any_eq_true, -List.all_eq_true, -List.any_eq_false, -List.all_eq_false, isNoneD]
      simpa [-List.getD_eq_getElem?_getD, -dIx, -dCut, -dIn, -dEq, -dNe, -dM, -dLen, -dAdd, -List.any_eq_true, -List.all_eq_true, -List.any_eq_false, -List.all_eq_false] using nx _ _ _
  · obtain ⟨s4, s5, s6, rfl⟩ := hP
    subst e1
    simpa [-List.getD_eq_getElem?_getD, -dIx, -dCut, -dIn, -dEq, -dNe, -dM, -dLen, -dAdd, -List.any_eq_true, -List.all_eq_true, -List.any_eq_false, -List.all_eq_false] using h
theorem lostP_step {log : List En} {R : List Nat} {k : Nat} (hb : (atE log k).2 = false) : lostP log (R ++ [k]) = (match lostP log R with | .none => .int ((k + 1 : Nat) : Int) | d => d) := by
  unfold lostP
  rw [List.filter_append, List.head?_append]
  cases h : (R.filter fun k => !(atE log k).2).head? with
  | none => simp [hb]
  | some j => simp
theorem lostP_same {log : List En} {R : List Nat} {k : Nat} (hb : (atE log k).2 = true) : lostP log (R ++ [k]) = lostP log R := by
  unfold lostP
  rw [List.filter_append]
  simp [hb]
theorem lostP_erase {log : List En} {R : List Nat} {k : Nat} (hn : R.Nodup) (hb : (atE log k).2 = true) : lostP log (R.erase k) = lostP log R := by
  unfold lostP
  rw [hn.erase_eq_filter, List.filter_filter]
  have : R.filter (fun a => !(atE log a).2 && a != k) = R.filter fun a => !(atE log a).2 := List.filter_congr fun x _ => by
    by_cases e : x = k
    · simp [e, hb]
    · simp [e]
  rw [this]
theorem l_steps_right {lot : List Plan} {fs : List (De × De)} {log : List En} (ho : LotOk lot) (hf : ∀ z ∈ fs, z.1.1 < z.2.1) (hl : LogOk log) (hx : ∀ e ∈ log, HasDeed lot e.1) (hn : log.length ≤ 1000) (h : Qd (.bool true)) : Cl (wp__law_steps_right K) [.d (lotD lot), .d (fiD fs), .d (logD log)] Qd := by
  refine ⟨rfl, ?_⟩
  unfold bd__law_steps_right
  have hen : ∀ (ρ : Vn) (Q : List PyData → Prop), ρ[2]? = some (.sh (logD log)) → Q (enumD (log.map enD)) → dEnum (lCons (dVar 2) lNil) ρ Q := fun ρ Q hρ q => by simpa [logD, dVar, hρ] using q
  have gtk : ∀ m, m ≤ log.length → (lgOf lot fs (log.take m) (log_take hl m)).gt (log.take m).length = (lgOf lot fs log hl).gt m := fun m hm => gt_take (lot := lot) (fs := fs) hl hm
  have hu : ∀ k, (lgOf lot fs log hl).u k = !(atE log k).2 := fun k => rfl
  have hfk : ∀ k, (lgOf lot fs log hl).f k = log.idxOf ((atE log k).1, true) := fun k => rfl
  have hg : ∀ i j, (lgOf lot fs log hl).g i j = gF lot fs (atE log i).1 (atE log j).1 := fun i j => rfl
  have lost := fun Q => s_lost_at (K := K) (Qd := Q) ho hf hl hx hn
  generalize lgOf lot fs log hl = L at *
  refine seq_gen fun k1 e1 => ?_
  simp [-dSeq, -List.getD_eq_getElem?_getD, -dIx, -dCut, -dIn, -dEq, -dNe, -dM, -dLen, -dAdd, -List.any_eq_true, -List.all_eq_true, -List.any_eq_false, -List.all_eq_false, env0]
  subst e1
  refine seq_gen fun k2 e2 => ?_
  simp [-dSeq, -List.getD_eq_getElem?_getD, -dIx, -dCut, -dIn, -dEq, -dNe, -dM, -dLen, -dAdd, -List.any_eq_true, -List.all_eq_true, -List.any_eq_false, -List.all_eq_false, -dEnum]
  refine hen _ _ rfl ?_
  refine forE_0 enD (fun i r ρ => ∃ (done : List En) (s5 s6 s7 s8 : Slot), log = done ++ r ∧ done.length = i ∧ ρ = [.sh (lotD lot), .sh (fiD fs), .sh (logD log), .sh (.list (NL (L.gt i).1)), .sh (lostP log (L.gt i).1), s5, s6, s7, s8]) ⟨[], .un, .un, .un, .un, rfl, rfl, rfl⟩ (fun k e r ρ hP D' e4 e5 hD => ?_) fun k ρ hP => ?_
  · obtain ⟨done, s5, s6, s7, s8, ed, ei, rfl⟩ := hP
    have hek : log[k]? = some e := by rw [ed, ← ei]; simp
    have hkl : k < log.length := (List.getElem?_eq_some_iff.mp hek).1
    have hae : atE log k = e := atE_eq hek
    have ok := Lg.gt_ok (L := L) k
    have ltk : ∀ i ∈ (L.gt k).1, i < k := fun i hi => by
      rw [ok.kept, List.mem_filter, List.mem_range] at hi
      exact hi.1
    have nx := fun s5 s6 s7 s8 => (hD _ ⟨done ++ [e], s5, s6, s7, s8, by rw [ed]; simp, by simp [ei], rfl⟩).1
    have hgt : L.gt (k + 1) = L.st (L.gt k) k := rfl
    subst hae
    have fin : ∀ (k5 : DS) s7 s8, k5 = dIf (dTst (dOp (dNe) (dB (dRepr) (lCons (dCall ((wp_rest) K) (aCons (dVar 0) (aCons (dVar 1) (aCons (dSl dCut (dVar 2) oNo (oYes (dOp dAdd (dVar 5) (dC (.int 1))))) (aNil))))) (lNil))) (dB (dRepr) (lCons (dB (dTuple) (lCons (dVar 3) (lNil))) (lNil))))) (dRet (dC (.bool false))) (dNext) →
        k5 D' [.sh (lotD lot), .sh (fiD fs), .sh (logD log), .sh (.list (NL (L.gt (k + 1)).1)), .sh (lostP log (L.gt (k + 1)).1), .sh (.int (k : Nat)), .sh (enD (atE log k)), s7, s8] := fun k5 s7 s8 e9 => by
      subst e9
      have hcut : ∀ Q : PyData → Prop, Q (logD (log.take (k + 1))) → dCut (logD log) none (some ((k : Int) + 1)) Q := fun Q q => by
        rw [show ((k : Int) + 1) = ((k + 1 : Nat) : Int) by omega]
        unfold logD
        rw [cutTu, cutL_to, ← List.map_take]
        exact q
      simp [-dSeq, -List.getD_eq_getElem?_getD, -dIx, -dCut, -dIn, -dEq, -dNe, -dM, -dLen, -dAdd, -List.any_eq_true, -List.all_eq_true, -List.any_eq_false, -List.all_eq_false, -dRepr]
      refine hcut _ ?_
      have g2 := gtk (k + 1) hkl
      have lenk : (log.take (k + 1)).length ≤ 1000 := by rw [List.length_take]; omega
      refine s_rest ho hf (log_take hl (k + 1)) (fun e he => hx e (List.mem_of_mem_take he)) lenk ?_
      rw [g2]
      have nic : Nice 1 20003 (.tuple (NL (L.gt (k + 1)).1)) := by
        have ok2 := Lg.gt_ok (L := L) (k + 1)
        have len2 := (Lg.gt_len L (k + 1)).1
        refine nice_tuple (k := 0) (m := 20000) (niceL_map (c := 10) (m := 1000) (fun i hi => nice_nat ?_) (by omega) (by omega))
        rw [ok2.kept, List.mem_filter, List.mem_range] at hi
        omega
      refine nic.rep' (by omega) (by omega) ?_
      refine nic.rep' (by omega) (by omega) ?_
      simp [-dSeq, -List.getD_eq_getElem?_getD, -dIx, -dCut, -dIn, -dEq, -dNe, -dM, -dLen, -dAdd, -List.any_eq_true, -List.all_eq_true, -List.any_eq_false, -List.all_eq_false]
      exact nx _ _ _ _
    simp [-dSeq, -List.getD_eq_getElem?_getD, -dIx, -dCut, -dIn, -dEq, -dNe, -dM, -dLen, -dAdd, -List.any_eq_true, -List.all_eq_true, -List.any_eq_false, -List.all_eq_false]
    refine seq_gen fun k3 e3 => ?_
    simp [-dSeq, -List.getD_eq_getElem?_getD, -dIx, -dCut, -dIn, -dEq, -dNe, -dM, -dLen, -dAdd, -List.any_eq_true, -List.all_eq_true, -List.any_eq_false, -List.all_eq_false]
    have dn : (L.gt k).1.Nodup := by
      rw [ok.kept]
      exact List.nodup_range.filter _
    cases hb : (atE log k).2 with
    | true =>
      have hst : L.gt (k + 1) = ((L.gt k).1 ++ [k], (L.gt k).2) := by rw [hgt, Lg.st, if_pos (by rw [hu, hb]; rfl)]
      refine lcD_fn (fun i : Nat => PyData.int i) (fun _ => false) (fun i => .int i) (L.gt k).1 [] (fun i hi q hq => ?_) ?_
      · simp [-dSeq, -List.getD_eq_getElem?_getD, -dIx, -dCut, -dIn, -dEq, -dNe, -dM, -dLen, -dAdd, -List.any_eq_true, -List.all_eq_true, -List.any_eq_false, -List.all_eq_false, hb]
        simpa using hq
      subst e3
      refine seq_gen fun k4 e6 => ?_
      simp [-dSeq, -List.getD_eq_getElem?_getD, -dIx, -dCut, -dIn, -dEq, -dNe, -dM, -dLen, -dAdd, -List.any_eq_true, -List.all_eq_true, -List.any_eq_false, -List.all_eq_false, hb]
      have len1 := (Lg.gt_len L k).1
      simp only [dSeq]
      simp [-dSeq, -List.getD_eq_getElem?_getD, -dIx, -dCut, -dIn, -dEq, -dNe, -dM, -dLen, -dAdd, -List.any_eq_true, -List.all_eq_true, -List.any_eq_false, -List.all_eq_false, hb]
      refine ⟨by omega, ?_⟩
      have := fun s7 => fin k4 s7 s8 e6
      rw [hst, lostP_same hb] at this
      simpa [-List.getD_eq_getElem?_getD, -dIx, -dCut, -dIn, -dEq, -dNe, -dM, -dLen, -dAdd, -List.any_eq_true, -List.all_eq_true, -List.any_eq_false, -List.all_eq_false] using this _
    | false =>
      have fa := first_at hl hkl hb
      have hm1 : ((atE log k).1, true) ∈ log := by rw [← fa.2]; exact at_mem (by omega)
      have huk : ¬ L.u k = false := by rw [hu, hb]; simp
      refine lcD_fn (fun i : Nat => PyData.int i) (fun i => decide (L.f k < i)) (fun i => .int i) (L.gt k).1 [] (fun i hi q hq => ?_) ?_
      · simp [-dSeq, -List.getD_eq_getElem?_getD, -dIx, -dCut, -dIn, -dEq, -dNe, -dM, -dLen, -dAdd, -List.any_eq_true, -List.all_eq_true, -List.any_eq_false, -List.all_eq_false, hb]
        refine idxLog hm1 rfl (fun q hq => by
          simp [-dSeq, -List.getD_eq_getElem?_getD, -dIx, -dCut, -dIn, -dEq, -dNe, -dM, -dLen, -dAdd, -List.any_eq_true, -List.all_eq_true, -List.any_eq_false, -List.all_eq_false]
          exact hq) ?_
        rw [← hfk]
        by_cases c : L.f k < i
        · simpa [c] using hq
        · simpa [c] using hq
      subst e3
      refine seq_gen fun k4 e6 => ?_
      simp [-dSeq, -List.getD_eq_getElem?_getD, -dIx, -dCut, -dIn, -dEq, -dNe, -dM, -dLen, -dAdd, -List.any_eq_true, -List.all_eq_true, -List.any_eq_false, -List.all_eq_false, hb, -dAny]
      refine lcD_map (fun i : Nat => PyData.int i) (fun i => .bool (L.g i k)) _ (fun i hi q hq => ?_) ?_
      · have hil := ltk i (List.mem_filter.mp hi).1
        have hil2 : i < log.length := by omega
        simp [-dSeq, -List.getD_eq_getElem?_getD, -dIx, -dCut, -dIn, -dEq, -dNe, -dM, -dLen, -dAdd, -List.any_eq_true, -List.all_eq_true, -List.any_eq_false, -List.all_eq_false, hil2]
        exact l_fight ho (hx _ (at_mem hil2)) (hx _ (at_mem hkl)) (by rw [hg] at hq; exact hq)
      refine anyMap ?_
      have eany : ((L.gt k).1.filter fun i => decide (L.f k < i)).any (fun i => L.g i k) = (L.gt k).1.any fun i => decide (L.f k < i) && L.g i k := by rw [List.any_filter]
      rw [eany]
      by_cases hany : ((L.gt k).1.any fun i => decide (L.f k < i) && L.g i k) = true
      · have hst : L.gt (k + 1) = ((L.gt k).1 ++ [k], (L.gt k).2) := by rw [hgt, Lg.st, if_neg huk, if_pos hany]
        simp [-dSeq, -List.getD_eq_getElem?_getD, -dIx, -dCut, -dIn, -dEq, -dNe, -dM, -dLen, -dAdd, -List.any_eq_true, -List.all_eq_true, -List.any_eq_false, -List.all_eq_false, hany]
        have len1 := (Lg.gt_len L k).1
        have this := fun s7 => fin k4 s7 s8 e6
        rw [hst, lostP_step hb] at this
        simp only [dSeq]
        simp [-dSeq, -List.getD_eq_getElem?_getD, -dIx, -dCut, -dIn, -dEq, -dNe, -dM, -dLen, -dAdd, -List.any_eq_true, -List.all_eq_true, -List.any_eq_false, -List.all_eq_false, hb]
        refine ⟨by omega, ?_⟩
        cases hlo : lostP log (L.gt k).1 with
        | none =>
          rw [hlo] at this
          simp [-dSeq, -List.getD_eq_getElem?_getD, -dIx, -dCut, -dIn, -dEq, -dNe, -dM, -dLen, -dAdd, -List.any_eq_true, -List.all_eq_true, -List.any_eq_false, -List.all_eq_false, isNoneD]
          simpa [-List.getD_eq_getElem?_getD, -dIx, -dCut, -dIn, -dEq, -dNe, -dM, -dLen, -dAdd, -List.any_eq_true, -List.all_eq_true, -List.any_eq_false, -List.all_eq_false] using this _
        | int j =>
          rw [hlo] at this
          simp [-dSeq, -List.getD_eq_getElem?_getD, -dIx, -dCut, -dIn, -dEq, -dNe, -dM, -dLen, -dAdd, -List.any_eq_true, -List.all_eq_true, -List.any_eq_false, -List.all_eq_false, isNoneD]
          simpa [-List.getD_eq_getElem?_getD, -dIx, -dCut, -dIn, -dEq, -dNe, -dM, -dLen, -dAdd, -List.any_eq_true, -List.all_eq_true, -List.any_eq_false, -List.all_eq_false] using this _
        | _ =>
          unfold lostP at hlo
          split at hlo <;> cases hlo
      · have hst : L.gt (k + 1) = ((L.gt k).1.erase (L.f k), (L.gt k).2 ++ [k]) := by rw [hgt, Lg.st, if_neg huk, if_neg hany]
        simp [-dSeq, -List.getD_eq_getElem?_getD, -dIx, -dCut, -dIn, -dEq, -dNe, -dM, -dLen, -dAdd, -List.any_eq_true, -List.all_eq_true, -List.any_eq_false, -List.all_eq_false, hany]
        refine lcD_fn (fun i : Nat => PyData.int i) (fun i => !decide ((atE log i).1 = (atE log k).1)) (fun i => .int i) (L.gt k).1 [] (fun i hi q hq => ?_) ?_
        · have hil2 : i < log.length := by have := ltk i hi; omega
          simp [-dSeq, -List.getD_eq_getElem?_getD, -dIx, -dCut, -dIn, -dEq, -dNe, -dM, -dLen, -dAdd, -List.any_eq_true, -List.all_eq_true, -List.any_eq_false, -List.all_eq_false, hil2]
          by_cases c : (atE log i).1 = (atE log k).1
          · simpa [c] using hq
          · simpa [c] using hq
        have efil : (L.gt k).1.filter (fun i => !decide ((atE log i).1 = (atE log k).1)) = (L.gt k).1.erase (L.f k) := by
          rw [dn.erase_eq_filter]
          refine List.filter_congr fun i hi => ?_
          have hik := ltk i hi
          rw [hfk]
          by_cases c : (atE log i).1 = (atE log k).1
          · have : i = log.idxOf ((atE log k).1, true) := by
              cases hbi : (atE log i).2 with
              | true => exact at_uniq hl.nd (by omega) (by omega) (by rw [fa.2]; exact Prod.ext c hbi)
              | false => have := at_uniq hl.nd (show i < log.length by omega) hkl (Prod.ext c (hbi.trans hb.symm)); omega
            simp [c, ← this]
          · have : ¬ i = log.idxOf ((atE log k).1, true) := fun z => c (by rw [z, fa.2])
            simp [c, this]
        rw [efil]
        have := fun s7 => fin k4 s7 s8 e6
        rw [hst, lostP_erase dn (by rw [hfk, fa.2])] at this
        simpa [-List.getD_eq_getElem?_getD, -dIx, -dCut, -dIn, -dEq, -dNe, -dM, -dLen, -dAdd, -List.any_eq_true, -List.all_eq_true, -List.any_eq_false, -List.all_eq_false] using this _
  · obtain ⟨done, s5, s6, s7, s8, ed, ei, rfl⟩ := hP
    have : log = done := by simpa using ed
    subst this
    subst e2
    rw [← ei]
    simp [-dSeq, -List.getD_eq_getElem?_getD, -dIx, -dCut, -dIn, -dEq, -dNe, -dM, -dLen, -dAdd, -List.any_eq_true, -List.all_eq_true, -List.any_eq_false, -List.all_eq_false, -dRepr]
    refine lost _ ?_
    have nic : ∀ R : List Nat, (∀ i ∈ R, i < 1000) → Nice 0 10 (lostP log R) := fun R hR => by
      unfold lostP
      cases hh : (R.filter fun k => !(atE log k).2).head? with
      | none => exact nice_none.mono (by omega) (by omega)
      | some j =>
        have := hR j (List.mem_filter.mp (List.mem_of_head? hh)).1
        exact nice_nat (i := j + 1) (by omega)
    have ni := nic (L.gt log.length).1 (fun i hi => by
      rw [(Lg.gt_ok (L := L) log.length).kept, List.mem_filter, List.mem_range] at hi
      omega)
    refine ni.rep' (by omega) (by omega) ?_
    refine ni.rep' (by omega) (by omega) ?_
    simp [-dSeq, -List.getD_eq_getElem?_getD, -dIx, -dCut, -dIn, -dEq, -dNe, -dM, -dLen, -dAdd, -List.any_eq_true, -List.all_eq_true, -List.any_eq_false, -List.all_eq_false]
    exact h
end
end W_k17

set_option Elab.async false
set_option linter.all false
set_option maxRecDepth 100000
set_option maxHeartbeats 4000000
/-! V18 (k17): drawn plans and lots. -/
namespace PL
open PySem VL PL.Plan
inductive All2 {α β : Type} (R : α → β → Prop) : List α → List β → Prop
  | nil : All2 R [] []
  | cons {x : α} {y : β} {xs : List α} {ys : List β} : R x y → All2 R xs ys → All2 R (x :: xs) (y :: ys)
/-- a comprehension whose items are drawn -/
theorem lcD_rel {α β : Type} (enc : α → PyData) (f : β → PyData) (R : α → β → Prop) {g : DG} {te : DE} {ρ : Vn} {Q : PyData → Prop} : ∀ (xs : List α) (acc : List PyData),
    (∀ x ∈ xs, ∀ k : PyData → Prop, (∀ y, R x y → k (f y)) → g (enc x) ρ fun ρ1 => te ρ1 k) →
    (∀ ys : List β, All2 R xs ys → Q (.list (acc ++ ys.map f))) → lcD g dYes te ρ (xs.map enc) acc Q
  | [], acc, _, h => by simpa using h [] .nil
  | x :: xs, acc, hs, h => by
    have := hs x (List.mem_cons_self ..) (fun y => lcD g dYes te ρ (xs.map enc) (acc ++ [y]) Q) fun y hy => ?_
    · simpa using this
    · refine lcD_rel enc f R xs _ (fun z hz => hs z (List.mem_cons_of_mem _ hz)) fun ys h2 => ?_
      have := h (y :: ys) (.cons hy h2)
      simpa using this
theorem keyLe_int (a b : Int) : keyLe (.int a) (.int b) = decide (a ≤ b) := by
  exact congrFun (congrFun (PySem.W.dataLe_int (fun b : Int => b)) a) b
theorem plain_ints : ∀ xs : List Int, PyData.plainAll (xs.map .int) = true
  | [] => rfl
  | x :: xs => by simp [plain_ints xs]
theorem sorted_ints {xs : List Int} {Q : PyData → Prop} (h : ∀ ys : List Int, ys.Perm xs → ys.Pairwise (· ≤ ·) → Q (.list (ys.map .int))) : dSorted [.list (xs.map .int)] Q := by
  have e := List.map_mergeSort (r := fun a b : Int => decide (a ≤ b)) (s := keyLe) (f := PyData.int) (l := xs) (fun a _ b _ => (keyLe_int a b).symm)
  refine ⟨plain_ints xs, PySem.W.AllAlike.of fun a b => by simp [PySem.W.alike], PySem.W.Sortable.others fun b => ⟨by simp, by simp⟩, ?_, ?_⟩
  · have := PySem.W.depth_ints xs
    omega
  · rw [← e]
    refine h _ (List.mergeSort_perm _ _) ?_
    have := List.pairwise_mergeSort (le := fun a b : Int => decide (a ≤ b)) (fun a b c h1 h2 => by simp at h1 h2 ⊢; omega) (fun a b => by simp; omega) xs
    simpa using this
theorem cutL_nat {α : Type} (xs : List α) (a b : Nat) (ha : a ≤ xs.length) (hb : b ≤ xs.length) : cutL xs (some (a : Int)) (some (b : Int)) = (xs.drop a).take (b - a) := by
  unfold cutL
  rw [HT.sIx_nat, HT.sIx_nat, Nat.min_eq_left ha, Nat.min_eq_left hb]
end PL
namespace PL
open PySem VL PL.Plan
/-- between cuts -/
def cutP : Nat → List Nat → Nat → List (Nat × Nat)
  | low, [], n => [(low, n)]
  | low, c :: cs, n => (low, c) :: cutP c cs n
theorem cutP_zip : ∀ (low : Nat) (cs : List Nat) (n : Nat), zipD ((low :: cs).map fun (i : Nat) => PyData.int i) ((cs ++ [n]).map fun (i : Nat) => PyData.int i) = (cutP low cs n).map fun z => .tuple [.int (z.1 : Nat), .int (z.2 : Nat)]
  | low, [], n => rfl
  | low, c :: cs, n => by
    have := cutP_zip c cs n
    unfold zipD at this ⊢
    rw [List.map_cons, List.cons_append, List.map_cons (l := cs ++ [n]), List.zipWith_cons_cons, this]
    rfl
def partsOf {α : Type} (ns : List α) (low : Nat) (cs : List Nat) : List (List α) := (cutP low cs ns.length).map fun z => (ns.drop z.1).take (z.2 - z.1)
theorem parts_flat {α : Type} (ns : List α) : ∀ (low : Nat) (cs : List Nat), (low :: cs).Pairwise (· < ·) → (∀ c ∈ low :: cs, c < ns.length) → (partsOf ns low cs).flatten = ns.drop low ∧ ∀ p ∈ partsOf ns low cs, p ≠ []
  | low, [], _, hb => by
    have := hb low (by simp)
    have e : (ns.drop low).take (ns.length - low) = ns.drop low := List.take_of_length_le (by simp)
    refine ⟨by simp [partsOf, cutP, e], fun p hp => ?_⟩
    simp [partsOf, cutP, e] at hp
    rw [hp]
    intro z
    rw [List.drop_eq_nil_iff] at z
    omega
  | low, c :: cs, hs, hb => by
    obtain ⟨h1, h2⟩ := List.pairwise_cons.mp hs
    have hc := h1 c (by simp)
    have hcl := hb c (by simp)
    obtain ⟨ih1, ih2⟩ := parts_flat ns c cs h2 fun x hx => hb x (List.mem_cons_of_mem _ hx)
    have e : partsOf ns low (c :: cs) = (ns.drop low).take (c - low) :: partsOf ns c cs := rfl
    rw [e]
    refine ⟨?_, fun p hp => ?_⟩
    · rw [List.flatten_cons, ih1]
      have : ns.drop c = (ns.drop low).drop (c - low) := by rw [List.drop_drop]; congr 1; omega
      rw [this, List.take_append_drop]
    · rcases List.mem_cons.mp hp with z | z
      · rw [z]
        intro z2
        have := congrArg List.length z2
        simp at this
        omega
      · exact ih2 p z
theorem parts_len {α : Type} (ns : List α) : ∀ (low : Nat) (cs : List Nat), (partsOf ns low cs).length = cs.length + 1
  | low, [] => rfl
  | low, c :: cs => by
    have := parts_len ns c cs
    show (partsOf ns c cs).length + 1 = _
    rw [this]; rfl
abbrev SL (xs : List Str) : PyData := .list (xs.map .str)
theorem All2.names {ns : List (List Str)} {ms : List Plan} {d : Nat} (h : All2 (fun (part : List Str) (p : Plan) => Plan.names p = part ∧ height p ≤ d ∧ nodes p ≤ part.length * d) ns ms) : (ms.map Plan.names).flatten = ns.flatten ∧ heightL ms ≤ d ∧ nodesL ms ≤ ns.flatten.length * d := by
  induction h with
  | nil => simp [heightL, nodesL]
  | cons a r ih =>
    obtain ⟨i1, i2, i3⟩ := ih
    obtain ⟨a1, a2, a3⟩ := a
    refine ⟨by simp [a1, i1], by rw [heightL]; omega, ?_⟩
    rw [nodesL, List.flatten_cons, List.length_append, Nat.add_mul]
    omega
end PL
namespace W_k17
open PySem VL PL PL.Plan
section
variable {K : PySem.W.Frag} {Qd : PyData → Prop}
theorem l_of {α : Type} {f : α → PyData} {xs : List α} (hne : xs ≠ []) (hm : xs.length < 1000000) (h : ∀ x ∈ xs, Qd (f x)) : Cl (wp__law_of K) [.s, .d (.list (xs.map f))] Qd := by
  refine ⟨rfl, ?_⟩
  simp [-dSeq, -List.getD_eq_getElem?_getD, -dIx, -dCut, -dIn, -dEq, -dNe, -dM, -dLen, -dAdd, -List.any_eq_true, -List.all_eq_true, -List.any_eq_false, -List.all_eq_false, bd__law_of, env0]
  refine l_pick (by omega) fun r h0 h1 => ?_
  have hlen : 0 < xs.length := List.length_pos_iff.mpr hne
  obtain ⟨x, hx, e⟩ := atI_map (f := f) (xs := xs) h0 (by omega)
  simp [-dSeq, -List.getD_eq_getElem?_getD, -dIx, -dCut, -dIn, -dEq, -dNe, -dM, -dLen, -dAdd, -List.any_eq_true, -List.all_eq_true, -List.any_eq_false, -List.all_eq_false, e]
  exact h x hx
theorem l_chunks {ns : List Str} {m : Nat} (h1 : 1 ≤ m) (h2 : m ≤ ns.length) (hm : ns.length < 1000) (h : ∀ ps : List (List Str), ps.flatten = ns → (∀ p ∈ ps, p ≠ []) → ps.length = m → Qd (.list (ps.map SL))) : Cl (wp__law_chunks K) [.s, .d (SL ns), .d (.int (m : Nat))] Qd := by
  refine ⟨rfl, ?_⟩
  unfold bd__law_chunks
  refine seq_gen fun k1 e1 => ?_
  simp [-dSeq, -List.getD_eq_getElem?_getD, -dIx, -dCut, -dIn, -dEq, -dNe, -dM, -dLen, -dAdd, -List.any_eq_true, -List.all_eq_true, -List.any_eq_false, -List.all_eq_false, env0, -dSorted]
  refine ⟨by unfold L2.RgOk; simp; omega, ?_⟩
  refine l_any_map (f := fun (i : Nat) => PyData.int (1 + (i : Int))) (xs := List.range (ns.length - 1)) (by simp; omega) fun ys hp => ?_
  simp [-dSeq, -List.getD_eq_getElem?_getD, -dIx, -dCut, -dIn, -dEq, -dNe, -dM, -dLen, -dAdd, -List.any_eq_true, -List.all_eq_true, -List.any_eq_false, -List.all_eq_false, -dSorted]
  have em : ((m : Int) - 1) = ((m - 1 : Nat) : Int) := by omega
  rw [em, cutL_to, ← List.map_take]
  have ei : (ys.take (m - 1)).map (fun (i : Nat) => PyData.int (1 + (i : Int))) = ((ys.take (m - 1)).map fun (i : Nat) => (1 + (i : Int))).map .int := by rw [List.map_map]; rfl
  rw [ei]
  have hyl : ys.length = ns.length - 1 := by have := hp.length_eq; simpa using this
  have hyn : ys.Nodup := hp.nodup_iff.mpr List.nodup_range
  refine sorted_ints fun zs hz hs => ?_
  obtain ⟨cs, rfl, hcs⟩ := perm_map (f := fun (i : Nat) => (1 + (i : Int))) hz
  have hcn : cs.Nodup := hcs.nodup_iff.mpr (hyn.sublist (List.take_sublist _ _))
  have hcl : cs.length = m - 1 := by have := hcs.length_eq; rw [this, List.length_take]; omega
  have hcm : ∀ c ∈ cs, c < ns.length - 1 := fun c hc => List.mem_range.mp (hp.mem_iff.mp (List.mem_of_mem_take (hcs.mem_iff.mp hc)))
  have hss : (cs.map (· + 1)).Pairwise (· < ·) := by
    rw [List.pairwise_map] at hs ⊢
    refine (hs.and hcn).imp fun {a b} hab => ?_
    have := hab.1
    have := hab.2
    omega
  have ecs : (cs.map fun (i : Nat) => (1 + (i : Int))).map PyData.int = (cs.map (· + 1)).map fun (i : Nat) => PyData.int i := by
    rw [List.map_map, List.map_map]
    refine List.map_congr_left fun c _ => ?_
    simp
    omega
  rw [ecs]
  subst e1
  have hb : ∀ c ∈ cs.map (· + 1), c < ns.length := fun c hc => by
    obtain ⟨x, hx, rfl⟩ := List.mem_map.mp hc
    have := hcm x hx
    omega
  have hlow : ∀ c ∈ cs.map (· + 1), 0 < c := fun c hc => by
    obtain ⟨x, hx, rfl⟩ := List.mem_map.mp hc
    omega
  have hcl2 : (cs.map (· + 1)).length = m - 1 := by rw [List.length_map, hcl]
  generalize cs.map (· + 1) = ds at *
  have hpw : (0 :: ds).Pairwise (· < ·) := List.pairwise_cons.mpr ⟨hlow, hss⟩
  have hpb : ∀ c ∈ 0 :: ds, c < ns.length := fun c hc => by
    rcases List.mem_cons.mp hc with z | z
    · omega
    · exact hb c z
  have pf := parts_flat ns 0 ds hpw hpb
  have pn := parts_len ns 0 ds
  have hzip := cutP_zip 0 ds ns.length
  have e5 : (PyData.int 0 :: ds.map fun (i : Nat) => PyData.int i) = (0 :: ds).map fun (i : Nat) => PyData.int i := rfl
  have e6 : (ds.map fun (i : Nat) => PyData.int i) ++ [PyData.int (ns.length : Nat)] = (ds ++ [ns.length]).map fun (i : Nat) => PyData.int i := by simp
  simp [-dSeq, -List.getD_eq_getElem?_getD, -dIx, -dCut, -dIn, -dEq, -dNe, -dM, -dLen, -dAdd, -List.any_eq_true, -List.all_eq_true, -List.any_eq_false, -List.all_eq_false]
  refine ⟨by omega, by omega, ?_⟩
  rw [e5, e6, hzip]
  have hmem : ∀ z ∈ cutP 0 ds ns.length, z.1 ≤ ns.length ∧ z.2 ≤ ns.length := by
    have key : ∀ (cs : List Nat) (low : Nat), low ≤ ns.length → (∀ c ∈ cs, c ≤ ns.length) → ∀ z ∈ cutP low cs ns.length, z.1 ≤ ns.length ∧ z.2 ≤ ns.length := by
      intro cs
      induction cs with
      | nil => intro low h1 _ z hz; simp [cutP] at hz; rw [hz]; exact ⟨h1, Nat.le_refl _⟩
      | cons c cs ih =>
        intro low h1 h2 z hz
        rcases List.mem_cons.mp hz with e | e
        · rw [e]; exact ⟨h1, h2 c (by simp)⟩
        · exact ih c (h2 c (by simp)) (fun x hx => h2 x (List.mem_cons_of_mem _ hx)) z e
    exact key ds 0 (Nat.zero_le _) fun c hc => Nat.le_of_lt (hb c hc)
  refine lcD_map (fun z : Nat × Nat => PyData.tuple [.int (z.1 : Nat), .int (z.2 : Nat)]) (fun z => SL ((ns.drop z.1).take (z.2 - z.1))) _ (fun z hz k hk => ?_) ?_
  · obtain ⟨a, b⟩ := hmem z hz
    simp [-dSeq, -List.getD_eq_getElem?_getD, -dIx, -dCut, -dIn, -dEq, -dNe, -dM, -dLen, -dAdd, -List.any_eq_true, -List.all_eq_true, -List.any_eq_false, -List.all_eq_false]
    rw [cutL_nat _ _ _ (by simpa using a) (by simpa using b), ← List.map_drop, ← List.map_take]
    exact hk
  · have := h (partsOf ns 0 ds) pf.1 pf.2 (by rw [pn, hcl2]; omega)
    unfold partsOf at this
    rw [List.map_map] at this
    simpa [Function.comp_def, -List.getD_eq_getElem?_getD, -dIx, -dCut, -dIn, -dEq, -dNe, -dM, -dLen, -dAdd, -List.any_eq_true, -List.all_eq_true, -List.any_eq_false, -List.all_eq_false] using this
end
end W_k17

set_option Elab.async false
set_option linter.all false
set_option maxRecDepth 100000
set_option maxHeartbeats 4000000
/-! V19 (k17): drawn plans, lots, fights. -/
namespace PL
open PySem VL PL.Plan
def exN (ns : List Str) : Nat := if ns.length = 1 then 1 else 2
theorem exN_le (ns : List Str) : exN ns ≤ 2 := by unfold exN; split <;> omega
@[simp] theorem exN_1 (x : Str) : exN [x] = 1 := rfl
/-- a drawn lot -/
structure LotD (lot : List Plan) : Prop where
  ht : ∀ p ∈ lot, height p ≤ 4
  nd : ∀ p ∈ lot, nodes p ≤ 24
  nm : ∀ p ∈ lot, (names p).Nodup
  ne : ∀ p ∈ lot, names p ≠ []
  len : lot.length ≤ 5
  show_ : ∀ p ∈ lot, ∀ n ∈ names p, (reprText n).length ≤ 5
theorem LotD.ok {lot : List Plan} (h : LotD lot) : LotOk lot := ⟨fun p hp => by have := h.ht p hp; omega, fun p hp => by have := h.nd p hp; omega, h.nm⟩
/-- the deeds of a lot -/
def lotDeeds (lot : List Plan) : List De := (lot.zipIdx.map fun z => (names z.1).map fun n => (z.2, n)).flatten
theorem mem_lotDeeds {lot : List Plan} {x : De} : x ∈ lotDeeds lot ↔ ∃ p, lot[x.1]? = some p ∧ x.2 ∈ names p := by
  unfold lotDeeds
  rw [List.mem_flatten]
  constructor
  · rintro ⟨l, hl, hx⟩
    obtain ⟨⟨p, i⟩, hz, rfl⟩ := List.mem_map.mp hl
    obtain ⟨n, hn, rfl⟩ := List.mem_map.mp hx
    exact ⟨p, List.mem_zipIdx_iff_getElem?.mp hz, hn⟩
  · rintro ⟨p, hp, hn⟩
    exact ⟨_, List.mem_map.mpr ⟨(p, x.1), List.mem_zipIdx_iff_getElem?.mpr hp, rfl⟩, List.mem_map.mpr ⟨x.2, hn, rfl⟩⟩
theorem has_lot {lot : List Plan} {x : De} (h : x ∈ lotDeeds lot) : HasDeed lot x := by
  obtain ⟨p, hp, hn⟩ := mem_lotDeeds.mp h
  obtain ⟨⟨n, k⟩, hk, e⟩ := List.mem_map.mp hn
  have e : n = x.2 := e
  subst e
  obtain ⟨q, hq⟩ := deed_leads hk
  exact ⟨p, q, k, hp, hq⟩
theorem nice_lotDeed {lot : List Plan} (h : LotD lot) {x : De} (hx : x ∈ lotDeeds lot) : DeNice x := by
  obtain ⟨p, hp, hn⟩ := mem_lotDeeds.mp hx
  have hm := List.mem_of_getElem? hp
  have := h.show_ p hm x.2 hn
  have := (List.getElem?_eq_some_iff.mp hp).1
  have := h.len
  exact ⟨by omega, by omega⟩
end PL
namespace W_k17
open PySem VL PL PL.Plan
section
variable {K : PySem.W.Frag} {Qd : PyData → Prop}
theorem l_any_plan : ∀ (n deep : Nat) (ns : List Str) (Qd : PyData → Prop), deep + exN ns + 1 ≤ n → ns ≠ [] → ns.length < 1000 → (∀ p, names p = ns → height p ≤ deep + exN ns → nodes p ≤ ns.length * (deep + exN ns) → Qd p.d) → Cl (wpR__law_any_plan K n 0) [.s, .d (SL ns), .d (.int (deep : Nat))] Qd
  | 0, deep, ns, Qd, h, _, _, _ => by omega
  | n + 1, deep, ns, Qd, hd, hne, hm, h => by
    refine ⟨rfl, ?_⟩
    have hlen : 0 < ns.length := List.length_pos_iff.mpr hne
    show bd__law_any_plan K (wpR__law_any_plan K n) (ctlS Qd) _
    unfold bd__law_any_plan
    have kinds : ∀ Q : PyData → Prop, (∀ k : Kd, Q (.str k.s)) → Cl (wp__law_of K) [.s, .d (.list [.str "undoable", .str "sure", .str "both", .str "neither"])] Q := fun Q q =>
      l_of (f := fun k : Kd => PyData.str k.s) (xs := [.undoable, .sure, .both, .neither]) (by simp) (by decide) fun k _ => q k
    have words2 : ∀ Q : PyData → Prop, (∀ w : Gw, Q (.str w.s)) → Cl (wp__law_of K) [.s, .d (.list [.str "row", .str "side"])] Q := fun Q q =>
      l_of (f := fun k : Gw => PyData.str k.s) (xs := [.row, .side]) (by simp) (by decide) fun k _ => q k
    have words4 : ∀ Q : PyData → Prop, (∀ w : Gw, Q (.str w.s)) → Cl (wp__law_of K) [.s, .d (.list [.str "row", .str "row", .str "side", .str "else"])] Q := fun Q q =>
      l_of (f := fun k : Gw => PyData.str k.s) (xs := [.row, .row, .side, .els]) (by simp) (by decide) fun k _ => q k
    refine seq_gen fun k1 e1 => ?_
    by_cases h1 : ns.length = 1
    · obtain ⟨x, rfl⟩ := List.length_eq_one_iff.mp h1
      have ret : Cl (wp__law_of K) [.s, .d (.list [.str "undoable", .str "sure", .str "both", .str "neither"])] fun d => Qd (.tuple [.str "deed", .str x, d]) := kinds _ fun k => h (deed x k) (by simp [names, deeds]) (by simp [height]) (by simp [nodes])
      have go : 0 < deep → k1 (ctlS Qd) [.so, .sh (SL [x]), .sh (.int (deep : Nat)), .un, .un, .un, .un] := fun hdp => by
        subst e1
        refine seq_gen fun k2 e2 => ?_
        simp [-dSeq, -List.getD_eq_getElem?_getD, -dIx, -dCut, -dIn, -dEq, -dNe, -dM, -dLen, -dAdd, -List.any_eq_true, -List.all_eq_true, -List.any_eq_false, -List.all_eq_false]
        refine words2 _ fun w => ?_
        have ed : ((deep : Int) - 1) = ((deep - 1 : Nat) : Int) := by omega
        rw [ed]
        refine l_any_plan n (deep - 1) [x] _ (by have := exN_1 x; omega) (by simp) (by simp) fun p a b c => ?_
        rw [exN_1] at b c
        have := h (grp w [p]) (by simp [names_grp, a]) (by simp [height, heightL]; omega) (by simp [nodes, nodesL] at c ⊢; omega)
        simpa [d_grp] using this
      by_cases h0 : deep = 0
      · subst h0
        simp [-dSeq, -List.getD_eq_getElem?_getD, -dIx, -dCut, -dIn, -dEq, -dNe, -dM, -dLen, -dAdd, -List.any_eq_true, -List.all_eq_true, -List.any_eq_false, -List.all_eq_false, env0]
        exact ret
      · have h02 : ¬ (deep : Int) = 0 := by omega
        simp [-dSeq, -List.getD_eq_getElem?_getD, -dIx, -dCut, -dIn, -dEq, -dNe, -dM, -dLen, -dAdd, -List.any_eq_true, -List.all_eq_true, -List.any_eq_false, -List.all_eq_false, env0, h02, h0]
        refine l_pick (by omega) fun r r0 r1 => ?_
        by_cases hr : 0 < r
        · simp [-dSeq, -List.getD_eq_getElem?_getD, -dIx, -dCut, -dIn, -dEq, -dNe, -dM, -dLen, -dAdd, -List.any_eq_true, -List.all_eq_true, -List.any_eq_false, -List.all_eq_false, hr]
          exact ret
        · simp [-dSeq, -List.getD_eq_getElem?_getD, -dIx, -dCut, -dIn, -dEq, -dNe, -dM, -dLen, -dAdd, -List.any_eq_true, -List.all_eq_true, -List.any_eq_false, -List.all_eq_false, hr]
          exact go (by omega)
    · have hbig : 2 ≤ ns.length := by omega
      have exx : exN ns = 2 := by unfold exN; rw [if_neg h1]
      have h12 : ¬ (ns.length : Int) = 1 := by omega
      simp [-dSeq, -List.getD_eq_getElem?_getD, -dIx, -dCut, -dIn, -dEq, -dNe, -dM, -dLen, -dAdd, -List.any_eq_true, -List.all_eq_true, -List.any_eq_false, -List.all_eq_false, env0, h12, h1]
      subst e1
      refine seq_gen fun k2 e2 => ?_
      simp [-dSeq, -List.getD_eq_getElem?_getD, -dIx, -dCut, -dIn, -dEq, -dNe, -dM, -dLen, -dAdd, -List.any_eq_true, -List.all_eq_true, -List.any_eq_false, -List.all_eq_false, h12, h1]
      subst e2
      refine seq_gen fun k3 e3 => ?_
      by_cases h0 : deep = 0
      · subst h0
        simp [-dSeq, -List.getD_eq_getElem?_getD, -dIx, -dCut, -dIn, -dEq, -dNe, -dM, -dLen, -dAdd, -List.any_eq_true, -List.all_eq_true, -List.any_eq_false, -List.all_eq_false]
        have ex2 : exN ns = 2 := by unfold exN; rw [if_neg h1]
        refine lcD_rel PyData.str d (fun x p => names p = [x] ∧ height p ≤ 1 ∧ nodes p ≤ 1) ns [] (fun x hx q hq => ?_) fun ms hms => ?_
        · simp [-dSeq, -List.getD_eq_getElem?_getD, -dIx, -dCut, -dIn, -dEq, -dNe, -dM, -dLen, -dAdd, -List.any_eq_true, -List.all_eq_true, -List.any_eq_false, -List.all_eq_false]
          refine l_any_plan n 0 [x] _ (by have := exN_1 x; omega) (by simp) (by simp) fun p a b c => ?_
          exact hq p ⟨a, by simpa using b, by simpa using c⟩
        · have key : ∀ {xs : List Str} {ms : List Plan}, All2 (fun x p => names p = [x] ∧ height p ≤ 1 ∧ nodes p ≤ 1) xs ms → (ms.map names).flatten = xs ∧ heightL ms ≤ 1 ∧ nodesL ms ≤ xs.length := by
            intro xs ms hh
            induction hh with
            | nil => simp [heightL, nodesL]
            | cons a r ih =>
              obtain ⟨i1, i2, i3⟩ := ih
              obtain ⟨a1, a2, a3⟩ := a
              refine ⟨by simp [a1, i1], by rw [heightL]; omega, by rw [nodesL, List.length_cons]; omega⟩
          obtain ⟨i1, i2, i3⟩ := key hms
          have := h (grp .row ms) (by rw [names_grp, i1]) (by rw [height, ex2]; omega) (by rw [nodes, ex2, Nat.zero_add]; omega)
          simp [-dSeq, -List.getD_eq_getElem?_getD, -dIx, -dCut, -dIn, -dEq, -dNe, -dM, -dLen, -dAdd, -List.any_eq_true, -List.all_eq_true, -List.any_eq_false, -List.all_eq_false]
          simpa [d_grp, Gw.s] using this
      · have h02 : ¬ (deep : Int) = 0 := by omega
        simp [-dSeq, -List.getD_eq_getElem?_getD, -dIx, -dCut, -dIn, -dEq, -dNe, -dM, -dLen, -dAdd, -List.any_eq_true, -List.all_eq_true, -List.any_eq_false, -List.all_eq_false, h02, h0]
        subst e3
        refine seq_gen fun k4 e4 => ?_
        simp [-dSeq, -List.getD_eq_getElem?_getD, -dIx, -dCut, -dIn, -dEq, -dNe, -dM, -dLen, -dAdd, -List.any_eq_true, -List.all_eq_true, -List.any_eq_false, -List.all_eq_false]
        have ex2 : exN ns = 2 := by unfold exN; rw [if_neg h1]
        have pick : ∀ (Q : PyData → Prop), (∀ r : Nat, 2 + r ≤ ns.length → Q (.int (r : Nat))) → Cl (wpPick K) [.s, .d (.int (if (ns.length : Int) - 1 < 2 then (ns.length : Int) - 1 else 2))] Q := fun Q q => by
          refine l_pick (by split <;> omega) fun r r0 r1 => ?_
          have := q r.toNat (by split at r1 <;> omega)
          rw [show ((r.toNat : Nat) : Int) = r by omega] at this
          exact this
        refine pick _ fun r hr => ?_
        simp only [addInt]
        rw [show (2 : Int) + (r : Int) = ((2 + r : Nat) : Int) by omega]
        refine l_chunks (by omega) hr hm fun ps pf pn pl => ?_
        subst e4
        refine seq_gen fun k5 e5 => ?_
        simp [-dSeq, -List.getD_eq_getElem?_getD, -dIx, -dCut, -dIn, -dEq, -dNe, -dM, -dLen, -dAdd, -List.any_eq_true, -List.all_eq_true, -List.any_eq_false, -List.all_eq_false]
        refine words4 _ fun w => ?_
        subst e5
        simp [-dSeq, -List.getD_eq_getElem?_getD, -dIx, -dCut, -dIn, -dEq, -dNe, -dM, -dLen, -dAdd, -List.any_eq_true, -List.all_eq_true, -List.any_eq_false, -List.all_eq_false]
        have ed : ((deep : Int) - 1) = ((deep - 1 : Nat) : Int) := by omega
        refine lcD_rel SL d (fun part p => names p = part ∧ height p ≤ deep + 1 ∧ nodes p ≤ part.length * (deep + 1)) ps [] (fun part hp q hq => ?_) fun ms hms => ?_
        · simp [-dSeq, -List.getD_eq_getElem?_getD, -dIx, -dCut, -dIn, -dEq, -dNe, -dM, -dLen, -dAdd, -List.any_eq_true, -List.all_eq_true, -List.any_eq_false, -List.all_eq_false]
          rw [ed]
          have hle : part.length ≤ ns.length := by
            rw [← pf]
            obtain ⟨A, B, e⟩ := List.append_of_mem hp
            rw [e]
            simp
            omega
          refine l_any_plan n (deep - 1) part _ (by have := exN_le part; omega) (pn part hp) (by omega) fun p a b c => ?_
          have ex := exN_le part
          refine hq p ⟨a, by omega, Nat.le_trans c (Nat.mul_le_mul_left _ (by omega))⟩
        · obtain ⟨i1, i2, i3⟩ := All2.names hms
          rw [pf] at i1 i3
          have := h (grp w ms) (by rw [names_grp, i1]) (by rw [height, ex2]; omega) (by
            rw [nodes, ex2]
            have : ns.length * (deep + 2) = ns.length * (deep + 1) + ns.length := by rw [show deep + 2 = (deep + 1) + 1 by omega, Nat.mul_add, Nat.mul_one]
            omega)
          simp [-dSeq, -List.getD_eq_getElem?_getD, -dIx, -dCut, -dIn, -dEq, -dNe, -dM, -dLen, -dAdd, -List.any_eq_true, -List.all_eq_true, -List.any_eq_false, -List.all_eq_false]
          simpa [d_grp] using this
end
end W_k17

set_option Elab.async false
set_option linter.all false
set_option maxRecDepth 100000
set_option maxHeartbeats 4000000
/-! V20 (k17): drawn lots, fights, logs. -/
namespace PL
open PySem VL PL.Plan
theorem lcD_subP {α : Type} (enc : α → PyData) (f : α → PyData) (P : α → Prop) {g : DG} {u : DT} {te : DE} {ρ : Vn} {Q : PyData → Prop} : ∀ (xs : List α) (acc : List PyData),
    (∀ x ∈ xs, ∀ k : Option PyData → Prop, k none → (P x → k (some (f x))) → g (enc x) ρ fun ρ1 => u ρ1 fun b => if b = true then te ρ1 fun y => k (some y) else k none) →
    (∀ ys : List α, (∀ y ∈ ys, y ∈ xs ∧ P y) → ys.length ≤ xs.length → Q (.list (acc ++ ys.map f))) → lcD g u te ρ (xs.map enc) acc Q
  | [], acc, _, h => by simpa using h [] (by simp) (Nat.le_refl _)
  | x :: xs, acc, hs, h => by
    refine hs x (List.mem_cons_self ..) (fun o => match o with
      | some y => lcD g u te ρ (xs.map enc) (acc ++ [y]) Q
      | none => lcD g u te ρ (xs.map enc) acc Q) ?_ fun hp => ?_
    · exact lcD_subP enc f P xs _ (fun y hy => hs y (List.mem_cons_of_mem _ hy)) fun ys hy hl => h ys (fun y h2 => ⟨List.mem_cons_of_mem _ (hy y h2).1, (hy y h2).2⟩) (Nat.le_succ_of_le hl)
    · refine lcD_subP enc f P xs _ (fun y hy => hs y (List.mem_cons_of_mem _ hy)) fun ys hy hl => ?_
      have := h (x :: ys) (fun y h2 => by
        rcases List.mem_cons.mp h2 with z | z
        · rw [z]; exact ⟨by simp, hp⟩
        · exact ⟨List.mem_cons_of_mem _ (hy y z).1, (hy y z).2⟩) (by simpa using hl)
      simpa using this
def baseN : List Str := ["a", "b", "c", "pay", "x1", "e"]
theorem base_nd : baseN.Nodup := by decide +kernel
theorem base_len : ∀ n ∈ baseN, (reprText n).length ≤ 5 := by decide +kernel
theorem sort_des (D : List De) : ∃ ys : List De, ys.Perm D ∧ (D.map deD).mergeSort keyLe = ys.map deD :=
  ⟨D.mergeSort fun x y => keyLe (deD x) (deD y), List.mergeSort_perm _ _, (List.map_mergeSort (r := fun x y => keyLe (deD x) (deD y)) (s := keyLe) (f := deD) (l := D) fun _ _ _ _ => rfl).symm⟩
theorem sortedDes {D : List De} {Q : PyData → Prop} (h : ∀ ys : List De, ys.Perm D → Q (.list (ys.map deD))) : dSorted [.list (D.map deD)] Q := by
  obtain ⟨ys, hp, e⟩ := sort_des D
  refine ⟨plain_des D, alike_de D, sortable_de D, depth_des D, ?_⟩
  rw [e]
  exact h ys hp
theorem log_snoc {log : List En} (hl : LogOk log) {x : De} {b : Bool} (h1 : (x, b) ∉ log) (h2 : b = false → (x, true) ∈ log) : LogOk (log ++ [(x, b)]) := by
  refine ⟨?_, fun k y hk => ?_⟩
  · rw [List.nodup_append]
    refine ⟨hl.nd, by simp, fun a ha c hc e => ?_⟩
    rw [List.mem_singleton.mp hc] at e
    exact h1 (e ▸ ha)
  · by_cases hkl : k < log.length
    · rw [List.getElem?_append_left hkl] at hk
      obtain ⟨i, hi, hi2⟩ := hl.bh k y hk
      exact ⟨i, hi, by rw [List.getElem?_append_left (by omega)]; exact hi2⟩
    · rw [List.getElem?_append_right (by omega)] at hk
      have : k - log.length = 0 := by
        have := (List.getElem?_eq_some_iff.mp hk).1
        simp at this
        omega
      rw [this] at hk
      simp at hk
      obtain ⟨rfl, hb⟩ := hk
      obtain ⟨i, hi⟩ := List.getElem?_of_mem (h2 hb)
      have := (List.getElem?_eq_some_iff.mp hi).1
      exact ⟨i, by omega, by rw [List.getElem?_append_left this]; exact hi⟩
/-- a drawn log -/
structure LogD (lot : List Plan) (log : List En) : Prop where
  ok : LogOk log
  mem : ∀ e ∈ log, e.1 ∈ lotDeeds lot
theorem LogD.snoc {lot : List Plan} {log : List En} (h : LogD lot log) {x : De} (hx : x ∈ lotDeeds lot) {b : Bool} (h1 : (x, b) ∉ log) (h2 : b = false → (x, true) ∈ log) : LogD lot (log ++ [(x, b)]) :=
  ⟨log_snoc h.ok h1 h2, fun e he => by
    rcases List.mem_append.mp he with z | z
    · exact h.mem e z
    · rw [List.mem_singleton.mp z]; exact hx⟩
theorem logD_nil (lot : List Plan) : LogD lot [] := ⟨⟨by simp, fun k x h => by simp at h⟩, by simp⟩
/-- drawn fights -/
structure FiD (lot : List Plan) (fs : List (De × De)) : Prop where
  lt : ∀ z ∈ fs, z.1.1 < z.2.1
  m1 : ∀ z ∈ fs, z.1 ∈ lotDeeds lot ∧ z.2 ∈ lotDeeds lot
  len : fs.length ≤ 20000
theorem lotDeeds_len {lot : List Plan} (h : LotD lot) : (lotDeeds lot).length ≤ 120 := by
  unfold lotDeeds
  have key : ∀ (ms : List Plan) (i : Nat), (∀ p ∈ ms, nodes p ≤ 24) → ((ms.zipIdx i).map fun z => (names z.1).map fun n => (z.2, n)).flatten.length ≤ 24 * ms.length := by
    intro ms
    induction ms with
    | nil => intro i _; simp
    | cons p ms ih =>
      intro i hm
      have := ih (i + 1) fun q hq => hm q (List.mem_cons_of_mem _ hq)
      have hp := hm p (by simp)
      have hd := deeds_le p
      have hn : (names p).length = (deeds p).length := by unfold names; simp
      simp only [List.zipIdx_cons, List.map_cons, List.flatten_cons, List.length_append, List.length_map, List.length_cons]
      omega
  have := key lot 0 h.nd
  have := h.len
  omega
theorem lotDeeds_ne {lot : List Plan} (h : LotD lot) (hl : lot ≠ []) : lotDeeds lot ≠ [] := by
  cases lot with
  | nil => exact absurd rfl hl
  | cons p ps =>
    have hp := h.ne p (by simp)
    cases hn : names p with
    | nil => exact absurd hn hp
    | cons n ns =>
      intro z
      have : ((0, n) : De) ∈ lotDeeds (p :: ps) := mem_lotDeeds.mpr ⟨p, rfl, by rw [hn]; simp⟩
      rw [z] at this
      simp at this
end PL
namespace W_k17
open PySem VL PL PL.Plan
section
variable {K : PySem.W.Frag} {Qd : PyData → Prop}
theorem l_draw_lot {runs : Nat} (hr : runs ≤ 5) (h : ∀ lot, LotD lot → lot.length = runs → Qd (lotD lot)) : Cl (wp__law_draw_lot K) [.s, .d (.int (runs : Nat)), .d (.int 4)] Qd := by
  refine ⟨rfl, ?_⟩
  unfold bd__law_draw_lot
  refine seq_gen fun k1 e1 => ?_
  simp [-dSeq, -List.getD_eq_getElem?_getD, -dIx, -dCut, -dIn, -dEq, -dNe, -dM, -dLen, -dAdd, -List.any_eq_true, -List.all_eq_true, -List.any_eq_false, -List.all_eq_false, env0]
  subst e1
  refine seq_gen fun k2 e2 => ?_
  simp [-dSeq, -List.getD_eq_getElem?_getD, -dIx, -dCut, -dIn, -dEq, -dNe, -dM, -dLen, -dAdd, -List.any_eq_true, -List.all_eq_true, -List.any_eq_false, -List.all_eq_false]
  refine ⟨by omega, ?_⟩
  rw [rngD_0]
  refine forD_rule (fun i : Nat => PyData.int i) (fun r ρ => ∃ (lot : List Plan) (s4 s5 : Slot), LotD lot ∧ lot.length + r.length = runs ∧ ρ = [.so, .sh (.int (runs : Nat)), .sh (.int 4), .ow (.list (lot.map d)), s4, s5]) (fun i r ρ hP D' e3 e4 hD => ?_) (fun ρ hP => ?_) (List.range runs) _ ⟨[], .un, .un, ⟨by simp, by simp, by simp, by simp, by simp, by simp⟩, by simp, rfl⟩
  · obtain ⟨lot, s4, s5, hlo, hlen, rfl⟩ := hP
    simp only [List.length_cons] at hlen
    simp [-dSeq, -List.getD_eq_getElem?_getD, -dIx, -dCut, -dIn, -dEq, -dNe, -dM, -dLen, -dAdd, -List.any_eq_true, -List.all_eq_true, -List.any_eq_false, -List.all_eq_false]
    refine seq_gen fun k3 e5 => ?_
    simp [-dSeq, -List.getD_eq_getElem?_getD, -dIx, -dCut, -dIn, -dEq, -dNe, -dM, -dLen, -dAdd, -List.any_eq_true, -List.all_eq_true, -List.any_eq_false, -List.all_eq_false]
    refine l_any_map (f := PyData.str) (xs := baseN) (by decide) fun ys hp => ?_
    refine l_pick (by omega) fun q q0 q1 => ?_
    have eq : (1 : Int) + q = ((1 + q.toNat : Nat) : Int) := by omega
    simp [-dSeq, -List.getD_eq_getElem?_getD, -dIx, -dCut, -dIn, -dEq, -dNe, -dM, -dLen, -dAdd, -List.any_eq_true, -List.all_eq_true, -List.any_eq_false, -List.all_eq_false]
    rw [eq, cutL_to, ← List.map_take]
    subst e5
    have hyl : ys.length = 6 := hp.length_eq
    have hle : (ys.take (1 + q.toNat)).length ≤ 4 ∧ 0 < (ys.take (1 + q.toNat)).length := by rw [List.length_take]; omega
    have hnd : (ys.take (1 + q.toNat)).Nodup := (hp.nodup_iff.mpr base_nd).sublist (List.take_sublist _ _)
    have hmem : ∀ n ∈ ys.take (1 + q.toNat), n ∈ baseN := fun n hn => hp.mem_iff.mp (List.mem_of_mem_take hn)
    generalize ys.take (1 + q.toNat) = ns at hle hnd hmem ⊢
    have hex := exN_le ns
    simp [-dSeq, -List.getD_eq_getElem?_getD, -dIx, -dCut, -dIn, -dEq, -dNe, -dM, -dLen, -dAdd, -List.any_eq_true, -List.all_eq_true, -List.any_eq_false, -List.all_eq_false]
    refine l_any_plan 24 2 ns _ (by omega) (List.length_pos_iff.mp hle.2) (by omega) fun p a b c => ?_
    have hc2 : nodes p ≤ 24 := by
      have : ns.length * (2 + exN ns) ≤ 4 * 4 := Nat.mul_le_mul (by omega) (by omega)
      omega
    refine ⟨by have := hlo.len; have e9 := line_eq; omega, ?_⟩
    have nx := fun s4 s5 => (hD _ ⟨lot ++ [p], s4, s5, ⟨fun x hx => ?_, fun x hx => ?_, fun x hx => ?_, fun x hx => ?_, by simp; omega, fun x hx => ?_⟩, by simp; omega, rfl⟩).1
    · simpa [-List.getD_eq_getElem?_getD, -dIx, -dCut, -dIn, -dEq, -dNe, -dM, -dLen, -dAdd, -List.any_eq_true, -List.all_eq_true, -List.any_eq_false, -List.all_eq_false] using nx _ _
    all_goals
      rcases List.mem_append.mp hx with z | z
    · exact hlo.ht x z
    · rw [List.mem_singleton.mp z]; omega
    · exact hlo.nd x z
    · rw [List.mem_singleton.mp z]; exact hc2
    · exact hlo.nm x z
    · rw [List.mem_singleton.mp z, a]; exact hnd
    · exact hlo.ne x z
    · rw [List.mem_singleton.mp z, a]; exact List.length_pos_iff.mp hle.2
    · exact hlo.show_ x z
    · rw [List.mem_singleton.mp z, a]; exact fun n hn => base_len n (hmem n hn)
  · obtain ⟨lot, s4, s5, hlo, hlen, rfl⟩ := hP
    subst e2
    simpa [-List.getD_eq_getElem?_getD, -dIx, -dCut, -dIn, -dEq, -dNe, -dM, -dLen, -dAdd, -List.any_eq_true, -List.all_eq_true, -List.any_eq_false, -List.all_eq_false, lotD] using h lot hlo (by simpa using hlen)
theorem l_deeds {lot : List Plan} (hlo : LotD lot) (h : Qd (.list ((lotDeeds lot).map deD))) : Cl (wp__law_deeds K) [.d (lotD lot)] Qd := by
  refine ⟨rfl, ?_⟩
  unfold bd__law_deeds
  refine seq_gen fun k1 e1 => ?_
  simp [-dSeq, -List.getD_eq_getElem?_getD, -dIx, -dCut, -dIn, -dEq, -dNe, -dM, -dLen, -dAdd, -List.any_eq_true, -List.all_eq_true, -List.any_eq_false, -List.all_eq_false, env0]
  subst e1
  refine seq_gen fun k2 e2 => ?_
  have hen : ∀ (ρ : Vn) (Q : List PyData → Prop), ρ[0]? = some (.sh (lotD lot)) → Q (enumD (lot.map d)) → dEnum (lCons (dVar 0) lNil) ρ Q := fun ρ Q hρ q => by simpa [lotD, dVar, hρ] using q
  simp [-dSeq, -List.getD_eq_getElem?_getD, -dIx, -dCut, -dIn, -dEq, -dNe, -dM, -dLen, -dAdd, -List.any_eq_true, -List.all_eq_true, -List.any_eq_false, -List.all_eq_false, -dEnum]
  refine hen _ _ rfl ?_
  refine forE_0 d (fun i r ρ => ∃ (acc : List De) (s2 s3 s4 : Slot), (∀ p ∈ r, p ∈ lot) ∧ acc ++ ((r.zipIdx i).map fun z => (names z.1).map fun n => (z.2, n)).flatten = lotDeeds lot ∧ ρ = [.sh (lotD lot), .sh (.list (acc.map deD)), s2, s3, s4]) ⟨[], .un, .un, .un, fun _ h => h, rfl, rfl⟩ (fun i p r ρ hP D' e3 e4 hD => ?_) fun i ρ hP => ?_
  · obtain ⟨acc, s2, s3, s4, hm, hacc, rfl⟩ := hP
    have hp := hm p (by simp)
    have hht := hlo.ht p hp
    have hnd := hlo.nd p hp
    simp [-dSeq, -List.getD_eq_getElem?_getD, -dIx, -dCut, -dIn, -dEq, -dNe, -dM, -dLen, -dAdd, -List.any_eq_true, -List.all_eq_true, -List.any_eq_false, -List.all_eq_false]
    refine l_names 24 p _ (by omega) (by omega) ?_
    simp [-dSeq, -List.getD_eq_getElem?_getD, -dIx, -dCut, -dIn, -dEq, -dNe, -dM, -dLen, -dAdd, -List.any_eq_true, -List.all_eq_true, -List.any_eq_false, -List.all_eq_false]
    refine lcD_map PyData.str (fun n => deD (i, n)) _ (fun n hn q hq => ?_) ?_
    · simp [-dSeq, -List.getD_eq_getElem?_getD, -dIx, -dCut, -dIn, -dEq, -dNe, -dM, -dLen, -dAdd, -List.any_eq_true, -List.all_eq_true, -List.any_eq_false, -List.all_eq_false]
      exact hq
    have hl2 := lotDeeds_len hlo
    have hacc2 := congrArg List.length hacc
    simp only [List.zipIdx_cons, List.map_cons, List.flatten_cons, List.length_append, List.length_map] at hacc2
    simp [-dSeq, -List.getD_eq_getElem?_getD, -dIx, -dCut, -dIn, -dEq, -dNe, -dM, -dLen, -dAdd, -List.any_eq_true, -List.all_eq_true, -List.any_eq_false, -List.all_eq_false]
    refine ⟨by omega, ?_⟩
    have nx := fun s2 s3 s4 => (hD _ ⟨acc ++ (names p).map fun n => (i, n), s2, s3, s4, fun x hx => hm x (List.mem_cons_of_mem _ hx), by rw [← hacc]; simp, rfl⟩).1
    simpa [-List.getD_eq_getElem?_getD, -dIx, -dCut, -dIn, -dEq, -dNe, -dM, -dLen, -dAdd, -List.any_eq_true, -List.all_eq_true, -List.any_eq_false, -List.all_eq_false, Function.comp_def] using nx _ _ _
  · obtain ⟨acc, s2, s3, s4, hm, hacc, rfl⟩ := hP
    subst e2
    have : acc = lotDeeds lot := by simpa using hacc
    rw [← this] at h
    simpa [-List.getD_eq_getElem?_getD, -dIx, -dCut, -dIn, -dEq, -dNe, -dM, -dLen, -dAdd, -List.any_eq_true, -List.all_eq_true, -List.any_eq_false, -List.all_eq_false] using h
end
end W_k17

set_option Elab.async false
set_option linter.all false
set_option maxRecDepth 100000
set_option maxHeartbeats 4000000
/-! V21 (k17): drawn fights and logs. -/
namespace PL
open PySem VL PL.Plan
@[simp] theorem ix0De (x : De) {Q : PyData → Prop} : dIx (deD x) (.int 0) Q = Q (.int (x.1 : Nat)) := by simp [deD]
@[simp] theorem ix1De (x : De) {Q : PyData → Prop} : dIx (deD x) (.int 1) Q = Q (.str x.2) := by simp [deD]
theorem inLogL {log : List En} {e : En} {neg : Bool} {Q : PyData → Prop} (h : Q (.bool (if neg then !decide (e ∈ log) else decide (e ∈ log)))) : dIn neg (enD e) (.list (log.map enD)) Q := by
  have ea := any_en log e
  refine ⟨plain_log log, okD_en e, ?_⟩
  simp only [ea]
  exact h
abbrev prD (z : De × De) : PyData := .tuple [deD z.1, deD z.2]
end PL
namespace W_k17
open PySem VL PL PL.Plan
section
variable {K : PySem.W.Frag} {Qd : PyData → Prop}
theorem l_draw_fights {lot : List Plan} {share : Int} (hlo : LotD lot) (hs : share < 1000) (h : ∀ fs, FiD lot fs → Qd (fiD fs)) : Cl (wp__law_draw_fights K) [.s, .d (lotD lot), .d (.int share)] Qd := by
  refine ⟨rfl, ?_⟩
  unfold bd__law_draw_fights
  refine seq_gen fun k1 e1 => ?_
  simp [-dSeq, -List.getD_eq_getElem?_getD, -dIx, -dCut, -dIn, -dEq, -dNe, -dM, -dLen, -dAdd, -List.any_eq_true, -List.all_eq_true, -List.any_eq_false, -List.all_eq_false, env0, -dSorted]
  refine l_deeds hlo ?_
  refine sortedDes fun ys hp => ?_
  have hyl : ys.length ≤ 120 := by rw [hp.length_eq]; exact lotDeeds_len hlo
  have hym : ∀ y ∈ ys, y ∈ lotDeeds lot := fun y hy => hp.mem_iff.mp hy
  subst e1
  refine seq_gen fun k2 e2 => ?_
  simp [-dSeq, -List.getD_eq_getElem?_getD, -dIx, -dCut, -dIn, -dEq, -dNe, -dM, -dLen, -dAdd, -List.any_eq_true, -List.all_eq_true, -List.any_eq_false, -List.all_eq_false]
  refine forE_0 deD (fun i r ρ => ∃ (acc : List (De × De)) (s5 s6 s7 : Slot), (∀ z ∈ acc, z.1.1 < z.2.1 ∧ z.1 ∈ lotDeeds lot ∧ z.2 ∈ lotDeeds lot) ∧ acc.length ≤ 120 * i ∧ i + r.length = ys.length ∧ (∀ y ∈ r, y ∈ ys) ∧ ρ = [.so, .sh (lotD lot), .sh (.int share), .sh (.list (acc.map prD)), .sh (.list (ys.map deD)), s5, s6, s7]) ⟨[], .un, .un, .un, by simp, Nat.le_refl _, by simp, fun _ h => h, rfl⟩ (fun i x r ρ hP D' e3 e4 hD => ?_) fun i ρ hP => ?_
  · obtain ⟨acc, s5, s6, s7, hacc, hal, hir, hr, rfl⟩ := hP
    simp only [List.length_cons] at hir
    have hxm := hr x (by simp)
    simp [-dSeq, -List.getD_eq_getElem?_getD, -dIx, -dCut, -dIn, -dEq, -dNe, -dM, -dLen, -dAdd, -List.any_eq_true, -List.all_eq_true, -List.any_eq_false, -List.all_eq_false]
    rw [show ((i : Int) + 1) = ((i + 1 : Nat) : Int) by omega, cutL_from, ← List.map_drop]
    refine lcD_subP deD (fun y => prD (x, y)) (fun y => x.1 < y.1) (ys.drop (i + 1)) [] (fun y hy q q0 q1 => ?_) fun zs hz hzl => ?_
    · simp [-dSeq, -List.getD_eq_getElem?_getD, -dIx, -dCut, -dIn, -dEq, -dNe, -dM, -dLen, -dAdd, -List.any_eq_true, -List.all_eq_true, -List.any_eq_false, -List.all_eq_false]
      by_cases c : x.1 < y.1
      · simp [-dSeq, -List.getD_eq_getElem?_getD, -dIx, -dCut, -dIn, -dEq, -dNe, -dM, -dLen, -dAdd, -List.any_eq_true, -List.all_eq_true, -List.any_eq_false, -List.all_eq_false, c]
        refine l_pick (by omega) fun r r0 r1 => ?_
        by_cases hr0 : r = 0
        · simp [-dSeq, -List.getD_eq_getElem?_getD, -dIx, -dCut, -dIn, -dEq, -dNe, -dM, -dLen, -dAdd, -List.any_eq_true, -List.all_eq_true, -List.any_eq_false, -List.all_eq_false, hr0]
          exact q1 c
        · simp [-dSeq, -List.getD_eq_getElem?_getD, -dIx, -dCut, -dIn, -dEq, -dNe, -dM, -dLen, -dAdd, -List.any_eq_true, -List.all_eq_true, -List.any_eq_false, -List.all_eq_false, hr0]
          exact q0
      · simp [-dSeq, -List.getD_eq_getElem?_getD, -dIx, -dCut, -dIn, -dEq, -dNe, -dM, -dLen, -dAdd, -List.any_eq_true, -List.all_eq_true, -List.any_eq_false, -List.all_eq_false, c]
        exact q0
    · have hzl2 : zs.length ≤ 120 := by
        have := hzl
        rw [List.length_drop] at this
        omega
      simp [-dSeq, -List.getD_eq_getElem?_getD, -dIx, -dCut, -dIn, -dEq, -dNe, -dM, -dLen, -dAdd, -List.any_eq_true, -List.all_eq_true, -List.any_eq_false, -List.all_eq_false]
      refine ⟨by omega, ?_⟩
      have nx := fun s5 s6 s7 => (hD _ ⟨acc ++ zs.map fun y => (x, y), s5, s6, s7, fun z hzm => by
        rcases List.mem_append.mp hzm with w | w
        · exact hacc z w
        · obtain ⟨y, hy, rfl⟩ := List.mem_map.mp w
          exact ⟨(hz y hy).2, hym x hxm, hym y (List.mem_of_mem_drop (hz y hy).1)⟩, by simp; omega, by omega, fun y hy => hr y (List.mem_cons_of_mem _ hy), rfl⟩).1
      simpa [-List.getD_eq_getElem?_getD, -dIx, -dCut, -dIn, -dEq, -dNe, -dM, -dLen, -dAdd, -List.any_eq_true, -List.all_eq_true, -List.any_eq_false, -List.all_eq_false, Function.comp_def] using nx _ _ _
  · obtain ⟨acc, s5, s6, s7, hacc, hal, hir, hr, rfl⟩ := hP
    subst e2
    have hi : i ≤ 120 := by simp at hir; omega
    have := h acc ⟨fun z hz => (hacc z hz).1, fun z hz => (hacc z hz).2, by omega⟩
    simpa [-List.getD_eq_getElem?_getD, -dIx, -dCut, -dIn, -dEq, -dNe, -dM, -dLen, -dAdd, -List.any_eq_true, -List.all_eq_true, -List.any_eq_false, -List.all_eq_false, fiD] using this
theorem l_draw_log {lot : List Plan} {many : Nat} (hlo : LotD lot) (hne : lot ≠ []) (hm : many ≤ 60) (h : ∀ log, LogD lot log → log.length ≤ many → Qd (logD log)) : Cl (wp__law_draw_log K) [.s, .d (lotD lot), .d (.int (many : Nat))] Qd := by
  refine ⟨rfl, ?_⟩
  unfold bd__law_draw_log
  refine seq_gen fun k1 e1 => ?_
  simp [-dSeq, -List.getD_eq_getElem?_getD, -dIx, -dCut, -dIn, -dEq, -dNe, -dM, -dLen, -dAdd, -List.any_eq_true, -List.all_eq_true, -List.any_eq_false, -List.all_eq_false, env0]
  refine l_deeds hlo ?_
  subst e1
  refine seq_gen fun k2 e2 => ?_
  simp [-dSeq, -List.getD_eq_getElem?_getD, -dIx, -dCut, -dIn, -dEq, -dNe, -dM, -dLen, -dAdd, -List.any_eq_true, -List.all_eq_true, -List.any_eq_false, -List.all_eq_false]
  refine ⟨by omega, ?_⟩
  rw [rngD_0]
  have hln := lotDeeds_len hlo
  refine forD_rule (fun i : Nat => PyData.int i) (fun r ρ => ∃ (log : List En) (s5 s6 : Slot), LogD lot log ∧ log.length + r.length ≤ many ∧ ρ = [.so, .sh (lotD lot), .sh (.int (many : Nat)), .ow (.list (log.map enD)), .sh (.list ((lotDeeds lot).map deD)), s5, s6]) (fun i r ρ hP D' e3 e4 hD => ?_) (fun ρ hP => ?_) (List.range many) _ ⟨[], .un, .un, logD_nil lot, by simp, rfl⟩
  · obtain ⟨log, s5, s6, hlog, hlen, rfl⟩ := hP
    simp only [List.length_cons] at hlen
    simp [-dSeq, -List.getD_eq_getElem?_getD, -dIx, -dCut, -dIn, -dEq, -dNe, -dM, -dLen, -dAdd, -List.any_eq_true, -List.all_eq_true, -List.any_eq_false, -List.all_eq_false]
    refine seq_gen fun k3 e5 => ?_
    simp [-dSeq, -List.getD_eq_getElem?_getD, -dIx, -dCut, -dIn, -dEq, -dNe, -dM, -dLen, -dAdd, -List.any_eq_true, -List.all_eq_true, -List.any_eq_false, -List.all_eq_false]
    refine l_of (lotDeeds_ne hlo hne) (by omega) fun x hx => ?_
    subst e5
    have nx := fun log' (a : LogD lot log') (b : log'.length ≤ log.length + 1) s5 s6 => (hD _ ⟨log', s5, s6, a, by omega, rfl⟩).1
    simp [-dSeq, -List.getD_eq_getElem?_getD, -dIx, -dCut, -dIn, -dEq, -dNe, -dM, -dLen, -dAdd, -List.any_eq_true, -List.all_eq_true, -List.any_eq_false, -List.all_eq_false]
    refine inLogL ?_
    by_cases h1 : (x, true) ∈ log
    · simp [-dSeq, -List.getD_eq_getElem?_getD, -dIx, -dCut, -dIn, -dEq, -dNe, -dM, -dLen, -dAdd, -List.any_eq_true, -List.all_eq_true, -List.any_eq_false, -List.all_eq_false, h1]
      refine inLogL ?_
      by_cases h2 : (x, false) ∈ log
      · simp [-dSeq, -List.getD_eq_getElem?_getD, -dIx, -dCut, -dIn, -dEq, -dNe, -dM, -dLen, -dAdd, -List.any_eq_true, -List.all_eq_true, -List.any_eq_false, -List.all_eq_false, h2]
        simpa [-List.getD_eq_getElem?_getD, -dIx, -dCut, -dIn, -dEq, -dNe, -dM, -dLen, -dAdd, -List.any_eq_true, -List.all_eq_true, -List.any_eq_false, -List.all_eq_false] using nx log hlog (by omega) _ _
      · simp [-dSeq, -List.getD_eq_getElem?_getD, -dIx, -dCut, -dIn, -dEq, -dNe, -dM, -dLen, -dAdd, -List.any_eq_true, -List.all_eq_true, -List.any_eq_false, -List.all_eq_false, h2]
        refine ⟨by have e9 := line_eq; omega, ?_⟩
        have := nx _ (hlog.snoc hx h2 fun _ => h1) (by simp)
        simpa [-List.getD_eq_getElem?_getD, -dIx, -dCut, -dIn, -dEq, -dNe, -dM, -dLen, -dAdd, -List.any_eq_true, -List.all_eq_true, -List.any_eq_false, -List.all_eq_false] using this _ _
    · simp [-dSeq, -List.getD_eq_getElem?_getD, -dIx, -dCut, -dIn, -dEq, -dNe, -dM, -dLen, -dAdd, -List.any_eq_true, -List.all_eq_true, -List.any_eq_false, -List.all_eq_false, h1]
      refine ⟨by have e9 := line_eq; omega, ?_⟩
      have := nx _ (hlog.snoc hx h1 fun z => by cases z) (by simp)
      simpa [-List.getD_eq_getElem?_getD, -dIx, -dCut, -dIn, -dEq, -dNe, -dM, -dLen, -dAdd, -List.any_eq_true, -List.all_eq_true, -List.any_eq_false, -List.all_eq_false] using this _ _
  · obtain ⟨log, s5, s6, hlog, hlen, rfl⟩ := hP
    subst e2
    have := h log hlog (by simpa using hlen)
    simpa [-List.getD_eq_getElem?_getD, -dIx, -dCut, -dIn, -dEq, -dNe, -dM, -dLen, -dAdd, -List.any_eq_true, -List.all_eq_true, -List.any_eq_false, -List.all_eq_false, logD] using this
theorem l_lawful_log {lot : List Plan} {fs : List (De × De)} {many : Nat} (hlo : LotD lot) (hfi : FiD lot fs) (hne : lot ≠ []) (hm : many ≤ 60) (h : ∀ log, LogD lot log → log.length ≤ many → Qd (logD log)) : Cl (wp__law_lawful_log K) [.s, .d (lotD lot), .d (fiD fs), .d (.int (many : Nat))] Qd := by
  refine ⟨rfl, ?_⟩
  unfold bd__law_lawful_log
  refine seq_gen fun k1 e1 => ?_
  simp [-dSeq, -List.getD_eq_getElem?_getD, -dIx, -dCut, -dIn, -dEq, -dNe, -dM, -dLen, -dAdd, -List.any_eq_true, -List.all_eq_true, -List.any_eq_false, -List.all_eq_false, env0]
  refine l_deeds hlo ?_
  subst e1
  refine seq_gen fun k2 e2 => ?_
  simp [-dSeq, -List.getD_eq_getElem?_getD, -dIx, -dCut, -dIn, -dEq, -dNe, -dM, -dLen, -dAdd, -List.any_eq_true, -List.all_eq_true, -List.any_eq_false, -List.all_eq_false]
  refine ⟨by omega, ?_⟩
  rw [rngD_0]
  have hln := lotDeeds_len hlo
  refine forD_rule (fun i : Nat => PyData.int i) (fun r ρ => ∃ (log : List En) (s5 s6 : Slot), LogD lot log ∧ log.length + r.length ≤ many ∧ ρ = [.so, .sh (lotD lot), .sh (fiD fs), .sh (.int (many : Nat)), .sh (logD log), .sh (.list ((lotDeeds lot).map deD)), s5, s6]) (fun i r ρ hP D' e3 e4 hD => ?_) (fun ρ hP => ?_) (List.range many) _ ⟨[], .un, .un, logD_nil lot, by simp, rfl⟩
  · obtain ⟨log, s5, s6, hlog, hlen, rfl⟩ := hP
    simp only [List.length_cons] at hlen
    simp [-dSeq, -List.getD_eq_getElem?_getD, -dIx, -dCut, -dIn, -dEq, -dNe, -dM, -dLen, -dAdd, -List.any_eq_true, -List.all_eq_true, -List.any_eq_false, -List.all_eq_false]
    refine seq_gen fun k3 e5 => ?_
    simp [-dSeq, -List.getD_eq_getElem?_getD, -dIx, -dCut, -dIn, -dEq, -dNe, -dM, -dLen, -dAdd, -List.any_eq_true, -List.all_eq_true, -List.any_eq_false, -List.all_eq_false]
    refine l_of (lotDeeds_ne hlo hne) (by omega) fun x hx => ?_
    subst e5
    have nx := fun log' (a : LogD lot log') (b : log'.length ≤ log.length + 1) s5 s6 => (hD _ ⟨log', s5, s6, a, by omega, rfl⟩).1
    have hadd : ∀ (b : Bool) (Q : PyData → Prop), Q (logD (log ++ [(x, b)])) → dAdd (logD log) (.tuple [enD (x, b)]) Q := fun b Q q => by
      unfold logD
      rw [addTup]
      refine ⟨by simp; omega, ?_⟩
      unfold logD at q
      rw [List.map_append] at q
      exact q
    simp [-dSeq, -List.getD_eq_getElem?_getD, -dIx, -dCut, -dIn, -dEq, -dNe, -dM, -dLen, -dAdd, -List.any_eq_true, -List.all_eq_true, -List.any_eq_false, -List.all_eq_false]
    refine inLog ?_
    by_cases h1 : (x, true) ∈ log
    · simp [-dSeq, -List.getD_eq_getElem?_getD, -dIx, -dCut, -dIn, -dEq, -dNe, -dM, -dLen, -dAdd, -List.any_eq_true, -List.all_eq_true, -List.any_eq_false, -List.all_eq_false, h1]
      refine inLog ?_
      by_cases h2 : (x, false) ∈ log
      · simp [-dSeq, -List.getD_eq_getElem?_getD, -dIx, -dCut, -dIn, -dEq, -dNe, -dM, -dLen, -dAdd, -List.any_eq_true, -List.all_eq_true, -List.any_eq_false, -List.all_eq_false, h2]
        simpa [-List.getD_eq_getElem?_getD, -dIx, -dCut, -dIn, -dEq, -dNe, -dM, -dLen, -dAdd, -List.any_eq_true, -List.all_eq_true, -List.any_eq_false, -List.all_eq_false] using nx log hlog (by omega) _ _
      · simp [-dSeq, -List.getD_eq_getElem?_getD, -dIx, -dCut, -dIn, -dEq, -dNe, -dM, -dLen, -dAdd, -List.any_eq_true, -List.all_eq_true, -List.any_eq_false, -List.all_eq_false, h2]
        refine l_may_undo hlo.ok (fun e he => has_lot (hlog.mem e he)) (has_lot hx) (by omega) ?_
        have yes := nx _ (hlog.snoc hx h2 fun _ => h1) (by simp)
        have no := nx log hlog (by omega)
        cases hmu : mayU (gF lot fs) log x with
        | true =>
          simp [-dSeq, -List.getD_eq_getElem?_getD, -dIx, -dCut, -dIn, -dEq, -dNe, -dM, -dLen, -dAdd, -List.any_eq_true, -List.all_eq_true, -List.any_eq_false, -List.all_eq_false]
          refine hadd false _ ?_
          exact yes _ _
        | false =>
          simp [-dSeq, -List.getD_eq_getElem?_getD, -dIx, -dCut, -dIn, -dEq, -dNe, -dM, -dLen, -dAdd, -List.any_eq_true, -List.all_eq_true, -List.any_eq_false, -List.all_eq_false]
          refine l_pick (by omega) fun q q0 q1 => ?_
          by_cases hq : q = 0
          · simp [-dSeq, -List.getD_eq_getElem?_getD, -dIx, -dCut, -dIn, -dEq, -dNe, -dM, -dLen, -dAdd, -List.any_eq_true, -List.all_eq_true, -List.any_eq_false, -List.all_eq_false, hq]
            refine hadd false _ ?_
            exact yes _ _
          · simp [-dSeq, -List.getD_eq_getElem?_getD, -dIx, -dCut, -dIn, -dEq, -dNe, -dM, -dLen, -dAdd, -List.any_eq_true, -List.all_eq_true, -List.any_eq_false, -List.all_eq_false, hq]
            exact no _ _
    · simp [-dSeq, -List.getD_eq_getElem?_getD, -dIx, -dCut, -dIn, -dEq, -dNe, -dM, -dLen, -dAdd, -List.any_eq_true, -List.all_eq_true, -List.any_eq_false, -List.all_eq_false, h1]
      refine hadd true _ ?_
      exact nx _ (hlog.snoc hx h1 fun z => by cases z) (by simp) _ _
  · obtain ⟨log, s5, s6, hlog, hlen, rfl⟩ := hP
    subst e2
    have := h log hlog (by simpa using hlen)
    simpa [-List.getD_eq_getElem?_getD, -dIx, -dCut, -dIn, -dEq, -dNe, -dM, -dLen, -dAdd, -List.any_eq_true, -List.all_eq_true, -List.any_eq_false, -List.all_eq_false] using this
end
end W_k17

set_option Elab.async false
set_option linter.all false
set_option maxRecDepth 100000
set_option maxHeartbeats 4000000
/-! V22 (k17): the law. -/
namespace PL
open PySem VL PL.Plan
theorem nice_en {e : En} (h : DeNice e.1) : Nice 1 80 (enD e) := by
  unfold enD
  refine nice_tuple (k := 0) (m := 70) ?_
  refine niceL_cons (k1 := 0) (a := 10) (b := 50) (nice_nat (show e.1.1 < 10 ^ 9 by have := h.run; omega)) (niceL_cons (k1 := 0) (a := 20) (b := 20) (nice_str h.nm) (niceL_cons (k1 := 0) (a := 10) (b := 0) (nice_int ?_) niceL_nil))
  cases e.2 <;> decide
theorem nice_all {lot : List Plan} {fs : List (De × De)} {log : List En} (hlo : LotD lot) (hfi : FiD lot fs) (hlog : LogD lot log) (hl : log.length ≤ 60) : Nice 12 9000000 (.list [lotD lot, fiD fs, logD log]) := by
  refine nice_list (k := 11) (m := 8999990) ?_
  refine niceL_cons (k1 := 11) (a := 20000) (b := 8900000) ?_ (niceL_cons (k1 := 11) (a := 4000000) (b := 4000000) ?_ (niceL_cons (k1 := 11) (a := 10000) (b := 0) ?_ niceL_nil))
  · unfold lotD
    refine (nice_tuple (k := 8) (n := 15003) (m := 15000) (niceL_map (c := 2500) (m := 5) (fun p hp => ?_) hlo.len (by omega))).mono (by omega) (by omega)
    have hd : ∀ x ∈ deeds p, (reprText x.1).length ≤ 20 := fun x hx => by
      have := hlo.show_ p hp x.1 (List.mem_map.mpr ⟨x, hx, rfl⟩)
      omega
    have := hlo.ht p hp
    have := hlo.nd p hp
    exact (nice_plan p hd).mono (by omega) (by omega)
  · unfold fiD
    refine (nice_tuple (k := 3) (n := 3000003) (m := 3000000) (niceL_map (c := 140) (m := 20000) (fun z hz => ?_) hfi.len (by omega))).mono (by omega) (by omega)
    have a := hfi.m1 z hz
    exact (nice_tuple (k := 2) (n := 133) (m := 130) (niceL_cons (k1 := 1) (a := 60) (b := 62) (nice_de (nice_lotDeed hlo a.1)) (niceL_cons (k1 := 1) (a := 60) (b := 0) (nice_de (nice_lotDeed hlo a.2)) niceL_nil))).mono (by omega) (by omega)
  · unfold logD
    exact (nice_tuple (k := 1) (n := 9003) (m := 9000) (niceL_map (c := 80) (m := 60) (fun e he => nice_en (nice_lotDeed hlo (hlog.mem e he))) hl (by omega))).mono (by omega) (by omega)
theorem nice_two (a b : Bool) : Nice 1 30 (.list [.bool a, .bool b]) := nice_list (k := 0) (m := 20) (niceL_cons (k1 := 0) (a := 5) (b := 7) (nice_bool a) (niceL_cons (k1 := 0) (a := 5) (b := 0) (nice_bool b) niceL_nil))
end PL
namespace W_k17
open PySem VL PL PL.Plan
section
variable {K : PySem.W.Frag} {Qd : PyData → Prop}
theorem l_law : Plain K := by
  unfold Plain bd_law
  refine seq_gen fun k1 e1 => ?_
  simp [-dSeq, -List.getD_eq_getElem?_getD, -dIx, -dCut, -dIn, -dEq, -dNe, -dM, -dLen, -dAdd, -List.any_eq_true, -List.all_eq_true, -List.any_eq_false, -List.all_eq_false]
  unfold rngD
  refine forPass (fun i : Nat => PyData.int (0 + (i : Int))) (fun ρ => ∃ s2 s3 s4 s5 s6 s7 s8 s9 s10 s11 : Slot, ρ = [.un, .so, s2, s3, s4, s5, s6, s7, s8, s9, s10, s11]) ⟨_, _, _, _, _, _, _, _, _, _, rfl⟩ (fun i hi ρ hP D' e3 e4 hD => ?_) fun ρ hP => ?_
  · obtain ⟨s2, s3, s4, s5, s6, s7, s8, s9, s10, s11, rfl⟩ := hP
    have nx := fun s2 s3 s4 s5 s6 s7 s8 s9 s10 s11 => (hD _ ⟨s2, s3, s4, s5, s6, s7, s8, s9, s10, s11, rfl⟩).1
    simp [-dSeq, -List.getD_eq_getElem?_getD, -dIx, -dCut, -dIn, -dEq, -dNe, -dM, -dLen, -dAdd, -List.any_eq_true, -List.all_eq_true, -List.any_eq_false, -List.all_eq_false]
    refine seq_gen fun k2 e2 => ?_
    simp [-dSeq, -List.getD_eq_getElem?_getD, -dIx, -dCut, -dIn, -dEq, -dNe, -dM, -dLen, -dAdd, -List.any_eq_true, -List.all_eq_true, -List.any_eq_false, -List.all_eq_false]
    refine l_pick (by omega) fun r r0 r1 => ?_
    simp [-dSeq, -List.getD_eq_getElem?_getD, -dIx, -dCut, -dIn, -dEq, -dNe, -dM, -dLen, -dAdd, -List.any_eq_true, -List.all_eq_true, -List.any_eq_false, -List.all_eq_false]
    rw [show (1 : Int) + r = ((1 + r.toNat : Nat) : Int) by omega]
    refine l_draw_lot (by omega) fun lot hlo hll => ?_
    subst e2
    refine seq_gen fun k3 e5 => ?_
    simp [-dSeq, -List.getD_eq_getElem?_getD, -dIx, -dCut, -dIn, -dEq, -dNe, -dM, -dLen, -dAdd, -List.any_eq_true, -List.all_eq_true, -List.any_eq_false, -List.all_eq_false]
    refine l_pick (by omega) fun q q0 q1 => ?_
    simp [-dSeq, -List.getD_eq_getElem?_getD, -dIx, -dCut, -dIn, -dEq, -dNe, -dM, -dLen, -dAdd, -List.any_eq_true, -List.all_eq_true, -List.any_eq_false, -List.all_eq_false]
    refine l_draw_fights hlo (by omega) fun fs hfi => ?_
    refine l_pick (by omega) fun w w0 w1 => ?_
    simp [-dSeq, -List.getD_eq_getElem?_getD, -dIx, -dCut, -dIn, -dEq, -dNe, -dM, -dLen, -dAdd, -List.any_eq_true, -List.all_eq_true, -List.any_eq_false, -List.all_eq_false]
    rw [show (4 : Int) + w = ((4 + w.toNat : Nat) : Int) by omega]
    subst e5
    refine seq_gen fun k4 e6 => ?_
    have tail : ∀ lot (fs : List (De × De)) (many : Nat) (s6 s7 s8 s9 s10 s11 : Slot), LotD lot → lot ≠ [] → FiD lot fs → many ≤ 60 → k4 D' [.un, .so, .sh (.int (i : Int)), .sh (lotD lot), .sh (fiD fs), .sh (.int (many : Nat)), s6, s7, s8, s9, s10, s11] := fun lot fs many s6 s7 s8 s9 s10 s11 hlo hne hfi hmany => by
      subst e6
      have hdl := fun e (he : e ∈ lotDeeds lot) => has_lot he
      refine seq_gen fun k5 e7 => ?_
      have logs : ∀ Q : PyData → Prop, (∀ log, LogD lot log → log.length ≤ many → Q (logD log)) → dIfE (dTst (dOp (dNe) (dVar 2) (dC (.int 2)))) (dCall ((wp__law_lawful_log) K) (aSrc 1 (aCons (dVar 3) (aCons (dVar 4) (aCons (dVar 5) (aNil)))))) (dCall ((wp__law_draw_log) K) (aSrc 1 (aCons (dVar 3) (aCons (dVar 5) (aNil))))) [.un, .so, .sh (.int (i : Int)), .sh (lotD lot), .sh (fiD fs), .sh (.int (many : Nat)), s6, s7, s8, s9, s10, s11] Q := fun Q hQ => by
        simp [-dSeq, -List.getD_eq_getElem?_getD, -dIx, -dCut, -dIn, -dEq, -dNe, -dM, -dLen, -dAdd, -List.any_eq_true, -List.all_eq_true, -List.any_eq_false, -List.all_eq_false]
        by_cases c : (i : Int) = 2
        · simp [-dSeq, -List.getD_eq_getElem?_getD, -dIx, -dCut, -dIn, -dEq, -dNe, -dM, -dLen, -dAdd, -List.any_eq_true, -List.all_eq_true, -List.any_eq_false, -List.all_eq_false, c]
          exact l_draw_log hlo hne hmany hQ
        · simp [-dSeq, -List.getD_eq_getElem?_getD, -dIx, -dCut, -dIn, -dEq, -dNe, -dM, -dLen, -dAdd, -List.any_eq_true, -List.all_eq_true, -List.any_eq_false, -List.all_eq_false, c]
          exact l_lawful_log hlo hfi hne hmany hQ
      simp only [dSet]
      refine logs _ fun log hlog hlen => ?_
      have hx : ∀ e ∈ log, HasDeed lot e.1 := fun e he => has_lot (hlog.mem e he)
      have hni : ∀ e ∈ log, DeNice e.1 := fun e he => nice_lotDeed hlo (hlog.mem e he)
      have hn : log.length ≤ 1000 := by omega
      have nall := nice_all hlo hfi hlog (by omega)
      simp [-dSeq, -List.getD_eq_getElem?_getD, -dIx, -dCut, -dIn, -dEq, -dNe, -dM, -dLen, -dAdd, -List.any_eq_true, -List.all_eq_true, -List.any_eq_false, -List.all_eq_false]
      subst e7
      refine seq_gen fun k6 e8 => ?_
      simp [-dSeq, -List.getD_eq_getElem?_getD, -dIx, -dCut, -dIn, -dEq, -dNe, -dM, -dLen, -dAdd, -List.any_eq_true, -List.all_eq_true, -List.any_eq_false, -List.all_eq_false, -dRepr]
      refine nall.rep' (by omega) (by omega) ?_
      refine l_rest hlo.ok hlog.ok hx hn ?_
      subst e8
      refine seq_gen fun k7 e9 => ?_
      simp [-dSeq, -List.getD_eq_getElem?_getD, -dIx, -dCut, -dIn, -dEq, -dNe, -dM, -dLen, -dAdd, -List.any_eq_true, -List.all_eq_true, -List.any_eq_false, -List.all_eq_false, -dRepr]
      refine s_rest hlo.ok hfi.lt hlog.ok hx hn ?_
      have nrest : Nice 1 20003 (.tuple (NL ((lgOf lot fs log hlog.ok).gt log.length).1)) := by
        have ok2 := Lg.gt_ok (L := lgOf lot fs log hlog.ok) log.length
        have len2 := (Lg.gt_len (lgOf lot fs log hlog.ok) log.length).1
        refine nice_tuple (k := 0) (m := 20000) (niceL_map (c := 10) (m := 1000) (fun i hi => nice_nat ?_) (by omega) (by omega))
        rw [ok2.kept, List.mem_filter, List.mem_range] at hi
        omega
      refine nrest.rep' (by omega) (by omega) ?_
      refine nrest.rep' (by omega) (by omega) ?_
      simp [-dSeq, -List.getD_eq_getElem?_getD, -dIx, -dCut, -dIn, -dEq, -dNe, -dM, -dLen, -dAdd, -List.any_eq_true, -List.all_eq_true, -List.any_eq_false, -List.all_eq_false]
      refine l_strikes_right hlo.ok hfi.lt hlog.ok hx hni hn ?_
      simp [-dSeq, -List.getD_eq_getElem?_getD, -dIx, -dCut, -dIn, -dEq, -dNe, -dM, -dLen, -dAdd, -List.any_eq_true, -List.all_eq_true, -List.any_eq_false, -List.all_eq_false]
      subst e9
      refine seq_gen fun k8 e10 => ?_
      simp [-dSeq, -List.getD_eq_getElem?_getD, -dIx, -dCut, -dIn, -dEq, -dNe, -dM, -dLen, -dAdd, -List.any_eq_true, -List.all_eq_true, -List.any_eq_false, -List.all_eq_false]
      refine l_deeds hlo ?_
      simp [-dSeq, -List.getD_eq_getElem?_getD, -dIx, -dCut, -dIn, -dEq, -dNe, -dM, -dLen, -dAdd, -List.any_eq_true, -List.all_eq_true, -List.any_eq_false, -List.all_eq_false]
      refine forPass deD (fun ρ => ∃ s9 s10 s11 : Slot, ρ = [.un, .so, .sh (.int (i : Int)), .sh (lotD lot), .sh (fiD fs), .sh (.int (many : Nat)), .sh (logD log), .sh (.str (PyData.list [lotD lot, fiD fs, logD log]).shown), .sh (.list (NL ((lgOf lot fs log hlog.ok).gt log.length).1)), s9, s10, s11]) ⟨_, _, _, rfl⟩ (fun x hxm ρ hP D2 e11 e12 hD2 => ?_) fun ρ hP => ?_
      · obtain ⟨s9, s10, s11, rfl⟩ := hP
        have hxd := has_lot hxm
        have nx2 := fun s9 s10 s11 => (hD2 _ ⟨s9, s10, s11, rfl⟩).1
        simp [-dSeq, -List.getD_eq_getElem?_getD, -dIx, -dCut, -dIn, -dEq, -dNe, -dM, -dLen, -dAdd, -List.any_eq_true, -List.all_eq_true, -List.any_eq_false, -List.all_eq_false]
        refine seq_gen fun k9 e13 => ?_
        simp [-dSeq, -List.getD_eq_getElem?_getD, -dIx, -dCut, -dIn, -dEq, -dNe, -dM, -dLen, -dAdd, -List.any_eq_true, -List.all_eq_true, -List.any_eq_false, -List.all_eq_false]
        refine s_can_strike hlo.ok hfi.lt hlog.ok hx hxd hn ?_
        refine s_may_undo hlo.ok hfi.lt hx hxd hn ?_
        subst e13
        refine seq_gen fun k10 e14 => ?_
        simp [-dSeq, -List.getD_eq_getElem?_getD, -dIx, -dCut, -dIn, -dEq, -dNe, -dM, -dLen, -dAdd, -List.any_eq_true, -List.all_eq_true, -List.any_eq_false, -List.all_eq_false]
        refine l_can_strike hlo.ok hlog.ok hx hxd hn ?_
        refine l_may_undo hlo.ok hx hxd hn ?_
        subst e14
        have n2 := nice_two (canS (gF lot fs) log x) (mayU (gF lot fs) log x)
        simp [-dSeq, -List.getD_eq_getElem?_getD, -dIx, -dCut, -dIn, -dEq, -dNe, -dM, -dLen, -dAdd, -List.any_eq_true, -List.all_eq_true, -List.any_eq_false, -List.all_eq_false, -dRepr]
        refine n2.rep' (by omega) (by omega) ?_
        refine n2.rep' (by omega) (by omega) ?_
        simp [-dSeq, -List.getD_eq_getElem?_getD, -dIx, -dCut, -dIn, -dEq, -dNe, -dM, -dLen, -dAdd, -List.any_eq_true, -List.all_eq_true, -List.any_eq_false, -List.all_eq_false]
        simpa [-List.getD_eq_getElem?_getD, -dIx, -dCut, -dIn, -dEq, -dNe, -dM, -dLen, -dAdd, -List.any_eq_true, -List.all_eq_true, -List.any_eq_false, -List.all_eq_false] using nx2 _ _ _
      obtain ⟨s9, s10, s11, rfl⟩ := hP
      subst e10
      dsimp only
      refine seq_gen fun k9 e11 => ?_
      simp [-dSeq, -List.getD_eq_getElem?_getD, -dIx, -dCut, -dIn, -dEq, -dNe, -dM, -dLen, -dAdd, -List.any_eq_true, -List.all_eq_true, -List.any_eq_false, -List.all_eq_false]
      refine l_knots_right hlo.ok hfi.lt hlog.ok hx hn ?_
      simp [-dSeq, -List.getD_eq_getElem?_getD, -dIx, -dCut, -dIn, -dEq, -dNe, -dM, -dLen, -dAdd, -List.any_eq_true, -List.all_eq_true, -List.any_eq_false, -List.all_eq_false]
      refine l_steps_right hlo.ok hfi.lt hlog.ok hx hn ?_
      simp [-dSeq, -List.getD_eq_getElem?_getD, -dIx, -dCut, -dIn, -dEq, -dNe, -dM, -dLen, -dAdd, -List.any_eq_true, -List.all_eq_true, -List.any_eq_false, -List.all_eq_false]
      subst e11
      simp [-dSeq, -List.getD_eq_getElem?_getD, -dIx, -dCut, -dIn, -dEq, -dNe, -dM, -dLen, -dAdd, -List.any_eq_true, -List.all_eq_true, -List.any_eq_false, -List.all_eq_false, -dRepr]
      refine nall.rep' (by omega) (by omega) ?_
      simp [-dSeq, -List.getD_eq_getElem?_getD, -dIx, -dCut, -dIn, -dEq, -dNe, -dM, -dLen, -dAdd, -List.any_eq_true, -List.all_eq_true, -List.any_eq_false, -List.all_eq_false]
      simpa [-List.getD_eq_getElem?_getD, -dIx, -dCut, -dIn, -dEq, -dNe, -dM, -dLen, -dAdd, -List.any_eq_true, -List.all_eq_true, -List.any_eq_false, -List.all_eq_false] using nx _ _ _ _ _ _ _ _ _ _
    have hlne : lot ≠ [] := by rintro rfl; rw [List.length_nil] at hll; omega
    simp [-dSeq, -List.getD_eq_getElem?_getD, -dIx, -dCut, -dIn, -dEq, -dNe, -dM, -dLen, -dAdd, -List.any_eq_true, -List.all_eq_true, -List.any_eq_false, -List.all_eq_false]
    by_cases hi3 : i = 3
    · subst hi3
      simp [-dSeq, -List.getD_eq_getElem?_getD, -dIx, -dCut, -dIn, -dEq, -dNe, -dM, -dLen, -dAdd, -List.any_eq_true, -List.all_eq_true, -List.any_eq_false, -List.all_eq_false]
      refine l_pick (by omega) fun z z0 z1 => ?_
      by_cases hz : z = 0
      · simp [-dSeq, -List.getD_eq_getElem?_getD, -dIx, -dCut, -dIn, -dEq, -dNe, -dM, -dLen, -dAdd, -List.any_eq_true, -List.all_eq_true, -List.any_eq_false, -List.all_eq_false, hz]
        refine l_draw_lot (runs := 5) (by omega) fun lot2 hlo2 hll2 => ?_
        simp [-dSeq, -List.getD_eq_getElem?_getD, -dIx, -dCut, -dIn, -dEq, -dNe, -dM, -dLen, -dAdd, -List.any_eq_true, -List.all_eq_true, -List.any_eq_false, -List.all_eq_false]
        refine l_pick (by omega) fun y y0 y1 => ?_
        simp [-dSeq, -List.getD_eq_getElem?_getD, -dIx, -dCut, -dIn, -dEq, -dNe, -dM, -dLen, -dAdd, -List.any_eq_true, -List.all_eq_true, -List.any_eq_false, -List.all_eq_false]
        refine l_draw_fights hlo2 (by omega) fun fs2 hfi2 => ?_
        have := tail lot2 fs2 60 s6 s7 s8 s9 s10 s11 hlo2 (by rintro rfl; rw [List.length_nil] at hll2; omega) hfi2 (by omega)
        simpa [-List.getD_eq_getElem?_getD, -dIx, -dCut, -dIn, -dEq, -dNe, -dM, -dLen, -dAdd, -List.any_eq_true, -List.all_eq_true, -List.any_eq_false, -List.all_eq_false] using this
      · simp [-dSeq, -List.getD_eq_getElem?_getD, -dIx, -dCut, -dIn, -dEq, -dNe, -dM, -dLen, -dAdd, -List.any_eq_true, -List.all_eq_true, -List.any_eq_false, -List.all_eq_false, hz]
        have := tail lot fs (4 + w.toNat) s6 s7 s8 s9 s10 s11 hlo hlne hfi (by omega)
        simpa [-List.getD_eq_getElem?_getD, -dIx, -dCut, -dIn, -dEq, -dNe, -dM, -dLen, -dAdd, -List.any_eq_true, -List.all_eq_true, -List.any_eq_false, -List.all_eq_false] using this
    · have hi4 : ¬ (i : Int) = 3 := by omega
      simp [-dSeq, -List.getD_eq_getElem?_getD, -dIx, -dCut, -dIn, -dEq, -dNe, -dM, -dLen, -dAdd, -List.any_eq_true, -List.all_eq_true, -List.any_eq_false, -List.all_eq_false, hi4, hi3]
      have := tail lot fs (4 + w.toNat) s6 s7 s8 s9 s10 s11 hlo hlne hfi (by omega)
      simpa [-List.getD_eq_getElem?_getD, -dIx, -dCut, -dIn, -dEq, -dNe, -dM, -dLen, -dAdd, -List.any_eq_true, -List.all_eq_true, -List.any_eq_false, -List.all_eq_false] using this
  · obtain ⟨s2, s3, s4, s5, s6, s7, s8, s9, s10, s11, rfl⟩ := hP
    subst e1
    simp [-dSeq, -List.getD_eq_getElem?_getD, -dIx, -dCut, -dIn, -dEq, -dNe, -dM, -dLen, -dAdd, -List.any_eq_true, -List.all_eq_true, -List.any_eq_false, -List.all_eq_false]
end
end W_k17

namespace W_k17
theorem plain (K : PySem.W.Frag) : Plain K := W_k17.l_law
end W_k17
open PySem PySem.W PySem.Calls PyProof.Rows
theorem PySem.Challenge.cw_togethersafe_k17_whole_rests_and_knots_holds : PySem.Challenge.rw_togethersafe_k17_whole_rests_and_knots.Holds := by
  w_on; o_law
  refine HandSHeadRun.head_any (r := OpenLaw.row PySem.Challenge.rw_togethersafe_k17_whole_rests_and_knots) (q := view (OpenLaw.row PySem.Challenge.rw_togethersafe_k17_whole_rests_and_knots).prog [57]) (H := W_k17.hk) (ob := W_k17.ob) (M := 3880) (loose := W_k17.nms) (d := HandSHeadRun.topDef (OpenLaw.row PySem.Challenge.rw_togethersafe_k17_whole_rests_and_knots).prog 57) (kwd := []) W_k17.ob_eq
    (by kernel_rfl) (fun s => by kernel_rfl) W_k17.run (by kernel_rfl) (by kernel_rfl) (by kernel_rfl) (by rfl) (by first | assumption | decide +kernel) (by decide +kernel) ⟨rfl, rfl, rfl, rfl, rfl, by decide +kernel⟩ ?hw ?hc
  case hw => w_witness2
  case hc =>
    refine VL.end_law (l := PySem.Challenge.rw_togethersafe_k17_whole_rests_and_knots) (n := 63) (k := 53) (x := "script") rfl (by decide) (by kernel_rfl) ⟨rfl, by decide, by decide⟩ ?F
    intro w mg fa h Y G hmg0
    obtain ⟨K, KX, c⟩ := Y
    have hmg : mg ("law" : PySem.Str) = some (.ref fa) := by
      have e : (HandSHeadRun.topDef (OpenLaw.row PySem.Challenge.rw_togethersafe_k17_whole_rests_and_knots).prog 57).name = ("law" : PySem.Str) := by kernel_rfl
      rw [← e]
      exact hmg0
    have fx : VL.Fx W_k17.fal W_k17.gsl W_k17.fnl K mg := ⟨⟨h, KX, G, c⟩⟩
    obtain ⟨fd, F⟩ := fx.fd 47 "law" W_k17.st_law
    have e := hmg.symm.trans (fx.glo 47 "law")
    cases e
    have b := L2.FunD.bindsA (ps := ["script"]) F fun _ _ _ _ _ _ us hl => match us, hl with | [_], _ => rfl
    exact ⟨K, fd, VL.spLaw K, KX, fun s v => b s [v] rfl, fun H a ns hl hO hS => ⟨a, ns, rfl, hS, hl, hO, fun _ => rfl⟩, fun base _ _ => W_k17.law_all (W_k17.plain K) fx F⟩
