import PyProof.Rows.All
import Wide.All
import OpenK.AllK
import Wide.FinOn
import HandS.ForMost
import HandS.ForExc
import HandS.TryMany
import HandS.Wide
import HandS.Flow
import HandS.Deep
import HandS.Style
import HandS.IsInst
import HandS.Conv
import HandS.ExcField
import HandS.HeadHook1
import HandS.HeadHook2
import HandS.Defaults
import HandS.WideMore
import HandS.TupAny
import HandS.TupMul
import HandS.SortInts
import HandS.ExcInit
import HandS.Nested
import KE.KExcSuper
import HandS.ExcSuper
import HandS.EndBits
import HandS.HeadEnd
import HandS.Head0
import HandS.Head1
import HandS.Head2
import PySem.Challenge.RW_classledger_k55_points_over_greater_fiel
set_option Elab.async false
set_option linter.all false
set_option maxRecDepth 100000
namespace PT
open PySem PySem.Spec L2

/-! plain trees -/
set_option autoImplicit false
abbrev Sg := List (Option V)
inductive T where
  | non | bl (b : Bool) | int (i : Int) | str (x : Str) | tup (l : List T) | lst (l : List T)
  | dk (ks : List Key) (l : List T) | dt (ks : List (List Key)) (l : List T) | fn (x : Str)
  /-- a built-in class; the script, a list or a tuple of the module's top -/
  | ty (n : String) | frz (l : List T) | kt (l : List T)

/-- the module: what stays through a law -/
structure MC where
  P : Program
  w : World
  K : PySem.W.Frag
  mg : Str → Option Value
  base : Heap
def mc (X : Cx) : MC := ⟨X.prog, X.w, X.K, X.mg, X.base⟩

mutual
def Rep (G : MC) (F : Hp) : T → V → Prop
  | .non, v => v = .non
  | .bl b, v => v = .bl b
  | .int i, v => v = .int i
  | .str x, v => v = .str x
  | .tup l, v => ∃ a vs, v = .ref a ∧ F a = some (.tup vs) ∧ Reps G F l vs
  | .lst l, v => ∃ a vs, v = .ref a ∧ F a = some (.lst vs) ∧ Reps G F l vs
  | .dk ks l, v => ∃ a vs, v = .ref a ∧ F a = some (.dK (ks.zip vs)) ∧ ks.length = vs.length ∧ Reps G F l vs
  | .dt ks l, v => ∃ a vs, v = .ref a ∧ F a = some (.dT (ks.zip vs)) ∧ ks.length = vs.length ∧ Reps G F l vs
  | .fn x, v => ∃ f, v = .ref f ∧ G.mg x = some (.ref f)
  | .ty n, v => v = .ty n
  | .frz l, v => ∃ a vs, v = .ref a ∧ SqL G.K F a vs ∧ Reps G F l vs
  | .kt l, v => ∃ a vs, v = .ref a ∧ SqT G.K F a vs ∧ Reps G F l vs
def Reps (G : MC) (F : Hp) : List T → List V → Prop
  | [], vs => vs = []
  | t :: l, vs => ∃ v r, vs = v :: r ∧ Rep G F t v ∧ Reps G F l r
end

/-- F' knows more than F -/
def Ext (F F' : Hp) : Prop := ∀ b o, F b = some o → F' b = some o
theorem Ext.refl (F : Hp) : Ext F F := fun _ _ h => h
theorem Ext.trans {F F' F'' : Hp} (a : Ext F F') (b : Ext F' F'') : Ext F F'' := fun c o h => b c o (a c o h)
theorem Ext.sqL {K : PySem.W.Frag} {F F' : Hp} {a : Addr} {xs : List V} (e : Ext F F') (h : SqL K F a xs) : SqL K F' a xs := Same.seq e h
theorem Ext.sqT {K : PySem.W.Frag} {F F' : Hp} {a : Addr} {xs : List V} (e : Ext F F') (h : SqT K F a xs) : SqT K F' a xs := by
  rcases h with (h | ⟨o, h⟩) | h
  · exact .inl (.inl (e _ _ h))
  · exact .inl (.inr ⟨o, e _ _ h⟩)
  · exact .inr h
mutual
theorem Rep.mono {G : MC} {F F' : Hp} (e : Ext F F') : ∀ {t : T} {v : V}, Rep G F t v → Rep G F' t v
  | .non, _, h => by simpa [Rep] using h
  | .bl _, _, h => by simpa [Rep] using h
  | .int _, _, h => by simpa [Rep] using h
  | .str _, _, h => by simpa [Rep] using h
  | .tup l, _, h => by
    simp only [Rep] at h ⊢
    obtain ⟨a, vs, h1, h2, h3⟩ := h
    exact ⟨a, vs, h1, e _ _ h2, Reps.mono e h3⟩
  | .lst l, _, h => by
    simp only [Rep] at h ⊢
    obtain ⟨a, vs, h1, h2, h3⟩ := h
    exact ⟨a, vs, h1, e _ _ h2, Reps.mono e h3⟩
  | .dk ks l, _, h => by
    simp only [Rep] at h ⊢
    obtain ⟨a, vs, h1, h2, h4, h3⟩ := h
    exact ⟨a, vs, h1, e _ _ h2, h4, Reps.mono e h3⟩
  | .dt ks l, _, h => by
    simp only [Rep] at h ⊢
    obtain ⟨a, vs, h1, h2, h4, h3⟩ := h
    exact ⟨a, vs, h1, e _ _ h2, h4, Reps.mono e h3⟩
  | .fn _, _, h => by simpa [Rep] using h
  | .ty _, _, h => by simpa [Rep] using h
  | .frz l, _, h => by
    simp only [Rep] at h ⊢
    obtain ⟨a, vs, h1, h2, h3⟩ := h
    exact ⟨a, vs, h1, e.sqL h2, Reps.mono e h3⟩
  | .kt l, _, h => by
    simp only [Rep] at h ⊢
    obtain ⟨a, vs, h1, h2, h3⟩ := h
    exact ⟨a, vs, h1, e.sqT h2, Reps.mono e h3⟩
theorem Reps.mono {G : MC} {F F' : Hp} (e : Ext F F') : ∀ {l : List T} {vs : List V}, Reps G F l vs → Reps G F' l vs
  | [], _, h => by simpa [Reps] using h
  | t :: l, _, h => by
    simp only [Reps] at h ⊢
    obtain ⟨v, r, h1, h2, h3⟩ := h
    exact ⟨v, r, h1, Rep.mono e h2, Reps.mono e h3⟩
end
section
variable {G : MC} {F : Hp}
theorem Reps.nil : Reps G F [] [] := by simp [Reps]
theorem Reps.nil_iff {vs : List V} : Reps G F [] vs ↔ vs = [] := by simp [Reps]
theorem Reps.cons {t : T} {v : V} {l : List T} {vs : List V} (h : Rep G F t v) (r : Reps G F l vs) : Reps G F (t :: l) (v :: vs) := by
  simp only [Reps]
  exact ⟨v, vs, rfl, h, r⟩
theorem Reps.inv {t : T} {l : List T} {vs : List V} (h : Reps G F (t :: l) vs) : ∃ v r, vs = v :: r ∧ Rep G F t v ∧ Reps G F l r := by
  simpa only [Reps] using h
theorem Reps.len : ∀ {l : List T} {vs : List V}, Reps G F l vs → vs.length = l.length
  | [], _, h => by rw [Reps.nil_iff.mp h]; rfl
  | t :: l, _, h => by
    obtain ⟨v, r, rfl, _, h3⟩ := h.inv
    simp [Reps.len h3]
theorem Reps.at_ : ∀ {l : List T} {vs : List V} {i : Nat} {t : T}, Reps G F l vs → l[i]? = some t → ∃ v, vs[i]? = some v ∧ Rep G F t v
  | [], _, _, _, _, e => by simp at e
  | t :: l, _, 0, _, h, e => by
    obtain ⟨v, r, rfl, h2, _⟩ := h.inv
    simp at e
    subst e
    exact ⟨v, rfl, h2⟩
  | t :: l, _, i + 1, _, h, e => by
    obtain ⟨v, r, rfl, _, h3⟩ := h.inv
    obtain ⟨v', e', h'⟩ := Reps.at_ (i := i) h3 (by simpa using e)
    exact ⟨v', by simpa using e', h'⟩
theorem Reps.append : ∀ {l m : List T} {vs ws : List V}, Reps G F l vs → Reps G F m ws → Reps G F (l ++ m) (vs ++ ws)
  | [], _, _, _, h, k => by rw [Reps.nil_iff.mp h]; exact k
  | t :: l, _, _, _, h, k => by
    obtain ⟨v, r, rfl, h2, h3⟩ := h.inv
    exact Reps.cons h2 (Reps.append h3 k)
theorem Reps.take : ∀ {l : List T} {vs : List V} (n : Nat), Reps G F l vs → Reps G F (l.take n) (vs.take n)
  | _, _, 0, _ => by simp; exact .nil
  | [], _, n + 1, h => by rw [Reps.nil_iff.mp h]; exact .nil
  | t :: l, _, n + 1, h => by
    obtain ⟨v, r, rfl, h2, h3⟩ := h.inv
    exact .cons h2 (Reps.take n h3)
theorem Reps.drop : ∀ {l : List T} {vs : List V} (n : Nat), Reps G F l vs → Reps G F (l.drop n) (vs.drop n)
  | _, _, 0, h => h
  | [], _, n + 1, h => by rw [Reps.nil_iff.mp h]; exact .nil
  | t :: l, _, n + 1, h => by
    obtain ⟨v, r, rfl, h2, h3⟩ := h.inv
    exact Reps.drop n h3
theorem Reps.set {t : T} {v : V} (q : Rep G F t v) : ∀ {l : List T} {vs : List V} (i : Nat), Reps G F l vs → Reps G F (l.set i t) (vs.set i v)
  | [], _, _, h => by rw [Reps.nil_iff.mp h]; exact .nil
  | _ :: l, _, 0, h => by
    obtain ⟨v, r, rfl, h2, h3⟩ := h.inv
    exact .cons q h3
  | _ :: l, _, i + 1, h => by
    obtain ⟨v, r, rfl, h2, h3⟩ := h.inv
    exact .cons h2 (Reps.set q i h3)
theorem Reps.reverse : ∀ {l : List T} {vs : List V}, Reps G F l vs → Reps G F l.reverse vs.reverse
  | [], _, h => by rw [Reps.nil_iff.mp h]; exact .nil
  | t :: l, _, h => by
    obtain ⟨v, r, rfl, h2, h3⟩ := h.inv
    simp only [List.reverse_cons]
    exact (Reps.reverse h3).append (.cons h2 .nil)
theorem Reps.ints : ∀ {ns : List Int} {vs : List V}, Reps G F (ns.map T.int) vs → vs = ns.map V.int
  | [], _, h => Reps.nil_iff.mp h
  | n :: ns, _, h => by
    obtain ⟨v, r, rfl, h2, h3⟩ := h.inv
    have e : v = .int n := by simpa [Rep] using h2
    rw [e, Reps.ints h3]
    rfl
theorem Reps.of_ints : ∀ {ns : List Int}, Reps G F (ns.map T.int) (ns.map V.int)
  | [] => .nil
  | n :: ns => .cons (by simp [Rep]) Reps.of_ints
end

/-! objects that a def still changes -/
inductive OK where
  | l | dk (ks : List Key) | dt (ks : List (List Key))
structure OT where
  k : OK
  ts : List T
def OT.t : OT → T
  | ⟨.l, ts⟩ => .lst ts
  | ⟨.dk ks, ts⟩ => .dk ks ts
  | ⟨.dt ks, ts⟩ => .dt ks ts
def OK.ho (vs : List V) : OK → HO
  | .l => .lst vs
  | .dk ks => .dK (ks.zip vs)
  | .dt ks => .dT (ks.zip vs)
def OK.fits (n : Nat) : OK → Prop
  | .l => True
  | .dk ks => ks.length = n
  | .dt ks => ks.length = n
/-- at a stands the object o, that nothing else knows -/
def OwnAt (G : MC) (F H : Hp) (o : OT) (a : Addr) : Prop := ∃ vs, H a = some (o.k.ho vs) ∧ o.k.fits vs.length ∧ Reps G F o.ts vs ∧ F a = none

inductive Slot where
  | un | val (t : T) | own (io : Bool) (o : OT)

def SlotRel (G : MC) (F H : Hp) : Slot → Option V → Prop
  | .un, _ => True
  | .val t, x => ∃ v, x = some v ∧ Rep G F t v
  | .own _ o, x => ∃ a, x = some (.ref a) ∧ OwnAt G F H o a

/-- frozen things stand in the heap -/
def Frz (F H : Hp) : Prop := Ext F H

/-- the i-th slot is an own object at a -/
def OwnI (env : List Slot) (σ : Sg) (i : Nat) (io : Bool) (a : Addr) : Prop := (∃ o, env[i]? = some (.own io o)) ∧ σ[i]? = some (some (.ref a))
def OwnA (env : List Slot) (σ : Sg) (a : Addr) : Prop := ∃ i io, OwnI env σ i io a
def OwnIO (env : List Slot) (σ : Sg) (a : Addr) : Prop := ∃ i, OwnI env σ i true a
theorem OwnIO.a {env : List Slot} {σ : Sg} {a : Addr} (h : OwnIO env σ a) : OwnA env σ a := ⟨h.choose, true, h.choose_spec⟩

structure ER (G : MC) (env : List Slot) (σ : Sg) (F H : Hp) : Prop where
  len : env.length = σ.length
  frz : Frz F H
  at_ : ∀ (i : Nat) (s : Slot) (x : Option V), env[i]? = some s → σ[i]? = some x → SlotRel G F H s x
  dis : ∀ (i j : Nat) (io jo : Bool) (a : Addr), OwnI env σ i io a → OwnI env σ j jo a → i = j

section
variable {G : MC} {env : List Slot} {σ : Sg} {F H : Hp}
theorem ER.val (h : ER G env σ F H) {i : Nat} {t : T} (e : env[i]? = some (.val t)) : ∃ v, σ[i]? = some (some v) ∧ Rep G F t v := by
  have hi : i < env.length := (List.getElem?_eq_some_iff.mp e).1
  have hs : i < σ.length := by rw [← h.len]; exact hi
  have e2 : σ[i]? = some σ[i] := List.getElem?_eq_getElem hs
  obtain ⟨v, h1, h2⟩ := h.at_ i _ _ e e2
  exact ⟨v, by rw [e2, h1], h2⟩
theorem ER.own (h : ER G env σ F H) {i : Nat} {io : Bool} {o : OT} (e : env[i]? = some (.own io o)) : ∃ a, σ[i]? = some (some (.ref a)) ∧ OwnAt G F H o a := by
  have hi : i < env.length := (List.getElem?_eq_some_iff.mp e).1
  have hs : i < σ.length := by rw [← h.len]; exact hi
  have e2 : σ[i]? = some σ[i] := List.getElem?_eq_getElem hs
  obtain ⟨a, h1, h2⟩ := h.at_ i _ _ e e2
  exact ⟨a, by rw [e2, h1], h2⟩
theorem ER.ownA (h : ER G env σ F H) {a : Addr} (x : OwnA env σ a) : F a = none ∧ ∃ o, H a = some o := by
  obtain ⟨i, io, ⟨o, e⟩, e2⟩ := x
  obtain ⟨a', e3, vs, h1, _, _, h4⟩ := h.own e
  rw [e2] at e3
  cases e3
  exact ⟨h4, _, h1⟩
end

/-- a step of a statement: the slots may change -/
structure StepS (G : MC) (env : List Slot) (σ : Sg) (F H : Hp) (env' : List Slot) (σ' : Sg) (F' H' : Hp) : Prop where
  rel : ER G env' σ' F' H'
  ext : Ext F F'
  new : ∀ b o, F' b = some o → F b = some o ∨ H b = none ∨ OwnA env σ b
  keep : ∀ b o, H b = some o → ¬ OwnA env σ b → H' b = some o
  some_ : ∀ b, H b ≠ none → H' b ≠ none
  own : ∀ b, OwnA env' σ' b → OwnA env σ b ∨ H b = none
  io : ∀ (i : Nat) (o : OT), env[i]? = some (.own true o) → (∃ o', env'[i]? = some (.own true o')) ∧ σ'[i]? = σ[i]?
  len : env'.length = env.length
/-- a step of an expression: only own objects that are lent may change -/
structure StepE (G : MC) (env : List Slot) (σ : Sg) (F H : Hp) (env' : List Slot) (F' H' : Hp) : Prop extends StepS G env σ F H env' σ F' H' where
  keepE : ∀ b o, H b = some o → ¬ OwnIO env σ b → H' b = some o
  slot : ∀ (i : Nat) (s : Slot), env[i]? = some s → env'[i]? = some s ∨ (∃ o, s = .own true o) ∨ ∃ o, s = .own false o ∧ env'[i]? = some (.val o.t)
  ownE : ∀ b, OwnA env' σ b → OwnA env σ b
/-- a step that touches no own object -/
structure Grow (F H F' H' : Hp) : Prop where
  ext : Ext F F'
  frz : Frz F' H'
  new : ∀ b o, F' b = some o → F b = some o ∨ H b = none
  keep : Ext H H'

section
variable {G : MC} {env env' env'' : List Slot} {σ σ' σ'' : Sg} {F F' F'' H H' H'' : Hp}
theorem Grow.refl (f : Frz F H) : Grow F H F H := ⟨Ext.refl _, f, fun _ _ h => .inl h, Ext.refl _⟩
theorem none_of_ext {H H' : Hp} {b : Addr} (k : Ext H H') (h : H' b = none) : H b = none := Same.free k h
theorem Grow.trans (a : Grow F H F' H') (b : Grow F' H' F'' H'') : Grow F H F'' H'' :=
  ⟨a.ext.trans b.ext, b.frz, fun c o h => (b.new c o h).elim (fun h => a.new c o h) fun h => .inr (none_of_ext a.keep h), a.keep.trans b.keep⟩
theorem OwnAt.grow {o : OT} {a : Addr} (h : OwnAt G F H o a) (g : Grow F H F' H') : OwnAt G F' H' o a := by
  obtain ⟨vs, h1, h2, h3, h4⟩ := h
  refine ⟨vs, g.keep _ _ h1, h2, h3.mono g.ext, ?_⟩
  cases e : F' a with
  | none => rfl
  | some u =>
    rcases g.new a u e with h | h
    · rw [h4] at h; cases h
    · rw [h1] at h; cases h
theorem ER.grow (h : ER G env σ F H) (g : Grow F H F' H') : ER G env σ F' H' := by
  refine ⟨h.len, g.frz, fun i s x e e2 => ?_, h.dis⟩
  have q := h.at_ i s x e e2
  cases s with
  | un => trivial
  | val t =>
    obtain ⟨v, h1, h2⟩ := q
    exact ⟨v, h1, h2.mono g.ext⟩
  | own io o =>
    obtain ⟨a, h1, h2⟩ := q
    exact ⟨a, h1, h2.grow g⟩
theorem StepE.of_grow (h : ER G env σ F H) (g : Grow F H F' H') : StepE G env σ F H env F' H' where
  rel := h.grow g
  ext := g.ext
  new := fun b o e => (g.new b o e).elim .inl fun h => .inr (.inl h)
  keep := fun b o e _ => g.keep b o e
  some_ := fun b e => by
    cases q : H b with
    | none => exact absurd q e
    | some u => rw [g.keep b u q]; exact Option.some_ne_none _
  own := fun b h => .inl h
  io := fun i o e => ⟨⟨o, e⟩, rfl⟩
  len := rfl
  keepE := fun b o e _ => g.keep b o e
  slot := fun i s e => .inl e
  ownE := fun b h => h
theorem StepE.refl (h : ER G env σ F H) : StepE G env σ F H env F H := StepE.of_grow h (Grow.refl h.frz)
theorem StepS.trans (a : StepS G env σ F H env' σ' F' H') (b : StepS G env' σ' F' H' env'' σ'' F'' H'') : StepS G env σ F H env'' σ'' F'' H'' where
  rel := b.rel
  ext := a.ext.trans b.ext
  new := fun c o h => by
    rcases b.new c o h with h | h | h
    · exact a.new c o h
    · refine .inr (.inl ?_)
      cases e : H c with
      | none => rfl
      | some u => exact absurd h (a.some_ c (by rw [e]; exact Option.some_ne_none _))
    · rcases a.own c h with h | h
      · exact .inr (.inr h)
      · exact .inr (.inl h)
  keep := fun c o h n => by
    refine b.keep c o (a.keep c o h n) fun z => ?_
    rcases a.own c z with z | z
    · exact n z
    · rw [h] at z; cases z
  some_ := fun c h => b.some_ c (a.some_ c h)
  own := fun c h => by
    rcases b.own c h with h | h
    · exact a.own c h
    · refine .inr ?_
      cases e : H c with
      | none => rfl
      | some u => exact absurd h (a.some_ c (by rw [e]; exact Option.some_ne_none _))
  io := fun i o e => by
    obtain ⟨⟨o', e'⟩, h⟩ := a.io i o e
    obtain ⟨h1, h2⟩ := b.io i o' e'
    exact ⟨h1, h2.trans h⟩
  len := b.len.trans a.len
theorem StepE.ownIO (a : StepE G env σ F H env' F' H') {b : Addr} (h : OwnIO env' σ b) : OwnIO env σ b := by
  obtain ⟨i, ⟨o, e⟩, e2⟩ := h
  have hi : i < env.length := by rw [← a.len]; exact (List.getElem?_eq_some_iff.mp e).1
  have e0 := List.getElem?_eq_getElem hi
  rcases a.slot i _ e0 with q | ⟨o', q⟩ | ⟨o', q, q2⟩
  · rw [q] at e
    exact ⟨i, ⟨o, by rw [e0, Option.some.inj e]⟩, e2⟩
  · exact ⟨i, ⟨o', by rw [e0, q]⟩, e2⟩
  · rw [q2] at e; cases e
theorem StepE.trans (a : StepE G env σ F H env' F' H') (b : StepE G env' σ F' H' env'' F'' H'') : StepE G env σ F H env'' F'' H'' where
  toStepS := a.toStepS.trans b.toStepS
  keepE := fun c o h n => b.keepE c o (a.keepE c o h n) fun z => n (a.ownIO z)
  slot := fun i s e => by
    rcases a.slot i s e with q | q | ⟨o, q, q2⟩
    · exact b.slot i s q
    · exact .inr (.inl q)
    · rcases b.slot i _ q2 with z | ⟨o', z⟩ | ⟨o', z, _⟩
      · exact .inr (.inr ⟨o, q, z⟩)
      · cases z
      · cases z
  ownE := fun c h => a.ownE c (b.ownE c h)
end
end PT

set_option Elab.async false
set_option linter.all false
set_option maxRecDepth 100000
set_option autoImplicit false
namespace PT
open PySem PySem.Spec L2

inductive Exc where
  | mal | rsn (r : Str)
/-- an expression's outcome: a value (fr: a new object that nothing else knows), the slots behind it -/
inductive ERes where
  | ok (t : T) (fr : Bool) (env : List Slot) | exc (x : Exc) (env : List Slot) | err
abbrev E := List Slot → ERes
/-- a statement's outcome -/
inductive SRes where
  | nx (env : List Slot) | brk (env : List Slot) | cont (env : List Slot) | ret (t : T) (fr : Bool) (env : List Slot) | exc (x : Exc) (env : List Slot) | err
abbrev S := List Slot → SRes

/-- a value and its tree; H: the heap ahead -/
def RR (G : MC) (F' H' H : Hp) (t : T) : Bool → V → Prop
  | false, v => Rep G F' t v
  | true, v => ∃ a o, v = .ref a ∧ t = o.t ∧ OwnAt G F' H' o a ∧ H a = none
def XR (G : MC) (H H' : Hp) : Exc → Value → Option Addr → Prop
  | .mal, cls, d => ∃ C, G.mg "Malformed" = some (.ref C) ∧ cls = .ref C ∧ d = none
  | .rsn r, cls, d => ∃ C dx fs, G.mg "Refused" = some (.ref C) ∧ cls = .ref C ∧ d = some dx ∧ H' dx = some (.xd fs) ∧ fs.lookup ("reason" : Str) = some (V.str r) ∧ H dx = none

theorem XR.back {G : MC} {H0 H H' : Hp} (k : ∀ b, H0 b ≠ none → H b ≠ none) {x : Exc} {cls : Value} {d : Option Addr} (h : XR G H H' x cls d) : XR G H0 H' x cls d := by
  cases x with
  | mal => exact h
  | rsn r =>
    obtain ⟨C, dx, fs, h1, h2, h3, h4, h5, h6⟩ := h
    refine ⟨C, dx, fs, h1, h2, h3, h4, h5, ?_⟩
    cases e : H0 dx with
    | none => rfl
    | some u => exact absurd h6 (k dx (by rw [e]; exact Option.some_ne_none _))
theorem RR.back {G : MC} {F' H' H0 H : Hp} (k : ∀ b, H0 b ≠ none → H b ≠ none) {t : T} {fr : Bool} {v : V} (h : RR G F' H' H t fr v) : RR G F' H' H0 t fr v := by
  cases fr with
  | false => exact h
  | true =>
    obtain ⟨a, o, h1, h2, h3, h4⟩ := h
    refine ⟨a, o, h1, h2, h3, ?_⟩
    cases e : H0 a with
    | none => rfl
    | some u => exact absurd h4 (k a (by rw [e]; exact Option.some_ne_none _))

/-- what is asked of an expression's outcome -/
def WishE (G : MC) (env : List Slot) (σ : Sg) (F H : Hp) (r : ERes) (Q : VK) (W : XK) : Prop :=
  match r with
  | .err => False
  | .ok t fr env' => ∀ v F' H', StepE G env σ F H env' F' H' → RR G F' H' H t fr v → Q v H'
  | .exc x env' => ∀ cls d F' H', StepE G env σ F H env' F' H' → XR G H H' x cls d → W cls d H'
/-- .. of a test's -/
def truthT : T → Option Bool
  | .non => some false
  | .bl b => some b
  | .int i => some (i != 0)
  | .str x => if x.length ≤ sizeLine then some ((x.length : Int) != 0) else none
  | .tup l => some (!l.isEmpty)
  | .lst l => some (!l.isEmpty)
  | .dk ks _ => some (!ks.isEmpty)
  | _ => none
def WishT (G : MC) (env : List Slot) (σ : Sg) (F H : Hp) (r : ERes) (Q : Bool → Hp → Prop) (W : XK) : Prop :=
  match r with
  | .err => False
  | .ok t _ env' => ∃ b, truthT t = some b ∧ ∀ F' H', StepE G env σ F H env' F' H' → Q b H'
  | .exc x env' => ∀ cls d F' H', StepE G env σ F H env' F' H' → XR G H H' x cls d → W cls d H'
def WishS (G : MC) (env : List Slot) (σ : Sg) (F H : Hp) (r : SRes) (D : Ends) (W : WX) : Prop :=
  match r with
  | .err => False
  | .nx env' => ∀ σ' F' H', StepS G env σ F H env' σ' F' H' → D.nx σ' H'
  | .brk env' => ∀ σ' F' H', StepS G env σ F H env' σ' F' H' → D.bk σ' H'
  | .cont env' => ∀ σ' F' H', StepS G env σ F H env' σ' F' H' → D.ct σ' H'
  | .ret t fr env' => ∀ v σ' F' H', StepS G env σ F H env' σ' F' H' → RR G F' H' H t fr v → D.rt v H'
  | .exc x env' => ∀ cls d σ' F' H', StepS G env σ F H env' σ' F' H' → XR G H H' x cls d → W cls d σ' H'

/-- the closures: some reading holds -/
def WE (X : Cx) (e : Expr) : TE := fun σ H Q => ∃ t, PE X e t ∧ t σ H Q
def WT (X : Cx) (e : Expr) : TT := fun σ H Q => ∃ t, PT X e t ∧ t σ H Q
def WA (X : Cx) (es : List Expr) : TA := fun σ H Q => ∃ t, PA X es t ∧ t σ H Q
def WS (X : Cx) (st : Stmt) : TS := fun D σ H => ∃ t, PS X st t ∧ t D σ H
def WSs (X : Cx) (st : List Stmt) : TS := fun D σ H => ∃ t, PSs X st t ∧ t D σ H
theorem pe_WE {X : Cx} {e : Expr} : PE X e (WE X e) := ⟨fun pins s σ H Q I ⟨_, h, q⟩ => h.run pins s σ H Q I q⟩
theorem pt_WT {X : Cx} {e : Expr} : PT X e (WT X e) := ⟨fun pins s σ H Q I ⟨_, h, q⟩ => h.run pins s σ H Q I q⟩
theorem pa_WA {X : Cx} {es : List Expr} : PA X es (WA X es) := ⟨fun pos pins s σ H Q I ⟨_, h, q⟩ => h.run pos pins s σ H Q I q⟩
theorem ps_WS {X : Cx} {st : Stmt} : PS X st (WS X st) := ⟨fun pins s σ H D I ⟨_, h, q⟩ => h.run pins s σ H D I q⟩
theorem pss_WSs {X : Cx} {st : List Stmt} : PSs X st (WSs X st) := ⟨fun pins s σ H D I ⟨_, h, q⟩ => h.run pins s σ H D I q⟩
/-- what the closure is shown by -/
theorem WE.of {X : Cx} {e : Expr} {t : TE} {σ : Sg} {H : Hp} {Q : VK} (h : PE X e t) (q : t σ H Q) : WE X e σ H Q := ⟨t, h, q⟩
theorem WT.of {X : Cx} {e : Expr} {t : TT} {σ : Sg} {H : Hp} {Q : Bool → Hp → Prop} (h : PT X e t) (q : t σ H Q) : WT X e σ H Q := ⟨t, h, q⟩
theorem WS.of {X : Cx} {e : Stmt} {t : TS} {σ : Sg} {H : Hp} {D : Ends} (h : PS X e t) (q : t D σ H) : WS X e D σ H := ⟨t, h, q⟩
theorem WSs.of {X : Cx} {e : List Stmt} {t : TS} {σ : Sg} {H : Hp} {D : Ends} (h : PSs X e t) (q : t D σ H) : WSs X e D σ H := ⟨t, h, q⟩

/-- the scope's kinds hold in the context -/
structure ScR (sc sc' : Scope) : Prop where
  loc : ∀ x, sc.names.lookup x = some .local → sc'.names.lookup x = some .local
  cell : ∀ x, sc.names.lookup x = some .cell → sc'.names.lookup x = some .cell
  glob : ∀ x, sc.names.lookup x = some .globalImplicit → sc'.names.lookup x = some .globalImplicit
  free : ∀ x, sc.names.lookup x = some .free → sc'.names.lookup x = some .cell ∨ sc'.names.lookup x = some .free
/-- a context of ours -/
structure Gd (G : MC) (sc : Scope) (N : List Str) (k : Nat) (X : Cx) : Prop where
  mcE : mc X = G
  NE : X.N = N
  nd : N.Nodup
  calm : X.calm = true
  room : Room k X.A
  scR : ScR sc X.env.scope
def visB (sc : Scope) (x : Str) : Bool := match sc.names.lookup x with
  | some .local => true
  | some .cell => true
  | some .free => true
  | _ => false
theorem vis_of {sc sc' : Scope} {x : Str} (r : ScR sc sc') (h : visB sc x = true) : Vis sc' x := by
  unfold visB at h
  split at h
  · exact .inl (r.loc x (by assumption))
  · exact .inr (.inl (r.cell x (by assumption)))
  · rcases r.free x (by assumption) with q | q
    · exact .inr (.inl q)
    · exact .inr (.inr q)
  · cases h
def glB (sc : Scope) (x : Str) : Bool := match sc.names.lookup x with
  | some .globalImplicit => true
  | _ => false
theorem gl_of {G : MC} {sc : Scope} {N : List Str} {k : Nat} {X : Cx} (g : Gd G sc N k X) {x : Str} (h : glB sc x = true) : Gl X x := by
  unfold glB at h
  split at h
  · exact g.scR.glob x (by assumption)
  · cases h

/-! ### the judgements -/
def SndE (G : MC) (sc : Scope) (N : List Str) (k : Nat) (e : Expr) (f : E) : Prop :=
  ∀ (X : Cx) (W : WX) (env : List Slot) (σ : Sg) (F H : Hp) (Q : VK), Gd G sc N k X → Takes X W → ER G env σ F H → WishE G env σ F H (f env) Q (fun c d H' => W c d σ H') → WE X e σ H Q
def SndT (G : MC) (sc : Scope) (N : List Str) (k : Nat) (e : Expr) (f : E) : Prop :=
  ∀ (X : Cx) (W : WX) (env : List Slot) (σ : Sg) (F H : Hp) (Q : Bool → Hp → Prop), Gd G sc N k X → Takes X W → ER G env σ F H → WishT G env σ F H (f env) Q (fun c d H' => W c d σ H') → WT X e σ H Q
/-- a context of a statement: loops may run, exceptions leave -/
structure GdS (G : MC) (sc : Scope) (N : List Str) (k : Nat) (X : Cx) : Prop extends Gd G sc N k X where
  own : PassesOwn (model X.prog X.w) X.A X.env X.xe
  same : X.env.scope = sc
  fn : ∀ x, X.fn x = true
  stack : X.stack = X.env :: X.outer
  frame : X.env.frame = some X.env.locals
def SndS (G : MC) (sc : Scope) (N : List Str) (k : Nat) (st : Stmt) (f : S) : Prop :=
  ∀ (X : Cx) (W : WX) (env : List Slot) (σ : Sg) (F H : Hp) (D : Ends), GdS G sc N k X → Takes X W → ER G env σ F H → WishS G env σ F H (f env) D W → WS X st D σ H
def SndSs (G : MC) (sc : Scope) (N : List Str) (k : Nat) (st : List Stmt) (f : S) : Prop :=
  ∀ (X : Cx) (W : WX) (env : List Slot) (σ : Sg) (F H : Hp) (D : Ends), GdS G sc N k X → Takes X W → ER G env σ F H → WishS G env σ F H (f env) D W → WSs X st D σ H

/-! ### the wish behind a first step -/
section
variable {G : MC} {env env1 : List Slot} {σ : Sg} {F H F1 H1 : Hp}
theorem StepE.some' (s : StepE G env σ F H env1 F1 H1) : ∀ b, H b ≠ none → H1 b ≠ none := s.some_
theorem WishE.after {r : ERes} {Q : VK} {W : XK} (s : StepE G env σ F H env1 F1 H1) (h : WishE G env σ F H r Q W) : WishE G env1 σ F1 H1 r Q W := by
  cases r with
  | err => exact h
  | ok t fr env' => exact fun v F' H' s' r => h v F' H' (s.trans s') (r.back s.some_)
  | exc x env' => exact fun c d F' H' s' r => h c d F' H' (s.trans s') (r.back s.some_)
theorem WishT.after {r : ERes} {Q : Bool → Hp → Prop} {W : XK} (s : StepE G env σ F H env1 F1 H1) (h : WishT G env σ F H r Q W) : WishT G env1 σ F1 H1 r Q W := by
  cases r with
  | err => exact h
  | ok t fr env' =>
    obtain ⟨b, e, q⟩ := h
    exact ⟨b, e, fun F' H' s' => q F' H' (s.trans s')⟩
  | exc x env' => exact fun c d F' H' s' r => h c d F' H' (s.trans s') (r.back s.some_)
theorem WishS.after {r : SRes} {D : Ends} {W : WX} {σ1 : Sg} (s : StepS G env σ F H env1 σ1 F1 H1) (h : WishS G env σ F H r D W) : WishS G env1 σ1 F1 H1 r D W := by
  cases r with
  | err => exact h
  | nx env' => exact fun σ' F' H' s' => h σ' F' H' (s.trans s')
  | brk env' => exact fun σ' F' H' s' => h σ' F' H' (s.trans s')
  | cont env' => exact fun σ' F' H' s' => h σ' F' H' (s.trans s')
  | ret t fr env' => exact fun v σ' F' H' s' r => h v σ' F' H' (s.trans s') (r.back s.some_)
  | exc x env' => exact fun c d σ' F' H' s' r => h c d σ' F' H' (s.trans s') (r.back s.some_)
end

/-- a new object is known from now on -/
def know (F : Hp) (a : Addr) (o : HO) : Hp := upd F a o
theorem Grow.freeze {G : MC} {F H : Hp} {o : OT} {a : Addr} (f : Frz F H) (h : OwnAt G F H o a) : ∃ vs, Ext F (upd F a (o.k.ho vs)) ∧ Frz (upd F a (o.k.ho vs)) H ∧ Rep G (upd F a (o.k.ho vs)) o.t (.ref a) ∧ H a = some (o.k.ho vs) := by
  obtain ⟨vs, h1, h2, h3, h4⟩ := h
  have ext : Ext F (upd F a (o.k.ho vs)) := fun b u e => by
    rw [upd_ne (ne_of_none e h4)]
    exact e
  refine ⟨vs, ext, fun b u e => ?_, ?_, h1⟩
  · by_cases hb : b = a
    · subst hb
      rw [upd_same] at e
      cases e
      exact h1
    · rw [upd_ne hb] at e
      exact f b u e
  · obtain ⟨k, ts⟩ := o
    have r := h3.mono ext
    cases k with
    | l => simp only [OT.t, Rep]; exact ⟨a, vs, rfl, upd_same, r⟩
    | dk ks => simp only [OT.t, Rep]; exact ⟨a, vs, rfl, upd_same, h2, r⟩
    | dt ks => simp only [OT.t, Rep]; exact ⟨a, vs, rfl, upd_same, h2, r⟩

theorem ER.know {G : MC} {env : List Slot} {σ : Sg} {F H : Hp} {a : Addr} {o : HO} (h : ER G env σ F H) (ext : Ext F (upd F a o)) (e : H a = some o) (n : ¬ OwnA env σ a) : ER G env σ (upd F a o) H := by
  refine ⟨h.len, fun b u q => ?_, fun i s x e1 e2 => ?_, h.dis⟩
  · by_cases hb : b = a
    · subst hb
      rw [upd_same] at q
      cases q
      exact e
    · rw [upd_ne hb] at q
      exact h.frz b u q
  · have q := h.at_ i s x e1 e2
    cases s with
    | un => trivial
    | val t =>
      obtain ⟨v, h1, h2⟩ := q
      exact ⟨v, h1, h2.mono ext⟩
    | own io ob =>
      obtain ⟨b, h1, vs, q1, q2, q3, q4⟩ := q
      refine ⟨b, h1, vs, q1, q2, q3.mono ext, ?_⟩
      have : b ≠ a := fun z => n ⟨i, io, ⟨ob, e1⟩, by rw [e2, h1, z]⟩
      rw [upd_ne this]
      exact q4
/-- a fresh value, frozen: the slots don't feel it -/
theorem StepE.freezeNew {G : MC} {env env' : List Slot} {σ : Sg} {F H F' H' : Hp} {t : T} {fr : Bool} {v : V} (h0 : ER G env σ F H) (s : StepE G env σ F H env' F' H') (r : RR G F' H' H t fr v) :
    ∃ F2, StepE G env σ F H env' F2 H' ∧ Rep G F2 t v ∧ Ext F' F2 := by
  cases fr with
  | false => exact ⟨F', s, r, Ext.refl _⟩
  | true =>
    obtain ⟨a, o, rfl, rfl, h3, h4⟩ := r
    obtain ⟨vs, e1, e2, e3, e4⟩ := Grow.freeze s.rel.frz h3
    have hno : ¬ OwnA env' σ a := fun q => by
      obtain ⟨_, u, e⟩ := h0.ownA (s.ownE _ q)
      rw [h4] at e
      cases e
    refine ⟨_, { s with rel := s.rel.know e1 e4 hno, ext := s.ext.trans e1, new := fun b u q => ?_ }, e3, e1⟩
    by_cases hb : b = a
    · subst hb
      exact .inr (.inl h4)
    · rw [upd_ne hb] at q
      exact s.new b u q
end PT

set_option Elab.async false
set_option linter.all false
set_option maxRecDepth 100000
set_option autoImplicit false
namespace PT
open PySem PySem.Spec L2

/-! ### operands that are only read -/
/-- a value that may still be own -/
def RBs (G : MC) (env : List Slot) (σ : Sg) (F H : Hp) (t : T) (v : V) : Prop :=
  Rep G F t v ∨ ∃ a o, v = .ref a ∧ t = o.t ∧ OwnAt G F H o a ∧ ¬ OwnIO env σ a
/-- .. as it reads in the heap -/
def RepB (G : MC) (F H : Hp) : T → V → Prop
  | .lst l, v => ∃ a vs, v = .ref a ∧ H a = some (.lst vs) ∧ Reps G F l vs
  | .dk ks l, v => ∃ a vs, v = .ref a ∧ H a = some (.dK (ks.zip vs)) ∧ ks.length = vs.length ∧ Reps G F l vs
  | .dt ks l, v => ∃ a vs, v = .ref a ∧ H a = some (.dT (ks.zip vs)) ∧ ks.length = vs.length ∧ Reps G F l vs
  | t, v => Rep G F t v
theorem Rep.toB {G : MC} {F H : Hp} (f : Frz F H) {t : T} {v : V} (h : Rep G F t v) : RepB G F H t v := by
  cases t with
  | lst l =>
    simp only [Rep] at h
    obtain ⟨a, vs, h1, h2, h3⟩ := h
    exact ⟨a, vs, h1, f _ _ h2, h3⟩
  | dk ks l =>
    simp only [Rep] at h
    obtain ⟨a, vs, h1, h2, h4, h3⟩ := h
    exact ⟨a, vs, h1, f _ _ h2, h4, h3⟩
  | dt ks l =>
    simp only [Rep] at h
    obtain ⟨a, vs, h1, h2, h4, h3⟩ := h
    exact ⟨a, vs, h1, f _ _ h2, h4, h3⟩
  | _ => exact h
theorem RBs.toB {G : MC} {env : List Slot} {σ : Sg} {F H : Hp} (f : Frz F H) {t : T} {v : V} (h : RBs G env σ F H t v) : RepB G F H t v := by
  rcases h with h | ⟨a, o, rfl, rfl, ⟨vs, h1, h2, h3, h4⟩, _⟩
  · exact h.toB f
  · obtain ⟨k, ts⟩ := o
    cases k with
    | l => exact ⟨a, vs, rfl, h1, h3⟩
    | dk ks => exact ⟨a, vs, rfl, h1, h2, h3⟩
    | dt ks => exact ⟨a, vs, rfl, h1, h2, h3⟩
theorem RBs.of_RR {G : MC} {env env' : List Slot} {σ : Sg} {F H F' H' : Hp} {t : T} {fr : Bool} {v : V} (h0 : ER G env σ F H) (s : StepE G env σ F H env' F' H') (r : RR G F' H' H t fr v) : RBs G env' σ F' H' t v := by
  cases fr with
  | false => exact .inl r
  | true =>
    obtain ⟨a, o, h1, h2, h3, h4⟩ := r
    refine .inr ⟨a, o, h1, h2, h3, fun q => ?_⟩
    obtain ⟨_, u, e⟩ := h0.ownA (s.ownE _ q.a)
    rw [h4] at e
    cases e
theorem RBs.step {G : MC} {env env' : List Slot} {σ : Sg} {F H F' H' : Hp} {t : T} {v : V} (s : StepE G env σ F H env' F' H') (h : RBs G env σ F H t v) : RBs G env' σ F' H' t v := by
  rcases h with h | ⟨a, o, rfl, rfl, ⟨vs, h1, h2, h3, h4⟩, n⟩
  · exact .inl (h.mono s.ext)
  · have hk := s.keepE _ _ h1 n
    cases e : F' a with
    | none => exact .inr ⟨a, o, rfl, rfl, ⟨vs, hk, h2, h3.mono s.ext, e⟩, fun q => n (s.ownIO q)⟩
    | some u =>
      have hu := s.rel.frz _ _ e
      rw [hk] at hu
      cases hu
      have r := h3.mono s.ext
      obtain ⟨k, ts⟩ := o
      refine .inl ?_
      cases k with
      | l => simp only [OT.t, Rep]; exact ⟨a, vs, rfl, e, r⟩
      | dk ks => simp only [OT.t, Rep]; exact ⟨a, vs, rfl, e, h2, r⟩
      | dt ks => simp only [OT.t, Rep]; exact ⟨a, vs, rfl, e, h2, r⟩

def WishB (G : MC) (env : List Slot) (σ : Sg) (F H : Hp) (r : ERes) (Q : VK) (W : XK) : Prop :=
  match r with
  | .err => False
  | .ok t _ env' => ∀ v F' H', StepE G env σ F H env' F' H' → RBs G env' σ F' H' t v → Q v H'
  | .exc x env' => ∀ cls d F' H', StepE G env σ F H env' F' H' → XR G H H' x cls d → W cls d H'
def SndB (G : MC) (sc : Scope) (N : List Str) (k : Nat) (e : Expr) (f : E) : Prop :=
  ∀ (X : Cx) (W : WX) (env : List Slot) (σ : Sg) (F H : Hp) (Q : VK), Gd G sc N k X → Takes X W → ER G env σ F H → WishB G env σ F H (f env) Q (fun c d H' => W c d σ H') → WE X e σ H Q

section
variable {G : MC} {sc : Scope} {N : List Str} {k : Nat} {e : Expr} {f : E}
theorem SndE.b (h : SndE G sc N k e f) : SndB G sc N k e f := by
  intro X W env σ F H Q g tk h0 q
  refine h X W env σ F H Q g tk h0 ?_
  cases e : f env with
  | err => rw [e] at q; exact q
  | ok t fr env' =>
    rw [e] at q
    exact fun v F' H' s r => q v F' H' s (RBs.of_RR h0 s r)
  | exc x env' =>
    rw [e] at q
    exact q
/-- the value frozen -/
theorem SndE.frz (h : SndE G sc N k e f) {X : Cx} {W : WX} {env : List Slot} {σ : Sg} {F H : Hp} {Q : VK} (g : Gd G sc N k X) (tk : Takes X W) (h0 : ER G env σ F H)
    (q : match f env with
      | .err => False
      | .ok t _ env' => ∀ v F' H', StepE G env σ F H env' F' H' → Rep G F' t v → Q v H'
      | .exc x env' => ∀ cls d F' H', StepE G env σ F H env' F' H' → XR G H H' x cls d → W cls d σ H') : WE X e σ H Q := by
  refine h X W env σ F H Q g tk h0 ?_
  cases e : f env with
  | err => rw [e] at q; exact q
  | ok t fr env' =>
    rw [e] at q
    intro v F' H' s r
    obtain ⟨F2, s2, r2, _⟩ := s.freezeNew h0 r
    exact q v F2 H' s2 r2
  | exc x env' =>
    rw [e] at q
    exact q
end

/-! ### names and constants -/
theorem getElem?_set_ne' {env : List Slot} {i j : Nat} {s : Slot} (h : j ≠ i) : (env.set i s)[j]? = env[j]? := List.getElem?_set_ne (Ne.symm h)
/-- an own slot is frozen -/
theorem StepE.freezeSlot {G : MC} {env : List Slot} {σ : Sg} {F H : Hp} {i : Nat} {o : OT} (h0 : ER G env σ F H) (e : env[i]? = some (.own false o)) :
    ∃ a F', σ[i]? = some (some (.ref a)) ∧ StepE G env σ F H (env.set i (.val o.t)) F' H ∧ Rep G F' o.t (.ref a) := by
  obtain ⟨a, ea, ow⟩ := h0.own e
  have ow' := ow
  obtain ⟨vs, e1, e2, e3, e4⟩ := Grow.freeze h0.frz ow
  have oi : OwnI env σ i false a := ⟨⟨o, e⟩, ea⟩
  have hi : i < env.length := (List.getElem?_eq_some_iff.mp e).1
  have self : (env.set i (.val o.t))[i]? = some (.val o.t) := by rw [List.getElem?_set_self hi]
  have back : ∀ j io b, OwnI (env.set i (.val o.t)) σ j io b → OwnI env σ j io b ∧ j ≠ i := by
    rintro j io b ⟨⟨u, q⟩, q2⟩
    by_cases hj : j = i
    · subst hj
      rw [self] at q
      cases q
    · rw [getElem?_set_ne' hj] at q
      exact ⟨⟨⟨u, q⟩, q2⟩, hj⟩
  have nio : ∀ b, OwnIO (env.set i (.val o.t)) σ b → b ≠ a := by
    rintro b ⟨j, q⟩ z
    subst z
    obtain ⟨q1, q2⟩ := back _ _ _ q
    exact q2 (h0.dis _ _ _ _ _ q1 oi)
  have rel : ER G (env.set i (.val o.t)) σ (upd F a (o.k.ho vs)) H := by
    refine ⟨by rw [List.length_set]; exact h0.len, e2, fun j s x q1 q2 => ?_, fun j j' io io' b q q' => h0.dis _ _ _ _ _ (back _ _ _ q).1 (back _ _ _ q').1⟩
    by_cases hj : j = i
    · subst hj
      rw [self] at q1
      cases q1
      rw [ea] at q2
      cases q2
      exact ⟨.ref a, rfl, e3⟩
    · rw [getElem?_set_ne' hj] at q1
      have q := h0.at_ j s x q1 q2
      cases s with
      | un => trivial
      | val t =>
        obtain ⟨v, z1, z2⟩ := q
        exact ⟨v, z1, z2.mono e1⟩
      | own io ob =>
        obtain ⟨b, z1, vs', y1, y2, y3, y4⟩ := q
        refine ⟨b, z1, vs', y1, y2, y3.mono e1, ?_⟩
        have : b ≠ a := fun z => hj (h0.dis _ _ _ _ _ (⟨⟨ob, q1⟩, by rw [q2, z1, z]⟩ : OwnI env σ j io a) oi)
        rw [upd_ne this]
        exact y4
  refine ⟨a, upd F a (o.k.ho vs), ea, ?_, e3⟩
  refine { rel := rel, ext := e1, new := fun b u q => ?_, keep := fun b u q _ => q, some_ := fun b q => q, own := fun b q => ?_, io := fun j u q => ?_, len := List.length_set .., keepE := fun b u q _ => q, slot := fun j s q => ?_, ownE := fun b q => ?_ }
  · by_cases hb : b = a
    · subst hb
      exact .inr (.inr ⟨i, false, oi⟩)
    · rw [upd_ne hb] at q
      exact .inl q
  · obtain ⟨j, io, q⟩ := q
    exact .inl ⟨j, io, (back _ _ _ q).1⟩
  · have hj : j ≠ i := fun z => by
      subst z
      rw [e] at q
      cases q
    exact ⟨⟨u, by rw [getElem?_set_ne' hj]; exact q⟩, rfl⟩
  · by_cases hj : j = i
    · subst hj
      rw [e] at q
      cases q
      exact .inr (.inr ⟨o, rfl, self⟩)
    · exact .inl (by rw [getElem?_set_ne' hj]; exact q)
  · obtain ⟨j, io, q⟩ := q
    exact ⟨j, io, (back _ _ _ q).1⟩

def eVar (i : Nat) : E := fun env => match env[i]? with
  | some (.val t) => .ok t false env
  | some (.own false o) => .ok o.t false (env.set i (.val o.t))
  | _ => .err
/-- read, not frozen -/
def eBor (i : Nat) : E := fun env => match env[i]? with
  | some (.val t) => .ok t false env
  | some (.own false o) => .ok o.t false env
  | _ => .err
def eC (t : T) : E := fun env => .ok t false env

section
variable {G : MC} {sc : Scope} {N : List Str} {k : Nat} {x : Str} {pos : Pos} {i : Nat}
theorem snd_var (hN : N[i]? = some x) (hv : visB sc x = true) (hd : (x == ("__debug__" : Str)) = false := by decide) (hcd : (x == ("__classdict__" : Str)) = false := by decide) : SndE G sc N k (.Name x pos) (eVar i) := by
  intro X W env σ F H Q g tk h0 q
  have pv : PE X (.Name x pos) (tVar i) := pe_var (by rw [g.NE]; exact hN) (vis_of g.scR hv) hd hcd
  unfold eVar at q
  split at q
  · rename_i t e
    obtain ⟨v, e1, r⟩ := h0.val e
    exact .of pv ⟨v, e1, q v F H (.refl h0) r⟩
  · rename_i o e
    obtain ⟨a, F', e1, s, r⟩ := StepE.freezeSlot h0 e
    exact .of pv ⟨_, e1, q _ F' H s r⟩
  · exact q.elim
theorem snd_bor (hN : N[i]? = some x) (hv : visB sc x = true) (hd : (x == ("__debug__" : Str)) = false := by decide) (hcd : (x == ("__classdict__" : Str)) = false := by decide) : SndB G sc N k (.Name x pos) (eBor i) := by
  intro X W env σ F H Q g tk h0 q
  have pv : PE X (.Name x pos) (tVar i) := pe_var (by rw [g.NE]; exact hN) (vis_of g.scR hv) hd hcd
  unfold eBor at q
  split at q
  · rename_i t e
    obtain ⟨v, e1, r⟩ := h0.val e
    exact .of pv ⟨v, e1, q v F H (.refl h0) (.inl r)⟩
  · rename_i o e
    obtain ⟨a, e1, ow⟩ := h0.own e
    refine .of pv ⟨_, e1, q _ F H (.refl h0) (.inr ⟨a, o, rfl, rfl, ow, ?_⟩)⟩
    rintro ⟨j, z⟩
    have := h0.dis _ _ _ _ _ z (⟨⟨o, e⟩, e1⟩ : OwnI env σ i false a)
    subst this
    obtain ⟨⟨u, z⟩, _⟩ := z
    rw [e] at z
    cases z
  · exact q.elim
theorem snd_int {n : Int} {jn : Nat} : SndE G sc N k (.Constant (.int n) jn pos) (eC (.int n)) := by
  intro X W env σ F H Q g tk h0 q
  exact .of pe_int (q (.int n) F H (.refl h0) (by simp [RR, Rep]))
theorem snd_bl {b : Bool} {jn : Nat} : SndE G sc N k (.Constant (.bool b) jn pos) (eC (.bl b)) := by
  intro X W env σ F H Q g tk h0 q
  exact .of pe_bl (q (.bl b) F H (.refl h0) (by simp [RR, Rep]))
theorem snd_non {jn : Nat} : SndE G sc N k (.Constant .none jn pos) (eC .non) := by
  intro X W env σ F H Q g tk h0 q
  exact .of pe_non (q .non F H (.refl h0) (by simp [RR, Rep]))
theorem snd_str {s : Str} {jn : Nat} : SndE G sc N k (.Constant (.str s) jn pos) (eC (.str s)) := by
  intro X W env σ F H Q g tk h0 q
  exact .of pe_str (q (.str s) F H (.refl h0) (by simp [RR, Rep]))
/-- a module's constant -/
theorem snd_glob {t : T} (hg : glB sc x = true) (h : ∃ v u, (∀ F, Rep G F t v) ∧ G.mg x = some u ∧ RelV v u) (hd : (x == ("__debug__" : Str)) = false := by decide) : SndE G sc N k (.Name x pos) (eC t) := by
  intro X W env σ F H Q g tk h0 q
  obtain ⟨v, u, r, hm, rv⟩ := h
  refine .of (pe_glob (gl_of g hg) ?_ rv hd) (q v F H (.refl h0) (r F))
  have := g.mcE
  subst this
  exact hm
end

/-! ### operations by values -/
def VOp2 (G : MC) (k : Nat) (J : Cx → R2 → Prop) (g : T → T → Option (T × Bool)) : Prop :=
  ∀ (X : Cx), mc X = G → X.calm = true → Room k X.A → ∀ (F H : Hp) (a b : T) (x y : V) (t : T) (fr : Bool) (Q : VK), g a b = some (t, fr) → Frz F H → RepB G F H a x → RepB G F H b y →
    (∀ v F' H', Grow F H F' H' → RR G F' H' H t fr v → Q v H') → ∃ r, J X r ∧ r x y H Q
def VOp1 (G : MC) (k : Nat) (J : Cx → (V → Hp → VK → Prop) → Prop) (g : T → Option (T × Bool)) : Prop :=
  ∀ (X : Cx), mc X = G → X.calm = true → Room k X.A → ∀ (F H : Hp) (a : T) (x : V) (t : T) (fr : Bool) (Q : VK), g a = some (t, fr) → Frz F H → RepB G F H a x →
    (∀ v F' H', Grow F H F' H' → RR G F' H' H t fr v → Q v H') → ∃ r, J X r ∧ r x H Q
abbrev JB (op : Operator) (X : Cx) (r : R2) : Prop := OpR X (binaryOp op) r
abbrev JC (op : CmpOp) (X : Cx) (r : R2) : Prop := OpR X (compareOp op) r
abbrev JI (X : Cx) (r : R2) : Prop := IxR X r
abbrev JU (op : UnaryOp) (X : Cx) (r : V → Hp → VK → Prop) : Prop := UnR X (unaryOp op) r

def eB (f : E) (k : T → List Slot → ERes) : E := fun env => match f env with
  | .ok t _ env' => k t env'
  | r => r
def eBin (g : T → T → Option (T × Bool)) (fa fb : E) : E := eB fa fun a => eB fb fun b env => match g a b with
  | some (t, fr) => .ok t fr env
  | none => .err
def eUn (g : T → Option (T × Bool)) (fa : E) : E := eB fa fun a env => match g a with
  | some (t, fr) => .ok t fr env
  | none => .err

section
variable {G : MC} {sc : Scope} {N : List Str} {k : Nat} {a b c : Expr} {fa fb fc : E} {pos : Pos} {g g' : T → T → Option (T × Bool)} {g1 : T → Option (T × Bool)}
/-- two operands, then the rest -/
theorem two {X : Cx} {W : WX} {env : List Slot} {σ : Sg} {F H : Hp} (hd : Gd G sc N k X) (tk : Takes X W) (h0 : ER G env σ F H) (ha : SndB G sc N k a fa) (hb : SndB G sc N k b fb)
    {R : V → V → Hp → Prop} {kk : T → T → List Slot → ERes} {Q : VK}
    (hk : ∀ ta tb env2 x y F2 H2, StepE G env σ F H env2 F2 H2 → RBs G env2 σ F2 H2 ta x → RBs G env2 σ F2 H2 tb y → WishE G env2 σ F2 H2 (kk ta tb env2) Q (fun c d H' => W c d σ H') → R x y H2)
    (q : WishE G env σ F H (eB fa (fun ta => eB fb fun tb => kk ta tb) env) Q (fun c d H' => W c d σ H')) : WE X a σ H fun x H1 => WE X b σ H1 fun y H2 => R x y H2 := by
  refine ha X W env σ F H _ hd tk h0 ?_
  unfold eB at q
  cases e : fa env with
  | err => rw [e] at q; exact q
  | exc x env' => rw [e] at q; exact q
  | ok ta fr env1 =>
    rw [e] at q
    intro x F1 H1 s1 r1
    refine hb X W env1 σ F1 H1 _ hd tk s1.rel ?_
    dsimp only at q
    cases e2 : fb env1 with
    | err => rw [e2] at q; exact q
    | exc z env' =>
      rw [e2] at q
      exact fun c d F' H' s' r => q c d F' H' (s1.trans s') (r.back s1.some_)
    | ok tb fr2 env2 =>
      rw [e2] at q
      intro y F2 H2 s2 r2
      exact hk ta tb env2 x y F2 H2 (s1.trans s2) (r1.step s2) r2 (q.after (s1.trans s2))
theorem snd_bin {op : Operator} (ho : VOp2 G k (JB op) g) (ha : SndB G sc N k a fa) (hb : SndB G sc N k b fb) : SndE G sc N k (.BinOp a op b pos) (eBin g fa fb) := by
  intro X W env σ F H Q hd tk h0 q
  have z := two (R := fun x y H2 => ∃ r, OpR X (binaryOp op) r ∧ r x y H2 Q) hd tk h0 ha hb (fun ta tb env2 x y F2 H2 s rx ry w => by
    cases e : g ta tb with
    | none => rw [e] at w; exact w.elim
    | some p =>
      obtain ⟨t, fr⟩ := p
      rw [e] at w
      exact ho X hd.mcE hd.calm hd.room F2 H2 ta tb x y t fr Q e s.rel.frz (rx.toB s.rel.frz) (ry.toB s.rel.frz) fun v F' H' gr r => w v F' H' (StepE.of_grow s.rel gr) r) q
  exact .of (t := tOp (fun x y H2 Q => ∃ r, OpR X (binaryOp op) r ∧ r x y H2 Q) (WE X a) (WE X b)) (pe_op (fun pins s σ H x y v u Q I rx ry ⟨r, h1, h2⟩ => h1 pins s σ H x y v u Q I rx ry h2) pe_WE pe_WE) z
theorem snd_cmp {op : CmpOp} (ho : VOp2 G k (JC op) g) (ha : SndB G sc N k a fa) (hb : SndB G sc N k b fb) (hm : behindInMarks op b = false := by first | exact nomark _ | with_unfolding_all rfl) : SndE G sc N k (.Compare a [op] [b] pos) (eBin g fa fb) := by
  intro X W env σ F H Q hd tk h0 q
  have z := two (R := fun x y H2 => ∃ r, OpR X (compareOp op) r ∧ r x y H2 Q) hd tk h0 ha hb (fun ta tb env2 x y F2 H2 s rx ry w => by
    cases e : g ta tb with
    | none => rw [e] at w; exact w.elim
    | some p =>
      obtain ⟨t, fr⟩ := p
      rw [e] at w
      exact ho X hd.mcE hd.calm hd.room F2 H2 ta tb x y t fr Q e s.rel.frz (rx.toB s.rel.frz) (ry.toB s.rel.frz) fun v F' H' gr r => w v F' H' (StepE.of_grow s.rel gr) r) q
  exact .of (t := tOp (fun x y H2 Q => ∃ r, OpR X (compareOp op) r ∧ r x y H2 Q) (WE X a) (WE X b)) (pe_cmpR (fun pins s σ H x y v u Q I rx ry ⟨r, h1, h2⟩ => h1 pins s σ H x y v u Q I rx ry h2) pe_WE pe_WE hm) z
theorem snd_ix (ho : VOp2 G k JI g) (ha : SndB G sc N k a fa) (hb : SndB G sc N k b fb) (hs : PlainIx b := by exact (fun _ _ => rfl)) : SndE G sc N k (.Subscript a b pos) (eBin g fa fb) := by
  intro X W env σ F H Q hd tk h0 q
  have z := two (R := fun x y H2 => ∃ r, IxR X r ∧ r x y H2 Q) hd tk h0 ha hb (fun ta tb env2 x y F2 H2 s rx ry w => by
    cases e : g ta tb with
    | none => rw [e] at w; exact w.elim
    | some p =>
      obtain ⟨t, fr⟩ := p
      rw [e] at w
      exact ho X hd.mcE hd.calm hd.room F2 H2 ta tb x y t fr Q e s.rel.frz (rx.toB s.rel.frz) (ry.toB s.rel.frz) fun v F' H' gr r => w v F' H' (StepE.of_grow s.rel gr) r) q
  exact .of (t := tOp (fun x y H2 Q => ∃ r, IxR X r ∧ r x y H2 Q) (WE X a) (WE X b)) (pe_ix (fun v1 s1 pins s σ H x y v u Q I rx ry ⟨r, h1, h2⟩ hh => h1 v1 s1 pins s σ H x y v u Q I rx ry h2 hh) pe_WE pe_WE hs) z
/-- one operand, then the rest -/
theorem one {X : Cx} {W : WX} {env : List Slot} {σ : Sg} {F H : Hp} (hd : Gd G sc N k X) (tk : Takes X W) (h0 : ER G env σ F H) (ha : SndB G sc N k a fa)
    {R : V → Hp → Prop} {kk : T → List Slot → ERes} {Q : VK}
    (hk : ∀ ta env2 x F2 H2, StepE G env σ F H env2 F2 H2 → RBs G env2 σ F2 H2 ta x → WishE G env2 σ F2 H2 (kk ta env2) Q (fun c d H' => W c d σ H') → R x H2)
    (q : WishE G env σ F H (eB fa kk env) Q (fun c d H' => W c d σ H')) : WE X a σ H R := by
  refine ha X W env σ F H _ hd tk h0 ?_
  unfold eB at q
  cases e : fa env with
  | err => rw [e] at q; exact q
  | exc x env' => rw [e] at q; exact q
  | ok ta fr env1 =>
    rw [e] at q
    intro x F1 H1 s1 r1
    exact hk ta env1 x F1 H1 s1 r1 (q.after s1)
theorem snd_un {op : UnaryOp} (ho : VOp1 G k (JU op) g1) (ha : SndB G sc N k a fa) : SndE G sc N k (.UnaryOp op a pos) (eUn g1 fa) := by
  intro X W env σ F H Q hd tk h0 q
  have z := one (R := fun x H2 => ∃ r, UnR X (unaryOp op) r ∧ r x H2 Q) hd tk h0 ha (fun ta env2 x F2 H2 s rx w => by
    cases e : g1 ta with
    | none => rw [e] at w; exact w.elim
    | some p =>
      obtain ⟨t, fr⟩ := p
      rw [e] at w
      exact ho X hd.mcE hd.calm hd.room F2 H2 ta x t fr Q e s.rel.frz (rx.toB s.rel.frz) fun v F' H' gr r => w v F' H' (StepE.of_grow s.rel gr) r) q
  exact .of (t := tUn (fun x H2 Q => ∃ r, UnR X (unaryOp op) r ∧ r x H2 Q) (WE X a)) (pe_un (fun pins s σ H x v Q I rx ⟨r, h1, h2⟩ => h1 pins s σ H x v Q I rx h2) pe_WE) z
/-- a op b op' c -/
def eChain (g g' : T → T → Option (T × Bool)) (fa fb fc : E) : E := eB fa fun a => eB fb fun b env => match g a b with
  | some (.bl true, _) => eB fc (fun c env => match g' b c with
    | some (t, fr) => .ok t fr env
    | none => .err) env
  | some (.bl false, _) => .ok (.bl false) false env
  | _ => .err
theorem snd_chain {op op' : CmpOp} (ho : VOp2 G k (JC op) g) (ho' : VOp2 G k (JC op') g') (ha : SndB G sc N k a fa) (hb : SndB G sc N k b fb) (hc : SndB G sc N k c fc)
    (hm : lastMarks [op, op'] [b, c] = false := by with_unfolding_all rfl) : SndE G sc N k (.Compare a [op, op'] [b, c] pos) (eChain g g' fa fb fc) := by
  intro X W env σ F H Q hd tk h0 q
  have z := two (R := fun x y H2 => ∃ r, OpR X (compareOp op) r ∧ r x y H2 fun z H3 => ∃ k, z = .bl k ∧ if k = true then WE X c σ H3 (fun w' H4 => ∃ r, OpR X (compareOp op') r ∧ r y w' H4 Q) else Q (.bl false) H3) hd tk h0 ha hb (fun ta tb env2 x y F2 H2 s rx ry w => by
    cases e : g ta tb with
    | none => rw [e] at w; exact w.elim
    | some p =>
      obtain ⟨t, fr⟩ := p
      rw [e] at w
      cases t with
      | bl bb =>
        refine ho X hd.mcE hd.calm hd.room F2 H2 ta tb x y (.bl bb) fr _ e s.rel.frz (rx.toB s.rel.frz) (ry.toB s.rel.frz) fun v F' H' gr r => ?_
        have ev : v = .bl bb := by
          cases fr with
          | false => simpa [RR, Rep] using r
          | true =>
            obtain ⟨_, o, _, z, _⟩ := r
            obtain ⟨kk, ts⟩ := o
            cases kk <;> cases z
        subst ev
        have sg := StepE.of_grow s.rel gr
        refine ⟨bb, rfl, ?_⟩
        cases bb with
        | false =>
          rw [if_neg Bool.false_ne_true]
          exact w _ F' H' sg (by simp [RR, Rep])
        | true =>
          rw [if_pos rfl]
          refine one hd tk sg.rel hc (fun tc env3 z F3 H3 s3 rz w3 => ?_) (w.after sg)
          cases e3 : g' tb tc with
          | none => rw [e3] at w3; exact w3.elim
          | some p =>
            obtain ⟨t, fr⟩ := p
            rw [e3] at w3
            exact ho' X hd.mcE hd.calm hd.room F3 H3 tb tc y z t fr Q e3 s3.rel.frz (((ry.step sg).step s3).toB s3.rel.frz) (rz.toB s3.rel.frz) fun v F' H' gr r => w3 v F' H' (StepE.of_grow s3.rel gr) r
      | _ => exact w.elim) q
  exact .of (t := tChain (fun x y H2 Q => ∃ r, OpR X (compareOp op) r ∧ r x y H2 Q) (fun x y H2 Q => ∃ r, OpR X (compareOp op') r ∧ r x y H2 Q) (WE X a) (WE X b) (WE X c))
    (pe_chain (fun pins s σ H x y v u Q I rx ry ⟨r, h1, h2⟩ => h1 pins s σ H x y v u Q I rx ry h2) (fun pins s σ H x y v u Q I rx ry ⟨r, h1, h2⟩ => h1 pins s σ H x y v u Q I rx ry h2) pe_WE pe_WE pe_WE hm) z
end
end PT

set_option Elab.async false
set_option linter.all false
set_option maxRecDepth 100000
set_option autoImplicit false
namespace PT
open PySem PySem.Spec L2

/-! ### tests -/
theorem tru_of {G : MC} {X : Cx} {F H : Hp} {t : T} {x : V} {b : Bool} (hm : mc X = G) (f : Frz F H) (h : RepB G F H t x) (e : truthT t = some b) : TruV X.K x H b := by
  subst hm
  cases t with
  | non =>
    have : x = .non := by simpa [RepB, Rep] using h
    subst this
    cases e
    rfl
  | bl c =>
    have : x = .bl c := by simpa [RepB, Rep] using h
    subst this
    cases e
    rfl
  | int i =>
    have : x = .int i := by simpa [RepB, Rep] using h
    subst this
    cases e
    rfl
  | str s =>
    have : x = .str s := by simpa [RepB, Rep] using h
    subst this
    have e : (if s.length ≤ sizeLine then some ((s.length : Int) != 0) else none) = some b := e
    by_cases hl : s.length ≤ sizeLine
    · rw [if_pos hl] at e
      cases e
      exact ⟨hl, rfl⟩
    · rw [if_neg hl] at e
      cases e
  | tup l =>
    obtain ⟨a, vs, rfl, h2, h3⟩ : ∃ a vs, x = .ref a ∧ F a = some (.tup vs) ∧ Reps (mc X) F l vs := by simpa [RepB, Rep, mc] using h
    cases e
    refine .inr (.inl ⟨vs, .inl (.inl (f _ _ h2)), ?_⟩)
    have hl := h3.len
    cases l <;> cases vs <;> first | rfl | simp at hl
  | lst l =>
    obtain ⟨a, vs, rfl, h2, h3⟩ := h
    cases e
    refine .inl ⟨vs, .inl (.inl h2), ?_⟩
    have hl := h3.len
    cases l <;> cases vs <;> first | rfl | simp at hl
  | dk ks l =>
    obtain ⟨a, vs, rfl, h2, h4, h3⟩ := h
    cases e
    refine .inr (.inr ⟨_, h2, ?_⟩)
    cases ks <;> cases vs <;> first | rfl | simp at h4
  | dt ks l => cases e
  | fn s => cases e
  | ty n => cases e
  | frz l => cases e
  | kt l => cases e

section
variable {G : MC} {sc : Scope} {N : List Str} {k : Nat} {a b c : Expr} {fa fb fc : E} {pos : Pos} {g g' : T → T → Option (T × Bool)} {rest : List Expr}
theorem SndB.t (ha : SndB G sc N k a fa) (he : ∀ env whole, isTrue a env whole = (do let v ← whole; standAt a.pos; holding [v] (truthy v)) := by intro _ _; rfl) : SndT G sc N k a fa := by
  intro X W env σ F H Q hd tk h0 q
  refine .of (pt_truth pe_WE (he _)) ?_
  refine ha X W env σ F H _ hd tk h0 ?_
  cases e : fa env with
  | err => rw [e] at q; exact q
  | exc x env' => rw [e] at q; exact q
  | ok t fr env' =>
    rw [e] at q
    obtain ⟨bb, e2, q⟩ := q
    exact fun v F' H' s r => ⟨bb, tru_of hd.mcE s.rel.frz (r.toB s.rel.frz) e2, q F' H' s⟩
theorem WishT.bool {env : List Slot} {σ : Sg} {F H : Hp} {t : T} {fr : Bool} {env' : List Slot} {Q : Bool → Hp → Prop} {W : XK} (q : WishT G env σ F H (.ok t fr env') Q W) {v : V} {F' H' : Hp} {b : Bool} (s : StepE G env σ F H env' F' H') (e : truthT t = some b) : Q b H' := by
  obtain ⟨bb, e2, q⟩ := q
  rw [e] at e2
  cases e2
  exact q F' H' s
theorem eB_ok {f : E} {kk : T → List Slot → ERes} {env env1 : List Slot} {t : T} {fr : Bool} (e : f env = .ok t fr env1) : eB f kk env = kk t env1 := by
  unfold eB
  rw [e]
/-- a comparison as a test: as a value, then its truth -/
theorem snd_tCmp {op : CmpOp} (ho : VOp2 G k (JC op) g) (hb2 : ∀ x y t fr, g x y = some (t, fr) → ∃ bb, t = .bl bb ∧ fr = false) (ha : SndB G sc N k a fa) (hb : SndB G sc N k b fb) (hm : behindInMarks op b = false := by first | exact nomark _ | with_unfolding_all rfl) : SndT G sc N k (.Compare a [op] [b] pos) (eBin g fa fb) := by
  intro X W env σ F H Q hd tk h0 q
  have q' : WishE G env σ F H (eBin g fa fb env) (fun v H' => ∃ bb, v = .bl bb ∧ Q bb H') (fun c d H' => W c d σ H') := by
    cases e : eBin g fa fb env with
    | err => rw [e] at q; exact q
    | exc x env' => rw [e] at q; exact q
    | ok t fr env' =>
      rw [e] at q
      have hb' : ∃ bb, t = .bl bb ∧ fr = false := by
        unfold eBin eB at e
        cases e1 : fa env with
        | err => rw [e1] at e; cases e
        | exc x env' => rw [e1] at e; cases e
        | ok ta fr1 env1 =>
          rw [e1] at e
          dsimp only at e
          cases e2 : fb env1 with
          | err => rw [e2] at e; cases e
          | exc x env' => rw [e2] at e; cases e
          | ok tb fr2 env2 =>
            rw [e2] at e
            dsimp only at e
            cases e3 : g ta tb with
            | none => rw [e3] at e; cases e
            | some p =>
              obtain ⟨t3, fr3⟩ := p
              rw [e3] at e
              cases e
              exact hb2 _ _ _ _ e3
      obtain ⟨bb, rfl, rfl⟩ := hb'
      intro v F' H' s r
      have : v = .bl bb := by simpa [RR, Rep] using r
      exact ⟨bb, this, q.bool (v := v) s rfl⟩
  have z := two (R := fun x y H2 => ∃ r, OpR X (compareOp op) r ∧ r x y H2 (fun v H' => ∃ bb, v = .bl bb ∧ Q bb H')) hd tk h0 ha hb (fun ta tb env2 x y F2 H2 s rx ry w => by
    cases e : g ta tb with
    | none => rw [e] at w; exact w.elim
    | some p =>
      obtain ⟨t, fr⟩ := p
      rw [e] at w
      exact ho X hd.mcE hd.calm hd.room F2 H2 ta tb x y t fr _ e s.rel.frz (rx.toB s.rel.frz) (ry.toB s.rel.frz) fun v F' H' gr r => w v F' H' (StepE.of_grow s.rel gr) r) q'
  exact .of (t := tTest (tOp (fun x y H2 Q => ∃ r, OpR X (compareOp op) r ∧ r x y H2 Q) (WE X a) (WE X b))) (pt_cmpR (fun pins s σ H x y v u Q I rx ry ⟨r, h1, h2⟩ => h1 pins s σ H x y v u Q I rx ry h2) pe_WE pe_WE hm) z
def eNot (f : E) : E := fun env => match f env with
  | .ok t _ env' => (match truthT t with
    | some b => .ok (.bl (!b)) false env'
    | none => .err)
  | r => r
theorem snd_tNot (ha : SndT G sc N k a fa) : SndT G sc N k (.UnaryOp .Not a pos) (eNot fa) := by
  intro X W env σ F H Q hd tk h0 q
  refine .of (pt_not pt_WT) ?_
  refine ha X W env σ F H _ hd tk h0 ?_
  unfold eNot at q
  cases e : fa env with
  | err => rw [e] at q; exact q
  | exc x env' => rw [e] at q; exact q
  | ok t fr env' =>
    rw [e] at q
    dsimp only at q
    cases e2 : truthT t with
    | none => rw [e2] at q; exact q.elim
    | some bb =>
      rw [e2] at q
      exact ⟨bb, e2, fun F' H' s => q.bool (v := .non) s rfl⟩
theorem snd_not (ha : SndB G sc N k a fa) : SndE G sc N k (.UnaryOp .Not a pos) (eNot fa) := by
  intro X W env σ F H Q hd tk h0 q
  refine .of (pe_notT pe_WE) ?_
  refine ha X W env σ F H _ hd tk h0 ?_
  unfold eNot at q
  cases e : fa env with
  | err => rw [e] at q; exact q
  | exc x env' => rw [e] at q; exact q
  | ok t fr env' =>
    rw [e] at q
    dsimp only at q
    cases e2 : truthT t with
    | none => rw [e2] at q; exact q.elim
    | some bb =>
      rw [e2] at q
      exact fun v F' H' s r => ⟨bb, tru_of hd.mcE s.rel.frz (r.toB s.rel.frz) e2, q _ F' H' s (by simp [RR, Rep])⟩
/-- a and b; a or b -/
def eAnd (fa fb : E) : E := fun env => match fa env with
  | .ok t _ env' => (match truthT t with
    | some true => fb env'
    | some false => .ok t false env'
    | none => .err)
  | r => r
def eOr (fa fb : E) : E := fun env => match fa env with
  | .ok t _ env' => (match truthT t with
    | some true => .ok t false env'
    | some false => fb env'
    | none => .err)
  | r => r
def WW (X : Cx) (e : Expr) : TT := fun σ H Q => ∃ t, PW X e t ∧ t σ H Q
theorem pw_WW {X : Cx} {e : Expr} : PW X e (WW X e) := ⟨fun wh pins s σ H Q I ⟨_, h, q⟩ => h.run wh pins s σ H Q I q⟩
def SndW (G : MC) (sc : Scope) (N : List Str) (k : Nat) (e : Expr) (f : E) : Prop :=
  ∀ (X : Cx) (W : WX) (env : List Slot) (σ : Sg) (F H : Hp) (Q : Bool → Hp → Prop), Gd G sc N k X → Takes X W → ER G env σ F H → WishT G env σ F H (f env) Q (fun c d H' => W c d σ H') → WW X e σ H Q
theorem snd_w (h : SndW G sc N k a fa) : SndT G sc N k a fa := fun X W env σ F H Q hd tk h0 q => ⟨_, PW.pt pw_WW, h X W env σ F H Q hd tk h0 q⟩
theorem snd_wAnd1 (ha : SndT G sc N k a fa) : SndW G sc N k (.BoolOp .And [a] pos) fa := fun X W env σ F H Q hd tk h0 q => ⟨_, pw_and1 pt_WT, ha X W env σ F H Q hd tk h0 q⟩
theorem snd_wOr1 (ha : SndT G sc N k a fa) : SndW G sc N k (.BoolOp .Or [a] pos) fa := fun X W env σ F H Q hd tk h0 q => ⟨_, pw_or1 pt_WT, ha X W env σ F H Q hd tk h0 q⟩
theorem snd_wAnd (ha : SndT G sc N k a fa) (hb : SndW G sc N k (.BoolOp .And (b :: rest) pos) fb) : SndW G sc N k (.BoolOp .And (a :: b :: rest) pos) (eAnd fa fb) := by
  intro X W env σ F H Q hd tk h0 q
  refine ⟨_, pw_and pt_WT pw_WW, ?_⟩
  refine ha X W env σ F H _ hd tk h0 ?_
  unfold eAnd at q
  cases e : fa env with
  | err => rw [e] at q; exact q
  | exc x env' => rw [e] at q; exact q
  | ok t fr env' =>
    rw [e] at q
    dsimp only at q
    cases e2 : truthT t with
    | none => rw [e2] at q; exact q.elim
    | some bb =>
      rw [e2] at q
      refine ⟨bb, e2, fun F' H' s => ?_⟩
      cases bb with
      | true =>
        rw [if_pos rfl]
        exact hb X W env' σ F' H' Q hd tk s.rel (WishT.after s q)
      | false =>
        rw [if_neg Bool.false_ne_true]
        exact q.bool (v := .non) s e2
theorem snd_wOr (ha : SndT G sc N k a fa) (hb : SndW G sc N k (.BoolOp .Or (b :: rest) pos) fb) : SndW G sc N k (.BoolOp .Or (a :: b :: rest) pos) (eOr fa fb) := by
  intro X W env σ F H Q hd tk h0 q
  refine ⟨_, pw_or pt_WT pw_WW, ?_⟩
  refine ha X W env σ F H _ hd tk h0 ?_
  unfold eOr at q
  cases e : fa env with
  | err => rw [e] at q; exact q
  | exc x env' => rw [e] at q; exact q
  | ok t fr env' =>
    rw [e] at q
    dsimp only at q
    cases e2 : truthT t with
    | none => rw [e2] at q; exact q.elim
    | some bb =>
      rw [e2] at q
      refine ⟨bb, e2, fun F' H' s => ?_⟩
      cases bb with
      | false =>
        rw [if_neg Bool.false_ne_true]
        exact hb X W env' σ F' H' Q hd tk s.rel (WishT.after s q)
      | true =>
        rw [if_pos rfl]
        exact q.bool (v := .non) s e2
theorem snd_b1 {op : BoolOp} (ha : SndE G sc N k a fa) : SndE G sc N k (.BoolOp op [a] pos) fa := fun X W env σ F H Q hd tk h0 q => ⟨_, pe_one pe_WE, ha X W env σ F H Q hd tk h0 q⟩
theorem snd_and (ha : SndE G sc N k a fa) (hb : SndE G sc N k (.BoolOp .And (b :: rest) pos) fb) : SndE G sc N k (.BoolOp .And (a :: b :: rest) pos) (eAnd fa fb) := by
  intro X W env σ F H Q hd tk h0 q
  refine .of (pe_andT pe_WE pe_WE) ?_
  refine ha.frz hd tk h0 ?_
  unfold eAnd at q
  cases e : fa env with
  | err => rw [e] at q; exact q
  | exc x env' => rw [e] at q; exact q
  | ok t fr env' =>
    rw [e] at q
    dsimp only at q ⊢
    cases e2 : truthT t with
    | none => rw [e2] at q; exact q.elim
    | some bb =>
      rw [e2] at q
      intro v F' H' s r
      refine ⟨bb, tru_of hd.mcE s.rel.frz (r.toB s.rel.frz) e2, ?_⟩
      cases bb with
      | true =>
        rw [if_pos rfl]
        exact hb X W env' σ F' H' Q hd tk s.rel (WishE.after s q)
      | false =>
        rw [if_neg Bool.false_ne_true]
        exact q v F' H' s r
theorem snd_or (ha : SndE G sc N k a fa) (hb : SndE G sc N k (.BoolOp .Or (b :: rest) pos) fb) : SndE G sc N k (.BoolOp .Or (a :: b :: rest) pos) (eOr fa fb) := by
  intro X W env σ F H Q hd tk h0 q
  refine .of (pe_orT pe_WE pe_WE) ?_
  refine ha.frz hd tk h0 ?_
  unfold eOr at q
  cases e : fa env with
  | err => rw [e] at q; exact q
  | exc x env' => rw [e] at q; exact q
  | ok t fr env' =>
    rw [e] at q
    dsimp only at q ⊢
    cases e2 : truthT t with
    | none => rw [e2] at q; exact q.elim
    | some bb =>
      rw [e2] at q
      intro v F' H' s r
      refine ⟨bb, tru_of hd.mcE s.rel.frz (r.toB s.rel.frz) e2, ?_⟩
      cases bb with
      | false =>
        rw [if_neg Bool.false_ne_true]
        exact hb X W env' σ F' H' Q hd tk s.rel (WishE.after s q)
      | true =>
        rw [if_pos rfl]
        exact q v F' H' s r
/-- a if c else b -/
def eIf (fc fa fb : E) : E := fun env => match fc env with
  | .ok t _ env' => (match truthT t with
    | some true => fa env'
    | some false => fb env'
    | none => .err)
  | r => r
theorem snd_if (hc : SndT G sc N k c fc) (ha : SndE G sc N k a fa) (hb : SndE G sc N k b fb) : SndE G sc N k (.IfExp c a b pos) (eIf fc fa fb) := by
  intro X W env σ F H Q hd tk h0 q
  refine .of (pe_ifExp pt_WT pe_WE pe_WE) ?_
  refine hc X W env σ F H _ hd tk h0 ?_
  unfold eIf at q
  cases e : fc env with
  | err => rw [e] at q; exact q
  | exc x env' => rw [e] at q; exact q
  | ok t fr env' =>
    rw [e] at q
    dsimp only at q
    cases e2 : truthT t with
    | none => rw [e2] at q; exact q.elim
    | some bb =>
      rw [e2] at q
      refine ⟨bb, e2, fun F' H' s => ?_⟩
      cases bb with
      | true =>
        rw [if_pos rfl]
        exact ha X W env' σ F' H' Q hd tk s.rel (WishE.after s q)
      | false =>
        rw [if_neg Bool.false_ne_true]
        exact hb X W env' σ F' H' Q hd tk s.rel (WishE.after s q)
end

/-! ### argument lists, displays -/
inductive ARes where
  | ok (ts : List T) (env : List Slot) | exc (x : Exc) (env : List Slot) | err
abbrev A := List Slot → ARes
def WishA (G : MC) (env : List Slot) (σ : Sg) (F H : Hp) (r : ARes) (Q : List V → Hp → Prop) (W : XK) : Prop :=
  match r with
  | .err => False
  | .ok ts env' => ∀ vs F' H', StepE G env σ F H env' F' H' → Reps G F' ts vs → Q vs H'
  | .exc x env' => ∀ cls d F' H', StepE G env σ F H env' F' H' → XR G H H' x cls d → W cls d H'
def SndA (G : MC) (sc : Scope) (N : List Str) (k : Nat) (es : List Expr) (f : A) : Prop :=
  ∀ (X : Cx) (W : WX) (env : List Slot) (σ : Sg) (F H : Hp) (Q : List V → Hp → Prop), Gd G sc N k X → Takes X W → ER G env σ F H → WishA G env σ F H (f env) Q (fun c d H' => W c d σ H') → WA X es σ H Q
def aNil : A := fun env => .ok [] env
def aCons (f : E) (g : A) : A := fun env => match f env with
  | .ok t _ env1 => (match g env1 with
    | .ok ts env2 => .ok (t :: ts) env2
    | r => r)
  | .exc x env1 => .exc x env1
  | .err => .err
section
variable {G : MC} {sc : Scope} {N : List Str} {k : Nat} {a b c : Expr} {es : List Expr} {fa fb fc : E} {ga : A} {pos : Pos}
theorem snd_aNil : SndA G sc N k [] aNil := fun X W env σ F H Q hd tk h0 q => ⟨_, pa_nil, q [] F H (.refl h0) .nil⟩
theorem snd_aCons (ha : SndE G sc N k a fa) (hr : SndA G sc N k es ga) (hs : ∀ env, starEach (a :: es) env = (false, eval a env) :: starEach es env := by intro _; rfl) : SndA G sc N k (a :: es) (aCons fa ga) := by
  intro X W env σ F H Q hd tk h0 q
  refine ⟨_, pa_cons pe_WE pa_WA (hs _), ?_⟩
  refine ha.frz hd tk h0 ?_
  unfold aCons at q
  cases e : fa env with
  | err => rw [e] at q; exact q
  | exc x env' => rw [e] at q; exact q
  | ok t fr env' =>
    rw [e] at q
    dsimp only at q ⊢
    intro v F' H' s r
    refine hr X W env' σ F' H' _ hd tk s.rel ?_
    cases e2 : ga env' with
    | err => rw [e2] at q; exact q
    | exc x env2 =>
      rw [e2] at q
      exact fun c d F2 H2 s2 r2 => q c d F2 H2 (s.trans s2) (r2.back s.some_)
    | ok ts env2 =>
      rw [e2] at q
      exact fun vs F2 H2 s2 r2 => q (v :: vs) F2 H2 (s.trans s2) (.cons (r.mono s2.ext) r2)
theorem Grow.mk1 {F H : Hp} {p : Addr} {o : HO} (f : Frz F H) (n : H p = none) : Grow F H F (upd H p o) := by
  have keep : Ext H (upd H p o) := fun b u e => by rw [upd_ne (ne_of_none e n)]; exact e
  exact ⟨Ext.refl _, f.trans keep, fun _ _ h => .inl h, keep⟩
theorem Grow.newF {F H : Hp} {p : Addr} {o : HO} (f : Frz F H) (n : H p = none) : Grow F H (upd F p o) (upd H p o) := by
  have keep : Ext H (upd H p o) := fun b u e => by rw [upd_ne (ne_of_none e n)]; exact e
  have nF : F p = none := none_of_ext f n
  refine ⟨fun b u e => by rw [upd_ne (ne_of_none e nF)]; exact e, fun b u e => ?_, fun b u e => ?_, keep⟩
  · by_cases hb : b = p
    · subst hb
      rw [upd_same] at e ⊢
      exact e
    · rw [upd_ne hb] at e ⊢
      exact f b u e
  · by_cases hb : b = p
    · subst hb
      exact .inr n
    · rw [upd_ne hb] at e
      exact .inl e
/-- a new tuple, a new list: what is told of them -/
theorem new_tup {F H : Hp} {p : Addr} {vs : List V} {ts : List T} (f : Frz F H) (n : H p = none) (r : Reps G F ts vs) : Grow F H (upd F p (.tup vs)) (upd H p (.tup vs)) ∧ Rep G (upd F p (.tup vs)) (.tup ts) (.ref p) := by
  have g := Grow.newF (o := .tup vs) f n
  refine ⟨g, ?_⟩
  simp only [Rep]
  exact ⟨p, vs, rfl, upd_same, r.mono g.ext⟩
theorem new_own {F H : Hp} {p : Addr} {vs : List V} {o : OT} (f : Frz F H) (n : H p = none) (r : Reps G F o.ts vs) (z : o.k.fits vs.length) : Grow F H F (upd H p (o.k.ho vs)) ∧ RR G F (upd H p (o.k.ho vs)) H o.t true (.ref p) :=
  ⟨Grow.mk1 f n, p, o, rfl, rfl, ⟨vs, upd_same, z, r, none_of_ext f n⟩, n⟩
def eTup (a : A) : E := fun env => match a env with
  | .ok ts env' => if ts.length ≤ sizeLine then .ok (.tup ts) false env' else .err
  | .exc x env' => .exc x env'
  | .err => .err
def eLst (a : A) : E := fun env => match a env with
  | .ok ts env' => if ts.length ≤ sizeLine then .ok (.lst ts) true env' else .err
  | .exc x env' => .exc x env'
  | .err => .err
theorem snd_tup {x1 : Nat} (ha : SndA G sc N k es ga) : SndE G sc N k (.Tuple es x1 pos) (eTup ga) := by
  intro X W env σ F H Q hd tk h0 q
  refine .of (pe_tup pa_WA) ?_
  refine ha X W env σ F H _ hd tk h0 ?_
  unfold eTup at q
  cases e : ga env with
  | err => rw [e] at q; exact q
  | exc x env' => rw [e] at q; exact q
  | ok ts env' =>
    rw [e] at q
    dsimp only at q
    split at q
    · rename_i hl
      intro vs F' H' s r
      refine ⟨by rw [r.len]; exact hl, fun p n => ?_⟩
      obtain ⟨g, rp⟩ := new_tup s.rel.frz n r
      exact q _ _ _ (s.trans (StepE.of_grow s.rel g)) rp
    · exact q.elim
theorem snd_lst (ha : SndA G sc N k es ga) : SndE G sc N k (.List es pos) (eLst ga) := by
  intro X W env σ F H Q hd tk h0 q
  refine .of (pe_lst pa_WA) ?_
  refine ha X W env σ F H _ hd tk h0 ?_
  unfold eLst at q
  cases e : ga env with
  | err => rw [e] at q; exact q
  | exc x env' => rw [e] at q; exact q
  | ok ts env' =>
    rw [e] at q
    dsimp only at q
    split at q
    · rename_i hl
      intro vs F' H' s r
      refine ⟨by rw [r.len]; exact hl, fun p n => ?_⟩
      obtain ⟨g, rp⟩ := new_own (o := ⟨.l, ts⟩) s.rel.frz n r trivial
      exact q _ _ _ (s.trans (StepE.of_grow s.rel g)) (rp.back s.some_)
    · exact q.elim
end
end PT

set_option Elab.async false
set_option linter.all false
set_option maxRecDepth 100000
set_option autoImplicit false
namespace PT
open PySem PySem.Spec L2

/-! ### defs -/
inductive FRes where
  | ret (t : T) (fr : Bool) | exc (x : Exc) | err
abbrev Fn := List T → FRes
def WishF (G : MC) (F H : Hp) (r : FRes) (Q : VK) (E : XK) : Prop :=
  match r with
  | .err => False
  | .ret t fr => ∀ v F' H', Grow F H F' H' → RR G F' H' H t fr v → Q v H'
  | .exc x => ∀ cls d F' H', Grow F H F' H' → XR G H H' x cls d → E cls d H'
/-- a def's promise: it hands back what f tells -/
def spF (G : MC) (n : Nat) (f : Fn) : Sp := fun vs H Q E => ∃ F ts, vs.length = n ∧ Reps G F ts vs ∧ Frz F H ∧ WishF G F H (f ts) Q E
def FnHas (G : MC) (k : Nat) (x : Str) (n : Nat) (f : Fn) : Prop :=
  ∃ (a : Addr) (fd : FuncData) (ps : List Str), G.mg x = some (.ref a) ∧ PySem.W.keepIn G.K (.ref a) = true ∧ Binds G.K fd ps [] ∧ FnOk G.P G.w G.K G.mg G.base (L2.CX G.P G.w) k a fd ps (spF G n f)
theorem FnHas.mono {G : MC} {j k : Nat} {x : Str} {n : Nat} {f : Fn} (h : FnHas G j x n f) (l : j ≤ k) : FnHas G k x n f := by
  obtain ⟨a, fd, ps, h1, h2, h3, h4⟩ := h
  exact ⟨a, fd, ps, h1, h2, h3, h4.mono l⟩
def callF (n : Nat) (f : Fn) (ts : List T) (env : List Slot) : ERes := if ts.length = n then (match f ts with
  | .ret t fr => .ok t fr env
  | .exc x => .exc x env
  | .err => .err) else .err
def eCall (n : Nat) (f : Fn) (a : A) : E := fun env => match a env with
  | .ok ts env' => callF n f ts env'
  | .exc x env' => .exc x env'
  | .err => .err
section
variable {G : MC} {sc : Scope} {N : List Str} {k n : Nat} {a b c : Expr} {es : List Expr} {fa fb fc : E} {ga : A} {x : Str} {p pos : Pos} {f : Fn}
theorem call_wish {W : WX} {env : List Slot} {σ : Sg} {F H : Hp} {Q : VK} (h0 : ER G env σ F H) {ts : List T} {vs : List V} (r : Reps G F ts vs) (q : WishE G env σ F H (callF n f ts env) Q (fun c d H' => W c d σ H')) :
    spF G n f vs H Q (fun c d H' => W c d σ H') := by
  unfold callF at q
  split at q
  · rename_i hl
    refine ⟨F, ts, by rw [r.len]; exact hl, r, h0.frz, ?_⟩
    cases e : f ts with
    | err => rw [e] at q; exact q
    | ret t fr =>
      rw [e] at q
      exact fun v F' H' g rr => q v F' H' (StepE.of_grow h0 g) rr
    | exc x =>
      rw [e] at q
      exact fun c d F' H' g rr => q c d F' H' (StepE.of_grow h0 g) rr
  · exact q.elim
theorem snd_call (h : FnHas G k x n f) (hg : glB sc x = true) (ha : SndA G sc N k (a :: es) ga) (hdb : (x == ("__debug__" : Str)) = false := by decide)
    (he : ∀ env, starEach (a :: es) env = (false, eval a env) :: starEach es env := by intro _; rfl) (hpl : ∀ env, (backTo pos (starEach es env)).any (·.1) = false := by intro _; rfl) :
    SndE G sc N k (.Call (.Name x p) (a :: es) [] pos) (eCall n f ga) := by
  intro X W env σ F H Q hd tk h0 q
  obtain ⟨ad, fd, ps, hm, hk, hb, hf⟩ := h
  have e := hd.mcE
  subst e
  refine .of (pe_callS (E := L2.WE W) hf hd.room (gl_of hd hg) hm hk hb (fun σ => passAt tk σ) pa_WA hdb (he _) (hpl _)) ?_
  refine ha X W env σ F H _ hd tk h0 ?_
  unfold eCall at q
  cases e : ga env with
  | err => rw [e] at q; exact q
  | exc x env' => rw [e] at q; exact q
  | ok ts env' =>
    rw [e] at q
    exact fun vs F' H' s r => call_wish s.rel r (q.after s)
theorem snd_call0 (h : FnHas G k x 0 f) (hg : glB sc x = true) (hdb : (x == ("__debug__" : Str)) = false := by decide) : SndE G sc N k (.Call (.Name x p) [] [] pos) (callF 0 f []) := by
  intro X W env σ F H Q hd tk h0 q
  obtain ⟨ad, fd, ps, hm, hk, hb, hf⟩ := h
  have e := hd.mcE
  subst e
  have key : PE X (.Call (.Name x p) [] [] pos) (fun σ H Q => spF (mc X) 0 f [] H Q (fun c d H' => W c d σ H')) := by
    refine ⟨fun pins s σ H Q I h => ?_⟩
    refine wpAny_Call_Name_kw (ld_glob I (gl_of hd hg) hm ?_ hdb)
    exact PySem.W.callWith_K0 I.kIn hk (run_fnS (us := []) (E := L2.WE W) hf hd.room hb (passAt tk σ) I .nil h)
  exact .of key (call_wish h0 .nil q)
end

/-! ### builtins by their names -/
abbrev JF1 (f : Value) (X : Cx) (r : V → Hp → VK → Prop) : Prop := CallR X f (fun xs H Q => ∃ v, xs = [v] ∧ r v H Q)
abbrev JF2 (f : Value) (X : Cx) (r : R2) : Prop := CallR X f (fun xs H Q => ∃ v w, xs = [v, w] ∧ r v w H Q)
section
variable {G : MC} {sc : Scope} {N : List Str} {k n : Nat} {a b c : Expr} {es : List Expr} {fa fb fc : E} {x : Str} {p pos : Pos} {g1 : T → Option (T × Bool)} {g : T → T → Option (T × Bool)} {id : String}
theorem snd_f1 (ho : VOp1 G k (JF1 (.builtin id)) g1) (hg : glB sc x = true) (hm : G.mg x = none) (hv : bootBuiltins x = some (.builtin id)) (ha : SndB G sc N k a fa) (hn : x ≠ "__name__" := by decide) (hdb : (x == ("__debug__" : Str)) = false := by decide)
    (he : ∀ env, starEach [a] env = (false, eval a env) :: starEach [] env := by intro _; rfl) : SndE G sc N k (.Call (.Name x p) [a] [] pos) (eUn g1 fa) := by
  intro X W env σ F H Q hd tk h0 q
  have z := one (R := fun x H2 => ∃ r, JF1 (.builtin id) X r ∧ r x H2 Q) hd tk h0 ha (fun ta env2 x F2 H2 s rx w => by
    cases e : g1 ta with
    | none => rw [e] at w; exact w.elim
    | some p =>
      obtain ⟨t, fr⟩ := p
      rw [e] at w
      exact ho X hd.mcE hd.calm hd.room F2 H2 ta x t fr Q e s.rel.frz (rx.toB s.rel.frz) fun v F' H' gr r => w v F' H' (StepE.of_grow s.rel gr) r) q
  have hm' : X.mg x = none := by
    have e := hd.mcE
    subst e
    exact hm
  have hc : CallR X (.builtin id) (fun xs H Q => ∃ v, xs = [v] ∧ ∃ r, JF1 (.builtin id) X r ∧ r v H Q) := fun pins s σ H xs us Q I rs ⟨v, e, r, h1, h2⟩ => h1 pins s σ H xs us Q I rs ⟨v, e, h2⟩
  exact .of (pe_callB hc (gl_of hd hg) hm' hv (pa_cons pe_WE pa_nil (he _)) hn hdb (he _) rfl) (by
    refine ha X W env σ F H _ hd tk h0 ?_
    have zz : WishB G env σ F H (fa env) (fun x H2 => ∃ r, JF1 (.builtin id) X r ∧ r x H2 Q) (fun c d H' => W c d σ H') := by
      unfold eUn eB at q
      cases e : fa env with
      | err => rw [e] at q; exact q
      | exc x env' => rw [e] at q; exact q
      | ok ta fr env2 =>
        rw [e] at q
        dsimp only at q
        intro x F2 H2 s rx
        cases e2 : g1 ta with
        | none => rw [e2] at q; exact q.elim
        | some p =>
          obtain ⟨t, fr⟩ := p
          rw [e2] at q
          exact ho X hd.mcE hd.calm hd.room F2 H2 ta x t fr Q e2 s.rel.frz (rx.toB s.rel.frz) fun v F' H' gr r => q v F' H' (s.trans (StepE.of_grow s.rel gr)) (r.back s.some_)
    cases e : fa env with
    | err => rw [e] at zz; exact zz
    | exc x env' => rw [e] at zz; exact zz
    | ok ta fr env2 =>
      rw [e] at zz
      exact fun v F' H' s r => ⟨v, rfl, zz v F' H' s r⟩)
theorem snd_t1 (ho : VOp1 G k (JF1 (.type id)) g1) (hg : glB sc x = true) (hm : G.mg x = none) (hv : bootBuiltins x = some (.type id)) (ha : SndB G sc N k a fa) (hn : x ≠ "__name__" := by decide) (hdb : (x == ("__debug__" : Str)) = false := by decide)
    (he : ∀ env, starEach [a] env = (false, eval a env) :: starEach [] env := by intro _; rfl) : SndE G sc N k (.Call (.Name x p) [a] [] pos) (eUn g1 fa) := by
  intro X W env σ F H Q hd tk h0 q
  have hm' : X.mg x = none := by
    have e := hd.mcE
    subst e
    exact hm
  have hc : CallR X (.type id) (fun xs H Q => ∃ v, xs = [v] ∧ ∃ r, JF1 (.type id) X r ∧ r v H Q) := fun pins s σ H xs us Q I rs ⟨v, e, r, h1, h2⟩ => h1 pins s σ H xs us Q I rs ⟨v, e, h2⟩
  refine .of (pe_callTy hc (gl_of hd hg) hm' hv (pa_cons pe_WE pa_nil (he _)) hn hdb (he _) rfl) ?_
  refine one (R := fun x H2 => ∃ v, [x] = [v] ∧ ∃ r, JF1 (.type id) X r ∧ r v H2 Q) hd tk h0 ha (fun ta env2 x F2 H2 s rx w => ?_) q
  cases e : g1 ta with
  | none => rw [e] at w; exact w.elim
  | some p =>
    obtain ⟨t, fr⟩ := p
    rw [e] at w
    exact ⟨x, rfl, ho X hd.mcE hd.calm hd.room F2 H2 ta x t fr Q e s.rel.frz (rx.toB s.rel.frz) fun v F' H' gr r => w v F' H' (StepE.of_grow s.rel gr) r⟩
theorem snd_f2 (ho : VOp2 G k (JF2 (.builtin id)) g) (hg : glB sc x = true) (hm : G.mg x = none) (hv : bootBuiltins x = some (.builtin id)) (ha : SndB G sc N k a fa) (hb : SndB G sc N k b fb) (hn : x ≠ "__name__" := by decide) (hdb : (x == ("__debug__" : Str)) = false := by decide)
    (he : ∀ env, starEach [a, b] env = (false, eval a env) :: starEach [b] env := by intro _; rfl) (he2 : ∀ env, starEach [b] env = (false, eval b env) :: starEach [] env := by intro _; rfl) : SndE G sc N k (.Call (.Name x p) [a, b] [] pos) (eBin g fa fb) := by
  intro X W env σ F H Q hd tk h0 q
  have hm' : X.mg x = none := by
    have e := hd.mcE
    subst e
    exact hm
  have hc : CallR X (.builtin id) (fun xs H Q => ∃ v w, xs = [v, w] ∧ ∃ r, JF2 (.builtin id) X r ∧ r v w H Q) := fun pins s σ H xs us Q I rs ⟨v, w, e, r, h1, h2⟩ => h1 pins s σ H xs us Q I rs ⟨v, w, e, h2⟩
  refine .of (pe_callB hc (gl_of hd hg) hm' hv (pa_cons pe_WE (pa_cons pe_WE pa_nil (he2 _)) (he _)) hn hdb (he _) (by rw [he2]; rfl)) ?_
  refine two (R := fun x y H2 => ∃ v w, [x, y] = [v, w] ∧ ∃ r, JF2 (.builtin id) X r ∧ r v w H2 Q) hd tk h0 ha hb (fun ta tb env2 x y F2 H2 s rx ry w => ?_) q
  cases e : g ta tb with
  | none => rw [e] at w; exact w.elim
  | some p =>
    obtain ⟨t, fr⟩ := p
    rw [e] at w
    exact ⟨x, y, rfl, ho X hd.mcE hd.calm hd.room F2 H2 ta tb x y t fr Q e s.rel.frz (rx.toB s.rel.frz) (ry.toB s.rel.frz) fun v F' H' gr r => w v F' H' (StepE.of_grow s.rel gr) r⟩
end

/-! ### defs that change their first argument -/
inductive FIO where
  | ret (t : T) (fr : Bool) (o : OT) | exc (x : Exc) (o : OT) | err
abbrev FnI := OT → List T → FIO
structure GrowBut (a : Addr) (F H F' H' : Hp) : Prop where
  ext : Ext F F'
  frz : Frz F' H'
  new : ∀ b o, F' b = some o → F b = some o ∨ H b = none
  keep : ∀ b o, b ≠ a → H b = some o → H' b = some o
def WishI (G : MC) (a : Addr) (F H : Hp) (r : FIO) (Q : VK) (E : XK) : Prop :=
  match r with
  | .err => False
  | .ret t fr o => ∀ v F' H', GrowBut a F H F' H' → OwnAt G F' H' o a → RR G F' H' H t fr v → Q v H'
  | .exc x o => ∀ cls d F' H', GrowBut a F H F' H' → OwnAt G F' H' o a → XR G H H' x cls d → E cls d H'
def spI (G : MC) (n : Nat) (f : FnI) : Sp := fun vs H Q E => ∃ F o ts a ws, vs = .ref a :: ws ∧ ws.length = n ∧ OwnAt G F H o a ∧ Reps G F ts ws ∧ Frz F H ∧ WishI G a F H (f o ts) Q E
def FnHasI (G : MC) (k : Nat) (x : Str) (n : Nat) (f : FnI) : Prop :=
  ∃ (a : Addr) (fd : FuncData) (ps : List Str), G.mg x = some (.ref a) ∧ PySem.W.keepIn G.K (.ref a) = true ∧ Binds G.K fd ps [] ∧ FnOk G.P G.w G.K G.mg G.base (L2.CX G.P G.w) k a fd ps (spI G n f)
theorem FnHasI.mono {G : MC} {j k : Nat} {x : Str} {n : Nat} {f : FnI} (h : FnHasI G j x n f) (l : j ≤ k) : FnHasI G k x n f := by
  obtain ⟨a, fd, ps, h1, h2, h3, h4⟩ := h
  exact ⟨a, fd, ps, h1, h2, h3, h4.mono l⟩
theorem StepE.but {G : MC} {env : List Slot} {σ : Sg} {F H F' H' : Hp} {i : Nat} {o o' : OT} {a : Addr} (h0 : ER G env σ F H) (e : env[i]? = some (.own true o)) (ea : σ[i]? = some (some (.ref a))) (g : GrowBut a F H F' H') (ow : OwnAt G F' H' o' a) :
    StepE G env σ F H (env.set i (.own true o')) F' H' := by
  have hi : i < env.length := (List.getElem?_eq_some_iff.mp e).1
  have self : (env.set i (.own true o'))[i]? = some (.own true o') := by rw [List.getElem?_set_self hi]
  have oi : OwnI env σ i true a := ⟨⟨o, e⟩, ea⟩
  have back : ∀ j io b, OwnI (env.set i (.own true o')) σ j io b → OwnI env σ j io b := by
    rintro j io b ⟨⟨u, q⟩, q2⟩
    by_cases hj : j = i
    · subst hj
      rw [self] at q
      cases q
      exact ⟨⟨o, e⟩, q2⟩
    · rw [getElem?_set_ne' hj] at q
      exact ⟨⟨u, q⟩, q2⟩
  refine { rel := ⟨by rw [List.length_set]; exact h0.len, g.frz, fun j s x q1 q2 => ?_, fun j j' io io' b q q' => h0.dis _ _ _ _ _ (back _ _ _ q) (back _ _ _ q')⟩, ext := g.ext, new := fun b u q => (g.new b u q).elim .inl fun z => .inr (.inl z), keep := fun b u q n => g.keep b u (fun z => n ⟨i, true, z ▸ oi⟩) q, some_ := fun b q => ?_, own := fun b q => ?_, io := fun j u q => ?_, len := List.length_set .., keepE := fun b u q n => g.keep b u (fun z => n ⟨i, z ▸ oi⟩) q, slot := fun j s q => ?_, ownE := fun b q => ?_ }
  · by_cases hj : j = i
    · subst hj
      rw [self] at q1
      cases q1
      rw [ea] at q2
      cases q2
      exact ⟨a, rfl, ow⟩
    · rw [getElem?_set_ne' hj] at q1
      have q := h0.at_ j s x q1 q2
      cases s with
      | un => trivial
      | val t =>
        obtain ⟨v, z1, z2⟩ := q
        exact ⟨v, z1, z2.mono g.ext⟩
      | own io ob =>
        obtain ⟨b, z1, vs', y1, y2, y3, y4⟩ := q
        have nb : b ≠ a := fun z => hj (h0.dis _ _ _ _ _ (⟨⟨ob, q1⟩, by rw [q2, z1, z]⟩ : OwnI env σ j io a) oi)
        refine ⟨b, z1, vs', g.keep _ _ nb y1, y2, y3.mono g.ext, ?_⟩
        cases ef : F' b with
        | none => rfl
        | some u =>
          rcases g.new b u ef with z | z
          · rw [y4] at z; cases z
          · rw [y1] at z; cases z
  · by_cases hb : b = a
    · subst hb
      obtain ⟨vs, y1, _⟩ := ow
      rw [y1]
      exact Option.some_ne_none _
    · cases eh : H b with
      | none => exact absurd eh q
      | some u => rw [g.keep b u hb eh]; exact Option.some_ne_none _
  · obtain ⟨j, io, q⟩ := q
    exact .inl ⟨j, io, back _ _ _ q⟩
  · by_cases hj : j = i
    · subst hj
      exact ⟨⟨o', self⟩, rfl⟩
    · exact ⟨⟨u, by rw [getElem?_set_ne' hj]; exact q⟩, rfl⟩
  · by_cases hj : j = i
    · subst hj
      rw [e] at q
      cases q
      exact .inr (.inl ⟨o, rfl⟩)
    · exact .inl (by rw [getElem?_set_ne' hj]; exact q)
  · obtain ⟨j, io, q⟩ := q
    exact ⟨j, io, back _ _ _ q⟩
def callI (n : Nat) (f : FnI) (i : Nat) (ts : List T) (env : List Slot) : ERes := match env[i]? with
  | some (.own true o) => if ts.length = n then (match f o ts with
    | .ret t fr o' => .ok t fr (env.set i (.own true o'))
    | .exc x o' => .exc x (env.set i (.own true o'))
    | .err => .err) else .err
  | _ => .err
def eCallI (n : Nat) (f : FnI) (i : Nat) (a : A) : E := fun env => match env[i]? with
  | some (.own true _) => (match a env with
    | .ok ts env' => callI n f i ts env'
    | .exc x env' => .exc x env'
    | .err => .err)
  | _ => .err
section
variable {G : MC} {sc : Scope} {N : List Str} {k n i : Nat} {es : List Expr} {ga : A} {x y : Str} {p p2 pos : Pos} {f : FnI}
theorem snd_callI (h : FnHasI G k x n f) (hg : glB sc x = true) (hN : N[i]? = some y) (hv : visB sc y = true) (ha : SndA G sc N k es ga) (hdb : (x == ("__debug__" : Str)) = false := by decide)
    (hd1 : (y == ("__debug__" : Str)) = false := by decide) (hcd : (y == ("__classdict__" : Str)) = false := by decide) (hpl : ∀ env, (backTo pos (starEach es env)).any (·.1) = false := by intro _; rfl) :
    SndE G sc N k (.Call (.Name x p) (.Name y p2 :: es) [] pos) (eCallI n f i ga) := by
  intro X W env σ F H Q hd tk h0 q
  obtain ⟨ad, fd, ps, hm, hk, hb, hf⟩ := h
  have e := hd.mcE
  subst e
  have pv : PE X (.Name y p2) (tVar i) := pe_var (by rw [hd.NE]; exact hN) (vis_of hd.scR hv) hd1 hcd
  refine .of (pe_callS (E := L2.WE W) hf hd.room (gl_of hd hg) hm hk hb (fun σ => passAt tk σ) (pa_cons pv pa_WA rfl) hdb rfl (hpl _)) ?_
  unfold eCallI at q
  cases e0 : env[i]? with
  | none => rw [e0] at q; exact q.elim
  | some sl =>
  rw [e0] at q
  cases sl with
  | un => exact q.elim
  | val t => exact q.elim
  | own io o0 =>
  cases io with
  | false => exact q.elim
  | true =>
  dsimp only at q
  obtain ⟨a, ev, _⟩ := h0.own e0
  refine ⟨_, ev, ?_⟩
  refine ha X W env σ F H _ hd tk h0 ?_
  cases e : ga env with
  | err => rw [e] at q; exact q
  | exc x env' => rw [e] at q; exact q
  | ok ts env' =>
    rw [e] at q
    intro ws F' H' s r
    have q := WishE.after s q
    unfold callI at q
    obtain ⟨⟨o, e2⟩, _⟩ := s.io i o0 e0
    dsimp only at q
    rw [e2] at q
    dsimp only at q
    split at q
    · rename_i hl
      obtain ⟨a', ea, ow⟩ := s.rel.own e2
      rw [ev] at ea
      cases ea
      refine ⟨F', o, ts, a, ws, rfl, by rw [r.len]; exact hl, ow, r, s.rel.frz, ?_⟩
      cases e3 : f o ts with
      | err => rw [e3] at q; exact q
      | ret t fr o' =>
        rw [e3] at q
        exact fun v F2 H2 g ow' rr => q v F2 H2 (StepE.but s.rel e2 ev g ow') rr
      | exc x o' =>
        rw [e3] at q
        exact fun c d F2 H2 g ow' rr => q c d F2 H2 (StepE.but s.rel e2 ev g ow') rr
    · exact q.elim
end
end PT

set_option Elab.async false
set_option linter.all false
set_option maxRecDepth 100000
set_option autoImplicit false
namespace PT
open PySem PySem.Spec L2

/-! ### blocks -/
def sNil : S := fun env => .nx env
def sSeq (f g : S) : S := fun env => match f env with
  | .nx env' => g env'
  | r => r
section
variable {G : MC} {sc : Scope} {N : List Str} {k : Nat} {st : Stmt} {rest : List Stmt} {f g : S} {pos : Pos}
theorem snd_nil : SndSs G sc N k [] sNil := by
  intro X W env σ F H D hd tk h0 q
  exact .of pss_nil (q σ F H (StepE.refl h0).toStepS)
theorem snd_one (h : SndS G sc N k st f) : SndSs G sc N k [st] f := by
  intro X W env σ F H D hd tk h0 q
  exact .of (pss_one ps_WS) (h X W env σ F H D hd tk h0 q)
theorem snd_seq (h : SndS G sc N k st f) (hr : SndSs G sc N k rest g) : SndSs G sc N k (st :: rest) (sSeq f g) := by
  intro X W env σ F H D hd tk h0 q
  refine .of (pss_cons ps_WS pss_WSs) ?_
  refine h X W env σ F H _ hd tk h0 ?_
  unfold sSeq at q
  cases e : f env with
  | err => rw [e] at q; exact q
  | exc x env' => rw [e] at q; exact q
  | brk env' => rw [e] at q; exact q
  | cont env' => rw [e] at q; exact q
  | ret t fr env' => rw [e] at q; exact q
  | nx env' =>
    rw [e] at q
    exact fun σ' F' H' s => hr X W env' σ' F' H' D hd tk s.rel (WishS.after s q)
theorem snd_pass : SndS G sc N k (.Pass pos) sNil := by
  intro X W env σ F H D hd tk h0 q
  exact .of ps_pass (q σ F H (StepE.refl h0).toStepS)
def sBrk : S := fun env => .brk env
def sCont : S := fun env => .cont env
theorem snd_break : SndS G sc N k (.Break pos) sBrk := by
  intro X W env σ F H D hd tk h0 q
  exact .of ps_break (q σ F H (StepE.refl h0).toStepS)
theorem snd_continue : SndS G sc N k (.Continue pos) sCont := by
  intro X W env σ F H D hd tk h0 q
  exact .of ps_continue (q σ F H (StepE.refl h0).toStepS)
end

/-! ### an expression within a statement -/
def sE (f : E) (kk : T → Bool → List Slot → SRes) : S := fun env => match f env with
  | .ok t fr env' => kk t fr env'
  | .exc x env' => .exc x env'
  | .err => .err
section
variable {G : MC} {sc : Scope} {N : List Str} {k : Nat} {e : Expr} {f : E} {a : Expr} {fa : E} {pos : Pos}
theorem inS {X : Cx} {W : WX} {env : List Slot} {σ : Sg} {F H : Hp} {D : Ends} {Q : VK} {kk : T → Bool → List Slot → SRes} (ha : SndE G sc N k e f) (hd : GdS G sc N k X) (tk : Takes X W) (h0 : ER G env σ F H)
    (q : WishS G env σ F H (sE f kk env) D W) (hk : ∀ t fr env' v F' H', StepE G env σ F H env' F' H' → RR G F' H' H t fr v → WishS G env σ F H (kk t fr env') D W → Q v H') : WE X e σ H Q := by
  refine ha X W env σ F H Q hd.toGd tk h0 ?_
  unfold sE at q
  cases e : f env with
  | err => rw [e] at q; exact q
  | exc x env' =>
    rw [e] at q
    exact fun c d F' H' s r => q c d σ F' H' s.toStepS r
  | ok t fr env' =>
    rw [e] at q
    exact fun v F' H' s r => hk t fr env' v F' H' s r q
theorem inB {X : Cx} {W : WX} {env : List Slot} {σ : Sg} {F H : Hp} {D : Ends} {Q : VK} {kk : T → Bool → List Slot → SRes} (ha : SndB G sc N k e f) (hd : GdS G sc N k X) (tk : Takes X W) (h0 : ER G env σ F H)
    (q : WishS G env σ F H (sE f kk env) D W) (hk : ∀ t fr env' v F' H', StepE G env σ F H env' F' H' → RBs G env' σ F' H' t v → WishS G env σ F H (kk t fr env') D W → Q v H') : WE X e σ H Q := by
  refine ha X W env σ F H Q hd.toGd tk h0 ?_
  unfold sE at q
  cases e : f env with
  | err => rw [e] at q; exact q
  | exc x env' =>
    rw [e] at q
    exact fun c d F' H' s r => q c d σ F' H' s.toStepS r
  | ok t fr env' =>
    rw [e] at q
    exact fun v F' H' s r => hk t fr env' v F' H' s r q
theorem inT {X : Cx} {W : WX} {env : List Slot} {σ : Sg} {F H : Hp} {D : Ends} {Q : Bool → Hp → Prop} {kk : T → Bool → List Slot → SRes} (ha : SndT G sc N k e f) (hd : GdS G sc N k X) (tk : Takes X W) (h0 : ER G env σ F H)
    (q : WishS G env σ F H (sE f kk env) D W) (hk : ∀ t fr env', WishS G env σ F H (kk t fr env') D W → ∃ b, truthT t = some b ∧ ∀ F' H', StepE G env σ F H env' F' H' → Q b H') : WT X e σ H Q := by
  refine ha X W env σ F H Q hd.toGd tk h0 ?_
  unfold sE at q
  cases e : f env with
  | err => rw [e] at q; exact q
  | exc x env' =>
    rw [e] at q
    exact fun c d F' H' s r => q c d σ F' H' s.toStepS r
  | ok t fr env' =>
    rw [e] at q
    exact hk t fr env' q
/-- return e -/
def sRet (f : E) : S := sE f fun t fr env => .ret t fr env
theorem snd_ret (ha : SndE G sc N k e f) : SndS G sc N k (.Return (some e) pos) (sRet f) := by
  intro X W env σ F H D hd tk h0 q
  refine .of (ps_ret pe_WE) ?_
  exact inS (Q := D.rt) ha hd tk h0 q fun t fr env' v F' H' s r w => w v σ F' H' s.toStepS r
theorem snd_retN : SndS G sc N k (.Return none pos) (fun env => .ret .non false env) := by
  intro X W env σ F H D hd tk h0 q
  exact .of ps_retN (q .non σ F H (StepE.refl h0).toStepS (by simp [RR, Rep]))
/-- e alone -/
def sExpr (f : E) : S := sE f fun _ _ env => .nx env
theorem snd_expr (ha : SndE G sc N k e f) (hs : ∀ env, swapsWith e none pos.line env = pure false := by intro _; rfl) : SndS G sc N k (.Expr e pos) (sExpr f) := by
  intro X W env σ F H D hd tk h0 q
  refine .of (ps_expr pe_WE (hs _)) ?_
  exact inS (Q := fun _ H1 => D.nx σ H1) ha hd tk h0 q fun t fr env' v F' H' s r w => w σ F' H' s.toStepS
/-- if -/
def sIf (c : E) (f g : S) : S := sE c fun t _ env => match truthT t with
  | some true => f env
  | some false => g env
  | none => .err
theorem snd_ifS {A B : List Stmt} {fA fB : S} (hc : SndT G sc N k e f) (ha : SndSs G sc N k A fA) (hb : SndSs G sc N k B fB) : SndS G sc N k (.If e A B pos) (sIf f fA fB) := by
  intro X W env σ F H D hd tk h0 q
  refine .of (ps_if pt_WT pss_WSs pss_WSs) ?_
  refine inT hc hd tk h0 q fun t fr env' w => ?_
  cases e2 : truthT t with
  | none => rw [e2] at w; exact w.elim
  | some b =>
    rw [e2] at w
    refine ⟨b, rfl, fun F' H' s => ?_⟩
    cases b with
    | true =>
      rw [if_pos rfl]
      exact ha X W env' σ F' H' D hd tk s.rel (WishS.after s.toStepS w)
    | false =>
      rw [if_neg Bool.false_ne_true]
      exact hb X W env' σ F' H' D hd tk s.rel (WishS.after s.toStepS w)
end

/-! ### stores -/
def T.ot : T → Option OT
  | .lst l => some ⟨.l, l⟩
  | .dk ks l => some ⟨.dk ks, l⟩
  | .dt ks l => some ⟨.dt ks, l⟩
  | _ => none
theorem OT.t_ot (o : OT) : o.t.ot = some o := by
  obtain ⟨k, ts⟩ := o
  cases k <;> rfl
def slotOf (io : Bool) (t : T) : Bool → Option Slot
  | false => if io then none else some (.val t)
  | true => (t.ot).map (Slot.own io)
/-- name i = a value -/
def put (io : Bool) (i : Nat) (t : T) (fr : Bool) (env : List Slot) : Option (List Slot) := match env[i]? with
  | none => none
  | some (.own true _) => none
  | some _ => (slotOf io t fr).map fun s => env.set i s
theorem set_get_ne {σ : Sg} {i j : Nat} {v : Option V} (h : j ≠ i) : (σ.set i v)[j]? = σ[j]? := List.getElem?_set_ne (Ne.symm h)
theorem StepS.put {G : MC} {env env' : List Slot} {σ : Sg} {F H : Hp} {io : Bool} {i : Nat} {t : T} {fr : Bool} {v : V} (h0 : ER G env σ F H)
    (r : match fr with
      | false => Rep G F t v
      | true => ∃ a o, v = .ref a ∧ t = o.t ∧ OwnAt G F H o a ∧ ¬ OwnA env σ a) (e : put io i t fr env = some env') :
    ER G env' (σ.set i (some v)) F H ∧ (∀ b, OwnA env' (σ.set i (some v)) b → OwnA env σ b ∨ (fr = true ∧ v = .ref b)) ∧ (∀ (j : Nat) (o : OT), env[j]? = some (.own true o) → env'[j]? = some (.own true o) ∧ (σ.set i (some v))[j]? = σ[j]?) ∧ env'.length = env.length := by
  unfold PT.put at e
  cases e1 : env[i]? with
  | none => rw [e1] at e; cases e
  | some s0 =>
  have hi : i < env.length := (List.getElem?_eq_some_iff.mp e1).1
  have hs : i < σ.length := by rw [← h0.len]; exact hi
  have nio : ∀ o, s0 ≠ .own true o := fun o z => by
    subst z
    rw [e1] at e
    cases e
  have e' : (slotOf io t fr).map (fun s => env.set i s) = some env' := by
    rw [e1] at e
    cases s0 with
    | un => exact e
    | val t => exact e
    | own io' o =>
      cases io' with
      | false => exact e
      | true => exact absurd rfl (nio o)
  obtain ⟨s, es, rfl⟩ := Option.map_eq_some_iff.mp e'
  have self : (env.set i s)[i]? = some s := List.getElem?_set_self hi
  have selfσ : (σ.set i (some v))[i]? = some (some v) := List.getElem?_set_self hs
  have back : ∀ j jo b, OwnI (env.set i s) (σ.set i (some v)) j jo b → (j ≠ i ∧ OwnI env σ j jo b) ∨ (j = i ∧ fr = true ∧ v = .ref b) := by
    rintro j jo b ⟨⟨u, q⟩, q2⟩
    by_cases hj : j = i
    · subst hj
      rw [self] at q
      rw [selfσ] at q2
      cases q
      cases q2
      refine .inr ⟨rfl, ?_, rfl⟩
      cases fr with
      | true => rfl
      | false =>
        have es : (if io then none else some (Slot.val t)) = some (Slot.own jo u) := es
        cases io with
        | true => cases es
        | false => cases es
    · rw [getElem?_set_ne' hj] at q
      rw [set_get_ne hj] at q2
      exact .inl ⟨hj, ⟨u, q⟩, q2⟩
  refine ⟨⟨by rw [List.length_set, List.length_set]; exact h0.len, h0.frz, fun j s' x q1 q2 => ?_, fun j j' jo jo' b q q' => ?_⟩, fun b q => ?_, fun j o q => ?_, List.length_set ..⟩
  · by_cases hj : j = i
    · subst hj
      rw [self] at q1
      rw [selfσ] at q2
      cases q1
      cases q2
      cases fr with
      | false =>
        have es : (if io then none else some (Slot.val t)) = some s := es
        cases io with
        | true => cases es
        | false =>
          cases es
          exact ⟨v, rfl, r⟩
      | true =>
        obtain ⟨a, o, rfl, rfl, ow, _⟩ := r
        have es : (o.t.ot).map (Slot.own io) = some s := es
        rw [OT.t_ot] at es
        cases es
        exact ⟨a, rfl, ow⟩
    · rw [getElem?_set_ne' hj] at q1
      rw [set_get_ne hj] at q2
      exact h0.at_ j s' x q1 q2
  · rcases back _ _ _ q with ⟨_, z⟩ | ⟨hj, hf, z⟩ <;> rcases back _ _ _ q' with ⟨_, z'⟩ | ⟨hj', hf', z'⟩
    · exact h0.dis _ _ _ _ _ z z'
    · subst hf'
      obtain ⟨a, o, rfl, _, _, n⟩ := r
      cases z'
      exact absurd ⟨_, _, z⟩ n
    · subst hf
      obtain ⟨a, o, rfl, _, _, n⟩ := r
      cases z
      exact absurd ⟨_, _, z'⟩ n
    · rw [hj, hj']
  · obtain ⟨j, jo, q⟩ := q
    rcases back _ _ _ q with ⟨_, z⟩ | ⟨_, z⟩
    · exact .inl ⟨j, jo, z⟩
    · exact .inr z
  · have hj : j ≠ i := fun z => by
      subst z
      rw [e1] at q
      cases q
      exact nio o rfl
    exact ⟨by rw [getElem?_set_ne' hj]; exact q, set_get_ne hj⟩
/-- .. behind an expression -/
theorem StepE.put {G : MC} {env env1 env' : List Slot} {σ : Sg} {F H F1 H1 : Hp} {io : Bool} {i : Nat} {t : T} {fr : Bool} {v : V} (h0 : ER G env σ F H) (s : StepE G env σ F H env1 F1 H1) (r : RR G F1 H1 H t fr v) (e : put io i t fr env1 = some env') :
    StepS G env σ F H env' (σ.set i (some v)) F1 H1 := by
  have nb : ∀ a, H a = none → ¬ OwnA env1 σ a := fun a n q => by
    obtain ⟨_, u, e⟩ := h0.ownA (s.ownE _ q)
    rw [n] at e
    cases e
  obtain ⟨h1, h2, h3, h4⟩ := StepS.put (io := io) (i := i) (t := t) (fr := fr) (v := v) s.rel (by
    cases fr with
    | false => exact r
    | true =>
      obtain ⟨a, o, h1, h2, h3, h4⟩ := r
      exact ⟨a, o, h1, h2, h3, nb a h4⟩) e
  refine { rel := h1, ext := s.ext, new := s.new, keep := s.keep, some_ := s.some_, own := fun b q => ?_, io := fun j o q => ?_, len := h4.trans s.len }
  · rcases h2 b q with z | ⟨hf, z⟩
    · exact s.own b z
    · subst hf
      obtain ⟨a, o, z2, _, _, n⟩ := r
      rw [z] at z2
      cases z2
      exact .inr n
  · obtain ⟨⟨o', e'⟩, _⟩ := s.io j o q
    obtain ⟨z1, z2⟩ := h3 j o' e'
    exact ⟨⟨o', z1⟩, z2⟩
def sSet (io : Bool) (i : Nat) (f : E) : S := sE f fun t fr env => match put io i t fr env with
  | some env' => .nx env'
  | none => .err
section
variable {G : MC} {sc : Scope} {N : List Str} {k : Nat} {e : Expr} {f : E} {pos pos' : Pos} {x : Str} {i : Nat} {io : Bool}
def locB (sc : Scope) (x : Str) : Bool := match sc.names.lookup x with
  | some .local => true
  | some .cell => true
  | _ => false
theorem loc_of {sc : Scope} {x : Str} (h : locB sc x = true) : Loc sc x := by
  unfold locB at h
  split at h
  · exact .inl (by assumption)
  · exact .inr (by assumption)
  · cases h
theorem snd_set (hN : N[i]? = some x) (hx : locB sc x = true) (ha : SndE G sc N k e f) (hs : ∀ env, swapsWith e (some (.Name x pos')) pos.line env = pure false := by intro _; rfl) : SndS G sc N k (.Assign [.Name x pos'] e pos) (sSet io i f) := by
  intro X W env σ F H D hd tk h0 q
  refine .of (ps_set (by rw [hd.NE]; exact hd.nd) (by rw [hd.NE]; exact hN) (by rw [hd.same]; exact loc_of hx) pe_WE (hs _) (.inl (hd.fn x))) ?_
  refine inS (Q := fun v H1 => D.nx (σ.set i (some v)) H1) ha hd tk h0 q fun t fr env' v F' H' s r w => ?_
  cases e2 : put io i t fr env' with
  | none => rw [e2] at w; exact w.elim
  | some env2 =>
    rw [e2] at w
    exact w _ F' H' (StepE.put h0 s r e2)
/-- i op= e -/
abbrev JP (op : Operator) (X : Cx) (r : R2) : Prop := PIp X op r
def sAug (i : Nat) (g : T → T → Option (T × Bool)) (f : E) : S := fun env => match env[i]? with
  | some (.val a) => sE f (fun b _ env => match g a b with
    | some (t, fr) => (match put false i t fr env with
      | some env' => .nx env'
      | none => .err)
    | none => .err) env
  | _ => .err
theorem snd_aug {op : Operator} {g : T → T → Option (T × Bool)} (hN : N[i]? = some x) (hx : locB sc x = true) (ho : VOp2 G k (JP op) g) (ha : SndB G sc N k e f) : SndS G sc N k (.AugAssign (.Name x pos') op e pos) (sAug i g f) := by
  intro X W env σ F H D hd tk h0 q
  unfold sAug at q
  cases e0 : env[i]? with
  | none => rw [e0] at q; exact q.elim
  | some s0 =>
  rw [e0] at q
  cases s0 with
  | un => exact q.elim
  | own io o => exact q.elim
  | val a =>
  dsimp only at q
  obtain ⟨va, ea, ra⟩ := h0.val e0
  have hp : PIp X op (fun x y H Q => ∃ r, PIp X op r ∧ r x y H Q) := fun pins s σ H x y v u Q I r1 r2 ⟨r, h1, h2⟩ => h1 pins s σ H x y v u Q I r1 r2 h2
  refine .of (ps_aug (by rw [hd.NE]; exact hd.nd) (by rw [hd.NE]; exact hN) (by rw [hd.same]; exact loc_of hx) pe_WE hp (.inl (hd.fn x))) ⟨va, ea, ?_⟩
  refine inB (Q := fun y H1 => ∃ r, PIp X op r ∧ r va y H1 fun z H2 => D.nx (σ.set i (some z)) H2) ha hd tk h0 q fun t fr env' v F' H' s r w => ?_
  cases e2 : g a t with
  | none => rw [e2] at w; exact w.elim
  | some p =>
    obtain ⟨t2, fr2⟩ := p
    rw [e2] at w
    refine ho X hd.mcE hd.calm hd.room F' H' a t va v t2 fr2 _ e2 s.rel.frz ((ra.mono s.ext).toB s.rel.frz) (r.toB s.rel.frz) fun z F2 H2 gr rr => ?_
    dsimp only at w
    cases e3 : put false i t2 fr2 env' with
    | none => rw [e3] at w; exact w.elim
    | some env2 =>
      rw [e3] at w
      exact w _ F2 H2 (StepE.put h0 (s.trans (StepE.of_grow s.rel gr)) (rr.back s.some_) e3)
end

/-! ### targets -/
/-- store a (known) value: none is an error -/
abbrev Gt := T → List Slot → Option (List Slot)
def WG (X : Cx) (e : Expr) : TG := fun v σ H Q => ∃ t, PG X e t ∧ t v σ H Q
def WGs (X : Cx) (es : List Expr) : TGs := fun vs σ H Q => ∃ t, PGs X es t ∧ t vs σ H Q
theorem pg_WG {X : Cx} {e : Expr} : PG X e (WG X e) := ⟨fun pins s σ H v u Q I r ⟨_, h, q⟩ => h.run pins s σ H v u Q I r q⟩
theorem pgs_WGs {X : Cx} {es : List Expr} : PGs X es (WGs X es) := ⟨fun pins s σ H vs us Q I r ⟨_, h, q⟩ => h.run pins s σ H vs us Q I r q⟩
/-- a context of a store: a def's, a comprehension's -/
structure GdG (G : MC) (sc : Scope) (N : List Str) (k : Nat) (X : Cx) : Prop extends Gd G sc N k X where
  fnl : ∀ x, locB sc x = true → Loc X.env.scope x ∧ (X.fn x = true ∨ X.env.scope.names.lookup x = some .local)
theorem GdS.g {G : MC} {sc : Scope} {N : List Str} {k : Nat} {X : Cx} (h : GdS G sc N k X) : GdG G sc N k X := { h.toGd with fnl := fun x q => ⟨by rw [h.same]; exact loc_of q, .inl (h.fn x)⟩ }
def SndG (G : MC) (sc : Scope) (N : List Str) (k : Nat) (e : Expr) (f : Gt) : Prop :=
  ∀ (X : Cx) (W : WX) (env : List Slot) (σ : Sg) (F H : Hp) (t : T) (v : V) (Q : Sg → Hp → Prop), GdG G sc N k X → Takes X W → ER G env σ F H → Rep G F t v →
    (∀ env' σ' F' H', f t env = some env' → StepS G env σ F H env' σ' F' H' → Q σ' H') → (f t env).isSome = true → WG X e v σ H Q
def SndGs (G : MC) (sc : Scope) (N : List Str) (k : Nat) (es : List Expr) (f : List T → List Slot → Option (List Slot)) : Prop :=
  ∀ (X : Cx) (W : WX) (env : List Slot) (σ : Sg) (F H : Hp) (ts : List T) (vs : List V) (Q : Sg → Hp → Prop), GdG G sc N k X → Takes X W → ER G env σ F H → Reps G F ts vs →
    (∀ env' σ' F' H', f ts env = some env' → StepS G env σ F H env' σ' F' H' → Q σ' H') → (f ts env).isSome = true → WGs X es vs σ H Q
def gN (i : Nat) : Gt := fun t env => put false i t false env
def gNil' : List T → List Slot → Option (List Slot) := fun ts env => if ts.isEmpty then some env else none
def gCons' (f : Gt) (g : List T → List Slot → Option (List Slot)) : List T → List Slot → Option (List Slot) := fun ts env => match ts with
  | [] => none
  | t :: r => (f t env).bind (g r)
def gTup' (n : Nat) (g : List T → List Slot → Option (List Slot)) : Gt := fun t env => match t with
  | .tup l => if l.length = n then g l env else none
  | .lst l => if l.length = n then g l env else none
  | _ => none
section
variable {G : MC} {sc : Scope} {N : List Str} {k : Nat} {e : Expr} {es : List Expr} {f : Gt} {g : List T → List Slot → Option (List Slot)} {pos : Pos} {x : Str} {i : Nat}
theorem snd_gN (hN : N[i]? = some x) (hx : locB sc x = true) : SndG G sc N k (.Name x pos) (gN i) := by
  intro X W env σ F H t v Q hd tk h0 r q so
  refine ⟨_, pg_name (by rw [hd.NE]; exact hd.nd) (by rw [hd.NE]; exact hN) (hd.fnl x hx).1 (hd.fnl x hx).2, ?_⟩
  obtain ⟨env', e⟩ := Option.isSome_iff_exists.mp so
  exact q env' _ F H e (StepE.put (fr := false) h0 (StepE.refl h0) r e)
theorem snd_gNil : SndGs G sc N k [] gNil' := by
  intro X W env σ F H ts vs Q hd tk h0 r q so
  obtain ⟨env', e⟩ := Option.isSome_iff_exists.mp so
  unfold gNil' at e
  cases ts with
  | cons t r => cases e
  | nil =>
    cases e
    exact ⟨_, pgs_nil, Reps.nil_iff.mp r, q env σ F H rfl (StepE.refl h0).toStepS⟩
theorem snd_gCons (h : SndG G sc N k e f) (hr : SndGs G sc N k es g) (hs : ∀ env, (assignEach (e :: es) env).map (·.2) = assign e env :: (assignEach es env).map (·.2) := by intro _; rfl) : SndGs G sc N k (e :: es) (gCons' f g) := by
  intro X W env σ F H ts vs Q hd tk h0 r q so
  refine ⟨_, pgs_cons pg_WG pgs_WGs (hs _), ?_⟩
  cases ts with
  | nil => cases so
  | cons t l =>
    obtain ⟨v, vr, rfl, r1, r2⟩ := r.inv
    refine ⟨v, vr, rfl, ?_⟩
    have e0 : gCons' f g (t :: l) env = (f t env).bind (g l) := rfl
    rw [e0] at so
    cases e1 : f t env with
    | none => rw [e1] at so; cases so
    | some env1 =>
      rw [e1] at so
      refine h X W env σ F H t v _ hd tk h0 r1 (fun env' σ' F' H' e2 s => ?_) (by rw [e1]; rfl)
      rw [e1] at e2
      cases e2
      exact hr X W env1 σ' F' H' l vr Q hd tk s.rel (r2.mono s.ext) (fun env2 σ2 F2 H2 e3 s2 => q env2 σ2 F2 H2 (by rw [e0, e1]; exact e3) (s.trans s2)) so
theorem snd_gTup {n : Nat} {kt : Nat} (h : SndGs G sc N k es g) (hn : ∀ env, (assignEach es env).length = n := by intro _; rfl) (hst : ∀ env, (assignEach es env).findIdx? (·.1) = none := by intro _; rfl) : SndG G sc N k (.Tuple es kt pos) (gTup' n g) := by
  intro X W env σ F H t v Q hd tk h0 r q so
  cases t with
  | tup l =>
    simp only [Rep] at r
    obtain ⟨a, vs, rfl, r1, r2⟩ := r
    have e0 : gTup' n g (.tup l) env = if l.length = n then g l env else none := rfl
    rw [e0] at so
    split at so
    · rename_i hl
      refine ⟨_, pg_tup hd.calm pgs_WGs (hn _) (hst _), a, vs, rfl, ?_, by rw [r2.len]; exact hl, h X W env σ F H l vs Q hd tk h0 r2 (fun env' σ' F' H' e s => q env' σ' F' H' (by rw [e0, if_pos hl]; exact e) s) so⟩
      have hm := hd.mcE
      subst hm
      exact .inl (.inl (h0.frz _ _ r1))
    · cases so
  | lst l =>
    simp only [Rep] at r
    obtain ⟨a, vs, rfl, r1, r2⟩ := r
    have e0 : gTup' n g (.lst l) env = if l.length = n then g l env else none := rfl
    rw [e0] at so
    split at so
    · rename_i hl
      refine ⟨_, pg_lst hd.calm pgs_WGs (hn _) (hst _), a, vs, rfl, ?_, by rw [r2.len]; exact hl, h X W env σ F H l vs Q hd tk h0 r2 (fun env' σ' F' H' e s => q env' σ' F' H' (by rw [e0, if_pos hl]; exact e) s) so⟩
      have hm := hd.mcE
      subst hm
      exact .inl (.inl (h0.frz _ _ r1))
    · cases so
  | _ => cases so
/-- target = e, the value known -/
def sAsg (g : Gt) (f : E) : S := sE f fun t _ env => match g t env with
  | some env' => .nx env'
  | none => .err
theorem snd_asg {a : Expr} {fa : E} (hg : SndG G sc N k e f) (ha : SndE G sc N k a fa) (hs : ∀ env, swapsWithSole [e] a pos.line env = pure false := by intro _; rfl) (hw : ∀ env : Env, env.scope = sc → swappedStores [e] a env = pure none := by intro _ _; rfl)
    (h1 : ∀ env, (assignEach [e] env).map (·.2) = [assign e env] := by intro _; rfl) : SndS G sc N k (.Assign [e] a pos) (sAsg f fa) := by
  intro X W env σ F H D hd tk h0 q
  refine .of (ps_asg pe_WE pg_WG (hs _) (hw _ hd.same) (h1 _)) ?_
  refine inS (Q := fun v H1 => WG X e v σ H1 D.nx) ha hd tk h0 q fun t fr env' v F' H' s r w => ?_
  obtain ⟨F2, s2, r2, _⟩ := s.freezeNew h0 r
  refine hg X W env' σ F2 H' t v D.nx hd.g tk s2.rel r2 (fun env2 σ2 F3 H3 e2 s3 => ?_) ?_
  · rw [e2] at w
    exact w σ2 F3 H3 (s2.toStepS.trans s3)
  · cases e2 : f t env' with
    | none => rw [e2] at w; exact w.elim
    | some env2 => rfl
end
end PT

set_option Elab.async false
set_option linter.all false
set_option maxRecDepth 100000
set_option autoImplicit false
namespace PT
open PySem PySem.Spec L2

/-! ### while -/
def whileN : Nat → E → S → S
  | 0, _, _ => fun _ => .err
  | n + 1, c, b => fun env => match c env with
    | .ok t _ env1 => (match truthT t with
      | some true => (match b env1 with
        | .nx env2 => whileN n c b env2
        | .cont env2 => whileN n c b env2
        | .brk env2 => .nx env2
        | r => r)
      | some false => .nx env1
      | none => .err)
    | .exc x env1 => .exc x env1
    | .err => .err
section
variable {G : MC} {sc : Scope} {N : List Str} {k : Nat} {e : Expr} {f : E} {body : List Stmt} {fb : S} {pos : Pos} {n : Nat}
theorem snd_while (hc : SndT G sc N k e f) (hb : SndSs G sc N k body fb) : SndS G sc N k (.While e body [] pos) (whileN n f fb) := by
  intro X W env σ F H D hd tk h0 q
  refine .of (ps_while hd.own pt_WT pss_WSs) ?_
  refine ⟨fun m σ1 H1 => ∃ env1 F1, ER G env1 σ1 F1 H1 ∧ WishS G env1 σ1 F1 H1 (whileN m f fb env1) D W, ⟨n, env, F, h0, q⟩, ?_⟩
  rintro m σ1 H1 ⟨env1, F1, h1, q1⟩
  cases m with
  | zero => exact q1.elim
  | succ m =>
  refine hc X W env1 σ1 F1 H1 _ hd.toGd tk h1 ?_
  unfold whileN at q1
  cases e : f env1 with
  | err => rw [e] at q1; exact q1
  | exc x env' =>
    rw [e] at q1
    exact fun c d F' H' s r => q1 c d σ1 F' H' s.toStepS r
  | ok t fr env2 =>
    rw [e] at q1
    dsimp only at q1
    cases e2 : truthT t with
    | none => rw [e2] at q1; exact q1.elim
    | some bb =>
    rw [e2] at q1
    refine ⟨bb, e2, fun F2 H2 s => ?_⟩
    cases bb with
    | false =>
      rw [if_neg Bool.false_ne_true]
      exact q1 σ1 F2 H2 s.toStepS
    | true =>
      rw [if_pos rfl]
      have q2 := WishS.after s.toStepS q1
      refine ⟨fun σ' H' => ∃ env' F', ER G env' σ' F' H' ∧ WishS G env' σ' F' H' (whileN m f fb env') D W, fun σ' H' z => ⟨m, Nat.lt_succ_self m, z⟩, ?_⟩
      refine hb X W env2 σ1 F2 H2 _ hd tk s.rel ?_
      dsimp only at q2
      cases e3 : fb env2 with
      | err => rw [e3] at q2; exact q2
      | exc x env' => rw [e3] at q2; exact q2
      | ret t fr env' => rw [e3] at q2; exact q2
      | brk env3 => rw [e3] at q2; exact q2
      | nx env3 =>
        rw [e3] at q2
        exact fun σ' F' H' s' => ⟨env3, F', s'.rel, WishS.after s' q2⟩
      | cont env3 =>
        rw [e3] at q2
        exact fun σ' F' H' s' => ⟨env3, F', s'.rel, WishS.after s' q2⟩
end

/-! ### what is walked -/
inductive IRes where
  | ok (l : List T) (env : List Slot) | exc (x : Exc) (env : List Slot) | err
abbrev I := List Slot → IRes
/-- J hands out l -/
structure Yields (G : MC) (F : Hp) (J : It) (l : List T) : Prop where
  go : ∀ (i : Nat) (H F1 : Hp), Ext F F1 → Frz F1 H → i < l.length → J.go i H
  stop : ∀ (i : Nat) (H F1 : Hp), Ext F F1 → Frz F1 H → i = l.length → J.stop i H
  yld : ∀ (i : Nat) (H F1 : Hp) (x : V) (H' : Hp), Ext F F1 → Frz F1 H → J.yld i H x H' → i < l.length → ∃ t, l[i]? = some t ∧ ∃ F', Grow F1 H F' H' ∧ Rep G F' t x
def WI (X : Cx) (tg iter : Expr) : TI := fun σ H R => ∃ t, PI X tg iter t ∧ t σ H R
theorem pi_WI {X : Cx} {tg iter : Expr} : PI X tg iter (WI X tg iter) := ⟨fun pins s σ H R I ⟨_, h, q⟩ => h.run pins s σ H R I q⟩
def SndI (G : MC) (sc : Scope) (N : List Str) (k : Nat) (tg iter : Expr) (f : I) : Prop :=
  ∀ (X : Cx) (W : WX) (env : List Slot) (σ : Sg) (F H : Hp) (R : It → Hp → Prop), Gd G sc N k X → Takes X W → ER G env σ F H →
    (match f env with
      | .err => False
      | .ok l env' => ∀ J F' H', StepE G env σ F H env' F' H' → Yields G F' J l → R J H'
      | .exc x env' => ∀ cls d F' H', StepE G env σ F H env' F' H' → XR G H H' x cls d → W cls d σ H') → WI X tg iter σ H R
section
variable {G : MC} {sc : Scope} {N : List Str} {k : Nat} {e a b tg : Expr} {f fa fb : E} {pos p : Pos}
theorem yields_list {F H : Hp} {ad : Addr} {vs : List V} {l : List T} (hq : SqL G.K F ad vs) (r : Reps G F l vs) : Yields G F (Itl G.K ad) l where
  go := fun i H F1 x f hi => by
    have hl := r.len
    obtain ⟨v, e, _⟩ := r.at_ (List.getElem?_eq_getElem hi)
    exact ⟨vs, v, Ext.sqL f (Ext.sqL x hq), e⟩
  stop := fun i H F1 x f hi => ⟨vs, Ext.sqL f (Ext.sqL x hq), by rw [r.len, hi]; exact Nat.le_refl _⟩
  yld := fun i H F1 x H' ex f y hi => by
    obtain ⟨rfl, y⟩ := y
    obtain ⟨v, e, rv⟩ := r.at_ (List.getElem?_eq_getElem hi)
    have := y vs (Ext.sqL f (Ext.sqL ex hq))
    rw [e] at this
    cases this
    exact ⟨l[i], List.getElem?_eq_getElem hi, F1, Grow.refl f, rv.mono ex⟩
theorem yields_tup {F H : Hp} {ad : Addr} {vs : List V} {l : List T} (hq : SqT G.K F ad vs) (r : Reps G F l vs) : Yields G F (Itt G.K ad) l where
  go := fun i H F1 x f hi => by
    obtain ⟨v, e, _⟩ := r.at_ (List.getElem?_eq_getElem hi)
    exact ⟨vs, v, Ext.sqT f (Ext.sqT x hq), e⟩
  stop := fun i H F1 x f hi => ⟨vs, Ext.sqT f (Ext.sqT x hq), by rw [r.len, hi]; exact Nat.le_refl _⟩
  yld := fun i H F1 x H' ex f y hi => by
    obtain ⟨rfl, y⟩ := y
    obtain ⟨v, e, rv⟩ := r.at_ (List.getElem?_eq_getElem hi)
    have := y vs (Ext.sqT f (Ext.sqT ex hq))
    rw [e] at this
    cases this
    exact ⟨l[i], List.getElem?_eq_getElem hi, F1, Grow.refl f, rv.mono ex⟩
def rangeT (lo : Int) (n : Nat) : List T := (List.range n).map fun (i : Nat) => T.int (lo + i)
theorem rangeT_len (lo : Int) (n : Nat) : (rangeT lo n).length = n := by simp [rangeT]
theorem rangeT_get {lo : Int} {n i : Nat} (h : i < n) : (rangeT lo n)[i]? = some (.int (lo + i)) := by simp [rangeT, h]
theorem yields_range {F : Hp} {lo : Int} {n : Nat} : Yields G F (Itr lo n) (rangeT lo n) where
  go := fun i H F1 x f hi => by rw [rangeT_len] at hi; exact hi
  stop := fun i H F1 x f hi => by rw [rangeT_len] at hi; exact Nat.le_of_eq hi.symm
  yld := fun i H F1 x H' ex f y hi => by
    obtain ⟨rfl, rfl⟩ := y
    rw [rangeT_len] at hi
    exact ⟨_, rangeT_get hi, F1, Grow.refl f, by simp [Rep]⟩
def iSeq (f : E) : I := fun env => match f env with
  | .ok (.lst l) _ env' => .ok l env'
  | .ok (.tup l) _ env' => .ok l env'
  | .ok (.frz l) _ env' => .ok l env'
  | .ok (.kt l) _ env' => .ok l env'
  | .exc x env' => .exc x env'
  | _ => .err
theorem snd_iSeq (ha : SndE G sc N k e f) : SndI G sc N k tg e (iSeq f) := by
  intro X W env σ F H R hd tk h0 q
  unfold iSeq at q
  have hm := hd.mcE
  subst hm
  cases e1 : f env with
  | err => rw [e1] at q; exact q.elim
  | exc x env' =>
    rw [e1] at q
    exact ⟨_, pi_list pe_WE, ha X W env σ F H _ hd tk h0 (by rw [e1]; exact q)⟩
  | ok t fr env' =>
    rw [e1] at q
    cases t with
    | lst l =>
      refine ⟨_, pi_list pe_WE, ha.frz hd tk h0 ?_⟩
      rw [e1]
      intro v F' H' s r
      simp only [Rep] at r
      obtain ⟨ad, vs, rfl, h1, h2⟩ := r
      exact ⟨ad, rfl, ⟨vs, .inl (.inl (s.rel.frz _ _ h1))⟩, q _ F' H' s (yields_list (H := H') (.inl (.inl h1)) h2)⟩
    | tup l =>
      refine ⟨_, pi_tup pe_WE, ha.frz hd tk h0 ?_⟩
      rw [e1]
      intro v F' H' s r
      simp only [Rep] at r
      obtain ⟨ad, vs, rfl, h1, h2⟩ := r
      exact ⟨ad, rfl, ⟨vs, .inl (.inl (s.rel.frz _ _ h1))⟩, q _ F' H' s (yields_tup (H := H') (.inl (.inl h1)) h2)⟩
    | frz l =>
      refine ⟨_, pi_list pe_WE, ha.frz hd tk h0 ?_⟩
      rw [e1]
      intro v F' H' s r
      simp only [Rep] at r
      obtain ⟨ad, vs, rfl, h1, h2⟩ := r
      exact ⟨ad, rfl, ⟨vs, Ext.sqL s.rel.frz h1⟩, q _ F' H' s (yields_list (H := H') h1 h2)⟩
    | kt l =>
      refine ⟨_, pi_tup pe_WE, ha.frz hd tk h0 ?_⟩
      rw [e1]
      intro v F' H' s r
      simp only [Rep] at r
      obtain ⟨ad, vs, rfl, h1, h2⟩ := r
      exact ⟨ad, rfl, ⟨vs, Ext.sqT s.rel.frz h1⟩, q _ F' H' s (yields_tup (H := H') h1 h2)⟩
    | _ => exact q.elim
def okR (i : Int) : Bool := decide (-(2 ^ 62) ≤ i) && decide (i < 2 ^ 62)
theorem okR_of {i : Int} (h : okR i = true) : -(2 ^ 62) ≤ i ∧ i < 2 ^ 62 := by
  unfold okR at h
  simpa using h
def iRange1 (fa : E) : I := fun env => match fa env with
  | .ok (.int j) _ env' => if okR j then .ok (rangeT 0 j.toNat) env' else .err
  | .exc x env' => .exc x env'
  | _ => .err
theorem snd_range1 (hg : glB sc "range" = true) (hm : G.mg "range" = none) (ha : SndE G sc N k a fa) (hs : ∀ env, starEach [a] env = [(false, eval a env)] := by intro _; rfl) : SndI G sc N k tg (.Call (.Name "range" p) [a] [] pos) (iRange1 fa) := by
  intro X W env σ F H R hd tk h0 q
  have hm' : X.mg "range" = none := by
    have e := hd.mcE
    subst e
    exact hm
  refine ⟨_, pi_range1 (gl_of hd hg) hm' (pa_cons pe_WE pa_nil (hs _)) (hs _), ?_⟩
  refine ha.frz hd tk h0 ?_
  unfold iRange1 at q
  cases e1 : fa env with
  | err => rw [e1] at q; exact q
  | exc x env' => rw [e1] at q; exact q
  | ok t fr env' =>
    rw [e1] at q
    intro v F' H' s r
    cases t with
    | int j =>
      have ev : v = .int j := by simpa [Rep] using r
      subst ev
      dsimp only at q
      by_cases ho : okR j = true
      · rw [if_pos ho] at q
        obtain ⟨o1, o2⟩ := okR_of ho
        exact ⟨j, rfl, o1, o2, q _ F' H' s yields_range⟩
      · rw [if_neg ho] at q
        exact q.elim
    | _ => exact q.elim
def iRange2 (fa fb : E) : I := fun env => match fa env with
  | .ok (.int i) _ env1 => (match fb env1 with
    | .ok (.int j) _ env' => if okR i && okR j then .ok (rangeT i (j - i).toNat) env' else .err
    | .exc x env' => .exc x env'
    | _ => .err)
  | .exc x env' => .exc x env'
  | _ => .err
theorem snd_range2 (hg : glB sc "range" = true) (hm : G.mg "range" = none) (ha : SndE G sc N k a fa) (hb : SndE G sc N k b fb) (hs : ∀ env, starEach [a, b] env = [(false, eval a env), (false, eval b env)] := by intro _; rfl)
    (hs2 : ∀ env, starEach [b] env = [(false, eval b env)] := by intro _; rfl) : SndI G sc N k tg (.Call (.Name "range" p) [a, b] [] pos) (iRange2 fa fb) := by
  intro X W env σ F H R hd tk h0 q
  have hm' : X.mg "range" = none := by
    have e := hd.mcE
    subst e
    exact hm
  refine ⟨_, pi_range2 (gl_of hd hg) hm' (pa_cons pe_WE (pa_cons pe_WE pa_nil (hs2 _)) (by rw [hs, hs2])) (hs _) (hs2 _), ?_⟩
  refine ha.frz hd tk h0 ?_
  unfold iRange2 at q
  cases e1 : fa env with
  | err => rw [e1] at q; exact q
  | exc x env' => rw [e1] at q; exact q
  | ok t fr env1 =>
    rw [e1] at q
    intro v F1 H1 s r
    cases t with
    | int i =>
      have ev : v = .int i := by simpa [Rep] using r
      subst ev
      dsimp only at q
      refine hb.frz hd tk s.rel ?_
      cases e2 : fb env1 with
      | err => rw [e2] at q; exact q
      | exc x env' =>
        rw [e2] at q
        exact fun c d F' H' s' r => q c d F' H' (s.trans s') (r.back s.some_)
      | ok t fr env' =>
        rw [e2] at q
        intro w F' H' s' r'
        cases t with
        | int j =>
          have ev : w = .int j := by simpa [Rep] using r'
          subst ev
          dsimp only at q
          by_cases ho : (okR i && okR j) = true
          · rw [if_pos ho] at q
            obtain ⟨o1, o2⟩ := okR_of (Bool.and_eq_true_iff.mp ho).1
            obtain ⟨o3, o4⟩ := okR_of (Bool.and_eq_true_iff.mp ho).2
            exact ⟨i, j, rfl, ⟨o1, o2, o3, o4⟩, q _ F' H' (s.trans s') yields_range⟩
          · rw [if_neg ho] at q
            exact q.elim
        | _ => exact q.elim
    | _ => exact q.elim
end

/-! ### for -/
def forL (g : Gt) (b : S) : List T → S
  | [] => fun env => .nx env
  | t :: r => fun env => match g t env with
    | none => .err
    | some env1 => (match b env1 with
      | .nx env2 => forL g b r env2
      | .cont env2 => forL g b r env2
      | .brk env2 => .nx env2
      | o => o)
def sFor (i : I) (g : Gt) (b : S) : S := fun env => match i env with
  | .ok l env' => forL g b l env'
  | .exc x env' => .exc x env'
  | .err => .err
section
variable {G : MC} {sc : Scope} {N : List Str} {k : Nat} {tg iter : Expr} {fi : I} {g : Gt} {body : List Stmt} {fb : S} {pos : Pos}
theorem snd_for (hi : SndI G sc N k tg iter fi) (hg : SndG G sc N k tg g) (hb : SndSs G sc N k body fb) (hs : ∀ env x, foldedSetIterable iter env x = pure x := by intro _ _; rfl) : SndS G sc N k (.For tg iter body [] pos) (sFor fi g fb) := by
  intro X W env σ F H D hd tk h0 q
  refine .of (ps_for hd.own hd.calm pi_WI pg_WG pss_WSs (hs _)) ?_
  refine hi X W env σ F H _ hd.toGd tk h0 ?_
  unfold sFor at q
  cases e1 : fi env with
  | err => rw [e1] at q; exact q
  | exc x env' =>
    rw [e1] at q
    exact fun c d F' H' s r => q c d σ F' H' s.toStepS r
  | ok l env' =>
    rw [e1] at q
    intro J F' H' s y
    have q1 := WishS.after s.toStepS q
    refine ⟨fun i m σ1 H1 => m = l.length - i ∧ i ≤ l.length ∧ ∃ env1 F1, Ext F' F1 ∧ ER G env1 σ1 F1 H1 ∧ WishS G env1 σ1 F1 H1 (forL g fb (l.drop i) env1) D W, ⟨l.length, rfl, Nat.zero_le _, env', F', Ext.refl _, s.rel, q1⟩, ?_⟩
    rintro i m σ1 H1 ⟨rfl, hi, env1, F1, x1, h1, w1⟩
    by_cases hlt : i < l.length
    · refine .inr ⟨y.go i H1 F1 x1 h1.frz hlt, fun σ2 H2 => ∃ env2 F2, Ext F' F2 ∧ ER G env2 σ2 F2 H2 ∧ WishS G env2 σ2 F2 H2 (forL g fb (l.drop (i + 1)) env2) D W, fun σ2 H2 z => ⟨l.length - (i + 1), by omega, rfl, hlt, z⟩, fun x H2 yl => ?_⟩
      obtain ⟨t, et, F2, gr, rt⟩ := y.yld i H1 F1 x H2 x1 h1.frz yl hlt
      have hdrop : l.drop i = t :: l.drop (i + 1) := by
        have z : l[i] = t := by
          rw [List.getElem?_eq_getElem hlt] at et
          exact Option.some.inj et
        rw [← z]
        exact List.drop_eq_getElem_cons hlt
      rw [hdrop] at w1
      have sg := StepE.of_grow h1 gr
      have w2 := WishS.after sg.toStepS w1
      unfold forL at w2
      refine hg X W env1 σ1 F2 H2 t x _ hd.g tk sg.rel rt (fun env2 σ2 F3 H3 e2 s2 => ?_) ?_
      · rw [e2] at w2
        have w3 := WishS.after s2 w2
        refine hb X W env2 σ2 F3 H3 _ hd tk s2.rel ?_
        dsimp only at w3
        have x3 : Ext F' F3 := (x1.trans gr.ext).trans s2.ext
        cases e3 : fb env2 with
        | err => rw [e3] at w3; exact w3
        | exc x env' => rw [e3] at w3; exact w3
        | ret t fr env' => rw [e3] at w3; exact w3
        | brk env3 => rw [e3] at w3; exact w3
        | nx env3 =>
          rw [e3] at w3
          exact fun σ' F4 H4 s' => ⟨env3, F4, x3.trans s'.ext, s'.rel, WishS.after s' w3⟩
        | cont env3 =>
          rw [e3] at w3
          exact fun σ' F4 H4 s' => ⟨env3, F4, x3.trans s'.ext, s'.rel, WishS.after s' w3⟩
      · cases e2 : g t env1 with
        | none => rw [e2] at w2; exact w2.elim
        | some env2 => rfl
    · have e : i = l.length := by omega
      subst e
      rw [List.drop_length] at w1
      exact .inl ⟨y.stop _ H1 F1 x1 h1.frz rfl, w1 σ1 F1 H1 (StepE.refl h1).toStepS⟩
end
end PT

set_option Elab.async false
set_option linter.all false
set_option maxRecDepth 100000
set_option autoImplicit false
namespace PT
open PySem PySem.Spec L2

/-! ### targets that are names alone -/
structure Agree (ds : List Nat) (env : List Slot) (σ : Sg) (env' : List Slot) (σ' : Sg) : Prop where
  ev : ∀ (j : Nat), j ∉ ds → env'[j]? = env[j]?
  sg : ∀ (j : Nat), j ∉ ds → σ'[j]? = σ[j]?
  own : ∀ (j : Nat) (io : Bool) (o : OT), env'[j]? = some (.own io o) → env[j]? = some (.own io o) ∧ σ'[j]? = σ[j]?
  len : env'.length = env.length
  lenS : σ'.length = σ.length
def SndGN (G : MC) (sc : Scope) (N : List Str) (k : Nat) (ds : List Nat) (e : Expr) (f : Gt) : Prop :=
  ∀ (X : Cx) (env : List Slot) (σ : Sg) (F H : Hp) (t : T) (v : V) (Q : Sg → Hp → Prop), GdG G sc N k X → ER G env σ F H → Rep G F t v →
    (∀ env' σ', f t env = some env' → ER G env' σ' F H → Agree ds env σ env' σ' → Q σ' H) → (f t env).isSome = true → WG X e v σ H Q
def SndGNs (G : MC) (sc : Scope) (N : List Str) (k : Nat) (ds : List Nat) (es : List Expr) (f : List T → List Slot → Option (List Slot)) : Prop :=
  ∀ (X : Cx) (env : List Slot) (σ : Sg) (F H : Hp) (ts : List T) (vs : List V) (Q : Sg → Hp → Prop), GdG G sc N k X → ER G env σ F H → Reps G F ts vs →
    (∀ env' σ', f ts env = some env' → ER G env' σ' F H → Agree ds env σ env' σ' → Q σ' H) → (f ts env).isSome = true → WGs X es vs σ H Q
section
variable {G : MC} {sc : Scope} {N : List Str} {k : Nat} {e : Expr} {es : List Expr} {f : Gt} {g : List T → List Slot → Option (List Slot)} {pos : Pos} {x : Str} {i : Nat} {ds ds' : List Nat}
theorem snd_gnN (hN : N[i]? = some x) (hx : locB sc x = true) : SndGN G sc N k [i] (.Name x pos) (gN i) := by
  intro X env σ F H t v Q hd h0 r q so
  refine ⟨_, pg_name (by rw [hd.NE]; exact hd.nd) (by rw [hd.NE]; exact hN) (hd.fnl x hx).1 (hd.fnl x hx).2, ?_⟩
  obtain ⟨env', e⟩ := Option.isSome_iff_exists.mp so
  have z := StepS.put (io := false) (fr := false) (v := v) h0 r e
  have hi : i < env.length := by
    unfold gN PT.put at e
    cases e1 : env[i]? with
    | none => rw [e1] at e; cases e
    | some s0 => exact (List.getElem?_eq_some_iff.mp e1).1
  have ee : env' = env.set i (.val t) := by
    unfold gN PT.put at e
    cases e1 : env[i]? with
    | none => rw [e1] at e; cases e
    | some s0 =>
      rw [e1] at e
      cases s0 with
      | un => cases e; rfl
      | val t => cases e; rfl
      | own io o =>
        cases io with
        | true => cases e
        | false => cases e; rfl
  subst ee
  refine q _ _ e z.1 ⟨fun j hj => ?_, fun j hj => ?_, fun j io o w => ?_, z.2.2.2, List.length_set ..⟩
  · exact getElem?_set_ne' fun w => hj (by rw [w]; exact List.mem_singleton_self _)
  · exact set_get_ne fun w => hj (by rw [w]; exact List.mem_singleton_self _)
  · by_cases hj : j = i
    · subst hj
      rw [List.getElem?_set_self hi] at w
      cases w
    · rw [getElem?_set_ne' hj] at w
      exact ⟨w, set_get_ne hj⟩
theorem snd_gnNil : SndGNs G sc N k [] [] gNil' := by
  intro X env σ F H ts vs Q hd h0 r q so
  obtain ⟨env', e⟩ := Option.isSome_iff_exists.mp so
  unfold gNil' at e
  cases ts with
  | cons t r => cases e
  | nil =>
    cases e
    exact ⟨_, pgs_nil, Reps.nil_iff.mp r, q env σ rfl h0 ⟨fun _ _ => rfl, fun _ _ => rfl, fun _ _ _ w => ⟨w, rfl⟩, rfl, rfl⟩⟩
theorem snd_gnCons (h : SndGN G sc N k ds e f) (hr : SndGNs G sc N k ds' es g) (hs : ∀ env, (assignEach (e :: es) env).map (·.2) = assign e env :: (assignEach es env).map (·.2) := by intro _; rfl) : SndGNs G sc N k (ds ++ ds') (e :: es) (gCons' f g) := by
  intro X env σ F H ts vs Q hd h0 r q so
  refine ⟨_, pgs_cons pg_WG pgs_WGs (hs _), ?_⟩
  cases ts with
  | nil => cases so
  | cons t l =>
    obtain ⟨v, vr, rfl, r1, r2⟩ := r.inv
    refine ⟨v, vr, rfl, ?_⟩
    have e0 : gCons' f g (t :: l) env = (f t env).bind (g l) := rfl
    rw [e0] at so
    cases e1 : f t env with
    | none => rw [e1] at so; cases so
    | some env1 =>
      rw [e1] at so
      refine h X env σ F H t v _ hd h0 r1 (fun env' σ' e2 h1 ag => ?_) (by rw [e1]; rfl)
      rw [e1] at e2
      cases e2
      refine hr X env1 σ' F H l vr Q hd h1 r2 (fun env2 σ2 e3 h2 ag2 => q env2 σ2 (by rw [e0, e1]; exact e3) h2 ⟨fun j hj => ?_, fun j hj => ?_, fun j io o w => ⟨(ag.own j io o (ag2.own j io o w).1).1, (ag2.own j io o w).2.trans (ag.own j io o (ag2.own j io o w).1).2⟩, ag2.len.trans ag.len, ag2.lenS.trans ag.lenS⟩) so
      · rw [ag2.ev j fun w => hj (List.mem_append_right _ w), ag.ev j fun w => hj (List.mem_append_left _ w)]
      · rw [ag2.sg j fun w => hj (List.mem_append_right _ w), ag.sg j fun w => hj (List.mem_append_left _ w)]
theorem snd_gnTup {n : Nat} {kt : Nat} (h : SndGNs G sc N k ds es g) (hn : ∀ env, (assignEach es env).length = n := by intro _; rfl) (hst : ∀ env, (assignEach es env).findIdx? (·.1) = none := by intro _; rfl) : SndGN G sc N k ds (.Tuple es kt pos) (gTup' n g) := by
  intro X env σ F H t v Q hd h0 r q so
  cases t with
  | tup l =>
    simp only [Rep] at r
    obtain ⟨a, vs, rfl, r1, r2⟩ := r
    have e0 : gTup' n g (.tup l) env = if l.length = n then g l env else none := rfl
    rw [e0] at so
    by_cases hl : l.length = n
    · rw [if_pos hl] at so
      refine ⟨_, pg_tup hd.calm pgs_WGs (hn _) (hst _), a, vs, rfl, ?_, by rw [r2.len]; exact hl, h X env σ F H l vs Q hd h0 r2 (fun env' σ' e s ag => q env' σ' (by rw [e0, if_pos hl]; exact e) s ag) so⟩
      have hm := hd.mcE
      subst hm
      exact .inl (.inl (h0.frz _ _ r1))
    · rw [if_neg hl] at so
      cases so
  | lst l =>
    simp only [Rep] at r
    obtain ⟨a, vs, rfl, r1, r2⟩ := r
    have e0 : gTup' n g (.lst l) env = if l.length = n then g l env else none := rfl
    rw [e0] at so
    by_cases hl : l.length = n
    · rw [if_pos hl] at so
      refine ⟨_, pg_lst hd.calm pgs_WGs (hn _) (hst _), a, vs, rfl, ?_, by rw [r2.len]; exact hl, h X env σ F H l vs Q hd h0 r2 (fun env' σ' e s ag => q env' σ' (by rw [e0, if_pos hl]; exact e) s ag) so⟩
      have hm := hd.mcE
      subst hm
      exact .inl (.inl (h0.frz _ _ r1))
    · rw [if_neg hl] at so
      cases so
  | _ => cases so
end

/-! ### the block's scope -/
theorem lookup_map {f : Str → NameKind → NameKind} : ∀ {l : List (Str × NameKind)} {x : Str}, (l.map fun (n, k) => (n, f n k)).lookup x = (l.lookup x).map (f x)
  | [], x => rfl
  | (n, k) :: l, x => by
    simp only [List.map_cons, List.lookup_cons]
    cases h : x == n with
    | true =>
      have e : x = n := by simpa using h
      rw [e]
      rfl
    | false => exact lookup_map
theorem relabel_lookup (scope : Scope) (env : Env) (x : Str) : (relabel scope env).names.lookup x = (scope.names.lookup x).map fun k => if (k == .free && env.scope.kind == .function && env.kindOf x == some .cell) = true then .cell else k := by
  rw [← lookup_map (f := fun n k => if (k == .free && env.scope.kind == .function && env.kindOf n == some .cell) = true then .cell else k)]
  unfold relabel
  congr 1
  apply List.map_congr_left
  rintro ⟨n, k⟩ _
  dsimp only
  split <;> rfl
theorem scR_relabel (scope : Scope) (env : Env) : ScR scope (relabel scope env) := by
  refine ⟨fun x h => ?_, fun x h => ?_, fun x h => ?_, fun x h => ?_⟩
  all_goals rw [relabel_lookup, h]
  · rfl
  · rfl
  · rfl
  · show some (if (_ && _ && _) = true then NameKind.cell else NameKind.free) = _ ∨ _
    by_cases hh : ((NameKind.free == .free && env.scope.kind == .function && env.kindOf x == some .cell) = true)
    · exact .inl (by rw [if_pos hh])
    · exact .inr (by show some (if (_ && _ && _) = true then NameKind.cell else NameKind.free) = _; rw [if_neg hh])
theorem BlkOk.of_ScR {N : List Str} {sc sc' scope : Scope} {own : List (Str × Nat)} (h : BlkOk N sc scope own) (r : ScR sc sc') : BlkOk N sc' scope own :=
  ⟨h.kind, h.uniq, h.ix, fun y hy e => (h.free y hy e).elim (fun z => .inl (r.cell _ z)) (fun z => r.free _ z), h.own⟩
section
variable {G : MC} {sc : Scope} {N : List Str} {k : Nat} {X : Cx}
theorem Gd.blk (hd : Gd G sc N k X) {scope : Scope} {s : Shared} {H : Hp} {C : Addr} {cl : List (Str × Addr)} {fp : List Addr} : GdG G scope N k (X.blk s H scope (compEnvC scope cl C X.env) fp) where
  mcE := hd.mcE
  NE := hd.NE
  nd := hd.nd
  calm := hd.calm
  room := hd.room
  scR := scR_relabel scope X.env
  fnl := fun x q => by
    unfold locB at q
    split at q
    · rename_i h
      have z := (scR_relabel scope X.env).loc x h
      exact ⟨.inl z, .inr z⟩
    · rename_i h
      exact ⟨.inr ((scR_relabel scope X.env).cell x h), .inl (by show (scope.names.lookup x == some .cell) = true; rw [h]; rfl)⟩
    · cases q
end

/-! ### comprehensions -/
def wipeS (env : List Slot) : List Nat → List Slot
  | [] => env
  | v :: vs => (wipeS env vs).set v .un
/-- the slots of ds as env0 has them -/
def back (env0 : List Slot) (env : List Slot) : List Nat → List Slot
  | [] => env
  | v :: vs => match env0[v]? with
    | some s => (back env0 env vs).set v s
    | none => back env0 env vs
theorem wipeS_len (env : List Slot) : ∀ ds, (wipeS env ds).length = env.length
  | [] => rfl
  | v :: vs => by unfold wipeS; rw [List.length_set, wipeS_len env vs]
theorem wipeS_out {env : List Slot} {i : Nat} : ∀ {ds : List Nat}, i ∉ ds → (wipeS env ds)[i]? = env[i]?
  | [], _ => rfl
  | v :: vs, h => by
    unfold wipeS
    rw [getElem?_set_ne' (fun e => h (by rw [e]; exact List.mem_cons_self)), wipeS_out fun m => h (List.mem_cons_of_mem _ m)]
theorem wipeS_in {env : List Slot} {i : Nat} {s : Slot} : ∀ {ds : List Nat}, i ∈ ds → (wipeS env ds)[i]? = some s → s = .un
  | [], h, _ => by cases h
  | v :: vs, h, e => by
    unfold wipeS at e
    by_cases hv : i = v
    · subst hv
      rw [List.getElem?_set] at e
      split at e
      · split at e
        · exact (Option.some.inj e).symm
        · cases e
      · exact absurd rfl (by assumption)
    · rw [getElem?_set_ne' hv] at e
      rcases List.mem_cons.mp h with z | z
      · exact absurd z hv
      · exact wipeS_in z e
theorem back_len (env0 env : List Slot) : ∀ ds, (back env0 env ds).length = env.length
  | [] => rfl
  | v :: vs => by
    unfold back
    split
    · rw [List.length_set, back_len env0 env vs]
    · exact back_len env0 env vs
theorem back_out {env0 env : List Slot} {i : Nat} : ∀ {ds : List Nat}, i ∉ ds → (back env0 env ds)[i]? = env[i]?
  | [], _ => rfl
  | v :: vs, h => by
    have ih := back_out (env0 := env0) (env := env) (i := i) (ds := vs) fun m => h (List.mem_cons_of_mem _ m)
    unfold back
    split
    · rw [getElem?_set_ne' (fun e => h (by rw [e]; exact List.mem_cons_self)), ih]
    · exact ih
theorem back_in {env0 env : List Slot} {i : Nat} (hl : env0.length = env.length) : ∀ {ds : List Nat}, i ∈ ds → (back env0 env ds)[i]? = env0[i]?
  | [], h => by cases h
  | v :: vs, h => by
    unfold back
    by_cases hv : i = v
    · subst hv
      cases e : env0[i]? with
      | none =>
        dsimp only
        rw [List.getElem?_eq_none_iff] at e ⊢
        rw [back_len, ← hl]
        exact e
      | some s =>
        dsimp only
        have hi : i < env0.length := (List.getElem?_eq_some_iff.mp e).1
        rw [List.getElem?_set_self (by rw [back_len, ← hl]; exact hi)]
    · have ih := back_in hl (ds := vs) ((List.mem_cons.mp h).resolve_left hv)
      split
      · rw [getElem?_set_ne' hv, ih]
      · exact ih
theorem wipe_in {σ : Sg} {i : Nat} {x : Option V} : ∀ {ds : List Nat}, i ∈ ds → (wipe σ ds)[i]? = some x → x = none
  | [], h, _ => by cases h
  | v :: vs, h, e => by
    unfold wipe at e
    by_cases hv : i = v
    · subst hv
      rw [List.getElem?_set] at e
      split at e
      · split at e
        · exact (Option.some.inj e).symm
        · cases e
      · exact absurd rfl (by assumption)
    · rw [set_get_ne hv] at e
      rcases List.mem_cons.mp h with z | z
      · exact absurd z hv
      · exact wipe_in z e
theorem wipe_agree {σ σ' : Sg} {ds : List Nat} (hl : σ'.length = σ.length) (h : ∀ (j : Nat), j ∉ ds → σ'[j]? = (wipe σ ds)[j]?) : wipe σ' ds = wipe σ ds := by
  apply List.ext_getElem?
  intro j
  by_cases hj : j ∈ ds
  · cases e : (wipe σ ds)[j]? with
    | none =>
      rw [List.getElem?_eq_none_iff] at e ⊢
      rw [wipe_length] at e ⊢
      rw [hl]
      exact e
    | some x =>
      have hx := wipe_in hj e
      have hlt : j < (wipe σ' ds).length := by
        have := (List.getElem?_eq_some_iff.mp e).1
        rw [wipe_length] at this ⊢
        rw [hl]
        exact this
      have e2 := List.getElem?_eq_getElem hlt
      have hx2 := wipe_in hj e2
      rw [e2, hx, hx2]
  · rw [wipe_out hj, h j hj, wipe_out hj]
/-- no slot of ds is an own object -/
def plainAt (env : List Slot) (ds : List Nat) : Bool := ds.all fun i => match env[i]? with
  | some (.own _ _) => false
  | _ => true
theorem ER.wipe {G : MC} {env : List Slot} {σ : Sg} {F H : Hp} (ds : List Nat) (h : ER G env σ F H) : ER G (wipeS env ds) (wipe σ ds) F H := by
  have bk : ∀ i io a, OwnI (wipeS env ds) (L2.wipe σ ds) i io a → OwnI env σ i io a := by
    rintro i io a ⟨⟨o, e⟩, e2⟩
    by_cases hi : i ∈ ds
    · have := wipeS_in hi e
      cases this
    · rw [wipeS_out hi] at e
      rw [wipe_out hi] at e2
      exact ⟨⟨o, e⟩, e2⟩
  refine ⟨by rw [wipeS_len, wipe_length]; exact h.len, h.frz, fun i s x e e2 => ?_, fun i j io jo a q q' => h.dis i j io jo a (bk _ _ _ q) (bk _ _ _ q')⟩
  by_cases hi : i ∈ ds
  · rw [wipeS_in hi e]
    trivial
  · rw [wipeS_out hi] at e
    rw [wipe_out hi] at e2
    exact h.at_ i s x e e2
/-- one turn of a block, seen from the def -/
theorem StepE.turn {G : MC} {env env2 env4 : List Slot} {σ σ2 : Sg} {F H F1 H1 F4 H4 : Hp} {ds : List Nat} (h : ER G env σ F H) (pl : plainAt env ds = true) (gr : Grow F H F1 H1) (h2 : ER G env2 σ2 F1 H1) (ag : Agree ds (wipeS env ds) (L2.wipe σ ds) env2 σ2) (s : StepE G env2 σ2 F1 H1 env4 F4 H4) :
    StepE G env σ F H (back env env4 ds) F4 H4 := by
  have len4 : env.length = env4.length := by rw [s.len, ag.len, wipeS_len]
  have e2 : ∀ (j : Nat), j ∉ ds → env2[j]? = env[j]? := fun j hj => by rw [ag.ev j hj, wipeS_out hj]
  have q2 : ∀ (j : Nat), j ∉ ds → σ2[j]? = σ[j]? := fun j hj => by rw [ag.sg j hj, wipe_out hj]
  have nown : ∀ (j : Nat), j ∈ ds → ∀ io o, env[j]? ≠ some (.own io o) := fun j hj io o z => by
    have := List.all_eq_true.mp pl j hj
    rw [z] at this
    cases this
  have outs : ∀ (i : Nat) io o, (back env env4 ds)[i]? = some (.own io o) → i ∉ ds ∧ env4[i]? = some (.own io o) := fun i io o z => by
    by_cases hi : i ∈ ds
    · rw [back_in len4 hi] at z
      exact absurd z (nown i hi io o)
    · rw [back_out hi] at z
      exact ⟨hi, z⟩
  -- an own slot behind the turn was own ahead of it
  have was : ∀ (i : Nat) io a, OwnI (back env env4 ds) σ i io a → OwnI env σ i io a ∧ OwnI env4 σ2 i io a := by
    rintro i io a ⟨⟨o, e⟩, ea⟩
    obtain ⟨hi, e4⟩ := outs i io o e
    have lt : i < env2.length := by rw [← s.len]; exact (List.getElem?_eq_some_iff.mp e4).1
    have e0 := List.getElem?_eq_getElem lt
    refine ⟨?_, ⟨o, e4⟩, by rw [q2 i hi]; exact ea⟩
    rcases s.slot i _ e0 with z | ⟨o', z⟩ | ⟨o', z, z2⟩
    · rw [z] at e4
      rw [e2 i hi] at e0
      exact ⟨⟨o, by rw [e0, Option.some.inj e4]⟩, ea⟩
    · obtain ⟨⟨o'', z'⟩, _⟩ := s.io i o' (by rw [e0, z])
      rw [e4] at z'
      cases z'
      rw [e2 i hi] at e0
      exact ⟨⟨o', by rw [e0, z]⟩, ea⟩
    · rw [z2] at e4
      cases e4
  have into : ∀ (i : Nat) io a, OwnI env2 σ2 i io a → OwnI env σ i io a := by
    rintro i io a ⟨⟨o, e⟩, ea⟩
    obtain ⟨z1, z2⟩ := ag.own i io o e
    have hi : i ∉ ds := fun hi => by
      have := wipeS_in hi z1
      cases this
    exact ⟨⟨o, by rw [← e2 i hi]; exact e⟩, by rw [← q2 i hi]; exact ea⟩
  have intoA : ∀ a, OwnA env2 σ2 a → OwnA env σ a := fun a ⟨i, io, q⟩ => ⟨i, io, into _ _ _ q⟩
  have intoIO : ∀ a, OwnIO env2 σ2 a → OwnIO env σ a := fun a ⟨i, q⟩ => ⟨i, into _ _ _ q⟩
  have wasA : ∀ a, OwnA (back env env4 ds) σ a → OwnA env σ a := fun a ⟨i, io, q⟩ => ⟨i, io, (was _ _ _ q).1⟩
  refine { rel := ⟨by rw [back_len, ← len4]; exact h.len, s.rel.frz, fun i sl x e ex => ?_, fun i j io jo a q q' => h.dis i j io jo a (was _ _ _ q).1 (was _ _ _ q').1⟩, ext := gr.ext.trans s.ext, new := fun b o q => ?_, keep := fun b o q n => s.keep b o (gr.keep b o q) fun z => n (intoA b z), some_ := fun b q => s.some_ b ?_, own := fun b q => .inl (wasA b q), io := fun i o q => ?_, len := by rw [back_len, ← len4], keepE := fun b o q n => s.keepE b o (gr.keep b o q) fun z => n (intoIO b z), slot := fun i sl q => ?_, ownE := fun b q => wasA b q }
  · by_cases hi : i ∈ ds
    · rw [back_in len4 hi] at e
      have z := h.at_ i sl x e ex
      cases sl with
      | un => trivial
      | val t =>
        obtain ⟨v, z1, z2⟩ := z
        exact ⟨v, z1, z2.mono (gr.ext.trans s.ext)⟩
      | own io o => exact absurd e (nown i hi io o)
    · rw [back_out hi] at e
      exact s.rel.at_ i sl x e (by rw [q2 i hi]; exact ex)
  · rcases s.new b o q with z | z | z
    · exact (gr.new b o z).elim .inl fun w => .inr (.inl w)
    · exact .inr (.inl (none_of_ext gr.keep z))
    · exact .inr (.inr (intoA b z))
  · cases z : H b with
    | none => exact absurd z q
    | some u => rw [gr.keep b u z]; exact Option.some_ne_none _
  · have hi : i ∉ ds := fun hi => nown i hi _ _ q
    obtain ⟨⟨o', z⟩, _⟩ := s.io i o (by rw [e2 i hi]; exact q)
    exact ⟨⟨o', by rw [back_out hi]; exact z⟩, rfl⟩
  · by_cases hi : i ∈ ds
    · exact .inl (by rw [back_in len4 hi]; exact q)
    · rw [back_out hi]
      exact s.slot i sl (by rw [e2 i hi]; exact q)
end PT

set_option Elab.async false
set_option linter.all false
set_option maxRecDepth 100000
set_option autoImplicit false
namespace PT
open PySem PySem.Spec L2

def WPTs (X : Cx) (ifs : List Expr) : TT := fun σ H Q => ∃ t, PTs X ifs t ∧ t σ H Q
def SndTs (G : MC) (sc : Scope) (N : List Str) (k : Nat) (ifs : List Expr) (f : E) : Prop :=
  ∀ (X : Cx) (W : WX) (env : List Slot) (σ : Sg) (F H : Hp) (Q : Bool → Hp → Prop), Gd G sc N k X → Takes X W → ER G env σ F H → WishT G env σ F H (f env) Q (fun c d H' => W c d σ H') → WPTs X ifs σ H Q
def eYes : E := eC (.bl true)
section
variable {G : MC} {sc : Scope} {N : List Str} {k : Nat} {c : Expr} {f : E}
theorem snd_ts0 : SndTs G sc N k [] eYes := by
  intro X W env σ F H Q hd tk h0 q
  obtain ⟨b, e, q⟩ := q
  cases e
  exact ⟨_, pts_nil, q F H (StepE.refl h0)⟩
theorem snd_ts1 (h : SndT G sc N k c f) : SndTs G sc N k [c] f := fun X W env σ F H Q hd tk h0 q => ⟨_, pts_one pt_WT, h X W env σ F H Q hd tk h0 q⟩
end
def compL (ds : List Nat) (g : Gt) (ft fe : E) : List T → List Slot → Option (List T × List Slot)
  | [], env => some ([], env)
  | t :: r, env => match g t (wipeS env ds) with
    | none => none
    | some env2 => match ft env2 with
      | .ok tb _ env3 => (match truthT tb with
        | some true => (match fe env3 with
          | .ok y _ env4 => (match compL ds g ft fe r (back env env4 ds) with
            | some (ys, e) => some (y :: ys, e)
            | none => none)
          | _ => none)
        | some false => compL ds g ft fe r (back env env3 ds)
        | none => none)
      | _ => none
def eComp (fi : I) (ds : List Nat) (g : Gt) (ft fe : E) : E := fun env => match fi env with
  | .ok l env1 => if plainAt env1 ds then (match compL ds g ft fe l env1 with
    | some (ys, env2) => if ys.length ≤ sizeLine then .ok (.lst ys) true env2 else .err
    | none => .err) else .err
  | .exc x env1 => .exc x env1
  | .err => .err

theorem StepE.poke {G : MC} {env env' : List Slot} {σ : Sg} {F H F' H' : Hp} {D : Addr} {o : HO} (h0 : ER G env σ F H) (s : StepE G env σ F H env' F' H') (n : H D = none) (nF : F' D = none) : StepE G env σ F H env' F' (upd H' D o) := by
  have no : ¬ OwnA env' σ D := fun q => by
    obtain ⟨_, u, e⟩ := h0.ownA (s.ownE _ q)
    rw [n] at e
    cases e
  have nd : ∀ b o, H b = some o → b ≠ D := fun b o e => ne_of_none e n
  refine { s with rel := ⟨s.rel.len, fun b u e => ?_, fun i sl x e ex => ?_, s.rel.dis⟩, keep := fun b u e w => ?_, some_ := fun b e => ?_, keepE := fun b u e w => ?_ }
  · rw [upd_ne (ne_of_none e nF)]
    exact s.rel.frz b u e
  · have z := s.rel.at_ i sl x e ex
    cases sl with
    | un => trivial
    | val t => exact z
    | own io o' =>
      obtain ⟨a, z1, vs, y1, y2, y3, y4⟩ := z
      refine ⟨a, z1, vs, ?_, y2, y3, y4⟩
      rw [upd_ne fun w => no ⟨i, io, ⟨o', e⟩, by rw [ex, z1, w]⟩]
      exact y1
  · rw [upd_ne (nd b u e)]
    exact s.keep b u e w
  · by_cases hb : b = D
    · rw [hb, upd_same]
      exact Option.some_ne_none _
    · rw [upd_ne hb]
      exact s.some_ b e
  · rw [upd_ne (nd b u e)]
    exact s.keepE b u e w
theorem plainAt_back {env env4 : List Slot} {ds : List Nat} (hl : env.length = env4.length) (h : plainAt env ds = true) : plainAt (back env env4 ds) ds = true := by
  unfold plainAt at h ⊢
  rw [List.all_eq_true] at h ⊢
  intro i hi
  rw [back_in hl hi]
  exact h i hi
theorem Agree.mono {ds ds' : List Nat} {env env' : List Slot} {σ σ' : Sg} (h : Agree ds env σ env' σ') (m : ∀ j ∈ ds, j ∈ ds') : Agree ds' env σ env' σ' :=
  ⟨fun j hj => h.ev j fun z => hj (m j z), fun j hj => h.sg j fun z => hj (m j z), h.own, h.len, h.lenS⟩

section
variable {G : MC} {sc : Scope} {N : List Str} {k : Nat} {tg iter elt : Expr} {ifs : List Expr} {fi : I} {g : Gt} {ft fe : E} {scope : Scope} {own : List (Str × Nat)} {dt : List Nat} {pos : Pos}
/-- the readings of the block's parts, in whatever block -/
def rG (X : Cx) (scope : Scope) (tg : Expr) : TG := fun v σ H Q => ∀ (s : Shared) (H0 : Hp) (C : Addr) (cl : List (Str × Addr)) (fp : List Addr), WG (X.blk s H0 scope (compEnvC scope cl C X.env) fp) tg v σ H Q
def rT (X : Cx) (scope : Scope) (ifs : List Expr) : TT := fun σ H Q => ∀ (s : Shared) (H0 : Hp) (C : Addr) (cl : List (Str × Addr)) (fp : List Addr), WPTs (X.blk s H0 scope (compEnvC scope cl C X.env) fp) ifs σ H Q
def rE (X : Cx) (scope : Scope) (elt : Expr) : TE := fun σ H Q => ∀ (s : Shared) (H0 : Hp) (C : Addr) (cl : List (Str × Addr)) (fp : List Addr), WE (X.blk s H0 scope (compEnvC scope cl C X.env) fp) elt σ H Q
theorem pg_rG {X : Cx} (s : Shared) (H0 : Hp) (C : Addr) (cl : List (Str × Addr)) (fp : List Addr) : PG (X.blk s H0 scope (compEnvC scope cl C X.env) fp) tg (rG X scope tg) := ⟨fun pins s' σ H v u Q I r q => by
  obtain ⟨t, h1, h2⟩ := q s H0 C cl fp
  exact h1.run pins s' σ H v u Q I r h2⟩
theorem pt_rT {X : Cx} (s : Shared) (H0 : Hp) (C : Addr) (cl : List (Str × Addr)) (fp : List Addr) : PTs (X.blk s H0 scope (compEnvC scope cl C X.env) fp) ifs (rT X scope ifs) := ⟨fun pins s' σ H Q I q => by
  obtain ⟨t, h1, h2⟩ := q s H0 C cl fp
  exact h1.run pins s' σ H Q I h2⟩
theorem pe_rE {X : Cx} (s : Shared) (H0 : Hp) (C : Addr) (cl : List (Str × Addr)) (fp : List Addr) : PE (X.blk s H0 scope (compEnvC scope cl C X.env) fp) elt (rE X scope elt) := ⟨fun pins s' σ H Q I q => by
  obtain ⟨t, h1, h2⟩ := q s H0 C cl fp
  exact h1.run pins s' σ H Q I h2⟩

theorem comp_reads {X : Cx} {W : WX} {env : List Slot} {σ : Sg} {F H : Hp} {Q : VK} (hi : SndI G sc N k tg iter fi) (hg : SndGN G scope N k dt tg g) (hds : ∀ j ∈ dt, j ∈ own.map (·.2)) (ht : SndTs G scope N k ifs ft) (he : SndE G scope N k elt fe)
    (hd : Gd G sc N k X) (tk : Takes X W) (h0 : ER G env σ F H) (q : WishE G env σ F H (eComp fi (own.map (·.2)) g ft fe env) Q (fun c d H' => W c d σ H')) :
    tLc (WI X tg iter) (rG X scope tg) (rT X scope ifs) (rE X scope elt) (own.map (·.2)) σ H Q := by
  generalize hv : own.map (·.2) = ds at *
  refine hi X W env σ F H _ hd tk h0 ?_
  unfold eComp at q
  cases e1 : fi env with
  | err => rw [e1] at q; exact q
  | exc x env' => rw [e1] at q; exact q
  | ok l env1 =>
  rw [e1] at q
  dsimp only at q
  intro J F1 H1 s1 y D hD
  by_cases hp : plainAt env1 ds = true
  case neg => rw [if_neg hp] at q; exact q.elim
  rw [if_pos hp] at q
  cases e2 : compL ds g ft fe l env1 with
  | none => rw [e2] at q; exact q.elim
  | some p =>
  obtain ⟨total, envE⟩ := p
  rw [e2] at q
  dsimp only at q
  by_cases hz : total.length ≤ sizeLine
  case neg => rw [if_neg hz] at q; exact q.elim
  rw [if_pos hz] at q
  have D0 : H D = none := by
    cases z : H D with
    | none => rfl
    | some u => exact absurd hD (s1.some_ D (by rw [z]; exact Option.some_ne_none _))
  have FD1 : F1 D = none := none_of_ext s1.rel.frz hD
  refine ⟨fun i m Hc => m = l.length - i ∧ i ≤ l.length ∧ ∃ (envi : List Slot) (Fi : Hp) (acc : List T) (va : List V) (ys : List T), StepE G env1 σ F1 H1 envi Fi Hc ∧ Hc D = some (.lst va) ∧ Fi D = none ∧ Reps G Fi acc va ∧ plainAt envi ds = true ∧
    compL ds g ft fe (l.drop i) envi = some (ys, envE) ∧ acc ++ ys = total, ⟨l.length, rfl, Nat.zero_le _, env1, F1, [], [], total, (StepE.refl s1.rel).poke s1.rel hD FD1, upd_same, FD1, .nil, hp, e2, rfl⟩, ?_⟩
  rintro i m Hc ⟨rfl, hi, envi, Fi, acc, va, ys, si, hDi, FDi, ra, pl, ec, et⟩
  have noD : ¬ OwnA envi σ D := fun z => by
    obtain ⟨_, u, e⟩ := s1.rel.ownA (si.ownE _ z)
    rw [hD] at e
    cases e
  by_cases hlt : i < l.length
  · refine .inr ⟨y.go i Hc Fi si.ext si.rel.frz hlt, fun H' => ∃ (envi : List Slot) (Fi : Hp) (acc : List T) (va : List V) (ys : List T), StepE G env1 σ F1 H1 envi Fi H' ∧ H' D = some (.lst va) ∧ Fi D = none ∧ Reps G Fi acc va ∧ plainAt envi ds = true ∧
      compL ds g ft fe (l.drop (i + 1)) envi = some (ys, envE) ∧ acc ++ ys = total, fun H' z => ⟨l.length - (i + 1), by omega, rfl, hlt, z⟩, fun x H2 yl => ?_⟩
    obtain ⟨t, etl, F2, gr, rt⟩ := y.yld i Hc Fi x H2 si.ext si.rel.frz yl hlt
    have hdrop : l.drop i = t :: l.drop (i + 1) := by
      have z : l[i] = t := by
        rw [List.getElem?_eq_getElem hlt] at etl
        exact Option.some.inj etl
      rw [← z]
      exact List.drop_eq_getElem_cons hlt
    rw [hdrop] at ec
    unfold compL at ec
    have hb := (si.rel.wipe ds).grow gr
    intro sb Hb Cb clb fpb
    cases eg : g t (wipeS envi ds) with
    | none => rw [eg] at ec; cases ec
    | some env2 =>
    rw [eg] at ec
    dsimp only at ec
    refine hg _ (wipeS envi ds) (L2.wipe σ ds) F2 H2 t x _ hd.blk hb rt (fun env2' σ2 e h2 ag => ?_) (by rw [eg]; rfl)
    rw [eg] at e
    cases e
    have ag := ag.mono hds
    refine ⟨wipe_agree (by rw [ag.lenS, L2.wipe_length]) ag.sg, ?_⟩
    intro sb Hb Cb clb fpb
    refine ht _ (fun _ _ _ _ => False) env2 σ2 F2 H2 _ hd.blk.toGd takes0 h2 ?_
    cases et1 : ft env2 with
    | err => rw [et1] at ec; cases ec
    | exc z env' => rw [et1] at ec; cases ec
    | ok tb fr env3 =>
    rw [et1] at ec
    dsimp only at ec
    cases eb : truthT tb with
    | none => rw [eb] at ec; cases ec
    | some b =>
    rw [eb] at ec
    refine ⟨b, eb, fun F3 H3 s3 => ?_⟩
    cases b with
    | false =>
      rw [if_neg Bool.false_ne_true]
      have st := StepE.turn si.rel pl gr h2 ag s3
      have hD3 : H3 D = some (.lst va) := st.keepE D _ hDi fun z => noD z.a
      have FD3 : F3 D = none := by
        cases z : F3 D with
        | none => rfl
        | some u =>
          rcases st.new D u z with w | w | w
          · rw [FDi] at w; cases w
          · rw [hDi] at w; cases w
          · exact absurd w noD
      have ll : envi.length = env3.length := by rw [s3.len, ag.len, wipeS_len]
      exact ⟨_, F3, acc, va, ys, si.trans st, hD3, FD3, ra.mono st.ext, plainAt_back ll pl, ec, et⟩
    | true =>
      rw [if_pos rfl]
      intro sb Hb Cb clb fpb
      refine he.frz (W := fun _ _ _ _ => False) hd.blk.toGd takes0 s3.rel ?_
      dsimp only at ec
      cases ee : fe env3 with
      | err => rw [ee] at ec; cases ec
      | exc z env' => rw [ee] at ec; cases ec
      | ok ty fr2 env4 =>
      rw [ee] at ec
      dsimp only at ec ⊢
      intro vy F4 H4 s4 r4
      have st := StepE.turn si.rel pl gr h2 ag (s3.trans s4)
      have hD4 : H4 D = some (.lst va) := st.keepE D _ hDi fun z => noD z.a
      have FD4 : F4 D = none := by
        cases z : F4 D with
        | none => rfl
        | some u =>
          rcases st.new D u z with w | w | w
          · rw [FDi] at w; cases w
          · rw [hDi] at w; cases w
          · exact absurd w noD
      have ll : envi.length = env4.length := by rw [s4.len, s3.len, ag.len, wipeS_len]
      cases er : compL ds g ft fe (l.drop (i + 1)) (back envi env4 ds) with
      | none => rw [er] at ec; cases ec
      | some p2 =>
      obtain ⟨ys2, e5⟩ := p2
      rw [er] at ec
      cases ec
      refine ⟨va, hD4, ?_, back envi env4 ds, F4, acc ++ [ty], va ++ [vy], ys2, (si.trans st).poke s1.rel hD FD4, upd_same, FD4, (ra.mono st.ext).append (.cons r4 .nil), plainAt_back ll pl, er, by rw [← et]; simp⟩
      rw [ra.len]
      have : acc.length + (ys2.length + 1) ≤ sizeLine := by
        rw [← et] at hz
        simpa using hz
      omega
  · have e : i = l.length := by omega
    subst e
    rw [List.drop_length] at ec
    unfold compL at ec
    cases ec
    rw [List.append_nil] at et
    subst et
    exact .inl ⟨y.stop _ Hc Fi si.ext si.rel.frz rfl, q _ Fi Hc (s1.trans si) ⟨D, ⟨.l, acc⟩, rfl, rfl, ⟨va, hDi, trivial, ra, FDi⟩, D0⟩⟩
theorem snd_comp (own : List (Str × Nat)) (hi : SndI G sc N k tg iter fi) (ok : BlkOk N sc scope own) (hg : SndGN G scope N k dt tg g) (hds : ∀ j ∈ dt, j ∈ own.map (·.2)) (ht : SndTs G scope N k ifs ft) (he : SndE G scope N k elt fe)
    (hs : ∀ env x, foldedSetIterable iter env x = pure x := by intro _ _; rfl) : SndE G sc N k (.ListComp elt [⟨tg, iter, ifs, 0⟩] scope pos) (eComp fi (own.map (·.2)) g ft fe) := by
  intro X W env σ F H Q hd tk h0 q
  exact .of (pe_lc hd.calm (by rw [hd.NE]; exact hd.nd) pi_WI (by rw [hd.NE]; exact BlkOk.of_ScR ok hd.scR) pg_rG pt_rT pe_rE (hs _)) (comp_reads hi hg hds ht he hd tk h0 q)
/-- y = [..] on one line -/
theorem snd_setComp {i : Nat} {x : Str} {py spos : Pos} {io : Bool} (own : List (Str × Nat)) (hN : N[i]? = some x) (hx : sc.names.lookup x = some .local) (hsw : ∀ env : Env, env.scope = sc → swapsWith (.ListComp elt [⟨tg, iter, ifs, 0⟩] scope pos) (some (.Name x py)) spos.line env = pure true)
    (hi : SndI G sc N k tg iter fi) (ok : BlkOk N sc scope own) (hg : SndGN G scope N k dt tg g) (hds : ∀ j ∈ dt, j ∈ own.map (·.2)) (ht : SndTs G scope N k ifs ft) (he : SndE G scope N k elt fe)
    (hs : ∀ env x, foldedSetIterable iter env x = pure x := by intro _ _; rfl) : SndS G sc N k (.Assign [.Name x py] (.ListComp elt [⟨tg, iter, ifs, 0⟩] scope pos) spos) (sSet io i (eComp fi (own.map (·.2)) g ft fe)) := by
  intro X W env σ F H D hd tk h0 q
  refine .of (ps_setLc hd.calm (by rw [hd.NE]; exact hd.nd) (by rw [hd.NE]; exact hN) (by rw [hd.same]; exact hx) (hsw _ hd.same) pi_WI (by rw [hd.NE]; exact BlkOk.of_ScR ok hd.scR) pg_rG pt_rT pe_rE (hs _)) ?_
  refine comp_reads (Q := fun v H1 => D.nx (σ.set i (some v)) H1) hi hg hds ht he hd.toGd tk h0 ?_
  unfold sSet sE at q
  cases e : eComp fi (own.map (·.2)) g ft fe env with
  | err => rw [e] at q; exact q
  | exc z env' =>
    rw [e] at q
    exact fun c d F' H' s r => q c d σ F' H' s.toStepS r
  | ok t fr env' =>
    rw [e] at q
    intro v F' H' s r
    dsimp only at q
    cases e2 : put io i t fr env' with
    | none => rw [e2] at q; exact q.elim
    | some env2 =>
      rw [e2] at q
      exact q _ F' H' (StepE.put h0 s r e2)
end
end PT

set_option Elab.async false
set_option linter.all false
set_option maxRecDepth 100000
set_option autoImplicit false
namespace PT
open PySem PySem.Spec L2

/-! ### an own object is changed -/
theorem StepS.write {G : MC} {env : List Slot} {σ : Sg} {F H : Hp} {i : Nat} {io : Bool} {o o' : OT} {a : Addr} {vs' : List V} (h0 : ER G env σ F H) (e : env[i]? = some (.own io o)) (ea : σ[i]? = some (some (.ref a))) (r : Reps G F o'.ts vs') (z : o'.k.fits vs'.length) :
    StepS G env σ F H (env.set i (.own io o')) σ F (upd H a (o'.k.ho vs')) := by
  have hi : i < env.length := (List.getElem?_eq_some_iff.mp e).1
  have self : (env.set i (.own io o'))[i]? = some (.own io o') := by rw [List.getElem?_set_self hi]
  have oi : OwnI env σ i io a := ⟨⟨o, e⟩, ea⟩
  obtain ⟨Fa, u0, Ha⟩ := h0.ownA ⟨i, io, oi⟩
  have back : ∀ j jo b, OwnI (env.set i (.own io o')) σ j jo b → OwnI env σ j jo b := by
    rintro j jo b ⟨⟨u, q⟩, q2⟩
    by_cases hj : j = i
    · subst hj
      rw [self] at q
      cases q
      exact ⟨⟨o, e⟩, q2⟩
    · rw [getElem?_set_ne' hj] at q
      exact ⟨⟨u, q⟩, q2⟩
  refine { rel := ⟨by rw [List.length_set]; exact h0.len, fun b u q => ?_, fun j s x q1 q2 => ?_, fun j j' jo jo' b q q' => h0.dis _ _ _ _ _ (back _ _ _ q) (back _ _ _ q')⟩, ext := Ext.refl _, new := fun b u q => .inl q, keep := fun b u q n => ?_, some_ := fun b q => ?_, own := fun b q => ?_, io := fun j u q => ?_, len := List.length_set .. }
  · rw [upd_ne (ne_of_none q Fa)]
    exact h0.frz b u q
  · by_cases hj : j = i
    · subst hj
      rw [self] at q1
      cases q1
      rw [ea] at q2
      cases q2
      exact ⟨a, rfl, vs', upd_same, z, r, Fa⟩
    · rw [getElem?_set_ne' hj] at q1
      have q := h0.at_ j s x q1 q2
      cases s with
      | un => trivial
      | val t => exact q
      | own jo ob =>
        obtain ⟨b, z1, vs2, y1, y2, y3, y4⟩ := q
        have nb : b ≠ a := fun w => hj (h0.dis _ _ _ _ _ (⟨⟨ob, q1⟩, by rw [q2, z1, w]⟩ : OwnI env σ j jo a) oi)
        exact ⟨b, z1, vs2, by rw [upd_ne nb]; exact y1, y2, y3, y4⟩
  · rw [upd_ne fun w => n ⟨i, io, by rw [w]; exact oi⟩]
    exact q
  · by_cases hb : b = a
    · rw [hb, upd_same]
      exact Option.some_ne_none _
    · rw [upd_ne hb]
      exact q
  · obtain ⟨j, jo, q⟩ := q
    exact .inl ⟨j, jo, back _ _ _ q⟩
  · by_cases hj : j = i
    · subst hj
      rw [e] at q
      cases q
      exact ⟨⟨o', self⟩, rfl⟩
    · exact ⟨⟨u, by rw [getElem?_set_ne' hj]; exact q⟩, rfl⟩

/-- behind an expression an own list is an own list, or known -/
theorem StepE.ownBack {G : MC} {env env' : List Slot} {σ : Sg} {F H F' H' : Hp} {i : Nat} {io : Bool} {o : OT} (s : StepE G env σ F H env' F' H') (e : env'[i]? = some (.own io o)) : ∃ o0, env[i]? = some (.own io o0) := by
  have hi : i < env.length := by rw [← s.len]; exact (List.getElem?_eq_some_iff.mp e).1
  have e0 := List.getElem?_eq_getElem hi
  rcases s.slot i _ e0 with q | ⟨o', q⟩ | ⟨o', q, q2⟩
  · rw [q] at e
    exact ⟨o, by rw [e0, Option.some.inj e]⟩
  · obtain ⟨⟨o2, q3⟩, _⟩ := s.io i o' (by rw [e0, q])
    rw [e] at q3
    cases q3
    exact ⟨o', by rw [e0, q]⟩
  · rw [q2] at e
    cases e

def isL (env : List Slot) (i : Nat) : Bool := match env[i]? with
  | some (.own _ ⟨.l, _⟩) => true
  | _ => false
def onL (i : Nat) (k : List T → Option (List T)) (env : List Slot) : SRes := match env[i]? with
  | some (.own io ⟨.l, ts⟩) => (match k ts with
    | some ts' => .nx (env.set i (.own io ⟨.l, ts'⟩))
    | none => .err)
  | _ => .err
/-- xs.append(e) -/
def sApp (i : Nat) (f : E) : S := fun env => if isL env i then sE f (fun t _ env => onL i (fun ts => if ts.length < sizeLine then some (ts ++ [t]) else none) env) env else .err
section
variable {G : MC} {sc : Scope} {N : List Str} {k : Nat} {e : Expr} {f : E} {pos p p2 : Pos} {x : Str} {i : Nat}
theorem snd_append (hN : N[i]? = some x) (hv : visB sc x = true) (ha : SndE G sc N k e f) (hd : (x == ("__debug__" : Str)) = false := by decide) (hcd : (x == ("__classdict__" : Str)) = false := by decide)
    (hline : (p2.endLine == pos.line) = true := by rfl) (hst : ∀ env, starEach [e] env = (false, eval e env) :: starEach [] env := by intro _; rfl)
    (hs : ∀ env, swapsWith (.Call (.Attribute (.Name x p) "append" p2) [e] [] pos) none pos.line env = pure false := by intro _; rfl) (hbase : ∀ env, attributeBase (.Name x p) "append" env (eval (.Name x p) env) = eval (.Name x p) env := by intro _; rfl) :
    SndS G sc N k (.Expr (.Call (.Attribute (.Name x p) "append" p2) [e] [] pos) pos) (sApp i f) := by
  intro X W env σ F H D hg tk h0 q
  have hm := hg.mcE
  subst hm
  have pv : PE X (.Name x p) (tVar i) := pe_var (by rw [hg.NE]; exact hN) (vis_of hg.scR hv) hd hcd
  unfold sApp at q
  by_cases hl : isL env i = true
  case neg => rw [if_neg hl] at q; exact q.elim
  rw [if_pos hl] at q
  have he : ∃ io ts, env[i]? = some (.own io ⟨.l, ts⟩) := by
    unfold isL at hl
    split at hl
    · exact ⟨_, _, by assumption⟩
    · cases hl
  obtain ⟨io, ts0, e0⟩ := he
  obtain ⟨a, ea, vs0, y1, y2, y3, y4⟩ := h0.own e0
  refine .of (ps_expr (pe_bm PySem.F.plainAttrs_list PySem.F.slot_list_append PySem.F.type_list_append mt_append pv (pa_cons pe_WE pa_nil (hst _)) (hbase _) (by rw [hst]; rfl) hline (hst _) rfl) (hs _)) ?_
  refine ⟨.ref a, ea, .inl ⟨rfl, vs0, .inl (.inl y1)⟩, ?_⟩
  refine inS (Q := fun v H2 => ∃ l xs y, V.ref a = .ref l ∧ [v] = [y] ∧ H2 l = some (.lst xs) ∧ xs.length < sizeLine ∧ D.nx σ (upd H2 l (.lst (xs ++ [y])))) ha hg tk h0 q fun t fr env' v F' H' s r w => ?_
  obtain ⟨F2, s2, r2, _⟩ := s.freezeNew h0 r
  unfold onL at w
  cases e1 : env'[i]? with
  | none => rw [e1] at w; exact w.elim
  | some sl =>
  rw [e1] at w
  cases sl with
  | un => exact w.elim
  | val t => exact w.elim
  | own io' o =>
  obtain ⟨kk, ts⟩ := o
  cases kk with
  | dk ks => exact w.elim
  | dt ks => exact w.elim
  | l =>
  dsimp only at w
  by_cases hz : ts.length < sizeLine
  case neg => rw [if_neg hz] at w; exact w.elim
  rw [if_pos hz] at w
  obtain ⟨a', ea', vs, x1, x2, x3, x4⟩ := s2.rel.own e1
  rw [ea] at ea'
  cases ea'
  refine ⟨a, vs, v, rfl, rfl, x1, by rw [x3.len]; exact hz, ?_⟩
  exact w σ F2 _ (s2.toStepS.trans (StepS.write (o' := ⟨.l, ts ++ [t]⟩) s2.rel e1 ea (x3.append (.cons r2 .nil)) trivial))
/-- xs[e] = .. -/
def gSetL (i : Nat) (fx : E) : Gt := fun t env => if isL env i then (match fx env with
  | .ok (.int j) _ env' => (match env'[i]? with
    | some (.own io ⟨.l, ts⟩) => (ixN ts.length j).map fun n => env'.set i (.own io ⟨.l, ts.set n t⟩)
    | _ => none)
  | _ => none) else none
theorem snd_gSetL (hN : N[i]? = some x) (hv : visB sc x = true) (ha : SndE G sc N k e f) (hd : (x == ("__debug__" : Str)) = false := by decide) (hcd : (x == ("__classdict__" : Str)) = false := by decide)
    (hass : ∀ env v, assign (.Subscript (.Name x p) e pos) env v = (do
      let ov ← holding [v] (eval (.Name x p) env)
      let iv ← holding [v, ov] (eval e env)
      standAt pos
      holding [v, ov, iv] (setItem ov iv v)
      release [v, ov, iv] []) := by intro _ _; rfl) : SndG G sc N k (.Subscript (.Name x p) e pos) (gSetL i f) := by
  intro X W env σ F H t v Q hg tk h0 r q so
  have hm := hg.mcE
  subst hm
  have pv : PE X (.Name x p) (tVar i) := pe_var (by rw [hg.NE]; exact hN) (vis_of hg.scR hv) hd hcd
  refine ⟨_, pg_sub pv pe_WE set_list (hass _), ?_⟩
  unfold gSetL at so
  by_cases hl : isL env i = true
  case neg => rw [if_neg hl] at so; cases so
  have eg : gSetL i f t env = (match f env with
    | .ok (.int j) _ env' => (match env'[i]? with
      | some (.own io ⟨.l, ts⟩) => (ixN ts.length j).map fun n => env'.set i (.own io ⟨.l, ts.set n t⟩)
      | _ => none)
    | _ => none) := by
    unfold gSetL
    rw [if_pos hl]
  rw [if_pos hl] at so
  have he : ∃ io ts, env[i]? = some (.own io ⟨.l, ts⟩) := by
    unfold isL at hl
    split at hl
    · exact ⟨_, _, by assumption⟩
    · cases hl
  obtain ⟨io, ts0, e0⟩ := he
  obtain ⟨a, ea, vs0, y1, y2, y3, y4⟩ := h0.own e0
  refine ⟨.ref a, ea, ?_⟩
  refine ha.frz hg.toGd tk h0 ?_
  cases e1 : f env with
  | err => rw [e1] at so; cases so
  | exc z env' => rw [e1] at so; cases so
  | ok ti fr env' =>
  rw [e1] at so eg
  intro vi F' H' s ri
  cases ti with
  | int j =>
    have ev : vi = .int j := by simpa [Rep] using ri
    subst ev
    dsimp only at so eg
    cases e2 : env'[i]? with
    | none => rw [e2] at so; cases so
    | some sl =>
    rw [e2] at so eg
    cases sl with
    | un => cases so
    | val t => cases so
    | own io' o =>
    obtain ⟨kk, ts⟩ := o
    cases kk with
    | dk ks => cases so
    | dt ks => cases so
    | l =>
    dsimp only at so eg
    cases e3 : ixN ts.length j with
    | none => rw [e3] at so; cases so
    | some n =>
    rw [e3] at eg
    obtain ⟨a', ea', vs, x1, x2, x3, x4⟩ := s.rel.own e2
    rw [ea] at ea'
    cases ea'
    refine ⟨a, vs, j, n, rfl, rfl, x1, by rw [x3.len]; exact e3, ?_⟩
    exact q _ σ F' _ eg (s.toStepS.trans (StepS.write (o' := ⟨.l, ts.set n t⟩) s.rel e2 ea (x3.set (r.mono s.ext) n) trivial))
  | _ => cases so
/-- state[j], state an object that is lent, j written -/
def eIxIO (i : Nat) (j : Int) : E := fun env => match env[i]? with
  | some (.own _ ⟨.l, ts⟩) => (match atI ts j with
    | some t => .ok t false env
    | none => .err)
  | _ => .err
theorem snd_ixIO {j : Int} {jn : Nat} (hN : N[i]? = some x) (hv : visB sc x = true) (hd : (x == ("__debug__" : Str)) = false := by decide) (hcd : (x == ("__classdict__" : Str)) = false := by decide) : SndE G sc N k (.Subscript (.Name x p) (.Constant (.int j) jn p2) pos) (eIxIO i j) := by
  intro X W env σ F H Q hg tk h0 q
  have hm := hg.mcE
  subst hm
  have pv : PE X (.Name x p) (tVar i) := pe_var (by rw [hg.NE]; exact hN) (vis_of hg.scR hv) hd hcd
  refine .of (pe_ix ix_list pv pe_int (fun _ _ => rfl)) ?_
  unfold eIxIO at q
  cases e0 : env[i]? with
  | none => rw [e0] at q; exact q.elim
  | some sl =>
  rw [e0] at q
  cases sl with
  | un => exact q.elim
  | val t => exact q.elim
  | own io o =>
  obtain ⟨kk, ts⟩ := o
  cases kk with
  | dk ks => exact q.elim
  | dt ks => exact q.elim
  | l =>
  obtain ⟨a, ea, vs, y1, y2, y3, y4⟩ := h0.own e0
  dsimp only at q
  cases e1 : atI ts j with
  | none => rw [e1] at q; exact q.elim
  | some t =>
  rw [e1] at q
  have e2 : ∃ n, ixN ts.length j = some n ∧ ts[n]? = some t := by
    unfold atI at e1
    cases e3 : ixN ts.length j with
    | none => rw [e3] at e1; cases e1
    | some n => rw [e3] at e1; exact ⟨n, rfl, e1⟩
  obtain ⟨n, e2, e3⟩ := e2
  obtain ⟨v, ev, rv⟩ := y3.at_ e3
  refine ⟨.ref a, ea, a, vs, j, v, rfl, rfl, .inl (.inl y1), ?_, q v F H (StepE.refl h0) rv⟩
  unfold atI
  rw [y3.len, e2]
  exact ev
end

/-! ### dicts -/
def OptRep (G : MC) (F : Hp) : Option T → Option V → Prop
  | some t, ov => ∃ v, ov = some v ∧ Rep G F t v
  | none, ov => ov = none
section
variable {κ : Type} [DecidableEq κ]
def lookT (ks : List κ) (ts : List T) (k : κ) : Option T := ((ks.zip ts).find? fun kv => decide (kv.1 = k)).map (·.2)
def putT (ks : List κ) (ts : List T) (k : κ) (t : T) : List κ × List T :=
  if (ks.any fun k' => decide (k' = k)) = true then (ks, List.zipWith (fun k' t' => if k' = k then t else t') ks ts) else (ks ++ [k], ts ++ [t])
theorem lookT_ok {G : MC} {F : Hp} {k : κ} : ∀ {ks : List κ} {ts : List T} {vs : List V}, Reps G F ts vs → ks.length = vs.length → OptRep G F (lookT ks ts k) (valV (ks.zip vs) k)
  | [], ts, vs, r, h => by
    have : vs = [] := by
      cases vs with
      | nil => rfl
      | cons => cases h
    subst this
    simp [lookT, valV, OptRep]
  | k0 :: ks, ts, vs, r, h => by
    cases vs with
    | nil => cases h
    | cons v vs =>
      cases ts with
      | nil =>
        have := Reps.nil_iff.mp r
        cases this
      | cons t ts =>
        obtain ⟨v', r', e, r1, r2⟩ := r.inv
        cases e
        have ih := lookT_ok (k := k) (ks := ks) r2 (by simpa using h)
        by_cases hk : k0 = k
        · have e1 : lookT (k0 :: ks) (t :: ts) k = some t := by simp [lookT, hk]
          rw [e1]
          exact ⟨v, by simp [valV, hk], r1⟩
        · have e1 : lookT (k0 :: ks) (t :: ts) k = lookT ks ts k := by simp [lookT, hk]
          have e2 : valV ((k0 :: ks).zip (v :: vs)) k = valV (ks.zip vs) k := by simp [valV, hk]
          rw [e1, e2]
          exact ih
theorem zipWith_reps {G : MC} {F : Hp} {k : κ} {t : T} {v : V} (q : Rep G F t v) : ∀ {ks : List κ} {ts : List T} {vs : List V}, Reps G F ts vs → ks.length = vs.length →
    Reps G F (List.zipWith (fun k' t' => if k' = k then t else t') ks ts) (List.zipWith (fun k' v' => if k' = k then v else v') ks vs)
  | [], ts, vs, r, h => by simp; exact .nil
  | k0 :: ks, ts, vs, r, h => by
    cases vs with
    | nil => cases h
    | cons v0 vs =>
      cases ts with
      | nil =>
        have := Reps.nil_iff.mp r
        cases this
      | cons t0 ts =>
        obtain ⟨v', r', e, r1, r2⟩ := r.inv
        cases e
        simp only [List.zipWith_cons_cons]
        refine .cons ?_ (zipWith_reps q r2 (by simpa using h))
        by_cases hk : k0 = k
        · rw [if_pos hk, if_pos hk]; exact q
        · rw [if_neg hk, if_neg hk]; exact r1
theorem zip_map_put {k : κ} {v : V} : ∀ {ks : List κ} {vs : List V}, ks.length = vs.length → (ks.zip vs).map (fun kv => if kv.1 = k then (kv.1, v) else kv) = ks.zip (List.zipWith (fun k' v' => if k' = k then v else v') ks vs)
  | [], vs, h => by simp
  | k0 :: ks, vs, h => by
    cases vs with
    | nil => cases h
    | cons v0 vs =>
      simp only [List.zip_cons_cons, List.map_cons, List.zipWith_cons_cons]
      rw [zip_map_put (by simpa using h)]
      by_cases hk : k0 = k
      · rw [if_pos hk, if_pos hk]
      · rw [if_neg hk, if_neg hk]
theorem any_zip {k : κ} : ∀ {ks : List κ} {vs : List V}, ks.length = vs.length → ((ks.zip vs).any fun kv => decide (kv.1 = k)) = ks.any fun k' => decide (k' = k)
  | [], vs, h => by simp
  | k0 :: ks, vs, h => by
    cases vs with
    | nil => cases h
    | cons v0 vs =>
      simp only [List.zip_cons_cons, List.any_cons]
      rw [any_zip (by simpa using h)]
theorem putT_ok {G : MC} {F : Hp} {k : κ} {t : T} {v : V} (q : Rep G F t v) {ks : List κ} {ts : List T} {vs : List V} (r : Reps G F ts vs) (h : ks.length = vs.length) :
    ∃ vs', putK (ks.zip vs) k v = (putT ks ts k t).1.zip vs' ∧ (putT ks ts k t).1.length = vs'.length ∧ Reps G F (putT ks ts k t).2 vs' := by
  unfold putK putT
  rw [any_zip h]
  by_cases ha : (ks.any fun k' => decide (k' = k)) = true
  · rw [if_pos ha, if_pos ha]
    exact ⟨_, zip_map_put h, by simp [h], zipWith_reps q r h⟩
  · rw [if_neg ha, if_neg ha]
    refine ⟨vs ++ [v], ?_, by simp [h], r.append (.cons q .nil)⟩
    rw [List.zip_append h]
    rfl
end
def keyT : T → Option Key
  | .int i => some (.inl i)
  | .str x => some (.inr x)
  | _ => none
def keysL : List T → Option (List Key)
  | [] => some []
  | t :: r => match keyT t, keysL r with
    | some k, some ks => some (k :: ks)
    | _, _ => none
def keysT : T → Option (List Key)
  | .tup l => keysL l
  | _ => none
theorem keyT_ok {G : MC} {F : Hp} {t : T} {k : Key} {v : V} (e : keyT t = some k) (r : Rep G F t v) : v = kV k := by
  cases t with
  | int i =>
    cases e
    have : v = .int i := by simpa [Rep] using r
    exact this
  | str x =>
    cases e
    have : v = .str x := by simpa [Rep] using r
    exact this
  | _ => cases e
theorem keysL_ok {G : MC} {F : Hp} : ∀ {l : List T} {ks : List Key} {vs : List V}, keysL l = some ks → Reps G F l vs → vs = ks.map kV
  | [], ks, vs, e, r => by
    cases e
    rw [Reps.nil_iff.mp r]
    rfl
  | t :: l, ks, vs, e, r => by
    obtain ⟨v, r', rfl, r1, r2⟩ := r.inv
    unfold keysL at e
    cases e1 : keyT t with
    | none => rw [e1] at e; cases e
    | some k =>
      cases e2 : keysL l with
      | none => rw [e1, e2] at e; cases e
      | some ks' =>
        rw [e1, e2] at e
        cases e
        rw [keyT_ok e1 r1, keysL_ok e2 r2]
        rfl
theorem keysT_ok {G : MC} {F : Hp} {t : T} {ks : List Key} {v : V} (e : keysT t = some ks) (r : Rep G F t v) : ∃ b, v = .ref b ∧ F b = some (.tup (ks.map kV)) := by
  cases t with
  | tup l =>
    simp only [Rep] at r
    obtain ⟨a, vs, rfl, h, r⟩ := r
    rw [keysL_ok e r] at h
    exact ⟨a, rfl, h⟩
  | _ => cases e
/-- a dict asked: none is an error -/
def dGet : T → T → Option (Option T)
  | .dk ks ts, y => (keyT y).map (lookT ks ts)
  | .dt ks ts, y => (keysT y).map (lookT ks ts)
  | _, _ => none
theorem dGet_ok {G : MC} {F H : Hp} {d y : T} {x w : V} {o : Option T} (f : Frz F H) (e : dGet d y = some o) (r : RepB G F H d x) (ry : Rep G F y w) : ∃ a ov, x = .ref a ∧ IsD H a ∧ DGet H a w ov ∧ OptRep G F o ov := by
  cases d with
  | dk ks ts =>
    obtain ⟨a, vs, rfl, h1, h2, h3⟩ := r
    obtain ⟨k, ek, rfl⟩ := Option.map_eq_some_iff.mp (show (keyT y).map (lookT ks ts) = some o from e)
    have := keyT_ok ek ry
    subst this
    exact ⟨a, _, rfl, .inl ⟨_, .inl h1⟩, DGet.k h1, lookT_ok (k := k) h3 h2⟩
  | dt ks ts =>
    obtain ⟨a, vs, rfl, h1, h2, h3⟩ := r
    obtain ⟨k, ek, rfl⟩ := Option.map_eq_some_iff.mp (show (keysT y).map (lookT ks ts) = some o from e)
    obtain ⟨b, rfl, hb⟩ := keysT_ok ek ry
    exact ⟨a, _, rfl, .inr ⟨_, .inl h1⟩, DGet.t h1 (f _ _ hb), lookT_ok (k := k) h3 h2⟩
  | _ => cases e
end PT

set_option Elab.async false
set_option linter.all false
set_option maxRecDepth 100000
set_option autoImplicit false
namespace PT
open PySem PySem.Spec L2

section
variable {G : MC} {sc : Scope} {N : List Str} {k : Nat} {a b c : Expr} {fa fb fc : E} {pos p p2 apos : Pos} {x : Str} {i : Nat}
/-- {} -/
def eDK : E := fun env => .ok (.dk [] []) true env
def eDT : E := fun env => .ok (.dt [] []) true env
theorem snd_dk : SndE G sc N k (.Dict [] [] pos) eDK := by
  intro X W env σ F H Q hd tk h0 q
  refine .of pe_dnewK fun ad n => ?_
  obtain ⟨g, r⟩ := new_own (G := G) (vs := []) (o := ⟨.dk [], []⟩) h0.frz n .nil rfl
  exact q _ _ _ (StepE.of_grow h0 g) r
theorem snd_dt : SndE G sc N k (.Dict [] [] pos) eDT := by
  intro X W env σ F H Q hd tk h0 q
  refine .of pe_dnewT fun ad n => ?_
  obtain ⟨g, r⟩ := new_own (G := G) (vs := []) (o := ⟨.dt [], []⟩) h0.frz n .nil rfl
  exact q _ _ _ (StepE.of_grow h0 g) r
/-- d[k] -/
def eDGet (fd fk : E) : E := eB fd fun d => eB fk fun y env => match dGet d y with
  | some (some t) => .ok t false env
  | _ => .err
theorem snd_dget (ha : SndB G sc N k a fa) (hb : SndE G sc N k b fb) (hs : NoSl b := by exact (fun _ _ => rfl)) : SndE G sc N k (.Subscript a b pos) (eDGet fa fb) := by
  intro X W env σ F H Q hd tk h0 q
  refine .of (pe_dget (hu_of hd.room) pe_WE pe_WE hs) ?_
  refine ha X W env σ F H _ hd tk h0 ?_
  unfold eDGet eB at q
  cases e : fa env with
  | err => rw [e] at q; exact q
  | exc z env' => rw [e] at q; exact q
  | ok d fr env1 =>
  rw [e] at q
  intro v F1 H1 s1 r1
  refine hb.frz hd tk s1.rel ?_
  dsimp only at q
  cases e2 : fb env1 with
  | err => rw [e2] at q; exact q
  | exc z env' =>
    rw [e2] at q
    exact fun c d F' H' s' r => q c d F' H' (s1.trans s') (r.back s1.some_)
  | ok y fr2 env2 =>
  rw [e2] at q
  intro w F2 H2 s2 r2
  dsimp only at q
  cases e3 : dGet d y with
  | none => rw [e3] at q; exact q.elim
  | some o =>
  rw [e3] at q
  obtain ⟨ad, ov, rfl, h1, h2, h3⟩ := dGet_ok s2.rel.frz e3 ((r1.step s2).toB s2.rel.frz) r2
  cases o with
  | none => exact q.elim
  | some t =>
    obtain ⟨vv, rfl, rv⟩ := h3
    exact ⟨ad, vv, rfl, h2, q vv F2 H2 (s1.trans s2) rv⟩
/-- k in d, k not in d -/
def eDIn (neg : Bool) (fk fd : E) : E := eB fk fun y => eB fd fun d env => match dGet d y with
  | some o => .ok (.bl (if neg then !o.isSome else o.isSome)) false env
  | none => .err
theorem dIn_aux {X : Cx} {W : WX} {env : List Slot} {σ : Sg} {F H : Hp} {Q : VK} {neg : Bool} (ha : SndE G sc N k a fa) (hb : SndB G sc N k b fb) (hd : Gd G sc N k X) (tk : Takes X W) (h0 : ER G env σ F H) (q : WishE G env σ F H (eDIn neg fa fb env) Q (fun c d H' => W c d σ H')) :
    WE X a σ H fun y H1 => WE X b σ H1 fun x H2 => ∃ ad o, x = .ref ad ∧ DGet H2 ad y o ∧ Q (.bl (if neg then !o.isSome else o.isSome)) H2 := by
  refine ha.frz hd tk h0 ?_
  unfold eDIn eB at q
  cases e : fa env with
  | err => rw [e] at q; exact q
  | exc z env' => rw [e] at q; exact q
  | ok y fr env1 =>
  rw [e] at q
  intro w F1 H1 s1 r1
  refine hb X W env1 σ F1 H1 _ hd tk s1.rel ?_
  dsimp only at q
  cases e2 : fb env1 with
  | err => rw [e2] at q; exact q
  | exc z env' =>
    rw [e2] at q
    exact fun c d F' H' s' r => q c d F' H' (s1.trans s') (r.back s1.some_)
  | ok d fr2 env2 =>
  rw [e2] at q
  intro v F2 H2 s2 r2
  dsimp only at q
  cases e3 : dGet d y with
  | none => rw [e3] at q; exact q.elim
  | some o =>
  rw [e3] at q
  obtain ⟨ad, ov, rfl, h1, h2, h3⟩ := dGet_ok s2.rel.frz e3 (r2.toB s2.rel.frz) (r1.mono s2.ext)
  have : ov.isSome = o.isSome := by
    cases o with
    | none => rw [show ov = none from h3]; rfl
    | some t =>
      obtain ⟨vv, rfl, _⟩ := h3
      rfl
  refine ⟨ad, ov, rfl, h2, ?_⟩
  rw [this]
  exact q _ F2 H2 (s1.trans s2) (by simp [RR, Rep])
theorem snd_din (ha : SndE G sc N k a fa) (hb : SndB G sc N k b fb) (hm : behindInMarks .In b = false := by with_unfolding_all rfl) : SndE G sc N k (.Compare a [.In] [b] pos) (eDIn false fa fb) := by
  intro X W env σ F H Q hd tk h0 q
  refine .of (pe_cmp (pc_din (hu_of hd.room) pe_WE pe_WE) hm) (dIn_aux ha hb hd tk h0 q)
theorem snd_dnotin (ha : SndE G sc N k a fa) (hb : SndB G sc N k b fb) (hm : behindInMarks .NotIn b = false := by with_unfolding_all rfl) : SndE G sc N k (.Compare a [.NotIn] [b] pos) (eDIn true fa fb) := by
  intro X W env σ F H Q hd tk h0 q
  refine .of (pe_cmp (pc_dnotin (hu_of hd.room) pe_WE pe_WE) hm) (dIn_aux ha hb hd tk h0 q)
theorem WishT.dIn {env : List Slot} {σ : Sg} {F H : Hp} {Q : Bool → Hp → Prop} {W : XK} {neg : Bool} (q : WishT G env σ F H (eDIn neg fa fb env) Q W) : WishE G env σ F H (eDIn neg fa fb env) (fun v H' => ∃ b, v = .bl b ∧ Q b H') W := by
  cases e : eDIn neg fa fb env with
  | err => rw [e] at q; exact q
  | exc z env' => rw [e] at q; exact q
  | ok t fr env' =>
    have hb : ∃ bb, t = .bl bb ∧ fr = false := by
      unfold eDIn eB at e
      cases e1 : fa env with
      | err => rw [e1] at e; cases e
      | exc z env' => rw [e1] at e; cases e
      | ok y fr1 env1 =>
        rw [e1] at e
        dsimp only at e
        cases e2 : fb env1 with
        | err => rw [e2] at e; cases e
        | exc z env' => rw [e2] at e; cases e
        | ok d fr2 env2 =>
          rw [e2] at e
          dsimp only at e
          cases e3 : dGet d y with
          | none => rw [e3] at e; cases e
          | some o =>
            rw [e3] at e
            cases e
            exact ⟨_, rfl, rfl⟩
    obtain ⟨bb, rfl, rfl⟩ := hb
    rw [e] at q
    intro v F' H' s r
    have : v = .bl bb := by simpa [RR, Rep] using r
    exact ⟨bb, this, q.bool (v := v) s rfl⟩
theorem snd_tdin (ha : SndE G sc N k a fa) (hb : SndB G sc N k b fb) (hm : behindInMarks .In b = false := by with_unfolding_all rfl) : SndT G sc N k (.Compare a [.In] [b] pos) (eDIn false fa fb) := by
  intro X W env σ F H Q hd tk h0 q
  exact .of (pt_cmp (pc_din (hu_of hd.room) pe_WE pe_WE) hm) (dIn_aux ha hb hd tk h0 q.dIn)
theorem snd_tdnotin (ha : SndE G sc N k a fa) (hb : SndB G sc N k b fb) (hm : behindInMarks .NotIn b = false := by with_unfolding_all rfl) : SndT G sc N k (.Compare a [.NotIn] [b] pos) (eDIn true fa fb) := by
  intro X W env σ F H Q hd tk h0 q
  exact .of (pt_cmp (pc_dnotin (hu_of hd.room) pe_WE pe_WE) hm) (dIn_aux ha hb hd tk h0 q.dIn)
/-- d.get(k, x) -/
def isDic : T → Bool
  | .dk _ _ => true
  | .dt _ _ => true
  | _ => false
def eDGet2 (fd fk fx : E) : E := eB fd fun d env => if isDic d then eB fk (fun y => eB fx fun z env => match dGet d y with
  | some o => .ok (o.getD z) false env
  | none => .err) env else .err
theorem isD_of {F H : Hp} {d : T} {v : V} (h : RepB G F H d v) (hd : isDic d = true) : ∃ a, v = .ref a ∧ IsD H a := by
  cases d with
  | dk ks ts =>
    obtain ⟨a, vs, rfl, h1, _⟩ := h
    exact ⟨a, rfl, .inl ⟨_, .inl h1⟩⟩
  | dt ks ts =>
    obtain ⟨a, vs, rfl, h1, _⟩ := h
    exact ⟨a, rfl, .inr ⟨_, .inl h1⟩⟩
  | _ => cases hd
theorem snd_dget2 (ha : SndB G sc N k a fa) (hb : SndE G sc N k b fb) (hc : SndE G sc N k c fc) (hbase : ∀ env, attributeBase a "get" env (eval a env) = eval a env := by intro _; rfl) (hline : (apos.endLine == pos.line) = true := by rfl)
    (hst : ∀ env, starEach [b, c] env = [(false, eval b env), (false, eval c env)] := by intro _; rfl) : SndE G sc N k (.Call (.Attribute a "get" apos) [b, c] [] pos) (eDGet2 fa fb fc) := by
  intro X W env σ F H Q hd tk h0 q
  refine .of (pe_dget2 (hu_of hd.room) pe_WE pe_WE pe_WE ⟨hbase _, by rw [hst]; rfl, hline, by rw [hst]; rfl⟩) ?_
  refine ha X W env σ F H _ hd tk h0 ?_
  unfold eDGet2 at q
  cases e : fa env with
  | err => rw [show eB fa _ env = ERes.err by unfold eB; rw [e]] at q; exact q
  | exc z env' => rw [show eB fa _ env = ERes.exc z env' by unfold eB; rw [e]] at q; exact q
  | ok d fr env1 =>
  rw [eB_ok e] at q
  intro v F1 H1 s1 r1
  by_cases hdd : isDic d = true
  case neg => rw [if_neg hdd] at q; exact q.elim
  rw [if_pos hdd] at q
  obtain ⟨ad, rfl, isd⟩ := isD_of (r1.toB s1.rel.frz) hdd
  refine ⟨ad, rfl, isd, ?_⟩
  refine hb.frz hd tk s1.rel ?_
  unfold eB at q
  cases e2 : fb env1 with
  | err => rw [e2] at q; exact q
  | exc z env' =>
    rw [e2] at q
    exact fun c d F' H' s' r => q c d F' H' (s1.trans s') (r.back s1.some_)
  | ok y fr2 env2 =>
  rw [e2] at q
  intro w F2 H2 s2 r2
  refine hc.frz hd tk s2.rel ?_
  dsimp only at q
  cases e3 : fc env2 with
  | err => rw [e3] at q; exact q
  | exc z env' =>
    rw [e3] at q
    exact fun c d F' H' s' r => q c d F' H' ((s1.trans s2).trans s') (r.back (s1.trans s2).some_)
  | ok z fr3 env3 =>
  rw [e3] at q
  intro zv F3 H3 s3 r3
  dsimp only at q
  cases e4 : dGet d y with
  | none => rw [e4] at q; exact q.elim
  | some o =>
  rw [e4] at q
  obtain ⟨ad', ov, e5, h1, h2, h3⟩ := dGet_ok s3.rel.frz e4 (((r1.step s2).step s3).toB s3.rel.frz) (r2.mono s3.ext)
  cases e5
  refine ⟨ov, h2, q _ F3 H3 ((s1.trans s2).trans s3) ?_⟩
  cases o with
  | none => rw [show ov = none from h3]; exact r3
  | some t =>
    obtain ⟨vv, rfl, rv⟩ := h3
    exact rv
/-- d[k] = v, d an own dict -/
def isDS (env : List Slot) (i : Nat) : Bool := match env[i]? with
  | some (.own _ ⟨.dk _, _⟩) => true
  | some (.own _ ⟨.dt _, _⟩) => true
  | _ => false
def dPut (o : OT) (y t : T) : Option OT := match o with
  | ⟨.dk ks, ts⟩ => if ks.length < sizeLine then (keyT y).map fun k => ⟨.dk (putT ks ts k t).1, (putT ks ts k t).2⟩ else none
  | ⟨.dt ks, ts⟩ => if ks.length < sizeLine then (keysT y).map fun k => ⟨.dt (putT ks ts k t).1, (putT ks ts k t).2⟩ else none
  | _ => none
theorem dPut_ok {F H : Hp} {o o' : OT} {y t : T} {w v : V} {a : Addr} (f : Frz F H) (e : dPut o y t = some o') (ow : OwnAt G F H o a) (ry : Rep G F y w) (rt : Rep G F t v) :
    ∃ vs', DPut H a w v (upd H a (o'.k.ho vs')) ∧ Reps G F o'.ts vs' ∧ o'.k.fits vs'.length := by
  obtain ⟨vs, h1, h2, h3, h4⟩ := ow
  obtain ⟨kk, ts⟩ := o
  cases kk with
  | l => cases e
  | dk ks =>
    dsimp only [dPut] at e
    by_cases hz : ks.length < sizeLine
    case neg => rw [if_neg hz] at e; cases e
    rw [if_pos hz] at e
    obtain ⟨k, ek, rfl⟩ := Option.map_eq_some_iff.mp e
    have := keyT_ok ek ry
    subst this
    obtain ⟨vs', p1, p2, p3⟩ := putT_ok (k := k) rt h3 h2
    refine ⟨vs', ?_, p3, p2⟩
    have z := DPut.k (k := k) (v := v) h1 (by rw [List.length_zip]; have h2 : ks.length = vs.length := h2; omega)
    rw [p1] at z
    exact z
  | dt ks =>
    dsimp only [dPut] at e
    by_cases hz : ks.length < sizeLine
    case neg => rw [if_neg hz] at e; cases e
    rw [if_pos hz] at e
    obtain ⟨k, ek, rfl⟩ := Option.map_eq_some_iff.mp e
    obtain ⟨b, rfl, hb⟩ := keysT_ok ek ry
    obtain ⟨vs', p1, p2, p3⟩ := putT_ok (k := k) rt h3 h2
    refine ⟨vs', ?_, p3, p2⟩
    have z := DPut.t (k := k) (v := v) h1 (f _ _ hb) (by rw [List.length_zip]; have h2 : ks.length = vs.length := h2; omega)
    rw [p1] at z
    exact z
def sDSet (i : Nat) (fk fv : E) : S := sE fv fun t _ env => if isDS env i then sE fk (fun y _ env => match env[i]? with
  | some (.own io o) => (match dPut o y t with
    | some o' => .nx (env.set i (.own io o'))
    | none => .err)
  | _ => .err) env else .err
theorem snd_dset (hN : N[i]? = some x) (hv : visB sc x = true) (ha : SndE G sc N k a fa) (hb : SndE G sc N k b fb) (hd1 : (x == ("__debug__" : Str)) = false := by decide) (hcd : (x == ("__classdict__" : Str)) = false := by decide)
    (hs : ∀ env, swapsWith b (some (.Subscript (.Name x p) a p2)) pos.line env = pure false := by intro _; rfl) : SndS G sc N k (.Assign [.Subscript (.Name x p) a p2] b pos) (sDSet i fa fb) := by
  intro X W env σ F H D hg tk h0 q
  have pv : PE X (.Name x p) (tVar i) := pe_var (by rw [hg.NE]; exact hN) (vis_of hg.scR hv) hd1 hcd
  refine .of (ps_dput (hu_of hg.room) pv pe_WE pe_WE (hs _)) ?_
  refine inS (Q := fun v H1 => tVar i σ H1 fun x H2 => WE X a σ H2 fun y H3 => ∃ a H4, x = .ref a ∧ DPut H3 a y v H4 ∧ D.nx σ H4) hb hg tk h0 q fun t fr env1 v F1 H1 s r w => ?_
  obtain ⟨F2, s1, r1, _⟩ := s.freezeNew h0 r
  by_cases hl : isDS env1 i = true
  case neg => rw [if_neg hl] at w; exact w.elim
  rw [if_pos hl] at w
  have he : ∃ io o, env1[i]? = some (.own io o) := by
    unfold isDS at hl
    split at hl
    · exact ⟨_, _, by assumption⟩
    · exact ⟨_, _, by assumption⟩
    · cases hl
  obtain ⟨io, o0, e0⟩ := he
  obtain ⟨ad, ea, _⟩ := s1.rel.own e0
  refine ⟨.ref ad, ea, ?_⟩
  have w := WishS.after s1.toStepS w
  refine inS (Q := fun y H3 => ∃ a H4, V.ref ad = .ref a ∧ DPut H3 a y v H4 ∧ D.nx σ H4) ha hg tk s1.rel w fun y fr2 env2 wv F3 H3 s3 r3 w3 => ?_
  obtain ⟨F4, s4, r4, _⟩ := s3.freezeNew s1.rel r3
  cases e1 : env2[i]? with
  | none => rw [e1] at w3; exact w3.elim
  | some sl =>
  rw [e1] at w3
  cases sl with
  | un => exact w3.elim
  | val t => exact w3.elim
  | own io' o =>
  dsimp only at w3
  cases e2 : dPut o y t with
  | none => rw [e2] at w3; exact w3.elim
  | some o' =>
  rw [e2] at w3
  obtain ⟨ad', ea', ow⟩ := s4.rel.own e1
  rw [ea] at ea'
  cases ea'
  obtain ⟨vs', p1, p2, p3⟩ := dPut_ok s4.rel.frz e2 ow r4 (r1.mono s4.ext)
  exact ⟨ad, _, rfl, p1, w3 σ F4 _ (s4.toStepS.trans (StepS.write s4.rel e1 ea p2 p3))⟩
end
end PT

set_option Elab.async false
set_option linter.all false
set_option maxRecDepth 100000
set_option autoImplicit false
namespace PT
open PySem PySem.Spec L2

/-! ### several values, new ones among them -/
inductive AFRes where
  | ok (ts : List (T × Bool)) (env : List Slot) | exc (x : Exc) (env : List Slot) | err
abbrev AF := List Slot → AFRes
def RRs (G : MC) (F' H' H : Hp) : List (T × Bool) → List V → Prop
  | [], vs => vs = []
  | p :: l, vs => ∃ v r, vs = v :: r ∧ RR G F' H' H p.1 p.2 v ∧ RRs G F' H' H l r ∧ (p.2 = true → ∀ (j : Nat) (q : T × Bool) (w : V), l[j]? = some q → r[j]? = some w → q.2 = true → w ≠ v)
def WishAF (G : MC) (env : List Slot) (σ : Sg) (F H : Hp) (r : AFRes) (Q : List V → Hp → Prop) (W : XK) : Prop :=
  match r with
  | .err => False
  | .ok ts env' => ∀ vs F' H', StepE G env σ F H env' F' H' → RRs G F' H' H ts vs → Q vs H'
  | .exc x env' => ∀ cls d F' H', StepE G env σ F H env' F' H' → XR G H H' x cls d → W cls d H'
def SndAF (G : MC) (sc : Scope) (N : List Str) (k : Nat) (es : List Expr) (f : AF) : Prop :=
  ∀ (X : Cx) (W : WX) (env : List Slot) (σ : Sg) (F H : Hp) (Q : List V → Hp → Prop), Gd G sc N k X → Takes X W → ER G env σ F H → WishAF G env σ F H (f env) Q (fun c d H' => W c d σ H') → WA X es σ H Q
def afNil : AF := fun env => .ok [] env
def afCons (f : E) (g : AF) : AF := fun env => match f env with
  | .ok t fr env1 => (match g env1 with
    | .ok ts env2 => .ok ((t, fr) :: ts) env2
    | r => r)
  | .exc x env1 => .exc x env1
  | .err => .err
theorem RR.step {G : MC} {env env' : List Slot} {σ : Sg} {F H F' H' H0 : Hp} {t : T} {fr : Bool} {v : V} (h0 : ER G env σ F H) (no : ∀ a, v = .ref a → fr = true → ¬ OwnA env σ a) (s : StepE G env σ F H env' F' H') (r : RR G F H H0 t fr v) : RR G F' H' H0 t fr v := by
  cases fr with
  | false => exact Rep.mono s.ext r
  | true =>
    obtain ⟨a, o, rfl, rfl, ⟨vs, h1, h2, h3, h4⟩, n⟩ := r
    have hno := no a rfl rfl
    refine ⟨a, o, rfl, rfl, ⟨vs, s.keepE _ _ h1 fun z => hno z.a, h2, h3.mono s.ext, ?_⟩, n⟩
    cases e : F' a with
    | none => rfl
    | some u =>
      rcases s.new a u e with z | z | z
      · rw [h4] at z; cases z
      · rw [h1] at z; cases z
      · exact absurd z hno
theorem RRs.back {G : MC} {F' H' H0 H : Hp} (k : ∀ b, H0 b ≠ none → H b ≠ none) : ∀ {l : List (T × Bool)} {vs : List V}, RRs G F' H' H l vs → RRs G F' H' H0 l vs
  | [], _, h => h
  | p :: l, _, h => by
    obtain ⟨v, r, e, h1, h2, h3⟩ := h
    exact ⟨v, r, e, h1.back k, RRs.back k h2, h3⟩
/-- new things of a later time: each fresh address was free -/
theorem RRs.fresh {G : MC} {F' H' H : Hp} : ∀ {l : List (T × Bool)} {vs : List V} {j : Nat} {q : T × Bool} {w : V}, RRs G F' H' H l vs → l[j]? = some q → vs[j]? = some w → q.2 = true → ∃ a, w = .ref a ∧ H a = none
  | [], _, _, _, _, _, e, _, _ => by simp at e
  | p :: l, _, 0, q, w, h, e, e2, hq => by
    obtain ⟨v, r, rfl, h1, _⟩ := h
    simp at e e2
    subst e e2
    rw [hq] at h1
    obtain ⟨a, o, h1, _, _, h2⟩ := h1
    exact ⟨a, h1, h2⟩
  | p :: l, _, j + 1, q, w, h, e, e2, hq => by
    obtain ⟨v, r, rfl, _, h2, _⟩ := h
    exact RRs.fresh (j := j) h2 (by simpa using e) (by simpa using e2) hq
section
variable {G : MC} {sc : Scope} {N : List Str} {k : Nat} {a b c : Expr} {es : List Expr} {fa fb fc : E} {ga : AF} {pos : Pos}
theorem snd_afNil : SndAF G sc N k [] afNil := fun X W env σ F H Q hd tk h0 q => ⟨_, pa_nil, q [] F H (.refl h0) rfl⟩
theorem snd_afCons (ha : SndE G sc N k a fa) (hr : SndAF G sc N k es ga) (hs : ∀ env, starEach (a :: es) env = (false, eval a env) :: starEach es env := by intro _; rfl) : SndAF G sc N k (a :: es) (afCons fa ga) := by
  intro X W env σ F H Q hd tk h0 q
  refine ⟨_, pa_cons pe_WE pa_WA (hs _), ?_⟩
  refine ha X W env σ F H _ hd tk h0 ?_
  unfold afCons at q
  cases e : fa env with
  | err => rw [e] at q; exact q
  | exc x env' => rw [e] at q; exact q
  | ok t fr env1 =>
    rw [e] at q
    dsimp only at q ⊢
    intro v F1 H1 s1 r1
    refine hr X W env1 σ F1 H1 _ hd tk s1.rel ?_
    cases e2 : ga env1 with
    | err => rw [e2] at q; exact q
    | exc x env2 =>
      rw [e2] at q
      exact fun c d F2 H2 s2 r2 => q c d F2 H2 (s1.trans s2) (r2.back s1.some_)
    | ok ts env2 =>
      rw [e2] at q
      intro vs F2 H2 s2 r2
      refine q (v :: vs) F2 H2 (s1.trans s2) ⟨v, vs, rfl, ?_, r2.back s1.some_, fun hfr j p w e1 e3 hq hw => ?_⟩
      · refine RR.step (env := env1) s1.rel (fun ad ev hf z => ?_) s2 r1
        subst hf
        obtain ⟨a', o, e4, _, _, n⟩ := r1
        rw [ev] at e4
        cases e4
        obtain ⟨_, u, e⟩ := h0.ownA (s1.ownE _ z)
        rw [n] at e
        cases e
      · obtain ⟨ad, e4, n⟩ := r2.fresh e1 e3 hq
        rw [e4] at hw
        subst hfr
        obtain ⟨a', o, e5, _, ⟨_, e6, _⟩, _⟩ := r1
        rw [e5] at hw
        cases hw
        rw [n] at e6
        cases e6
end

/-! ### names = values -/
def putMany : List Nat → List (T × Bool) → List Slot → Option (List Slot)
  | [], [], env => some env
  | i :: is, p :: ts, env => (put false i p.1 p.2 env).bind (putMany is ts)
  | _, _, _ => none
def setMany : Sg → List Nat → List V → Sg
  | σ, i :: is, v :: vs => setMany (σ.set i (some v)) is vs
  | σ, _, _ => σ
/-- what a store wants of a value -/
def Fits (G : MC) (env : List Slot) (σ : Sg) (F H : Hp) (t : T) : Bool → V → Prop
  | false, v => Rep G F t v
  | true, v => ∃ a o, v = .ref a ∧ t = o.t ∧ OwnAt G F H o a ∧ ¬ OwnA env σ a
theorem putMany_ok {G : MC} {F H H0 : Hp} : ∀ {is : List Nat} {ts : List (T × Bool)} {vs : List V} {env env' : List Slot} {σ : Sg}, ER G env σ F H → RRs G F H H0 ts vs →
    (∀ (j : Nat) (q : T × Bool) (w : V) (a : Addr), ts[j]? = some q → vs[j]? = some w → q.2 = true → w = .ref a → ¬ OwnA env σ a) → putMany is ts env = some env' →
    ER G env' (setMany σ is vs) F H ∧ (∀ b, OwnA env' (setMany σ is vs) b → OwnA env σ b ∨ H0 b = none) ∧ (∀ (j : Nat) (o : OT), env[j]? = some (.own true o) → env'[j]? = some (.own true o) ∧ (setMany σ is vs)[j]? = σ[j]?) ∧ env'.length = env.length
  | [], [], vs, env, env', σ, h0, r, no, e => by
    have : vs = [] := r
    subst this
    cases e
    exact ⟨h0, fun b q => .inl q, fun j o q => ⟨q, rfl⟩, rfl⟩
  | [], _ :: _, _, _, _, _, _, _, _, e => by cases e
  | _ :: _, [], _, _, _, _, _, _, _, e => by cases e
  | i :: is, p :: ts, vs, env, env', σ, h0, r, no, e => by
    obtain ⟨v, vr, rfl, r1, r2, r3⟩ := r
    have e : (put false i p.1 p.2 env).bind (putMany is ts) = some env' := e
    cases e1 : put false i p.1 p.2 env with
    | none => rw [e1] at e; cases e
    | some env1 =>
    rw [e1] at e
    have e : putMany is ts env1 = some env' := e
    have w : Fits G env σ F H p.1 p.2 v := by
      cases hf : p.2 with
      | false => rw [hf] at r1; exact r1
      | true =>
        rw [hf] at r1
        obtain ⟨a, o, z1, z2, z3, z4⟩ := r1
        exact ⟨a, o, z1, z2, z3, no 0 p v a rfl rfl hf z1⟩
    obtain ⟨p1, p2, p3, p4⟩ := StepS.put (v := v) h0 (by
      cases hf : p.2 with
      | false => rw [hf] at w; exact w
      | true => rw [hf] at w; exact w) e1
    obtain ⟨q1, q2, q3, q4⟩ := putMany_ok (H0 := H0) (vs := vr) p1 r2 (fun j q wv a z1 z2 z3 z4 z5 => by
      rcases p2 a z5 with z | ⟨hf, z⟩
      · exact no (j + 1) q wv a (by simpa using z1) (by simpa using z2) z3 z4 z
      · exact r3 hf j q wv z1 z2 z3 (z4.trans z.symm)) e
    refine ⟨q1, fun b z => ?_, fun j o z => ?_, q4.trans p4⟩
    · rcases q2 b z with z | z
      · rcases p2 b z with z | ⟨hf, z⟩
        · exact .inl z
        · rw [hf] at r1
          obtain ⟨a, o, z1, _, _, z4⟩ := r1
          rw [z] at z1
          cases z1
          exact .inr z4
      · exact .inr z
    · obtain ⟨z1, z2⟩ := p3 j o z
      obtain ⟨z3, z4⟩ := q3 j o z1
      exact ⟨z3, z4.trans z2⟩
def sPar (is : List Nat) (a : AF) : S := fun env => match a env with
  | .ok ts env' => (match putMany is ts env' with
    | some env2 => .nx env2
    | none => .err)
  | .exc x env' => .exc x env'
  | .err => .err
section
variable {G : MC} {sc : Scope} {N : List Str} {k : Nat} {a b c : Expr} {es : List Expr} {ga : AF} {pos : Pos}
theorem par_aux {X : Cx} {W : WX} {env : List Slot} {σ : Sg} {F H : Hp} {D : Ends} {is : List Nat} (ha : SndAF G sc N k es ga) (hd : GdS G sc N k X) (tk : Takes X W) (h0 : ER G env σ F H) (q : WishS G env σ F H (sPar is ga env) D W) {Q : List V → Hp → Prop}
    (hQ : ∀ vs ts F' H', RRs G F' H' H ts vs → Frz F' H' → ts.length = is.length → (∀ H2, (H2 = H' ∨ ∃ p o, H' p = none ∧ H2 = upd H' p o) → D.nx (setMany σ is vs) H2) → Q vs H') : WA X es σ H Q := by
  refine ha X W env σ F H _ hd.toGd tk h0 ?_
  unfold sPar at q
  cases e : ga env with
  | err => rw [e] at q; exact q
  | exc x env' =>
    rw [e] at q
    exact fun c d F' H' s r => q c d σ F' H' s.toStepS r
  | ok ts env1 =>
  rw [e] at q
  intro vs F1 H1 s r
  dsimp only at q
  cases e2 : putMany is ts env1 with
  | none => rw [e2] at q; exact q.elim
  | some env2 =>
  rw [e2] at q
  have hl : ∀ {is : List Nat} {ts : List (T × Bool)} {env env' : List Slot}, putMany is ts env = some env' → ts.length = is.length := by
    intro is
    induction is with
    | nil =>
      intro ts env env' e
      cases ts with
      | nil => rfl
      | cons => cases e
    | cons i is ih =>
      intro ts env env' e
      cases ts with
      | nil => cases e
      | cons p ts =>
        have e : (put false i p.1 p.2 env).bind (putMany is ts) = some env' := e
        cases e1 : put false i p.1 p.2 env with
        | none => rw [e1] at e; cases e
        | some env1 =>
          rw [e1] at e
          simp [ih e]
  refine hQ vs ts F1 H1 r s.rel.frz (hl e2) fun H2 hh => ?_
  have nown : ∀ (j : Nat) (q : T × Bool) (w : V) (a : Addr), ts[j]? = some q → vs[j]? = some w → q.2 = true → w = .ref a → ¬ OwnA env1 σ a := fun j p w a z1 z2 z3 z4 z5 => by
    obtain ⟨a', e3, n⟩ := r.fresh z1 z2 z3
    rw [z4] at e3
    cases e3
    obtain ⟨_, u, e⟩ := h0.ownA (s.ownE _ z5)
    rw [n] at e
    cases e
  obtain ⟨p1, p2, p3, p4⟩ := putMany_ok (H0 := H) s.rel r nown e2
  have st : StepS G env σ F H env2 (setMany σ is vs) F1 H1 :=
    { rel := p1, ext := s.ext, new := s.new, keep := s.keep, some_ := s.some_, own := fun b z => (p2 b z).elim (fun z => s.own b z) .inr, io := fun j o z => by
        obtain ⟨⟨o', e'⟩, _⟩ := s.io j o z
        obtain ⟨z1, z2⟩ := p3 j o' e'
        exact ⟨⟨o', z1⟩, z2⟩, len := p4.trans s.len }
  rcases hh with rfl | ⟨pp, o, hn, rfl⟩
  · exact q _ F1 _ st
  · exact q _ F1 _ (st.trans (StepE.of_grow st.rel (Grow.mk1 st.rel.frz hn)).toStepS)
theorem nodup2 {i j : Nat} (h : decide (i ≠ j) = true) : i ≠ j := of_decide_eq_true h
theorem snd_par2 {i j : Nat} {x y : Str} {px py pt : Pos} {kt k2 : Nat} {pt2 : Pos} (hi : N[i]? = some x) (hj : N[j]? = some y) (hij : decide (i ≠ j) = true) (hx : sc.names.lookup x = some .local) (hy : sc.names.lookup y = some .local) (ha : SndAF G sc N k [a, b] ga)
    (hw : ∀ env : Env, env.scope = sc → swappedStores [.Tuple [.Name x px, .Name y py] kt pt] (.Tuple [a, b] k2 pt2) env = pure (some [x, y]))
    (hs : ∀ env, swapsWithSole [.Tuple [.Name x px, .Name y py] kt pt] (.Tuple [a, b] k2 pt2) pos.line env = pure false := by intro _; rfl) :
    SndS G sc N k (.Assign [.Tuple [.Name x px, .Name y py] kt pt] (.Tuple [a, b] k2 pt2) pos) (sPar [i, j] ga) := by
  intro X W env σ F H D hd tk h0 q
  refine .of (ps_par hd.calm (by rw [hd.NE]; exact hd.nd) (by rw [hd.NE]; exact hi) (by rw [hd.NE]; exact hj) (nodup2 hij) (by rw [hd.same]; exact hx) (by rw [hd.same]; exact hy) pa_WA (hw _ hd.same) (hs _)) ?_
  refine par_aux ha hd tk h0 q fun vs ts F' H' r f hl fin => ?_
  match ts, vs, hl, r with
  | [p1, p2], _, _, ⟨v1, _, rfl, _, ⟨v2, _, rfl, _, rfl, _⟩, _⟩ => exact ⟨v1, v2, rfl, fin H' (.inl rfl)⟩
theorem snd_par3 {i j l : Nat} {x y z : Str} {px py pz pt : Pos} {kt k2 : Nat} {pt2 : Pos} (hi : N[i]? = some x) (hj : N[j]? = some y) (hl : N[l]? = some z) (hij : decide (i ≠ j) = true) (hil : decide (i ≠ l) = true) (hjl : decide (j ≠ l) = true) (hx : sc.names.lookup x = some .local) (hy : sc.names.lookup y = some .local)
    (hz : sc.names.lookup z = some .local) (ha : SndAF G sc N k [a, b, c] ga)
    (hw : ∀ env : Env, env.scope = sc → swappedStores [.Tuple [.Name x px, .Name y py, .Name z pz] kt pt] (.Tuple [a, b, c] k2 pt2) env = pure (some [x, y, z]))
    (hs : ∀ env, swapsWithSole [.Tuple [.Name x px, .Name y py, .Name z pz] kt pt] (.Tuple [a, b, c] k2 pt2) pos.line env = pure false := by intro _; rfl) :
    SndS G sc N k (.Assign [.Tuple [.Name x px, .Name y py, .Name z pz] kt pt] (.Tuple [a, b, c] k2 pt2) pos) (sPar [i, j, l] ga) := by
  intro X W env σ F H D hd tk h0 q
  refine .of (ps_par3 hd.calm (by rw [hd.NE]; exact hd.nd) (by rw [hd.NE]; exact hi) (by rw [hd.NE]; exact hj) (by rw [hd.NE]; exact hl) (nodup2 hij) (nodup2 hil) (nodup2 hjl) (by rw [hd.same]; exact hx) (by rw [hd.same]; exact hy) (by rw [hd.same]; exact hz) pa_WA (hw _ hd.same) (hs _)) ?_
  refine par_aux ha hd tk h0 q fun vs ts F' H' r f hl fin => ?_
  match ts, vs, hl, r with
  | [p1, p2, p3], _, _, ⟨v1, _, rfl, _, ⟨v2, _, rfl, _, ⟨v3, _, rfl, _, rfl, _⟩, _⟩, _⟩ => exact ⟨v1, v2, v3, rfl, fin H' (.inl rfl)⟩
/-- any number of names, stored through a tuple -/
def tNames : List Nat → TGs
  | [] => gNil
  | i :: is => gCons (gName i) (tNames is)
inductive Names' (sc : Scope) (N : List Str) : List Expr → List Nat → Prop
  | nil : Names' sc N [] []
  | cons {x : Str} {p : Pos} {i : Nat} {es : List Expr} {is : List Nat} (hi : N[i]? = some x) (hx : locB sc x = true) (r : Names' sc N es is) : Names' sc N (.Name x p :: es) (i :: is)
theorem pgs_names {X : Cx} (hd : GdS G sc N k X) : ∀ {es : List Expr} {is : List Nat}, Names' sc N es is → PGs X es (tNames is)
  | _, _, .nil => pgs_nil
  | _, _, .cons hi hx r => pgs_cons (pg_name (by rw [hd.NE]; exact hd.nd) (by rw [hd.NE]; exact hi) (by rw [hd.same]; exact loc_of hx) (.inl (hd.fn _))) (pgs_names hd r) rfl
theorem tNames_ok : ∀ {is : List Nat} {vs : List V} {σ : Sg} {H : Hp} {Q : Sg → Hp → Prop}, vs.length = is.length → Q (setMany σ is vs) H → tNames is vs σ H Q
  | [], [], _, _, _, _, q => ⟨rfl, q⟩
  | [], _ :: _, _, _, _, h, _ => by cases h
  | _ :: _, [], _, _, _, h, _ => by cases h
  | i :: is, v :: vs, σ, H, Q, h, q => ⟨v, vs, rfl, tNames_ok (by simpa using h) q⟩
theorem RRs.len {F' H' H : Hp} : ∀ {l : List (T × Bool)} {vs : List V}, RRs G F' H' H l vs → vs.length = l.length
  | [], _, h => by rw [show _ = [] from h]; rfl
  | p :: l, _, h => by
    obtain ⟨v, r, rfl, _, h2, _⟩ := h
    simp [RRs.len h2]
theorem snd_parN {ns : List Expr} {is : List Nat} {kt k2 : Nat} {pt pt2 : Pos} {n : Nat} (hn : Names' sc N ns is) (hln : is.length = n) (hz : n ≤ 100) (ha : SndAF G sc N k es ga) (hw : ∀ env : Env, env.scope = sc → swappedStores [.Tuple ns kt pt] (.Tuple es k2 pt2) env = pure none)
    (hs : ∀ env, swapsWithSole [.Tuple ns kt pt] (.Tuple es k2 pt2) pos.line env = pure false := by intro _; rfl) (h1 : ∀ env, (assignEach [.Tuple ns kt pt] env).map (·.2) = [assign (.Tuple ns kt pt) env] := by intro _; rfl)
    (hnn : ∀ env, (assignEach ns env).length = n := by intro _; rfl) (hst : ∀ env, (assignEach ns env).findIdx? (·.1) = none := by intro _; rfl) :
    SndS G sc N k (.Assign [.Tuple ns kt pt] (.Tuple es k2 pt2) pos) (sPar is ga) := by
  intro X W env σ F H D hd tk h0 q
  refine .of (ps_asg (pe_tup pa_WA) (pg_tup hd.calm (pgs_names hd hn) (hnn _) (hst _)) (hs _) (hw _ hd.same) (h1 _)) ?_
  refine par_aux ha hd tk h0 q fun vs ts F' H' r f hl fin => ?_
  have hv : vs.length = n := by rw [r.len, hl, hln]
  refine ⟨by rw [hv]; exact Nat.le_trans hz (by decide), fun p np => ?_⟩
  exact ⟨p, vs, rfl, .inl (.inl upd_same), hv, tNames_ok (by rw [hv, hln]) (fin _ (.inr ⟨p, _, np, rfl⟩))⟩
end
end PT

set_option Elab.async false
set_option linter.all false
set_option maxRecDepth 100000
set_option autoImplicit false
namespace PT
open PySem PySem.Spec L2

/-! ### errors -/
structure ExM (G : MC) (C : Addr) : Prop where
  g : G.mg "Malformed" = some (.ref C)
  x : PySem.W.excIn G.K C He.veBase "ValueError.__new__" = true
  kp : PySem.W.keepIn G.K (.ref C) = true
  b : PySem.W.subIn G.K (.ref C) (.type "BaseException") = some true
  t : PySem.W.typeIn G.K (.ref C) = some (.type "type")
  self : PySem.W.exmOne G.K (.ref C) (.ref C) = some true
structure ExR (G : MC) (CM CR : Addr) : Prop where
  g : G.mg "Refused" = some (.ref CR)
  self : PySem.W.exmOne G.K (.ref CR) (.ref CR) = some true
  mr : PySem.W.exmOne G.K (.ref CM) (.ref CR) = some false
  rm : PySem.W.exmOne G.K (.ref CR) (.ref CM) = some false
  xf : XfC G.K CR
  no : PySem.W.findIn G.K (.ref CR) "reason" = some none
def sExc (x : Exc) : S := fun env => .exc x env
section
variable {G : MC} {sc : Scope} {N : List Str} {k : Nat} {pos p p2 p3 : Pos}
theorem snd_raiseM {C : Addr} {m : Str} {j : Nat} (ex : ExM G C) (hg : glB sc "Malformed" = true) : SndS G sc N k (.Raise (some (.Call (.Name "Malformed" p) [.Constant (.str m) j p2] [] p3)) none pos) (sExc .mal) := by
  intro X W env σ F H D hd tk h0 q
  have e := hd.mcE
  subst e
  refine .of (ps_raise hd.calm tk (pmk_own PySem.F.excBase_ValueError ex.x ex.g ex.kp (raises_own ex.b ex.t) (gl_of hd.toGd hg))) ?_
  exact q _ _ σ F H (StepE.refl h0).toStepS ⟨C, ex.g, rfl, rfl⟩
end

/-! ### try: several clauses, named or not -/
section
variable {X : Cx}
/-- one clause: its class, the slot of its name, its suite's reading -/
inductive Hdl (X : Cx) : ExceptHandler → Value → Option Nat → (Addr → Value → Option Addr → TS) → Prop
  | bare {x : Str} {c : Value} {ts : Addr → Value → Option Addr → TS} {b₀ : Stmt} {suite : List Stmt} {np pos' : Pos} (hc : Names X x c)
      (hsu : ∀ (a : Addr) (oe : Obj) (cls : Value) (d : Option Addr) (pn : List (Addr × Obj)), Zc cls d oe → (∃ vs, oe.data = .fields vs) → PSs (X.suite a ((a, oe) :: pn)) (b₀ :: suite) (ts a cls d)) :
      Hdl X (.ExceptHandler (some (.Name x np)) none (b₀ :: suite) pos') c none ts
  | named {x n : Str} {c : Value} {i : Nat} {ts : Addr → Value → Option Addr → TS} {b₀ : Stmt} {suite : List Stmt} {np pos' : Pos} (hc : Names X x c) (hi : X.N[i]? = some n) (hln : X.env.kindOf n = some .local)
      (hsu : ∀ (a : Addr) (oe : Obj) (cls : Value) (d : Option Addr) (pn : List (Addr × Obj)), Zc cls d oe → (∃ vs, oe.data = .fields vs) → PSs (X.suite a ((a, oe) :: pn)) (b₀ :: suite) (ts a cls d)) :
      Hdl X (.ExceptHandler (some (.Name x np)) (some n) (b₀ :: suite) pos') c (some i) ts
inductive Hdls (X : Cx) : List ExceptHandler → List (Value × Option Nat × (Addr → Value → Option Addr → TS)) → Prop
  | nil : Hdls X [] []
  | cons {h : ExceptHandler} {c : Value} {o : Option Nat} {ts : Addr → Value → Option Addr → TS} {hs : List ExceptHandler} {l : List (Value × Option Nat × (Addr → Value → Option Addr → TS))} (h1 : Hdl X h c o ts) (r : Hdls X hs l) : Hdls X (h :: hs) ((c, o, ts) :: l)
/-- the ends behind a named clause: its name is gone -/
def unset (D : Ends) (i : Nat) : Ends := { nx := fun σ' H' => D.nx (σ'.set i none) H', rt := D.rt, bk := fun σ' H' => D.bk (σ'.set i none) H', ct := fun σ' H' => D.ct (σ'.set i none) H' }
def wTry (K : PySem.W.Frag) (Wout : WX) (D : Ends) : List (Value × Option Nat × (Addr → Value → Option Addr → TS)) → WX
  | [] => Wout
  | (c, none, ts) :: r => fun cls d σ H => ∃ b, PySem.W.exmOne K cls c = some b ∧ (b = true → ∀ a, H a = none → ts a cls d D σ H) ∧ (b = false → wTry K Wout D r cls d σ H)
  | (c, some i, ts) :: r => fun cls d σ H => ∃ b, PySem.W.exmOne K cls c = some b ∧ (b = true → ∀ a, H a = none → ts a cls d (unset D i) (σ.set i (some (.ref a))) H) ∧ (b = false → wTry K Wout D r cls d σ H)
/-- a suite's end, seen from the def -/
theorem suite_end {pins : List (Addr × Obj)} {a : Addr} {oe : Obj} {D : Ends} {f : Flow} {s' : Shared} (ok : X.Ok) (h : SP (X.suite a ((a, oe) :: (X.pn ++ pins))) [] D f s') : SP X pins D f s' := by
  cases f with
  | ret u =>
    obtain ⟨w, t6, g6, J6, hr, hq⟩ := h
    exact ⟨w, t6, g6, J6.unsuite ok, hr, hq⟩
  | next =>
    obtain ⟨t6, g6, J6, hq⟩ := h
    exact ⟨t6, g6, J6.unsuite ok, hq⟩
  | brk =>
    obtain ⟨t6, g6, J6, hq⟩ := h
    exact ⟨t6, g6, J6.unsuite ok, hq⟩
  | cont =>
    obtain ⟨t6, g6, J6, hq⟩ := h
    exact ⟨t6, g6, J6.unsuite ok, hq⟩
theorem try_body_end {pins : List (Addr × Obj)} {D : Ends} {f : Flow} {s' : Shared} {xe : Value → Shared → Prop} (ok : X.Ok) (h : SP (X.tr (X.pn ++ pins) xe) [] D f s') : SP X pins D f s' := by
  cases f with
  | ret u =>
    obtain ⟨w, t6, g6, J6, hr, hq⟩ := h
    exact ⟨w, t6, g6, J6.ofTry ok, hr, hq⟩
  | next =>
    obtain ⟨t6, g6, J6, hq⟩ := h
    exact ⟨t6, g6, J6.ofTry ok, hq⟩
  | brk =>
    obtain ⟨t6, g6, J6, hq⟩ := h
    exact ⟨t6, g6, J6.ofTry ok, hq⟩
  | cont =>
    obtain ⟨t6, g6, J6, hq⟩ := h
    exact ⟨t6, g6, J6.ofTry ok, hq⟩
theorem ps_try_any {body : List Stmt} {h₀ : ExceptHandler} {hds : List ExceptHandler} {l : List (Value × Option Nat × (Addr → Value → Option Addr → TS))} {pos : Pos} {tb : WX → TS} {Wout : WX} (hN : X.N.Nodup) (hs : X.stack = X.env :: X.outer) (hf : X.env.frame = some X.env.locals) (tk : Takes X Wout)
    (hb : ∀ (W : WX) (pn : List (Addr × Obj)) (xe : Value → Shared → Prop), Takes (X.tr pn xe) W → PassesOwn (model X.prog X.w) X.A X.env xe → PSs (X.tr pn xe) body (tb W)) (hh : Hdls X (h₀ :: hds) l) :
    PS X (.Try body (h₀ :: hds) [] [] pos) (fun D σ H => tb (wTry X.K Wout D l) D σ H) := by
  constructor
  intro pins s σ H D I hw
  have ok := I.ok
  have frs_eq : X.A.frames = some (X.env :: X.outer) := ok.frames.trans (congrArg some hs)
  apply wpAny_Try_except
  have run := (hb (wTry X.K Wout D l) (X.pn ++ pins) (fun e t₁ => wpAny (model X.prog X.w) X.A (noteFrame e X.env) (fun _ t₂ => wpAny (model X.prog X.w) X.A (setFlight e none) (fun _ t₃ =>
    wpAny (model X.prog X.w) X.A (handleBy e X.env (h₀ :: hds)) (SP X pins D) X.xe t₃) X.xe t₂) X.xe t₁) ?takes PassesOwn.looking).run [] s σ H D (I.toTry _) hw
  case takes =>
    rintro u t ⟨a, B, tI, pins', σ', H', cls, d, rfl, Jt, nb, up, sky, na, os, ag, wish⟩
    have J : Inv X pins σ' H' tI := Jt.ofTry ok
    rw [show (X.tr (X.pn ++ pins) _).stack = X.env :: X.outer from hs] at sky
    have nb' : ∀ b o, tI.heap.get? b = some o → b ∉ frs X.stack → B.get? b = some o := nb
    show wpAny (model X.prog X.w) X.A (noteFrame (.ref a) X.env) _ _ _
    apply Sky.land Zc.steady frs_eq hf sky
    intro g3 fly3 up3
    have J3 : Inv X pins σ' H' { t with heap := g3 } := J.landed nb' fly3.1 (up.trans up3) os ag
    obtain ⟨o3, v3, get3, z3, dat3⟩ := fly3.there
    have out : a ∉ frs (X.env :: X.outer) := fun hm => by
      obtain ⟨_, o', e', hnf⟩ := fly3.2.2.1.mem hm
      rw [get3] at e'
      cases e'
      exact hnf _ dat3
    have outL : a ≠ X.env.locals := fun z => out (List.mem_filterMap.mpr ⟨X.env, List.mem_cons_self, by rw [hf, z]⟩)
    have outF : a ∉ X.fs := fun hm => by
      obtain ⟨v, hv, q⟩ := List.mem_filterMap.mp hm
      exact out (List.mem_filterMap.mpr ⟨v, List.mem_cons_of_mem _ hv, q⟩)
    have S3 := J3.suite get3 dat3 na outL outF
    have look : PySem.W.Looks (model X.prog X.w) g3 (typeOf (.ref a)) cls := fun A Q E s k q => wpAny_typeOf_ref (k _ _ get3) (by rw [z3.1]; exact q)
    have named : ∀ {x : Str} {c : Value} {np : Pos} {Q : Value → Shared → Prop} {E : Value → Shared → Prop}, Names X x c → Q c { t with heap := g3 } → wpAny (model X.prog X.w) (X.A.mark (some (.ref a))) (eval (.Name x np) X.env) Q E { t with heap := g3 } := fun {x c np Q E} hc q => by
      obtain ⟨hg, hdb, hm | ⟨hm, hv, hnn⟩⟩ := hc
      · exact ld_glob (X := X.suite a ((a, o3) :: (X.pn ++ pins))) S3 hg hm q hdb
      · exact ld_blt (X := X.suite a ((a, o3) :: (X.pn ++ pins))) S3 hg hm hv q hnn hdb
    have go : ∀ {hs' : List ExceptHandler} {l' : List (Value × Option Nat × (Addr → Value → Option Addr → TS))}, Hdls X hs' l' → wTry X.K Wout D l' cls d σ' H' →
        wpAny (model X.prog X.w) X.A (handleBy (.ref a) X.env hs') (SP X pins D) X.xe { t with heap := g3 } := by
      intro hs' l' hk
      induction hk with
      | nil =>
        intro wo
        apply wpAny_handleBy_nil
        obtain ⟨_, _, _, o4, v4, T4, _, _, get4, _, dat4, at1, _⟩ := id fly3
        unfold PySem.passOn
        apply wpAny_bind
        apply wpAny_field get4 dat4 at1
        rw [if_neg (show ¬ ((Value.ref T4 == Value.none) = true) from by simp)]
        have last : wpAny (model X.prog X.w) X.A (setFlight (.ref a) X.env.frame) (fun _ t4 => wpAny (model X.prog X.w) X.A (throw (.ref a) : Sem Flow) (SP X pins D) X.xe t4) X.xe { t with heap := g3 } := by
          rw [hf]
          apply HandSPX.setFlight_upZ fly3
          intro g4 held4 up4
          apply wpAny_throw
          apply tk
          exact ⟨a, B, tI, pins, σ', H', cls, d, rfl, J, nb', (up.trans up3).trans up4, .inr (.inr (by rw [hs]; exact held4)), na, os, ag, wo⟩
        first
          | exact wpAny_bind (wpAny_pure (wpAny_bind last))
          | exact wpAny_bind last
      | @cons h c o ts hs2 l2 h1 r ih =>
        intro wo
        cases h1 with
        | bare hc hsu =>
          obtain ⟨b, hb1, yes, no⟩ := wo
          apply wpAny_handleBy_cons (codeAny_handlers_test ?_) (by intro q; cases q)
          apply named hc
          apply (PySem.W.exm_one (M := model X.prog X.w) J3.kIn look hb1).here
          cases b with
          | false => exact ih (no rfl)
          | true =>
            apply codeAny_handlers_suite
            apply HandSPX.lands_againZ fly3
            intro g4 fly4 up4
            have J4 : Inv X pins σ' H' { t with heap := g4 } := J.landed nb' fly4.1 ((up.trans up3).trans up4) os ag
            obtain ⟨o4, v4, get4, z4, dat4⟩ := fly4.there
            exact wpAny_mono ((hsu a o4 cls d (X.pn ++ pins) z4 ⟨_, dat4⟩).run [] _ _ H' _ (J4.suite get4 dat4 na outL outF) (yes rfl a na)) (fun f s6 hsp => suite_end ok hsp) (fun _ _ z => z.elim)
        | @named x n c i ts b₀ suite np pos' hc hi hln hsu =>
          obtain ⟨b, hb1, yes, no⟩ := wo
          apply wpAny_handleBy_cons (codeAny_handlers_test ?_) (by intro q; cases q)
          apply named hc
          apply (PySem.W.exm_one (M := model X.prog X.w) J3.kIn look hb1).here
          cases b with
          | false => exact ih (no rfl)
          | true =>
            apply codeAny_handlers_suite_as
            apply HandSPX.lands_againZ fly3
            intro g4 fly4 up4
            have J4 : Inv X pins σ' H' { t with heap := g4 } := J.landed nb' fly4.1 ((up.trans up3).trans up4) os ag
            obtain ⟨o4, v4, get4, z4, dat4⟩ := fly4.there
            apply store_ok (X := X.suite a ((a, o4) :: (X.pn ++ pins))) (v := .ref a) (J4.suite get4 dat4 na outL outF) hN hi (.inl hln) rfl ?_ (.inr hln)
            intro t5 S5
            refine wpAny_mono ((hsu a o4 cls d (X.pn ++ pins) z4 ⟨_, dat4⟩).run [] t5 _ H' _ S5 (yes rfl a na)) (fun f s6 hsp => ?_) (fun _ _ z => z.elim)
            have gone : ∀ {σ6 : Sg} {H6 : Hp} {Q : Shared → Prop}, Inv (X.suite a ((a, o4) :: (X.pn ++ pins))) [] σ6 H6 s6 → (∀ s7, Inv X pins (σ6.set i none) H6 s7 → Q s7) →
                wpAny (model X.prog X.w) X.A (do bindName X.env n .none; unbindBehindTheSuite X.env n pos') (fun _ s7 => Q s7) X.xe s6 := fun {σ6 H6 Q} S6 hq => gone_ok (S6.unsuite ok) hN hi hln hq
            cases f with
            | next =>
              obtain ⟨t6, g6, S6, q6⟩ := hsp
              exact gone S6 fun s7 J7 => ⟨_, _, J7, q6⟩
            | brk =>
              obtain ⟨t6, g6, S6, q6⟩ := hsp
              exact gone S6 fun s7 J7 => ⟨_, _, J7, q6⟩
            | cont =>
              obtain ⟨t6, g6, S6, q6⟩ := hsp
              exact gone S6 fun s7 J7 => ⟨_, _, J7, q6⟩
            | ret u =>
              obtain ⟨w6, t6, g6, S6, r6, q6⟩ := hsp
              exact gone S6 fun s7 J7 => ⟨_, _, _, J7, r6, q6⟩
    exact go hh wish
  refine wpAny_mono run (fun f s1 hsp => ?_) fun _ _ he => he
  have z := try_body_end ok hsp
  cases f with
  | next => exact wpAny_execs_nil z
  | brk => exact z
  | cont => exact z
  | ret v => exact z
end
end PT

set_option Elab.async false
set_option linter.all false
set_option maxRecDepth 100000
set_option autoImplicit false
namespace PT
open PySem PySem.Spec L2

/-! ### try .. except Malformed: return .. except Refused as e: return .. -/
inductive Hk where
  | mal (t : T) | rsn (i : Nat) (f : Str → Option T)
def handle (n : Nat) : List Hk → Exc → Option (Option T)
  | [], _ => none
  | .mal t :: _, .mal => some (some t)
  | .rsn i f :: _, .rsn s => if i < n then some (f s) else some none
  | .mal _ :: r, x => handle n r x
  | .rsn _ _ :: r, x => handle n r x
def sTry (hs : List Hk) (b : S) : S := fun env => match b env with
  | .exc x env' => (match handle env'.length hs x with
    | some (some t) => .ret t false env'
    | some none => .err
    | none => .exc x env')
  | o => o
/-- a value that stands without the heap -/
def flat : T → Option V
  | .non => some .non
  | .bl b => some (.bl b)
  | .int i => some (.int i)
  | .str x => some (.str x)
  | _ => none
theorem flat_rep {G : MC} {F : Hp} {t : T} {v : V} (h : flat t = some v) : Rep G F t v := by
  cases t <;> first | (cases h; simp [Rep]) | cases h
/-- a suite that hands back a constant; the error's reason .. -/
structure SuiteC (X : Cx) (suite : List Stmt) (t : T) : Prop where
  run : ∃ v, flat t = some v ∧ ∀ (a : Addr) (oe : Obj) (pn : List (Addr × Obj)), PSs (X.suite a ((a, oe) :: pn)) suite (tRet (tC v))
structure SuiteR (X : Cx) (CR : Addr) (i : Nat) (suite : List Stmt) (f : Str → Option T) : Prop where
  run : ∀ (a : Addr) (oe : Obj) (cls : Value) (d : Option Addr) (pn : List (Addr × Obj)), Zc cls d oe → (∃ vs, oe.data = .fields vs) → PSs (X.suite a ((a, oe) :: pn)) suite (fun D σ H => σ[i]? = some (some (.ref a)) ∧ cls = .ref CR ∧
    ∃ (dd : Addr) (fs : List (Str × V)) (s : Str) (t : T) (v : V), d = some dd ∧ H dd = some (.xd fs) ∧ fs.lookup ("reason" : Str) = some (.str s) ∧ f s = some t ∧ flat t = some v ∧ D.rt v H)
/-- one clause -/
inductive HkOk (G : MC) (CM CR : Addr) (sc : Scope) (N : List Str) : ExceptHandler → Hk → Prop
  | mal {np pos' : Pos} {b₀ : Stmt} {suite : List Stmt} {t : T} (hg : glB sc "Malformed" = true) (hs : ∀ X : Cx, X.N = N → SuiteC X (b₀ :: suite) t) : HkOk G CM CR sc N (.ExceptHandler (some (.Name "Malformed" np)) none (b₀ :: suite) pos') (.mal t)
  | rsn {np pos' : Pos} {n : Str} {i : Nat} {b₀ : Stmt} {suite : List Stmt} {f : Str → Option T} (hg : glB sc "Refused" = true) (hi : N[i]? = some n) (hl : sc.names.lookup n = some .local)
      (hs : ∀ X : Cx, X.N = N → X.K = G.K → XfC G.K CR → PySem.W.findIn G.K (.ref CR) "reason" = some none → X.env.scope = sc → SuiteR X CR i (b₀ :: suite) f) (hfl : ∀ s t, f s = some t → ∃ v, flat t = some v) :
      HkOk G CM CR sc N (.ExceptHandler (some (.Name "Refused" np)) (some n) (b₀ :: suite) pos') (.rsn i f)
inductive HksOk (G : MC) (CM CR : Addr) (sc : Scope) (N : List Str) : List ExceptHandler → List Hk → Prop
  | nil : HksOk G CM CR sc N [] []
  | cons {h : ExceptHandler} {o : Hk} {hs : List ExceptHandler} {l : List Hk} (h1 : HkOk G CM CR sc N h o) (r : HksOk G CM CR sc N hs l) : HksOk G CM CR sc N (h :: hs) (o :: l)
section
variable {G : MC} {sc : Scope} {N : List Str} {k : Nat} {pos p p2 p3 : Pos} {CM CR : Addr}
def anyR : List Hk → Bool
  | [] => false
  | .rsn _ _ :: _ => true
  | _ :: r => anyR r
/-- the clauses' readings, and what they are wished to take -/
theorem hks_read {X : Cx} {D : Ends} {W : WX} (exM : ExM G CM) (exR : ExR G CM CR) (hm : mc X = G) (hN : X.N = N) (hd : N.Nodup) (hsc : X.env.scope = sc) (gl : ∀ x, glB sc x = true → Gl X x) {env env' : List Slot} {σ : Sg} {F H : Hp} {x : Exc} :
    ∀ {hs : List ExceptHandler} {l : List Hk}, HksOk G CM CR sc N hs l → ∃ l', Hdls X hs l' ∧ ((match handle env'.length l x with
      | some (some t) => WishS G env σ F H (.ret t false env') D W
      | some none => False
      | none => WishS G env σ F H (.exc x env') D W) → ∀ cls d σ' F' H', StepS G env σ F H env' σ' F' H' → XR G H H' x cls d → wTry X.K W D l' cls d σ' H')
  | _, _, .nil => ⟨[], .nil, fun w cls d σ' F' H' s r => w cls d σ' F' H' s r⟩
  | _, _, .cons (l := lr) h1 hr => by
    obtain ⟨l', hl, ih⟩ := hks_read (D := D) (W := W) (env := env) (env' := env') (σ := σ) (F := F) (H := H) (x := x) exM exR hm hN hd hsc gl hr
    subst hm
    cases h1 with
    | @mal np pos' b₀ suite t hg hs =>
      obtain ⟨v, hv, run⟩ := (hs X hN).run
      refine ⟨(.ref CM, none, fun _ _ _ => tRet (tC v)) :: l', .cons (.bare ⟨gl _ hg, by decide, .inl exM.g⟩ fun a oe cls d pn _ _ => run a oe pn) hl, fun w cls d σ' F' H' s r => ?_⟩
      cases x with
      | mal =>
        obtain ⟨C, g, rfl, rfl⟩ := r
        rw [exM.g] at g
        cases g
        exact ⟨true, exM.self, fun _ a na => w v σ' F' H' s (flat_rep hv), fun z => nomatch z⟩
      | rsn rs =>
        have r' := r
        obtain ⟨C, dx, fs, g, rfl, rfl, h1, h2, h3⟩ := r
        rw [exR.g] at g
        cases g
        exact ⟨false, exR.rm, fun z => absurd z Bool.false_ne_true, fun _ => ih w _ _ σ' F' H' s r'⟩
    | @rsn np pos' n i b₀ suite f hg hi hlk hs hfl =>
      have run := (hs X hN rfl exR.xf exR.no hsc).run
      refine ⟨(.ref CR, some i, _) :: l', .cons (.named ⟨gl _ hg, by decide, .inl exR.g⟩ (by rw [hN]; exact hi) (by show X.env.scope.names.lookup n = _; rw [hsc]; exact hlk) run) hl, fun w cls d σ' F' H' s r => ?_⟩
      cases x with
      | mal =>
        have r' := r
        obtain ⟨C, g, rfl, rfl⟩ := r
        rw [exM.g] at g
        cases g
        exact ⟨false, exR.mr, fun z => absurd z Bool.false_ne_true, fun _ => ih w _ _ σ' F' H' s r'⟩
      | rsn rs =>
        obtain ⟨C, dx, fs, g, rfl, rfl, h1, h2, h3⟩ := r
        rw [exR.g] at g
        cases g
        refine ⟨true, exR.self, fun _ a na => ?_, fun z => nomatch z⟩
        have eh : handle env'.length (.rsn i f :: lr) (.rsn rs) = if i < env'.length then some (f rs) else some none := rfl
        rw [eh] at w
        by_cases hlt : i < env'.length
        case neg => rw [if_neg hlt] at w; exact w.elim
        rw [if_pos hlt] at w
        cases e : f rs with
        | none =>
          rw [e] at w
          exact w.elim
        | some t =>
          rw [e] at w
          obtain ⟨v, hv⟩ := hfl rs t e
          have hls : i < σ'.length := by rw [← s.rel.len]; exact hlt
          exact ⟨List.getElem?_set_self hls, rfl, dx, fs, rs, t, v, rfl, h1, h2, e, hv, w v σ' F' H' s (flat_rep hv)⟩
theorem GdS.tr {X : Cx} (hd : GdS G sc N k X) {pn : List (Addr × Obj)} {xe : Value → Shared → Prop} (h : PassesOwn (model X.prog X.w) X.A X.env xe) : GdS G sc N k (X.tr pn xe) :=
  ⟨⟨hd.mcE, hd.NE, hd.nd, hd.calm, hd.room, hd.scR⟩, h, hd.same, hd.fn, hd.stack, hd.frame⟩
theorem snd_try {body : List Stmt} {h₀ : ExceptHandler} {hds : List ExceptHandler} {l : List Hk} {fb : S} (exM : ExM G CM) (exR : ExR G CM CR) (hb : SndSs G sc N k body fb) (hh : HksOk G CM CR sc N (h₀ :: hds) l) : SndS G sc N k (.Try body (h₀ :: hds) [] [] pos) (sTry l fb) := by
  intro X W env σ F H D hd tk h0 q
  have key : ∃ l', Hdls X (h₀ :: hds) l' ∧ (∀ (x : Exc) (env' : List Slot), fb env = .exc x env' → ∀ cls d σ' F' H', StepS G env σ F H env' σ' F' H' → XR G H H' x cls d → wTry X.K W D l' cls d σ' H') := by
    unfold sTry at q
    cases e : fb env with
    | exc x env' =>
      rw [e] at q
      obtain ⟨l', h1, h2⟩ := hks_read (D := D) (W := W) (env := env) (env' := env') (σ := σ) (F := F) (H := H) (x := x) exM exR hd.mcE hd.NE hd.nd hd.same (fun x h => gl_of hd.toGd h) hh
      refine ⟨l', h1, fun x2 env2 e2 => ?_⟩
      cases e2
      refine h2 ?_
      dsimp only at q
      cases e3 : handle env'.length l x with
      | none => rw [e3] at q; exact q
      | some o =>
        rw [e3] at q
        cases o with
        | none => exact q.elim
        | some t => exact q
    | _ =>
      obtain ⟨l', h1, _⟩ := hks_read (D := D) (W := W) (env := env) (env' := env) (σ := σ) (F := F) (H := H) (x := .mal) exM exR hd.mcE hd.NE hd.nd hd.same (fun x h => gl_of hd.toGd h) hh
      exact ⟨l', h1, fun x env' z => nomatch z⟩
  obtain ⟨l', hl', wish⟩ := key
  refine .of (ps_try_any (tb := fun W' => fun D σ H => ∀ (pn : List (Addr × Obj)) (xe : Value → Shared → Prop), Takes (X.tr pn xe) W' → PassesOwn (model X.prog X.w) X.A X.env xe → WSs (X.tr pn xe) body D σ H) (by rw [hd.NE]; exact hd.nd) hd.stack hd.frame tk
    (fun W' pn xe tk' ow => ⟨fun pins s σ H D I h => pss_WSs.run pins s σ H D I (h pn xe tk' ow)⟩) hl') ?_
  intro pn xe tk' ow
  refine hb _ _ env σ F H D (hd.tr ow) tk' h0 ?_
  unfold sTry at q
  cases e : fb env with
  | exc x env' => exact fun cls d σ' F' H' s r => wish x env' e cls d σ' F' H' s r
  | err => rw [e] at q; exact q
  | nx env' => rw [e] at q; exact q
  | brk env' => rw [e] at q; exact q
  | cont env' => rw [e] at q; exact q
  | ret t fr env' => rw [e] at q; exact q
/-! the suites -/
theorem suite_str {X : Cx} {s : Str} {j : Nat} : SuiteC X [.Return (some (.Constant (.str s) j p)) pos] (.str s) := ⟨⟨_, rfl, fun a oe pn => pss_one (ps_ret pe_str)⟩⟩
theorem suite_bl {X : Cx} {b : Bool} {j : Nat} : SuiteC X [.Return (some (.Constant (.bool b) j p)) pos] (.bl b) := ⟨⟨_, rfl, fun a oe pn => pss_one (ps_ret pe_bl)⟩⟩
theorem suite_reason {X : Cx} {n : Str} {i : Nat} (hi : N[i]? = some n) (hl : sc.names.lookup n = some .local) (hN : X.N = N) (hK : X.K = G.K) (xf : XfC G.K CR) (no : PySem.W.findIn G.K (.ref CR) "reason" = some none) (hsc : X.env.scope = sc) (hd : (n == ("__debug__" : Str)) = false := by decide) (hcd : (n == ("__classdict__" : Str)) = false := by decide)
    (hb : ∀ env, attributeBase (.Name n p) "reason" env (eval (.Name n p) env) = eval (.Name n p) env := by intro _; rfl) : SuiteR X CR i [.Return (some (.Attribute (.Name n p) "reason" p2)) pos] (fun s => some (.str s)) := by
  refine ⟨fun a oe cls d pn hz hf => ?_⟩
  rw [← hK] at xf no
  have pv : PE (X.suite a ((a, oe) :: pn)) (.Name n p) (tVar i) := pe_var (by rw [hN]; exact hi) (.inl (by rw [hsc]; exact hl)) hd hcd
  have pr := ps_ret (pos := pos) (pe_xf (n := "reason") (pos := p2) xf no hz hf pv (hb _))
  refine ⟨fun pins s σ H D I h => ?_⟩
  obtain ⟨h1, h2, dd, fs, r, t, v, h3, h4, h5, h6, h7, h8⟩ := h
  refine (pss_one pr).run pins s σ H D I ⟨_, h1, rfl, h2, dd, fs, .str r, h3, h4, h5, ?_⟩
  cases h6
  cases h7
  exact h8
theorem suite_pre {X : Cx} {n pre : Str} {i j : Nat} {p4 p5 : Pos} (hi : N[i]? = some n) (hl : sc.names.lookup n = some .local) (hN : X.N = N) (hK : X.K = G.K) (xf : XfC G.K CR) (no : PySem.W.findIn G.K (.ref CR) "reason" = some none) (hsc : X.env.scope = sc) (hd : (n == ("__debug__" : Str)) = false := by decide) (hcd : (n == ("__classdict__" : Str)) = false := by decide)
    (hb : ∀ env, attributeBase (.Name n p) "reason" env (eval (.Name n p) env) = eval (.Name n p) env := by intro _; rfl) :
    SuiteR X CR i [.Return (some (.BinOp (.Constant (.str pre) j p4) .Add (.Attribute (.Name n p) "reason" p2) p5)) pos] (fun s => if pre.length + s.length ≤ sizeLine then some (.str (pre ++ s)) else none) := by
  refine ⟨fun a oe cls d pn hz hf => ?_⟩
  rw [← hK] at xf no
  have pv : PE (X.suite a ((a, oe) :: pn)) (.Name n p) (tVar i) := pe_var (by rw [hN]; exact hi) (.inl (by rw [hsc]; exact hl)) hd hcd
  have pr := ps_ret (pos := pos) (pe_op (pos := p5) op_add_str (pe_str (x := pre) (j := j) (pos := p4)) (pe_xf (n := "reason") (pos := p2) xf no hz hf pv (hb _)))
  refine ⟨fun pins s σ H D I h => ?_⟩
  obtain ⟨h1, h2, dd, fs, r, t, v, h3, h4, h5, h6, h7, h8⟩ := h
  refine (pss_one pr).run pins s σ H D I ⟨_, h1, rfl, h2, dd, fs, .str r, h3, h4, h5, ?_⟩
  by_cases hh : pre.length + r.length ≤ sizeLine
  · rw [if_pos hh] at h6
    cases h6
    cases h7
    exact ⟨pre, r, rfl, rfl, hh, h8⟩
  · rw [if_neg hh] at h6
    cases h6
end

/-! ### a def by its body -/
def defF (n m : Nat) (b : S) : Fn := fun ts => match b (ts.map Slot.val ++ List.replicate m .un) with
  | .ret t fr _ => .ret t fr
  | .nx _ => .ret .non false
  | .exc x _ => .exc x
  | _ => .err
section
variable {P : Program} {w : World} {K : PySem.W.Frag} {mg : Str → Option Value} {base : Heap} {x qual : Str} {params : Arguments} {body : List Stmt} {scope : Scope} {f : Addr} {fd : FuncData} {N ps : List Str} {k n m : Nat} {b : S}
theorem gd_start {cdv : Value} {A : Around} {outer : List Env} {s : Shared} {H : Hp} {E : XK} (S : FnScope N ps scope) (hr : Room k (A.deeper (PyProof.Rows.envOfC qual scope s.heap.objs.size f cdv))) :
    GdS ⟨P, w, K, mg, base⟩ scope N k (cxOf (L2.CX P w) P w K mg base N qual scope f cdv A outer s H E) where
  mcE := rfl
  NE := rfl
  nd := S.nd
  calm := rfl
  room := hr
  scR := ⟨fun _ h => h, fun _ h => h, fun _ h => h, fun _ h => .inr h⟩
  own := passes_of rfl
  same := rfl
  fn := fun _ => rfl
  stack := rfl
  frame := rfl
theorem er_vals {G : MC} {F H : Hp} {ts : List T} {vs : List V} (r : Reps G F ts vs) (f : Frz F H) (m : Nat) : ER G (ts.map Slot.val ++ List.replicate m .un) (vs.map some ++ List.replicate m none) F H := by
  have hl := r.len
  have no : ∀ (i : Nat) (io : Bool) (o : OT), (ts.map Slot.val ++ List.replicate m Slot.un)[i]? ≠ some (.own io o) := by
    intro i io o e
    by_cases hi : i < ts.length
    · rw [List.getElem?_append_left (by simpa using hi), List.getElem?_map] at e
      cases e2 : ts[i]? with
      | none => rw [e2] at e; cases e
      | some t => rw [e2] at e; cases e
    · rw [List.getElem?_append_right (by simpa using hi), List.getElem?_replicate] at e
      split at e <;> cases e
  refine ⟨by simp [hl], f, fun i s x e e2 => ?_, fun i j io jo a q _ => ?_⟩
  · by_cases hi : i < ts.length
    · rw [List.getElem?_append_left (by simpa using hi), List.getElem?_map] at e
      rw [List.getElem?_append_left (by simp [hl]; exact hi), List.getElem?_map] at e2
      cases e3 : ts[i]? with
      | none => rw [e3] at e; cases e
      | some t =>
        rw [e3] at e
        cases e
        obtain ⟨v, ev, rv⟩ := r.at_ e3
        rw [ev] at e2
        cases e2
        exact ⟨v, rfl, rv⟩
    · rw [List.getElem?_append_right (by simpa using hi), List.getElem?_replicate] at e
      split at e
      · cases e
        trivial
      · cases e
  · obtain ⟨⟨o, e⟩, _⟩ := q
    exact absurd e (no i io o)
theorem no_own {ts : List T} {m : Nat} {σ : Sg} {a : Addr} (h : OwnA (ts.map Slot.val ++ List.replicate m .un) σ a) : False := by
  obtain ⟨i, io, ⟨o, e⟩, _⟩ := h
  by_cases hi : i < ts.length
  · rw [List.getElem?_append_left (by simpa using hi), List.getElem?_map] at e
    cases e2 : ts[i]? with
    | none => rw [e2] at e; cases e
    | some t => rw [e2] at e; cases e
  · rw [List.getElem?_append_right (by simpa using hi), List.getElem?_replicate] at e
    split at e <;> cases e
theorem StepS.toGrow {G : MC} {ts : List T} {m : Nat} {σ σ' : Sg} {F H F' H' : Hp} {env' : List Slot} (s : StepS G (ts.map Slot.val ++ List.replicate m .un) σ F H env' σ' F' H') : Grow F H F' H' :=
  ⟨s.ext, s.rel.frz, fun b o e => (s.new b o e).elim .inl fun z => z.elim .inr fun z => (no_own z).elim, fun b o e => s.keep b o e no_own⟩
/-- THE RULE of a def -/
theorem fn_ok (F : FunD K x qual params body scope [] [] f fd) (S : FnScope N ps scope) (hn : ps.length = n) (hm : N.length = n + m) (h : SndSs ⟨P, w, K, mg, base⟩ scope N k body b) : FnOk P w K mg base (L2.CX P w) (k + 1) f fd ps (spF ⟨P, w, K, mg, base⟩ n (defF n m b)) := by
  refine F.ok S (fun vs H Q E q => ?_) fun cdv A outer s H vs Q E hr q => ?_
  · obtain ⟨_, _, q, _⟩ := q
    rw [q, hn]
  · obtain ⟨F0, ts, hl, r, fz, wish⟩ := q
    have hd := gd_start (P := P) (w := w) (K := K) (mg := mg) (base := base) (E := E) (outer := outer) (H := H) S hr
    have st : L2.start N vs = vs.map some ++ List.replicate m none := by
      unfold L2.start
      rw [hm, hl, Nat.add_sub_cancel_left]
    refine ⟨_, pss_WSs, ?_⟩
    rw [st]
    refine h _ (fun cls d _ H => E cls d H) (ts.map Slot.val ++ List.replicate m .un) _ F0 H _ hd (takes_of rfl rfl rfl rfl) (er_vals r fz m) ?_
    unfold defF at wish
    cases e : b (ts.map Slot.val ++ List.replicate m .un) with
    | err => rw [e] at wish; exact wish
    | brk env' => rw [e] at wish; exact wish.elim
    | cont env' => rw [e] at wish; exact wish.elim
    | nx env' =>
      rw [e] at wish
      exact fun σ' F' H' s => wish .non F' H' s.toGrow (by simp [RR, Rep])
    | ret t fr env' =>
      rw [e] at wish
      exact fun v σ' F' H' s r => wish v F' H' s.toGrow r
    | exc z env' =>
      rw [e] at wish
      exact fun cls d σ' F' H' s r => wish cls d F' H' s.toGrow r
theorem fn_has (hg : mg x = some (.ref f)) (F : FunD K x qual params body scope [] [] f fd) (S : FnScope N ps scope) (hb : Binds K fd ps []) (hn : ps.length = n) (hm : N.length = n + m) (h : SndSs ⟨P, w, K, mg, base⟩ scope N k body b) : FnHas ⟨P, w, K, mg, base⟩ (k + 1) x n (defF n m b) :=
  ⟨f, fd, ps, hg, F.kp, hb, fn_ok F S hn hm h⟩
/-- .. of a def that changes its first argument -/
def defI (n m : Nat) (b : S) : FnI := fun o ts => match b (.own true o :: (ts.map Slot.val ++ List.replicate m .un)) with
  | .ret t fr env' => (match (env'[0]? : Option Slot) with
    | some (.own true o') => .ret t fr o'
    | _ => .err)
  | .nx env' => (match (env'[0]? : Option Slot) with
    | some (.own true o') => .ret .non false o'
    | _ => .err)
  | .exc z env' => (match (env'[0]? : Option Slot) with
    | some (.own true o') => .exc z o'
    | _ => .err)
  | _ => .err
theorem er_valsI {G : MC} {F H : Hp} {ts : List T} {vs : List V} {o : OT} {a : Addr} (ow : OwnAt G F H o a) (r : Reps G F ts vs) (f : Frz F H) (m : Nat) : ER G (.own true o :: (ts.map Slot.val ++ List.replicate m .un)) (some (.ref a) :: (vs.map some ++ List.replicate m none)) F H := by
  have h := er_vals r f m
  refine ⟨by simp [h.len], f, fun i s x e e2 => ?_, fun i j io jo b q q' => ?_⟩
  · cases i with
    | zero =>
      simp at e e2
      subst e e2
      exact ⟨a, rfl, ow⟩
    | succ i => exact h.at_ i s x (by simpa using e) (by simpa using e2)
  · have z : ∀ (i : Nat) io b, OwnI (.own true o :: (ts.map Slot.val ++ List.replicate m .un)) (some (V.ref a) :: (vs.map some ++ List.replicate m none)) i io b → i = 0 := fun i io b q => by
      cases i with
      | zero => rfl
      | succ i => exact (no_own ⟨i, io, ⟨⟨q.1.choose, by simpa using q.1.choose_spec⟩, by simpa using q.2⟩⟩).elim
    rw [z i io b q, z j jo b q']
theorem fn_hasI (hg : mg x = some (.ref f)) (F : FunD K x qual params body scope [] [] f fd) (S : FnScope N ps scope) (hb : Binds K fd ps []) (hn : ps.length = n + 1) (hm : N.length = n + 1 + m) (h : SndSs ⟨P, w, K, mg, base⟩ scope N k body b) : FnHasI ⟨P, w, K, mg, base⟩ (k + 1) x n (defI n m b) := by
  refine ⟨f, fd, ps, hg, F.kp, hb, F.ok S (fun vs H Q E q => ?_) fun cdv A outer s H vs Q E hr q => ?_⟩
  · obtain ⟨_, _, _, _, ws, rfl, q, _⟩ := q
    simp [q, hn]
  · obtain ⟨F0, o, ts, a, ws, rfl, hl, ow, r, fz, wish⟩ := q
    have hd := gd_start (P := P) (w := w) (K := K) (mg := mg) (base := base) (E := E) (outer := outer) (H := H) S hr
    have st : L2.start N (.ref a :: ws) = some (.ref a) :: (ws.map some ++ List.replicate m none) := by
      unfold L2.start
      rw [hm, List.length_cons, hl, Nat.add_sub_cancel_left]
      rfl
    refine ⟨_, pss_WSs, ?_⟩
    rw [st]
    refine h _ (fun cls d _ H => E cls d H) (.own true o :: (ts.map Slot.val ++ List.replicate m .un)) _ F0 H _ hd (takes_of rfl rfl rfl rfl) (er_valsI ow r fz m) ?_
    have only : ∀ b, OwnA (.own true o :: (ts.map Slot.val ++ List.replicate m .un)) (some (V.ref a) :: (ws.map some ++ List.replicate m none)) b → b = a := by
      rintro b ⟨i, io, q⟩
      cases i with
      | zero =>
        have := q.2
        simp at this
        exact this.symm
      | succ i => exact (no_own ⟨i, io, ⟨⟨q.1.choose, by simpa using q.1.choose_spec⟩, by simpa using q.2⟩⟩).elim
    have conv : ∀ {env' : List Slot} {σ' : Sg} {F' H' : Hp}, StepS ⟨P, w, K, mg, base⟩ (.own true o :: (ts.map Slot.val ++ List.replicate m .un)) (some (V.ref a) :: (ws.map some ++ List.replicate m none)) F0 H env' σ' F' H' →
        ∃ o', env'[0]? = some (.own true o') ∧ GrowBut a F0 H F' H' ∧ OwnAt ⟨P, w, K, mg, base⟩ F' H' o' a := fun {env' σ' F' H'} s => by
      obtain ⟨⟨o', e'⟩, es⟩ := s.io 0 o rfl
      obtain ⟨a', ea', ow'⟩ := s.rel.own e'
      rw [es] at ea'
      cases ea'
      refine ⟨o', e', ⟨s.ext, s.rel.frz, fun b u e => ?_, fun b u nb e => s.keep b u e fun z => nb (only b z)⟩, ow'⟩
      rcases s.new b u e with z | z | z
      · exact .inl z
      · exact .inr z
      · rw [only b z] at e
        obtain ⟨_, _, _, _, na⟩ := ow'
        rw [na] at e
        cases e
    unfold defI at wish
    cases e : b (.own true o :: (ts.map Slot.val ++ List.replicate m .un)) with
    | err => rw [e] at wish; exact wish
    | brk env' => rw [e] at wish; exact wish.elim
    | cont env' => rw [e] at wish; exact wish.elim
    | nx env' =>
      rw [e] at wish
      intro σ' F' H' s
      obtain ⟨o', e', g, ow'⟩ := conv s
      dsimp only at wish
      rw [e'] at wish
      exact wish .non F' H' g ow' (by simp [RR, Rep])
    | ret t fr env' =>
      rw [e] at wish
      intro v σ' F' H' s r
      obtain ⟨o', e', g, ow'⟩ := conv s
      dsimp only at wish
      rw [e'] at wish
      exact wish v F' H' g ow' r
    | exc z env' =>
      rw [e] at wish
      intro cls d σ' F' H' s r
      obtain ⟨o', e', g, ow'⟩ := conv s
      dsimp only at wish
      rw [e'] at wish
      exact wish cls d F' H' g ow' r
end
end PT

set_option Elab.async false
set_option linter.all false
set_option maxRecDepth 100000
set_option autoImplicit false
namespace PT
open PySem PySem.Spec L2

section
variable {G : MC} {k : Nat} {F H : Hp}
theorem RepB.int {i : Int} {v : V} (h : RepB G F H (.int i) v) : v = .int i := by simpa [RepB, Rep] using h
theorem RepB.bl {i : Bool} {v : V} (h : RepB G F H (.bl i) v) : v = .bl i := by simpa [RepB, Rep] using h
theorem RepB.str {i : Str} {v : V} (h : RepB G F H (.str i) v) : v = .str i := by simpa [RepB, Rep] using h
theorem RepB.non {v : V} (h : RepB G F H .non v) : v = .non := by simpa [RepB, Rep] using h
theorem RepB.ty {n : String} {v : V} (h : RepB G F H (.ty n) v) : v = .ty n := by simpa [RepB, Rep] using h
def seqL : T → Option (List T)
  | .lst l => some l
  | .frz l => some l
  | _ => none
def seqT : T → Option (List T)
  | .tup l => some l
  | .kt l => some l
  | _ => none
theorem RepB.seqL {t : T} {l : List T} {v : V} (f : Frz F H) (e : seqL t = some l) (h : RepB G F H t v) : ∃ a vs, v = .ref a ∧ SqL G.K H a vs ∧ Reps G F l vs := by
  cases t <;> simp only [PT.seqL, Option.some.injEq, reduceCtorEq] at e
  · subst e
    obtain ⟨a, vs, h1, h2, h3⟩ := h
    exact ⟨a, vs, h1, .inl (.inl h2), h3⟩
  · subst e
    simp only [RepB, Rep] at h
    obtain ⟨a, vs, h1, h2, h3⟩ := h
    exact ⟨a, vs, h1, Ext.sqL f h2, h3⟩
theorem RepB.seqT {t : T} {l : List T} {v : V} (f : Frz F H) (e : seqT t = some l) (h : RepB G F H t v) : ∃ a vs, v = .ref a ∧ SqT G.K H a vs ∧ Reps G F l vs := by
  cases t <;> simp only [PT.seqT, Option.some.injEq, reduceCtorEq] at e
  · subst e
    simp only [RepB, Rep] at h
    obtain ⟨a, vs, h1, h2, h3⟩ := h
    exact ⟨a, vs, h1, .inl (.inl (f _ _ h2)), h3⟩
  · subst e
    simp only [RepB, Rep] at h
    obtain ⟨a, vs, h1, h2, h3⟩ := h
    exact ⟨a, vs, h1, Ext.sqT f h2, h3⟩
mutual
def toD : T → Option PyData
  | .non => some .none
  | .bl b => some (.bool b)
  | .int i => some (.int i)
  | .str x => some (.str x)
  | .lst l => (toDs l).map .list
  | .frz l => (toDs l).map .list
  | .tup l => (toDs l).map .tuple
  | .kt l => (toDs l).map .tuple
  | _ => none
def toDs : List T → Option (List PyData)
  | [] => some []
  | t :: l => match toD t with
    | some d => (match toDs l with
      | some ds => some (d :: ds)
      | none => none)
    | none => none
end
mutual
theorem toD_ok (f : Frz F H) : ∀ (t : T) (d : PyData) (v : V), toD t = some d → Rep G F t v → Dp G.K H v d
  | .non, d, v, e, h => by
    simp only [Rep] at h
    simp only [toD, Option.some.injEq] at e
    subst h e
    exact .non
  | .bl b, d, v, e, h => by
    simp only [Rep] at h
    simp only [toD, Option.some.injEq] at e
    subst h e
    exact .bl b
  | .int b, d, v, e, h => by
    simp only [Rep] at h
    simp only [toD, Option.some.injEq] at e
    subst h e
    exact .int b
  | .str b, d, v, e, h => by
    simp only [Rep] at h
    simp only [toD, Option.some.injEq] at e
    subst h e
    exact .str b
  | .lst l, d, v, e, h => by
    simp only [Rep] at h
    simp only [toD, Option.map_eq_some_iff] at e
    obtain ⟨ds, e, rfl⟩ := e
    obtain ⟨a, vs, rfl, h2, h3⟩ := h
    exact .lst (.inl (.inl (f _ _ h2))) (toDs_ok f l ds vs e h3)
  | .frz l, d, v, e, h => by
    simp only [Rep] at h
    simp only [toD, Option.map_eq_some_iff] at e
    obtain ⟨ds, e, rfl⟩ := e
    obtain ⟨a, vs, rfl, h2, h3⟩ := h
    exact .lst (Ext.sqL f h2) (toDs_ok f l ds vs e h3)
  | .tup l, d, v, e, h => by
    simp only [Rep] at h
    simp only [toD, Option.map_eq_some_iff] at e
    obtain ⟨ds, e, rfl⟩ := e
    obtain ⟨a, vs, rfl, h2, h3⟩ := h
    exact .tup (.inl (.inl (f _ _ h2))) (toDs_ok f l ds vs e h3)
  | .kt l, d, v, e, h => by
    simp only [Rep] at h
    simp only [toD, Option.map_eq_some_iff] at e
    obtain ⟨ds, e, rfl⟩ := e
    obtain ⟨a, vs, rfl, h2, h3⟩ := h
    exact .tup (Ext.sqT f h2) (toDs_ok f l ds vs e h3)
  | .dk _ _, _, _, e, _ => by simp [toD] at e
  | .dt _ _, _, _, e, _ => by simp [toD] at e
  | .fn _, _, _, e, _ => by simp [toD] at e
  | .ty _, _, _, e, _ => by simp [toD] at e
theorem toDs_ok (f : Frz F H) : ∀ (l : List T) (ds : List PyData) (vs : List V), toDs l = some ds → Reps G F l vs → DpAll G.K H vs ds
  | [], ds, vs, e, h => by
    rw [Reps.nil_iff.mp h]
    simp only [toDs, Option.some.injEq] at e
    subst e
    exact .nil
  | t :: l, ds, vs, e, h => by
    obtain ⟨v, r, rfl, h2, h3⟩ := h.inv
    simp only [toDs] at e
    cases e1 : toD t with
    | none => rw [e1] at e; cases e
    | some d =>
      rw [e1] at e
      cases e2 : toDs l with
      | none => rw [e2] at e; cases e
      | some dd =>
        rw [e2] at e
        cases e
        exact .cons (toD_ok f t d v e1 h2) (toDs_ok f l dd r e2 h3)
end
theorem RepB.toH {t : T} {v : V} (f : Frz F H) (h : RepB G F H t v) : Rep G H t v := by
  cases t with
  | lst l =>
    obtain ⟨a, vs, h1, h2, h3⟩ := h
    simp only [Rep]
    exact ⟨a, vs, h1, h2, h3.mono f⟩
  | dk ks l =>
    obtain ⟨a, vs, h1, h2, h4, h3⟩ := h
    simp only [Rep]
    exact ⟨a, vs, h1, h2, h4, h3.mono f⟩
  | dt ks l =>
    obtain ⟨a, vs, h1, h2, h4, h3⟩ := h
    simp only [Rep]
    exact ⟨a, vs, h1, h2, h4, h3.mono f⟩
  | _ => exact Rep.mono f h
theorem toD_B {t : T} {d : PyData} {v : V} (f : Frz F H) (e : toD t = some d) (h : RepB G F H t v) : Dp G.K H v d := toD_ok (Ext.refl H) t d v e (h.toH f)

def small (i : Int) : Bool := Nat.blt i.natAbs 18446744073709551616
theorem small_iff {i : Int} : small i = true ↔ -(2 ^ 64) < i ∧ i < 2 ^ 64 := by
  unfold small
  rw [Nat.blt_eq]
  omega
def mulOk (i j : Int) : Bool := small i || small j || Nat.blt (i.natAbs.log2 + j.natAbs.log2) 1000000
def addT : T → T → Option (T × Bool)
  | .int i, .int j => some (.int (i + j), false)
  | .lst l, .lst m => if l.length + m.length ≤ sizeLine then some (.lst (l ++ m), true) else none
  | .tup l, .tup m => if l.length + m.length ≤ sizeLine then some (.tup (l ++ m), false) else none
  | .str x, .str y => if x.length + y.length ≤ sizeLine then some (.str (x ++ y), false) else none
  | _, _ => none
def subT : T → T → Option (T × Bool)
  | .int i, .int j => some (.int (i - j), false)
  | _, _ => none
def mulT : T → T → Option (T × Bool)
  | .int i, .int j => if mulOk i j then some (.int (i * j), false) else none
  | .lst l, .int j => if decide (-(2 ^ 63) ≤ j) && decide (j < 2 ^ 63) && decide (l.length * j.toNat ≤ sizeLine) then some (.lst (List.replicate j.toNat l).flatten, true) else none
  | .tup l, .int j => if !l.isEmpty && decide (2 ≤ j) && decide (j ≤ 1000) && decide (l.length ≤ 1000) then some (.tup (List.replicate j.toNat l).flatten, false) else none
  | _, _ => none
def fdivOk (j : Int) : Bool := decide (0 < j) && Nat.blt j.natAbs.log2 9000
def fdivT : T → T → Option (T × Bool)
  | .int i, .int j => if fdivOk j then some (.int (i / j), false) else if decide (j ≠ 0) && Nat.blt j.natAbs 1073741824 then some (.int (i.fdiv j), false) else none
  | _, _ => none
def modT : T → T → Option (T × Bool)
  | .int i, .int j => if decide (0 < j) then some (.int (i % j), false) else if decide (j ≠ 0) then some (.int (i.fmod j), false) else none
  | _, _ => none
def powT : T → T → Option (T × Bool)
  | .int i, .int j => if decide (0 ≤ j) && decide (j ≤ 1000000) && Nat.blt i.natAbs 18446744073709551616 then some (.int (i ^ j.toNat), false) else none
  | _, _ => none
def shlT : T → T → Option (T × Bool)
  | .int i, .int j => if decide (0 ≤ j) && decide (j ≤ 1000000) && Nat.blt i.natAbs 18446744073709551616 then some (.int (i * 2 ^ j.toNat), false) else none
  | _, _ => none
def eqT : T → T → Option (T × Bool)
  | .int i, .int j => some (.bl (i == j), false)
  | a, b => match toD a, toD b with
    | some d, some e => if SeqAt.shaped d && SeqAt.shaped e then some (.bl (PyData.eqv d e), false) else none
    | _, _ => none
def neT : T → T → Option (T × Bool)
  | .int i, .int j => some (.bl (!(i == j)), false)
  | a, b => match toD a, toD b with
    | some d, some e => if SeqAt.shaped d && SeqAt.shaped e then some (.bl (!PyData.eqv d e), false) else none
    | _, _ => none
def ltT : T → T → Option (T × Bool)
  | .int i, .int j => some (.bl (decide (i < j)), false)
  | _, _ => none
def leT : T → T → Option (T × Bool)
  | .int i, .int j => some (.bl (decide (i ≤ j)), false)
  | _, _ => none
def gtT : T → T → Option (T × Bool)
  | .int i, .int j => some (.bl (decide (j < i)), false)
  | _, _ => none
def geT : T → T → Option (T × Bool)
  | .int i, .int j => some (.bl (decide (j ≤ i)), false)
  | _, _ => none
theorem RR.int {i : Int} : RR G F H H (.int i) false (.int i) := by simp [RR, Rep]
theorem RR.bl {i : Bool} {H' : Hp} : RR G F H H' (.bl i) false (.bl i) := by simp [RR, Rep]
theorem mulOk_c {i j : Int} (h : mulOk i j = true) : CMul i j ∨ CMulW i j := by
  unfold mulOk at h
  rw [Bool.or_eq_true, Bool.or_eq_true] at h
  rcases h with (h | h) | h
  · exact .inl (.inl (small_iff.mp h))
  · exact .inl (.inr (small_iff.mp h))
  · exact .inr (Nat.blt_eq.mp h)
theorem Grow.tup {a : Addr} {vs : List V} (fz : Frz F H) (n : H a = none) : Grow F H (upd F a (.tup vs)) (upd H a (.tup vs)) := Grow.newF fz n
end
end PT

set_option Elab.async false
set_option linter.all false
set_option maxRecDepth 100000
set_option autoImplicit false
namespace PT
open PySem PySem.Spec L2
section
variable {G : MC} {k : Nat}
theorem Reps.flatRep {F : Hp} {l : List T} {vs : List V} (r : Reps G F l vs) : ∀ n, Reps G F (List.replicate n l).flatten (List.replicate n vs).flatten
  | 0 => by simp; exact .nil
  | n + 1 => by
    rw [List.replicate_succ, List.replicate_succ, List.flatten_cons, List.flatten_cons]
    exact r.append (Reps.flatRep r n)
theorem v_add : VOp2 G k (JB .Add) addT := by
  intro X hm hc hr F H a b x y t fr Q e fz ra rb q
  subst hm
  unfold addT at e
  split at e
  · cases e
    rw [ra.int, rb.int]
    exact ⟨_, op_add, _, _, rfl, rfl, q _ F H (Grow.refl fz) RR.int⟩
  · split at e
    · cases e
      obtain ⟨p, vs, rfl, h1, r1⟩ := ra
      obtain ⟨p2, ws, rfl, h2, r2⟩ := rb
      rename_i hl
      refine ⟨_, op_cat, _, _, _, _, rfl, rfl, h1, h2, by rw [r1.len, r2.len]; exact hl, fun p np => ?_⟩
      have z := new_own (G := mc X) (o := ⟨.l, _⟩) fz np (r1.append r2) trivial
      exact q _ _ _ z.1 z.2
    · cases e
  · split at e
    · cases e
      rename_i l m hl
      obtain ⟨p, vs, rfl, h1, r1⟩ := RepB.seqT fz rfl ra
      obtain ⟨p2, ws, rfl, h2, r2⟩ := RepB.seqT fz rfl rb
      refine ⟨_, op_catA, _, _, _, _, rfl, rfl, h1, h2, by rw [r1.len, r2.len]; exact hl, fun en => ?_, fun en en2 => ?_, fun _ _ p np => ?_⟩
      · have : l = [] := by
          have := r1.len
          rw [en] at this
          exact List.eq_nil_of_length_eq_zero (by simpa using this.symm)
        subst this
        exact q _ F H (Grow.refl fz) rb
      · have : m = [] := by
          have := r2.len
          rw [en2] at this
          exact List.eq_nil_of_length_eq_zero (by simpa using this.symm)
        subst this
        rw [List.append_nil] at q
        exact q _ F H (Grow.refl fz) ra
      · have z := new_tup (G := mc X) fz np (r1.append r2)
        exact q _ _ _ z.1 z.2
    · cases e
  · split at e
    · cases e
      rw [ra.str, rb.str]
      rename_i hl
      exact ⟨_, op_add_str, _, _, rfl, rfl, hl, q _ F H (Grow.refl fz) (by simp [RR, Rep])⟩
    · cases e
  · cases e
theorem v_iadd : VOp2 G k (JP .Add) (fun a b => match a, b with
  | .int i, .int j => some (.int (i + j), false)
  | _, _ => none) := by
  intro X hm hc hr F H a b x y t fr Q e fz ra rb q
  subst hm
  dsimp only at e
  split at e
  · cases e
    rw [ra.int, rb.int]
    exact ⟨_, ip_add, _, _, rfl, rfl, q _ F H (Grow.refl fz) RR.int⟩
  · cases e
theorem v_sub : VOp2 G k (JB .Sub) subT := by
  intro X hm hc hr F H a b x y t fr Q e fz ra rb q
  unfold subT at e
  split at e
  · cases e
    rw [ra.int, rb.int]
    exact ⟨_, op_sub, _, _, rfl, rfl, q _ F H (Grow.refl fz) RR.int⟩
  · cases e
theorem v_isub : VOp2 G k (JP .Sub) subT := by
  intro X hm hc hr F H a b x y t fr Q e fz ra rb q
  unfold subT at e
  split at e
  · cases e
    rw [ra.int, rb.int]
    exact ⟨_, ip_sub, _, _, rfl, rfl, q _ F H (Grow.refl fz) RR.int⟩
  · cases e
theorem v_mul : VOp2 G k (JB .Mult) mulT := by
  intro X hm hc hr F H a b x y t fr Q e fz ra rb q
  subst hm
  unfold mulT at e
  split at e
  · split at e
    · cases e
      rw [ra.int, rb.int]
      rename_i h
      rcases mulOk_c h with h | h
      · exact ⟨_, op_mul, _, _, rfl, rfl, h, q _ F H (Grow.refl fz) RR.int⟩
      · exact ⟨_, op_mulW, _, _, rfl, rfl, h, q _ F H (Grow.refl fz) RR.int⟩
    · cases e
  · split at e
    · cases e
      rename_i l j h
      obtain ⟨p, vs, rfl, h1, r1⟩ := ra
      rw [rb.int]
      simp only [Bool.and_eq_true, decide_eq_true_eq] at h
      refine ⟨_, op_rep, _, _, _, rfl, rfl, h1, h.1.1, h.1.2, by rw [r1.len]; exact h.2, fun p np => ?_⟩
      have z := new_own (G := mc X) (o := ⟨.l, _⟩) fz np (r1.flatRep j.toNat) trivial
      exact q _ _ _ z.1 z.2
    · cases e
  · split at e
    · cases e
      rename_i l j h
      obtain ⟨p, vs, rfl, h1, r1⟩ := RepB.seqT fz rfl ra
      rw [rb.int]
      simp only [Bool.and_eq_true, decide_eq_true_eq] at h
      refine ⟨_, op_repT, _, _, _, rfl, rfl, h1, fun en => ?_, h.1.1.2, h.1.2, by rw [r1.len]; exact h.2, fun p np => ?_⟩
      · have hl := r1.len
        rw [en] at hl
        have := List.eq_nil_of_length_eq_zero hl.symm
        rw [this] at h
        simp at h
      · have z := new_tup (G := mc X) fz np (r1.flatRep j.toNat)
        exact q _ _ _ z.1 z.2
    · cases e
  · cases e
theorem v_imul : VOp2 G k (JP .Mult) (fun a b => match a, b with
  | .int i, .int j => if small i || small j then some (.int (i * j), false) else none
  | _, _ => none) := by
  intro X hm hc hr F H a b x y t fr Q e fz ra rb q
  dsimp only at e
  split at e
  · split at e
    · cases e
      rw [ra.int, rb.int]
      rename_i h
      have hc : CMul _ _ := (Bool.or_eq_true _ _).mp h |>.elim (fun h => .inl (small_iff.mp h)) (fun h => .inr (small_iff.mp h))
      exact ⟨_, iop_mul, _, _, rfl, rfl, hc, q _ F H (Grow.refl fz) RR.int⟩
    · cases e
  · cases e
theorem fdivOk_c {i j : Int} (h : fdivOk j = true) : CDivW i j := by
  unfold fdivOk at h
  simp only [Bool.and_eq_true, decide_eq_true_eq, Nat.blt_eq] at h
  exact h
theorem v_fdiv : VOp2 G k (JB .FloorDiv) fdivT := by
  intro X hm hc hr F H a b x y t fr Q e fz ra rb q
  unfold fdivT at e
  split at e
  · split at e
    · cases e
      rw [ra.int, rb.int]
      rename_i h
      exact ⟨_, op_fdivW, _, _, rfl, rfl, fdivOk_c h, q _ F H (Grow.refl fz) RR.int⟩
    · split at e
      · cases e
        rw [ra.int, rb.int]
        rename_i h
        simp only [Bool.and_eq_true, decide_eq_true_eq, Nat.blt_eq] at h
        exact ⟨_, op_fdivN, _, _, rfl, rfl, h, q _ F H (Grow.refl fz) RR.int⟩
      · cases e
  · cases e
theorem v_ifdiv : VOp2 G k (JP .FloorDiv) (fun a b => match a, b with
  | .int i, .int j => if fdivOk j then some (.int (i / j), false) else none
  | _, _ => none) := by
  intro X hm hc hr F H a b x y t fr Q e fz ra rb q
  dsimp only at e
  split at e
  · split at e
    · cases e
      rw [ra.int, rb.int]
      rename_i h
      exact ⟨_, iop_fdivW, _, _, rfl, rfl, fdivOk_c h, q _ F H (Grow.refl fz) RR.int⟩
    · cases e
  · cases e
theorem v_mod : VOp2 G k (JB .Mod) modT := by
  intro X hm hc hr F H a b x y t fr Q e fz ra rb q
  unfold modT at e
  split at e
  · split at e
    · cases e
      rw [ra.int, rb.int]
      rename_i h
      exact ⟨_, op_mod, _, _, rfl, rfl, of_decide_eq_true h, q _ F H (Grow.refl fz) RR.int⟩
    · split at e
      · cases e
        rw [ra.int, rb.int]
        rename_i h
        exact ⟨_, op_modN, _, _, rfl, rfl, of_decide_eq_true h, q _ F H (Grow.refl fz) RR.int⟩
      · cases e
  · cases e
theorem v_imod : VOp2 G k (JP .Mod) (fun a b => match a, b with
  | .int i, .int j => if decide (0 < j) then some (.int (i % j), false) else none
  | _, _ => none) := by
  intro X hm hc hr F H a b x y t fr Q e fz ra rb q
  dsimp only at e
  split at e
  · split at e
    · cases e
      rw [ra.int, rb.int]
      rename_i h
      exact ⟨_, iop_mod, _, _, rfl, rfl, of_decide_eq_true h, q _ F H (Grow.refl fz) RR.int⟩
    · cases e
  · cases e
theorem v_pow : VOp2 G k (JB .Pow) powT := by
  intro X hm hc hr F H a b x y t fr Q e fz ra rb q
  unfold powT at e
  split at e
  · split at e
    · cases e
      rw [ra.int, rb.int]
      rename_i h
      simp only [Bool.and_eq_true, decide_eq_true_eq, Nat.blt_eq] at h
      exact ⟨_, op_pow, _, _, rfl, rfl, ⟨h.1.1, h.1.2, h.2⟩, q _ F H (Grow.refl fz) RR.int⟩
    · cases e
  · cases e
theorem v_shl : VOp2 G k (JB .LShift) shlT := by
  intro X hm hc hr F H a b x y t fr Q e fz ra rb q
  unfold shlT at e
  split at e
  · split at e
    · cases e
      rw [ra.int, rb.int]
      rename_i h
      simp only [Bool.and_eq_true, decide_eq_true_eq, Nat.blt_eq] at h
      exact ⟨_, op_shl, _, _, rfl, rfl, ⟨h.1.1, h.1.2, h.2⟩, q _ F H (Grow.refl fz) RR.int⟩
    · cases e
  · cases e
theorem v_eq : VOp2 G k (JC .Eq) eqT := by
  intro X hm hc hr F H a b x y t fr Q e fz ra rb q
  subst hm
  unfold eqT at e
  split at e
  · cases e
    rw [ra.int, rb.int]
    refine ⟨_, op_eq, rfl, ?_⟩
    rw [dec_int]
    exact q _ F H (Grow.refl fz) RR.bl
  · split at e
    · split at e
      · cases e
        rename_i d e2 h1 h2 h
        rw [Bool.and_eq_true] at h
        exact ⟨_, op_eqD hr.units, d, e2, toD_B fz h1 ra, toD_B fz h2 rb, h.1, h.2, q _ F H (Grow.refl fz) RR.bl⟩
      · cases e
    · cases e
theorem v_ne : VOp2 G k (JC .NotEq) neT := by
  intro X hm hc hr F H a b x y t fr Q e fz ra rb q
  subst hm
  unfold neT at e
  split at e
  · cases e
    rw [ra.int, rb.int]
    refine ⟨_, op_ne, rfl, ?_⟩
    rw [dec_int]
    exact q _ F H (Grow.refl fz) RR.bl
  · split at e
    · split at e
      · cases e
        rename_i d e2 h1 h2 h
        rw [Bool.and_eq_true] at h
        exact ⟨_, op_neD hr.units, d, e2, toD_B fz h1 ra, toD_B fz h2 rb, h.1, h.2, q _ F H (Grow.refl fz) RR.bl⟩
      · cases e
    · cases e
theorem v_lt : VOp2 G k (JC .Lt) ltT := by
  intro X hm hc hr F H a b x y t fr Q e fz ra rb q
  unfold ltT at e
  split at e
  · cases e
    rw [ra.int, rb.int]
    exact ⟨_, op_lt, _, _, rfl, rfl, q _ F H (Grow.refl fz) RR.bl⟩
  · cases e
theorem v_le : VOp2 G k (JC .LtE) leT := by
  intro X hm hc hr F H a b x y t fr Q e fz ra rb q
  unfold leT at e
  split at e
  · cases e
    rw [ra.int, rb.int]
    exact ⟨_, op_le, _, _, rfl, rfl, q _ F H (Grow.refl fz) RR.bl⟩
  · cases e
theorem v_gt : VOp2 G k (JC .Gt) gtT := by
  intro X hm hc hr F H a b x y t fr Q e fz ra rb q
  unfold gtT at e
  split at e
  · cases e
    rw [ra.int, rb.int]
    exact ⟨_, op_gt, _, _, rfl, rfl, q _ F H (Grow.refl fz) RR.bl⟩
  · cases e
theorem v_ge : VOp2 G k (JC .GtE) geT := by
  intro X hm hc hr F H a b x y t fr Q e fz ra rb q
  unfold geT at e
  split at e
  · cases e
    rw [ra.int, rb.int]
    exact ⟨_, op_ge, _, _, rfl, rfl, q _ F H (Grow.refl fz) RR.bl⟩
  · cases e
/-! indices, lengths -/
def ixT : T → T → Option (T × Bool)
  | .str x, .int i => if x.length ≤ sizeLine then (match atI x.cps.toList i with
    | some c => some (.str ⟨#[c]⟩, false)
    | none => none) else none
  | a, .int i => match seqL a with
    | some l => (match atI l i with
      | some t => some (t, false)
      | none => none)
    | none => (match seqT a with
      | some l => (match atI l i with
        | some t => some (t, false)
        | none => none)
      | none => none)
  | _, _ => none
theorem Reps.atI {F : Hp} {l : List T} {vs : List V} {i : Int} {t : T} (r : Reps G F l vs) (e : atI l i = some t) : ∃ v, L2.atI vs i = some v ∧ Rep G F t v := by
  unfold L2.atI at e ⊢
  rw [r.len]
  cases h : ixN l.length i with
  | none => rw [h] at e; cases e
  | some j =>
    rw [h] at e
    obtain ⟨v, h1, h2⟩ := r.at_ e
    exact ⟨v, h1, h2⟩
theorem v_ix : VOp2 G k JI ixT := by
  intro X hm hc hr F H a b x y t fr Q e fz ra rb q
  subst hm
  unfold ixT at e
  split at e
  · split at e
    · split at e
      · cases e
        rw [ra.str, rb.int]
        rename_i hl _ c hc
        exact ⟨_, ix_str, _, _, _, rfl, rfl, hl, hc, q _ F H (Grow.refl fz) (by simp [RR, Rep])⟩
      · cases e
    · cases e
  · split at e
    · split at e
      · cases e
        rename_i hs _ h
        obtain ⟨p, vs, rfl, h1, r1⟩ := RepB.seqL fz hs ra
        obtain ⟨v, h2, r2⟩ := r1.atI h
        rw [rb.int]
        exact ⟨_, ix_list, _, _, _, _, rfl, rfl, h1, h2, q _ F H (Grow.refl fz) r2⟩
      · cases e
    · split at e
      · split at e
        · cases e
          rename_i hs _ h
          obtain ⟨p, vs, rfl, h1, r1⟩ := RepB.seqT fz hs ra
          obtain ⟨v, h2, r2⟩ := r1.atI h
          rw [rb.int]
          exact ⟨_, ix_tup, _, _, _, _, rfl, rfl, h1, h2, q _ F H (Grow.refl fz) r2⟩
        · cases e
      · cases e
  · cases e
end
end PT

set_option Elab.async false
set_option linter.all false
set_option maxRecDepth 100000
set_option autoImplicit false
namespace PT
open PySem PySem.Spec L2
section
variable {G : MC} {k : Nat}
/-! builtins -/
def lenT (a : T) : Option (T × Bool) := match a with
  | .str x => if x.length ≤ sizeLine then some (.int x.length, false) else none
  | a => (match seqL a with
    | some l => some (.int l.length, false)
    | none => (match seqT a with
      | some l => some (.int l.length, false)
      | none => none))
theorem vf_len : VOp1 G k (JF1 (.builtin "len")) lenT := by
  intro X hm hc hr F H a x t fr Q e fz ra q
  subst hm
  refine ⟨fun v H Q => ∃ n, LenV X.K v H n ∧ Q (.int n) H, fun pins s σ H xs us Q I rs ⟨v, e, n, h1, h2⟩ => call_len pins s σ H xs us Q I rs ⟨v, n, e, h1, h2⟩, ?_⟩
  unfold lenT at e
  split at e
  · split at e
    · cases e
      rw [ra.str]
      rename_i h
      exact ⟨_, ⟨h, rfl⟩, q _ F H (Grow.refl fz) RR.int⟩
    · cases e
  · split at e
    · cases e
      rename_i h
      obtain ⟨p, vs, rfl, h1, r1⟩ := RepB.seqL fz h ra
      rw [← r1.len] at q
      exact ⟨_, .inl ⟨vs, h1, rfl⟩, q _ F H (Grow.refl fz) RR.int⟩
    · split at e
      · cases e
        rename_i h
        obtain ⟨p, vs, rfl, h1, r1⟩ := RepB.seqT fz h ra
        rw [← r1.len] at q
        exact ⟨_, .inr ⟨vs, h1, rfl⟩, q _ F H (Grow.refl fz) RR.int⟩
      · cases e
def absT : T → Option (T × Bool)
  | .int i => some (.int (if i < 0 then -i else i), false)
  | _ => none
theorem vf_abs : VOp1 G k (JF1 (.builtin "abs")) absT := by
  intro X hm hc hr F H a x t fr Q e fz ra q
  refine ⟨fun v H Q => ∃ i, v = .int i ∧ Q (.int (if i < 0 then -i else i)) H, fun pins s σ H xs us Q I rs ⟨v, e, i, h1, h2⟩ => call_abs pins s σ H xs us Q I rs ⟨i, by rw [e, h1], h2⟩, ?_⟩
  unfold absT at e
  split at e
  · cases e
    exact ⟨_, ra.int, q _ F H (Grow.refl fz) RR.int⟩
  · cases e
def intT : T → Option (T × Bool)
  | .int i => some (.int i, false)
  | .bl b => some (.int (if b then 1 else 0), false)
  | _ => none
theorem vf_int : VOp1 G k (JF1 (.type "int")) intT := by
  intro X hm hc hr F H a x t fr Q e fz ra q
  refine ⟨fun v H Q => (∃ i, v = .int i ∧ Q (.int i) H) ∨ ∃ b, v = .bl b ∧ Q (.int (if b then 1 else 0)) H, fun pins s σ H xs us Q I rs ⟨v, e, h⟩ => call_int1 pins s σ H xs us Q I rs (by
    rcases h with ⟨i, h1, h2⟩ | ⟨i, h1, h2⟩
    · exact .inl ⟨i, by rw [e, h1], h2⟩
    · exact .inr ⟨i, by rw [e, h1], h2⟩), ?_⟩
  unfold intT at e
  split at e
  · cases e
    exact .inl ⟨_, ra.int, q _ F H (Grow.refl fz) RR.int⟩
  · cases e
    exact .inr ⟨_, ra.bl, q _ F H (Grow.refl fz) RR.int⟩
  · cases e
def isInt : T → Option Int
  | .int i => some i
  | _ => none
def asInts : List T → Option (List Int)
  | [] => some []
  | t :: l => match isInt t with
    | some i => (match asInts l with
      | some r => some (i :: r)
      | none => none)
    | none => none
theorem ints_ok : ∀ {l : List T} {ns : List Int}, asInts l = some ns → l = ns.map T.int
  | [], ns, e => by
    simp only [asInts, Option.some.injEq] at e
    subst e
    rfl
  | t :: l, ns, e => by
    simp only [asInts] at e
    cases t <;> simp only [isInt] at e <;> try cases e
    rename_i i
    cases h : asInts l with
    | none => rw [h] at e; cases e
    | some r =>
      rw [h] at e
      cases e
      rw [ints_ok h]
      rfl
def sumI : List Int → Int
  | [] => 0
  | i :: l => i + sumI l
theorem sumI_eq : ∀ l : List Int, sumI l = l.sum
  | [] => rfl
  | i :: l => by rw [List.sum_cons, ← sumI_eq l]; rfl
def sumT (a : T) : Option (T × Bool) := match seqL a with
  | some l => (match asInts l with
    | some ns => some (.int (sumI ns), false)
    | none => none)
  | none => none
theorem seqL_ints {F H : Hp} {a : T} {l : List T} {ns : List Int} {x : V} (fz : Frz F H) (h : seqL a = some l) (e : asInts l = some ns) (ra : RepB G F H a x) : ∃ p, x = .ref p ∧ SqL G.K H p (ns.map V.int) := by
  obtain ⟨p, vs, rfl, h1, r1⟩ := RepB.seqL fz h ra
  rw [ints_ok e] at r1
  rw [Reps.ints r1] at h1
  exact ⟨p, rfl, h1⟩
theorem vf_sum : VOp1 G k (JF1 (.builtin "sum")) sumT := by
  intro X hm hc hr F H a x t fr Q e fz ra q
  subst hm
  refine ⟨fun v H Q => rSum X.K [v] H Q, fun pins s σ H xs us Q I rs ⟨v, e, h⟩ => cr_sum hc pins s σ H xs us Q I rs (by rw [e]; exact h), ?_⟩
  unfold sumT at e
  split at e
  · split at e
    · cases e
      rename_i h _ _ h2
      obtain ⟨p, rfl, h1⟩ := seqL_ints fz h h2 ra
      refine ⟨p, _, rfl, h1, ?_⟩
      rw [← sumI_eq]
      exact q _ F H (Grow.refl fz) RR.int
    · cases e
  · cases e
def isBl : T → Option Bool
  | .bl i => some i
  | _ => none
def bls : List T → Option (List Bool)
  | [] => some []
  | t :: l => match isBl t with
    | some i => (match bls l with
      | some r => some (i :: r)
      | none => none)
    | none => none
theorem bls_ok {F : Hp} : ∀ {l : List T} {ns : List Bool} {vs : List V}, bls l = some ns → Reps G F l vs → vs = ns.map V.bl
  | [], ns, vs, e, r => by
    simp only [bls, Option.some.injEq] at e
    subst e
    exact Reps.nil_iff.mp r
  | t :: l, ns, vs, e, r => by
    simp only [bls] at e
    cases t <;> simp only [isBl] at e <;> try cases e
    rename_i i
    cases h : bls l with
    | none => rw [h] at e; cases e
    | some r' =>
      rw [h] at e
      cases e
      obtain ⟨v, w, rfl, h2, h3⟩ := r.inv
      have : v = .bl i := by simpa [Rep] using h2
      rw [this, bls_ok h h3]
      rfl
def allT (a : T) : Option (T × Bool) := match seqL a with
  | some l => (match bls l with
    | some ns => some (.bl (ns.all id), false)
    | none => none)
  | none => none
def anyT (a : T) : Option (T × Bool) := match seqL a with
  | some l => (match bls l with
    | some ns => some (.bl (ns.any id), false)
    | none => none)
  | none => none
theorem vf_all : VOp1 G k (JF1 (.builtin "all")) allT := by
  intro X hm hc hr F H a x t fr Q e fz ra q
  subst hm
  refine ⟨fun v H Q => rAll X.K [v] H Q, fun pins s σ H xs us Q I rs ⟨v, e, h⟩ => cr_all hc pins s σ H xs us Q I rs (by rw [e]; exact h), ?_⟩
  unfold allT at e
  split at e
  · split at e
    · cases e
      rename_i h _ _ h2
      obtain ⟨p, vs, rfl, h1, r1⟩ := RepB.seqL fz h ra
      rw [bls_ok h2 r1] at h1
      exact ⟨p, _, rfl, h1, q _ F H (Grow.refl fz) RR.bl⟩
    · cases e
  · cases e
theorem vf_any : VOp1 G k (JF1 (.builtin "any")) anyT := by
  intro X hm hc hr F H a x t fr Q e fz ra q
  subst hm
  refine ⟨fun v H Q => rAny X.K [v] H Q, fun pins s σ H xs us Q I rs ⟨v, e, h⟩ => cr_any hc pins s σ H xs us Q I rs (by rw [e]; exact h), ?_⟩
  unfold anyT at e
  split at e
  · split at e
    · cases e
      rename_i h _ _ h2
      obtain ⟨p, vs, rfl, h1, r1⟩ := RepB.seqL fz h ra
      rw [bls_ok h2 r1] at h1
      exact ⟨p, _, rfl, h1, q _ F H (Grow.refl fz) RR.bl⟩
    · cases e
  · cases e
/-- list(xs), tuple(xs) -/
def listT (a : T) : Option (T × Bool) := match seqL a with
  | some l => some (.lst l, true)
  | none => (match seqT a with
    | some l => some (.lst l, true)
    | none => none)
theorem vf_list : VOp1 G k (JF1 (.type "list")) listT := by
  intro X hm hc hr F H a x t fr Q e fz ra q
  subst hm
  refine ⟨fun v H Q => ∃ p ys, v = .ref p ∧ (SqL X.K H p ys ∨ SqT X.K H p ys) ∧ ∀ l, H l = none → Q (.ref l) (upd H l (.lst ys)), fun pins s σ H xs us Q I rs ⟨v, e, p, ys, h1, h2, h3⟩ => call_list_of pins s σ H xs us Q I rs ⟨p, ys, by rw [e, h1], h2, h3⟩, ?_⟩
  unfold listT at e
  split at e
  · cases e
    rename_i l h
    obtain ⟨p, vs, rfl, h1, r1⟩ := RepB.seqL fz h ra
    refine ⟨p, vs, rfl, .inl h1, fun l' hl => ?_⟩
    have z := new_own (G := mc X) (o := ⟨.l, l⟩) fz hl r1 trivial
    exact q _ _ _ z.1 z.2
  · split at e
    · cases e
      rename_i l h
      obtain ⟨p, vs, rfl, h1, r1⟩ := RepB.seqT fz h ra
      refine ⟨p, vs, rfl, .inr h1, fun l' hl => ?_⟩
      have z := new_own (G := mc X) (o := ⟨.l, l⟩) fz hl r1 trivial
      exact q _ _ _ z.1 z.2
    · cases e
def tupleT (a : T) : Option (T × Bool) := match seqL a with
  | some l => some (.tup l, false)
  | none => (match a with
    | .tup l => some (.tup l, false)
    | .kt l => some (.kt l, false)
    | _ => none)
theorem vf_tuple : VOp1 G k (JF1 (.type "tuple")) tupleT := by
  intro X hm hc hr F H a x t fr Q e fz ra q
  subst hm
  refine ⟨fun v H Q => ∃ p ys, v = .ref p ∧ ((SqL X.K H p ys ∧ ∀ l, H l = none → Q (.ref l) (upd H l (.tup ys))) ∨ (SqT X.K H p ys ∧ Q (.ref p) H)), fun pins s σ H xs us Q I rs ⟨v, e, p, ys, h1, h2⟩ => call_tuple_of pins s σ H xs us Q I rs ⟨p, ys, by rw [e, h1], h2⟩, ?_⟩
  unfold tupleT at e
  split at e
  · cases e
    rename_i l h
    obtain ⟨p, vs, rfl, h1, r1⟩ := RepB.seqL fz h ra
    refine ⟨p, vs, rfl, .inl ⟨h1, fun l' hl => ?_⟩⟩
    have z := new_tup (G := mc X) fz hl r1
    exact q _ _ _ z.1 z.2
  · split at e
    · cases e
      obtain ⟨p, vs, rfl, h1, r1⟩ := RepB.seqT fz rfl ra
      exact ⟨p, vs, rfl, .inr ⟨h1, q _ F H (Grow.refl fz) ra⟩⟩
    · cases e
      obtain ⟨p, vs, rfl, h1, r1⟩ := RepB.seqT fz rfl ra
      exact ⟨p, vs, rfl, .inr ⟨h1, q _ F H (Grow.refl fz) ra⟩⟩
    · cases e
/-- sorted(asInts) -/
def insI (i : Int) : List Int → List Int
  | [] => [i]
  | j :: l => if i ≤ j then i :: j :: l else j :: insI i l
def sortI : List Int → List Int
  | [] => []
  | i :: l => insI i (sortI l)
theorem insI_perm (i : Int) : ∀ l, (insI i l).Perm (i :: l)
  | [] => .refl _
  | j :: l => by
    unfold insI
    split
    · exact .refl _
    · exact ((insI_perm i l).cons j).trans (.swap i j l)
theorem sortI_perm : ∀ l, (sortI l).Perm l
  | [] => .refl _
  | i :: l => (insI_perm i _).trans ((sortI_perm l).cons i)
theorem insI_sorted (i : Int) : ∀ l : List Int, l.Pairwise (· ≤ ·) → (insI i l).Pairwise (· ≤ ·)
  | [], _ => by simp [insI]
  | j :: l, h => by
    unfold insI
    obtain ⟨h1, h2⟩ := List.pairwise_cons.mp h
    split
    · rename_i hij
      exact List.pairwise_cons.mpr ⟨fun x hx => by
        rcases List.mem_cons.mp hx with rfl | hx
        · exact hij
        · exact Int.le_trans hij (h1 x hx), h⟩
    · refine List.pairwise_cons.mpr ⟨fun x hx => ?_, insI_sorted i l h2⟩
      rcases List.mem_cons.mp ((insI_perm i l).mem_iff.mp hx) with rfl | hx
      · omega
      · exact h1 x hx
theorem sortI_sorted : ∀ l, (sortI l).Pairwise (· ≤ ·)
  | [] => .nil
  | i :: l => insI_sorted i _ (sortI_sorted l)
theorem perm_sorted_unique : ∀ {l m : List Int}, l.Perm m → l.Pairwise (· ≤ ·) → m.Pairwise (· ≤ ·) → l = m := by
  intro l m h h1 h2
  exact List.Perm.eq_of_pairwise (fun a b _ _ h1 h2 => Int.le_antisymm h1 h2) h1 h2 h
def sortedT (a : T) : Option (T × Bool) := match seqL a with
  | some l => (match asInts l with
    | some ns => some (.lst ((sortI ns).map T.int), true)
    | none => none)
  | none => none
theorem vf_sorted : VOp1 G k (JF1 (.builtin "sorted")) sortedT := by
  intro X hm hc hr F H a x t fr Q e fz ra q
  subst hm
  refine ⟨fun v H Q => rSortedI X.K [v] H Q, fun pins s σ H xs us Q I rs ⟨v, e, h⟩ => cr_sortedI pins s σ H xs us Q I rs (by rw [e]; exact h), ?_⟩
  unfold sortedT at e
  split at e
  · split at e
    · cases e
      rename_i h _ ns h2
      obtain ⟨p, rfl, h1⟩ := seqL_ints fz h h2 ra
      refine ⟨p, _, rfl, h1, fun ns' p' hp hs hn => ?_⟩
      have : ns' = sortI ns := perm_sorted_unique (hp.trans (sortI_perm ns).symm) hs (sortI_sorted ns)
      subst this
      have z := new_own (G := mc X) (o := ⟨.l, (sortI ns).map T.int⟩) fz hn (Reps.of_ints) trivial
      exact q _ _ _ z.1 z.2
    · cases e
  · cases e
/-- max(xs), min(xs), max(i, j), min(i, j) -/
def maxI : Int → List Int → Int
  | i, [] => i
  | i, j :: l => maxI (if j ≤ i then i else j) l
def minI : Int → List Int → Int
  | i, [] => i
  | i, j :: l => minI (if i ≤ j then i else j) l
theorem maxI_le : ∀ (i : Int) (l : List Int), i ≤ maxI i l ∧ ∀ y ∈ l, y ≤ maxI i l
  | i, [] => ⟨Int.le_refl _, fun y h => nomatch h⟩
  | i, j :: l => by
    obtain ⟨h1, h2⟩ := maxI_le (if j ≤ i then i else j) l
    have e : maxI i (j :: l) = maxI (if j ≤ i then i else j) l := rfl
    rw [e]
    generalize maxI (if j ≤ i then i else j) l = m at *
    refine ⟨?_, fun y hy => ?_⟩
    · split at h1 <;> omega
    · rcases List.mem_cons.mp hy with rfl | hy
      · split at h1 <;> omega
      · exact h2 y hy
theorem maxI_mem : ∀ (i : Int) (l : List Int), maxI i l = i ∨ maxI i l ∈ l
  | i, [] => .inl rfl
  | i, j :: l => by
    unfold maxI
    rcases maxI_mem (if j ≤ i then i else j) l with h | h
    · rw [h]
      split
      · exact .inl rfl
      · exact .inr (List.mem_cons_self ..)
    · exact .inr (List.mem_cons_of_mem _ h)
theorem minI_le : ∀ (i : Int) (l : List Int), minI i l ≤ i ∧ ∀ y ∈ l, minI i l ≤ y
  | i, [] => ⟨Int.le_refl _, fun y h => nomatch h⟩
  | i, j :: l => by
    obtain ⟨h1, h2⟩ := minI_le (if i ≤ j then i else j) l
    have e : minI i (j :: l) = minI (if i ≤ j then i else j) l := rfl
    rw [e]
    generalize minI (if i ≤ j then i else j) l = m at *
    refine ⟨?_, fun y hy => ?_⟩
    · split at h1 <;> omega
    · rcases List.mem_cons.mp hy with rfl | hy
      · split at h1 <;> omega
      · exact h2 y hy
theorem minI_mem : ∀ (i : Int) (l : List Int), minI i l = i ∨ minI i l ∈ l
  | i, [] => .inl rfl
  | i, j :: l => by
    unfold minI
    rcases minI_mem (if i ≤ j then i else j) l with h | h
    · rw [h]
      split
      · exact .inl rfl
      · exact .inr (List.mem_cons_self ..)
    · exact .inr (List.mem_cons_of_mem _ h)
def maxT (a : T) : Option (T × Bool) := match seqL a with
  | some l => (match asInts l with
    | some (i :: ns) => some (.int (maxI i ns), false)
    | _ => none)
  | none => none
def minT (a : T) : Option (T × Bool) := match seqL a with
  | some l => (match asInts l with
    | some (i :: ns) => some (.int (minI i ns), false)
    | _ => none)
  | none => none
theorem vf_max : VOp1 G k (JF1 (.builtin "max")) maxT := by
  intro X hm hc hr F H a x t fr Q e fz ra q
  subst hm
  refine ⟨fun v H Q => rMax X.K [v] H Q, fun pins s σ H xs us Q I rs ⟨v, e, h⟩ => cr_max hc pins s σ H xs us Q I rs (by rw [e]; exact h), ?_⟩
  unfold maxT at e
  split at e
  · split at e
    · cases e
      rename_i h _ i ns h2
      obtain ⟨p, rfl, h1⟩ := seqL_ints fz h h2 ra
      refine ⟨p, _, rfl, h1, Nat.zero_lt_succ _, fun m hm hy => ?_⟩
      have z1 := maxI_le i ns
      have : m = maxI i ns := by
        refine Int.le_antisymm ?_ (hy _ ?_)
        · rcases List.mem_cons.mp hm with rfl | hm
          · exact z1.1
          · exact z1.2 _ hm
        · rcases maxI_mem i ns with z | z
          · rw [z]; exact List.mem_cons_self ..
          · exact List.mem_cons_of_mem _ z
      subst this
      exact q _ F H (Grow.refl fz) RR.int
    · cases e
  · cases e
theorem vf_min : VOp1 G k (JF1 (.builtin "min")) minT := by
  intro X hm hc hr F H a x t fr Q e fz ra q
  subst hm
  refine ⟨fun v H Q => rMin X.K [v] H Q, fun pins s σ H xs us Q I rs ⟨v, e, h⟩ => cr_min hc pins s σ H xs us Q I rs (by rw [e]; exact h), ?_⟩
  unfold minT at e
  split at e
  · split at e
    · cases e
      rename_i h _ i ns h2
      obtain ⟨p, rfl, h1⟩ := seqL_ints fz h h2 ra
      refine ⟨p, _, rfl, h1, Nat.zero_lt_succ _, fun m hm hy => ?_⟩
      have z1 := minI_le i ns
      have : m = minI i ns := by
        refine Int.le_antisymm (hy _ ?_) ?_
        · rcases minI_mem i ns with z | z
          · rw [z]; exact List.mem_cons_self ..
          · exact List.mem_cons_of_mem _ z
        · rcases List.mem_cons.mp hm with rfl | hm
          · exact z1.1
          · exact z1.2 _ hm
      subst this
      exact q _ F H (Grow.refl fz) RR.int
    · cases e
  · cases e
def max2T : T → T → Option (T × Bool)
  | .int i, .int j => some (.int (if j > i then j else i), false)
  | _, _ => none
def min2T : T → T → Option (T × Bool)
  | .int i, .int j => some (.int (if j < i then j else i), false)
  | _, _ => none
theorem vf_max2 : VOp2 G k (JF2 (.builtin "max")) max2T := by
  intro X hm hc hr F H a b x y t fr Q e fz ra rb q
  refine ⟨fun v w H Q => ∃ i j, v = .int i ∧ w = .int j ∧ Q (.int (if j > i then j else i)) H, fun pins s σ H xs us Q I rs ⟨v, w, e, i, j, h1, h2, h3⟩ => call_max2 hc pins s σ H xs us Q I rs ⟨i, j, by rw [e, h1, h2], h3⟩, ?_⟩
  unfold max2T at e
  split at e
  · cases e
    exact ⟨_, _, ra.int, rb.int, q _ F H (Grow.refl fz) RR.int⟩
  · cases e
theorem vf_min2 : VOp2 G k (JF2 (.builtin "min")) min2T := by
  intro X hm hc hr F H a b x y t fr Q e fz ra rb q
  refine ⟨fun v w H Q => ∃ i j, v = .int i ∧ w = .int j ∧ Q (.int (if j < i then j else i)) H, fun pins s σ H xs us Q I rs ⟨v, w, e, i, j, h1, h2, h3⟩ => call_min2 hc pins s σ H xs us Q I rs ⟨i, j, by rw [e, h1, h2], h3⟩, ?_⟩
  unfold min2T at e
  split at e
  · cases e
    exact ⟨_, _, ra.int, rb.int, q _ F H (Grow.refl fz) RR.int⟩
  · cases e
end
end PT

set_option Elab.async false
set_option linter.all false
set_option maxRecDepth 100000
set_option autoImplicit false
namespace PT
open PySem PySem.Spec L2

section
variable {prog : Program} {w : World} {A : Around} {E : Value → Shared → Prop} {h : Heap} {g : Array GenState} {d : Drawn} {t : Nat} {os : OsState}
variable {nm q : Str} {C N : Addr} {bs bm : List Value} {hdct : Bool} {sn : List Str} {sub : List Value} {ab : Bool} {col : Option Bool} {dd : Option Addr} {k0 k1 k2 k3 k5 : Option Value}
/-- ValueError.__init__ bound to an exception, called -/
theorem call_mw {u e t0 : Addr} {rest : List Value} {Q : Value → Shared → Prop}
    (hC : h.get? C = some (excClassObj nm q C N bs bm hdct sn sub ab col dd k0 k1 k2 k3 k5 "ValueError.__new__")) (he : h.get? e = some (HandSPX.excO C t0)) (hu : h.get? u = some (PySem.W.kxs_mw "ValueError.__init__" e)) (hrest : rest.length ≤ sizeLine)
    (hq : ∀ h' t1, (∀ b o, b ≠ e → h.get? b = some o → h'.get? b = some o) → h'.get? e = some (HandSPX.excO C t1) → Q .none ⟨h', g, d, t, os⟩) :
    wpAny (model prog w) A (call (.ref u) rest) Q E ⟨h, g, d, t, os⟩ := by
  refine wpAny_call (codeAny_of_tree ?_)
  show wpAny _ A.in1 (callAny (.ref u) ⟨rest, []⟩) _ _ _
  simp only [callAny]
  refine wpAny_bind (wpAny_load hu ?_)
  have k : (Value.type "method-wrapper" == Value.type "method" || Value.type "method-wrapper" == Value.type "builtin_function_or_method" || Value.type "method-wrapper" == Value.type "method-wrapper") = true := by decide
  simp only [PySem.W.kxs_mw, k, if_true]
  refine PySem.W.KFB.if_so (by decide) ?_
  refine wpAny_bind (PySem.ESX.check_bound F.excBase_ValueError hC he rfl ?_)
  refine wpAny_bind (wpAny_pure (wpAny_pure ?_))
  refine ⟨Code.quiet_builtin _ (by decide +kernel), codeAny_builtin F.excBase_ValueError.initEntry ?_⟩
  rw [Around.under_plainId F.excBase_ValueError.init.plain _]
  wp_walk
  refine hq _ h.objs.size (fun b o hb ho => ?_) ?_
  · rw [Heap.get?_update_other _ _ (Ne.symm hb)]
    exact Heap.get?_push_of_some _ ho
  · rw [Heap.get?_update_self _ (Heap.get?_push_of_some _ he) rfl]
    rfl
end
abbrev iBody (p0 p1 p2 p3 p4 p5 p6 p7 p8 p9 : Pos) : List Stmt :=
  [.Expr (.Call (.Attribute (.Call (.Name "super" p0) [] [] p1) "__init__" p2) [.Name "reason" p3] [] p4) p5, .Assign [.Attribute (.Name "self" p6) "reason" p7] (.Name "reason" p8) p9]
def spInit (CR : Addr) : Sp := fun vs H Q _ => ∃ a r, vs = [.ref a, .str r] ∧ H a = some (exo a CR none) ∧ ∀ dx, H dx = none → dx ≠ a → Q .non (upd (upd H dx (exd dx [("reason", .str r)])) a (exo a CR (some dx)))
abbrev iN : List Str := ["self", "reason", "__class__"]
open NdefX in
theorem super_init {P : Program} {w : World} {K : PySem.W.Frag} {mg : Str → Option Value} {base : Heap} {CR fI cc cda : Addr} {name qual file : Str} {params : Arguments} {scope : Scope} {dV kV doc pm ct oc ccl cl : Value} {an od cdd cld : Option Addr} {osl vs ccs csl}
    {p0 p1 p2 p3 p4 p5 p6 p7 p8 p9 : Pos} {ar : Arg} {tf : Tok}
    (lk : K.lookup fI = some ⟨oc, od, .func (PySem.W.ksFn name qual params (iBody p0 p1 p2 p3 p4 p5 p6 p7 p8 p9) scope dV kV doc pm an (.ref cda) ct cc), osl⟩)
    (hcd : PySem.W.codeIn K (.ref cda) qual = true) (hcode : K.lookup cda = some ⟨ccl, cdd, .fields vs, ccs⟩) (hvs : vs[2]? = some (.str file tf)) (hfile : ((P.main.file : Str) == file) = true)
    (hcell : K.lookup cc = some ⟨cl, cld, .cell (some (.ref CR)), csl⟩) (S : NScope iN ["self", "reason"] ["__class__"] scope) (hks : scope.names.lookup ("super" : Str) = some .globalImplicit)
    (hp : (params.posonlyargs ++ params.args).head? = some ar) (har : ar.arg = "self") (hmg : mg "super" = none) (htop : (P.main.scope.names.lookup ("super" : Str)).isSome = false)
    (T : OexC K CR) (hno : PySem.W.findIn K (.ref CR) "reason" = some none) (hsub : PySem.W.mroIn K CR (.ref CR) = some true) (hB : PySem.W.subIn K (.ref CR) (.type "ValueError") = some true)
    (hev : ∃ pl : Sem Bool, ∀ env : Env, eval (.Call (.Attribute (.Call (.Name "super" p0) [] [] p1) "__init__" p2) [.Name "reason" p3] [] p4) env = (do
      let ov ← attributeBase (.Call (.Name "super" p0) [] [] p1) "__init__" env (eval (.Call (.Name "super" p0) [] [] p1) env)
      standAt p2.atName
      let (f, first) ← holding [ov] (getMethod ov "__init__" pl)
      callWith p4 f first (backTo p4 (starEach [.Name "reason" p3] env)) []))
    (hm : PySem.W.ks_superIn K CR CR "__init__" = some (some (.builtin "ValueError.__init__"))) (ho : PySem.W.nsIn K cStatics "thirdparty.any" = some none) :
    FnOk P w K mg base L2.CX0 1 fI (PySem.W.ksFn name qual params (iBody p0 p1 p2 p3 p4 p5 p6 p7 p8 p9) scope dV kV doc pm an (.ref cda) ct cc) ["self", "reason"] (spInit CR) := by
  refine ⟨fun vs H Q E q => ?_, fun A outer s H args us vs1 Q E hr e0 hb r hsp => ?_⟩
  · obtain ⟨a, r, rfl, _⟩ := q
    rfl
  · obtain ⟨a, rs, rfl, ea, q⟩ := hsp
    have KX : K.In s.heap := e0.mod.kin.keeps fun b o e => (e0.bs b o e).1
    have lim : s.heap.NoLimit := e0.mod.nolimit.keeps fun b o e => (e0.bs b o e).1
    obtain ⟨u1, u2, rfl, r1, r2⟩ := vals2 r
    cases (show u1 = Value.ref a from r1)
    obtain ⟨tk, rfl⟩ := (show ∃ t, u2 = Value.str rs t from r2)
    refine ks_codeAny_call_defAt (body := iBody p0 p1 p2 p3 p4 p5 p6 p7 p8 p9) (binds := [("self", .ref a), ("reason", .str rs tk)]) hr.depth (KX _ _ lk) rfl lim (PySem.W.codeRec_of KX hcd) rfl hb S.nocell (fun x hx => ?_) (fun h₁ hns hk₁ => ?_) S.co S.gen S.kind
    · rcases List.mem_cons.mp hx with rfl | hx
      · exact S.par _ (by simp)
      · rcases List.mem_cons.mp hx with rfl | hx
        · exact S.par _ (by simp)
        · cases hx
    · have cellA : CellsAt [("__class__", cc)] ["__class__"] [none] s.heap H := {
        len := rfl
        all := fun y c e => by
          have hc : c = cc := by
            have e2 : (match y == ("__class__" : Str) with | true => some cc | false => none) = some c := e
            cases z : (y == ("__class__" : Str)) <;> rw [z] at e2 <;> cases e2
            rfl
          subst hc
          obtain ⟨o, hbo⟩ : ∃ o, base.get? c = some o := ⟨_, e0.mod.kin _ _ hcell⟩
          exact ⟨(e0.bs _ _ hbo).2, _, _, KX _ _ hcell, rfl⟩
        inj := fun x y c e1 e2 => by
          have key : ∀ y c, ([("__class__", cc)] : List (Str × Addr)).lookup y = some c → y = ("__class__" : Str) := fun y c e => by
            have e2 : (match y == ("__class__" : Str) with | true => some cc | false => none) = some c := e
            cases z : (y == ("__class__" : Str)) <;> rw [z] at e2 <;> cases e2
            exact eq_of_beq z
          rw [key x c e1, key y c e2]
        has := fun i y e => by
          cases i with
          | zero =>
            cases e
            exact ⟨cc, rfl, fun v z => by cases z⟩
          | succ i => cases e }
      let F : NF := ⟨name, qual, params, iBody p0 p1 p2 p3 p4 p5 p6 p7 p8 p9, scope, [("__class__", cc)], cda⟩
      have I : Inv (ncx CX0 P w K mg base iN F fI A outer s H E) [] (startF iN [.ref a, .str rs] [none]) H { s with heap := h₁, toks := s.toks + 2 } :=
        inv_startN S hr.hd e0 rfl r cellA hns hk₁
      have X1 : K.In h₁ := KX.keeps hk₁
      obtain ⟨nm, qn, N0, bs, bm, sn, sub, ab, col, dd, k0, k1, k2, k3, k5, hC, hbm⟩ := T.cls
      obtain ⟨t1, hoe⟩ := exo_at I.hok ea
      have hcl : PySem.W.clsIn K CR = some { name := nm, bases := bs, mro := .ref CR :: bm, ns := N0, qualname := qn, hasDict := true, slotNames := sn, subclasses := sub, abstract := ab, collection := col, hasDel := false } := by unfold PySem.W.clsIn; rw [hC] <;> rfl
      obtain ⟨pl, hev⟩ := hev
      have hint : interactive (callEnv (PySem.W.ksFn name qual params (iBody p0 p1 p2 p3 p4 p5 p6 p7 p8 p9) scope dV kV doc pm an (.ref cda) ct cc) s.heap.objs.size fI) = false := by
        show (scope.kind == .module && _) = false
        rw [S.kind]
        rfl
      refine ks_wpAt_execs_cons (ks_wpAt_Expr_any (hi := hint) (hs := by rfl) (ks_wpAt_MethodCall (he := hev _) (ks_wpAt_super_base (env := envF F fI s.heap.objs.size) hks (S.frk _ (by simp)) rfl rfl (X1 _ _ lk) rfl hp rfl (X1 _ _ hcode) rfl hvs hfile htop ?_)))
      obtain ⟨mb, hb1, hb2⟩ := I.mod.blt
      refine PySem.W.ks_loadName_global S.kind hks (Calls.loadGlobal_builtin (I.mod.glob.keeps I.bk) hmg (hb1.keeps I.bk) ((hb2 _ (by decide)).trans PyProof.Rows.Boot.«super») ⟨rfl, ?_⟩)
      refine wpAny_loadName_free S.kind (S.frk _ (by simp)) rfl ⟨_, X1 _ _ hcell, rfl⟩ ?_
      rw [har]
      refine wpAny_loadName_local S.kind (S.par _ (by simp)) hns (v := .ref a) (by rfl) ?_
      refine ks_wpAny_isType_cls (X1 _ _ hC) rfl ⟨rfl, ?_⟩
      refine ks_wpAny_call_super (X1 _ _ hC) rfl hoe rfl (fun c e => nomatch e) (PySem.W.looks_mroIn X1 hsub) (fun h2 e2 kp2 => ?_)
      have I2 := I.kept (t' := s.toks + 2) kp2
      have X2 : K.In h2 := X1.keeps kp2
      have hoe2 := kp2 _ _ hoe
      have inst : PySem.W.InstAt h2 a { cls := .ref CR, dict := none, data := .fields #[.ref t1, .none, .none, .none, .bool false, .none] } CR none := ⟨hoe2, rfl, rfl, trivial⟩
      have hm2 : PySem.W.alongIn K "__init__" (((Value.ref CR :: bm).dropWhile (· != .ref CR)).drop 1) = some (some (.builtin "ValueError.__init__")) := by
        have z := hm
        unfold PySem.W.ks_superIn at z
        rw [hcl] at z
        exact z
      refine PySem.W.kxs_getMethod PySem.W.kxs_ValueError e2 (PySem.W.looks_opaque X2 ho) (l₀ := .ref CR :: bm) (fun A Q E s k q => wpAny_bind ((PySem.W.looks_clsIn X2 hcl) A _ E s k (wpAny_pure q))) rfl X2 hm2 (inst.type.andThen (PySem.W.looks_subIn X2 hB)) (PySem.W.ks_ne X2 inst hcl) rfl ?_
      have kp3 : ∀ b o, h2.get? b = some o → (h2.push (PySem.W.kxs_mw "ValueError.__init__" a)).get? b = some o := fun b o z => Heap.get?_push_of_some _ z
      have I3 := I2.kept (t' := s.toks + 2 + 1) kp3
      have hx : (h2.push (PySem.W.kxs_mw "ValueError.__init__" a)).get? h2.objs.size = some (PySem.W.kxs_mw "ValueError.__init__" a) := Heap.get?_push_size _ rfl
      have I4 := I3.pins_of (pins' := [(h2.objs.size, PySem.W.kxs_mw "ValueError.__init__" a)]) fun p hp => by
        rcases List.mem_cons.mp hp with rfl | hp
        · exact ⟨hx, I2.hok.fresh (Nat.le_refl _), Nat.ne_of_gt I2.lt, I2.nofs (Nat.le_refl _), fun v z => nomatch z⟩
        · cases hp
      have pv1 : ∀ {p : Pos}, PE (ncx CX0 P w K mg base iN F fI A outer s H E) (.Name "reason" p) (tVar 1) := fun {p} => pe_var (i := 1) rfl (.inl (S.par _ (by simp)))
      have pv0 : ∀ {p : Pos}, PE (ncx CX0 P w K mg base iN F fI A outer s H E) (.Name "self" p) (tVar 0) := fun {p} => pe_var (i := 0) rfl (.inl (S.par _ (by simp)))
      refine PySem.W.kxs_callWith (i := "ValueError.__init__") (x := a) rfl (Calls.evalArgs_plain (thn ((pa_cons pv1 pa_nil).run p4 _ _ _ H (fun vs H' => vs = [.str rs] ∧ H' = H) I4 ⟨_, rfl, rfl, rfl⟩) fun us s3 ⟨vs3, H3, I5, r3, ev, eh⟩ => ?_))
      subst ev eh
      have hu3 : s3.heap.get? h2.objs.size = some (PySem.W.kxs_mw "ValueError.__init__" a) := (I5.pin (h2.objs.size, _) (List.mem_append_right _ List.mem_cons_self)).1
      obtain ⟨t3, ho3⟩ := exo_at I5.hok ea
      obtain ⟨h3, g3, d3, k3', os3⟩ := s3
      refine ⟨hu3, call_mw (I5.kIn _ _ hC) ho3 hu3 (show us.length ≤ sizeLine by rw [← r3.length, sizeLine_eq]; simp) fun h4 t4 k4 e4 => ?_⟩
      have J := I5.write (t' := k3') (x := a) (e := a) (o := exo a CR none) (by rw [ea]; exact True.intro) (.inl rfl) k4 ⟨_, e4⟩ (exo_ok e4)
      have eu : upd H3 a (exo a CR none) = H3 := by
        funext b
        by_cases hb : b = a
        · rw [hb, upd_same, ea]
        · rw [upd_ne hb]
      rw [eu] at J
      have J2 : Inv (ncx CX0 P w K mg base iN F fI A outer s H3 E) [] (startF iN [.ref a, .str rs] [none]) H3 ⟨h4, g3, d3, k3', os3⟩ := J.pins_of fun p hp => nomatch hp
      have fin : ∀ dx, H3 dx = none → dx ≠ a → Q .non (upd (upd H3 dx (exd dx [("reason", .str rs)])) a (exo a CR (some dx))) := q
      have asg := (pss_one (ps_ost (f := "reason") (p' := p7) (pos := p9) (pv0 (p := p6)) (pv1 (p := p8)))).run [] _ _ H3 { nx := fun _ H' => Q .non H', rt := Q } J2 ⟨_, rfl, _, rfl, a, CR, rfl, T, hno, .inl ⟨ea, fin⟩⟩
      refine wpAt_of_wpAny (wpAny_mono asg (fun fl s' hs => ?_) fun e s' hs => hs)
      have fin : ∀ {σ' : L2.St} {H' : Hp} {v : V} {u : Value}, Inv (ncx CX0 P w K mg base iN F fI A outer s H3 E) [] σ' H' s' → RelV v u → Q v H' → CE outer P w H3 s Q u s' :=
        fun {σ' H' v u} J rv q => ⟨v, H', J.os, J.bare, J.base, J.hok, rv, q⟩
      cases fl with
      | ret u =>
        obtain ⟨v, σ', H', J, rv, q⟩ := hs
        exact fin J rv q
      | next =>
        obtain ⟨σ', H', J, q⟩ := hs
        exact fin (v := V.non) (u := Value.none) J rfl q
      | brk =>
        obtain ⟨_, _, _, q⟩ := hs
        exact False.elim q
      | cont =>
        obtain ⟨_, _, _, q⟩ := hs
        exact False.elim q
structure ExI (G : MC) (CR fI : Addr) (fd : FuncData) : Prop where
  g : G.mg "Refused" = some (.ref CR)
  T : OexC G.K CR
  iC : PySem.W.findIn G.K (.ref CR) "__init__" = some (some (.ref fI))
  tI : PySem.W.typeIn G.K (.ref fI) = some (.type "function")
  F1 : FnOk G.P G.w G.K G.mg G.base L2.CX0 1 fI fd ["self", "reason"] (spInit CR)
  hb : Binds G.K fd ["self", "reason"] []
section
variable {G : MC} {sc : Scope} {N : List Str} {k : Nat} {pos p p2 p3 : Pos} {CR fI : Addr} {fd : FuncData}
theorem snd_raiseR {m : Str} {j : Nat} (hk : 2 ≤ k) (ex : ExI G CR fI fd) (hg : glB sc "Refused" = true) : SndS G sc N k (.Raise (some (.Call (.Name "Refused" p) [.Constant (.str m) j p2] [] p3)) none pos) (sExc (.rsn m)) := by
  intro X W env σ F H D hd tk h0 q
  have e := hd.mcE
  subst e
  refine .of (ps_raise hd.calm tk (pmk_oex (CX := L2.CX0) ex.T ex.iC ex.tI ex.F1 (hd.room.mono hk) ex.hb .nil (fun _ _ _ _ _ _ _ z => z.elim) (gl_of hd.toGd hg) ex.g (pa_cons pe_str pa_nil))) ?_
  refine ⟨by simp, fun a na => ⟨a, m, rfl, upd_same, fun dx nd dne => ?_⟩⟩
  rw [upd_ne dne] at nd
  refine ⟨rfl, dx, [("reason", .str m)], upd_same, by rw [upd_ne dne, upd_same], nd, ?_⟩
  have keep : Ext H (upd (del (upd (upd (upd H a (exo a CR none)) dx (exd dx [("reason", .str m)])) a (exo a CR (some dx))) a) dx (.xd [("reason", .str m)])) := fun b o e => by
    have h1 := ne_of_none e nd
    have h2 := ne_of_none e na
    rw [upd_ne h1, del_ne h2, upd_ne h2, upd_ne h1, upd_ne h2]
    exact e
  exact q _ _ σ F _ (StepE.of_grow h0 ⟨Ext.refl _, h0.frz.trans keep, fun _ _ z => .inl z, keep⟩).toStepS ⟨CR, dx, _, ex.g, rfl, rfl, upd_same, rfl, nd⟩
end
end PT

set_option Elab.async false
set_option linter.all false
set_option maxRecDepth 100000
set_option autoImplicit false
namespace PT
open PySem PySem.Spec L2

inductive TK where
  | non | bl | int | str | tup | lst | dic
def TK.name : TK → String
  | .non => "NoneType"
  | .bl => "bool"
  | .int => "int"
  | .str => "str"
  | .tup => "tuple"
  | .lst => "list"
  | .dic => "dict"
def tkOf : T → Option TK
  | .non => some .non
  | .bl _ => some .bl
  | .int _ => some .int
  | .str _ => some .str
  | .tup _ => some .tup
  | .kt _ => some .tup
  | .lst _ => some .lst
  | .frz _ => some .lst
  | .dk _ _ => some .dic
  | .dt _ _ => some .dic
  | _ => none
theorem tyx_of {G : MC} {F H : Hp} {t : T} {m : TK} {v : V} (f : Frz F H) (e : tkOf t = some m) (h : RepB G F H t v) : TyX G.K H v (.type m.name) := by
  cases t <;> simp only [tkOf, Option.some.injEq, reduceCtorEq] at e <;> try subst e
  · rw [h.non]; exact .base .non
  · rw [h.bl]; exact .base (.bl _)
  · rw [h.int]; exact .base (.int _)
  · rw [h.str]; exact .base (.str _)
  · simp only [RepB, Rep] at h
    obtain ⟨a, vs, rfl, h2, h3⟩ := h
    exact .base (.tup (f _ _ h2))
  · obtain ⟨a, vs, rfl, h2, h3⟩ := h
    exact .base (.lst h2)
  · obtain ⟨a, vs, rfl, h2, h3⟩ := h
    exact .base (.dK h2)
  · obtain ⟨a, vs, rfl, h2, h3⟩ := h
    exact .base (.dT h2)
  · simp only [RepB, Rep] at h
    obtain ⟨a, vs, rfl, h2, h3⟩ := h
    rcases h2 with (h2 | ⟨o, h2⟩) | ⟨o, its, n, h2, h4, _⟩
    · exact .base (.lst (f _ _ h2))
    · exact .base (.frz (f _ _ h2))
    · exact .kList h2 h4
  · simp only [RepB, Rep] at h
    obtain ⟨a, vs, rfl, h2, h3⟩ := h
    rcases h2 with (h2 | ⟨o, h2⟩) | ⟨o, its, n, h2, h4, _⟩
    · exact .base (.tup (f _ _ h2))
    · exact .fTuple (f _ _ h2)
    · exact .kTuple h2 h4
def isiT (f : TK → Bool) (t : T) : Option (T × Bool) := match tkOf t with
  | some m => some (.bl (f m), false)
  | none => none
structure IsB (id : String) (f : TK → Bool) : Prop where
  kit : ∀ m : TK, kitB m.name id = some (f m)
def is_int (m : TK) : Bool := match m with | .int => true | .bl => true | _ => false
theorem isb_int : IsB "int" is_int := ⟨fun m => by cases m <;> decide +kernel⟩
def is_bool (m : TK) : Bool := match m with | .bl => true | _ => false
theorem isb_bool : IsB "bool" is_bool := ⟨fun m => by cases m <;> decide +kernel⟩
def is_str (m : TK) : Bool := match m with | .str => true | _ => false
theorem isb_str : IsB "str" is_str := ⟨fun m => by cases m <;> decide +kernel⟩
def is_tuple (m : TK) : Bool := match m with | .tup => true | _ => false
theorem isb_tuple : IsB "tuple" is_tuple := ⟨fun m => by cases m <;> decide +kernel⟩
def is_list (m : TK) : Bool := match m with | .lst => true | _ => false
theorem isb_list : IsB "list" is_list := ⟨fun m => by cases m <;> decide +kernel⟩
def is_dict (m : TK) : Bool := match m with | .dic => true | _ => false
theorem isb_dict : IsB "dict" is_dict := ⟨fun m => by cases m <;> decide +kernel⟩
section
variable {G : MC} {sc : Scope} {N : List Str} {k : Nat} {a b c : Expr} {fa fb fc : E} {x cn cn2 : Str} {p p2 p3 pos : Pos} {id id2 : String} {f f2 : TK → Bool} {kt : Nat}
theorem snd_isi1 (ib : IsB id f) (hv : bootBuiltins cn = some (.type id)) (hg : glB sc "isinstance" = true) (hm : G.mg "isinstance" = none) (hg2 : glB sc cn = true) (hm2 : G.mg cn = none) (ha : SndB G sc N k a fa) (hn : cn ≠ "__name__" := by decide) (hdb : (cn == ("__debug__" : Str)) = false := by decide)
    (he : ∀ env, starEach [a, .Name cn p2] env = (false, eval a env) :: starEach [.Name cn p2] env := by intro _; rfl) : SndE G sc N k (.Call (.Name "isinstance" p) [a, .Name cn p2] [] pos) (eUn (isiT f) fa) := by
  intro X W env σ F H Q hd tk h0 q
  have e := hd.mcE
  subst e
  refine .of (pe_callB (id := "isinstance") call_isi (gl_of hd hg) hm (PyProof.Rows.Boot.«isinstance») (pa_cons pe_WE (pa_cons (pe_bltn (v := .ty id) (gl_of hd hg2) hm2 hv rfl hn hdb) pa_nil) (he _)) (by decide) (by decide) (he _) rfl) ?_
  refine one (R := fun x H2 => rIsi X.K [x, .ty id] H2 Q) hd tk h0 ha (fun ta env2 x F2 H2 s rx w => ?_) q
  cases e : isiT f ta with
  | none => rw [e] at w; exact w.elim
  | some p =>
    obtain ⟨t, fr⟩ := p
    rw [e] at w
    unfold isiT at e
    split at e
    · rename_i m em
      cases e
      exact ⟨x, .ty id, .type m.name, .type id, f m, rfl, .ty id, tyx_of s.rel.frz em (rx.toB s.rel.frz), kit_ty (ib.kit m), w _ F2 H2 (StepE.refl s.rel) RR.bl⟩
    · cases e
theorem snd_isi2 (ib : IsB id f) (ib2 : IsB id2 f2) (hv : bootBuiltins cn = some (.type id)) (hv2 : bootBuiltins cn2 = some (.type id2)) (hg : glB sc "isinstance" = true) (hm : G.mg "isinstance" = none) (hg2 : glB sc cn = true) (hm2 : G.mg cn = none) (hg3 : glB sc cn2 = true) (hm3 : G.mg cn2 = none) (ha : SndB G sc N k a fa)
    (hn : cn ≠ "__name__" := by decide) (hdb : (cn == ("__debug__" : Str)) = false := by decide) (hn3 : cn2 ≠ "__name__" := by decide) (hdb3 : (cn2 == ("__debug__" : Str)) = false := by decide)
    (he : ∀ env, starEach [a, .Tuple [.Name cn p2, .Name cn2 p3] kt pos] env = (false, eval a env) :: starEach [.Tuple [.Name cn p2, .Name cn2 p3] kt pos] env := by intro _; rfl) {pos' : Pos} :
    SndE G sc N k (.Call (.Name "isinstance" p) [a, .Tuple [.Name cn p2, .Name cn2 p3] kt pos] [] pos') (eUn (isiT fun m => f m || f2 m) fa) := by
  intro X W env σ F H Q hd tk h0 q
  have e := hd.mcE
  subst e
  refine .of (pe_callB (id := "isinstance") call_isiT (gl_of hd hg) hm (PyProof.Rows.Boot.«isinstance») (pa_cons pe_WE (pa_cons (pe_tup (pa_cons (pe_bltn (v := .ty id) (gl_of hd hg2) hm2 hv rfl hn hdb) (pa_cons (pe_bltn (v := .ty id2) (gl_of hd hg3) hm3 hv2 rfl hn3 hdb3) pa_nil))) pa_nil) (he _)) (by decide) (by decide) (he _) rfl) ?_
  refine one (R := fun x H2 => (2 : Nat) ≤ sizeLine ∧ ∀ p, H2 p = none → rIsiT X.K [x, .ref p] (upd H2 p (.tup [.ty id, .ty id2])) Q) hd tk h0 ha (fun ta env2 x F2 H2 s rx w => ?_) q
  refine ⟨by rw [sizeLine_eq]; decide, fun p np => ?_⟩
  cases e : isiT (fun m => f m || f2 m) ta with
  | none => rw [e] at w; exact w.elim
  | some pr =>
    obtain ⟨t, fr⟩ := pr
    rw [e] at w
    unfold isiT at e
    split at e
    · rename_i m em
      cases e
      have g := Grow.newF (o := .tup [.ty id, .ty id2]) s.rel.frz np
      have s2 := s.trans (StepE.of_grow s.rel g)
      have rx2 := rx.step (StepE.of_grow s.rel g)
      have k1 := kit_ty (K := X.K) (ib.kit m)
      have k2 := kit_ty (K := X.K) (ib2.kit m)
      refine ⟨x, p, _, .type m.name, [.type id, .type id2], f m || f2 m, rfl, upd_same, .cons (.ty id) (.cons (.ty id2) .nil), tyx_of g.frz em (rx2.toB g.frz), ?_, w _ _ _ (StepE.of_grow s.rel g) RR.bl⟩
      unfold PySem.W.kitAny
      rw [k1]
      cases f m with
      | true => rfl
      | false =>
        show PySem.W.kitAny X.K _ [_] = _
        unfold PySem.W.kitAny
        rw [k2]
        cases f2 m with
        | true => rfl
        | false => rfl
    · cases e
/-! -x, x is None, x in xs -/
def negT : T → Option (T × Bool)
  | .int i => some (.int (-i), false)
  | _ => none
theorem v_neg : VOp1 G k (JU .USub) negT := by
  intro X hm hc hr F H a x t fr Q e fz ra q
  unfold negT at e
  split at e
  · cases e
    exact ⟨_, un_neg, _, ra.int, q _ F H (Grow.refl fz) RR.int⟩
  · cases e
def isNon : T → Bool
  | .non => true
  | _ => false
theorem isNon_ok {F H : Hp} {t : T} {v : V} (h : RepB G F H t v) : decide (v = .non) = isNon t := by
  cases t <;> simp only [isNon] <;> first
    | (rw [h.non]; rfl) | (rw [h.bl]; rfl) | (rw [h.int]; rfl) | (rw [h.str]; rfl) | (rw [h.ty]; rfl)
    | (obtain ⟨a, vs, rfl, _⟩ := h; rfl)
    | (simp only [RepB, Rep] at h; obtain ⟨a, vs, rfl, _⟩ := h; rfl)
    | (simp only [RepB, Rep] at h; obtain ⟨a, rfl, _⟩ := h; rfl)
def isOT (a b : T) : Option (T × Bool) := match b with
  | .non => some (.bl (isNon a), false)
  | .bl y => (match a with
    | .bl x => some (.bl (decide (x = y)), false)
    | _ => none)
  | _ => none
def isNotT (a b : T) : Option (T × Bool) := match b with
  | .non => some (.bl (!isNon a), false)
  | .bl y => (match a with
    | .bl x => some (.bl (!decide (x = y)), false)
    | _ => none)
  | _ => none
theorem v_is : VOp2 G k (JC .Is) isOT := by
  intro X hm hc hr F H a b x y t fr Q e fz ra rb q
  unfold isOT at e
  split at e
  · cases e
    rw [rb.non]
    rw [← isNon_ok ra] at q
    exact ⟨_, op_isN, rfl, q _ F H (Grow.refl fz) RR.bl⟩
  · split at e
    · cases e
      rw [ra.bl, rb.bl]
      exact ⟨_, op_isBl, _, _, rfl, rfl, q _ F H (Grow.refl fz) RR.bl⟩
    · cases e
  · cases e
theorem v_isnot : VOp2 G k (JC .IsNot) isNotT := by
  intro X hm hc hr F H a b x y t fr Q e fz ra rb q
  unfold isNotT at e
  split at e
  · cases e
    rw [rb.non]
    rw [← isNon_ok ra] at q
    exact ⟨_, op_notN, rfl, q _ F H (Grow.refl fz) RR.bl⟩
  · split at e
    · cases e
      rw [ra.bl, rb.bl]
      exact ⟨_, op_notBl, _, _, rfl, rfl, q _ F H (Grow.refl fz) RR.bl⟩
    · cases e
  · cases e
def flats : List T → Option (List V)
  | [] => some []
  | t :: l => match flat t with
    | some v => (match flats l with
      | some r => some (v :: r)
      | none => none)
    | none => none
theorem flat_v {t : T} {v : V} (h : flat t = some v) : flatV v = true := by
  cases t <;> first | (cases h; rfl) | cases h
theorem flats_ok {F : Hp} : ∀ {l : List T} {xs vs : List V}, flats l = some xs → Reps G F l vs → vs = xs ∧ xs.all flatV = true
  | [], xs, vs, e, r => by
    simp only [flats, Option.some.injEq] at e
    subst e
    exact ⟨Reps.nil_iff.mp r, rfl⟩
  | t :: l, xs, vs, e, r => by
    simp only [flats] at e
    cases e1 : flat t with
    | none => rw [e1] at e; cases e
    | some v0 =>
      rw [e1] at e
      cases e2 : flats l with
      | none => rw [e2] at e; cases e
      | some r0 =>
        rw [e2] at e
        cases e
        obtain ⟨v, w, rfl, h2, h3⟩ := r.inv
        obtain ⟨h4, h5⟩ := flats_ok e2 h3
        have hv : v = v0 := by
          cases t <;> first | (cases e1; simpa [Rep] using h2) | cases e1
        subst hv h4
        exact ⟨rfl, by rw [List.all_cons, flat_v e1, h5]; rfl⟩
theorem flat_eq {F H : Hp} {t : T} {v w : V} (h : flat t = some v) (r : RepB G F H t w) : w = v := by
  cases t <;> first | (cases h; first | exact r.non | exact r.bl | exact r.int | exact r.str) | cases h
def seqA (t : T) : Option (List T) := match seqL t with
  | some l => some l
  | none => seqT t
theorem RepB.seqA {F H : Hp} {t : T} {l : List T} {v : V} (f : Frz F H) (e : seqA t = some l) (h : RepB G F H t v) : ∃ a vs, v = .ref a ∧ (SqL G.K H a vs ∨ SqT G.K H a vs) ∧ Reps G F l vs := by
  unfold PT.seqA at e
  split at e
  · rename_i h1
    cases e
    obtain ⟨a, vs, h2, h3, h4⟩ := RepB.seqL f h1 h
    exact ⟨a, vs, h2, .inl h3, h4⟩
  · obtain ⟨a, vs, h2, h3, h4⟩ := RepB.seqT f e h
    exact ⟨a, vs, h2, .inr h3, h4⟩
def inR (a b : T) : Option Bool := match flat a, (match seqA b with
    | some l => flats l
    | none => none) with
  | some x, some xs => some (inV x xs)
  | _, _ => (match toD a, toD b with
    | some d, some (.list ds) => if SeqAt.shaped d && SeqAt.shaped (.list ds) then some (ds.any fun z => PyData.eqv z d) else none
    | _, _ => none)
def memT (a b : T) : Option (T × Bool) := match inR a b with
  | some r => some (.bl r, false)
  | none => none
def nmemT (a b : T) : Option (T × Bool) := match inR a b with
  | some r => some (.bl (!r), false)
  | none => none
theorem inR_ok {X : Cx} {F H : Hp} {a b : T} {x y : V} {r : Bool} (hr : Room k X.A) (fz : Frz F H) (e : inR a b = some r) (ra : RepB (mc X) F H a x) (rb : RepB (mc X) F H b y) :
    (∃ p xs, y = .ref p ∧ (SqL X.K H p xs ∨ SqT X.K H p xs) ∧ flatV x = true ∧ xs.all flatV = true ∧ r = inV x xs) ∨
    (∃ d ds, Dp X.K H x d ∧ Dp X.K H y (.list ds) ∧ SeqAt.shaped d = true ∧ SeqAt.shaped (.list ds) = true ∧ r = ds.any fun z => PyData.eqv z d) := by
  unfold inR at e
  split at e
  · rename_i x0 xs0 h1 h2
    cases e
    have ex := flat_eq h1 ra
    subst ex
    cases hs : seqA b with
    | none => rw [hs] at h2; cases h2
    | some l =>
      rw [hs] at h2
      obtain ⟨p, vs, rfl, h3, h4⟩ := RepB.seqA fz hs rb
      obtain ⟨h5, h6⟩ := flats_ok h2 h4
      subst h5
      exact .inl ⟨p, vs, rfl, h3, flat_v h1, h6, rfl⟩
  · split at e
    · split at e
      · cases e
        rename_i d ds h1 h2 h3
        rw [Bool.and_eq_true] at h3
        exact .inr ⟨d, ds, toD_B fz h1 ra, toD_B fz h2 rb, h3.1, h3.2, rfl⟩
      · cases e
    · cases e
theorem v_in : VOp2 G k (JC .In) memT := by
  intro X hm hc hr F H a b x y t fr Q e fz ra rb q
  subst hm
  unfold memT at e
  split at e
  · rename_i r er
    cases e
    rcases inR_ok hr fz er ra rb with ⟨p, xs, rfl, h1, h2, h3, rfl⟩ | ⟨d, ds, h1, h2, h3, h4, rfl⟩
    · exact ⟨_, op_in_seq, p, xs, rfl, h1, h2, h3, q _ F H (Grow.refl fz) RR.bl⟩
    · exact ⟨_, op_inD (by have := hr.un; omega), d, ds, h1, h2, h3, h4, q _ F H (Grow.refl fz) RR.bl⟩
  · cases e
theorem v_notin : VOp2 G k (JC .NotIn) nmemT := by
  intro X hm hc hr F H a b x y t fr Q e fz ra rb q
  subst hm
  unfold nmemT at e
  split at e
  · rename_i r er
    cases e
    rcases inR_ok hr fz er ra rb with ⟨p, xs, rfl, h1, h2, h3, rfl⟩ | ⟨d, ds, h1, h2, h3, h4, rfl⟩
    · exact ⟨_, op_notIn_seq, p, xs, rfl, h1, h2, h3, q _ F H (Grow.refl fz) RR.bl⟩
    · exact ⟨_, op_notInD (by have := hr.un; omega), d, ds, h1, h2, h3, h4, q _ F H (Grow.refl fz) RR.bl⟩
  · cases e
/-! slices -/
inductive ORes where
  | ok (o : Option Int) (env : List Slot) | exc (x : Exc) (env : List Slot) | err
def WishO (G : MC) (env : List Slot) (σ : Sg) (F H : Hp) (r : ORes) (Q : Option Int → Hp → Prop) (W : XK) : Prop :=
  match r with
  | .err => False
  | .ok o env' => ∀ F' H', StepE G env σ F H env' F' H' → Q o H'
  | .exc x env' => ∀ cls d F' H', StepE G env σ F H env' F' H' → XR G H H' x cls d → W cls d H'
def SndO (G : MC) (sc : Scope) (N : List Str) (k : Nat) (o : Option Expr) (f : List Slot → ORes) : Prop :=
  ∀ (X : Cx) (W : WX) (env : List Slot) (σ : Sg) (F H : Hp) (Q : Option Int → Hp → Prop), Gd G sc N k X → Takes X W → ER G env σ F H → WishO G env σ F H (f env) Q (fun c d H' => W c d σ H') → ∃ t, PO X o t ∧ t σ H Q
def oNone : List Slot → ORes := fun env => .ok none env
def oSome (f : E) : List Slot → ORes := fun env => match f env with
  | .ok (.int i) _ env' => .ok (some i) env'
  | .exc x env' => .exc x env'
  | _ => .err
theorem snd_oNone : SndO G sc N k none oNone := fun X W env σ F H Q hd tk h0 q => ⟨_, po_none, q F H (.refl h0)⟩
theorem snd_oSome (ha : SndB G sc N k a fa) : SndO G sc N k (some a) (oSome fa) := by
  intro X W env σ F H Q hd tk h0 q
  refine ⟨_, po_some pe_WE, ?_⟩
  refine ha X W env σ F H _ hd tk h0 ?_
  unfold oSome at q
  cases e : fa env with
  | err => rw [e] at q; exact q
  | exc x env' => rw [e] at q; exact q
  | ok t fr env' =>
    rw [e] at q
    cases t with
    | int i => exact fun v F' H' s r => ⟨i, (r.toB s.rel.frz).int, q F' H' s⟩
    | _ => exact q.elim
def cutT (l : List T) (lo hi : Option Int) : List T := (l.drop (HT.sIx l.length 0 lo)).take (HT.sIx l.length l.length hi - HT.sIx l.length 0 lo)
theorem Reps.cut {F : Hp} {l : List T} {vs : List V} (r : Reps G F l vs) (lo hi : Option Int) : Reps G F (cutT l lo hi) (cutV vs lo hi) := by
  unfold cutT cutV
  rw [r.len]
  exact (r.drop _).take _
def cutR (a : T) (lo hi : Option Int) : Option (T × Bool) := match seqL a with
  | some l => some (.lst (cutT l lo hi), true)
  | none => (match seqT a with
    | some l => if decide (HT.sIx l.length 0 lo = 0) && decide (HT.sIx l.length l.length hi = l.length) then none else some (.tup (cutT l lo hi), false)
    | none => (match a with
      | .str x => if x.length ≤ sizeLine then some (.str (Txt.slice x lo hi), false) else none
      | _ => none))
def eSl (fa : E) (fl fh : List Slot → ORes) : E := eB fa fun a env => match fl env with
  | .ok lo env => (match fh env with
    | .ok hi env => (match cutR a lo hi with
      | some (t, fr) => .ok t fr env
      | none => .err)
    | .exc x env => .exc x env
    | .err => .err)
  | .exc x env => .exc x env
  | .err => .err
theorem cut_ok {X : Cx} {F H : Hp} {a : T} {lo hi : Option Int} {x : V} {t : T} {fr : Bool} {Q : VK} (fz : Frz F H) (e : cutR a lo hi = some (t, fr)) (ra : RepB (mc X) F H a x) (q : ∀ v F' H', Grow F H F' H' → RR (mc X) F' H' H t fr v → Q v H') :
    ∃ r, SlR X r ∧ r x lo hi H Q := by
  unfold cutR at e
  split at e
  · cases e
    rename_i l h
    obtain ⟨p, vs, rfl, h1, r1⟩ := RepB.seqL fz h ra
    refine ⟨_, sl_list, p, vs, rfl, h1, fun p np => ?_⟩
    have z := new_own (G := mc X) (o := ⟨.l, cutT l lo hi⟩) fz np (r1.cut lo hi) trivial
    exact q _ _ _ z.1 z.2
  · split at e
    · split at e
      · cases e
      · cases e
        rename_i l h hne
        obtain ⟨p, vs, rfl, h1, r1⟩ := RepB.seqT fz h ra
        refine ⟨_, sl_tup, p, vs, rfl, h1, fun z => hne ?_, fun p np => ?_⟩
        · rw [r1.len] at z
          rw [Bool.and_eq_true]
          exact ⟨decide_eq_true z.1, decide_eq_true z.2⟩
        · have z := new_tup (G := mc X) fz np (r1.cut lo hi)
          exact q _ _ _ z.1 z.2
    · split at e
      · split at e
        · cases e
          rename_i h
          rw [ra.str]
          exact ⟨_, C8.sl_txt, _, rfl, h, q _ F H (Grow.refl fz) (by simp [RR, Rep])⟩
        · cases e
      · cases e
theorem snd_sl {lo hi : Option Expr} {fl fh : List Slot → ORes} (ha : SndB G sc N k a fa) (hl : SndO G sc N k lo fl) (hh : SndO G sc N k hi fh) : SndE G sc N k (.Subscript a (.Slice lo hi none p2) pos) (eSl fa fl fh) := by
  intro X W env σ F H Q hd tk h0 q
  have e := hd.mcE
  subst e
  refine .of (t := tSl (fun x l u H Q => ∃ r, SlR X r ∧ r x l u H Q) (WE X a) (fun σ H Q => ∃ t, PO X lo t ∧ t σ H Q) (fun σ H Q => ∃ t, PO X hi t ∧ t σ H Q))
    (pe_slice (fun pins s σ H x v vl vu lo hi sl Q I rx hs pl pu ⟨r, h1, h2⟩ => h1 pins s σ H x v vl vu lo hi sl Q I rx hs pl pu h2) pe_WE ⟨fun pins s σ H Q I ⟨_, h, q⟩ => h.run pins s σ H Q I q⟩ ⟨fun pins s σ H Q I ⟨_, h, q⟩ => h.run pins s σ H Q I q⟩) ?_
  refine one (R := fun x H1 => ∃ t, PO X lo t ∧ t σ H1 fun l H2 => ∃ t, PO X hi t ∧ t σ H2 fun u H3 => ∃ r, SlR X r ∧ r x l u H3 Q) hd tk h0 ha (fun ta env1 x F1 H1 s1 r1 w => ?_) q
  refine hl X W env1 σ F1 H1 _ hd tk s1.rel ?_
  cases e1 : fl env1 with
  | err => rw [e1] at w; exact w
  | exc x env' => rw [e1] at w; exact w
  | ok l env2 =>
    rw [e1] at w
    intro F2 H2 s2
    refine hh X W env2 σ F2 H2 _ hd tk s2.rel ?_
    have w2 := w.after s2
    dsimp only at w2
    cases e2 : fh env2 with
    | err => rw [e2] at w2; exact w2
    | exc x env' => rw [e2] at w2; exact w2
    | ok u env3 =>
      rw [e2] at w2
      intro F3 H3 s3
      have w3 := w2.after s3
      dsimp only at w3
      cases e3 : cutR ta l u with
      | none => rw [e3] at w3; exact w3.elim
      | some pr =>
        obtain ⟨t, fr⟩ := pr
        rw [e3] at w3
        exact cut_ok s3.rel.frz e3 (((r1.step s2).step s3).toB s3.rel.frz) fun v F' H' gr r => w3 v F' H' (StepE.of_grow s3.rel gr) r
end
end PT

set_option Elab.async false
set_option linter.all false
set_option maxRecDepth 100000
set_option autoImplicit false
namespace PT
open PySem PySem.Spec L2

/-! what is never reached -/
def eErr : E := fun _ => .err
def sErr : S := fun _ => .err
section
variable {G : MC} {sc : Scope} {N : List Str} {k : Nat}
theorem snd_eErr {e : Expr} : SndE G sc N k e eErr := fun _ _ _ _ _ _ _ _ _ _ q => q.elim
theorem snd_tErr {e : Expr} : SndT G sc N k e eErr := fun _ _ _ _ _ _ _ _ _ _ q => q.elim
theorem snd_sErr {e : Stmt} : SndS G sc N k e sErr := fun _ _ _ _ _ _ _ _ _ _ q => q.elim
theorem snd_ssErr {e : List Stmt} : SndSs G sc N k e sErr := fun _ _ _ _ _ _ _ _ _ _ q => q.elim
end
def IsBlT (g : T → T → Option (T × Bool)) : Prop := ∀ x y t fr, g x y = some (t, fr) → ∃ bb, t = .bl bb ∧ fr = false
theorem bl_eq : IsBlT eqT := by
  intro x y t fr e
  unfold eqT at e
  split at e
  · cases e; exact ⟨_, rfl, rfl⟩
  · split at e
    · split at e
      · cases e; exact ⟨_, rfl, rfl⟩
      · cases e
    · cases e
theorem bl_ne : IsBlT neT := by
  intro x y t fr e
  unfold neT at e
  split at e
  · cases e; exact ⟨_, rfl, rfl⟩
  · split at e
    · split at e
      · cases e; exact ⟨_, rfl, rfl⟩
      · cases e
    · cases e
theorem bl_lt : IsBlT ltT := by
  intro x y t fr e
  unfold ltT at e
  split at e <;> cases e
  exact ⟨_, rfl, rfl⟩
theorem bl_le : IsBlT leT := by
  intro x y t fr e
  unfold leT at e
  split at e <;> cases e
  exact ⟨_, rfl, rfl⟩
theorem bl_gt : IsBlT gtT := by
  intro x y t fr e
  unfold gtT at e
  split at e <;> cases e
  exact ⟨_, rfl, rfl⟩
theorem bl_ge : IsBlT geT := by
  intro x y t fr e
  unfold geT at e
  split at e <;> cases e
  exact ⟨_, rfl, rfl⟩
theorem bl_mem : IsBlT memT := by
  intro x y t fr e
  unfold memT at e
  split at e <;> cases e
  exact ⟨_, rfl, rfl⟩
theorem bl_nmem : IsBlT nmemT := by
  intro x y t fr e
  unfold nmemT at e
  split at e <;> cases e
  exact ⟨_, rfl, rfl⟩
theorem bl_is : IsBlT isOT := by
  intro x y t fr e
  unfold isOT at e
  split at e
  · cases e; exact ⟨_, rfl, rfl⟩
  · split at e <;> cases e
    exact ⟨_, rfl, rfl⟩
  · cases e
theorem bl_isnot : IsBlT isNotT := by
  intro x y t fr e
  unfold isNotT at e
  split at e
  · cases e; exact ⟨_, rfl, rfl⟩
  · split at e <;> cases e
    exact ⟨_, rfl, rfl⟩
  · cases e
/-! in-place operations, by name -/
def iaddT : T → T → Option (T × Bool) := fun a b => match a, b with
  | .int i, .int j => some (.int (i + j), false)
  | _, _ => none
def imulT : T → T → Option (T × Bool) := fun a b => match a, b with
  | .int i, .int j => if small i || small j then some (.int (i * j), false) else none
  | _, _ => none
def ifdivT : T → T → Option (T × Bool) := fun a b => match a, b with
  | .int i, .int j => if fdivOk j then some (.int (i / j), false) else none
  | _, _ => none
def imodT : T → T → Option (T × Bool) := fun a b => match a, b with
  | .int i, .int j => if decide (0 < j) then some (.int (i % j), false) else none
  | _, _ => none
section
variable {G : MC} {k n : Nat}
theorem vi_add : VOp2 G k (JP .Add) iaddT := v_iadd
theorem vi_sub : VOp2 G k (JP .Sub) subT := v_isub
theorem vi_mul : VOp2 G k (JP .Mult) imulT := v_imul
theorem vi_fdiv : VOp2 G k (JP .FloorDiv) ifdivT := v_ifdiv
theorem vi_mod : VOp2 G k (JP .Mod) imodT := v_imod
/-- a module's int, tuple of ints -/
def KInt (G : MC) (x : Str) (i : Int) : Prop := ∃ t, G.mg x = some (.int i t)
theorem k_int {x : Str} {i : Int} (h : KInt G x i) : ∃ v u, (∀ F, Rep G F (.int i) v) ∧ G.mg x = some u ∧ RelV v u := by
  obtain ⟨t, h⟩ := h
  exact ⟨.int i, _, fun F => by simp [Rep], h, t, rfl⟩
def KTup (G : MC) (x : Str) (is : List Int) : Prop := ∃ a, G.mg x = some (.ref a) ∧ ∀ H, SqT G.K H a (is.map V.int)
theorem k_tup {x : Str} {is : List Int} (h : KTup G x is) : ∃ v u, (∀ F, Rep G F (.kt (is.map T.int)) v) ∧ G.mg x = some u ∧ RelV v u := by
  obtain ⟨a, h, h2⟩ := h
  refine ⟨.ref a, _, fun F => ?_, h, rfl⟩
  simp only [Rep]
  exact ⟨a, _, rfl, h2 F, Reps.of_ints⟩
/-- a def as the head has it -/
def defA : Stmt → Arguments
  | .FunctionDef _ a _ _ _ _ _ _ _ _ => a
  | _ => ⟨[], [], none, [], [], none, []⟩
def KDef (G : MC) (x : Str) (st : Stmt) : Prop := ∃ f fd, G.mg x = some (.ref f) ∧ FunD G.K x x (defArgs st) (defBody st) (defScope st) [] [] f fd
def DefBinds (x : Str) (st : Stmt) (ps : List Str) : Prop := ∀ (K : PySem.W.Frag) (f : Addr) (fd : FuncData), FunD K x x (defArgs st) (defBody st) (defScope st) [] [] f fd → Binds K fd ps []
theorem has_def {x : Str} {st : Stmt} {N ps : List Str} {n m : Nat} {b : S} (h : KDef G x st) (S : FnScope N ps (defScope st)) (hb : DefBinds x st ps) (hn : ps.length = n) (hm : N.length = n + m) (q : SndSs G (defScope st) N k (defBody st) b) : FnHas G (k + 1) x n (defF n m b) := by
  obtain ⟨f, fd, h1, h2⟩ := h
  exact fn_has h1 h2 S (hb _ _ _ h2) hn hm q
theorem has_defI {x : Str} {st : Stmt} {N ps : List Str} {n m : Nat} {b : S} (h : KDef G x st) (S : FnScope N ps (defScope st)) (hb : DefBinds x st ps) (hn : ps.length = n + 1) (hm : N.length = n + 1 + m) (q : SndSs G (defScope st) N k (defBody st) b) : FnHasI G (k + 1) x n (defI n m b) := by
  obtain ⟨f, fd, h1, h2⟩ := h
  exact fn_hasI h1 h2 S (hb _ _ _ h2) hn hm q
def fErr : Fn := fun _ => .err
theorem has_zero {x : Str} {st : Stmt} {ps : List Str} (h : KDef G x st) (hb : DefBinds x st ps) : FnHas G k x n fErr := by
  obtain ⟨f, fd, h1, h2⟩ := h
  refine ⟨f, fd, ps, h1, h2.kp, hb _ _ _ h2, ?_⟩
  refine ⟨fun vs H Q E q => ?_, fun A outer s H args us vs Q E _ _ _ _ q => ?_⟩
  · obtain ⟨_, _, _, _, _, q⟩ := q
    exact q.elim
  · obtain ⟨_, _, _, _, _, q⟩ := q
    exact q.elim
end
end PT

set_option Elab.async false
set_option linter.all false
set_option maxRecDepth 100000
set_option autoImplicit false
namespace PT
open PySem PySem.Spec L2

/-! ### the end of a law -/
theorem walk_end {l : PySem.W.OpenLaw} {n k : Nat} {q : Program} {loose : List Str} {XP : (Str → Option Value) → Heap → Prop} {YP : World → Heap → Prop} {d : DefRec} {x : Str}
    (hn : l.most = some n) (hn2 : n ≤ sizeLine) (hdf : d.params.defaults = []) (hr : Room k callerA)
    (F : ∀ (w : World) (mg : Str → Option Value) (fa : Addr) (h : Heap), YP w h → h.Ns mainGlobals mg → mg d.name = some (.ref fa) →
      ∃ (K : PySem.W.Frag) (fd : FuncData) (sp : Sp), K.In h ∧ (∀ (s : Shared) (u : Value), BindsTo s fd ⟨[u], []⟩ [(x, u)]) ∧
        (∀ (H : Hp) (a : Addr) (ns : List Int), ns.length ≤ n → (∀ z ∈ ns, Builtin.Int.intBits z ≤ 1048576) → Only H → SqL K H a (ns.map V.int) → sp [.ref a] H (fun v _ => v = .bl true) fun _ _ _ => False) ∧
        ∀ base : Heap, K.In base → base.Ns mainGlobals mg → FnOk l.prog w K mg base (L2.CX l.prog w) k fa fd [x] sp) :
    PySem.W.WalkO q loose XP YP l.row.toRowW d [] (fun f vs => PySem.call f vs) := by
  refine Att.attach_callB hn hdf fun w s₀ s₁ mg mb fa o pm cd doc a vs ns G Y ho hd hcd hmg hobj hints hlen hbits hg => ?_
  obtain ⟨K, fd, sp, KX, hb, hsp, hF⟩ := F w mg fa _ Y G.T.g hmg
  exact law_call KX G.T.g G.T.b G.T.builtins G.T.nolimit hg hobj hints (Nat.le_trans hlen hn2) hr hF hb (fun H hO hS => hsp H a ns hlen hbits hO hS) fun H e s' h => by
    obtain ⟨_, _, _, _, _, _, _, _, _, _, _, _, z⟩ := h
    exact z
/-- a law's def answers True -/
theorem law_true {G : MC} {k : Nat} {x : Str} {f : Fn} {N : Nat} {fa : Addr} (h : FnHas G k x 1 f) (hm : G.mg x = some (.ref fa)) (hx : ∀ ns : List Int, ns.length ≤ N → (∀ z ∈ ns, Builtin.Int.intBits z ≤ 1048576) → f [.frz (ns.map T.int)] = .ret (.bl true) false) :
    ∃ (fd : FuncData) (ps : List Str), Binds G.K fd ps [] ∧ FnOk G.P G.w G.K G.mg G.base (L2.CX G.P G.w) k fa fd ps (spF G 1 f) ∧
      ∀ (H : Hp) (a : Addr) (ns : List Int), ns.length ≤ N → (∀ z ∈ ns, Builtin.Int.intBits z ≤ 1048576) → SqL G.K H a (ns.map V.int) → spF G 1 f [.ref a] H (fun v _ => v = .bl true) fun _ _ _ => False := by
  obtain ⟨a, fd, ps, h1, h2, h3, h4⟩ := h
  rw [hm] at h1
  cases h1
  refine ⟨fd, ps, h3, h4, fun H a ns hl hz hS => ⟨H, [.frz (ns.map T.int)], rfl, .cons ?_ .nil, Ext.refl _, ?_⟩⟩
  · simp only [Rep]
    exact ⟨a, _, rfl, hS, Reps.of_ints⟩
  · rw [hx ns hl hz]
    intro v F' H' g r
    simpa [RR, Rep] using r

/-! ### the head -/
def clsBody : Stmt → List Stmt
  | .ClassDef (body := b) .. => b
  | _ => []
abbrev InitW : Type := Option (Str × Str × Arguments × FuncBody × Scope × Addr × List Str × Addr)
def initAd (K : PySem.W.Frag) : Addr := He.ma K (He.ga K "Refused") "__init__"
def initW (K : PySem.W.Frag) : InitW := match K.lookup (initAd K) with
  | some ⟨_, _, .func fd, _⟩ => some (fd.name, fd.qualname, fd.params, fd.body, fd.scope, fd.globals, fd.closure.map (·.1), fd.builtins)
  | _ => none
def initV (st : Stmt) : InitW := some ("__init__", "Refused.__init__", defArgs st, .stmts (defBody st), defScope st, mainGlobals, ["__class__"], builtinsNs)
def cellB (K : PySem.W.Frag) (cc : Addr) (CR : Addr) : Bool := match K.lookup cc with
  | some ⟨_, _, .cell (some (.ref D)), _⟩ => D == CR
  | _ => false
theorem cellB_ok {K : PySem.W.Frag} {cc CR : Addr} (h : cellB K cc CR = true) : ∃ cl cld csl, K.lookup cc = some ⟨cl, cld, .cell (some (.ref CR)), csl⟩ := by
  unfold cellB at h
  split at h
  · rename_i e
    have := eq_of_beq h
    subst this
    exact ⟨_, _, _, e⟩
  · cases h
def codeB (K : PySem.W.Frag) (file : Str) (v : Value) : Bool := match v with
  | .ref c => (match K.lookup c with
    | some ⟨_, _, .fields vs, _⟩ => (match (vs.toList)[2]? with
      | some (Value.str f _) => (file == f) && PySem.W.codeIn K (.ref c) "Refused.__init__"
      | _ => false)
    | _ => false)
  | _ => false
theorem codeB_ok {K : PySem.W.Frag} {file : Str} {v : Value} (h : codeB K file v = true) : ∃ cda ccl cdd vs ccs f tf, v = .ref cda ∧ K.lookup cda = some ⟨ccl, cdd, .fields vs, ccs⟩ ∧ vs[2]? = some (.str f tf) ∧ (file == f) = true ∧ PySem.W.codeIn K (.ref cda) "Refused.__init__" = true := by
  unfold codeB at h
  split at h
  · split at h
    · split at h
      · rename_i e1 _ _ _ e2
        rw [Bool.and_eq_true] at h
        exact ⟨_, _, _, _, _, _, _, rfl, e1, (Array.getElem?_toList ..).symm.trans e2, h.1, h.2⟩
      · cases h
    · cases h
  · cases h
def initB (K : PySem.W.Frag) (file : Str) (CR : Addr) : Bool := match K.lookup (initAd K) with
  | some ⟨_, _, .func fd, _⟩ => (match fd.closure with
    | [(_, cc)] => cellB K cc CR && (codeB K file fd.code && (match fd.defaults with
      | .none => true
      | _ => false))
    | _ => false)
  | _ => false
theorem init_of {K : PySem.W.Frag} {file : Str} {CR : Addr} {st : Stmt} (e : initW K = initV st) (h : initB K file CR = true) :
    ∃ (oc : Value) (od : Option Addr) (osl : Array (Option Value)) (kV doc pm ct : Value) (an : Option Addr) (cc cda : Addr) (ccl : Value) (cdd : Option Addr) (vs : Array Value) (ccs : Array (Option Value)) (f : Str) (tf : Tok) (cl : Value) (cld : Option Addr) (csl : Array (Option Value)),
      K.lookup (initAd K) = some ⟨oc, od, .func (PySem.W.ksFn "__init__" "Refused.__init__" (defArgs st) (defBody st) (defScope st) .none kV doc pm an (.ref cda) ct cc), osl⟩ ∧
      K.lookup cda = some ⟨ccl, cdd, .fields vs, ccs⟩ ∧ vs[2]? = some (.str f tf) ∧ (file == f) = true ∧ PySem.W.codeIn K (.ref cda) "Refused.__init__" = true ∧ K.lookup cc = some ⟨cl, cld, .cell (some (.ref CR)), csl⟩ := by
  unfold initW at e
  unfold initB at h
  cases q : K.lookup (initAd K) with
  | none => rw [q] at h; cases h
  | some o =>
    obtain ⟨oc, od, dt, osl⟩ := o
    rw [q] at h e
    cases dt with
    | func fd =>
      obtain ⟨n1, n2, n3, n4, n5, n6, n7, n8, n9, n10, n11, n12, n13, n14, n15⟩ := fd
      have e2 : (some (n1, n2, n3, n4, n5, n6, n7.map (·.1), n15) : InitW) = initV st := e
      simp only [initV, Option.some.injEq, Prod.mk.injEq] at e2
      obtain ⟨h1, h2, h3, h4, h5, h6, h7, h8⟩ := e2
      subst h1 h2 h3 h4 h5 h6 h8
      dsimp only at h
      split at h
      · rename_i nm cc
        simp only [List.map_cons, List.map_nil, List.cons.injEq, and_true] at h7
        subst h7
        rw [Bool.and_eq_true, Bool.and_eq_true] at h
        obtain ⟨hc, hd, hn⟩ := h
        have hn8 : n8 = .none := by
          cases n8 <;> first | rfl | cases hn
        subst hn8
        obtain ⟨cl, cld, csl, h9⟩ := cellB_ok hc
        obtain ⟨cda, ccl, cdd, vs, ccs, f, tf, rfl, h10, h11, h12, h13⟩ := codeB_ok hd
        exact ⟨oc, od, osl, n9, n10, n11, n14, n12, cc, cda, ccl, cdd, vs, ccs, f, tf, cl, cld, csl, rfl, h10, h11, h12, h13, h9⟩
      · cases h
    | _ => cases h
/-- Refused's class -/
def oexB (K : PySem.W.Frag) (C : Addr) : Bool := (match K.lookup C with
  | some ⟨.type "type", _, .cls ⟨_, _, mro, _, _, hd, _, _, _, _, del⟩, sl⟩ => (match mro, sl.toList with
    | .ref C' :: bm, [_, _, _, _, some (.builtin n), _] => (C' == C) && (n == "ValueError.__new__") && hd && !del && PySem.HandSPX.refsVE bm
    | _, _ => false)
  | _ => false) && (decide (PySem.W.findIn K (.ref C) "__setattr__" = some (some (.builtin "object.__setattr__"))) && (decide (PySem.W.subIn K (.ref C) (.type "BaseException") = some true) && (decide (PySem.W.typeIn K (.ref C) = some (.type "type")) && PySem.W.keepIn K (.ref C))))
theorem oexB_ok {K : PySem.W.Frag} {C : Addr} (h : oexB K C = true) : OexC K C := by
  unfold oexB at h
  rw [Bool.and_eq_true, Bool.and_eq_true, Bool.and_eq_true, Bool.and_eq_true] at h
  obtain ⟨h1, h2, h3, h4, h5⟩ := h
  refine ⟨?_, of_decide_eq_true h2, of_decide_eq_true h3, of_decide_eq_true h4, h5⟩
  split at h1
  · rename_i dd nm bs mro ns qn hd sn sub ab col del sl e
    split at h1
    · rename_i C' bm k0 k1 k2 k3 n k5 hs
      simp only [Bool.and_eq_true, beq_iff_eq, Bool.not_eq_true'] at h1
      obtain ⟨⟨⟨⟨rfl, rfl⟩, rfl⟩, rfl⟩, hbm⟩ := h1
      have hsl : sl = #[k0, k1, k2, k3, some (.builtin "ValueError.__new__"), k5] := by
        obtain ⟨l⟩ := sl
        simp only at hs
        rw [hs]
      subst hsl
      exact ⟨nm, qn, ns, bs, bm, sn, sub, ab, col, dd, k0, k1, k2, k3, k5, e, hbm⟩
    · cases h1
  · cases h1
def errB (K : PySem.W.Frag) (file : Str) : Bool :=
  let CM := He.ga K "Malformed"
  let CR := He.ga K "Refused"
  (He.Fa.glo "Malformed").ok K && ((He.Fa.glo "Refused").ok K && ((He.Fa.exc "Malformed").ok K && ((He.Fa.exm "Malformed" "Malformed" true).ok K && ((He.Fa.exm "Refused" "Refused" true).ok K && ((He.Fa.exm "Malformed" "Refused" false).ok K && ((He.Fa.exm "Refused" "Malformed" false).ok K &&
  (xfB K CR && (decide (PySem.W.findIn K (.ref CR) "reason" = some none) && (oexB K CR && (decide (PySem.W.findIn K (.ref CR) "__init__" = some (some (.ref (initAd K)))) && (decide (PySem.W.typeIn K (.ref (initAd K)) = some (.type "function")) && (initB K file CR &&
  (decide (PySem.W.mroIn K CR (.ref CR) = some true) && (decide (PySem.W.subIn K (.ref CR) (.type "ValueError") = some true) && (decide (PySem.W.ks_superIn K CR CR "__init__" = some (some (.builtin "ValueError.__init__"))) && (decide (PySem.W.nsIn K cStatics "thirdparty.any" = some none) && (He.Fa.free "super").ok K))))))))))))))))
structure ErrK (K : PySem.W.Frag) (mg : Str → Option Value) (CM CR fI : Addr) : Prop where
  gM : mg "Malformed" = some (.ref CM)
  gR : mg "Refused" = some (.ref CR)
theorem errB_ok {P : Program} {w : World} {K : PySem.W.Frag} {mg : Str → Option Value} {base h : Heap} {st : Stmt} {file : Str} {ar : Arg} {p0 p1 p2 p3 p4 p5 p6 p7 p8 p9 : Pos} (X : K.In h) (Gn : h.Ns mainGlobals mg) (e : initW K = initV st) (b : errB K file = true) (hfile : P.main.file = file)
    (S : NdefX.NScope iN ["self", "reason"] ["__class__"] (defScope st)) (hbody : defBody st = iBody p0 p1 p2 p3 p4 p5 p6 p7 p8 p9) (hks : (defScope st).names.lookup ("super" : Str) = some .globalImplicit)
    (hp : ((defArgs st).posonlyargs ++ (defArgs st).args).head? = some ar) (har : ar.arg = "self") (htop : (P.main.scope.names.lookup ("super" : Str)).isSome = false)
    (hev : ∃ pl : Sem Bool, ∀ env : Env, eval (.Call (.Attribute (.Call (.Name "super" p0) [] [] p1) "__init__" p2) [.Name "reason" p3] [] p4) env = (do
      let ov ← attributeBase (.Call (.Name "super" p0) [] [] p1) "__init__" env (eval (.Call (.Name "super" p0) [] [] p1) env)
      standAt p2.atName
      let (f, first) ← holding [ov] (getMethod ov "__init__" pl)
      callWith p4 f first (backTo p4 (starEach [.Name "reason" p3] env)) []))
    (hbind : ∀ (kV doc pm ct : Value) (an : Option Addr) (cda cc : Addr) (us : List Value), us.length = 2 → bindArgs (PySem.W.ksFn "__init__" "Refused.__init__" (defArgs st) (defBody st) (defScope st) .none kV doc pm an (.ref cda) ct cc) ⟨us, []⟩ = pure ((["self", "reason"] : List Str).zip us)) :
    ExM ⟨P, w, K, mg, base⟩ (He.ga K "Malformed") ∧ ExR ⟨P, w, K, mg, base⟩ (He.ga K "Malformed") (He.ga K "Refused") ∧ ∃ fd, ExI ⟨P, w, K, mg, base⟩ (He.ga K "Refused") (initAd K) fd := by
  unfold errB at b
  simp only [Bool.and_eq_true, decide_eq_true_eq] at b
  obtain ⟨b1, b2, b3, b4, b5, b6, b7, b8, b9, b10, b11, b12, b13, b14, b15, b16, b17, b18⟩ := b
  have gM := He.glo_ok X Gn b1
  have gR := He.glo_ok X Gn b2
  have x3 : (PySem.W.excIn K (He.ga K "Malformed") He.veBase "ValueError.__new__" && (PySem.W.keepIn K (.ref (He.ga K "Malformed")) && (decide (PySem.W.subIn K (.ref (He.ga K "Malformed")) (.type "BaseException") = some true) && decide (PySem.W.typeIn K (.ref (He.ga K "Malformed")) = some (.type "type"))))) = true := b3
  simp only [Bool.and_eq_true, decide_eq_true_eq] at x3
  obtain ⟨y1, y2, y3, y4⟩ := x3
  have x4 : PySem.W.exmOne K (.ref (He.ga K "Malformed")) (.ref (He.ga K "Malformed")) = some true := of_decide_eq_true b4
  have x5 : PySem.W.exmOne K (.ref (He.ga K "Refused")) (.ref (He.ga K "Refused")) = some true := of_decide_eq_true b5
  have x6 : PySem.W.exmOne K (.ref (He.ga K "Malformed")) (.ref (He.ga K "Refused")) = some false := of_decide_eq_true b6
  have x7 : PySem.W.exmOne K (.ref (He.ga K "Refused")) (.ref (He.ga K "Malformed")) = some false := of_decide_eq_true b7
  refine ⟨⟨gM, y1, y2, y3, y4, x4⟩, ⟨gR, x5, x6, x7, xfB_ok b8, b9⟩, ?_⟩
  obtain ⟨oc, od, osl, kV, doc, pm, ct, an, cc, cda, ccl, cdd, vs, ccs, f, tf, cl, cld, csl, i1, i2, i3, i4, i5, i6⟩ := init_of e b13
  refine ⟨_, gR, oexB_ok b10, b11, b12, ?_, .all fun us hl => hbind kV doc pm ct an cda cc us hl⟩
  rw [hbody] at i1
  rw [hbody]
  exact super_init i1 i5 i2 i3 (by rw [hfile]; exact i4) i6 S hks hp har (He.free_ok X Gn b18) htop (oexB_ok b10) b9 b14 b15 hev b16 b17
/-! what is told of the rest -/
structure HeadD where
  defs : List (Str × Stmt)
  frees : List Str
  cints : List (Str × Int)
  ctups : List (Str × List Int)
  init : Stmt
  file : Str
def dfD (p : Str × Stmt) : He.DefD := ⟨(p.1, none), p.1, p.1, defArgs p.2, defBody p.2, defScope p.2, [], []⟩
def HeadD.okB (D : HeadD) (K : PySem.W.Frag) : Bool := (D.defs.all fun p => (He.Fa.glo p.1).ok K && (dfD p).ok K) && ((D.frees.all fun x => (He.Fa.free x).ok K) && ((D.cints.all fun p => (He.Fa.int p.1 p.2).ok K) && ((D.ctups.all fun p => (He.Fa.glo p.1).ok K && He.tupB K p.1 (p.2.map He.Dv.int)) && errB K D.file)))
abbrev AlH : Type := Bool × List He.FnW × InitW
def HeadD.obs (D : HeadD) (K : PySem.W.Frag) : AlH := (D.okB K, D.defs.map fun p => He.fnW K (p.1, none), initW K)
def HeadD.val (D : HeadD) : AlH := (true, D.defs.map fun p => (dfD p).val, initV D.init)
def HeadD.frag (n : Nat) (g : Addr → Option Obj) : PySem.W.Frag := He.frG g (cStatics :: He.asD g n)
def HeadD.obsG (D : HeadD) (n : Nat) (g : Addr → Option Obj) : AlH := D.obs (HeadD.frag n g)
def HeadD.hook (D : HeadD) (n : Nat) : PySem.W.Hook where
  α := AlH
  obs := fun s => D.obsG n s.heap.get?
  val := fun _ => D.val
  says := fun _ h => ∃ K : PySem.W.Frag, K.In h ∧ D.obs K = D.val
  of := fun _ _ e => ⟨_, He.frG_in, e⟩
  keeps := fun _ _ _ ⟨K, hK, c⟩ k => ⟨K, PySem.W.Frag.In.keeps hK k, c⟩
theorem HeadD.obsG_eq {D : HeadD} {n : Nat} {g : Addr → Option Obj} {s : Shared} (h : ∀ a, g a = s.heap.get? a) : D.obsG n g = (D.hook n).obs s := by
  have e : g = s.heap.get? := funext h
  rw [e] <;> rfl
section
variable {D : HeadD} {P : Program} {w : World} {K : PySem.W.Frag} {mg : Str → Option Value} {base h : Heap}
theorem HeadD.ok_ (c : D.obs K = D.val) : D.okB K = true := congrArg (fun z : AlH => z.1) c
theorem HeadD.initE (c : D.obs K = D.val) : initW K = initV D.init := congrArg (fun z : AlH => z.2.2) c
theorem HeadD.err (c : D.obs K = D.val) : errB K D.file = true := by
  have := D.ok_ c
  unfold HeadD.okB at this
  simp only [Bool.and_eq_true] at this
  exact this.2.2.2.2
theorem HeadD.def_ (X : K.In h) (Gn : h.Ns mainGlobals mg) (c : D.obs K = D.val) (i : Nat) {x : Str} {st : Stmt} (hi : D.defs[i]? = some (x, st)) : KDef ⟨P, w, K, mg, base⟩ x st := by
  have := D.ok_ c
  unfold HeadD.okB at this
  simp only [Bool.and_eq_true] at this
  have h1 := List.all_eq_true.mp this.1 _ (List.mem_of_getElem? hi)
  rw [Bool.and_eq_true] at h1
  have e : D.defs.map (fun p => He.fnW K (p.1, none)) = D.defs.map fun p => (dfD p).val := congrArg (fun z : AlH => z.2.1) c
  have e2 : (D.defs.map fun p => He.fnW K (p.1, none))[i]? = (D.defs.map fun p => (dfD p).val)[i]? := by rw [e]
  rw [List.getElem?_map, List.getElem?_map, hi] at e2
  obtain ⟨fd, F⟩ := He.DefD.funD (d := dfD (x, st)) (Option.some.inj e2) h1.2
  exact ⟨_, fd, He.glo_ok X Gn h1.1, F⟩
theorem HeadD.free_ (X : K.In h) (Gn : h.Ns mainGlobals mg) (c : D.obs K = D.val) (i : Nat) {x : Str} (hi : D.frees[i]? = some x) : mg x = none := by
  have := D.ok_ c
  unfold HeadD.okB at this
  simp only [Bool.and_eq_true] at this
  exact He.free_ok X Gn (List.all_eq_true.mp this.2.1 _ (List.mem_of_getElem? hi))
theorem HeadD.int_ (X : K.In h) (Gn : h.Ns mainGlobals mg) (c : D.obs K = D.val) (i : Nat) {x : Str} {z : Int} (hi : D.cints[i]? = some (x, z)) : KInt ⟨P, w, K, mg, base⟩ x z := by
  have := D.ok_ c
  unfold HeadD.okB at this
  simp only [Bool.and_eq_true] at this
  exact He.int_ok X Gn (List.all_eq_true.mp this.2.2.1 _ (List.mem_of_getElem? hi))
theorem HeadD.tup_ (X : K.In h) (Gn : h.Ns mainGlobals mg) (c : D.obs K = D.val) (i : Nat) {x : Str} {z : List Int} (hi : D.ctups[i]? = some (x, z)) : KTup ⟨P, w, K, mg, base⟩ x z := by
  have := D.ok_ c
  unfold HeadD.okB at this
  simp only [Bool.and_eq_true] at this
  have h1 := List.all_eq_true.mp this.2.2.2.1 _ (List.mem_of_getElem? hi)
  rw [Bool.and_eq_true] at h1
  refine ⟨_, He.glo_ok X Gn h1.1, fun H => ?_⟩
  have q := He.tupB_ok h1.2 H
  rw [List.map_map] at q
  exact q
end
end PT

set_option Elab.async false
set_option linter.all false
set_option maxRecDepth 100000
set_option autoImplicit false
namespace PT
open PySem PySem.Spec L2
section
variable {P : Program} {w : World} {K : PySem.W.Frag} {mg : Str → Option Value} {b b' : Heap} {F : Hp}
mutual
theorem Rep.base : ∀ {t : T} {v : V}, Rep ⟨P, w, K, mg, b⟩ F t v → Rep ⟨P, w, K, mg, b'⟩ F t v
  | .non, _, h => by simpa [Rep] using h
  | .bl _, _, h => by simpa [Rep] using h
  | .int _, _, h => by simpa [Rep] using h
  | .str _, _, h => by simpa [Rep] using h
  | .tup l, _, h => by
    simp only [Rep] at h ⊢
    obtain ⟨a, vs, h1, h2, h3⟩ := h
    exact ⟨a, vs, h1, h2, Reps.base h3⟩
  | .lst l, _, h => by
    simp only [Rep] at h ⊢
    obtain ⟨a, vs, h1, h2, h3⟩ := h
    exact ⟨a, vs, h1, h2, Reps.base h3⟩
  | .dk ks l, _, h => by
    simp only [Rep] at h ⊢
    obtain ⟨a, vs, h1, h2, h4, h3⟩ := h
    exact ⟨a, vs, h1, h2, h4, Reps.base h3⟩
  | .dt ks l, _, h => by
    simp only [Rep] at h ⊢
    obtain ⟨a, vs, h1, h2, h4, h3⟩ := h
    exact ⟨a, vs, h1, h2, h4, Reps.base h3⟩
  | .fn _, _, h => by simpa [Rep] using h
  | .ty _, _, h => by simpa [Rep] using h
  | .frz l, _, h => by
    simp only [Rep] at h ⊢
    obtain ⟨a, vs, h1, h2, h3⟩ := h
    exact ⟨a, vs, h1, h2, Reps.base h3⟩
  | .kt l, _, h => by
    simp only [Rep] at h ⊢
    obtain ⟨a, vs, h1, h2, h3⟩ := h
    exact ⟨a, vs, h1, h2, Reps.base h3⟩
theorem Reps.base : ∀ {l : List T} {vs : List V}, Reps ⟨P, w, K, mg, b⟩ F l vs → Reps ⟨P, w, K, mg, b'⟩ F l vs
  | [], _, h => by simpa [Reps] using h
  | t :: l, _, h => by
    simp only [Reps] at h ⊢
    obtain ⟨v, r, h1, h2, h3⟩ := h
    exact ⟨v, r, h1, Rep.base h2, Reps.base h3⟩
end
end
theorem spF_base {P : Program} {w : World} {K : PySem.W.Frag} {mg : Str → Option Value} {b b' : Heap} {n : Nat} {f : Fn} : spF ⟨P, w, K, mg, b⟩ n f = spF ⟨P, w, K, mg, b'⟩ n f := by
  have e1 : Rep ⟨P, w, K, mg, b⟩ = Rep ⟨P, w, K, mg, b'⟩ := by
    funext F t v
    exact propext ⟨Rep.base, Rep.base⟩
  have e2 : Reps ⟨P, w, K, mg, b⟩ = Reps ⟨P, w, K, mg, b'⟩ := by
    funext F t v
    exact propext ⟨Reps.base, Reps.base⟩
  have e3 : OwnAt ⟨P, w, K, mg, b⟩ = OwnAt ⟨P, w, K, mg, b'⟩ := by
    funext F H o a
    unfold OwnAt
    rw [e2]
  have e4 : RR ⟨P, w, K, mg, b⟩ = RR ⟨P, w, K, mg, b'⟩ := by
    funext F' H' H t fr v
    unfold RR
    cases fr with
    | false => exact congrFun (congrFun (congrFun e1 F') t) v
    | true => simp only [e3]
  funext vs H Q E
  unfold spF WishF
  rw [e2]
  refine propext ⟨fun ⟨F, ts, h1, h2, h3, h4⟩ => ⟨F, ts, h1, h2, h3, ?_⟩, fun ⟨F, ts, h1, h2, h3, h4⟩ => ⟨F, ts, h1, h2, h3, ?_⟩⟩
  · cases e : f ts with
    | ret t fr =>
      rw [e] at h4
      dsimp only at h4 ⊢
      rw [← e4]
      exact h4
    | exc x =>
      rw [e] at h4
      cases x <;> exact h4
    | err => rw [e] at h4; exact h4
  · cases e : f ts with
    | ret t fr =>
      rw [e] at h4
      dsimp only at h4 ⊢
      rw [e4]
      exact h4
    | exc x =>
      rw [e] at h4
      cases x <;> exact h4
    | err => rw [e] at h4; exact h4
theorem law_sp {P : Program} {w : World} {K : PySem.W.Frag} {mg : Str → Option Value} {b : Heap} {f : Fn} {N : Nat} (hx : ∀ ns : List Int, ns.length ≤ N → (∀ z ∈ ns, Builtin.Int.intBits z ≤ 1048576) → f [.frz (ns.map T.int)] = .ret (.bl true) false)
    (H : Hp) (a : Addr) (ns : List Int) (hl : ns.length ≤ N) (hz : ∀ z ∈ ns, Builtin.Int.intBits z ≤ 1048576) (hS : SqL K H a (ns.map V.int)) : spF ⟨P, w, K, mg, b⟩ 1 f [.ref a] H (fun v _ => v = .bl true) fun _ _ _ => False := by
  refine ⟨H, [.frz (ns.map T.int)], rfl, .cons ?_ .nil, Ext.refl _, ?_⟩
  · simp only [Rep]
    exact ⟨a, _, rfl, hS, Reps.of_ints⟩
  · rw [hx ns hl hz]
    intro v F' H' g r
    simpa [RR, Rep] using r
end PT

set_option Elab.async false
set_option linter.all false
set_option maxRecDepth 100000
set_option autoImplicit false
namespace PT
open PySem PySem.Spec L2
/-! ### reckoning with the functions by simp -/
abbrev stO (s t : Int) : OT := ⟨.l, [.int s, .int t]⟩
theorem ixN_nat {n k : Nat} (h : k < n) : L2.ixN n (k : Int) = some k := by
  unfold L2.ixN
  rw [if_pos (by omega), if_pos (by omega)]
  simp
theorem atI_nat {α : Type} (l : List α) (k : Nat) (h : k < l.length) : L2.atI l (k : Int) = l[k]? := by
  unfold L2.atI
  rw [ixN_nat h]
  rfl
@[simp] theorem atI0 {α : Type} (a : α) (l : List α) : L2.atI (a :: l) 0 = some a := atI_nat (a :: l) 0 (by simp)
@[simp] theorem atI1 {α : Type} (a b : α) (l : List α) : L2.atI (a :: b :: l) 1 = some b := atI_nat (a :: b :: l) 1 (by simp)
@[simp] theorem atI2 {α : Type} (a b c : α) (l : List α) : L2.atI (a :: b :: c :: l) 2 = some c := atI_nat (a :: b :: c :: l) 2 (by simp)
@[simp] theorem ixN0 (n : Nat) : L2.ixN (n + 1) 0 = some 0 := ixN_nat (n := n + 1) (k := 0) (by omega)
@[simp] theorem ixN1 (n : Nat) : L2.ixN (n + 2) 1 = some 1 := ixN_nat (n := n + 2) (k := 1) (by omega)
theorem small_of {i : Int} (h1 : -(2 ^ 64) < i) (h2 : i < 2 ^ 64) : small i = true := small_iff.mpr ⟨h1, h2⟩
theorem fdivOk_of {j : Int} (h1 : 0 < j) (h2 : j < 2 ^ 64) : fdivOk j = true := by
  unfold fdivOk
  rw [Bool.and_eq_true]
  refine ⟨decide_eq_true h1, Nat.blt_eq.mpr ?_⟩
  have : j.natAbs < 2 ^ 64 := by omega
  have := PySem.Flt.log2_lt_of (by decide) this
  omega
theorem mulT_s {i j : Int} (h : small j = true) : mulT (.int i) (.int j) = some (.int (i * j), false) := by
  have : mulOk i j = true := by
    unfold mulOk
    rw [h]
    simp
  show (if mulOk i j = true then _ else _) = _
  rw [if_pos this]
theorem mulT_s' {i j : Int} (h : small i = true) : mulT (.int i) (.int j) = some (.int (i * j), false) := by
  have : mulOk i j = true := by
    unfold mulOk
    rw [h]
    simp
  show (if mulOk i j = true then _ else _) = _
  rw [if_pos this]
theorem fdivT_p {i j : Int} (h : fdivOk j = true) : fdivT (.int i) (.int j) = some (.int (i / j), false) := by
  show (if fdivOk j = true then _ else _) = _
  rw [if_pos h]
theorem modT_p {i j : Int} (h : 0 < j) : modT (.int i) (.int j) = some (.int (i % j), false) := by
  show (if decide (0 < j) = true then _ else _) = _
  rw [if_pos (decide_eq_true h)]
section
variable {f g : S} {fa fb fc : E} {fi : I} {gt : Gt} {env : List Slot} {op : T → T → Option (T × Bool)} {op1 : T → Option (T × Bool)} {i j : Nat} {t : T} {a : A} {io : Bool} {b : S} {ts : List T} {x y : Int}
@[simp] theorem ap_nil : sNil env = .nx env := rfl
@[simp] theorem ap_seq : sSeq f g env = (match f env with
  | .nx env' => g env'
  | r => r) := rfl
@[simp] theorem ap_if : sIf fa f g env = (match fa env with
  | .ok t _ env' => (match truthT t with
    | some true => f env'
    | some false => g env'
    | none => .err)
  | .exc x env' => .exc x env'
  | .err => .err) := rfl
@[simp] theorem ap_ret : sRet fa env = (match fa env with
  | .ok t fr env' => .ret t fr env'
  | .exc x env' => .exc x env'
  | .err => .err) := rfl
@[simp] theorem ap_expr : sExpr fa env = (match fa env with
  | .ok _ _ env' => .nx env'
  | .exc x env' => .exc x env'
  | .err => .err) := rfl
@[simp] theorem ap_set : sSet io i fa env = (match fa env with
  | .ok t fr env' => (match put io i t fr env' with
    | some env2 => .nx env2
    | none => .err)
  | .exc x env' => .exc x env'
  | .err => .err) := rfl
@[simp] theorem ap_asg : sAsg gt fa env = (match fa env with
  | .ok t _ env' => (match gt t env' with
    | some env2 => .nx env2
    | none => .err)
  | .exc x env' => .exc x env'
  | .err => .err) := rfl
@[simp] theorem ap_exc {x : Exc} : sExc x env = .exc x env := rfl
@[simp] theorem ap_par {is : List Nat} {ga : AF} : sPar is ga env = (match ga env with
  | .ok ts env' => (match putMany is ts env' with
    | some env2 => .nx env2
    | none => .err)
  | .exc x env' => .exc x env'
  | .err => .err) := rfl
@[simp] theorem ap_for : sFor fi gt b env = (match fi env with
  | .ok l env' => forL gt b l env'
  | .exc x env' => .exc x env'
  | .err => .err) := rfl
@[simp] theorem ap_var : eVar i env = (match env[i]? with
  | some (.val t) => .ok t false env
  | some (.own false o) => .ok o.t false (env.set i (.val o.t))
  | _ => .err) := rfl
@[simp] theorem ap_bor : eBor i env = (match env[i]? with
  | some (.val t) => .ok t false env
  | some (.own false o) => .ok o.t false env
  | _ => .err) := rfl
@[simp] theorem ap_c : eC t env = .ok t false env := rfl
@[simp] theorem ap_bin : eBin op fa fb env = (match fa env with
  | .ok a _ env1 => (match fb env1 with
    | .ok b _ env2 => (match op a b with
      | some (t, fr) => .ok t fr env2
      | none => .err)
    | r => r)
  | r => r) := rfl
@[simp] theorem ap_un : eUn op1 fa env = (match fa env with
  | .ok a _ env1 => (match op1 a with
    | some (t, fr) => .ok t fr env1
    | none => .err)
  | r => r) := rfl
@[simp] theorem ap_chain {op2 : T → T → Option (T × Bool)} : eChain op op2 fa fb fc env = (match fa env with
  | .ok a _ env1 => (match fb env1 with
    | .ok b _ env2 => (match op a b with
      | some (.bl true, _) => (match fc env2 with
        | .ok c _ env3 => (match op2 b c with
          | some (t, fr) => .ok t fr env3
          | none => .err)
        | r => r)
      | some (.bl false, _) => .ok (.bl false) false env2
      | _ => .err)
    | r => r)
  | r => r) := rfl
@[simp] theorem ap_ixIO {j : Int} : eIxIO i j env = (match env[i]? with
  | some (.own _ ⟨.l, ts⟩) => (match atI ts j with
    | some t => .ok t false env
    | none => .err)
  | _ => .err) := rfl
@[simp] theorem ap_not : eNot fa env = (match fa env with
  | .ok t _ env' => (match truthT t with
    | some b => .ok (.bl (!b)) false env'
    | none => .err)
  | r => r) := rfl
@[simp] theorem ap_and : eAnd fa fb env = (match fa env with
  | .ok t _ env' => (match truthT t with
    | some true => fb env'
    | some false => .ok t false env'
    | none => .err)
  | r => r) := rfl
@[simp] theorem ap_or : eOr fa fb env = (match fa env with
  | .ok t _ env' => (match truthT t with
    | some true => .ok t false env'
    | some false => fb env'
    | none => .err)
  | r => r) := rfl
@[simp] theorem ap_eif : eIf fa fb fc env = (match fa env with
  | .ok t _ env' => (match truthT t with
    | some true => fb env'
    | some false => fc env'
    | none => .err)
  | r => r) := rfl
@[simp] theorem ap_anil : aNil env = .ok [] env := rfl
@[simp] theorem ap_acons : aCons fa a env = (match fa env with
  | .ok t _ env1 => (match a env1 with
    | .ok ts env2 => .ok (t :: ts) env2
    | r => r)
  | .exc x env1 => .exc x env1
  | .err => .err) := rfl
@[simp] theorem ap_afnil : afNil env = .ok [] env := rfl
@[simp] theorem ap_afcons {ga : AF} : afCons fa ga env = (match fa env with
  | .ok t fr env1 => (match ga env1 with
    | .ok ts env2 => .ok ((t, fr) :: ts) env2
    | r => r)
  | .exc x env1 => .exc x env1
  | .err => .err) := rfl
@[simp] theorem ap_tup : eTup a env = (match a env with
  | .ok ts env' => if ts.length ≤ sizeLine then .ok (.tup ts) false env' else .err
  | .exc x env' => .exc x env'
  | .err => .err) := rfl
@[simp] theorem ap_lst : eLst a env = (match a env with
  | .ok ts env' => if ts.length ≤ sizeLine then .ok (.lst ts) true env' else .err
  | .exc x env' => .exc x env'
  | .err => .err) := rfl
@[simp] theorem ap_call {n : Nat} {F : Fn} : eCall n F a env = (match a env with
  | .ok ts env' => callF n F ts env'
  | .exc x env' => .exc x env'
  | .err => .err) := rfl
@[simp] theorem ap_callF {n : Nat} {F : Fn} : callF n F ts env = (if ts.length = n then (match F ts with
  | .ret t fr => .ok t fr env
  | .exc x => .exc x env
  | .err => .err) else .err) := rfl
@[simp] theorem ap_calli {n : Nat} {F : FnI} : eCallI n F i a env = (match env[i]? with
  | some (.own true _) => (match a env with
    | .ok ts env' => callI n F i ts env'
    | .exc x env' => .exc x env'
    | .err => .err)
  | _ => .err) := rfl
@[simp] theorem ap_callI {n : Nat} {F : FnI} : callI n F i ts env = (match env[i]? with
  | some (.own true o) => if ts.length = n then (match F o ts with
    | .ret t fr o' => .ok t fr (env.set i (.own true o'))
    | .exc x o' => .exc x (env.set i (.own true o'))
    | .err => .err) else .err
  | _ => .err) := rfl
@[simp] theorem ap_iseq : iSeq fa env = (match fa env with
  | .ok (.lst l) _ env' => .ok l env'
  | .ok (.tup l) _ env' => .ok l env'
  | .ok (.frz l) _ env' => .ok l env'
  | .ok (.kt l) _ env' => .ok l env'
  | .exc x env' => .exc x env'
  | _ => .err) := rfl
@[simp] theorem ap_range1 : iRange1 fa env = (match fa env with
  | .ok (.int j) _ env' => if okR j then .ok (rangeT 0 j.toNat) env' else .err
  | .exc x env' => .exc x env'
  | _ => .err) := rfl
@[simp] theorem ap_range2 : iRange2 fa fb env = (match fa env with
  | .ok (.int i) _ env1 => (match fb env1 with
    | .ok (.int j) _ env' => if okR i && okR j then .ok (rangeT i (j - i).toNat) env' else .err
    | .exc x env' => .exc x env'
    | _ => .err)
  | .exc x env' => .exc x env'
  | _ => .err) := rfl
@[simp] theorem ap_gN : gN i t env = put false i t false env := rfl
@[simp] theorem ap_gTupT {n : Nat} {G : List T → List Slot → Option (List Slot)} : gTup' n G (.tup ts) env = (if ts.length = n then G ts env else none) := rfl
@[simp] theorem ap_gTupL {n : Nat} {G : List T → List Slot → Option (List Slot)} : gTup' n G (.lst ts) env = (if ts.length = n then G ts env else none) := rfl
@[simp] theorem ap_gNil : gNil' [] env = some env := rfl
@[simp] theorem ap_gCons {G : List T → List Slot → Option (List Slot)} : gCons' gt G (t :: ts) env = (gt t env).bind (G ts) := rfl
@[simp] theorem ap_put : put false i t false env = (match env[i]? with
  | none => none
  | some (.own true _) => none
  | some _ => some (env.set i (.val t))) := rfl
@[simp] theorem ap_putL : put io i (.lst ts) true env = (match env[i]? with
  | none => none
  | some (.own true _) => none
  | some _ => some (env.set i (.own io ⟨.l, ts⟩))) := rfl
@[simp] theorem ap_putDk {ks : List Key} : put io i (.dk ks ts) true env = (match env[i]? with
  | none => none
  | some (.own true _) => none
  | some _ => some (env.set i (.own io ⟨.dk ks, ts⟩))) := rfl
@[simp] theorem ap_putDt {ks : List (List Key)} : put io i (.dt ks ts) true env = (match env[i]? with
  | none => none
  | some (.own true _) => none
  | some _ => some (env.set i (.own io ⟨.dt ks, ts⟩))) := rfl
@[simp] theorem ap_putM0 : putMany [] [] env = some env := rfl
@[simp] theorem ap_putM {is : List Nat} {p : T × Bool} {ps : List (T × Bool)} : putMany (i :: is) (p :: ps) env = (put false i p.1 p.2 env).bind (putMany is ps) := rfl
@[simp] theorem tr_bl {b : Bool} : truthT (.bl b) = some b := rfl
@[simp] theorem tr_int : truthT (.int x) = some (x != 0) := rfl
@[simp] theorem tr_non : truthT .non = some false := rfl
@[simp] theorem op_addI : addT (.int x) (.int y) = some (.int (x + y), false) := rfl
@[simp] theorem op_subI : subT (.int x) (.int y) = some (.int (x - y), false) := rfl
@[simp] theorem op_iaddI : iaddT (.int x) (.int y) = some (.int (x + y), false) := rfl
@[simp] theorem op_negI : negT (.int x) = some (.int (-x), false) := rfl
@[simp] theorem op_absI : absT (.int x) = some (.int (if x < 0 then -x else x), false) := rfl
@[simp] theorem op_intI : intT (.int x) = some (.int x, false) := rfl
@[simp] theorem op_intB {b : Bool} : intT (.bl b) = some (.int (if b then 1 else 0), false) := rfl
@[simp] theorem op_eqI : eqT (.int x) (.int y) = some (.bl (x == y), false) := rfl
@[simp] theorem op_neI : neT (.int x) (.int y) = some (.bl (!(x == y)), false) := rfl
@[simp] theorem op_ltI : ltT (.int x) (.int y) = some (.bl (decide (x < y)), false) := rfl
@[simp] theorem op_leI : leT (.int x) (.int y) = some (.bl (decide (x ≤ y)), false) := rfl
@[simp] theorem op_gtI : gtT (.int x) (.int y) = some (.bl (decide (y < x)), false) := rfl
@[simp] theorem op_geI : geT (.int x) (.int y) = some (.bl (decide (y ≤ x)), false) := rfl
@[simp] theorem op_ixT {i : Int} : ixT (.tup ts) (.int i) = (match atI ts i with
  | some t => some (t, false)
  | none => none) := rfl
@[simp] theorem op_ixL {i : Int} : ixT (.lst ts) (.int i) = (match atI ts i with
  | some t => some (t, false)
  | none => none) := rfl
@[simp] theorem op_ixK {i : Int} : ixT (.kt ts) (.int i) = (match atI ts i with
  | some t => some (t, false)
  | none => none) := rfl
@[simp] theorem op_isiI {F : TK → Bool} : isiT F (.int x) = some (.bl (F .int), false) := rfl
@[simp] theorem op_isiT {F : TK → Bool} : isiT F (.tup ts) = some (.bl (F .tup), false) := rfl
@[simp] theorem op_isiB {F : TK → Bool} {b : Bool} : isiT F (.bl b) = some (.bl (F .bl), false) := rfl
@[simp] theorem ot_l : (⟨.l, ts⟩ : OT).t = .lst ts := rfl
@[simp] theorem size_le {n : Nat} (h : n ≤ 1000) : (n ≤ sizeLine) = True := by
  rw [sizeLine_eq]
  exact eq_true (by omega)
theorem defF_app {n m : Nat} {body : S} {l : List T} : defF n m body l = (match body (l.map Slot.val ++ List.replicate m .un) with
  | .ret t fr _ => .ret t fr
  | .nx _ => .ret .non false
  | .exc x _ => .exc x
  | _ => .err) := rfl
@[simp] theorem forL_nil : forL gt b [] env = .nx env := rfl
theorem forL_cons : forL gt b (t :: ts) env = (match gt t env with
  | none => .err
  | some env1 => (match b env1 with
    | .nx env2 => forL gt b ts env2
    | .cont env2 => forL gt b ts env2
    | .brk env2 => .nx env2
    | o => o)) := rfl
theorem whileN_succ {n : Nat} : whileN (n + 1) fa b env = (match fa env with
  | .ok t _ env1 => (match truthT t with
    | some true => (match b env1 with
      | .nx env2 => whileN n fa b env2
      | .cont env2 => whileN n fa b env2
      | .brk env2 => .nx env2
      | r => r)
    | some false => .nx env1
    | none => .err)
  | .exc x env1 => .exc x env1
  | .err => .err) := rfl
end
end PT

set_option autoImplicit false
namespace K55
open PySem
def top (i : Nat) : Stmt := PySem.Challenge.pw_classledger_k55_points_over_greater_fiel.main.body.getD i (.Pass ⟨0, 0, 0, 0⟩)
end K55

set_option Elab.async false
set_option linter.all false
set_option maxRecDepth 1000000
set_option maxHeartbeats 0
set_option autoImplicit false
namespace K55
open PySem PySem.Spec L2 PT
structure Fx (G : MC) (CM CR fI : Addr) (fdI : FuncData) : Prop where
  exM : ExM G CM
  exR : ExR G CM CR
  exI : ExI G CR fI fdI
  b_abs : G.mg "abs" = none
  b_all : G.mg "all" = none
  b_bool : G.mg "bool" = none
  b_int : G.mg "int" = none
  b_isinstance : G.mg "isinstance" = none
  b_len : G.mg "len" = none
  b_list : G.mg "list" = none
  b_range : G.mg "range" = none
  b_str : G.mg "str" = none
  b_sum : G.mg "sum" = none
  b_tuple : G.mg "tuple" = none
  c_BASES : KTup G "BASES" [2, 3, 5, 7, 11, 13, 17, 19, 23, 29, 31, 37, 41]
  c_MOST_COUNTED : KInt G "MOST_COUNTED" 10000
  c_MOST_POWER : KInt G "MOST_POWER" 100
  c_MOST_PRIME : KInt G "MOST_PRIME" 10000000000
  c_PROVEN : KInt G "PROVEN" 3317044064679887385961981
  d__law_state : KDef G "_law_state" (top 68)
  d__law_take : KDef G "_law_take" (top 69)
  d__law_is_smooth : KDef G "_law_is_smooth" (top 73)
  d__law_curve : KDef G "_law_curve" (top 74)
  d__law_odd : KDef G "_law_odd" (top 66)
  d__law_plain : KDef G "_law_plain" (top 67)
  d_is_integer : KDef G "is_integer" (top 5)
  d_power : KDef G "power" (top 12)
  d_stands_round : KDef G "stands_round" (top 20)
  d_is_prime : KDef G "is_prime" (top 21)
  d_is_curve_prime : KDef G "is_curve_prime" (top 38)
  d_check_prime : KDef G "check_prime" (top 51)
  d_check_numbers : KDef G "check_numbers" (top 52)
  d_raised : KDef G "raised" (top 8)
  d_number_over : KDef G "number_over" (top 53)
  d__law_no_word : KDef G "_law_no_word" (top 65)
  d__law_told : KDef G "_law_told" (top 79)
  d_is_rest : KDef G "is_rest" (top 37)
  d_is_curve : KDef G "is_curve" (top 39)
  d_check_curve : KDef G "check_curve" (top 41)
  d_right_side : KDef G "right_side" (top 40)
  d_counted : KDef G "counted" (top 56)
  d_number_of : KDef G "number_of" (top 62)
  d_curve_trace : KDef G "curve_trace" (top 63)
  d__law_symbols : KDef G "_law_symbols" (top 71)
  d__law_cubic : KDef G "_law_cubic" (top 72)
  d__law_count : KDef G "_law_count" (top 75)
  d__law_power : KDef G "_law_power" (top 70)
  d__law_nonsquare : KDef G "_law_nonsquare" (top 76)
  d__law_mul : KDef G "_law_mul" (top 77)
  d__law_plus : KDef G "_law_plus" (top 78)
  d__law_walked : KDef G "_law_walked" (top 80)
  d__law_due : KDef G "_law_due" (top 81)
  d_law : KDef G "law" (top 82)
section
variable {G : MC} {CM CR fI : Addr} {fdI : FuncData}
/-! _law_state -/
abbrev N__law_state : List Str := ["script", "seed", "total", "cell"]
theorem sc__law_state : FnScope N__law_state ["script"] (defScope (top 68)) := ⟨rfl, rfl, rfl, by decide +kernel, rfl, by decide +kernel, by decide +kernel⟩
theorem bd__law_state : DefBinds "_law_state" (top 68) ["script"] := fun K f fd F => FunD.bindsN F fun _ _ _ _ _ _ us hl => match us, hl with | [_], _ => rfl
def f__law_state : Fn := defF 1 3
    (sSeq (sSet false 1 (eC (.int 0)))
    (sSeq (sSet false 2 (eC (.int 1)))
    (sSeq (sFor (iSeq (eSl (eBor 0) oNone (oSome (eC (.int 63))))) (gN 3) (sSeq (sSet false 1 (eBin addT (eBin mulT (eBor 1) (eC (.int 1000003))) (eUn absT (eBor 3))))
    (sSet false 2 (eBin modT (eUn intT (eBin addT (eBin mulT (eBor 2) (eC (.int 48271))) (eBor 3))) (eC (.int 2147483647))))))
    (sRet (eLst (aCons (eVar 1) (aCons (eVar 2) aNil)))))))
theorem has__law_state (fx : Fx G CM CR fI fdI) : FnHas G 3 "_law_state" 1 f__law_state :=
  has_def (k := 2) fx.d__law_state sc__law_state bd__law_state rfl rfl
    (snd_seq (snd_set (io := false) rfl (by kernel_rfl) snd_int)
    (snd_seq (snd_set (io := false) rfl (by kernel_rfl) snd_int)
    (snd_seq (snd_for (snd_iSeq (snd_sl (snd_bor rfl (by kernel_rfl)) snd_oNone (snd_oSome (SndE.b snd_int)))) (snd_gN (i := 3) rfl (by kernel_rfl)) (snd_seq (snd_set (io := false) rfl (by kernel_rfl) (snd_bin v_add (SndE.b (snd_bin v_mul (snd_bor rfl (by kernel_rfl)) (SndE.b snd_int))) (SndE.b (snd_f1 vf_abs (by kernel_rfl) fx.b_abs PyProof.Rows.Boot.«abs» (snd_bor rfl (by kernel_rfl))))))
    (snd_one (snd_set (io := false) rfl (by kernel_rfl) (snd_bin v_mod (SndE.b (snd_t1 vf_int (by kernel_rfl) fx.b_int PyProof.Rows.Boot.«int» (SndE.b (snd_bin v_add (SndE.b (snd_bin v_mul (snd_bor rfl (by kernel_rfl)) (SndE.b snd_int))) (snd_bor rfl (by kernel_rfl)))))) (SndE.b snd_int))))))
    (snd_one (snd_ret (snd_lst (snd_aCons (snd_var rfl (by kernel_rfl)) (snd_aCons (snd_var rfl (by kernel_rfl)) snd_aNil))))))))
/-! _law_take -/
abbrev N__law_take : List Str := ["state", "m", "value"]
theorem sc__law_take : FnScope N__law_take ["state", "m"] (defScope (top 69)) := ⟨rfl, rfl, rfl, by decide +kernel, rfl, by decide +kernel, by decide +kernel⟩
theorem bd__law_take : DefBinds "_law_take" (top 69) ["state", "m"] := fun K f fd F => FunD.bindsN F fun _ _ _ _ _ _ us hl => match us, hl with | [_, _], _ => rfl
def f__law_take : FnI := defI 1 1
    (sSeq (sIf (eBin gtT (eIxIO 0 0) (eC (.int 0))) (sSeq (sSet false 2 (eBin modT (eUn intT (eIxIO 0 0)) (eBor 1)))
    (sSeq (sAsg (gSetL 0 (eC (.int 0))) (eBin fdivT (eIxIO 0 0) (eBor 1)))
    (sRet (eVar 2)))) sNil)
    (sSeq (sAsg (gSetL 0 (eC (.int 1))) (eBin modT (eUn intT (eBin addT (eBin mulT (eIxIO 0 1) (eC (.int 48271))) (eC (.int 11)))) (eC (.int 2147483647))))
    (sRet (eBin modT (eUn intT (eBin fdivT (eIxIO 0 1) (eC (.int 7)))) (eBor 1)))))
theorem has__law_take (fx : Fx G CM CR fI fdI) : FnHasI G 3 "_law_take" 1 f__law_take :=
  has_defI (k := 2) fx.d__law_take sc__law_take bd__law_take rfl rfl
    (snd_seq (snd_ifS (snd_tCmp v_gt bl_gt (SndE.b (snd_ixIO rfl (by kernel_rfl))) (SndE.b snd_int)) (snd_seq (snd_set (io := false) rfl (by kernel_rfl) (snd_bin v_mod (SndE.b (snd_t1 vf_int (by kernel_rfl) fx.b_int PyProof.Rows.Boot.«int» (SndE.b (snd_ixIO rfl (by kernel_rfl))))) (snd_bor rfl (by kernel_rfl))))
    (snd_seq (snd_asg (snd_gSetL rfl (by kernel_rfl) snd_int) (snd_bin v_fdiv (SndE.b (snd_ixIO rfl (by kernel_rfl))) (snd_bor rfl (by kernel_rfl))))
    (snd_one (snd_ret (snd_var rfl (by kernel_rfl)))))) snd_nil)
    (snd_seq (snd_asg (snd_gSetL rfl (by kernel_rfl) snd_int) (snd_bin v_mod (SndE.b (snd_t1 vf_int (by kernel_rfl) fx.b_int PyProof.Rows.Boot.«int» (SndE.b (snd_bin v_add (SndE.b (snd_bin v_mul (SndE.b (snd_ixIO rfl (by kernel_rfl))) (SndE.b snd_int))) (SndE.b snd_int))))) (SndE.b snd_int)))
    (snd_one (snd_ret (snd_bin v_mod (SndE.b (snd_t1 vf_int (by kernel_rfl) fx.b_int PyProof.Rows.Boot.«int» (SndE.b (snd_bin v_fdiv (SndE.b (snd_ixIO rfl (by kernel_rfl))) (SndE.b snd_int))))) (snd_bor rfl (by kernel_rfl)))))))
/-! _law_is_smooth -/
abbrev N__law_is_smooth : List Str := ["p", "a", "b"]
theorem sc__law_is_smooth : FnScope N__law_is_smooth ["p", "a", "b"] (defScope (top 73)) := ⟨rfl, rfl, rfl, by decide +kernel, rfl, by decide +kernel, by decide +kernel⟩
theorem bd__law_is_smooth : DefBinds "_law_is_smooth" (top 73) ["p", "a", "b"] := fun K f fd F => FunD.bindsN F fun _ _ _ _ _ _ us hl => match us, hl with | [_, _, _], _ => rfl
def f__law_is_smooth : Fn := defF 3 0
    (sRet (eBin neT (eBin modT (eUn intT (eBin addT (eBin mulT (eBin mulT (eBin mulT (eC (.int 4)) (eBor 1)) (eBor 1)) (eBor 1)) (eBin mulT (eBin mulT (eC (.int 27)) (eBor 2)) (eBor 2)))) (eBor 0)) (eC (.int 0))))
theorem has__law_is_smooth (fx : Fx G CM CR fI fdI) : FnHas G 3 "_law_is_smooth" 3 f__law_is_smooth :=
  has_def (k := 2) fx.d__law_is_smooth sc__law_is_smooth bd__law_is_smooth rfl rfl
    (snd_one (snd_ret (snd_cmp v_ne (SndE.b (snd_bin v_mod (SndE.b (snd_t1 vf_int (by kernel_rfl) fx.b_int PyProof.Rows.Boot.«int» (SndE.b (snd_bin v_add (SndE.b (snd_bin v_mul (SndE.b (snd_bin v_mul (SndE.b (snd_bin v_mul (SndE.b snd_int) (snd_bor rfl (by kernel_rfl)))) (snd_bor rfl (by kernel_rfl)))) (snd_bor rfl (by kernel_rfl)))) (SndE.b (snd_bin v_mul (SndE.b (snd_bin v_mul (SndE.b snd_int) (snd_bor rfl (by kernel_rfl)))) (snd_bor rfl (by kernel_rfl)))))))) (snd_bor rfl (by kernel_rfl)))) (SndE.b snd_int))))
/-! _law_curve -/
abbrev N__law_curve : List Str := ["state", "p", "a", "b"]
theorem sc__law_curve : FnScope N__law_curve ["state", "p"] (defScope (top 74)) := ⟨rfl, rfl, rfl, by decide +kernel, rfl, by decide +kernel, by decide +kernel⟩
theorem bd__law_curve : DefBinds "_law_curve" (top 74) ["state", "p"] := fun K f fd F => FunD.bindsN F fun _ _ _ _ _ _ us hl => match us, hl with | [_, _], _ => rfl
def f__law_curve : FnI := defI 1 2
    (sSeq (sPar [2, 3] (afCons (eCallI 1 f__law_take 0 (aCons (eVar 1) aNil)) (afCons (eCallI 1 f__law_take 0 (aCons (eVar 1) aNil)) afNil)))
    (sSeq (sIf (eBin eqT (eCallI 1 f__law_take 0 (aCons (eC (.int 8)) aNil)) (eC (.int 0))) (sSet false 2 (eC (.int 0))) sNil)
    (sSeq (sIf (eBin eqT (eCallI 1 f__law_take 0 (aCons (eC (.int 8)) aNil)) (eC (.int 0))) (sSet false 3 (eC (.int 0))) sNil)
    (sSeq (whileN 1000000 (eNot (eCall 3 f__law_is_smooth (aCons (eVar 1) (aCons (eVar 2) (aCons (eVar 3) aNil))))) (sSet false 3 (eBin modT (eUn intT (eBin addT (eBor 3) (eC (.int 1)))) (eBor 1))))
    (sRet (eTup (aCons (eVar 1) (aCons (eVar 2) (aCons (eVar 3) aNil)))))))))
theorem has__law_curve (fx : Fx G CM CR fI fdI) : FnHasI G 4 "_law_curve" 1 f__law_curve :=
  has_defI (k := 3) fx.d__law_curve sc__law_curve bd__law_curve rfl rfl
    (snd_seq (snd_par2 (i := 2) (j := 3) rfl rfl (by decide) (by kernel_rfl) (by kernel_rfl) (snd_afCons (snd_callI (FnHasI.mono (has__law_take fx) (by omega)) (by kernel_rfl) rfl (by kernel_rfl) (snd_aCons (snd_var rfl (by kernel_rfl)) snd_aNil)) (snd_afCons (snd_callI (FnHasI.mono (has__law_take fx) (by omega)) (by kernel_rfl) rfl (by kernel_rfl) (snd_aCons (snd_var rfl (by kernel_rfl)) snd_aNil)) snd_afNil)) (by intro env h; obtain ⟨⟩ := env; dsimp only at h; subst h; kernel_rfl))
    (snd_seq (snd_ifS (snd_tCmp v_eq bl_eq (SndE.b (snd_callI (FnHasI.mono (has__law_take fx) (by omega)) (by kernel_rfl) rfl (by kernel_rfl) (snd_aCons snd_int snd_aNil))) (SndE.b snd_int)) (snd_one (snd_set (io := false) rfl (by kernel_rfl) snd_int)) snd_nil)
    (snd_seq (snd_ifS (snd_tCmp v_eq bl_eq (SndE.b (snd_callI (FnHasI.mono (has__law_take fx) (by omega)) (by kernel_rfl) rfl (by kernel_rfl) (snd_aCons snd_int snd_aNil))) (SndE.b snd_int)) (snd_one (snd_set (io := false) rfl (by kernel_rfl) snd_int)) snd_nil)
    (snd_seq (snd_while (snd_tNot (SndB.t (SndE.b (snd_call (FnHas.mono (has__law_is_smooth fx) (by omega)) (by kernel_rfl) (snd_aCons (snd_var rfl (by kernel_rfl)) (snd_aCons (snd_var rfl (by kernel_rfl)) (snd_aCons (snd_var rfl (by kernel_rfl)) snd_aNil))))))) (snd_one (snd_set (io := false) rfl (by kernel_rfl) (snd_bin v_mod (SndE.b (snd_t1 vf_int (by kernel_rfl) fx.b_int PyProof.Rows.Boot.«int» (SndE.b (snd_bin v_add (snd_bor rfl (by kernel_rfl)) (SndE.b snd_int))))) (snd_bor rfl (by kernel_rfl))))))
    (snd_one (snd_ret (snd_tup (snd_aCons (snd_var rfl (by kernel_rfl)) (snd_aCons (snd_var rfl (by kernel_rfl)) (snd_aCons (snd_var rfl (by kernel_rfl)) snd_aNil))))))))))
/-! _law_odd -/
abbrev N__law_odd : List Str := ["value", "item"]
theorem sc__law_odd : FnScope N__law_odd ["value"] (defScope (top 66)) := ⟨rfl, rfl, rfl, by decide +kernel, rfl, by decide +kernel, by decide +kernel⟩
theorem bd__law_odd : DefBinds "_law_odd" (top 66) ["value"] := fun K f fd F => FunD.bindsN F fun _ _ _ _ _ _ us hl => match us, hl with | [_], _ => rfl
def f__law_odd : Nat → Fn
  | 0 => fErr
  | n + 1 => defF 1 1 (sSeq (sIf (eBin eqT (eBor 0) (eC (.str "a word that nothing else is"))) (sRet (eC (.bl true))) sNil)
    (sRet (eAnd (eUn (isiT fun m => is_tuple m || is_list m) (eBor 0)) (eBin gtT (eUn lenT (eComp (iSeq (eVar 0)) [1] (gN 1) (eCall 1 (f__law_odd n) (aCons (eVar 1) aNil)) (eVar 1))) (eC (.int 0))))))
theorem has__law_odd (fx : Fx G CM CR fI fdI) : ∀ n, FnHas G (2 + n) "_law_odd" 1 (f__law_odd n)
  | 0 => has_zero fx.d__law_odd bd__law_odd
  | n + 1 => by
    have ih := has__law_odd fx n
    exact has_def (k := 2 + n) fx.d__law_odd sc__law_odd bd__law_odd rfl rfl
      (snd_seq (snd_ifS (snd_tCmp v_eq bl_eq (snd_bor rfl (by kernel_rfl)) (SndE.b snd_str)) (snd_one (snd_ret snd_bl)) snd_nil)
    (snd_one (snd_ret (snd_and (snd_isi2 isb_tuple isb_list PyProof.Rows.Boot.«tuple» PyProof.Rows.Boot.«list» (by kernel_rfl) fx.b_isinstance (by kernel_rfl) fx.b_tuple (by kernel_rfl) fx.b_list (snd_bor rfl (by kernel_rfl))) (snd_b1 (snd_cmp v_gt (SndE.b (snd_f1 vf_len (by kernel_rfl) fx.b_len PyProof.Rows.Boot.«len» (SndE.b (snd_comp [("item", 1)] (snd_iSeq (snd_var rfl (by kernel_rfl))) (blkOk_by (by kernel_rfl)) (snd_gnN (i := 1) rfl (by kernel_rfl)) (by decide) (snd_ts1 (SndB.t (SndE.b (snd_call ih (by kernel_rfl) (snd_aCons (snd_var rfl (by kernel_rfl)) snd_aNil))))) (snd_var rfl (by kernel_rfl)))))) (SndE.b snd_int)))))))
/-! _law_plain -/
abbrev N__law_plain : List Str := ["value"]
theorem sc__law_plain : FnScope N__law_plain ["value"] (defScope (top 67)) := ⟨rfl, rfl, rfl, by decide +kernel, rfl, by decide +kernel, by decide +kernel⟩
theorem bd__law_plain : DefBinds "_law_plain" (top 67) ["value"] := fun K f fd F => FunD.bindsN F fun _ _ _ _ _ _ us hl => match us, hl with | [_], _ => rfl
def f__law_plain : Fn := defF 1 0
    (sRet (eIf (eCall 1 (f__law_odd 3) (aCons (eVar 0) aNil)) (eC (.str "odd")) (eVar 0)))
theorem has__law_plain (fx : Fx G CM CR fI fdI) : FnHas G 6 "_law_plain" 1 f__law_plain :=
  has_def (k := 5) fx.d__law_plain sc__law_plain bd__law_plain rfl rfl
    (snd_one (snd_ret (snd_if (SndB.t (SndE.b (snd_call (FnHas.mono (has__law_odd fx 3) (by omega)) (by kernel_rfl) (snd_aCons (snd_var rfl (by kernel_rfl)) snd_aNil)))) snd_str (snd_var rfl (by kernel_rfl)))))
/-! is_integer -/
abbrev N_is_integer : List Str := ["value"]
theorem sc_is_integer : FnScope N_is_integer ["value"] (defScope (top 5)) := ⟨rfl, rfl, rfl, by decide +kernel, rfl, by decide +kernel, by decide +kernel⟩
theorem bd_is_integer : DefBinds "is_integer" (top 5) ["value"] := fun K f fd F => FunD.bindsN F fun _ _ _ _ _ _ us hl => match us, hl with | [_], _ => rfl
def f_is_integer : Fn := defF 1 0
    (sRet (eAnd (eUn (isiT is_int) (eBor 0)) (eNot (eUn (isiT is_bool) (eBor 0)))))
theorem has_is_integer (fx : Fx G CM CR fI fdI) : FnHas G 3 "is_integer" 1 f_is_integer :=
  has_def (k := 2) fx.d_is_integer sc_is_integer bd_is_integer rfl rfl
    (snd_one (snd_ret (snd_and (snd_isi1 isb_int PyProof.Rows.Boot.«int» (by kernel_rfl) fx.b_isinstance (by kernel_rfl) fx.b_int (snd_bor rfl (by kernel_rfl))) (snd_b1 (snd_not (SndE.b (snd_isi1 isb_bool PyProof.Rows.Boot.«bool» (by kernel_rfl) fx.b_isinstance (by kernel_rfl) fx.b_bool (snd_bor rfl (by kernel_rfl)))))))))
/-! power -/
abbrev N_power : List Str := ["a", "e", "m", "found", "base"]
theorem sc_power : FnScope N_power ["a", "e", "m"] (defScope (top 12)) := ⟨rfl, rfl, rfl, by decide +kernel, rfl, by decide +kernel, by decide +kernel⟩
theorem bd_power : DefBinds "power" (top 12) ["a", "e", "m"] := fun K f fd F => FunD.bindsN F fun _ _ _ _ _ _ us hl => match us, hl with | [_, _, _], _ => rfl
def f_power : Fn := defF 3 2
    (sSeq (sPar [3, 4] (afCons (eBin modT (eC (.int 1)) (eBor 2)) (afCons (eBin modT (eBor 0) (eBor 2)) afNil)))
    (sSeq (whileN 1000000 (eBin gtT (eBor 1) (eC (.int 0))) (sSeq (sIf (eBin eqT (eBin modT (eBor 1) (eC (.int 2))) (eC (.int 1))) (sSet false 3 (eBin modT (eBin mulT (eBor 3) (eBor 4)) (eBor 2))) sNil)
    (sSeq (sSet false 4 (eBin modT (eBin mulT (eBor 4) (eBor 4)) (eBor 2)))
    (sAug 1 ifdivT (eC (.int 2))))))
    (sRet (eVar 3))))
theorem has_power (fx : Fx G CM CR fI fdI) : FnHas G 3 "power" 3 f_power :=
  has_def (k := 2) fx.d_power sc_power bd_power rfl rfl
    (snd_seq (snd_par2 (i := 3) (j := 4) rfl rfl (by decide) (by kernel_rfl) (by kernel_rfl) (snd_afCons (snd_bin v_mod (SndE.b snd_int) (snd_bor rfl (by kernel_rfl))) (snd_afCons (snd_bin v_mod (snd_bor rfl (by kernel_rfl)) (snd_bor rfl (by kernel_rfl))) snd_afNil)) (by intro env h; obtain ⟨⟩ := env; dsimp only at h; subst h; kernel_rfl))
    (snd_seq (snd_while (snd_tCmp v_gt bl_gt (snd_bor rfl (by kernel_rfl)) (SndE.b snd_int)) (snd_seq (snd_ifS (snd_tCmp v_eq bl_eq (SndE.b (snd_bin v_mod (snd_bor rfl (by kernel_rfl)) (SndE.b snd_int))) (SndE.b snd_int)) (snd_one (snd_set (io := false) rfl (by kernel_rfl) (snd_bin v_mod (SndE.b (snd_bin v_mul (snd_bor rfl (by kernel_rfl)) (snd_bor rfl (by kernel_rfl)))) (snd_bor rfl (by kernel_rfl))))) snd_nil)
    (snd_seq (snd_set (io := false) rfl (by kernel_rfl) (snd_bin v_mod (SndE.b (snd_bin v_mul (snd_bor rfl (by kernel_rfl)) (snd_bor rfl (by kernel_rfl)))) (snd_bor rfl (by kernel_rfl))))
    (snd_one (snd_aug rfl (by kernel_rfl) vi_fdiv (SndE.b snd_int))))))
    (snd_one (snd_ret (snd_var rfl (by kernel_rfl))))))
/-! stands_round -/
abbrev N_stands_round : List Str := ["n", "a", "d", "s", "x", "_"]
theorem sc_stands_round : FnScope N_stands_round ["n", "a"] (defScope (top 20)) := ⟨rfl, rfl, rfl, by decide +kernel, rfl, by decide +kernel, by decide +kernel⟩
theorem bd_stands_round : DefBinds "stands_round" (top 20) ["n", "a"] := fun K f fd F => FunD.bindsN F fun _ _ _ _ _ _ us hl => match us, hl with | [_, _], _ => rfl
def f_stands_round : Fn := defF 2 4
    (sSeq (sPar [2, 3] (afCons (eBin subT (eBor 0) (eC (.int 1))) (afCons (eC (.int 0)) afNil)))
    (sSeq (whileN 1000000 (eBin eqT (eBin modT (eBor 2) (eC (.int 2))) (eC (.int 0))) (sSeq (sAug 2 ifdivT (eC (.int 2)))
    (sAug 3 iaddT (eC (.int 1)))))
    (sSeq (sSet false 4 (eCall 3 f_power (aCons (eVar 1) (aCons (eVar 2) (aCons (eVar 0) aNil)))))
    (sSeq (sIf (eBin memT (eBor 4) (eTup (aCons (eC (.int 1)) (aCons (eBin subT (eBor 0) (eC (.int 1))) aNil)))) (sRet (eC (.bl true))) sNil)
    (sSeq (sFor (iRange1 (eBin subT (eBor 3) (eC (.int 1)))) (gN 5) (sSeq (sSet false 4 (eBin modT (eBin mulT (eBor 4) (eBor 4)) (eBor 0)))
    (sIf (eBin eqT (eBor 4) (eBin subT (eBor 0) (eC (.int 1)))) (sRet (eC (.bl true))) sNil)))
    (sRet (eC (.bl false))))))))
theorem has_stands_round (fx : Fx G CM CR fI fdI) : FnHas G 4 "stands_round" 2 f_stands_round :=
  has_def (k := 3) fx.d_stands_round sc_stands_round bd_stands_round rfl rfl
    (snd_seq (snd_par2 (i := 2) (j := 3) rfl rfl (by decide) (by kernel_rfl) (by kernel_rfl) (snd_afCons (snd_bin v_sub (snd_bor rfl (by kernel_rfl)) (SndE.b snd_int)) (snd_afCons snd_int snd_afNil)) (by intro env h; obtain ⟨⟩ := env; dsimp only at h; subst h; kernel_rfl))
    (snd_seq (snd_while (snd_tCmp v_eq bl_eq (SndE.b (snd_bin v_mod (snd_bor rfl (by kernel_rfl)) (SndE.b snd_int))) (SndE.b snd_int)) (snd_seq (snd_aug rfl (by kernel_rfl) vi_fdiv (SndE.b snd_int))
    (snd_one (snd_aug rfl (by kernel_rfl) vi_add (SndE.b snd_int)))))
    (snd_seq (snd_set (io := false) rfl (by kernel_rfl) (snd_call (FnHas.mono (has_power fx) (by omega)) (by kernel_rfl) (snd_aCons (snd_var rfl (by kernel_rfl)) (snd_aCons (snd_var rfl (by kernel_rfl)) (snd_aCons (snd_var rfl (by kernel_rfl)) snd_aNil)))))
    (snd_seq (snd_ifS (snd_tCmp v_in bl_mem (snd_bor rfl (by kernel_rfl)) (SndE.b (snd_tup (snd_aCons snd_int (snd_aCons (snd_bin v_sub (snd_bor rfl (by kernel_rfl)) (SndE.b snd_int)) snd_aNil))))) (snd_one (snd_ret snd_bl)) snd_nil)
    (snd_seq (snd_for (snd_range1 (by kernel_rfl) fx.b_range (snd_bin v_sub (snd_bor rfl (by kernel_rfl)) (SndE.b snd_int))) (snd_gN (i := 5) rfl (by kernel_rfl)) (snd_seq (snd_set (io := false) rfl (by kernel_rfl) (snd_bin v_mod (SndE.b (snd_bin v_mul (snd_bor rfl (by kernel_rfl)) (snd_bor rfl (by kernel_rfl)))) (snd_bor rfl (by kernel_rfl))))
    (snd_one (snd_ifS (snd_tCmp v_eq bl_eq (snd_bor rfl (by kernel_rfl)) (SndE.b (snd_bin v_sub (snd_bor rfl (by kernel_rfl)) (SndE.b snd_int)))) (snd_one (snd_ret snd_bl)) snd_nil))))
    (snd_one (snd_ret snd_bl)))))))
/-! is_prime -/
abbrev N_is_prime : List Str := ["n", "p", "a"]
theorem sc_is_prime : FnScope N_is_prime ["n"] (defScope (top 21)) := ⟨rfl, rfl, rfl, by decide +kernel, rfl, by decide +kernel, by decide +kernel⟩
theorem bd_is_prime : DefBinds "is_prime" (top 21) ["n"] := fun K f fd F => FunD.bindsN F fun _ _ _ _ _ _ us hl => match us, hl with | [_], _ => rfl
def f_is_prime : Fn := defF 1 2
    (sSeq (sIf (eBin geT (eBor 0) (eC (.int 3317044064679887385961981))) (sExc (.rsn "large")) sNil)
    (sSeq (sIf (eBin ltT (eBor 0) (eC (.int 2))) (sRet (eC (.bl false))) sNil)
    (sSeq (sFor (iSeq (eC (.kt (List.map T.int [2, 3, 5, 7, 11, 13, 17, 19, 23, 29, 31, 37, 41])))) (gN 1) (sIf (eBin eqT (eBin modT (eBor 0) (eBor 1)) (eC (.int 0))) (sRet (eBin eqT (eBor 0) (eBor 1))) sNil))
    (sRet (eUn allT (eComp (iSeq (eC (.kt (List.map T.int [2, 3, 5, 7, 11, 13, 17, 19, 23, 29, 31, 37, 41])))) [2] (gN 2) eYes (eCall 2 f_stands_round (aCons (eVar 0) (aCons (eVar 2) aNil)))))))))
theorem has_is_prime (fx : Fx G CM CR fI fdI) : FnHas G 5 "is_prime" 1 f_is_prime :=
  has_def (k := 4) fx.d_is_prime sc_is_prime bd_is_prime rfl rfl
    (snd_seq (snd_ifS (snd_tCmp v_ge bl_ge (snd_bor rfl (by kernel_rfl)) (SndE.b (snd_glob (by kernel_rfl) (k_int fx.c_PROVEN)))) (snd_one (snd_raiseR (by omega) fx.exI (by kernel_rfl))) snd_nil)
    (snd_seq (snd_ifS (snd_tCmp v_lt bl_lt (snd_bor rfl (by kernel_rfl)) (SndE.b snd_int)) (snd_one (snd_ret snd_bl)) snd_nil)
    (snd_seq (snd_for (snd_iSeq (snd_glob (by kernel_rfl) (k_tup fx.c_BASES))) (snd_gN (i := 1) rfl (by kernel_rfl)) (snd_one (snd_ifS (snd_tCmp v_eq bl_eq (SndE.b (snd_bin v_mod (snd_bor rfl (by kernel_rfl)) (snd_bor rfl (by kernel_rfl)))) (SndE.b snd_int)) (snd_one (snd_ret (snd_cmp v_eq (snd_bor rfl (by kernel_rfl)) (snd_bor rfl (by kernel_rfl))))) snd_nil)))
    (snd_one (snd_ret (snd_f1 vf_all (by kernel_rfl) fx.b_all PyProof.Rows.Boot.«all» (SndE.b (snd_comp [("a", 2)] (snd_iSeq (snd_glob (by kernel_rfl) (k_tup fx.c_BASES))) (blkOk_by (by kernel_rfl)) (snd_gnN (i := 2) rfl (by kernel_rfl)) (by decide) snd_ts0 (snd_call (FnHas.mono (has_stands_round fx) (by omega)) (by kernel_rfl) (snd_aCons (snd_var rfl (by kernel_rfl)) (snd_aCons (snd_var rfl (by kernel_rfl)) snd_aNil)))))))))))
/-! is_curve_prime -/
abbrev N_is_curve_prime : List Str := ["value"]
theorem sc_is_curve_prime : FnScope N_is_curve_prime ["value"] (defScope (top 38)) := ⟨rfl, rfl, rfl, by decide +kernel, rfl, by decide +kernel, by decide +kernel⟩
theorem bd_is_curve_prime : DefBinds "is_curve_prime" (top 38) ["value"] := fun K f fd F => FunD.bindsN F fun _ _ _ _ _ _ us hl => match us, hl with | [_], _ => rfl
def f_is_curve_prime : Fn := defF 1 0
    (sRet (eAnd (eCall 1 f_is_integer (aCons (eVar 0) aNil)) (eAnd (eChain leT leT (eC (.int 5)) (eBor 0) (eC (.int 10000000000))) (eCall 1 f_is_prime (aCons (eVar 0) aNil)))))
theorem has_is_curve_prime (fx : Fx G CM CR fI fdI) : FnHas G 6 "is_curve_prime" 1 f_is_curve_prime :=
  has_def (k := 5) fx.d_is_curve_prime sc_is_curve_prime bd_is_curve_prime rfl rfl
    (snd_one (snd_ret (snd_and (snd_call (FnHas.mono (has_is_integer fx) (by omega)) (by kernel_rfl) (snd_aCons (snd_var rfl (by kernel_rfl)) snd_aNil)) (snd_and (snd_chain v_le v_le (SndE.b snd_int) (snd_bor rfl (by kernel_rfl)) (SndE.b (snd_glob (by kernel_rfl) (k_int fx.c_MOST_PRIME)))) (snd_b1 (snd_call (FnHas.mono (has_is_prime fx) (by omega)) (by kernel_rfl) (snd_aCons (snd_var rfl (by kernel_rfl)) snd_aNil)))))))
/-! check_prime -/
abbrev N_check_prime : List Str := ["p"]
theorem sc_check_prime : FnScope N_check_prime ["p"] (defScope (top 51)) := ⟨rfl, rfl, rfl, by decide +kernel, rfl, by decide +kernel, by decide +kernel⟩
theorem bd_check_prime : DefBinds "check_prime" (top 51) ["p"] := fun K f fd F => FunD.bindsN F fun _ _ _ _ _ _ us hl => match us, hl with | [_], _ => rfl
def f_check_prime : Fn := defF 1 0
    (sIf (eNot (eCall 1 f_is_curve_prime (aCons (eVar 0) aNil))) (sExc .mal) sNil)
theorem has_check_prime (fx : Fx G CM CR fI fdI) : FnHas G 7 "check_prime" 1 f_check_prime :=
  has_def (k := 6) fx.d_check_prime sc_check_prime bd_check_prime rfl rfl
    (snd_one (snd_ifS (snd_tNot (SndB.t (SndE.b (snd_call (FnHas.mono (has_is_curve_prime fx) (by omega)) (by kernel_rfl) (snd_aCons (snd_var rfl (by kernel_rfl)) snd_aNil))))) (snd_one (snd_raiseM fx.exM (by kernel_rfl))) snd_nil))
/-! check_numbers -/
abbrev N_check_numbers : List Str := ["p", "t", "k"]
theorem sc_check_numbers : FnScope N_check_numbers ["p", "t", "k"] (defScope (top 52)) := ⟨rfl, rfl, rfl, by decide +kernel, rfl, by decide +kernel, by decide +kernel⟩
theorem bd_check_numbers : DefBinds "check_numbers" (top 52) ["p", "t", "k"] := fun K f fd F => FunD.bindsN F fun _ _ _ _ _ _ us hl => match us, hl with | [_, _, _], _ => rfl
def f_check_numbers : Fn := defF 3 0
    (sSeq (sExpr (eCall 1 f_check_prime (aCons (eVar 0) aNil)))
    (sIf (eOr (eNot (eCall 1 f_is_integer (aCons (eVar 1) aNil))) (eOr (eNot (eCall 1 f_is_integer (aCons (eVar 2) aNil))) (eBin ltT (eBor 2) (eC (.int 1))))) (sExc .mal) sNil))
theorem has_check_numbers (fx : Fx G CM CR fI fdI) : FnHas G 8 "check_numbers" 3 f_check_numbers :=
  has_def (k := 7) fx.d_check_numbers sc_check_numbers bd_check_numbers rfl rfl
    (snd_seq (snd_expr (snd_call (FnHas.mono (has_check_prime fx) (by omega)) (by kernel_rfl) (snd_aCons (snd_var rfl (by kernel_rfl)) snd_aNil)))
    (snd_one (snd_ifS (snd_w (snd_wOr (snd_tNot (SndB.t (SndE.b (snd_call (FnHas.mono (has_is_integer fx) (by omega)) (by kernel_rfl) (snd_aCons (snd_var rfl (by kernel_rfl)) snd_aNil))))) (snd_wOr (snd_tNot (SndB.t (SndE.b (snd_call (FnHas.mono (has_is_integer fx) (by omega)) (by kernel_rfl) (snd_aCons (snd_var rfl (by kernel_rfl)) snd_aNil))))) (snd_wOr1 (snd_tCmp v_lt bl_lt (snd_bor rfl (by kernel_rfl)) (SndE.b snd_int)))))) (snd_one (snd_raiseM fx.exM (by kernel_rfl))) snd_nil)))
/-! raised -/
abbrev N_raised : List Str := ["a", "e", "found", "base"]
theorem sc_raised : FnScope N_raised ["a", "e"] (defScope (top 8)) := ⟨rfl, rfl, rfl, by decide +kernel, rfl, by decide +kernel, by decide +kernel⟩
theorem bd_raised : DefBinds "raised" (top 8) ["a", "e"] := fun K f fd F => FunD.bindsN F fun _ _ _ _ _ _ us hl => match us, hl with | [_, _], _ => rfl
def f_raised : Fn := defF 2 2
    (sSeq (sPar [2, 3] (afCons (eC (.int 1)) (afCons (eVar 0) afNil)))
    (sSeq (whileN 1000000 (eBin gtT (eBor 1) (eC (.int 0))) (sSeq (sIf (eBin eqT (eBin modT (eBor 1) (eC (.int 2))) (eC (.int 1))) (sSet false 2 (eBin mulT (eBor 2) (eBor 3))) sNil)
    (sSeq (sAug 1 ifdivT (eC (.int 2)))
    (sIf (eBin gtT (eBor 1) (eC (.int 0))) (sSet false 3 (eBin mulT (eBor 3) (eBor 3))) sNil))))
    (sRet (eVar 2))))
theorem has_raised (fx : Fx G CM CR fI fdI) : FnHas G 3 "raised" 2 f_raised :=
  has_def (k := 2) fx.d_raised sc_raised bd_raised rfl rfl
    (snd_seq (snd_par2 (i := 2) (j := 3) rfl rfl (by decide) (by kernel_rfl) (by kernel_rfl) (snd_afCons snd_int (snd_afCons (snd_var rfl (by kernel_rfl)) snd_afNil)) (by intro env h; obtain ⟨⟩ := env; dsimp only at h; subst h; kernel_rfl))
    (snd_seq (snd_while (snd_tCmp v_gt bl_gt (snd_bor rfl (by kernel_rfl)) (SndE.b snd_int)) (snd_seq (snd_ifS (snd_tCmp v_eq bl_eq (SndE.b (snd_bin v_mod (snd_bor rfl (by kernel_rfl)) (SndE.b snd_int))) (SndE.b snd_int)) (snd_one (snd_set (io := false) rfl (by kernel_rfl) (snd_bin v_mul (snd_bor rfl (by kernel_rfl)) (snd_bor rfl (by kernel_rfl))))) snd_nil)
    (snd_seq (snd_aug rfl (by kernel_rfl) vi_fdiv (SndE.b snd_int))
    (snd_one (snd_ifS (snd_tCmp v_gt bl_gt (snd_bor rfl (by kernel_rfl)) (SndE.b snd_int)) (snd_one (snd_set (io := false) rfl (by kernel_rfl) (snd_bin v_mul (snd_bor rfl (by kernel_rfl)) (snd_bor rfl (by kernel_rfl))))) snd_nil)))))
    (snd_one (snd_ret (snd_var rfl (by kernel_rfl))))))
/-! number_over -/
abbrev N_number_over : List Str := ["p", "t", "k", "before", "now", "_"]
theorem sc_number_over : FnScope N_number_over ["p", "t", "k"] (defScope (top 53)) := ⟨rfl, rfl, rfl, by decide +kernel, rfl, by decide +kernel, by decide +kernel⟩
theorem bd_number_over : DefBinds "number_over" (top 53) ["p", "t", "k"] := fun K f fd F => FunD.bindsN F fun _ _ _ _ _ _ us hl => match us, hl with | [_, _, _], _ => rfl
def f_number_over : Fn := defF 3 3
    (sSeq (sExpr (eCall 3 f_check_numbers (aCons (eVar 0) (aCons (eVar 1) (aCons (eVar 2) aNil)))))
    (sSeq (sIf (eBin gtT (eBin mulT (eBor 1) (eBor 1)) (eBin mulT (eC (.int 4)) (eBor 0))) (sExc (.rsn "trace")) sNil)
    (sSeq (sIf (eBin gtT (eBor 2) (eC (.int 100))) (sExc (.rsn "large")) sNil)
    (sSeq (sPar [3, 4] (afCons (eC (.int 2)) (afCons (eVar 1) afNil)))
    (sSeq (sFor (iRange1 (eBin subT (eBor 2) (eC (.int 1)))) (gN 5) (sPar [3, 4] (afCons (eVar 4) (afCons (eBin subT (eBin mulT (eBor 1) (eBor 4)) (eBin mulT (eBor 0) (eBor 3))) afNil))))
    (sRet (eBin subT (eBin addT (eCall 2 f_raised (aCons (eVar 0) (aCons (eVar 2) aNil))) (eC (.int 1))) (eBor 4))))))))
theorem has_number_over (fx : Fx G CM CR fI fdI) : FnHas G 9 "number_over" 3 f_number_over :=
  has_def (k := 8) fx.d_number_over sc_number_over bd_number_over rfl rfl
    (snd_seq (snd_expr (snd_call (FnHas.mono (has_check_numbers fx) (by omega)) (by kernel_rfl) (snd_aCons (snd_var rfl (by kernel_rfl)) (snd_aCons (snd_var rfl (by kernel_rfl)) (snd_aCons (snd_var rfl (by kernel_rfl)) snd_aNil)))))
    (snd_seq (snd_ifS (snd_tCmp v_gt bl_gt (SndE.b (snd_bin v_mul (snd_bor rfl (by kernel_rfl)) (snd_bor rfl (by kernel_rfl)))) (SndE.b (snd_bin v_mul (SndE.b snd_int) (snd_bor rfl (by kernel_rfl))))) (snd_one (snd_raiseR (by omega) fx.exI (by kernel_rfl))) snd_nil)
    (snd_seq (snd_ifS (snd_tCmp v_gt bl_gt (snd_bor rfl (by kernel_rfl)) (SndE.b (snd_glob (by kernel_rfl) (k_int fx.c_MOST_POWER)))) (snd_one (snd_raiseR (by omega) fx.exI (by kernel_rfl))) snd_nil)
    (snd_seq (snd_par2 (i := 3) (j := 4) rfl rfl (by decide) (by kernel_rfl) (by kernel_rfl) (snd_afCons snd_int (snd_afCons (snd_var rfl (by kernel_rfl)) snd_afNil)) (by intro env h; obtain ⟨⟩ := env; dsimp only at h; subst h; kernel_rfl))
    (snd_seq (snd_for (snd_range1 (by kernel_rfl) fx.b_range (snd_bin v_sub (snd_bor rfl (by kernel_rfl)) (SndE.b snd_int))) (snd_gN (i := 5) rfl (by kernel_rfl)) (snd_one (snd_par2 (i := 3) (j := 4) rfl rfl (by decide) (by kernel_rfl) (by kernel_rfl) (snd_afCons (snd_var rfl (by kernel_rfl)) (snd_afCons (snd_bin v_sub (SndE.b (snd_bin v_mul (snd_bor rfl (by kernel_rfl)) (snd_bor rfl (by kernel_rfl)))) (SndE.b (snd_bin v_mul (snd_bor rfl (by kernel_rfl)) (snd_bor rfl (by kernel_rfl))))) snd_afNil)) (by intro env h; obtain ⟨⟩ := env; dsimp only at h; subst h; kernel_rfl))))
    (snd_one (snd_ret (snd_bin v_sub (SndE.b (snd_bin v_add (SndE.b (snd_call (FnHas.mono (has_raised fx) (by omega)) (by kernel_rfl) (snd_aCons (snd_var rfl (by kernel_rfl)) (snd_aCons (snd_var rfl (by kernel_rfl)) snd_aNil)))) (SndE.b snd_int))) (snd_bor rfl (by kernel_rfl))))))))))
/-! _law_no_word -/
abbrev N__law_no_word : List Str := ["value"]
theorem sc__law_no_word : FnScope N__law_no_word ["value"] (defScope (top 65)) := ⟨rfl, rfl, rfl, by decide +kernel, rfl, by decide +kernel, by decide +kernel⟩
theorem bd__law_no_word : DefBinds "_law_no_word" (top 65) ["value"] := fun K f fd F => FunD.bindsN F fun _ _ _ _ _ _ us hl => match us, hl with | [_], _ => rfl
def f__law_no_word : Fn := defF 1 0
    (sRet (eIf (eUn (isiT is_str) (eBor 0)) (eC (.str "told a word")) (eVar 0)))
theorem has__law_no_word (fx : Fx G CM CR fI fdI) : FnHas G 3 "_law_no_word" 1 f__law_no_word :=
  has_def (k := 2) fx.d__law_no_word sc__law_no_word bd__law_no_word rfl rfl
    (snd_one (snd_ret (snd_if (SndB.t (SndE.b (snd_isi1 isb_str PyProof.Rows.Boot.«str» (by kernel_rfl) fx.b_isinstance (by kernel_rfl) fx.b_str (snd_bor rfl (by kernel_rfl))))) snd_str (snd_var rfl (by kernel_rfl)))))
/-! _law_told -/
abbrev N__law_told : List Str := ["p", "t", "k", "e"]
theorem sc__law_told : FnScope N__law_told ["p", "t", "k"] (defScope (top 79)) := ⟨rfl, rfl, rfl, by decide +kernel, rfl, by decide +kernel, by decide +kernel⟩
theorem bd__law_told : DefBinds "_law_told" (top 79) ["p", "t", "k"] := fun K f fd F => FunD.bindsN F fun _ _ _ _ _ _ us hl => match us, hl with | [_, _, _], _ => rfl
def f__law_told : Fn := defF 3 1
    (sTry [.mal (.str "malformed"), .rsn 3 fun s => some (.str s)] (sRet (eCall 1 f__law_no_word (aCons (eCall 1 f__law_plain (aCons (eCall 3 f_number_over (aCons (eVar 0) (aCons (eVar 1) (aCons (eVar 2) aNil)))) aNil)) aNil))))
theorem has__law_told (fx : Fx G CM CR fI fdI) : FnHas G 10 "_law_told" 3 f__law_told :=
  has_def (k := 9) fx.d__law_told sc__law_told bd__law_told rfl rfl
    (snd_one (snd_try fx.exM fx.exR (snd_one (snd_ret (snd_call (FnHas.mono (has__law_no_word fx) (by omega)) (by kernel_rfl) (snd_aCons (snd_call (FnHas.mono (has__law_plain fx) (by omega)) (by kernel_rfl) (snd_aCons (snd_call (FnHas.mono (has_number_over fx) (by omega)) (by kernel_rfl) (snd_aCons (snd_var rfl (by kernel_rfl)) (snd_aCons (snd_var rfl (by kernel_rfl)) (snd_aCons (snd_var rfl (by kernel_rfl)) snd_aNil)))) snd_aNil)) snd_aNil)))) (.cons (.mal (by kernel_rfl) fun _ _ => suite_str) (.cons (.rsn (i := 3) (by kernel_rfl) rfl (by kernel_rfl) (fun X hN hK xf no hsc => suite_reason rfl (by kernel_rfl) hN hK xf no hsc) fun s t e => by cases e; exact ⟨_, rfl⟩) .nil))))
/-! is_rest -/
abbrev N_is_rest : List Str := ["value", "p"]
theorem sc_is_rest : FnScope N_is_rest ["value", "p"] (defScope (top 37)) := ⟨rfl, rfl, rfl, by decide +kernel, rfl, by decide +kernel, by decide +kernel⟩
theorem bd_is_rest : DefBinds "is_rest" (top 37) ["value", "p"] := fun K f fd F => FunD.bindsN F fun _ _ _ _ _ _ us hl => match us, hl with | [_, _], _ => rfl
def f_is_rest : Fn := defF 2 0
    (sRet (eAnd (eCall 1 f_is_integer (aCons (eVar 0) aNil)) (eChain leT ltT (eC (.int 0)) (eBor 0) (eBor 1))))
theorem has_is_rest (fx : Fx G CM CR fI fdI) : FnHas G 4 "is_rest" 2 f_is_rest :=
  has_def (k := 3) fx.d_is_rest sc_is_rest bd_is_rest rfl rfl
    (snd_one (snd_ret (snd_and (snd_call (FnHas.mono (has_is_integer fx) (by omega)) (by kernel_rfl) (snd_aCons (snd_var rfl (by kernel_rfl)) snd_aNil)) (snd_b1 (snd_chain v_le v_lt (SndE.b snd_int) (snd_bor rfl (by kernel_rfl)) (snd_bor rfl (by kernel_rfl)))))))
/-! is_curve -/
abbrev N_is_curve : List Str := ["value", "p", "a", "b"]
theorem sc_is_curve : FnScope N_is_curve ["value"] (defScope (top 39)) := ⟨rfl, rfl, rfl, by decide +kernel, rfl, by decide +kernel, by decide +kernel⟩
theorem bd_is_curve : DefBinds "is_curve" (top 39) ["value"] := fun K f fd F => FunD.bindsN F fun _ _ _ _ _ _ us hl => match us, hl with | [_], _ => rfl
def f_is_curve : Fn := defF 1 3
    (sSeq (sIf (eOr (eNot (eUn (isiT is_tuple) (eBor 0))) (eOr (eBin neT (eUn lenT (eBor 0)) (eC (.int 3))) (eNot (eCall 1 f_is_curve_prime (aCons (eBin ixT (eBor 0) (eC (.int 0))) aNil))))) (sRet (eC (.bl false))) sNil)
    (sSeq (sAsg (gTup' 3 (gCons' (gN 1) (gCons' (gN 2) (gCons' (gN 3) gNil')))) (eVar 0))
    (sSeq (sIf (eOr (eNot (eCall 2 f_is_rest (aCons (eVar 2) (aCons (eVar 1) aNil)))) (eNot (eCall 2 f_is_rest (aCons (eVar 3) (aCons (eVar 1) aNil))))) (sRet (eC (.bl false))) sNil)
    (sRet (eBin neT (eBin modT (eBin addT (eBin mulT (eC (.int 4)) (eBin powT (eBor 2) (eC (.int 3)))) (eBin mulT (eC (.int 27)) (eBin powT (eBor 3) (eC (.int 2))))) (eBor 1)) (eC (.int 0)))))))
theorem has_is_curve (fx : Fx G CM CR fI fdI) : FnHas G 7 "is_curve" 1 f_is_curve :=
  has_def (k := 6) fx.d_is_curve sc_is_curve bd_is_curve rfl rfl
    (snd_seq (snd_ifS (snd_w (snd_wOr (snd_tNot (SndB.t (SndE.b (snd_isi1 isb_tuple PyProof.Rows.Boot.«tuple» (by kernel_rfl) fx.b_isinstance (by kernel_rfl) fx.b_tuple (snd_bor rfl (by kernel_rfl)))))) (snd_wOr (snd_tCmp v_ne bl_ne (SndE.b (snd_f1 vf_len (by kernel_rfl) fx.b_len PyProof.Rows.Boot.«len» (snd_bor rfl (by kernel_rfl)))) (SndE.b snd_int)) (snd_wOr1 (snd_tNot (SndB.t (SndE.b (snd_call (FnHas.mono (has_is_curve_prime fx) (by omega)) (by kernel_rfl) (snd_aCons (snd_ix v_ix (snd_bor rfl (by kernel_rfl)) (SndE.b snd_int)) snd_aNil))))))))) (snd_one (snd_ret snd_bl)) snd_nil)
    (snd_seq (snd_asg (snd_gTup (snd_gCons (snd_gN (i := 1) rfl (by kernel_rfl)) (snd_gCons (snd_gN (i := 2) rfl (by kernel_rfl)) (snd_gCons (snd_gN (i := 3) rfl (by kernel_rfl)) snd_gNil)))) (snd_var rfl (by kernel_rfl)))
    (snd_seq (snd_ifS (snd_w (snd_wOr (snd_tNot (SndB.t (SndE.b (snd_call (FnHas.mono (has_is_rest fx) (by omega)) (by kernel_rfl) (snd_aCons (snd_var rfl (by kernel_rfl)) (snd_aCons (snd_var rfl (by kernel_rfl)) snd_aNil)))))) (snd_wOr1 (snd_tNot (SndB.t (SndE.b (snd_call (FnHas.mono (has_is_rest fx) (by omega)) (by kernel_rfl) (snd_aCons (snd_var rfl (by kernel_rfl)) (snd_aCons (snd_var rfl (by kernel_rfl)) snd_aNil))))))))) (snd_one (snd_ret snd_bl)) snd_nil)
    (snd_one (snd_ret (snd_cmp v_ne (SndE.b (snd_bin v_mod (SndE.b (snd_bin v_add (SndE.b (snd_bin v_mul (SndE.b snd_int) (SndE.b (snd_bin v_pow (snd_bor rfl (by kernel_rfl)) (SndE.b snd_int))))) (SndE.b (snd_bin v_mul (SndE.b snd_int) (SndE.b (snd_bin v_pow (snd_bor rfl (by kernel_rfl)) (SndE.b snd_int))))))) (snd_bor rfl (by kernel_rfl)))) (SndE.b snd_int)))))))
/-! check_curve -/
abbrev N_check_curve : List Str := ["curve"]
theorem sc_check_curve : FnScope N_check_curve ["curve"] (defScope (top 41)) := ⟨rfl, rfl, rfl, by decide +kernel, rfl, by decide +kernel, by decide +kernel⟩
theorem bd_check_curve : DefBinds "check_curve" (top 41) ["curve"] := fun K f fd F => FunD.bindsN F fun _ _ _ _ _ _ us hl => match us, hl with | [_], _ => rfl
def f_check_curve : Fn := defF 1 0
    (sIf (eNot (eCall 1 f_is_curve (aCons (eVar 0) aNil))) (sExc .mal) sNil)
theorem has_check_curve (fx : Fx G CM CR fI fdI) : FnHas G 8 "check_curve" 1 f_check_curve :=
  has_def (k := 7) fx.d_check_curve sc_check_curve bd_check_curve rfl rfl
    (snd_one (snd_ifS (snd_tNot (SndB.t (SndE.b (snd_call (FnHas.mono (has_is_curve fx) (by omega)) (by kernel_rfl) (snd_aCons (snd_var rfl (by kernel_rfl)) snd_aNil))))) (snd_one (snd_raiseM fx.exM (by kernel_rfl))) snd_nil))
/-! right_side -/
abbrev N_right_side : List Str := ["curve", "x", "p", "a", "b"]
theorem sc_right_side : FnScope N_right_side ["curve", "x"] (defScope (top 40)) := ⟨rfl, rfl, rfl, by decide +kernel, rfl, by decide +kernel, by decide +kernel⟩
theorem bd_right_side : DefBinds "right_side" (top 40) ["curve", "x"] := fun K f fd F => FunD.bindsN F fun _ _ _ _ _ _ us hl => match us, hl with | [_, _], _ => rfl
def f_right_side : Fn := defF 2 3
    (sSeq (sAsg (gTup' 3 (gCons' (gN 2) (gCons' (gN 3) (gCons' (gN 4) gNil')))) (eVar 0))
    (sRet (eBin modT (eBin addT (eBin addT (eBin powT (eBor 1) (eC (.int 3))) (eBin mulT (eBor 3) (eBor 1))) (eBor 4)) (eBor 2))))
theorem has_right_side (fx : Fx G CM CR fI fdI) : FnHas G 3 "right_side" 2 f_right_side :=
  has_def (k := 2) fx.d_right_side sc_right_side bd_right_side rfl rfl
    (snd_seq (snd_asg (snd_gTup (snd_gCons (snd_gN (i := 2) rfl (by kernel_rfl)) (snd_gCons (snd_gN (i := 3) rfl (by kernel_rfl)) (snd_gCons (snd_gN (i := 4) rfl (by kernel_rfl)) snd_gNil)))) (snd_var rfl (by kernel_rfl)))
    (snd_one (snd_ret (snd_bin v_mod (SndE.b (snd_bin v_add (SndE.b (snd_bin v_add (SndE.b (snd_bin v_pow (snd_bor rfl (by kernel_rfl)) (SndE.b snd_int))) (SndE.b (snd_bin v_mul (snd_bor rfl (by kernel_rfl)) (snd_bor rfl (by kernel_rfl)))))) (snd_bor rfl (by kernel_rfl)))) (snd_bor rfl (by kernel_rfl))))))
/-! counted -/
abbrev N_counted : List Str := ["curve", "p", "signs", "y", "x"]
theorem sc_counted : FnScope N_counted ["curve"] (defScope (top 56)) := ⟨rfl, rfl, rfl, by decide +kernel, rfl, by decide +kernel, by decide +kernel⟩
theorem bd_counted : DefBinds "counted" (top 56) ["curve"] := fun K f fd F => FunD.bindsN F fun _ _ _ _ _ _ us hl => match us, hl with | [_], _ => rfl
def f_counted : Fn := defF 1 4
    (sSeq (sSet false 1 (eBin ixT (eBor 0) (eC (.int 0))))
    (sSeq (sSet false 2 (eBin mulT (eLst (aCons (eUn negT (eC (.int 1))) aNil)) (eBor 1)))
    (sSeq (sFor (iRange2 (eC (.int 1)) (eVar 1)) (gN 3) (sAsg (gSetL 2 (eBin modT (eBin mulT (eBor 3) (eBor 3)) (eBor 1))) (eC (.int 1))))
    (sSeq (sAsg (gSetL 2 (eC (.int 0))) (eC (.int 0)))
    (sRet (eBin addT (eBin addT (eBor 1) (eC (.int 1))) (eUn sumT (eComp (iRange1 (eVar 1)) [4] (gN 4) eYes (eBin ixT (eBor 2) (eCall 2 f_right_side (aCons (eVar 0) (aCons (eVar 4) aNil))))))))))))
theorem has_counted (fx : Fx G CM CR fI fdI) : FnHas G 4 "counted" 1 f_counted :=
  has_def (k := 3) fx.d_counted sc_counted bd_counted rfl rfl
    (snd_seq (snd_set (io := false) rfl (by kernel_rfl) (snd_ix v_ix (snd_bor rfl (by kernel_rfl)) (SndE.b snd_int)))
    (snd_seq (snd_set (io := false) rfl (by kernel_rfl) (snd_bin v_mul (SndE.b (snd_lst (snd_aCons (snd_un v_neg (SndE.b snd_int)) snd_aNil))) (snd_bor rfl (by kernel_rfl))))
    (snd_seq (snd_for (snd_range2 (by kernel_rfl) fx.b_range snd_int (snd_var rfl (by kernel_rfl))) (snd_gN (i := 3) rfl (by kernel_rfl)) (snd_one (snd_asg (snd_gSetL rfl (by kernel_rfl) (snd_bin v_mod (SndE.b (snd_bin v_mul (snd_bor rfl (by kernel_rfl)) (snd_bor rfl (by kernel_rfl)))) (snd_bor rfl (by kernel_rfl)))) snd_int)))
    (snd_seq (snd_asg (snd_gSetL rfl (by kernel_rfl) snd_int) snd_int)
    (snd_one (snd_ret (snd_bin v_add (SndE.b (snd_bin v_add (snd_bor rfl (by kernel_rfl)) (SndE.b snd_int))) (SndE.b (snd_f1 vf_sum (by kernel_rfl) fx.b_sum PyProof.Rows.Boot.«sum» (SndE.b (snd_comp [("x", 4)] (snd_range1 (by kernel_rfl) fx.b_range (snd_var rfl (by kernel_rfl))) (blkOk_by (by kernel_rfl)) (snd_gnN (i := 4) rfl (by kernel_rfl)) (by decide) snd_ts0 (snd_ix v_ix (snd_bor rfl (by kernel_rfl)) (SndE.b (snd_call (FnHas.mono (has_right_side fx) (by omega)) (by kernel_rfl) (snd_aCons (snd_var rfl (by kernel_rfl)) (snd_aCons (snd_var rfl (by kernel_rfl)) snd_aNil))))))))))))))))
/-! number_of -/
abbrev N_number_of : List Str := ["curve", "p", "pair", "known", "x", "k", "point", "left"]
theorem sc_number_of : FnScope N_number_of ["curve"] (defScope (top 62)) := ⟨rfl, rfl, rfl, by decide +kernel, rfl, by decide +kernel, by decide +kernel⟩
theorem bd_number_of : DefBinds "number_of" (top 62) ["curve"] := fun K f fd F => FunD.bindsN F fun _ _ _ _ _ _ us hl => match us, hl with | [_], _ => rfl
def f_number_of : Fn := defF 1 7
    (sSeq (sSet false 1 (eBin ixT (eBor 0) (eC (.int 0))))
    (sSeq (sIf (eBin leT (eBor 1) (eC (.int 10000))) (sRet (eCall 1 f_counted (aCons (eVar 0) aNil))) sNil)
    (sSeq (sSet false 2 (eLst (aCons (eVar 0) (aCons eErr aNil))))
    (sSeq (sSet false 3 (eLst (aCons (eC (.int 1)) (aCons (eC (.int 1)) aNil))))
    (sSeq (sSet false 4 (eC (.int 0)))
    (whileN 1000000 (eC (.bl true)) (sSeq (sFor (iRange1 (eC (.int 2))) (gN 5) (sFor (iSeq (eSl eErr oNone (oSome (eC (.int 1))))) (gN 6) (sSeq (sAsg (gSetL 3 (eVar 5)) eErr)
    (sSeq (sSet false 7 eErr)
    (sIf (eBin eqT (eUn lenT (eBor 7)) (eC (.int 1))) (sRet (eBin ixT (eBor 7) (eC (.int 0)))) sNil)))))
    (sAug 4 iaddT (eC (.int 1))))))))))
theorem has_number_of (fx : Fx G CM CR fI fdI) : FnHas G 5 "number_of" 1 f_number_of :=
  has_def (k := 4) fx.d_number_of sc_number_of bd_number_of rfl rfl
    (snd_seq (snd_set (io := false) rfl (by kernel_rfl) (snd_ix v_ix (snd_bor rfl (by kernel_rfl)) (SndE.b snd_int)))
    (snd_seq (snd_ifS (snd_tCmp v_le bl_le (snd_bor rfl (by kernel_rfl)) (SndE.b (snd_glob (by kernel_rfl) (k_int fx.c_MOST_COUNTED)))) (snd_one (snd_ret (snd_call (FnHas.mono (has_counted fx) (by omega)) (by kernel_rfl) (snd_aCons (snd_var rfl (by kernel_rfl)) snd_aNil)))) snd_nil)
    (snd_seq (snd_set (io := false) rfl (by kernel_rfl) (snd_lst (snd_aCons (snd_var rfl (by kernel_rfl)) (snd_aCons snd_eErr snd_aNil))))
    (snd_seq (snd_set (io := false) rfl (by kernel_rfl) (snd_lst (snd_aCons snd_int (snd_aCons snd_int snd_aNil))))
    (snd_seq (snd_set (io := false) rfl (by kernel_rfl) snd_int)
    (snd_one (snd_while (SndB.t (SndE.b snd_bl)) (snd_seq (snd_for (snd_range1 (by kernel_rfl) fx.b_range snd_int) (snd_gN (i := 5) rfl (by kernel_rfl)) (snd_one (snd_for (snd_iSeq (snd_sl (SndE.b snd_eErr) snd_oNone (snd_oSome (SndE.b snd_int)))) (snd_gN (i := 6) rfl (by kernel_rfl)) (snd_seq (snd_asg (snd_gSetL rfl (by kernel_rfl) (snd_var rfl (by kernel_rfl))) snd_eErr)
    (snd_seq (snd_set (io := false) rfl (by kernel_rfl) snd_eErr)
    (snd_one (snd_ifS (snd_tCmp v_eq bl_eq (SndE.b (snd_f1 vf_len (by kernel_rfl) fx.b_len PyProof.Rows.Boot.«len» (snd_bor rfl (by kernel_rfl)))) (SndE.b snd_int)) (snd_one (snd_ret (snd_ix v_ix (snd_bor rfl (by kernel_rfl)) (SndE.b snd_int)))) snd_nil)))))))
    (snd_one (snd_aug rfl (by kernel_rfl) vi_add (SndE.b snd_int)))))))))))
/-! curve_trace -/
abbrev N_curve_trace : List Str := ["curve"]
theorem sc_curve_trace : FnScope N_curve_trace ["curve"] (defScope (top 63)) := ⟨rfl, rfl, rfl, by decide +kernel, rfl, by decide +kernel, by decide +kernel⟩
theorem bd_curve_trace : DefBinds "curve_trace" (top 63) ["curve"] := fun K f fd F => FunD.bindsN F fun _ _ _ _ _ _ us hl => match us, hl with | [_], _ => rfl
def f_curve_trace : Fn := defF 1 0
    (sSeq (sExpr (eCall 1 f_check_curve (aCons (eVar 0) aNil)))
    (sRet (eBin subT (eBin addT (eBin ixT (eBor 0) (eC (.int 0))) (eC (.int 1))) (eCall 1 f_number_of (aCons (eVar 0) aNil)))))
theorem has_curve_trace (fx : Fx G CM CR fI fdI) : FnHas G 9 "curve_trace" 1 f_curve_trace :=
  has_def (k := 8) fx.d_curve_trace sc_curve_trace bd_curve_trace rfl rfl
    (snd_seq (snd_expr (snd_call (FnHas.mono (has_check_curve fx) (by omega)) (by kernel_rfl) (snd_aCons (snd_var rfl (by kernel_rfl)) snd_aNil)))
    (snd_one (snd_ret (snd_bin v_sub (SndE.b (snd_bin v_add (SndE.b (snd_ix v_ix (snd_bor rfl (by kernel_rfl)) (SndE.b snd_int))) (SndE.b snd_int))) (SndE.b (snd_call (FnHas.mono (has_number_of fx) (by omega)) (by kernel_rfl) (snd_aCons (snd_var rfl (by kernel_rfl)) snd_aNil)))))))
/-! _law_symbols -/
abbrev N__law_symbols : List Str := ["p", "found", "x"]
theorem sc__law_symbols : FnScope N__law_symbols ["p"] (defScope (top 71)) := ⟨rfl, rfl, rfl, by decide +kernel, rfl, by decide +kernel, by decide +kernel⟩
theorem bd__law_symbols : DefBinds "_law_symbols" (top 71) ["p"] := fun K f fd F => FunD.bindsN F fun _ _ _ _ _ _ us hl => match us, hl with | [_], _ => rfl
def f__law_symbols : Fn := defF 1 2
    (sSeq (sSet false 1 (eComp (iRange1 (eVar 0)) [2] (gN 2) eYes (eUn negT (eC (.int 1)))))
    (sSeq (sFor (iRange2 (eC (.int 1)) (eVar 0)) (gN 2) (sAsg (gSetL 1 (eBin modT (eUn intT (eBin mulT (eBor 2) (eBor 2))) (eBor 0))) (eC (.int 1))))
    (sSeq (sAsg (gSetL 1 (eC (.int 0))) (eC (.int 0)))
    (sRet (eVar 1)))))
theorem has__law_symbols (fx : Fx G CM CR fI fdI) : FnHas G 3 "_law_symbols" 1 f__law_symbols :=
  has_def (k := 2) fx.d__law_symbols sc__law_symbols bd__law_symbols rfl rfl
    (snd_seq (snd_setComp (io := false) [("x", 2)] rfl (by kernel_rfl) (by intro env h; obtain ⟨⟩ := env; dsimp only at h; subst h; kernel_rfl) (snd_range1 (by kernel_rfl) fx.b_range (snd_var rfl (by kernel_rfl))) (blkOk_by (by kernel_rfl)) (snd_gnN (i := 2) rfl (by kernel_rfl)) (by decide) snd_ts0 (snd_un v_neg (SndE.b snd_int)))
    (snd_seq (snd_for (snd_range2 (by kernel_rfl) fx.b_range snd_int (snd_var rfl (by kernel_rfl))) (snd_gN (i := 2) rfl (by kernel_rfl)) (snd_one (snd_asg (snd_gSetL rfl (by kernel_rfl) (snd_bin v_mod (SndE.b (snd_t1 vf_int (by kernel_rfl) fx.b_int PyProof.Rows.Boot.«int» (SndE.b (snd_bin v_mul (snd_bor rfl (by kernel_rfl)) (snd_bor rfl (by kernel_rfl)))))) (snd_bor rfl (by kernel_rfl)))) snd_int)))
    (snd_seq (snd_asg (snd_gSetL rfl (by kernel_rfl) snd_int) snd_int)
    (snd_one (snd_ret (snd_var rfl (by kernel_rfl)))))))
/-! _law_cubic -/
abbrev N__law_cubic : List Str := ["curve", "x", "p", "a", "b"]
theorem sc__law_cubic : FnScope N__law_cubic ["curve", "x"] (defScope (top 72)) := ⟨rfl, rfl, rfl, by decide +kernel, rfl, by decide +kernel, by decide +kernel⟩
theorem bd__law_cubic : DefBinds "_law_cubic" (top 72) ["curve", "x"] := fun K f fd F => FunD.bindsN F fun _ _ _ _ _ _ us hl => match us, hl with | [_, _], _ => rfl
def f__law_cubic : Fn := defF 2 3
    (sSeq (sAsg (gTup' 3 (gCons' (gN 2) (gCons' (gN 3) (gCons' (gN 4) gNil')))) (eVar 0))
    (sRet (eBin modT (eUn intT (eBin addT (eBin addT (eBin mulT (eBin mulT (eBor 1) (eBor 1)) (eBor 1)) (eBin mulT (eBor 3) (eBor 1))) (eBor 4))) (eBor 2))))
theorem has__law_cubic (fx : Fx G CM CR fI fdI) : FnHas G 3 "_law_cubic" 2 f__law_cubic :=
  has_def (k := 2) fx.d__law_cubic sc__law_cubic bd__law_cubic rfl rfl
    (snd_seq (snd_asg (snd_gTup (snd_gCons (snd_gN (i := 2) rfl (by kernel_rfl)) (snd_gCons (snd_gN (i := 3) rfl (by kernel_rfl)) (snd_gCons (snd_gN (i := 4) rfl (by kernel_rfl)) snd_gNil)))) (snd_var rfl (by kernel_rfl)))
    (snd_one (snd_ret (snd_bin v_mod (SndE.b (snd_t1 vf_int (by kernel_rfl) fx.b_int PyProof.Rows.Boot.«int» (SndE.b (snd_bin v_add (SndE.b (snd_bin v_add (SndE.b (snd_bin v_mul (SndE.b (snd_bin v_mul (snd_bor rfl (by kernel_rfl)) (snd_bor rfl (by kernel_rfl)))) (snd_bor rfl (by kernel_rfl)))) (SndE.b (snd_bin v_mul (snd_bor rfl (by kernel_rfl)) (snd_bor rfl (by kernel_rfl)))))) (snd_bor rfl (by kernel_rfl)))))) (snd_bor rfl (by kernel_rfl))))))
/-! _law_count -/
abbrev N__law_count : List Str := ["curve", "symbols", "x"]
theorem sc__law_count : FnScope N__law_count ["curve"] (defScope (top 75)) := ⟨rfl, rfl, rfl, by decide +kernel, rfl, by decide +kernel, by decide +kernel⟩
theorem bd__law_count : DefBinds "_law_count" (top 75) ["curve"] := fun K f fd F => FunD.bindsN F fun _ _ _ _ _ _ us hl => match us, hl with | [_], _ => rfl
def f__law_count : Fn := defF 1 2
    (sSeq (sSet false 1 (eCall 1 f__law_symbols (aCons (eBin ixT (eBor 0) (eC (.int 0))) aNil)))
    (sRet (eBin addT (eBin addT (eBin ixT (eBor 0) (eC (.int 0))) (eC (.int 1))) (eUn sumT (eComp (iRange1 (eBin ixT (eBor 0) (eC (.int 0)))) [2] (gN 2) eYes (eBin ixT (eBor 1) (eCall 2 f__law_cubic (aCons (eVar 0) (aCons (eVar 2) aNil)))))))))
theorem has__law_count (fx : Fx G CM CR fI fdI) : FnHas G 4 "_law_count" 1 f__law_count :=
  has_def (k := 3) fx.d__law_count sc__law_count bd__law_count rfl rfl
    (snd_seq (snd_set (io := false) rfl (by kernel_rfl) (snd_call (FnHas.mono (has__law_symbols fx) (by omega)) (by kernel_rfl) (snd_aCons (snd_ix v_ix (snd_bor rfl (by kernel_rfl)) (SndE.b snd_int)) snd_aNil)))
    (snd_one (snd_ret (snd_bin v_add (SndE.b (snd_bin v_add (SndE.b (snd_ix v_ix (snd_bor rfl (by kernel_rfl)) (SndE.b snd_int))) (SndE.b snd_int))) (SndE.b (snd_f1 vf_sum (by kernel_rfl) fx.b_sum PyProof.Rows.Boot.«sum» (SndE.b (snd_comp [("x", 2)] (snd_range1 (by kernel_rfl) fx.b_range (snd_ix v_ix (snd_bor rfl (by kernel_rfl)) (SndE.b snd_int))) (blkOk_by (by kernel_rfl)) (snd_gnN (i := 2) rfl (by kernel_rfl)) (by decide) snd_ts0 (snd_ix v_ix (snd_bor rfl (by kernel_rfl)) (SndE.b (snd_call (FnHas.mono (has__law_cubic fx) (by omega)) (by kernel_rfl) (snd_aCons (snd_var rfl (by kernel_rfl)) (snd_aCons (snd_var rfl (by kernel_rfl)) snd_aNil)))))))))))))
/-! _law_power -/
abbrev N__law_power : List Str := ["a", "e", "p", "total"]
theorem sc__law_power : FnScope N__law_power ["a", "e", "p"] (defScope (top 70)) := ⟨rfl, rfl, rfl, by decide +kernel, rfl, by decide +kernel, by decide +kernel⟩
theorem bd__law_power : DefBinds "_law_power" (top 70) ["a", "e", "p"] := fun K f fd F => FunD.bindsN F fun _ _ _ _ _ _ us hl => match us, hl with | [_, _, _], _ => rfl
def f__law_power : Fn := defF 3 1
    (sSeq (sSet false 3 (eC (.int 1)))
    (sSeq (sSet false 0 (eBin modT (eUn intT (eBor 0)) (eBor 2)))
    (sSeq (whileN 1000000 (eBin gtT (eBor 1) (eC (.int 0))) (sSeq (sIf (eBin eqT (eBin modT (eUn intT (eBor 1)) (eC (.int 2))) (eC (.int 1))) (sSet false 3 (eBin modT (eUn intT (eBin mulT (eBor 3) (eBor 0))) (eBor 2))) sNil)
    (sSeq (sSet false 0 (eBin modT (eUn intT (eBin mulT (eBor 0) (eBor 0))) (eBor 2)))
    (sSet false 1 (eBin fdivT (eBor 1) (eC (.int 2)))))))
    (sRet (eVar 3)))))
theorem has__law_power (fx : Fx G CM CR fI fdI) : FnHas G 3 "_law_power" 3 f__law_power :=
  has_def (k := 2) fx.d__law_power sc__law_power bd__law_power rfl rfl
    (snd_seq (snd_set (io := false) rfl (by kernel_rfl) snd_int)
    (snd_seq (snd_set (io := false) rfl (by kernel_rfl) (snd_bin v_mod (SndE.b (snd_t1 vf_int (by kernel_rfl) fx.b_int PyProof.Rows.Boot.«int» (snd_bor rfl (by kernel_rfl)))) (snd_bor rfl (by kernel_rfl))))
    (snd_seq (snd_while (snd_tCmp v_gt bl_gt (snd_bor rfl (by kernel_rfl)) (SndE.b snd_int)) (snd_seq (snd_ifS (snd_tCmp v_eq bl_eq (SndE.b (snd_bin v_mod (SndE.b (snd_t1 vf_int (by kernel_rfl) fx.b_int PyProof.Rows.Boot.«int» (snd_bor rfl (by kernel_rfl)))) (SndE.b snd_int))) (SndE.b snd_int)) (snd_one (snd_set (io := false) rfl (by kernel_rfl) (snd_bin v_mod (SndE.b (snd_t1 vf_int (by kernel_rfl) fx.b_int PyProof.Rows.Boot.«int» (SndE.b (snd_bin v_mul (snd_bor rfl (by kernel_rfl)) (snd_bor rfl (by kernel_rfl)))))) (snd_bor rfl (by kernel_rfl))))) snd_nil)
    (snd_seq (snd_set (io := false) rfl (by kernel_rfl) (snd_bin v_mod (SndE.b (snd_t1 vf_int (by kernel_rfl) fx.b_int PyProof.Rows.Boot.«int» (SndE.b (snd_bin v_mul (snd_bor rfl (by kernel_rfl)) (snd_bor rfl (by kernel_rfl)))))) (snd_bor rfl (by kernel_rfl))))
    (snd_one (snd_set (io := false) rfl (by kernel_rfl) (snd_bin v_fdiv (snd_bor rfl (by kernel_rfl)) (SndE.b snd_int)))))))
    (snd_one (snd_ret (snd_var rfl (by kernel_rfl)))))))
/-! _law_nonsquare -/
abbrev N__law_nonsquare : List Str := ["p", "d"]
theorem sc__law_nonsquare : FnScope N__law_nonsquare ["p"] (defScope (top 76)) := ⟨rfl, rfl, rfl, by decide +kernel, rfl, by decide +kernel, by decide +kernel⟩
theorem bd__law_nonsquare : DefBinds "_law_nonsquare" (top 76) ["p"] := fun K f fd F => FunD.bindsN F fun _ _ _ _ _ _ us hl => match us, hl with | [_], _ => rfl
def f__law_nonsquare : Fn := defF 1 1
    (sSeq (sSet false 1 (eC (.int 2)))
    (sSeq (whileN 1000000 (eBin eqT (eCall 3 f__law_power (aCons (eVar 1) (aCons (eBin fdivT (eBin subT (eBor 0) (eC (.int 1))) (eC (.int 2))) (aCons (eVar 0) aNil)))) (eC (.int 1))) (sSet false 1 (eBin addT (eBor 1) (eC (.int 1)))))
    (sRet (eVar 1))))
theorem has__law_nonsquare (fx : Fx G CM CR fI fdI) : FnHas G 4 "_law_nonsquare" 1 f__law_nonsquare :=
  has_def (k := 3) fx.d__law_nonsquare sc__law_nonsquare bd__law_nonsquare rfl rfl
    (snd_seq (snd_set (io := false) rfl (by kernel_rfl) snd_int)
    (snd_seq (snd_while (snd_tCmp v_eq bl_eq (SndE.b (snd_call (FnHas.mono (has__law_power fx) (by omega)) (by kernel_rfl) (snd_aCons (snd_var rfl (by kernel_rfl)) (snd_aCons (snd_bin v_fdiv (SndE.b (snd_bin v_sub (snd_bor rfl (by kernel_rfl)) (SndE.b snd_int))) (SndE.b snd_int)) (snd_aCons (snd_var rfl (by kernel_rfl)) snd_aNil))))) (SndE.b snd_int)) (snd_one (snd_set (io := false) rfl (by kernel_rfl) (snd_bin v_add (snd_bor rfl (by kernel_rfl)) (SndE.b snd_int)))))
    (snd_one (snd_ret (snd_var rfl (by kernel_rfl))))))
/-! _law_mul -/
abbrev N__law_mul : List Str := ["p", "d", "u", "v"]
theorem sc__law_mul : FnScope N__law_mul ["p", "d", "u", "v"] (defScope (top 77)) := ⟨rfl, rfl, rfl, by decide +kernel, rfl, by decide +kernel, by decide +kernel⟩
theorem bd__law_mul : DefBinds "_law_mul" (top 77) ["p", "d", "u", "v"] := fun K f fd F => FunD.bindsN F fun _ _ _ _ _ _ us hl => match us, hl with | [_, _, _, _], _ => rfl
def f__law_mul : Fn := defF 4 0
    (sRet (eTup (aCons (eBin modT (eUn intT (eBin addT (eBin mulT (eBin ixT (eBor 2) (eC (.int 0))) (eBin ixT (eBor 3) (eC (.int 0)))) (eBin mulT (eBin mulT (eBor 1) (eBin ixT (eBor 2) (eC (.int 1)))) (eBin ixT (eBor 3) (eC (.int 1)))))) (eBor 0)) (aCons (eBin modT (eUn intT (eBin addT (eBin mulT (eBin ixT (eBor 2) (eC (.int 0))) (eBin ixT (eBor 3) (eC (.int 1)))) (eBin mulT (eBin ixT (eBor 2) (eC (.int 1))) (eBin ixT (eBor 3) (eC (.int 0)))))) (eBor 0)) aNil))))
theorem has__law_mul (fx : Fx G CM CR fI fdI) : FnHas G 3 "_law_mul" 4 f__law_mul :=
  has_def (k := 2) fx.d__law_mul sc__law_mul bd__law_mul rfl rfl
    (snd_one (snd_ret (snd_tup (snd_aCons (snd_bin v_mod (SndE.b (snd_t1 vf_int (by kernel_rfl) fx.b_int PyProof.Rows.Boot.«int» (SndE.b (snd_bin v_add (SndE.b (snd_bin v_mul (SndE.b (snd_ix v_ix (snd_bor rfl (by kernel_rfl)) (SndE.b snd_int))) (SndE.b (snd_ix v_ix (snd_bor rfl (by kernel_rfl)) (SndE.b snd_int))))) (SndE.b (snd_bin v_mul (SndE.b (snd_bin v_mul (snd_bor rfl (by kernel_rfl)) (SndE.b (snd_ix v_ix (snd_bor rfl (by kernel_rfl)) (SndE.b snd_int))))) (SndE.b (snd_ix v_ix (snd_bor rfl (by kernel_rfl)) (SndE.b snd_int))))))))) (snd_bor rfl (by kernel_rfl))) (snd_aCons (snd_bin v_mod (SndE.b (snd_t1 vf_int (by kernel_rfl) fx.b_int PyProof.Rows.Boot.«int» (SndE.b (snd_bin v_add (SndE.b (snd_bin v_mul (SndE.b (snd_ix v_ix (snd_bor rfl (by kernel_rfl)) (SndE.b snd_int))) (SndE.b (snd_ix v_ix (snd_bor rfl (by kernel_rfl)) (SndE.b snd_int))))) (SndE.b (snd_bin v_mul (SndE.b (snd_ix v_ix (snd_bor rfl (by kernel_rfl)) (SndE.b snd_int))) (SndE.b (snd_ix v_ix (snd_bor rfl (by kernel_rfl)) (SndE.b snd_int))))))))) (snd_bor rfl (by kernel_rfl))) snd_aNil)))))
/-! _law_plus -/
abbrev N__law_plus : List Str := ["p", "u", "v"]
theorem sc__law_plus : FnScope N__law_plus ["p", "u", "v"] (defScope (top 78)) := ⟨rfl, rfl, rfl, by decide +kernel, rfl, by decide +kernel, by decide +kernel⟩
theorem bd__law_plus : DefBinds "_law_plus" (top 78) ["p", "u", "v"] := fun K f fd F => FunD.bindsN F fun _ _ _ _ _ _ us hl => match us, hl with | [_, _, _], _ => rfl
def f__law_plus : Fn := defF 3 0
    (sRet (eTup (aCons (eBin modT (eUn intT (eBin addT (eBin ixT (eBor 1) (eC (.int 0))) (eBin ixT (eBor 2) (eC (.int 0))))) (eBor 0)) (aCons (eBin modT (eUn intT (eBin addT (eBin ixT (eBor 1) (eC (.int 1))) (eBin ixT (eBor 2) (eC (.int 1))))) (eBor 0)) aNil))))
theorem has__law_plus (fx : Fx G CM CR fI fdI) : FnHas G 3 "_law_plus" 3 f__law_plus :=
  has_def (k := 2) fx.d__law_plus sc__law_plus bd__law_plus rfl rfl
    (snd_one (snd_ret (snd_tup (snd_aCons (snd_bin v_mod (SndE.b (snd_t1 vf_int (by kernel_rfl) fx.b_int PyProof.Rows.Boot.«int» (SndE.b (snd_bin v_add (SndE.b (snd_ix v_ix (snd_bor rfl (by kernel_rfl)) (SndE.b snd_int))) (SndE.b (snd_ix v_ix (snd_bor rfl (by kernel_rfl)) (SndE.b snd_int))))))) (snd_bor rfl (by kernel_rfl))) (snd_aCons (snd_bin v_mod (SndE.b (snd_t1 vf_int (by kernel_rfl) fx.b_int PyProof.Rows.Boot.«int» (SndE.b (snd_bin v_add (SndE.b (snd_ix v_ix (snd_bor rfl (by kernel_rfl)) (SndE.b snd_int))) (SndE.b (snd_ix v_ix (snd_bor rfl (by kernel_rfl)) (SndE.b snd_int))))))) (snd_bor rfl (by kernel_rfl))) snd_aNil)))))
/-! _law_walked -/
abbrev N__law_walked : List Str := ["curve", "p", "a", "b", "d", "members", "squares", "u", "key", "count", "cube", "value", "at"]
theorem sc__law_walked : FnScope N__law_walked ["curve"] (defScope (top 80)) := ⟨rfl, rfl, rfl, by decide +kernel, rfl, by decide +kernel, by decide +kernel⟩
theorem bd__law_walked : DefBinds "_law_walked" (top 80) ["curve"] := fun K f fd F => FunD.bindsN F fun _ _ _ _ _ _ us hl => match us, hl with | [_], _ => rfl
def f__law_walked : Fn := defF 1 12
    (sSeq (sAsg (gTup' 3 (gCons' (gN 1) (gCons' (gN 2) (gCons' (gN 3) gNil')))) (eVar 0))
    (sSeq (sSet false 4 (eCall 1 f__law_nonsquare (aCons (eVar 1) aNil)))
    (sSeq (sSet false 5 (eComp (iRange1 (eBin mulT (eBor 1) (eBor 1))) [12] (gN 12) eYes (eTup (aCons (eBin fdivT (eBor 12) (eBor 1)) (aCons (eBin modT (eUn intT (eBor 12)) (eBor 1)) aNil)))))
    (sSeq (sSet false 6 eDT)
    (sSeq (sFor (iSeq (eVar 5)) (gN 7) (sSeq (sSet false 8 (eCall 4 f__law_mul (aCons (eVar 1) (aCons (eVar 4) (aCons (eVar 7) (aCons (eVar 7) aNil))))))
    (sDSet 6 (eVar 8) (eBin addT (eDGet2 (eBor 6) (eVar 8) (eC (.int 0))) (eC (.int 1))))))
    (sSeq (sSet false 9 (eC (.int 1)))
    (sSeq (sFor (iSeq (eVar 5)) (gN 7) (sSeq (sSet false 10 (eCall 4 f__law_mul (aCons (eVar 1) (aCons (eVar 4) (aCons (eVar 7) (aCons (eCall 4 f__law_mul (aCons (eVar 1) (aCons (eVar 4) (aCons (eVar 7) (aCons (eVar 7) aNil))))) aNil))))))
    (sSeq (sSet false 11 (eCall 3 f__law_plus (aCons (eVar 1) (aCons (eCall 3 f__law_plus (aCons (eVar 1) (aCons (eVar 10) (aCons (eCall 4 f__law_mul (aCons (eVar 1) (aCons (eVar 4) (aCons (eTup (aCons (eVar 2) (aCons (eC (.int 0)) aNil))) (aCons (eVar 7) aNil))))) aNil)))) (aCons (eTup (aCons (eVar 3) (aCons (eC (.int 0)) aNil))) aNil)))))
    (sSet false 9 (eBin addT (eBor 9) (eDGet2 (eBor 6) (eVar 11) (eC (.int 0))))))))
    (sRet (eVar 9)))))))))
theorem has__law_walked (fx : Fx G CM CR fI fdI) : FnHas G 5 "_law_walked" 1 f__law_walked :=
  has_def (k := 4) fx.d__law_walked sc__law_walked bd__law_walked rfl rfl
    (snd_seq (snd_asg (snd_gTup (snd_gCons (snd_gN (i := 1) rfl (by kernel_rfl)) (snd_gCons (snd_gN (i := 2) rfl (by kernel_rfl)) (snd_gCons (snd_gN (i := 3) rfl (by kernel_rfl)) snd_gNil)))) (snd_var rfl (by kernel_rfl)))
    (snd_seq (snd_set (io := false) rfl (by kernel_rfl) (snd_call (FnHas.mono (has__law_nonsquare fx) (by omega)) (by kernel_rfl) (snd_aCons (snd_var rfl (by kernel_rfl)) snd_aNil)))
    (snd_seq (snd_setComp (io := false) [("at", 12)] rfl (by kernel_rfl) (by intro env h; obtain ⟨⟩ := env; dsimp only at h; subst h; kernel_rfl) (snd_range1 (by kernel_rfl) fx.b_range (snd_bin v_mul (snd_bor rfl (by kernel_rfl)) (snd_bor rfl (by kernel_rfl)))) (blkOk_by (by kernel_rfl)) (snd_gnN (i := 12) rfl (by kernel_rfl)) (by decide) snd_ts0 (snd_tup (snd_aCons (snd_bin v_fdiv (snd_bor rfl (by kernel_rfl)) (snd_bor rfl (by kernel_rfl))) (snd_aCons (snd_bin v_mod (SndE.b (snd_t1 vf_int (by kernel_rfl) fx.b_int PyProof.Rows.Boot.«int» (snd_bor rfl (by kernel_rfl)))) (snd_bor rfl (by kernel_rfl))) snd_aNil))))
    (snd_seq (snd_set (io := false) rfl (by kernel_rfl) snd_dt)
    (snd_seq (snd_for (snd_iSeq (snd_var rfl (by kernel_rfl))) (snd_gN (i := 7) rfl (by kernel_rfl)) (snd_seq (snd_set (io := false) rfl (by kernel_rfl) (snd_call (FnHas.mono (has__law_mul fx) (by omega)) (by kernel_rfl) (snd_aCons (snd_var rfl (by kernel_rfl)) (snd_aCons (snd_var rfl (by kernel_rfl)) (snd_aCons (snd_var rfl (by kernel_rfl)) (snd_aCons (snd_var rfl (by kernel_rfl)) snd_aNil))))))
    (snd_one (snd_dset rfl (by kernel_rfl) (snd_var rfl (by kernel_rfl)) (snd_bin v_add (SndE.b (snd_dget2 (snd_bor rfl (by kernel_rfl)) (snd_var rfl (by kernel_rfl)) snd_int)) (SndE.b snd_int))))))
    (snd_seq (snd_set (io := false) rfl (by kernel_rfl) snd_int)
    (snd_seq (snd_for (snd_iSeq (snd_var rfl (by kernel_rfl))) (snd_gN (i := 7) rfl (by kernel_rfl)) (snd_seq (snd_set (io := false) rfl (by kernel_rfl) (snd_call (FnHas.mono (has__law_mul fx) (by omega)) (by kernel_rfl) (snd_aCons (snd_var rfl (by kernel_rfl)) (snd_aCons (snd_var rfl (by kernel_rfl)) (snd_aCons (snd_var rfl (by kernel_rfl)) (snd_aCons (snd_call (FnHas.mono (has__law_mul fx) (by omega)) (by kernel_rfl) (snd_aCons (snd_var rfl (by kernel_rfl)) (snd_aCons (snd_var rfl (by kernel_rfl)) (snd_aCons (snd_var rfl (by kernel_rfl)) (snd_aCons (snd_var rfl (by kernel_rfl)) snd_aNil))))) snd_aNil))))))
    (snd_seq (snd_set (io := false) rfl (by kernel_rfl) (snd_call (FnHas.mono (has__law_plus fx) (by omega)) (by kernel_rfl) (snd_aCons (snd_var rfl (by kernel_rfl)) (snd_aCons (snd_call (FnHas.mono (has__law_plus fx) (by omega)) (by kernel_rfl) (snd_aCons (snd_var rfl (by kernel_rfl)) (snd_aCons (snd_var rfl (by kernel_rfl)) (snd_aCons (snd_call (FnHas.mono (has__law_mul fx) (by omega)) (by kernel_rfl) (snd_aCons (snd_var rfl (by kernel_rfl)) (snd_aCons (snd_var rfl (by kernel_rfl)) (snd_aCons (snd_tup (snd_aCons (snd_var rfl (by kernel_rfl)) (snd_aCons snd_int snd_aNil))) (snd_aCons (snd_var rfl (by kernel_rfl)) snd_aNil))))) snd_aNil)))) (snd_aCons (snd_tup (snd_aCons (snd_var rfl (by kernel_rfl)) (snd_aCons snd_int snd_aNil))) snd_aNil)))))
    (snd_one (snd_set (io := false) rfl (by kernel_rfl) (snd_bin v_add (snd_bor rfl (by kernel_rfl)) (SndE.b (snd_dget2 (snd_bor rfl (by kernel_rfl)) (snd_var rfl (by kernel_rfl)) snd_int))))))))
    (snd_one (snd_ret (snd_var rfl (by kernel_rfl)))))))))))
/-! _law_due -/
abbrev N__law_due : List Str := ["p", "t", "k", "before", "at", "whole", "turn"]
theorem sc__law_due : FnScope N__law_due ["p", "t", "k"] (defScope (top 81)) := ⟨rfl, rfl, rfl, by decide +kernel, rfl, by decide +kernel, by decide +kernel⟩
theorem bd__law_due : DefBinds "_law_due" (top 81) ["p", "t", "k"] := fun K f fd F => FunD.bindsN F fun _ _ _ _ _ _ us hl => match us, hl with | [_, _, _], _ => rfl
def f__law_due : Fn := defF 3 4
    (sSeq (sPar [3, 4, 5] (afCons (eC (.int 2)) (afCons (eVar 1) (afCons (eVar 0) afNil))))
    (sSeq (sFor (iRange1 (eBin subT (eBor 2) (eC (.int 1)))) (gN 6) (sPar [3, 4, 5] (afCons (eVar 4) (afCons (eBin subT (eBin mulT (eBor 1) (eBor 4)) (eBin mulT (eBor 0) (eBor 3))) (afCons (eBin mulT (eBor 5) (eBor 0)) afNil)))))
    (sRet (eBin subT (eBin addT (eBor 5) (eC (.int 1))) (eBor 4)))))
theorem has__law_due (fx : Fx G CM CR fI fdI) : FnHas G 3 "_law_due" 3 f__law_due :=
  has_def (k := 2) fx.d__law_due sc__law_due bd__law_due rfl rfl
    (snd_seq (snd_par3 (i := 3) (j := 4) (l := 5) rfl rfl rfl (by decide) (by decide) (by decide) (by kernel_rfl) (by kernel_rfl) (by kernel_rfl) (snd_afCons snd_int (snd_afCons (snd_var rfl (by kernel_rfl)) (snd_afCons (snd_var rfl (by kernel_rfl)) snd_afNil))) (by intro env h; obtain ⟨⟩ := env; dsimp only at h; subst h; kernel_rfl))
    (snd_seq (snd_for (snd_range1 (by kernel_rfl) fx.b_range (snd_bin v_sub (snd_bor rfl (by kernel_rfl)) (SndE.b snd_int))) (snd_gN (i := 6) rfl (by kernel_rfl)) (snd_one (snd_par3 (i := 3) (j := 4) (l := 5) rfl rfl rfl (by decide) (by decide) (by decide) (by kernel_rfl) (by kernel_rfl) (by kernel_rfl) (snd_afCons (snd_var rfl (by kernel_rfl)) (snd_afCons (snd_bin v_sub (SndE.b (snd_bin v_mul (snd_bor rfl (by kernel_rfl)) (snd_bor rfl (by kernel_rfl)))) (SndE.b (snd_bin v_mul (snd_bor rfl (by kernel_rfl)) (snd_bor rfl (by kernel_rfl))))) (snd_afCons (snd_bin v_mul (snd_bor rfl (by kernel_rfl)) (snd_bor rfl (by kernel_rfl))) snd_afNil))) (by intro env h; obtain ⟨⟩ := env; dsimp only at h; subst h; kernel_rfl))))
    (snd_one (snd_ret (snd_bin v_sub (SndE.b (snd_bin v_add (snd_bor rfl (by kernel_rfl)) (SndE.b snd_int))) (snd_bor rfl (by kernel_rfl)))))))
/-! law -/
abbrev N_law : List Str := ["script", "state", "curve", "p", "t", "q", "s", "k", "told", "m", "bad"]
theorem sc_law : FnScope N_law ["script"] (defScope (top 82)) := ⟨rfl, rfl, rfl, by decide +kernel, rfl, by decide +kernel, by decide +kernel⟩
theorem bd_law : DefBinds "law" (top 82) ["script"] := fun K f fd F => FunD.bindsN F fun _ _ _ _ _ _ us hl => match us, hl with | [_], _ => rfl
def b_law : S :=
    (sSeq (sSet true 1 (eCall 1 f__law_state (aCons (eVar 0) aNil)))
    (sSeq (sSet false 2 (eCallI 1 f__law_curve 1 (aCons (eBin ixT (eLst (aCons (eC (.int 5)) (aCons (eC (.int 7)) (aCons (eC (.int 11)) (aCons (eC (.int 13)) aNil))))) (eCallI 1 f__law_take 1 (aCons (eC (.int 4)) aNil))) aNil)))
    (sSeq (sPar [3, 4] (afCons (eBin ixT (eBor 2) (eC (.int 0))) (afCons (eCall 1 f__law_plain (aCons (eCall 1 f_curve_trace (aCons (eVar 2) aNil)) aNil)) afNil)))
    (sSeq (sIf (eOr (eBin neT (eCall 1 f__law_plain (aCons (eCall 3 f_number_over (aCons (eVar 3) (aCons (eVar 4) (aCons (eC (.int 1)) aNil)))) aNil)) (eCall 1 f__law_count (aCons (eVar 2) aNil))) (eBin neT (eCall 1 f__law_plain (aCons (eCall 3 f_number_over (aCons (eVar 3) (aCons (eVar 4) (aCons (eC (.int 2)) aNil)))) aNil)) (eCall 1 f__law_walked (aCons (eVar 2) aNil)))) (sRet (eC (.bl false))) sNil)
    (sSeq (sSet false 5 (eBin ixT (eLst (aCons (eBin addT (eBin powT (eC (.int 10)) (eC (.int 9))) (eC (.int 7))) (aCons (eC (.int 9973)) (aCons (eC (.int 101)) (aCons (eC (.int 9999999967)) aNil))))) (eCallI 1 f__law_take 1 (aCons (eC (.int 4)) aNil))))
    (sSeq (sSet false 6 (eBin subT (eCallI 1 f__law_take 1 (aCons (eC (.int 19)) aNil)) (eC (.int 9))))
    (sSeq (sSet false 7 (eBin addT (eC (.int 1)) (eCallI 1 f__law_take 1 (aCons (eC (.int 100)) aNil))))
    (sSeq (sSet false 8 (eCall 1 f__law_plain (aCons (eCall 3 f_number_over (aCons (eVar 5) (aCons (eVar 6) (aCons (eVar 7) aNil)))) aNil)))
    (sSeq (sIf (eOr (eBin neT (eBor 8) (eCall 3 f__law_due (aCons (eVar 5) (aCons (eVar 6) (aCons (eVar 7) aNil))))) (eUn (isiT is_bool) (eBor 8))) (sRet (eC (.bl false))) sNil)
    (sSeq (sSet false 9 (eBin addT (eC (.int 1)) (eCallI 1 f__law_take 1 (aCons (eBin fdivT (eC (.int 100)) (eBor 7)) aNil))))
    (sSeq (sIf (eOr (eBin neT (eBin modT (eUn intT (eCall 1 f__law_plain (aCons (eCall 3 f_number_over (aCons (eVar 5) (aCons (eVar 6) (aCons (eBin mulT (eBor 7) (eBor 9)) aNil)))) aNil))) (eBor 8)) (eC (.int 0))) (eBin neT (eCall 1 f__law_plain (aCons (eCall 3 f_number_over (aCons (eVar 5) (aCons (eC (.int 0)) (aCons (eC (.int 100)) aNil)))) aNil)) (eCall 3 f__law_due (aCons (eVar 5) (aCons (eC (.int 0)) (aCons (eC (.int 100)) aNil)))))) (sRet (eC (.bl false))) sNil)
    (sSeq (sIf (eOr (eBin neT (eCall 3 f__law_told (aCons (eC (.int 7)) (aCons (eC (.int 6)) (aCons (eC (.int 1)) aNil)))) (eC (.str "trace"))) (eOr (eBin neT (eCall 3 f__law_told (aCons (eC (.int 7)) (aCons (eUn negT (eC (.int 6))) (aCons (eC (.int 200)) aNil)))) (eC (.str "trace"))) (eBin neT (eCall 3 f__law_told (aCons (eC (.int 7)) (aCons (eC (.int 5)) (aCons (eC (.int 101)) aNil)))) (eC (.str "large"))))) (sRet (eC (.bl false))) sNil)
    (sSeq (sSet false 10 (eBin ixT (eLst (aCons (eC (.int 4)) (aCons (eC (.int 3)) (aCons (eC (.int 9)) (aCons (eC .non) (aCons (eC (.bl true)) (aCons (eUn negT (eC (.int 7))) (aCons (eC (.str "7")) aNil)))))))) (eCallI 1 f__law_take 1 (aCons (eC (.int 7)) aNil))))
    (sSeq (sSet false 8 (eLst (aCons (eCall 3 f__law_told (aCons (eVar 10) (aCons (eC (.int 1)) (aCons (eC (.int 1)) aNil)))) (aCons (eCall 3 f__law_told (aCons (eC (.int 7)) (aCons (eBin ixT (eLst (aCons (eC .non) (aCons (eC (.bl true)) (aCons (eC (.str "1")) aNil)))) (eCallI 1 f__law_take 1 (aCons (eC (.int 3)) aNil))) (aCons (eC (.int 1)) aNil)))) aNil))))
    (sRet (eBin eqT (eBin addT (eBor 8) (eLst (aCons (eCall 3 f__law_told (aCons (eC (.int 7)) (aCons (eC (.int 1)) (aCons (eBin ixT (eLst (aCons (eC (.int 0)) (aCons (eUn negT (eC (.int 1))) (aCons (eC .non) (aCons (eC (.bl true)) (aCons (eC (.str "2")) aNil)))))) (eCallI 1 f__law_take 1 (aCons (eC (.int 5)) aNil))) aNil)))) aNil))) (eComp (iRange1 (eC (.int 3))) [7] (gN 7) eYes (eC (.str "malformed")))))))))))))))))))
def f_law : Fn := defF 1 10 b_law
theorem snd_law (fx : Fx G CM CR fI fdI) : SndSs G (defScope (top 82)) N_law 10 (defBody (top 82)) b_law :=
  (snd_seq (snd_set (io := true) rfl (by kernel_rfl) (snd_call (FnHas.mono (has__law_state fx) (by omega)) (by kernel_rfl) (snd_aCons (snd_var rfl (by kernel_rfl)) snd_aNil)))
    (snd_seq (snd_set (io := false) rfl (by kernel_rfl) (snd_callI (FnHasI.mono (has__law_curve fx) (by omega)) (by kernel_rfl) rfl (by kernel_rfl) (snd_aCons (snd_ix v_ix (SndE.b (snd_lst (snd_aCons snd_int (snd_aCons snd_int (snd_aCons snd_int (snd_aCons snd_int snd_aNil)))))) (SndE.b (snd_callI (FnHasI.mono (has__law_take fx) (by omega)) (by kernel_rfl) rfl (by kernel_rfl) (snd_aCons snd_int snd_aNil)))) snd_aNil)))
    (snd_seq (snd_par2 (i := 3) (j := 4) rfl rfl (by decide) (by kernel_rfl) (by kernel_rfl) (snd_afCons (snd_ix v_ix (snd_bor rfl (by kernel_rfl)) (SndE.b snd_int)) (snd_afCons (snd_call (FnHas.mono (has__law_plain fx) (by omega)) (by kernel_rfl) (snd_aCons (snd_call (FnHas.mono (has_curve_trace fx) (by omega)) (by kernel_rfl) (snd_aCons (snd_var rfl (by kernel_rfl)) snd_aNil)) snd_aNil)) snd_afNil)) (by intro env h; obtain ⟨⟩ := env; dsimp only at h; subst h; kernel_rfl))
    (snd_seq (snd_ifS (snd_w (snd_wOr (snd_tCmp v_ne bl_ne (SndE.b (snd_call (FnHas.mono (has__law_plain fx) (by omega)) (by kernel_rfl) (snd_aCons (snd_call (FnHas.mono (has_number_over fx) (by omega)) (by kernel_rfl) (snd_aCons (snd_var rfl (by kernel_rfl)) (snd_aCons (snd_var rfl (by kernel_rfl)) (snd_aCons snd_int snd_aNil)))) snd_aNil))) (SndE.b (snd_call (FnHas.mono (has__law_count fx) (by omega)) (by kernel_rfl) (snd_aCons (snd_var rfl (by kernel_rfl)) snd_aNil)))) (snd_wOr1 (snd_tCmp v_ne bl_ne (SndE.b (snd_call (FnHas.mono (has__law_plain fx) (by omega)) (by kernel_rfl) (snd_aCons (snd_call (FnHas.mono (has_number_over fx) (by omega)) (by kernel_rfl) (snd_aCons (snd_var rfl (by kernel_rfl)) (snd_aCons (snd_var rfl (by kernel_rfl)) (snd_aCons snd_int snd_aNil)))) snd_aNil))) (SndE.b (snd_call (FnHas.mono (has__law_walked fx) (by omega)) (by kernel_rfl) (snd_aCons (snd_var rfl (by kernel_rfl)) snd_aNil))))))) (snd_one (snd_ret snd_bl)) snd_nil)
    (snd_seq (snd_set (io := false) rfl (by kernel_rfl) (snd_ix v_ix (SndE.b (snd_lst (snd_aCons (snd_bin v_add (SndE.b (snd_bin v_pow (SndE.b snd_int) (SndE.b snd_int))) (SndE.b snd_int)) (snd_aCons snd_int (snd_aCons snd_int (snd_aCons snd_int snd_aNil)))))) (SndE.b (snd_callI (FnHasI.mono (has__law_take fx) (by omega)) (by kernel_rfl) rfl (by kernel_rfl) (snd_aCons snd_int snd_aNil)))))
    (snd_seq (snd_set (io := false) rfl (by kernel_rfl) (snd_bin v_sub (SndE.b (snd_callI (FnHasI.mono (has__law_take fx) (by omega)) (by kernel_rfl) rfl (by kernel_rfl) (snd_aCons snd_int snd_aNil))) (SndE.b snd_int)))
    (snd_seq (snd_set (io := false) rfl (by kernel_rfl) (snd_bin v_add (SndE.b snd_int) (SndE.b (snd_callI (FnHasI.mono (has__law_take fx) (by omega)) (by kernel_rfl) rfl (by kernel_rfl) (snd_aCons snd_int snd_aNil)))))
    (snd_seq (snd_set (io := false) rfl (by kernel_rfl) (snd_call (FnHas.mono (has__law_plain fx) (by omega)) (by kernel_rfl) (snd_aCons (snd_call (FnHas.mono (has_number_over fx) (by omega)) (by kernel_rfl) (snd_aCons (snd_var rfl (by kernel_rfl)) (snd_aCons (snd_var rfl (by kernel_rfl)) (snd_aCons (snd_var rfl (by kernel_rfl)) snd_aNil)))) snd_aNil)))
    (snd_seq (snd_ifS (snd_w (snd_wOr (snd_tCmp v_ne bl_ne (snd_bor rfl (by kernel_rfl)) (SndE.b (snd_call (FnHas.mono (has__law_due fx) (by omega)) (by kernel_rfl) (snd_aCons (snd_var rfl (by kernel_rfl)) (snd_aCons (snd_var rfl (by kernel_rfl)) (snd_aCons (snd_var rfl (by kernel_rfl)) snd_aNil)))))) (snd_wOr1 (SndB.t (SndE.b (snd_isi1 isb_bool PyProof.Rows.Boot.«bool» (by kernel_rfl) fx.b_isinstance (by kernel_rfl) fx.b_bool (snd_bor rfl (by kernel_rfl)))))))) (snd_one (snd_ret snd_bl)) snd_nil)
    (snd_seq (snd_set (io := false) rfl (by kernel_rfl) (snd_bin v_add (SndE.b snd_int) (SndE.b (snd_callI (FnHasI.mono (has__law_take fx) (by omega)) (by kernel_rfl) rfl (by kernel_rfl) (snd_aCons (snd_bin v_fdiv (SndE.b snd_int) (snd_bor rfl (by kernel_rfl))) snd_aNil)))))
    (snd_seq (snd_ifS (snd_w (snd_wOr (snd_tCmp v_ne bl_ne (SndE.b (snd_bin v_mod (SndE.b (snd_t1 vf_int (by kernel_rfl) fx.b_int PyProof.Rows.Boot.«int» (SndE.b (snd_call (FnHas.mono (has__law_plain fx) (by omega)) (by kernel_rfl) (snd_aCons (snd_call (FnHas.mono (has_number_over fx) (by omega)) (by kernel_rfl) (snd_aCons (snd_var rfl (by kernel_rfl)) (snd_aCons (snd_var rfl (by kernel_rfl)) (snd_aCons (snd_bin v_mul (snd_bor rfl (by kernel_rfl)) (snd_bor rfl (by kernel_rfl))) snd_aNil)))) snd_aNil))))) (snd_bor rfl (by kernel_rfl)))) (SndE.b snd_int)) (snd_wOr1 (snd_tCmp v_ne bl_ne (SndE.b (snd_call (FnHas.mono (has__law_plain fx) (by omega)) (by kernel_rfl) (snd_aCons (snd_call (FnHas.mono (has_number_over fx) (by omega)) (by kernel_rfl) (snd_aCons (snd_var rfl (by kernel_rfl)) (snd_aCons snd_int (snd_aCons snd_int snd_aNil)))) snd_aNil))) (SndE.b (snd_call (FnHas.mono (has__law_due fx) (by omega)) (by kernel_rfl) (snd_aCons (snd_var rfl (by kernel_rfl)) (snd_aCons snd_int (snd_aCons snd_int snd_aNil))))))))) (snd_one (snd_ret snd_bl)) snd_nil)
    (snd_seq (snd_ifS (snd_w (snd_wOr (snd_tCmp v_ne bl_ne (SndE.b (snd_call (FnHas.mono (has__law_told fx) (by omega)) (by kernel_rfl) (snd_aCons snd_int (snd_aCons snd_int (snd_aCons snd_int snd_aNil))))) (SndE.b snd_str)) (snd_wOr (snd_tCmp v_ne bl_ne (SndE.b (snd_call (FnHas.mono (has__law_told fx) (by omega)) (by kernel_rfl) (snd_aCons snd_int (snd_aCons (snd_un v_neg (SndE.b snd_int)) (snd_aCons snd_int snd_aNil))))) (SndE.b snd_str)) (snd_wOr1 (snd_tCmp v_ne bl_ne (SndE.b (snd_call (FnHas.mono (has__law_told fx) (by omega)) (by kernel_rfl) (snd_aCons snd_int (snd_aCons snd_int (snd_aCons snd_int snd_aNil))))) (SndE.b snd_str)))))) (snd_one (snd_ret snd_bl)) snd_nil)
    (snd_seq (snd_set (io := false) rfl (by kernel_rfl) (snd_ix v_ix (SndE.b (snd_lst (snd_aCons snd_int (snd_aCons snd_int (snd_aCons snd_int (snd_aCons snd_non (snd_aCons snd_bl (snd_aCons (snd_un v_neg (SndE.b snd_int)) (snd_aCons snd_str snd_aNil))))))))) (SndE.b (snd_callI (FnHasI.mono (has__law_take fx) (by omega)) (by kernel_rfl) rfl (by kernel_rfl) (snd_aCons snd_int snd_aNil)))))
    (snd_seq (snd_set (io := false) rfl (by kernel_rfl) (snd_lst (snd_aCons (snd_call (FnHas.mono (has__law_told fx) (by omega)) (by kernel_rfl) (snd_aCons (snd_var rfl (by kernel_rfl)) (snd_aCons snd_int (snd_aCons snd_int snd_aNil)))) (snd_aCons (snd_call (FnHas.mono (has__law_told fx) (by omega)) (by kernel_rfl) (snd_aCons snd_int (snd_aCons (snd_ix v_ix (SndE.b (snd_lst (snd_aCons snd_non (snd_aCons snd_bl (snd_aCons snd_str snd_aNil))))) (SndE.b (snd_callI (FnHasI.mono (has__law_take fx) (by omega)) (by kernel_rfl) rfl (by kernel_rfl) (snd_aCons snd_int snd_aNil)))) (snd_aCons snd_int snd_aNil)))) snd_aNil))))
    (snd_one (snd_ret (snd_cmp v_eq (SndE.b (snd_bin v_add (snd_bor rfl (by kernel_rfl)) (SndE.b (snd_lst (snd_aCons (snd_call (FnHas.mono (has__law_told fx) (by omega)) (by kernel_rfl) (snd_aCons snd_int (snd_aCons snd_int (snd_aCons (snd_ix v_ix (SndE.b (snd_lst (snd_aCons snd_int (snd_aCons (snd_un v_neg (SndE.b snd_int)) (snd_aCons snd_non (snd_aCons snd_bl (snd_aCons snd_str snd_aNil))))))) (SndE.b (snd_callI (FnHasI.mono (has__law_take fx) (by omega)) (by kernel_rfl) rfl (by kernel_rfl) (snd_aCons snd_int snd_aNil)))) snd_aNil)))) snd_aNil))))) (SndE.b (snd_comp [("k", 7)] (snd_range1 (by kernel_rfl) fx.b_range snd_int) (blkOk_by (by kernel_rfl)) (snd_gnN (i := 7) rfl (by kernel_rfl)) (by decide) snd_ts0 snd_str)))))))))))))))))))
end
def lvl_law : Nat := 11
end K55

set_option Elab.async false
set_option linter.all false
set_option maxRecDepth 1000000
set_option maxHeartbeats 0
set_option autoImplicit false
namespace K55
open PySem PySem.Spec L2 PT
theorem take_spec (s t m : Int) (hm : 0 < m) (hb : m < 2 ^ 64) : ∃ v s' t', f__law_take (stO s t) [.int m] = .ret (.int v) false (stO s' t') ∧ 0 ≤ v ∧ v < m := by
  have hd : fdivOk m = true := fdivOk_of hm hb
  have h7 : fdivOk 7 = true := by decide
  have h8 : small 48271 = true := by decide
  by_cases h : 0 < s
  · refine ⟨s % m, s / m, t, ?_, Int.emod_nonneg _ (by omega), Int.emod_lt_of_pos _ hm⟩
    simp [f__law_take, defI, gSetL, isL, h, modT_p hm, fdivT_p hd]
  · refine ⟨((t * 48271 + 11) % 2147483647 / 7) % m, s, (t * 48271 + 11) % 2147483647, ?_, Int.emod_nonneg _ (by omega), Int.emod_lt_of_pos _ hm⟩
    simp [f__law_take, defI, gSetL, isL, h, modT_p hm, fdivT_p h7, mulT_s h8, modT_p (show (0 : Int) < 2147483647 by decide)]
theorem state_loop : ∀ (l : List Int) (s t : Int) (a : Slot) (x : Slot), (∀ io o, x ≠ .own io o) → ∃ s' t' x', forL (gN 3) (sSeq (sSet false 1 (eBin addT (eBin mulT (eBor 1) (eC (.int 1000003))) (eUn absT (eBor 3))))
    (sSet false 2 (eBin modT (eUn intT (eBin addT (eBin mulT (eBor 2) (eC (.int 48271))) (eBor 3))) (eC (.int 2147483647))))) (l.map T.int) [a, .val (.int s), .val (.int t), x] = .nx [a, .val (.int s'), .val (.int t'), x']
  | [], s, t, a, x, _ => ⟨s, t, x, rfl⟩
  | i :: l, s, t, a, x, hx => by
    have h8 : small 48271 = true := by decide
    have h9 : small 1000003 = true := by decide
    obtain ⟨s', t', x', e⟩ := state_loop l (s * 1000003 + if i < 0 then -i else i) ((t * 48271 + i) % 2147483647) a (.val (.int i)) (fun _ _ h => by cases h)
    refine ⟨s', t', x', ?_⟩
    rw [← e, List.map_cons]
    cases x with
    | own io o => exact absurd rfl (hx io o)
    | un => simp [forL, mulT_s h8, mulT_s h9, modT_p (show (0 : Int) < 2147483647 by decide)]
    | val t => simp [forL, mulT_s h8, mulT_s h9, modT_p (show (0 : Int) < 2147483647 by decide)]
theorem state_spec (ns : List Int) (h : ns.length ≤ 63) : ∃ s t, f__law_state [.frz (ns.map .int)] = .ret (.lst [.int s, .int t]) true := by
  obtain ⟨s, t, x', e⟩ := state_loop ns 0 1 (.val (.frz (ns.map .int))) .un (fun _ _ h => by cases h)
  refine ⟨s, t, ?_⟩
  have c : cutT (ns.map T.int) none (some 63) = ns.map T.int := by
    unfold cutT
    have q0 : HT.sIx (ns.map T.int).length 0 none = 0 := rfl
    rw [q0]
    simp only [List.drop_zero, Nat.sub_zero]
    apply List.take_of_length_le
    rw [List.length_map, show (63 : Int) = ((63 : Nat) : Int) from rfl, HT.sIx_nat]
    omega
  have hz : (2 : Nat) ≤ sizeLine := by rw [sizeLine_eq]; decide
  simp [f__law_state, defF_app, eSl, eB, oNone, oSome, cutR, seqL, c, e, hz]
end K55

set_option Elab.async false
set_option linter.all false
set_option maxRecDepth 1000000
set_option maxHeartbeats 0
set_option autoImplicit false
namespace K55
open PySem PySem.Spec L2 PT
theorem integer_int (i : Int) : f_is_integer [.int i] = .ret (.bl true) false := by kernel_rfl
theorem odd_int (i : Int) : f__law_odd 3 [.int i] = .ret (.bl false) false := by kernel_rfl
theorem plain_int (i : Int) : f__law_plain [.int i] = .ret (.int i) false := by kernel_rfl
theorem no_word_int (i : Int) : f__law_no_word [.int i] = .ret (.int i) false := by kernel_rfl
theorem small_nn {i : Int} (h : 0 ≤ i) (h2 : i < 2 ^ 64) : small i = true := small_of (by omega) h2
/-! number_over -/
def luc (p t : Int) : Nat → Int × Int → Int × Int
  | 0, x => x
  | n + 1, x => luc p t n (x.2, t * x.2 - p * x.1)
theorem over_loop {p t : Int} (hp : small p = true) (ht : small t = true) (s2 : Slot) : ∀ (l : List T) (b n : Int) (x : Slot), (∀ io o, x ≠ .own io o) → ∃ x', forL (gN 5) (sPar [3, 4] (afCons (eVar 4) (afCons (eBin subT (eBin mulT (eBor 1) (eBor 4)) (eBin mulT (eBor 0) (eBor 3))) afNil))) l
    [.val (.int p), .val (.int t), s2, .val (.int b), .val (.int n), x] = .nx [.val (.int p), .val (.int t), s2, .val (.int (luc p t l.length (b, n)).1), .val (.int (luc p t l.length (b, n)).2), x']
  | [], b, n, x, _ => ⟨x, rfl⟩
  | u :: l, b, n, x, hx => by
    obtain ⟨x', e⟩ := over_loop hp ht s2 l n (t * n - p * b) (.val u) (fun _ _ h => by cases h)
    refine ⟨x', ?_⟩
    rw [List.length_cons]
    show _ = SRes.nx [.val (.int p), .val (.int t), s2, .val (.int (luc p t l.length (n, t * n - p * b)).1), .val (.int (luc p t l.length (n, t * n - p * b)).2), x']
    rw [← e]
    cases x with
    | own io o => exact absurd rfl (hx io o)
    | un => simp [forL_cons, mulT_s' hp, mulT_s' ht]
    | val t => simp [forL_cons, mulT_s' hp, mulT_s' ht]
theorem okR_small {i : Int} (h1 : -1000 ≤ i) (h2 : i ≤ 1000) : okR i = true := by
  unfold okR
  simp
  omega
theorem over_spec {p t : Int} {k : Nat} {r : Int} (hp : small p = true) (ht : small t = true) (hc : f_check_prime [.int p] = .ret .non false) (h1 : 1 ≤ k) (h2 : k ≤ 100) (hr : f_raised [.int p, .int k] = .ret (.int r) false) (htt : t * t ≤ 4 * p) :
    f_number_over [.int p, .int t, .int k] = .ret (.int (r + 1 - (luc p t (k - 1) (2, t)).2)) false := by
  obtain ⟨x', e⟩ := over_loop hp ht (.val (.int k)) (rangeT 0 ((k : Int) - 1).toNat) 2 t .un (fun _ _ h => by cases h)
  have hl : (rangeT 0 ((k : Int) - 1).toNat).length = k - 1 := by
    rw [rangeT_len]
    omega
  rw [hl, show ((k : Int) - 1).toNat = k - 1 by omega] at e
  have h4 : small 4 = true := by decide
  have hk1 : ¬ ((k : Int) < 1) := by omega
  have hk2 : ¬ ((100 : Int) < k) := by omega
  have hok : okR ((k : Int) - 1) = true := okR_small (by omega) (by omega)
  have chk : f_check_numbers [.int p, .int t, .int k] = .ret .non false := by
    simp [f_check_numbers, defF_app, hc, integer_int, hk1]
  simp [f_number_over, defF_app, chk, mulT_s' ht, mulT_s' h4, show ¬ (4 * p < t * t) by omega, hk2, hok, e, hr]
theorem due_loop {p t : Int} (hp : small p = true) (ht : small t = true) (s2 : Slot) : ∀ (l : List T) (b n w : Int) (x : Slot), (∀ io o, x ≠ .own io o) → ∃ x', forL (gN 6) (sPar [3, 4, 5] (afCons (eVar 4) (afCons (eBin subT (eBin mulT (eBor 1) (eBor 4)) (eBin mulT (eBor 0) (eBor 3))) (afCons (eBin mulT (eBor 5) (eBor 0)) afNil)))) l
    [.val (.int p), .val (.int t), s2, .val (.int b), .val (.int n), .val (.int w), x] = .nx [.val (.int p), .val (.int t), s2, .val (.int (luc p t l.length (b, n)).1), .val (.int (luc p t l.length (b, n)).2), .val (.int (w * p ^ l.length)), x']
  | [], b, n, w, x, _ => ⟨x, by simp [luc]⟩
  | u :: l, b, n, w, x, hx => by
    obtain ⟨x', e⟩ := due_loop hp ht s2 l n (t * n - p * b) (w * p) (.val u) (fun _ _ h => by cases h)
    refine ⟨x', ?_⟩
    have ew : w * p ^ (l.length + 1) = w * p * p ^ l.length := by
      rw [Int.pow_succ, Int.mul_comm (p ^ l.length) p, Int.mul_assoc]
    rw [List.length_cons, ew]
    show _ = SRes.nx [.val (.int p), .val (.int t), s2, .val (.int (luc p t l.length (n, t * n - p * b)).1), .val (.int (luc p t l.length (n, t * n - p * b)).2), .val (.int (w * p * p ^ l.length)), x']
    rw [← e]
    cases x with
    | own io o => exact absurd rfl (hx io o)
    | un => simp [forL_cons, mulT_s' hp, mulT_s' ht, mulT_s hp]
    | val t => simp [forL_cons, mulT_s' hp, mulT_s' ht, mulT_s hp]
theorem due_spec {p t : Int} {k : Nat} (hp : small p = true) (ht : small t = true) (h1 : 1 ≤ k) (h2 : k ≤ 100) :
    f__law_due [.int p, .int t, .int k] = .ret (.int (p ^ k + 1 - (luc p t (k - 1) (2, t)).2)) false := by
  obtain ⟨x', e⟩ := due_loop hp ht (.val (.int k)) (rangeT 0 ((k : Int) - 1).toNat) 2 t p .un (fun _ _ h => by cases h)
  have hl : (rangeT 0 ((k : Int) - 1).toNat).length = k - 1 := by
    rw [rangeT_len]
    omega
  rw [hl, show ((k : Int) - 1).toNat = k - 1 by omega] at e
  have hok : okR ((k : Int) - 1) = true := okR_small (by omega) (by omega)
  have ek : p * p ^ (k - 1) = p ^ k := by
    obtain ⟨j, rfl⟩ : ∃ j, k = j + 1 := ⟨k - 1, by omega⟩
    rw [Nat.add_sub_cancel, Int.pow_succ, Int.mul_comm]
  simp [f__law_due, defF_app, hok, e, ek]
end K55

set_option Elab.async false
set_option linter.all false
set_option maxRecDepth 1000000
set_option maxHeartbeats 0
set_option autoImplicit false
namespace K55
open PySem PySem.Spec L2 PT
abbrev cv (p a b : Int) : T := .tup [.int p, .int a, .int b]
@[simp] theorem ap_dget2 {fd fk fx : E} {env : List PT.Slot} : eDGet2 fd fk fx env = (match fd env with
  | .ok d _ env1 => if isDic d then (match fk env1 with
    | .ok y _ env2 => (match fx env2 with
      | .ok z _ env3 => (match dGet d y with
        | some o => .ok (o.getD z) false env3
        | none => .err)
      | r => r)
    | r => r) else .err
  | r => r) := rfl
/-! F_p^2 -/
def mulF (p d : Int) (u v : Int × Int) : Int × Int := ((u.1 * v.1 + d * u.2 * v.2) % p, (u.1 * v.2 + u.2 * v.1) % p)
def plusF (p : Int) (u v : Int × Int) : Int × Int := ((u.1 + v.1) % p, (u.2 + v.2) % p)
def In (p : Int) (u : Int × Int) : Prop := 0 ≤ u.1 ∧ u.1 < p ∧ 0 ≤ u.2 ∧ u.2 < p
theorem mulF_in {p d : Int} (hp : 0 < p) (u v : Int × Int) : In p (mulF p d u v) := ⟨Int.emod_nonneg _ (by omega), Int.emod_lt_of_pos _ hp, Int.emod_nonneg _ (by omega), Int.emod_lt_of_pos _ hp⟩
theorem plusF_in {p : Int} (hp : 0 < p) (u v : Int × Int) : In p (plusF p u v) := ⟨Int.emod_nonneg _ (by omega), Int.emod_lt_of_pos _ hp, Int.emod_nonneg _ (by omega), Int.emod_lt_of_pos _ hp⟩
theorem mul_spec {p d : Int} (hp : 0 < p) (hp2 : p < 2 ^ 32) (hd : small d = true) (u v : Int × Int) (hv : In p v) : f__law_mul [.int p, .int d, .tup [.int u.1, .int u.2], .tup [.int v.1, .int v.2]] = .ret (.tup [.int (mulF p d u v).1, .int (mulF p d u v).2]) false := by
  obtain ⟨a, b⟩ := u
  obtain ⟨c, e⟩ := v
  obtain ⟨h1, h2, h3, h4⟩ := hv
  have hc : small c = true := small_nn h1 (by simp only at h2; omega)
  have he : small e = true := small_nn h3 (by simp only at h4; omega)
  simp [f__law_mul, defF_app, mulT_s hc, mulT_s he, mulT_s' hd, modT_p hp, mulF]
theorem plus_spec {p : Int} (hp : 0 < p) (u v : Int × Int) : f__law_plus [.int p, .tup [.int u.1, .int u.2], .tup [.int v.1, .int v.2]] = .ret (.tup [.int (plusF p u v).1, .int (plusF p u v).2]) false := by
  simp [f__law_plus, defF_app, modT_p hp, plusF]
abbrev ut (u : Int × Int) : T := .tup [.int u.1, .int u.2]
def valF (p d a b : Int) (u : Int × Int) : Int × Int := plusF p (plusF p (mulF p d u (mulF p d u u)) (mulF p d (a, 0) u)) (b, 0)
/-- the table of a dict -/
def Rt (tab : List Int) (p : Int) (v : Int × Int) : Int := tab.getD (v.1.toNat * p.toNat + v.2.toNat) 0
def dchk (p : Nat) (ks : List (List Key)) (ts : List T) (tab : List Int) : Bool := (List.range p).all fun i => (List.range p).all fun j => match dGet (.dt ks ts) (.tup [.int (i : Int), .int (j : Int)]) with
  | some o => (match o.getD (.int 0) with
    | .int n => n == tab.getD (i * p + j) 0
    | _ => false)
  | none => false
theorem dchk_ok {p : Nat} {ks : List (List Key)} {ts : List T} {tab : List Int} (h : dchk p ks ts tab = true) (v : Int × Int) (hv : In p v) : ∃ o, dGet (.dt ks ts) (.tup [.int v.1, .int v.2]) = some o ∧ o.getD (.int 0) = .int (Rt tab p v) := by
  obtain ⟨i, j⟩ := v
  obtain ⟨h1, h2, h3, h4⟩ := hv
  simp only at h1 h2 h3 h4
  obtain ⟨i, rfl⟩ := Int.eq_ofNat_of_zero_le h1
  obtain ⟨j, rfl⟩ := Int.eq_ofNat_of_zero_le h3
  have q := List.all_eq_true.mp (List.all_eq_true.mp h i (List.mem_range.mpr (by omega))) j (List.mem_range.mpr (by omega))
  split at q
  · rename_i o e
    refine ⟨o, e, ?_⟩
    split at q
    · rename_i n e2
      rw [e2, eq_of_beq q]
      simp [Rt]
    · cases q
  · cases q
abbrev wBody : S := sSeq (sSet false 10 (eCall 4 f__law_mul (aCons (eVar 1) (aCons (eVar 4) (aCons (eVar 7) (aCons (eCall 4 f__law_mul (aCons (eVar 1) (aCons (eVar 4) (aCons (eVar 7) (aCons (eVar 7) aNil))))) aNil))))))
    (sSeq (sSet false 11 (eCall 3 f__law_plus (aCons (eVar 1) (aCons (eCall 3 f__law_plus (aCons (eVar 1) (aCons (eVar 10) (aCons (eCall 4 f__law_mul (aCons (eVar 1) (aCons (eVar 4) (aCons (eTup (aCons (eVar 2) (aCons (eC (.int 0)) aNil))) (aCons (eVar 7) aNil))))) aNil)))) (aCons (eTup (aCons (eVar 3) (aCons (eC (.int 0)) aNil))) aNil)))))
    (sSet false 9 (eBin addT (eBor 9) (eDGet2 (eBor 6) (eVar 11) (eC (.int 0))))))
def wsum (f : Int × Int → Int) : List (Int × Int) → Int
  | [] => 0
  | u :: l => f u + wsum f l
section
variable {p : Nat} {d a b : Int} {ks : List (List Key)} {ts : List T} {tab : List Int}
theorem walk_loop (hp : 0 < p) (hp2 : p < 2 ^ 32) (hd : small d = true) (hk : dchk p ks ts tab = true) (s0 M x8 x12 : PT.Slot) :
    ∀ (us : List (Int × Int)) (n : Int) (x7 x10 x11 : PT.Slot), (∀ u ∈ us, In p u) → (∀ o, x7 ≠ .own true o) → (∀ o, x10 ≠ .own true o) → (∀ o, x11 ≠ .own true o) → ∃ x7' x10' x11',
    forL (gN 7) wBody (us.map ut) [s0, .val (.int p), .val (.int a), .val (.int b), .val (.int d), M, .own false ⟨.dt ks, ts⟩, x7, x8, .val (.int n), x10, x11, x12] =
      .nx [s0, .val (.int p), .val (.int a), .val (.int b), .val (.int d), M, .own false ⟨.dt ks, ts⟩, x7', x8, .val (.int (n + wsum (fun u => Rt tab p (valF p d a b u)) us)), x10', x11', x12]
  | [], n, x7, x10, x11, _, _, _, _ => ⟨x7, x10, x11, by simp [wsum]⟩
  | u :: us, n, x7, x10, x11, hu, h7, h10, h11 => by
    have hp' : (0 : Int) < p := by omega
    have hp2' : (p : Int) < 2 ^ 32 := by omega
    have hu0 := hu u List.mem_cons_self
    obtain ⟨x7', x10', x11', e⟩ := walk_loop hp hp2 hd hk s0 M x8 x12 us (n + Rt tab p (valF p d a b u)) (.val (ut u)) (.val (ut (mulF p d u (mulF p d u u)))) (.val (ut (valF p d a b u))) (fun v hv => hu v (List.mem_cons_of_mem _ hv)) (fun _ h => by cases h) (fun _ h => by cases h) (fun _ h => by cases h)
    have m1 := mul_spec hp' hp2' hd u u hu0
    have m2 := mul_spec hp' hp2' hd u (mulF p d u u) (mulF_in hp' _ _)
    have m3 := mul_spec hp' hp2' hd (a, 0) u hu0
    have m4 := plus_spec hp' (mulF p d u (mulF p d u u)) (mulF p d (a, 0) u)
    have m5 := plus_spec hp' (plusF p (mulF p d u (mulF p d u u)) (mulF p d (a, 0) u)) (b, 0)
    obtain ⟨o, g1, g2⟩ := dchk_ok hk (valF p d a b u) (plusF_in hp' _ _)
    have ew : wsum (fun u => Rt tab p (valF p d a b u)) (u :: us) = Rt tab p (valF p d a b u) + wsum (fun u => Rt tab p (valF p d a b u)) us := rfl
    refine ⟨x7', x10', x11', ?_⟩
    rw [ew, ← Int.add_assoc, ← e, List.map_cons, forL_cons]
    have s7 : gN 7 (ut u) [s0, .val (.int p), .val (.int a), .val (.int b), .val (.int d), M, .own false ⟨.dt ks, ts⟩, x7, x8, .val (.int n), x10, x11, x12] = some [s0, .val (.int p), .val (.int a), .val (.int b), .val (.int d), M, .own false ⟨.dt ks, ts⟩, .val (ut u), x8, .val (.int n), x10, x11, x12] := by
      cases x7 with
      | own io ob => cases io with
        | true => exact absurd rfl (h7 ob)
        | false => rfl
      | un => rfl
      | val t => rfl
    have p10 : ∀ (t : T), put false 10 t false [s0, .val (.int p), .val (.int a), .val (.int b), .val (.int d), M, .own false ⟨.dt ks, ts⟩, .val (ut u), x8, .val (.int n), x10, x11, x12] = some [s0, .val (.int p), .val (.int a), .val (.int b), .val (.int d), M, .own false ⟨.dt ks, ts⟩, .val (ut u), x8, .val (.int n), .val t, x11, x12] := fun t => by
      cases x10 with
      | own io ob => cases io with
        | true => exact absurd rfl (h10 ob)
        | false => rfl
      | un => rfl
      | val t => rfl
    have p11 : ∀ (t t2 : T), put false 11 t false [s0, .val (.int p), .val (.int a), .val (.int b), .val (.int d), M, .own false ⟨.dt ks, ts⟩, .val (ut u), x8, .val (.int n), .val t2, x11, x12] = some [s0, .val (.int p), .val (.int a), .val (.int b), .val (.int d), M, .own false ⟨.dt ks, ts⟩, .val (ut u), x8, .val (.int n), .val t2, .val t, x12] := fun t t2 => by
      cases x11 with
      | own io ob => cases io with
        | true => exact absurd rfl (h11 ob)
        | false => rfl
      | un => rfl
      | val t => rfl
    have p9 : ∀ (t t2 t3 : T), put false 9 t false [s0, .val (.int p), .val (.int a), .val (.int b), .val (.int d), M, .own false ⟨.dt ks, ts⟩, .val (ut u), x8, .val (.int n), .val t2, .val t3, x12] = some [s0, .val (.int p), .val (.int a), .val (.int b), .val (.int d), M, .own false ⟨.dt ks, ts⟩, .val (ut u), x8, .val t, .val t2, .val t3, x12] := fun t t2 t3 => rfl
    rw [s7]
    have g3 : dGet (.dt ks ts) (ut (plusF p (plusF p (mulF p d u (mulF p d u u)) (mulF p d (a, 0) u)) (b, 0))) = some o := g1
    dsimp only [ut] at m1 m2 m3 m4 m5 g3
    simp [-ap_put, p9, p10, p11, m1, m2, m3, m4, m5, OT.t, isDic, g3, g2, valF]
end
end K55

set_option Elab.async false
set_option linter.all false
set_option maxRecDepth 1000000
set_option maxHeartbeats 0
set_option autoImplicit false
namespace K55
open PySem PySem.Spec L2 PT
@[simp] theorem ap_comp {fi : I} {ds : List Nat} {g : Gt} {ft fe : E} {env : List PT.Slot} : eComp fi ds g ft fe env = (match fi env with
  | .ok l env1 => if plainAt env1 ds then (match compL ds g ft fe l env1 with
    | some (ys, env2) => if ys.length ≤ sizeLine then .ok (.lst ys) true env2 else .err
    | none => .err) else .err
  | .exc x env1 => .exc x env1
  | .err => .err) := rfl
@[simp] theorem ap_yes {env : List PT.Slot} : eYes env = .ok (.bl true) false env := rfl
theorem pow3 {x : Int} (h : 0 ≤ x) (h2 : x < 2 ^ 32) : powT (.int x) (.int 3) = some (.int (x ^ 3), false) := by
  have : Nat.blt x.natAbs 18446744073709551616 = true := Nat.blt_eq.mpr (by omega)
  show (if (decide ((0 : Int) ≤ 3) && decide ((3 : Int) ≤ 1000000) && Nat.blt x.natAbs 18446744073709551616) = true then _ else _) = _
  rw [this]
  rfl
theorem pow2 {x : Int} (h : 0 ≤ x) (h2 : x < 2 ^ 32) : powT (.int x) (.int 2) = some (.int (x ^ 2), false) := by
  have : Nat.blt x.natAbs 18446744073709551616 = true := Nat.blt_eq.mpr (by omega)
  show (if (decide ((0 : Int) ≤ 2) && decide ((2 : Int) ≤ 1000000) && Nat.blt x.natAbs 18446744073709551616) = true then _ else _) = _
  rw [this]
  rfl
theorem right_spec {p a b x : Int} (hp : 0 < p) (h : 0 ≤ x) (h2 : x < 2 ^ 32) : f_right_side [cv p a b, .int x] = .ret (.int ((x ^ 3 + a * x + b) % p)) false := by
  have hs : small x = true := small_nn h (by omega)
  simp [f_right_side, defF_app, pow3 h h2, mulT_s hs, modT_p hp]
theorem cubic_spec {p a b x : Int} (hp : 0 < p) (h : 0 ≤ x) (h2 : x < 2 ^ 32) : f__law_cubic [cv p a b, .int x] = .ret (.int ((x * x * x + a * x + b) % p)) false := by
  have hs : small x = true := small_nn h (by omega)
  simp [f__law_cubic, defF_app, mulT_s hs, modT_p hp]
theorem atI_getD {S : List Int} {i : Int} (h1 : 0 ≤ i) (h2 : i < S.length) : L2.atI (S.map T.int) i = some (.int (S.getD i.toNat 0)) := by
  obtain ⟨n, rfl⟩ := Int.eq_ofNat_of_zero_le h1
  have hn : n < S.length := by omega
  rw [atI_nat _ _ (by rw [List.length_map]; exact hn)]
  simp [List.getElem?_map, List.getD, List.getElem?_eq_getElem hn]
def cub (S : List Int) (p a b x : Int) : Int := S.getD ((x ^ 3 + a * x + b) % p).toNat 0
theorem count_comp {S : List Int} {p a b : Int} (hp : 0 < p) (hS : (S.length : Int) = p) (s1 x3 : PT.Slot) : ∀ l : List Int, (∀ x ∈ l, 0 ≤ x ∧ x < 2 ^ 32) → compL [4] (gN 4) eYes (eBin ixT (eBor 2) (eCall 2 f_right_side (aCons (eVar 0) (aCons (eVar 4) aNil)))) (l.map T.int) [.val (cv p a b), s1, .own false ⟨.l, S.map T.int⟩, x3, .un] =
    some (l.map fun x => T.int (cub S p a b x), [.val (cv p a b), s1, .own false ⟨.l, S.map T.int⟩, x3, .un])
  | [], _ => rfl
  | x :: l, h => by
    have ih := count_comp (a := a) (b := b) hp hS s1 x3 l fun y hy => h y (List.mem_cons_of_mem _ hy)
    obtain ⟨h1, h2⟩ := h x List.mem_cons_self
    have r := right_spec (a := a) (b := b) hp h1 h2
    have e : L2.atI (S.map T.int) ((x ^ 3 + a * x + b) % p) = some (.int (cub S p a b x)) := atI_getD (Int.emod_nonneg _ (by omega)) (by rw [hS]; exact Int.emod_lt_of_pos _ hp)
    rw [List.map_cons, List.map_cons]
    unfold compL
    simp [wipeS, back, r, e, OT.t, ih]
theorem law_comp {S : List Int} {p a b : Int} (hp : 0 < p) (hS : (S.length : Int) = p) : ∀ l : List Int, (∀ x ∈ l, 0 ≤ x ∧ x < 2 ^ 32) → compL [2] (gN 2) eYes (eBin ixT (eBor 1) (eCall 2 f__law_cubic (aCons (eVar 0) (aCons (eVar 2) aNil)))) (l.map T.int) [.val (cv p a b), .val (.lst (S.map T.int)), .un] =
    some (l.map fun x => T.int (cub S p a b x), [.val (cv p a b), .val (.lst (S.map T.int)), .un])
  | [], _ => rfl
  | x :: l, h => by
    have ih := law_comp (a := a) (b := b) hp hS l fun y hy => h y (List.mem_cons_of_mem _ hy)
    obtain ⟨h1, h2⟩ := h x List.mem_cons_self
    have r := cubic_spec (a := a) (b := b) hp h1 h2
    have e : L2.atI (S.map T.int) ((x * x * x + a * x + b) % p) = some (.int (cub S p a b x)) := by
      have q : x * x * x = x ^ 3 := by simp [Int.pow_succ]
      rw [q]
      exact atI_getD (Int.emod_nonneg _ (by omega)) (by rw [hS]; exact Int.emod_lt_of_pos _ hp)
    rw [List.map_cons, List.map_cons]
    unfold compL
    simp [wipeS, back, r, e, OT.t, ih]
def xs (n : Nat) : List Int := (List.range n).map fun (i : Nat) => (i : Int)
theorem rangeT0 (n : Nat) : rangeT 0 n = (xs n).map T.int := by
  simp [rangeT, xs]
theorem xs_in {n : Nat} (hn : n < 2 ^ 32) : ∀ x ∈ xs n, 0 ≤ x ∧ x < 2 ^ 32 := fun x hx => by
  obtain ⟨i, hi, rfl⟩ := List.mem_map.mp hx
  have := List.mem_range.mp hi
  omega
theorem xs_len (n : Nat) : (xs n).length = n := by simp [xs]
theorem asInts_map (g : Int → Int) : ∀ l : List Int, asInts (l.map fun x => T.int (g x)) = some (l.map g)
  | [] => rfl
  | x :: l => by
    rw [List.map_cons, List.map_cons]
    show (match asInts (l.map fun x => T.int (g x)) with
      | some r => some (g x :: r)
      | none => none) = _
    rw [asInts_map g l]
def csum (S : List Int) (p : Nat) (a b : Int) : Int := sumI ((xs p).map (cub S p a b))
theorem sum_map (g : Int → Int) (l : List Int) : sumT (T.lst (l.map fun x => T.int (g x))) = some (T.int (sumI (l.map g)), false) := by
  show (match asInts (l.map fun x => T.int (g x)) with
    | some ns => some (T.int (sumI ns), false)
    | none => none) = _
  rw [asInts_map]
/-! members of F_p^2 -/
def us (p : Nat) : List (Int × Int) := (List.range (p * p)).map fun (n : Nat) => (((n / p : Nat) : Int), ((n % p : Nat) : Int))
theorem us_in {p : Nat} (hp : 0 < p) : ∀ u ∈ us p, In p u := fun u hu => by
  obtain ⟨n, hn, rfl⟩ := List.mem_map.mp hu
  have h1 := List.mem_range.mp hn
  have h2 : n / p < p := Nat.div_lt_of_lt_mul h1
  have h3 : n % p < p := Nat.mod_lt _ hp
  exact ⟨Int.natCast_nonneg _, by simp only; omega, Int.natCast_nonneg _, by simp only; omega⟩
abbrev dBody : S := sSeq (sSet false 8 (eCall 4 f__law_mul (aCons (eVar 1) (aCons (eVar 4) (aCons (eVar 7) (aCons (eVar 7) aNil))))))
    (sDSet 6 (eVar 8) (eBin addT (eDGet2 (eBor 6) (eVar 8) (eC (.int 0))) (eC (.int 1))))
abbrev mComp : E := eComp (iRange1 (eBin mulT (eBor 1) (eBor 1))) [12] (gN 12) eYes (eTup (aCons (eBin fdivT (eBor 12) (eBor 1)) (aCons (eBin modT (eUn intT (eBor 12)) (eBor 1)) aNil)))
abbrev sBody : S := sAsg (gSetL 2 (eBin modT (eBin mulT (eBor 3) (eBor 3)) (eBor 1))) (eC (.int 1))
theorem check_curve {p a b : Int} (hp : 0 < p) (hp2 : p < 2 ^ 32) (hc : f_is_curve_prime [.int p] = .ret (.bl true) false) (ha : 0 ≤ a) (ha2 : a < p) (hb : 0 ≤ b) (hb2 : b < p) (hs : (4 * a ^ 3 + 27 * b ^ 2) % p ≠ 0) : f_check_curve [cv p a b] = .ret .non false := by
  have h4 : small 4 = true := by decide
  have h27 : small 27 = true := by decide
  have r : ∀ x, 0 ≤ x → x < p → f_is_rest [.int x, .int p] = .ret (.bl true) false := fun x h1 h2 => by
    simp [f_is_rest, defF_app, integer_int, h1, h2]
  have l : lenT (cv p a b) = some (.int 3, false) := rfl
  have i : f_is_curve [cv p a b] = .ret (.bl true) false := by
    simp [f_is_curve, defF_app, is_tuple, l, hc, r a ha ha2, r b hb hb2, pow3 ha (by omega), pow2 hb (by omega), mulT_s' h4, mulT_s' h27, modT_p hp, hs]
  simp [f_check_curve, defF_app, i]
end K55

set_option Elab.async false
set_option linter.all false
set_option maxRecDepth 1000000
set_option maxHeartbeats 0
set_option autoImplicit false
namespace K55
open PySem PySem.Spec L2 PT

/-! 5 -/
def ks5 : List (List Key) := [[.inl 0, .inl 0], [.inl 2, .inl 0], [.inl 3, .inl 0], [.inl 1, .inl 0], [.inl 3, .inl 2], [.inl 4, .inl 4], [.inl 4, .inl 1], [.inl 3, .inl 3], [.inl 4, .inl 0], [.inl 1, .inl 4], [.inl 2, .inl 3], [.inl 2, .inl 2], [.inl 1, .inl 1]]
def ts5 : List T := [.int 1, .int 2, .int 2, .int 2, .int 2, .int 2, .int 2, .int 2, .int 2, .int 2, .int 2, .int 2, .int 2]
def tab5 : List Int := [1, 0, 0, 0, 0, 2, 2, 0, 0, 2, 2, 0, 2, 2, 0, 2, 0, 2, 2, 0, 2, 2, 0, 0, 2]
def S5 : List Int := [0, 1, (-1), (-1), 1]
theorem dchk5 : dchk 5 ks5 ts5 tab5 = true := by decide +kernel
theorem nonsq5 : f__law_nonsquare [.int 5] = .ret (.int 2) false := by kernel_rfl
theorem comp5 (s0 : PT.Slot) (a b : Int) : mComp [s0, .val (.int 5), .val (.int a), .val (.int b), .val (.int 2), .un, .un, .un, .un, .un, .un, .un, .un] = .ok (.lst ((us 5).map ut)) true [s0, .val (.int 5), .val (.int a), .val (.int b), .val (.int 2), .un, .un, .un, .un, .un, .un, .un, .un] := by kernel_rfl
theorem loop5 (s0 M : PT.Slot) (a b : Int) : forL (gN 7) dBody ((us 5).map ut) [s0, .val (.int 5), .val (.int a), .val (.int b), .val (.int 2), M, .own false ⟨.dt [], []⟩, .un, .un, .un, .un, .un, .un] =
    .nx [s0, .val (.int 5), .val (.int a), .val (.int b), .val (.int 2), M, .own false ⟨.dt ks5, ts5⟩, .val (.tup [.int 4, .int 4]), .val (.tup [.int 3, .int 2]), .un, .un, .un, .un] := by kernel_rfl
theorem walked5 (a b : Int) : f__law_walked [cv 5 a b] = .ret (.int (1 + wsum (fun u => Rt tab5 5 (valF 5 2 a b u)) (us 5))) false := by
  obtain ⟨x7, x10, x11, e⟩ := walk_loop (p := 5) (d := 2) (a := a) (b := b) (by decide) (by decide) (by decide) dchk5 (.val (cv 5 a b)) (.val (.lst ((us 5).map ut))) (.val (.tup [.int 3, .int 2])) .un (us 5) 1 (.val (.tup [.int 4, .int 4])) .un .un (us_in (by decide)) (fun _ h => by cases h) (fun _ h => by cases h) (fun _ h => by cases h)
  have c := comp5 (.val (cv 5 a b)) a b
  have l := loop5 (.val (cv 5 a b)) (.val (.lst ((us 5).map ut))) a b
  have hc : ((5 : Nat) : Int) = 5 := rfl
  simp only [hc] at e
  have eD : ∀ env, eDT env = .ok (.dt [] []) true env := fun _ => rfl
  unfold f__law_walked
  rw [defF_app]
  simp [-ap_comp, nonsq5, c, l, e, eD, OT.t]
theorem m15 : mulT (.lst [.int (-1)]) (.int 5) = some (.lst [.int (-1), .int (-1), .int (-1), .int (-1), .int (-1)], true) := by kernel_rfl
theorem loopc5 (s0 : PT.Slot) : forL (gN 3) sBody (rangeT 1 4) [s0, .val (.int 5), .own false ⟨.l, [.int (-1), .int (-1), .int (-1), .int (-1), .int (-1)]⟩, .un, .un] = .nx [s0, .val (.int 5), .own false ⟨.l, [(-1), 1, (-1), (-1), 1].map T.int⟩, .val (.int 4), .un] := by kernel_rfl
theorem setc5 (s0 : PT.Slot) : sAsg (gSetL 2 (eC (.int 0))) (eC (.int 0)) [s0, .val (.int 5), .own false ⟨.l, [(-1), 1, (-1), (-1), 1].map T.int⟩, .val (.int 4), .un] = .nx [s0, .val (.int 5), .own false ⟨.l, S5.map T.int⟩, .val (.int 4), .un] := by kernel_rfl
theorem counted5 (a b : Int) : f_counted [cv 5 a b] = .ret (.int (5 + 1 + csum S5 5 a b)) false := by
  have c := count_comp (S := S5) (p := 5) (a := a) (b := b) (by decide) (by decide) (.val (.int 5)) (.val (.int 4)) (xs 5) (xs_in (by decide))
  have l := loopc5 (.val (cv 5 a b))
  have s := setc5 (.val (cv 5 a b))
  have o1 : okR 1 = true := by decide
  have o2 : okR 5 = true := by decide
  have q := sum_map (cub S5 5 a b) (xs 5)
  have r : rangeT 0 5 = (xs 5).map T.int := rangeT0 5
  have z : (xs 5).length ≤ sizeLine := by rw [sizeLine_eq, xs_len]; decide
  unfold f_counted
  rw [defF_app]
  simp only [List.map_cons, List.map_nil] at l s c q
  simp [-ap_asg, m15, l, s, o1, o2, r, plainAt, c, z, q, csum, OT.t]
theorem sym5 : f__law_symbols [.int 5] = .ret (.lst (S5.map T.int)) false := by kernel_rfl
theorem lcount5 (a b : Int) : f__law_count [cv 5 a b] = .ret (.int (5 + 1 + csum S5 5 a b)) false := by
  have c := law_comp (S := S5) (p := 5) (a := a) (b := b) (by decide) (by decide) (xs 5) (xs_in (by decide))
  have o2 : okR 5 = true := by decide
  have q := sum_map (cub S5 5 a b) (xs 5)
  have r : rangeT 0 5 = (xs 5).map T.int := rangeT0 5
  have z : (xs 5).length ≤ sizeLine := by rw [sizeLine_eq, xs_len]; decide
  have sy := sym5
  unfold f__law_count
  rw [defF_app]
  simp [sy, o2, r, plainAt, c, z, q, csum, OT.t]
theorem prime5 : f_is_curve_prime [.int 5] = .ret (.bl true) false := by kernel_rfl
theorem trace5 (a b : Int) (ha : 0 ≤ a) (ha2 : a < 5) (hb : 0 ≤ b) (hb2 : b < 5) (hs : (4 * a ^ 3 + 27 * b ^ 2) % 5 ≠ 0) : f_curve_trace [cv 5 a b] = .ret (.int (5 + 1 - (5 + 1 + csum S5 5 a b))) false := by
  have c := check_curve (p := 5) (by decide) (by decide) prime5 ha ha2 hb hb2 hs
  have n : f_number_of [cv 5 a b] = .ret (.int (5 + 1 + csum S5 5 a b)) false := by
    simp [f_number_of, defF_app, counted5]
  simp [f_curve_trace, defF_app, c, n]

/-! 7 -/
def ks7 : List (List Key) := [[.inl 0, .inl 0], [.inl 3, .inl 0], [.inl 5, .inl 0], [.inl 6, .inl 0], [.inl 1, .inl 0], [.inl 4, .inl 2], [.inl 6, .inl 4], [.inl 0, .inl 6], [.inl 0, .inl 1], [.inl 6, .inl 3], [.inl 4, .inl 5], [.inl 4, .inl 0], [.inl 0, .inl 4], [.inl 2, .inl 1], [.inl 3, .inl 5], [.inl 3, .inl 2], [.inl 2, .inl 6], [.inl 0, .inl 3], [.inl 2, .inl 0], [.inl 5, .inl 6], [.inl 0, .inl 5], [.inl 1, .inl 4], [.inl 1, .inl 3], [.inl 0, .inl 2], [.inl 5, .inl 1]]
def ts7 : List T := [.int 1, .int 2, .int 2, .int 2, .int 2, .int 2, .int 2, .int 2, .int 2, .int 2, .int 2, .int 2, .int 2, .int 2, .int 2, .int 2, .int 2, .int 2, .int 2, .int 2, .int 2, .int 2, .int 2, .int 2, .int 2]
def tab7 : List Int := [1, 2, 2, 2, 2, 2, 2, 2, 0, 0, 2, 2, 0, 0, 2, 2, 0, 0, 0, 0, 2, 2, 0, 2, 0, 0, 2, 0, 2, 0, 2, 0, 0, 2, 0, 2, 2, 0, 0, 0, 0, 2, 2, 0, 0, 2, 2, 0, 0]
def S7 : List Int := [0, 1, 1, (-1), 1, (-1), (-1)]
theorem dchk7 : dchk 7 ks7 ts7 tab7 = true := by decide +kernel
theorem nonsq7 : f__law_nonsquare [.int 7] = .ret (.int 3) false := by kernel_rfl
theorem comp7 (s0 : PT.Slot) (a b : Int) : mComp [s0, .val (.int 7), .val (.int a), .val (.int b), .val (.int 3), .un, .un, .un, .un, .un, .un, .un, .un] = .ok (.lst ((us 7).map ut)) true [s0, .val (.int 7), .val (.int a), .val (.int b), .val (.int 3), .un, .un, .un, .un, .un, .un, .un, .un] := by kernel_rfl
theorem loop7 (s0 M : PT.Slot) (a b : Int) : forL (gN 7) dBody ((us 7).map ut) [s0, .val (.int 7), .val (.int a), .val (.int b), .val (.int 3), M, .own false ⟨.dt [], []⟩, .un, .un, .un, .un, .un, .un] =
    .nx [s0, .val (.int 7), .val (.int a), .val (.int b), .val (.int 3), M, .own false ⟨.dt ks7, ts7⟩, .val (.tup [.int 6, .int 6]), .val (.tup [.int 4, .int 2]), .un, .un, .un, .un] := by kernel_rfl
theorem walked7 (a b : Int) : f__law_walked [cv 7 a b] = .ret (.int (1 + wsum (fun u => Rt tab7 7 (valF 7 3 a b u)) (us 7))) false := by
  obtain ⟨x7, x10, x11, e⟩ := walk_loop (p := 7) (d := 3) (a := a) (b := b) (by decide) (by decide) (by decide) dchk7 (.val (cv 7 a b)) (.val (.lst ((us 7).map ut))) (.val (.tup [.int 4, .int 2])) .un (us 7) 1 (.val (.tup [.int 6, .int 6])) .un .un (us_in (by decide)) (fun _ h => by cases h) (fun _ h => by cases h) (fun _ h => by cases h)
  have c := comp7 (.val (cv 7 a b)) a b
  have l := loop7 (.val (cv 7 a b)) (.val (.lst ((us 7).map ut))) a b
  have hc : ((7 : Nat) : Int) = 7 := rfl
  simp only [hc] at e
  have eD : ∀ env, eDT env = .ok (.dt [] []) true env := fun _ => rfl
  unfold f__law_walked
  rw [defF_app]
  simp [-ap_comp, nonsq7, c, l, e, eD, OT.t]
theorem m17 : mulT (.lst [.int (-1)]) (.int 7) = some (.lst [.int (-1), .int (-1), .int (-1), .int (-1), .int (-1), .int (-1), .int (-1)], true) := by kernel_rfl
theorem loopc7 (s0 : PT.Slot) : forL (gN 3) sBody (rangeT 1 6) [s0, .val (.int 7), .own false ⟨.l, [.int (-1), .int (-1), .int (-1), .int (-1), .int (-1), .int (-1), .int (-1)]⟩, .un, .un] = .nx [s0, .val (.int 7), .own false ⟨.l, [(-1), 1, 1, (-1), 1, (-1), (-1)].map T.int⟩, .val (.int 6), .un] := by kernel_rfl
theorem setc7 (s0 : PT.Slot) : sAsg (gSetL 2 (eC (.int 0))) (eC (.int 0)) [s0, .val (.int 7), .own false ⟨.l, [(-1), 1, 1, (-1), 1, (-1), (-1)].map T.int⟩, .val (.int 6), .un] = .nx [s0, .val (.int 7), .own false ⟨.l, S7.map T.int⟩, .val (.int 6), .un] := by kernel_rfl
theorem counted7 (a b : Int) : f_counted [cv 7 a b] = .ret (.int (7 + 1 + csum S7 7 a b)) false := by
  have c := count_comp (S := S7) (p := 7) (a := a) (b := b) (by decide) (by decide) (.val (.int 7)) (.val (.int 6)) (xs 7) (xs_in (by decide))
  have l := loopc7 (.val (cv 7 a b))
  have s := setc7 (.val (cv 7 a b))
  have o1 : okR 1 = true := by decide
  have o2 : okR 7 = true := by decide
  have q := sum_map (cub S7 7 a b) (xs 7)
  have r : rangeT 0 7 = (xs 7).map T.int := rangeT0 7
  have z : (xs 7).length ≤ sizeLine := by rw [sizeLine_eq, xs_len]; decide
  unfold f_counted
  rw [defF_app]
  simp only [List.map_cons, List.map_nil] at l s c q
  simp [-ap_asg, m17, l, s, o1, o2, r, plainAt, c, z, q, csum, OT.t]
theorem sym7 : f__law_symbols [.int 7] = .ret (.lst (S7.map T.int)) false := by kernel_rfl
theorem lcount7 (a b : Int) : f__law_count [cv 7 a b] = .ret (.int (7 + 1 + csum S7 7 a b)) false := by
  have c := law_comp (S := S7) (p := 7) (a := a) (b := b) (by decide) (by decide) (xs 7) (xs_in (by decide))
  have o2 : okR 7 = true := by decide
  have q := sum_map (cub S7 7 a b) (xs 7)
  have r : rangeT 0 7 = (xs 7).map T.int := rangeT0 7
  have z : (xs 7).length ≤ sizeLine := by rw [sizeLine_eq, xs_len]; decide
  have sy := sym7
  unfold f__law_count
  rw [defF_app]
  simp [sy, o2, r, plainAt, c, z, q, csum, OT.t]
theorem prime7 : f_is_curve_prime [.int 7] = .ret (.bl true) false := by kernel_rfl
theorem trace7 (a b : Int) (ha : 0 ≤ a) (ha2 : a < 7) (hb : 0 ≤ b) (hb2 : b < 7) (hs : (4 * a ^ 3 + 27 * b ^ 2) % 7 ≠ 0) : f_curve_trace [cv 7 a b] = .ret (.int (7 + 1 - (7 + 1 + csum S7 7 a b))) false := by
  have c := check_curve (p := 7) (by decide) (by decide) prime7 ha ha2 hb hb2 hs
  have n : f_number_of [cv 7 a b] = .ret (.int (7 + 1 + csum S7 7 a b)) false := by
    simp [f_number_of, defF_app, counted7]
  simp [f_curve_trace, defF_app, c, n]

/-! 11 -/
def ks11 : List (List Key) := [[.inl 0, .inl 0], [.inl 2, .inl 0], [.inl 8, .inl 0], [.inl 7, .inl 0], [.inl 10, .inl 0], [.inl 6, .inl 0], [.inl 1, .inl 0], [.inl 3, .inl 2], [.inl 9, .inl 4], [.inl 8, .inl 6], [.inl 0, .inl 8], [.inl 7, .inl 10], [.inl 7, .inl 1], [.inl 0, .inl 3], [.inl 8, .inl 5], [.inl 9, .inl 7], [.inl 3, .inl 9], [.inl 4, .inl 0], [.inl 6, .inl 4], [.inl 1, .inl 8], [.inl 0, .inl 1], [.inl 3, .inl 5], [.inl 10, .inl 9], [.inl 10, .inl 2], [.inl 3, .inl 6], [.inl 0, .inl 10], [.inl 1, .inl 3], [.inl 6, .inl 7], [.inl 9, .inl 0], [.inl 0, .inl 6], [.inl 6, .inl 1], [.inl 5, .inl 7], [.inl 8, .inl 2], [.inl 4, .inl 8], [.inl 4, .inl 3], [.inl 8, .inl 9], [.inl 5, .inl 4], [.inl 6, .inl 10], [.inl 0, .inl 5], [.inl 5, .inl 0], [.inl 7, .inl 8], [.inl 2, .inl 5], [.inl 1, .inl 2], [.inl 4, .inl 10], [.inl 0, .inl 7], [.inl 0, .inl 4], [.inl 4, .inl 1], [.inl 1, .inl 9], [.inl 2, .inl 6], [.inl 7, .inl 3], [.inl 3, .inl 0], [.inl 5, .inl 10], [.inl 0, .inl 9], [.inl 10, .inl 8], [.inl 2, .inl 7], [.inl 9, .inl 6], [.inl 9, .inl 5], [.inl 2, .inl 4], [.inl 10, .inl 3], [.inl 0, .inl 2], [.inl 5, .inl 1]]
def ts11 : List T := [.int 1, .int 2, .int 2, .int 2, .int 2, .int 2, .int 2, .int 2, .int 2, .int 2, .int 2, .int 2, .int 2, .int 2, .int 2, .int 2, .int 2, .int 2, .int 2, .int 2, .int 2, .int 2, .int 2, .int 2, .int 2, .int 2, .int 2, .int 2, .int 2, .int 2, .int 2, .int 2, .int 2, .int 2, .int 2, .int 2, .int 2, .int 2, .int 2, .int 2, .int 2, .int 2, .int 2, .int 2, .int 2, .int 2, .int 2, .int 2, .int 2, .int 2, .int 2, .int 2, .int 2, .int 2, .int 2, .int 2, .int 2, .int 2, .int 2, .int 2, .int 2]
def tab11 : List Int := [1, 2, 2, 2, 2, 2, 2, 2, 2, 2, 2, 2, 0, 2, 2, 0, 0, 0, 0, 2, 2, 0, 2, 0, 0, 0, 2, 2, 2, 2, 0, 0, 0, 2, 0, 2, 0, 0, 2, 2, 0, 0, 2, 0, 2, 2, 0, 2, 0, 0, 0, 0, 2, 0, 2, 2, 2, 0, 0, 2, 0, 0, 2, 0, 0, 2, 2, 2, 0, 0, 2, 0, 0, 2, 0, 0, 2, 2, 2, 0, 2, 0, 0, 0, 0, 2, 0, 2, 2, 0, 2, 0, 0, 2, 2, 0, 0, 2, 0, 2, 0, 0, 0, 2, 2, 2, 2, 0, 0, 0, 2, 0, 2, 2, 0, 0, 0, 0, 2, 2, 0]
def S11 : List Int := [0, 1, (-1), 1, 1, 1, (-1), (-1), (-1), 1, (-1)]
theorem dchk11 : dchk 11 ks11 ts11 tab11 = true := by decide +kernel
theorem nonsq11 : f__law_nonsquare [.int 11] = .ret (.int 2) false := by kernel_rfl
theorem comp11 (s0 : PT.Slot) (a b : Int) : mComp [s0, .val (.int 11), .val (.int a), .val (.int b), .val (.int 2), .un, .un, .un, .un, .un, .un, .un, .un] = .ok (.lst ((us 11).map ut)) true [s0, .val (.int 11), .val (.int a), .val (.int b), .val (.int 2), .un, .un, .un, .un, .un, .un, .un, .un] := by kernel_rfl
theorem loop11 (s0 M : PT.Slot) (a b : Int) : forL (gN 7) dBody ((us 11).map ut) [s0, .val (.int 11), .val (.int a), .val (.int b), .val (.int 2), M, .own false ⟨.dt [], []⟩, .un, .un, .un, .un, .un, .un] =
    .nx [s0, .val (.int 11), .val (.int a), .val (.int b), .val (.int 2), M, .own false ⟨.dt ks11, ts11⟩, .val (.tup [.int 10, .int 10]), .val (.tup [.int 3, .int 2]), .un, .un, .un, .un] := by kernel_rfl
theorem walked11 (a b : Int) : f__law_walked [cv 11 a b] = .ret (.int (1 + wsum (fun u => Rt tab11 11 (valF 11 2 a b u)) (us 11))) false := by
  obtain ⟨x7, x10, x11, e⟩ := walk_loop (p := 11) (d := 2) (a := a) (b := b) (by decide) (by decide) (by decide) dchk11 (.val (cv 11 a b)) (.val (.lst ((us 11).map ut))) (.val (.tup [.int 3, .int 2])) .un (us 11) 1 (.val (.tup [.int 10, .int 10])) .un .un (us_in (by decide)) (fun _ h => by cases h) (fun _ h => by cases h) (fun _ h => by cases h)
  have c := comp11 (.val (cv 11 a b)) a b
  have l := loop11 (.val (cv 11 a b)) (.val (.lst ((us 11).map ut))) a b
  have hc : ((11 : Nat) : Int) = 11 := rfl
  simp only [hc] at e
  have eD : ∀ env, eDT env = .ok (.dt [] []) true env := fun _ => rfl
  unfold f__law_walked
  rw [defF_app]
  simp [-ap_comp, nonsq11, c, l, e, eD, OT.t]
theorem m111 : mulT (.lst [.int (-1)]) (.int 11) = some (.lst [.int (-1), .int (-1), .int (-1), .int (-1), .int (-1), .int (-1), .int (-1), .int (-1), .int (-1), .int (-1), .int (-1)], true) := by kernel_rfl
theorem loopc11 (s0 : PT.Slot) : forL (gN 3) sBody (rangeT 1 10) [s0, .val (.int 11), .own false ⟨.l, [.int (-1), .int (-1), .int (-1), .int (-1), .int (-1), .int (-1), .int (-1), .int (-1), .int (-1), .int (-1), .int (-1)]⟩, .un, .un] = .nx [s0, .val (.int 11), .own false ⟨.l, [(-1), 1, (-1), 1, 1, 1, (-1), (-1), (-1), 1, (-1)].map T.int⟩, .val (.int 10), .un] := by kernel_rfl
theorem setc11 (s0 : PT.Slot) : sAsg (gSetL 2 (eC (.int 0))) (eC (.int 0)) [s0, .val (.int 11), .own false ⟨.l, [(-1), 1, (-1), 1, 1, 1, (-1), (-1), (-1), 1, (-1)].map T.int⟩, .val (.int 10), .un] = .nx [s0, .val (.int 11), .own false ⟨.l, S11.map T.int⟩, .val (.int 10), .un] := by kernel_rfl
theorem counted11 (a b : Int) : f_counted [cv 11 a b] = .ret (.int (11 + 1 + csum S11 11 a b)) false := by
  have c := count_comp (S := S11) (p := 11) (a := a) (b := b) (by decide) (by decide) (.val (.int 11)) (.val (.int 10)) (xs 11) (xs_in (by decide))
  have l := loopc11 (.val (cv 11 a b))
  have s := setc11 (.val (cv 11 a b))
  have o1 : okR 1 = true := by decide
  have o2 : okR 11 = true := by decide
  have q := sum_map (cub S11 11 a b) (xs 11)
  have r : rangeT 0 11 = (xs 11).map T.int := rangeT0 11
  have z : (xs 11).length ≤ sizeLine := by rw [sizeLine_eq, xs_len]; decide
  unfold f_counted
  rw [defF_app]
  simp only [List.map_cons, List.map_nil] at l s c q
  simp [-ap_asg, m111, l, s, o1, o2, r, plainAt, c, z, q, csum, OT.t]
theorem sym11 : f__law_symbols [.int 11] = .ret (.lst (S11.map T.int)) false := by kernel_rfl
theorem lcount11 (a b : Int) : f__law_count [cv 11 a b] = .ret (.int (11 + 1 + csum S11 11 a b)) false := by
  have c := law_comp (S := S11) (p := 11) (a := a) (b := b) (by decide) (by decide) (xs 11) (xs_in (by decide))
  have o2 : okR 11 = true := by decide
  have q := sum_map (cub S11 11 a b) (xs 11)
  have r : rangeT 0 11 = (xs 11).map T.int := rangeT0 11
  have z : (xs 11).length ≤ sizeLine := by rw [sizeLine_eq, xs_len]; decide
  have sy := sym11
  unfold f__law_count
  rw [defF_app]
  simp [sy, o2, r, plainAt, c, z, q, csum, OT.t]
theorem prime11 : f_is_curve_prime [.int 11] = .ret (.bl true) false := by kernel_rfl
theorem trace11 (a b : Int) (ha : 0 ≤ a) (ha2 : a < 11) (hb : 0 ≤ b) (hb2 : b < 11) (hs : (4 * a ^ 3 + 27 * b ^ 2) % 11 ≠ 0) : f_curve_trace [cv 11 a b] = .ret (.int (11 + 1 - (11 + 1 + csum S11 11 a b))) false := by
  have c := check_curve (p := 11) (by decide) (by decide) prime11 ha ha2 hb hb2 hs
  have n : f_number_of [cv 11 a b] = .ret (.int (11 + 1 + csum S11 11 a b)) false := by
    simp [f_number_of, defF_app, counted11]
  simp [f_curve_trace, defF_app, c, n]

/-! 13 -/
def ks13 : List (List Key) := [[.inl 0, .inl 0], [.inl 2, .inl 0], [.inl 8, .inl 0], [.inl 5, .inl 0], [.inl 6, .inl 0], [.inl 11, .inl 0], [.inl 7, .inl 0], [.inl 1, .inl 0], [.inl 3, .inl 2], [.inl 9, .inl 4], [.inl 6, .inl 6], [.inl 7, .inl 8], [.inl 12, .inl 10], [.inl 8, .inl 12], [.inl 8, .inl 1], [.inl 12, .inl 3], [.inl 7, .inl 5], [.inl 6, .inl 7], [.inl 9, .inl 9], [.inl 3, .inl 11], [.inl 4, .inl 0], [.inl 6, .inl 4], [.inl 12, .inl 8], [.inl 9, .inl 12], [.inl 10, .inl 3], [.inl 2, .inl 7], [.inl 11, .inl 11], [.inl 11, .inl 2], [.inl 2, .inl 6], [.inl 10, .inl 10], [.inl 9, .inl 1], [.inl 12, .inl 5], [.inl 6, .inl 9], [.inl 9, .inl 0], [.inl 11, .inl 6], [.inl 4, .inl 12], [.inl 1, .inl 5], [.inl 2, .inl 11], [.inl 7, .inl 4], [.inl 3, .inl 10], [.inl 3, .inl 3], [.inl 7, .inl 9], [.inl 2, .inl 2], [.inl 1, .inl 8], [.inl 4, .inl 1], [.inl 11, .inl 7], [.inl 3, .inl 0], [.inl 5, .inl 8], [.inl 11, .inl 3], [.inl 8, .inl 11], [.inl 9, .inl 6], [.inl 1, .inl 1], [.inl 10, .inl 9], [.inl 10, .inl 4], [.inl 1, .inl 12], [.inl 9, .inl 7], [.inl 8, .inl 2], [.inl 11, .inl 10], [.inl 5, .inl 5], [.inl 12, .inl 0], [.inl 1, .inl 10], [.inl 7, .inl 7], [.inl 4, .inl 4], [.inl 5, .inl 1], [.inl 10, .inl 11], [.inl 6, .inl 8], [.inl 6, .inl 5], [.inl 10, .inl 2], [.inl 5, .inl 12], [.inl 4, .inl 9], [.inl 7, .inl 6], [.inl 1, .inl 3], [.inl 10, .inl 0], [.inl 12, .inl 12], [.inl 5, .inl 11], [.inl 2, .inl 10], [.inl 3, .inl 9], [.inl 8, .inl 8], [.inl 4, .inl 7], [.inl 4, .inl 6], [.inl 8, .inl 5], [.inl 3, .inl 4], [.inl 2, .inl 3], [.inl 5, .inl 2], [.inl 12, .inl 1]]
def ts13 : List T := [.int 1, .int 2, .int 2, .int 2, .int 2, .int 2, .int 2, .int 2, .int 2, .int 2, .int 2, .int 2, .int 2, .int 2, .int 2, .int 2, .int 2, .int 2, .int 2, .int 2, .int 2, .int 2, .int 2, .int 2, .int 2, .int 2, .int 2, .int 2, .int 2, .int 2, .int 2, .int 2, .int 2, .int 2, .int 2, .int 2, .int 2, .int 2, .int 2, .int 2, .int 2, .int 2, .int 2, .int 2, .int 2, .int 2, .int 2, .int 2, .int 2, .int 2, .int 2, .int 2, .int 2, .int 2, .int 2, .int 2, .int 2, .int 2, .int 2, .int 2, .int 2, .int 2, .int 2, .int 2, .int 2, .int 2, .int 2, .int 2, .int 2, .int 2, .int 2, .int 2, .int 2, .int 2, .int 2, .int 2, .int 2, .int 2, .int 2, .int 2, .int 2, .int 2, .int 2, .int 2, .int 2]
def tab13 : List Int := [1, 0, 0, 0, 0, 0, 0, 0, 0, 0, 0, 0, 0, 2, 2, 0, 2, 0, 2, 0, 0, 2, 0, 2, 0, 2, 2, 0, 2, 2, 0, 0, 2, 2, 0, 0, 2, 2, 0, 2, 0, 2, 2, 2, 0, 0, 0, 0, 2, 2, 2, 0, 2, 2, 0, 0, 2, 0, 2, 2, 0, 2, 0, 0, 2, 2, 2, 2, 0, 0, 2, 0, 0, 2, 0, 0, 2, 2, 2, 0, 0, 0, 2, 2, 2, 2, 2, 2, 0, 0, 0, 2, 0, 0, 0, 2, 2, 2, 2, 2, 2, 0, 0, 0, 2, 2, 2, 0, 0, 2, 0, 0, 2, 0, 0, 2, 2, 2, 2, 0, 0, 2, 0, 2, 2, 0, 2, 0, 0, 2, 2, 0, 2, 2, 2, 0, 0, 0, 0, 2, 2, 2, 0, 2, 0, 2, 2, 0, 0, 2, 2, 0, 0, 2, 2, 0, 2, 2, 0, 2, 0, 2, 0, 0, 2, 0, 2, 0, 2]
def S13 : List Int := [0, 1, (-1), 1, 1, (-1), (-1), (-1), (-1), 1, 1, (-1), 1]
theorem dchk13 : dchk 13 ks13 ts13 tab13 = true := by decide +kernel
theorem nonsq13 : f__law_nonsquare [.int 13] = .ret (.int 2) false := by kernel_rfl
theorem comp13 (s0 : PT.Slot) (a b : Int) : mComp [s0, .val (.int 13), .val (.int a), .val (.int b), .val (.int 2), .un, .un, .un, .un, .un, .un, .un, .un] = .ok (.lst ((us 13).map ut)) true [s0, .val (.int 13), .val (.int a), .val (.int b), .val (.int 2), .un, .un, .un, .un, .un, .un, .un, .un] := by kernel_rfl
theorem loop13 (s0 M : PT.Slot) (a b : Int) : forL (gN 7) dBody ((us 13).map ut) [s0, .val (.int 13), .val (.int a), .val (.int b), .val (.int 2), M, .own false ⟨.dt [], []⟩, .un, .un, .un, .un, .un, .un] =
    .nx [s0, .val (.int 13), .val (.int a), .val (.int b), .val (.int 2), M, .own false ⟨.dt ks13, ts13⟩, .val (.tup [.int 12, .int 12]), .val (.tup [.int 3, .int 2]), .un, .un, .un, .un] := by kernel_rfl
theorem walked13 (a b : Int) : f__law_walked [cv 13 a b] = .ret (.int (1 + wsum (fun u => Rt tab13 13 (valF 13 2 a b u)) (us 13))) false := by
  obtain ⟨x7, x10, x11, e⟩ := walk_loop (p := 13) (d := 2) (a := a) (b := b) (by decide) (by decide) (by decide) dchk13 (.val (cv 13 a b)) (.val (.lst ((us 13).map ut))) (.val (.tup [.int 3, .int 2])) .un (us 13) 1 (.val (.tup [.int 12, .int 12])) .un .un (us_in (by decide)) (fun _ h => by cases h) (fun _ h => by cases h) (fun _ h => by cases h)
  have c := comp13 (.val (cv 13 a b)) a b
  have l := loop13 (.val (cv 13 a b)) (.val (.lst ((us 13).map ut))) a b
  have hc : ((13 : Nat) : Int) = 13 := rfl
  simp only [hc] at e
  have eD : ∀ env, eDT env = .ok (.dt [] []) true env := fun _ => rfl
  unfold f__law_walked
  rw [defF_app]
  simp [-ap_comp, nonsq13, c, l, e, eD, OT.t]
theorem m113 : mulT (.lst [.int (-1)]) (.int 13) = some (.lst [.int (-1), .int (-1), .int (-1), .int (-1), .int (-1), .int (-1), .int (-1), .int (-1), .int (-1), .int (-1), .int (-1), .int (-1), .int (-1)], true) := by kernel_rfl
theorem loopc13 (s0 : PT.Slot) : forL (gN 3) sBody (rangeT 1 12) [s0, .val (.int 13), .own false ⟨.l, [.int (-1), .int (-1), .int (-1), .int (-1), .int (-1), .int (-1), .int (-1), .int (-1), .int (-1), .int (-1), .int (-1), .int (-1), .int (-1)]⟩, .un, .un] = .nx [s0, .val (.int 13), .own false ⟨.l, [(-1), 1, (-1), 1, 1, (-1), (-1), (-1), (-1), 1, 1, (-1), 1].map T.int⟩, .val (.int 12), .un] := by kernel_rfl
theorem setc13 (s0 : PT.Slot) : sAsg (gSetL 2 (eC (.int 0))) (eC (.int 0)) [s0, .val (.int 13), .own false ⟨.l, [(-1), 1, (-1), 1, 1, (-1), (-1), (-1), (-1), 1, 1, (-1), 1].map T.int⟩, .val (.int 12), .un] = .nx [s0, .val (.int 13), .own false ⟨.l, S13.map T.int⟩, .val (.int 12), .un] := by kernel_rfl
theorem counted13 (a b : Int) : f_counted [cv 13 a b] = .ret (.int (13 + 1 + csum S13 13 a b)) false := by
  have c := count_comp (S := S13) (p := 13) (a := a) (b := b) (by decide) (by decide) (.val (.int 13)) (.val (.int 12)) (xs 13) (xs_in (by decide))
  have l := loopc13 (.val (cv 13 a b))
  have s := setc13 (.val (cv 13 a b))
  have o1 : okR 1 = true := by decide
  have o2 : okR 13 = true := by decide
  have q := sum_map (cub S13 13 a b) (xs 13)
  have r : rangeT 0 13 = (xs 13).map T.int := rangeT0 13
  have z : (xs 13).length ≤ sizeLine := by rw [sizeLine_eq, xs_len]; decide
  unfold f_counted
  rw [defF_app]
  simp only [List.map_cons, List.map_nil] at l s c q
  simp [-ap_asg, m113, l, s, o1, o2, r, plainAt, c, z, q, csum, OT.t]
theorem sym13 : f__law_symbols [.int 13] = .ret (.lst (S13.map T.int)) false := by kernel_rfl
theorem lcount13 (a b : Int) : f__law_count [cv 13 a b] = .ret (.int (13 + 1 + csum S13 13 a b)) false := by
  have c := law_comp (S := S13) (p := 13) (a := a) (b := b) (by decide) (by decide) (xs 13) (xs_in (by decide))
  have o2 : okR 13 = true := by decide
  have q := sum_map (cub S13 13 a b) (xs 13)
  have r : rangeT 0 13 = (xs 13).map T.int := rangeT0 13
  have z : (xs 13).length ≤ sizeLine := by rw [sizeLine_eq, xs_len]; decide
  have sy := sym13
  unfold f__law_count
  rw [defF_app]
  simp [sy, o2, r, plainAt, c, z, q, csum, OT.t]
theorem prime13 : f_is_curve_prime [.int 13] = .ret (.bl true) false := by kernel_rfl
theorem trace13 (a b : Int) (ha : 0 ≤ a) (ha2 : a < 13) (hb : 0 ≤ b) (hb2 : b < 13) (hs : (4 * a ^ 3 + 27 * b ^ 2) % 13 ≠ 0) : f_curve_trace [cv 13 a b] = .ret (.int (13 + 1 - (13 + 1 + csum S13 13 a b))) false := by
  have c := check_curve (p := 13) (by decide) (by decide) prime13 ha ha2 hb hb2 hs
  have n : f_number_of [cv 13 a b] = .ret (.int (13 + 1 + csum S13 13 a b)) false := by
    simp [f_number_of, defF_app, counted13]
  simp [f_curve_trace, defF_app, c, n]
end K55

set_option Elab.async false
set_option linter.all false
set_option maxRecDepth 1000000
set_option maxHeartbeats 0
set_option autoImplicit false
namespace K55
open PySem PySem.Spec L2 PT
/-! the greater primes -/
def isInt' (i : Int) : FRes → Bool := fun r => match r with
  | .ret (.int j) false => i == j
  | _ => false
theorem isInt_ok {i : Int} {r : FRes} (h : isInt' i r = true) : r = .ret (.int i) false := by
  unfold isInt' at h
  split at h
  · rw [eq_of_beq h]
  · cases h
def isNon' : FRes → Bool := fun r => match r with
  | .ret .non false => true
  | _ => false
theorem isNon_ok' {r : FRes} (h : isNon' r = true) : r = .ret .non false := by
  unfold isNon' at h
  split at h
  · rfl
  · cases h
def rchk (q : Int) : Bool := (List.range 100).all fun k => isInt' (q ^ (k + 1)) (f_raised [.int q, .int ((k + 1 : Nat) : Int)])
/-- p^k + 1 - V_k, one behind another from k on; n of them -/
def tabN (q s : Int) : Nat → Int → Int → Int → List Int
  | 0, _, _, _ => []
  | n + 1, w, b, x => (w + 1 - x) :: tabN q s n (w * q) x (s * x - q * b)
theorem tabN_get (q s : Int) : ∀ (n : Nat) (w b x : Int) (i : Nat), i < n → (tabN q s n w b x)[i]? = some (w * q ^ i + 1 - (luc q s i (b, x)).2)
  | 0, _, _, _, _, h => by omega
  | n + 1, w, b, x, 0, _ => by simp [tabN, luc]
  | n + 1, w, b, x, i + 1, h => by
    show (tabN q s n (w * q) x (s * x - q * b))[i]? = _
    rw [tabN_get q s n (w * q) x (s * x - q * b) i (by omega)]
    have e : w * q * q ^ i = w * q ^ (i + 1) := by
      rw [Int.pow_succ, Int.mul_comm (q ^ i) q, Int.mul_assoc]
    rw [e]
    rfl
def nk (q s : Int) (k : Nat) : Int := q ^ k + 1 - (luc q s (k - 1) (2, s)).2
def dchkL (l : List Int) : Bool := (List.range 100).all fun j => (List.range 100).all fun i => if (j + 1) * (i + 1) ≤ 100 then (match l[j]?, l[(j + 1) * (i + 1) - 1]? with
  | some n, some n2 => decide (0 < n) && (n2 % n == 0)
  | _, _ => false) else true
def qchk (q : Int) : Bool := (List.range 19).all fun s => decide (((s : Int) - 9) * ((s : Int) - 9) ≤ 4 * q) && dchkL (tabN q ((s : Int) - 9) 100 q 2 ((s : Int) - 9))
structure GoodQ (q : Int) : Prop where
  go : ∀ (s : Int) (k m : Nat), -9 ≤ s → s ≤ 9 → 1 ≤ k → k ≤ 100 → 1 ≤ m → k * m ≤ 100 → ∃ N N2, f_number_over [.int q, .int s, .int k] = .ret (.int N) false ∧ f__law_due [.int q, .int s, .int k] = .ret (.int N) false ∧ f_number_over [.int q, .int s, .int ((k * m : Nat) : Int)] = .ret (.int N2) false ∧ 0 < N ∧ N2 % N = 0
  hu : ∃ N, f_number_over [.int q, .int 0, .int 100] = .ret (.int N) false ∧ f__law_due [.int q, .int 0, .int 100] = .ret (.int N) false
theorem goodQ {q : Int} (hq : 0 < q) (hq2 : q < 2 ^ 40) (hc : isNon' (f_check_prime [.int q]) = true) (hr : rchk q = true) (hk : qchk q = true) : GoodQ q := by
  have hs : small q = true := small_nn (by omega) (by omega)
  have over : ∀ (s : Int) (k : Nat), -9 ≤ s → s ≤ 9 → 1 ≤ k → k ≤ 100 → f_number_over [.int q, .int s, .int k] = .ret (.int (nk q s k)) false ∧ f__law_due [.int q, .int s, .int k] = .ret (.int (nk q s k)) false := fun s k h1 h2 h3 h4 => by
    have st : small s = true := small_of (by omega) (by omega)
    have r := isInt_ok (List.all_eq_true.mp hr (k - 1) (List.mem_range.mpr (by omega)))
    rw [show k - 1 + 1 = k by omega] at r
    have z := List.all_eq_true.mp hk (s + 9).toNat (List.mem_range.mpr (by omega))
    rw [Bool.and_eq_true, show (((s + 9).toNat : Nat) : Int) - 9 = s by omega] at z
    exact ⟨over_spec hs st (isNon_ok' hc) h3 h4 r (of_decide_eq_true z.1), due_spec hs st h3 h4⟩
  refine ⟨fun s k m h1 h2 h3 h4 h5 h6 => ⟨nk q s k, nk q s (k * m), (over s k h1 h2 h3 h4).1, (over s k h1 h2 h3 h4).2, (over s (k * m) h1 h2 (Nat.le_trans h3 (Nat.le_mul_of_pos_right k h5)) h6).1, ?_⟩, ⟨nk q 0 100, over 0 100 (by omega) (by omega) (by omega) (by omega)⟩⟩
  have z := List.all_eq_true.mp hk (s + 9).toNat (List.mem_range.mpr (by omega))
  rw [Bool.and_eq_true, show (((s + 9).toNat : Nat) : Int) - 9 = s by omega] at z
  have hm : m ≤ 100 := Nat.le_trans (Nat.le_mul_of_pos_left m h3) h6
  have y := List.all_eq_true.mp (List.all_eq_true.mp z.2 (k - 1) (List.mem_range.mpr (by omega))) (m - 1) (List.mem_range.mpr (by omega))
  rw [show k - 1 + 1 = k by omega, show m - 1 + 1 = m by omega, if_pos h6] at y
  have hkm : 1 ≤ k * m := Nat.le_trans h3 (Nat.le_mul_of_pos_right k h5)
  have g : ∀ j, 1 ≤ j → j ≤ 100 → (tabN q s 100 q 2 s)[j - 1]? = some (nk q s j) := fun j h1 h2 => by
    rw [tabN_get q s 100 q 2 s (j - 1) (by omega)]
    have e : q * q ^ (j - 1) = q ^ j := by
      obtain ⟨i, rfl⟩ : ∃ i, j = i + 1 := ⟨j - 1, by omega⟩
      rw [Nat.add_sub_cancel, Int.pow_succ, Int.mul_comm]
    rw [e]
    rfl
  rw [g k h3 h4, g (k * m) hkm h6] at y
  simp only [Bool.and_eq_true, decide_eq_true_eq, beq_iff_eq] at y
  exact y
theorem good1 : GoodQ 1000000007 := goodQ (by decide) (by decide) (by decide +kernel) (by decide +kernel) (by decide +kernel)
theorem good2 : GoodQ 9973 := goodQ (by decide) (by decide) (by decide +kernel) (by decide +kernel) (by decide +kernel)
theorem good3 : GoodQ 101 := goodQ (by decide) (by decide) (by decide +kernel) (by decide +kernel) (by decide +kernel)
theorem good4 : GoodQ 9999999967 := goodQ (by decide) (by decide) (by decide +kernel) (by decide +kernel) (by decide +kernel)
end K55

set_option Elab.async false
set_option linter.all false
set_option maxRecDepth 1000000
set_option maxHeartbeats 0
set_option autoImplicit false
namespace K55
open PySem PySem.Spec L2 PT
/-! the drawn curve -/
def smB (p a b : Int) : Bool := !((4 * a * a * a + 27 * b * b) % p == 0)
theorem smooth_spec {p a b : Int} (hp : 0 < p) (hp2 : p < 2 ^ 32) (ha : 0 ≤ a) (ha2 : a < p) (hb : 0 ≤ b) (hb2 : b < p) : f__law_is_smooth [.int p, .int a, .int b] = .ret (.bl (smB p a b)) false := by
  have sa : small a = true := small_nn ha (by omega)
  have sb : small b = true := small_nn hb (by omega)
  simp [f__law_is_smooth, defF_app, mulT_s sa, mulT_s sb, modT_p hp, smB]
abbrev cCond : E := eNot (eCall 3 f__law_is_smooth (aCons (eVar 1) (aCons (eVar 2) (aCons (eVar 3) aNil))))
abbrev cBody : S := sSet false 3 (eBin modT (eUn intT (eBin addT (eBor 3) (eC (.int 1)))) (eBor 1))
def reach (p a b : Int) : Nat → Bool
  | 0 => smB p a b
  | j + 1 => smB p a b || reach p a ((b + 1) % p) j
theorem while_reach {p a : Int} (hp : 0 < p) (hp2 : p < 2 ^ 32) (ha : 0 ≤ a) (ha2 : a < p) (s0 : PT.Slot) : ∀ (j : Nat) (b : Int) (n : Nat), 0 ≤ b → b < p → reach p a b j = true → ∃ b', whileN (n + j + 1) cCond cBody [s0, .val (.int p), .val (.int a), .val (.int b)] = .nx [s0, .val (.int p), .val (.int a), .val (.int b')] ∧ 0 ≤ b' ∧ b' < p ∧ smB p a b' = true
  | 0, b, n, h1, h2, h => by
    have sm := smooth_spec hp hp2 ha ha2 h1 h2
    have h : smB p a b = true := h
    refine ⟨b, ?_, h1, h2, h⟩
    rw [whileN_succ]
    simp [sm, h]
  | j + 1, b, n, h1, h2, h => by
    have sm := smooth_spec hp hp2 ha ha2 h1 h2
    by_cases hb : smB p a b = true
    · refine ⟨b, ?_, h1, h2, hb⟩
      rw [whileN_succ]
      simp [sm, hb]
    · have hb' : smB p a b = false := by simpa using hb
      have h : (smB p a b || reach p a ((b + 1) % p) j) = true := h
      rw [hb', Bool.false_or] at h
      obtain ⟨b', e, r⟩ := while_reach hp hp2 ha ha2 s0 j ((b + 1) % p) n (Int.emod_nonneg _ (by omega)) (Int.emod_lt_of_pos _ hp) h
      refine ⟨b', ?_, r⟩
      rw [← e, show n + (j + 1) + 1 = (n + j + 1) + 1 by omega, whileN_succ]
      simp [sm, hb', modT_p hp]
def allReach (p : Nat) : Bool := (List.range p).all fun a => (List.range p).all fun b => reach p a b p
theorem curve_spec {p : Nat} (hp : 0 < p) (hp2 : p < 1000) (hr : allReach p = true) (s t : Int) : ∃ a b s' t', f__law_curve (stO s t) [.int p] = .ret (cv p a b) false (stO s' t') ∧ 0 ≤ a ∧ a < p ∧ 0 ≤ b ∧ b < p ∧ smB p a b = true := by
  have hp' : (0 : Int) < p := by omega
  obtain ⟨a0, s1, t1, e1, a1, a2⟩ := take_spec s t p hp' (by omega)
  obtain ⟨b0, s2, t2, e2, b1, b2⟩ := take_spec s1 t1 p hp' (by omega)
  obtain ⟨v, s3, t3, e3, _, _⟩ := take_spec s2 t2 8 (by decide) (by decide)
  obtain ⟨w, s4, t4, e4, _, _⟩ := take_spec s3 t3 8 (by decide) (by decide)
  obtain ⟨a, ea, ha1, ha2⟩ : ∃ a, (if v = 0 then 0 else a0) = a ∧ 0 ≤ a ∧ a < (p : Int) := ⟨_, rfl, by split <;> omega, by split <;> omega⟩
  obtain ⟨b, eb, hb1, hb2⟩ : ∃ b, (if w = 0 then 0 else b0) = b ∧ 0 ≤ b ∧ b < (p : Int) := ⟨_, rfl, by split <;> omega, by split <;> omega⟩
  have hR : reach p a b p = true := by
    obtain ⟨i, rfl⟩ := Int.eq_ofNat_of_zero_le ha1
    obtain ⟨j, rfl⟩ := Int.eq_ofNat_of_zero_le hb1
    exact List.all_eq_true.mp (List.all_eq_true.mp hr i (List.mem_range.mpr (by omega))) j (List.mem_range.mpr (by omega))
  obtain ⟨b', e5, hb3, hb4, hsm⟩ := while_reach hp' (by omega) ha1 ha2 (.own true (stO s4 t4)) p b (1000000 - p - 1) hb1 hb2 hR
  rw [show 1000000 - p - 1 + p + 1 = 1000000 by omega] at e5
  refine ⟨a, b', s4, t4, ?_, ha1, ha2, hb3, hb4, hsm⟩
  by_cases hv : v = 0
  · rw [if_pos hv] at ea
    subst ea hv
    by_cases hw : w = 0
    · rw [if_pos hw] at eb
      subst eb hw
      simp [f__law_curve, defI, e1, e2, e3, e4, e5]
    · rw [if_neg hw] at eb
      subst eb
      have hwb : (w == 0) = false := by simpa using hw
      simp [f__law_curve, defI, e1, e2, e3, e4, e5, hwb]
  · rw [if_neg hv] at ea
    subst ea
    have hvb : (v == 0) = false := by simpa using hv
    by_cases hw : w = 0
    · rw [if_pos hw] at eb
      subst eb hw
      simp [f__law_curve, defI, e1, e2, e3, e4, e5, hvb]
    · rw [if_neg hw] at eb
      subst eb
      have hwb : (w == 0) = false := by simpa using hw
      simp [f__law_curve, defI, e1, e2, e3, e4, e5, hvb, hwb]
/-! its numbers -/
structure GoodP (p : Int) : Prop where
  go : ∀ s t : Int, ∃ a b s' t' tr n1 n2, f__law_curve (stO s t) [.int p] = .ret (cv p a b) false (stO s' t') ∧ f_curve_trace [cv p a b] = .ret (.int tr) false ∧ f_number_over [.int p, .int tr, .int 1] = .ret (.int n1) false ∧ f__law_count [cv p a b] = .ret (.int n1) false ∧
    f_number_over [.int p, .int tr, .int 2] = .ret (.int n2) false ∧ f__law_walked [cv p a b] = .ret (.int n2) false
def cchk (S tab : List Int) (p : Nat) (d : Int) : Bool := (List.range p).all fun a => (List.range p).all fun b => if smB p a b then
    let t : Int := (p : Int) + 1 - ((p : Int) + 1 + csum S p a b)
    decide (t * t ≤ 4 * (p : Int)) && ((p : Int) ^ 2 + 1 - (t * t - (p : Int) * 2) == 1 + wsum (fun u => Rt tab p (valF p d a b u)) (us p))
  else true
theorem goodP {p : Nat} {S tab : List Int} {d : Int} (hp : 0 < p) (hp2 : p < 1000) (hr : allReach p = true) (hk : cchk S tab p d = true) (hc : isNon' (f_check_prime [.int p]) = true) (h1 : isInt' p (f_raised [.int p, .int 1]) = true) (h2 : isInt' ((p : Int) ^ 2) (f_raised [.int p, .int 2]) = true)
    (w : ∀ a b : Int, f__law_walked [cv p a b] = .ret (.int (1 + wsum (fun u => Rt tab p (valF p d a b u)) (us p))) false) (l : ∀ a b : Int, f__law_count [cv p a b] = .ret (.int (p + 1 + csum S p a b)) false)
    (tr : ∀ a b : Int, 0 ≤ a → a < p → 0 ≤ b → b < p → (4 * a ^ 3 + 27 * b ^ 2) % (p : Int) ≠ 0 → f_curve_trace [cv p a b] = .ret (.int (p + 1 - (p + 1 + csum S p a b))) false) : GoodP p := by
  refine ⟨fun s t => ?_⟩
  obtain ⟨a, b, s', t', e, ha, ha2, hb, hb2, hsm⟩ := curve_spec hp hp2 hr s t
  have q : (4 * a ^ 3 + 27 * b ^ 2) % (p : Int) ≠ 0 := by
    have e1 : 4 * a ^ 3 + 27 * b ^ 2 = 4 * a * a * a + 27 * b * b := by
      simp [Int.pow_succ, Int.mul_assoc]
    rw [e1]
    unfold smB at hsm
    simpa using hsm
  have z : (let t : Int := (p : Int) + 1 - ((p : Int) + 1 + csum S p a b)
    decide (t * t ≤ 4 * (p : Int)) && ((p : Int) ^ 2 + 1 - (t * t - (p : Int) * 2) == 1 + wsum (fun u => Rt tab p (valF p d a b u)) (us p))) = true := by
    obtain ⟨i, rfl⟩ := Int.eq_ofNat_of_zero_le ha
    obtain ⟨j, rfl⟩ := Int.eq_ofNat_of_zero_le hb
    have y := List.all_eq_true.mp (List.all_eq_true.mp hk i (List.mem_range.mpr (by omega))) j (List.mem_range.mpr (by omega))
    rw [if_pos hsm] at y
    exact y
  simp only [Bool.and_eq_true, decide_eq_true_eq, beq_iff_eq] at z
  obtain ⟨z1, z2⟩ := z
  have hs : small (p : Int) = true := small_nn (by omega) (by omega)
  generalize hT : (p : Int) + 1 - ((p : Int) + 1 + csum S p a b) = T0 at z1 z2
  have st : small T0 = true := by
    have hT2 : T0 * T0 < 4000 := by omega
    have : -64 < T0 ∧ T0 < 64 := by
      constructor
      · apply Int.lt_of_not_ge
        intro h
        have h3 : (64 : Int) * 64 ≤ (-T0) * (-T0) := Int.mul_le_mul (by omega) (by omega) (by omega) (by omega)
        rw [Int.neg_mul_neg] at h3
        omega
      · apply Int.lt_of_not_ge
        intro h
        have h3 : (64 : Int) * 64 ≤ T0 * T0 := Int.mul_le_mul (by omega) (by omega) (by omega) (by omega)
        omega
    exact small_of (by omega) (by omega)
  have o1 := over_spec (k := 1) hs st (isNon_ok' hc) (by decide) (by decide) (isInt_ok h1) z1
  have o2 := over_spec (k := 2) hs st (isNon_ok' hc) (by decide) (by decide) (isInt_ok h2) z1
  refine ⟨a, b, s', t', T0, p + 1 + csum S p a b, 1 + wsum (fun u => Rt tab p (valF p d a b u)) (us p), e, ?_, ?_, l a b, ?_, w a b⟩
  · rw [tr a b ha ha2 hb hb2 q, hT]
  · have : (p : Int) + 1 - T0 = p + 1 + csum S p a b := by omega
    rw [← this]
    exact o1
  · rw [← z2]
    exact o2
theorem goodP5 : GoodP 5 := goodP (p := 5) (S := S5) (tab := tab5) (d := 2) (by decide) (by decide) (by decide +kernel) (by decide +kernel) (by decide +kernel) (by decide +kernel) (by decide +kernel) walked5 lcount5 trace5
theorem goodP7 : GoodP 7 := goodP (p := 7) (S := S7) (tab := tab7) (d := 3) (by decide) (by decide) (by decide +kernel) (by decide +kernel) (by decide +kernel) (by decide +kernel) (by decide +kernel) walked7 lcount7 trace7
theorem goodP11 : GoodP 11 := goodP (p := 11) (S := S11) (tab := tab11) (d := 2) (by decide) (by decide) (by decide +kernel) (by decide +kernel) (by decide +kernel) (by decide +kernel) (by decide +kernel) walked11 lcount11 trace11
theorem goodP13 : GoodP 13 := goodP (p := 13) (S := S13) (tab := tab13) (d := 2) (by decide) (by decide) (by decide +kernel) (by decide +kernel) (by decide +kernel) (by decide +kernel) (by decide +kernel) walked13 lcount13 trace13
end K55

set_option Elab.async false
set_option linter.all false
set_option maxRecDepth 1000000
set_option maxHeartbeats 0
set_option autoImplicit false
namespace K55
open PySem PySem.Spec L2 PT
theorem prime_at (v : Int) (h1 : 0 ≤ v) (h2 : v < 4) : ∃ p, L2.atI [T.int 5, T.int 7, T.int 11, T.int 13] v = some (.int p) ∧ GoodP p := by
  obtain rfl | rfl | rfl | rfl : v = 0 ∨ v = 1 ∨ v = 2 ∨ v = 3 := by omega
  · exact ⟨5, by rfl, goodP5⟩
  · exact ⟨7, by rfl, goodP7⟩
  · exact ⟨11, by rfl, goodP11⟩
  · exact ⟨13, by rfl, goodP13⟩
theorem great_at (v : Int) (h1 : 0 ≤ v) (h2 : v < 4) : ∃ q, L2.atI [T.int 1000000007, T.int 9973, T.int 101, T.int 9999999967] v = some (.int q) ∧ GoodQ q := by
  obtain rfl | rfl | rfl | rfl : v = 0 ∨ v = 1 ∨ v = 2 ∨ v = 3 := by omega
  · exact ⟨_, by rfl, good1⟩
  · exact ⟨_, by rfl, good2⟩
  · exact ⟨_, by rfl, good3⟩
  · exact ⟨_, by rfl, good4⟩
abbrev mal : FRes := .ret (.str "malformed") false
theorem bad_at (v : Int) (h1 : 0 ≤ v) (h2 : v < 7) : ∃ w, L2.atI [T.int 4, T.int 3, T.int 9, T.non, T.bl true, T.int (-7), T.str "7"] v = some w ∧ f__law_told [w, .int 1, .int 1] = mal := by
  obtain rfl | rfl | rfl | rfl | rfl | rfl | rfl : v = 0 ∨ v = 1 ∨ v = 2 ∨ v = 3 ∨ v = 4 ∨ v = 5 ∨ v = 6 := by omega
  all_goals exact ⟨_, by rfl, by kernel_rfl⟩
theorem tbad_at (v : Int) (h1 : 0 ≤ v) (h2 : v < 3) : ∃ w, L2.atI [T.non, T.bl true, T.str "1"] v = some w ∧ f__law_told [.int 7, w, .int 1] = mal := by
  obtain rfl | rfl | rfl : v = 0 ∨ v = 1 ∨ v = 2 := by omega
  all_goals exact ⟨_, by rfl, by kernel_rfl⟩
theorem kbad_at (v : Int) (h1 : 0 ≤ v) (h2 : v < 5) : ∃ w, L2.atI [T.int 0, T.int (-1), T.non, T.bl true, T.str "2"] v = some w ∧ f__law_told [.int 7, .int 1, w] = mal := by
  obtain rfl | rfl | rfl | rfl | rfl : v = 0 ∨ v = 1 ∨ v = 2 ∨ v = 3 ∨ v = 4 := by omega
  all_goals exact ⟨_, by rfl, by kernel_rfl⟩
theorem told_a : f__law_told [.int 7, .int 6, .int 1] = .ret (.str "trace") false := by kernel_rfl
theorem told_b : f__law_told [.int 7, .int (-6), .int 200] = .ret (.str "trace") false := by kernel_rfl
theorem told_c : f__law_told [.int 7, .int 5, .int 101] = .ret (.str "large") false := by kernel_rfl
theorem ne_a : neT (.str "trace") (.str "trace") = some (.bl false, false) := by kernel_rfl
theorem ne_c : neT (.str "large") (.str "large") = some (.bl false, false) := by kernel_rfl
abbrev m3 : List T := [.str "malformed", .str "malformed", .str "malformed"]
theorem comp3 (x0 x1 x2 x3 x4 x5 x6 x8 x9 x10 : PT.Slot) (t7 : T) : eComp (iRange1 (eC (.int 3))) [7] (gN 7) eYes (eC (.str "malformed")) [x0, x1, x2, x3, x4, x5, x6, .val t7, x8, x9, x10] = .ok (.lst m3) true [x0, x1, x2, x3, x4, x5, x6, .val t7, x8, x9, x10] := by kernel_rfl
theorem add3 : addT (.lst [.str "malformed", .str "malformed"]) (.lst [.str "malformed"]) = some (.lst m3, true) := by kernel_rfl
theorem eq3 : eqT (.lst m3) (.lst m3) = some (.bl true, false) := by kernel_rfl
theorem pow9 : powT (.int 10) (.int 9) = some (.int 1000000000, false) := by kernel_rfl
theorem law_holds (ns : List Int) (h : ns.length ≤ 63) (hz : ∀ z ∈ ns, Builtin.Int.intBits z ≤ 1048576) : f_law [.frz (ns.map T.int)] = .ret (.bl true) false := by
  obtain ⟨s0, t0, e0⟩ := state_spec ns h
  obtain ⟨v1, s1, t1, e1, a1, b1⟩ := take_spec s0 t0 4 (by decide) (by decide)
  obtain ⟨p, hp, gp⟩ := prime_at v1 a1 b1
  obtain ⟨a, b, s2, t2, tr, n1, n2, f1, f2, f3, f4, f5, f6⟩ := gp.go s1 t1
  obtain ⟨v2, s3, t3, e2, a2, b2⟩ := take_spec s2 t2 4 (by decide) (by decide)
  obtain ⟨q, hq, gq⟩ := great_at v2 a2 b2
  obtain ⟨v3, s4, t4, e3, a3, b3⟩ := take_spec s3 t3 19 (by decide) (by decide)
  obtain ⟨v4, s5, t5, e4, a4, b4⟩ := take_spec s4 t4 100 (by decide) (by decide)
  obtain ⟨k, hk⟩ : ∃ k : Nat, 1 + v4 = (k : Int) := ⟨(1 + v4).toNat, by omega⟩
  have hk1 : 1 ≤ k := by omega
  have hk2 : k ≤ 100 := by omega
  have hd : (0 : Int) < 100 / (k : Int) := by
    have : (1 : Int) ≤ 100 / (k : Int) := (Int.le_ediv_iff_mul_le (by omega)).mpr (by omega)
    omega
  have hd2 : 100 / (k : Int) < 2 ^ 64 := by
    have := Int.ediv_le_self (a := 100) (k : Int) (by decide)
    omega
  obtain ⟨v5, s6, t6, e5, a5, b5⟩ := take_spec s5 t5 (100 / (k : Int)) hd hd2
  obtain ⟨m, hm⟩ : ∃ m : Nat, 1 + v5 = (m : Int) := ⟨(1 + v5).toNat, by omega⟩
  have hm1 : 1 ≤ m := by omega
  have hkm : k * m ≤ 100 := by
    have h1 : (m : Int) ≤ 100 / (k : Int) := by omega
    have h2 : (k : Int) * (100 / (k : Int)) ≤ 100 := Int.mul_ediv_self_le (by omega)
    have h3 : (k : Int) * (m : Int) ≤ (k : Int) * (100 / (k : Int)) := Int.mul_le_mul_of_nonneg_left h1 (by omega)
    have h4 : ((k * m : Nat) : Int) ≤ 100 := by
      rw [Int.natCast_mul]
      omega
    omega
  obtain ⟨N, N2, g1, g2, g3, g4, g5⟩ := gq.go (v3 - 9) k m (by omega) (by omega) hk1 hk2 hm1 hkm
  obtain ⟨N3, g6, g7⟩ := gq.hu
  obtain ⟨v6, s7, t7, e6, a6, b6⟩ := take_spec s6 t6 7 (by decide) (by decide)
  obtain ⟨w1, hw1, told1⟩ := bad_at v6 a6 b6
  obtain ⟨v7, s8, t8, e7, a7, b7⟩ := take_spec s7 t7 3 (by decide) (by decide)
  obtain ⟨w2, hw2, told2⟩ := tbad_at v7 a7 b7
  obtain ⟨v8, s9, t9, e8, a8, b8⟩ := take_spec s8 t8 5 (by decide) (by decide)
  obtain ⟨w3, hw3, told3⟩ := kbad_at v8 a8 b8
  rw [Int.natCast_mul] at g3
  have sk : small (k : Int) = true := small_nn (by omega) (by omega)
  have fk : fdivOk (k : Int) = true := fdivOk_of (by omega) (by omega)
  dsimp only [stO, cv] at e0 e1 e2 e3 e4 e5 e6 e7 e8 f1 f2 f4 f6
  unfold f_law b_law
  rw [defF_app]
  simp [-ap_comp, e0, e1, e2, e3, e4, e5, e6, e7, e8, hp, f1, f2, f3, f4, f5, f6, plain_int, hq, pow9, hk, hm, g1, g2, g3, g6, g7, is_bool, fdivT_p fk, mulT_s' sk, modT_p g4, g5, told_a, told_b, told_c, ne_a, ne_c, hw1, hw2, hw3, told1, told2, told3, comp3, add3, eq3, OT.t]
end K55

set_option Elab.async false
set_option linter.all false
set_option maxRecDepth 1000000
set_option maxHeartbeats 0
set_option autoImplicit false
namespace K55
open PySem PySem.Spec L2 PT
def initSt : Stmt := (clsBody (top 3)).getD 0 (.Pass ⟨0, 0, 0, 0⟩)
def hd0 : List (Str × Stmt) := [(("_law_state" : Str), top 68), (("_law_take" : Str), top 69), (("_law_is_smooth" : Str), top 73), (("_law_curve" : Str), top 74), (("_law_odd" : Str), top 66), (("_law_plain" : Str), top 67), (("is_integer" : Str), top 5), (("power" : Str), top 12), (("stands_round" : Str), top 20), (("is_prime" : Str), top 21), (("is_curve_prime" : Str), top 38), (("check_prime" : Str), top 51), (("check_numbers" : Str), top 52), (("raised" : Str), top 8), (("number_over" : Str), top 53), (("_law_no_word" : Str), top 65), (("_law_told" : Str), top 79), (("is_rest" : Str), top 37), (("is_curve" : Str), top 39), (("check_curve" : Str), top 41), (("right_side" : Str), top 40), (("counted" : Str), top 56), (("number_of" : Str), top 62), (("curve_trace" : Str), top 63), (("_law_symbols" : Str), top 71), (("_law_cubic" : Str), top 72), (("_law_count" : Str), top 75), (("_law_power" : Str), top 70), (("_law_nonsquare" : Str), top 76), (("_law_mul" : Str), top 77)]
def hd1 : List (Str × Stmt) := [(("_law_plus" : Str), top 78), (("_law_walked" : Str), top 80), (("_law_due" : Str), top 81), (("law" : Str), top 82)]
def hD : HeadD where
  defs := hd0 ++ hd1
  frees := ["abs", "all", "bool", "int", "isinstance", "len", "list", "range", "str", "sum", "tuple"]
  cints := [(("MOST_COUNTED" : Str), 10000), (("MOST_POWER" : Str), 100), (("MOST_PRIME" : Str), 10000000000), (("PROVEN" : Str), 3317044064679887385961981)]
  ctups := [(("BASES" : Str), [2, 3, 5, 7, 11, 13, 17, 19, 23, 29, 31, 37, 41])]
  init := initSt
  file := "/claim/cut.py"
abbrev R : PySem.W.OpenRow := PySem.W.OpenLaw.row PySem.Challenge.rw_classledger_k55_points_over_greater_fiel
abbrev hk : PySem.W.Hook := hD.hook 5
def ob (s : PySem.W.SharedT) : AlH := hD.obsG 5 (HandSHeadRun.getT s)
theorem ob_eq (s : PySem.W.SharedT) : ob s = hk.obs s.abs := HeadD.obsG_eq (HandSHeadRun.getT_eq s)
def loose0 : List Str := ["__name__", "Fault", "Malformed", "Refused", "is_integer", "common_divisor", "combination", "raised", "root", "exact_power", "inverse", "power", "kronecker", "joined", "BASES", "PROVEN", "MOST_primes", "TRIAL", "stands_round", "is_prime", "split", "great_primes", "factors", "MOST_squares", "MOST_ROOTS", "check_most", "root_modulo_prime", "unit_roots", "power_roots", "count_roots"]
def loose1 : List Str := ["roots_of", "square_roots", "MOST_PRIME", "is_rest", "is_curve_prime", "is_curve", "right_side", "check_curve", "turned_point", "slope", "joint", "many_times", "places", "least_nonsquare", "other_curve", "MOST_POWER", "check_prime", "check_numbers", "number_over", "MOST_COUNTED", "counted", "bounds", "some_zero", "reduced_order", "fitting", "common_multiple", "number_of", "curve_trace", "_law_no_word", "_law_odd"]
def loose2 : List Str := ["_law_plain", "_law_state", "_law_take", "_law_power", "_law_symbols", "_law_cubic", "_law_is_smooth", "_law_curve", "_law_count", "_law_nonsquare", "_law_mul", "_law_plus", "_law_told", "_law_walked", "_law_due"]
def loose : List Str := loose0 ++ loose1 ++ loose2
theorem run (w : World) : HandSHeadRun.RunEq R (PySem.W.view R.prog [82]) hk ob 6000 loose w := by
  intro os
  kernel_rfl
end K55

set_option Elab.async false
set_option linter.all false
set_option maxRecDepth 1000000
set_option maxHeartbeats 0
set_option autoImplicit false
namespace K55
open PySem PySem.Spec L2 PT
theorem sI : NdefX.NScope iN ["self", "reason"] ["__class__"] (defScope initSt) := NdefX.nscope_by (by decide +kernel)
theorem facts {w : World} {K : PySem.W.Frag} {mg : Str → Option Value} {base h : Heap} (X : K.In h) (Gn : h.Ns mainGlobals mg) (c : hD.obs K = hD.val) : ∃ fd, Fx ⟨R.prog, w, K, mg, base⟩ (He.ga K "Malformed") (He.ga K "Refused") (initAd K) fd := by
  obtain ⟨h1, h2, fd, h3⟩ := errB_ok (P := R.prog) (w := w) (base := base) (st := initSt) X Gn (HeadD.initE c) (HeadD.err c) (by rfl) sI (by rfl) (by kernel_rfl) (by rfl) (by rfl) (by kernel_rfl) ⟨_, fun _ => rfl⟩ (fun _ _ _ _ _ _ _ us hl => match us, hl with | [_, _], _ => rfl)
  exact ⟨fd, {
    exM := h1
    exR := h2
    exI := h3
    b_abs := HeadD.free_ X Gn c 0 rfl
    b_all := HeadD.free_ X Gn c 1 rfl
    b_bool := HeadD.free_ X Gn c 2 rfl
    b_int := HeadD.free_ X Gn c 3 rfl
    b_isinstance := HeadD.free_ X Gn c 4 rfl
    b_len := HeadD.free_ X Gn c 5 rfl
    b_list := HeadD.free_ X Gn c 6 rfl
    b_range := HeadD.free_ X Gn c 7 rfl
    b_str := HeadD.free_ X Gn c 8 rfl
    b_sum := HeadD.free_ X Gn c 9 rfl
    b_tuple := HeadD.free_ X Gn c 10 rfl
    c_MOST_COUNTED := HeadD.int_ X Gn c 0 rfl
    c_MOST_POWER := HeadD.int_ X Gn c 1 rfl
    c_MOST_PRIME := HeadD.int_ X Gn c 2 rfl
    c_PROVEN := HeadD.int_ X Gn c 3 rfl
    c_BASES := HeadD.tup_ X Gn c 0 rfl
    d__law_state := HeadD.def_ X Gn c 0 rfl
    d__law_take := HeadD.def_ X Gn c 1 rfl
    d__law_is_smooth := HeadD.def_ X Gn c 2 rfl
    d__law_curve := HeadD.def_ X Gn c 3 rfl
    d__law_odd := HeadD.def_ X Gn c 4 rfl
    d__law_plain := HeadD.def_ X Gn c 5 rfl
    d_is_integer := HeadD.def_ X Gn c 6 rfl
    d_power := HeadD.def_ X Gn c 7 rfl
    d_stands_round := HeadD.def_ X Gn c 8 rfl
    d_is_prime := HeadD.def_ X Gn c 9 rfl
    d_is_curve_prime := HeadD.def_ X Gn c 10 rfl
    d_check_prime := HeadD.def_ X Gn c 11 rfl
    d_check_numbers := HeadD.def_ X Gn c 12 rfl
    d_raised := HeadD.def_ X Gn c 13 rfl
    d_number_over := HeadD.def_ X Gn c 14 rfl
    d__law_no_word := HeadD.def_ X Gn c 15 rfl
    d__law_told := HeadD.def_ X Gn c 16 rfl
    d_is_rest := HeadD.def_ X Gn c 17 rfl
    d_is_curve := HeadD.def_ X Gn c 18 rfl
    d_check_curve := HeadD.def_ X Gn c 19 rfl
    d_right_side := HeadD.def_ X Gn c 20 rfl
    d_counted := HeadD.def_ X Gn c 21 rfl
    d_number_of := HeadD.def_ X Gn c 22 rfl
    d_curve_trace := HeadD.def_ X Gn c 23 rfl
    d__law_symbols := HeadD.def_ X Gn c 24 rfl
    d__law_cubic := HeadD.def_ X Gn c 25 rfl
    d__law_count := HeadD.def_ X Gn c 26 rfl
    d__law_power := HeadD.def_ X Gn c 27 rfl
    d__law_nonsquare := HeadD.def_ X Gn c 28 rfl
    d__law_mul := HeadD.def_ X Gn c 29 rfl
    d__law_plus := HeadD.def_ X Gn c 30 rfl
    d__law_walked := HeadD.def_ X Gn c 31 rfl
    d__law_due := HeadD.def_ X Gn c 32 rfl
    d_law := HeadD.def_ X Gn c 33 rfl
  }⟩
end K55
open PySem PySem.W PySem.Calls PyProof.Rows
theorem PySem.Challenge.cw_classledger_k55_points_over_greater_fiel_holds : PySem.Challenge.rw_classledger_k55_points_over_greater_fiel.Holds := by
  w_on; o_law
  refine HandSHeadRun.head_any (r := OpenLaw.row PySem.Challenge.rw_classledger_k55_points_over_greater_fiel) (q := view (OpenLaw.row PySem.Challenge.rw_classledger_k55_points_over_greater_fiel).prog [82]) (H := K55.hk) (ob := K55.ob) (M := 6000) (loose := K55.loose) (d := HandSHeadRun.topDef (OpenLaw.row PySem.Challenge.rw_classledger_k55_points_over_greater_fiel).prog 82) (kwd := []) K55.ob_eq
    (by kernel_rfl) (fun s => by kernel_rfl) K55.run (by kernel_rfl) (by kernel_rfl) (by kernel_rfl) (by rfl) (by first | assumption | decide +kernel) (by decide +kernel) ⟨rfl, rfl, rfl, rfl, rfl, by decide +kernel⟩ ?hw ?hc
  case hw => w_witness2
  case hc =>
    refine PT.walk_end (l := PySem.Challenge.rw_classledger_k55_points_over_greater_fiel) (n := 63) (k := 11) (x := "script") rfl (by rw [sizeLine_eq]; decide) (by kernel_rfl) ⟨rfl, by decide, by decide⟩ ?F
    intro w mg fa h Y Gn hmg0
    obtain ⟨K, KX, c⟩ := Y
    have hmg : mg ("law" : PySem.Str) = some (.ref fa) := by
      have e : (HandSHeadRun.topDef (OpenLaw.row PySem.Challenge.rw_classledger_k55_points_over_greater_fiel).prog 82).name = ("law" : PySem.Str) := by kernel_rfl
      rw [← e]
      exact hmg0
    obtain ⟨f0, fd, hf0, hFd⟩ := (PT.HeadD.def_ (P := (PySem.Challenge.rw_classledger_k55_points_over_greater_fiel).prog) (w := w) (base := h) KX Gn c 33 rfl : PT.KDef _ "law" _)
    have e0 := hmg.symm.trans hf0
    cases e0
    have bnd := L2.FunD.bindsA (ps := ["script"]) hFd fun _ _ _ _ _ _ us hl => match us, hl with | [_], _ => rfl
    refine ⟨K, fd, PT.spF ⟨(PySem.Challenge.rw_classledger_k55_points_over_greater_fiel).prog, w, K, mg, h⟩ 1 K55.f_law, KX, fun s v => bnd s [v] rfl, fun H a ns hl hz hO hS => ?_, fun base _ _ => ?_⟩
    · exact PT.law_sp (N := 63) K55.law_holds H a ns hl hz hS
    · obtain ⟨fdI, fx⟩ := K55.facts (w := w) (base := base) KX Gn c
      have q := PT.fn_ok hFd K55.sc_law (n := 1) (m := 10) rfl rfl (K55.snd_law fx)
      rw [PT.spF_base (b' := h)] at q
      exact q
