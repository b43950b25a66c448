import PyProof.Rows.All
import Wide.All
import OpenK.AllK
import Wide.FinOn
import HandS.ForMost
import HandS.ForExc
import HandS.TupAny
import HandS.Wide
import HandS.Deep
import HandS.Flow
import KE.LtData
import KE.DataEq
import KE.DatumOrd
import HandS.NoneIn
import HandS.Small
import HandS.More
import KE.SortData
import KE.KDictSum
import KE.DataMinMax
import HandS.Conv
import HandS.IsInst
import HandS.WordsDict
import HandS.DictTup
import HandS.TupLen
import PyProof.P3Eq
import HandS.Zip
import HandS.Text
import KE.GoesEnum
import HandS.Style
import HandS.TupSets
import KE.KDictCopyH
import KE.KDictPairs
import HandS.TupLe
import PySem.Challenge.RW_shelfunion_k07_payments_judged
set_option Elab.async false
set_option linter.all false
set_option maxRecDepth 100000
set_option maxHeartbeats 4000000
namespace Mm
open PySem PySem.Spec L2
set_option autoImplicit false
abbrev PD := PyData
mutual
inductive Rp (F : Hp) : V → PD → Prop
  | non : Rp F .non .none
  | bl (b : Bool) : Rp F (.bl b) (.bool b)
  | int (i : Int) : Rp F (.int i) (.int i)
  | str (x : Str) : Rp F (.str x) (.str x)
  | lst {a : Addr} {xs : List V} {ds : List PD} : F a = some (.lst xs) → RpL F xs ds → Rp F (.ref a) (.list ds)
  | tup {a : Addr} {xs : List V} {ds : List PD} : F a = some (.tup xs) → RpL F xs ds → Rp F (.ref a) (.tuple ds)
inductive RpL (F : Hp) : List V → List PD → Prop
  | nil : RpL F [] []
  | cons {v : V} {vs : List V} {d : PD} {ds : List PD} : Rp F v d → RpL F vs ds → RpL F (v :: vs) (d :: ds)
end
mutual
theorem Rp.mono {F F' : Hp} (e : Same F F') : ∀ {v : V} {d : PD}, Rp F v d → Rp F' v d
  | _, _, .non => .non
  | _, _, .bl b => .bl b
  | _, _, .int i => .int i
  | _, _, .str x => .str x
  | _, _, .lst h r => .lst (e _ _ h) (RpL.mono e r)
  | _, _, .tup h r => .tup (e _ _ h) (RpL.mono e r)
theorem RpL.mono {F F' : Hp} (e : Same F F') : ∀ {vs : List V} {ds : List PD}, RpL F vs ds → RpL F' vs ds
  | _, _, .nil => .nil
  | _, _, .cons r rs => .cons (Rp.mono e r) (RpL.mono e rs)
end
section
variable {F F' : Hp}
theorem RpL.length : ∀ {vs : List V} {ds : List PD}, RpL F vs ds → vs.length = ds.length
  | _, _, .nil => rfl
  | _, _, .cons _ rs => congrArg (· + 1) (RpL.length rs)
theorem RpL.get : ∀ {vs : List V} {ds : List PD} {i : Nat} {v : V}, RpL F vs ds → vs[i]? = some v → ∃ d, ds[i]? = some d ∧ Rp F v d
  | _, _, _, _, .nil, e => by simp at e
  | _, _, 0, _, .cons r _, e => by simp at e; subst e; exact ⟨_, rfl, r⟩
  | _, _, i + 1, v, .cons _ rs, e => by
    obtain ⟨d, h1, h2⟩ := RpL.get (i := i) (v := v) rs (by simpa using e)
    exact ⟨d, by simpa using h1, h2⟩
theorem RpL.get' : ∀ {vs : List V} {ds : List PD} {i : Nat} {d : PD}, RpL F vs ds → ds[i]? = some d → ∃ v, vs[i]? = some v ∧ Rp F v d
  | _, _, _, _, .nil, e => by simp at e
  | _, _, 0, _, .cons r _, e => by simp at e; subst e; exact ⟨_, rfl, r⟩
  | _, _, i + 1, d, .cons _ rs, e => by
    obtain ⟨v, h1, h2⟩ := RpL.get' (i := i) (d := d) rs (by simpa using e)
    exact ⟨v, by simpa using h1, h2⟩
theorem RpL.append : ∀ {vs ws : List V} {ds es : List PD}, RpL F vs ds → RpL F ws es → RpL F (vs ++ ws) (ds ++ es)
  | _, _, _, _, .nil, s => s
  | _, _, _, _, .cons r rs, s => .cons r (RpL.append rs s)
theorem RpL.take : ∀ {vs : List V} {ds : List PD} (n : Nat), RpL F vs ds → RpL F (vs.take n) (ds.take n)
  | _, _, 0, _ => .nil
  | _, _, _ + 1, .nil => .nil
  | _, _, n + 1, .cons r rs => .cons r (RpL.take n rs)
theorem RpL.drop : ∀ {vs : List V} {ds : List PD} (n : Nat), RpL F vs ds → RpL F (vs.drop n) (ds.drop n)
  | _, _, 0, r => r
  | _, _, _ + 1, .nil => .nil
  | _, _, n + 1, .cons _ rs => RpL.drop n rs
theorem RpL.set : ∀ {vs : List V} {ds : List PD} (i : Nat) {v : V} {d : PD}, Rp F v d → RpL F vs ds → RpL F (vs.set i v) (ds.set i d)
  | _, _, _, _, _, _, .nil => .nil
  | _, _, 0, _, _, r, .cons _ rs => .cons r rs
  | _, _, i + 1, _, _, r, .cons q rs => .cons q (RpL.set i r rs)
theorem RpL.reverse : ∀ {vs : List V} {ds : List PD}, RpL F vs ds → RpL F vs.reverse ds.reverse
  | _, _, .nil => .nil
  | _, _, .cons r rs => by
    rw [List.reverse_cons, List.reverse_cons]
    exact (RpL.reverse rs).append (.cons r .nil)
end
inductive RpK {κ : Type} (F : Hp) : List (κ × V) → List (κ × PD) → Prop
  | nil : RpK F [] []
  | cons {k : κ} {v : V} {d : PD} {ws : List (κ × V)} {kvs : List (κ × PD)} : Rp F v d → RpK F ws kvs → RpK F ((k, v) :: ws) ((k, d) :: kvs)
theorem RpK.mono {κ : Type} {F F' : Hp} (e : Same F F') : ∀ {ws : List (κ × V)} {kvs : List (κ × PD)}, RpK F ws kvs → RpK F' ws kvs
  | _, _, .nil => .nil
  | _, _, .cons r rs => .cons (Rp.mono e r) (RpK.mono e rs)
theorem RpK.length {κ : Type} {F : Hp} : ∀ {ws : List (κ × V)} {kvs : List (κ × PD)}, RpK F ws kvs → ws.length = kvs.length
  | _, _, .nil => rfl
  | _, _, .cons _ rs => congrArg (· + 1) (RpK.length rs)
inductive S1 where
  | frz (d : PD) | lst (xs : List PD) | dK (kvs : List (Key × PD)) | dT (kvs : List (List Key × PD))
def Own1 (F H : Hp) (v : V) : S1 → List Addr → Prop
  | .frz d, O => O = [] ∧ Rp F v d
  | .lst xs, O => ∃ p vs, v = .ref p ∧ O = [p] ∧ H p = some (.lst vs) ∧ RpL F vs xs
  | .dK kvs, O => ∃ p ws, v = .ref p ∧ O = [p] ∧ H p = some (.dK ws) ∧ RpK F ws kvs
  | .dT kvs, O => ∃ p ws, v = .ref p ∧ O = [p] ∧ H p = some (.dT ws) ∧ RpK F ws kvs
inductive SV where
  | one (s : S1) | dic (fs : List (Str × S1)) | obj (C : Addr) (fs : List (Str × S1)) | lk (s : S1) | pt (ds : List PD)
/-- a dict that is locked: it is walked -/
def OwnL1 (F H : Hp) (p : Addr) (od : Obj) : S1 → Prop
  | .dK kvs => ∃ ws, H p = some (.frz od (.dK ws)) ∧ RpK F ws kvs
  | .dT kvs => ∃ ws, H p = some (.frz od (.dT ws)) ∧ RpK F ws kvs
  | _ => False
theorem OwnL1.mono {F F' H H' : Hp} {p : Addr} {od : Obj} {s : S1} (h : OwnL1 F H p od s) (ef : Same F F') (eh : ∀ o, H p = some o → H' p = some o) : OwnL1 F' H' p od s := by
  cases s with
  | dK kvs => obtain ⟨ws, h1, h2⟩ := h; exact ⟨ws, eh _ h1, h2.mono ef⟩
  | dT kvs => obtain ⟨ws, h1, h2⟩ := h; exact ⟨ws, eh _ h1, h2.mono ef⟩
  | _ => exact h.elim
theorem OwnL1.at {F H : Hp} {p : Addr} {od : Obj} {s : S1} (h : OwnL1 F H p od s) : ∃ u, H p = some (.frz od u) := by
  cases s with
  | dK kvs => obtain ⟨ws, h1, h2⟩ := h; exact ⟨_, h1⟩
  | dT kvs => obtain ⟨ws, h1, h2⟩ := h; exact ⟨_, h1⟩
  | _ => exact h.elim
inductive OwnF (F H : Hp) : List (Str × V) → List (Str × S1) → List Addr → Prop
  | nil : OwnF F H [] [] []
  | cons {f : Str} {v : V} {s : S1} {ws : List (Str × V)} {fs : List (Str × S1)} {O O' : List Addr} : Own1 F H v s O → OwnF F H ws fs O' → OwnF F H ((f, v) :: ws) ((f, s) :: fs) (O ++ O')
def Own (F H : Hp) (v : V) : SV → List Addr → Prop
  | .one s, O => Own1 F H v s O
  | .dic fs, O => ∃ p ws O', v = .ref p ∧ O = p :: O' ∧ H p = some (.dK (ws.map fun w => (Sum.inr w.1, w.2))) ∧ OwnF F H ws fs O'
  | .obj C fs, O => ∃ p dx ws O', v = .ref p ∧ O = p :: O' ∧ H p = some (.ins C dx ws) ∧ OwnF F H ws fs O'
  | .lk s, O => ∃ p od, v = .ref p ∧ O = [p] ∧ OwnL1 F H p od s
  | .pt ds, O => O = [] ∧ ∃ a xs od, v = .ref a ∧ F a = some (.frz od (.tup xs)) ∧ od.dict = none ∧ RpL F xs ds
theorem Own1.mono {F F' H H' : Hp} {v : V} {s : S1} {O : List Addr} (h : Own1 F H v s O) (ef : Same F F') (eh : ∀ p ∈ O, ∀ o, H p = some o → H' p = some o) : Own1 F' H' v s O := by
  cases s with
  | frz d => exact ⟨h.1, h.2.mono ef⟩
  | lst xs =>
    obtain ⟨p, vs, rfl, rfl, e, r⟩ := h
    exact ⟨p, vs, rfl, rfl, eh p (by simp) _ e, r.mono ef⟩
  | dK kvs =>
    obtain ⟨p, vs, rfl, rfl, e, r⟩ := h
    exact ⟨p, vs, rfl, rfl, eh p (by simp) _ e, r.mono ef⟩
  | dT kvs =>
    obtain ⟨p, vs, rfl, rfl, e, r⟩ := h
    exact ⟨p, vs, rfl, rfl, eh p (by simp) _ e, r.mono ef⟩
theorem OwnF.mono {F F' H H' : Hp} (ef : Same F F') : ∀ {ws : List (Str × V)} {fs : List (Str × S1)} {O : List Addr}, OwnF F H ws fs O → (∀ p ∈ O, ∀ o, H p = some o → H' p = some o) → OwnF F' H' ws fs O
  | _, _, _, .nil, _ => .nil
  | _, _, _, .cons h r, eh => .cons (h.mono ef fun p hp => eh p (List.mem_append_left _ hp)) (OwnF.mono ef r fun p hp => eh p (List.mem_append_right _ hp))
theorem Own.mono {F F' H H' : Hp} {v : V} {s : SV} {O : List Addr} (h : Own F H v s O) (ef : Same F F') (eh : ∀ p ∈ O, ∀ o, H p = some o → H' p = some o) : Own F' H' v s O := by
  cases s with
  | one s => exact Own1.mono h ef eh
  | dic fs =>
    obtain ⟨p, ws, O', rfl, rfl, e, r⟩ := h
    exact ⟨p, ws, O', rfl, rfl, eh p (by simp) _ e, r.mono ef fun q hq => eh q (by simp [hq])⟩
  | obj C fs =>
    obtain ⟨p, dx, ws, O', rfl, rfl, e, r⟩ := h
    exact ⟨p, dx, ws, O', rfl, rfl, eh p (by simp) _ e, r.mono ef fun q hq => eh q (by simp [hq])⟩
  | lk s =>
    obtain ⟨p, od, rfl, rfl, r⟩ := h
    exact ⟨p, od, rfl, rfl, r.mono ef (eh p (by simp))⟩
  | pt ds =>
    obtain ⟨rfl, a, xs, od, rfl, e, hd, r⟩ := h
    exact ⟨rfl, a, xs, od, rfl, ef _ _ e, hd, r.mono ef⟩
theorem Own1.there {F H : Hp} {v : V} {s : S1} {O : List Addr} (h : Own1 F H v s O) : ∀ p ∈ O, H p ≠ none := by
  intro p hp
  cases s with
  | frz d => rw [h.1] at hp; cases hp
  | lst xs =>
    obtain ⟨q, vs, rfl, rfl, e, r⟩ := h
    rw [List.mem_singleton.mp hp, e]; simp
  | dK kvs =>
    obtain ⟨q, vs, rfl, rfl, e, r⟩ := h
    rw [List.mem_singleton.mp hp, e]; simp
  | dT kvs =>
    obtain ⟨q, vs, rfl, rfl, e, r⟩ := h
    rw [List.mem_singleton.mp hp, e]; simp
theorem OwnF.there {F H : Hp} : ∀ {ws : List (Str × V)} {fs : List (Str × S1)} {O : List Addr}, OwnF F H ws fs O → ∀ p ∈ O, H p ≠ none
  | _, _, _, .nil, _, hp => by cases hp
  | _, _, _, .cons h r, p, hp => (List.mem_append.mp hp).elim (h.there p) (OwnF.there r p)
/-- nothing was there, or a tuple -/
def Nw (H : Hp) (p : Addr) : Prop := H p = none ∨ ∃ vs, H p = some (.tup vs)
theorem Own1.nw {F H : Hp} {v : V} {s : S1} {O : List Addr} (h : Own1 F H v s O) : ∀ p ∈ O, ¬ Nw H p := by
  intro p hp
  cases s with
  | frz d => rw [h.1] at hp; cases hp
  | lst xs =>
    obtain ⟨q, vs, rfl, rfl, e, r⟩ := h
    rw [List.mem_singleton.mp hp]; rintro (z | ⟨us, z⟩) <;> rw [e] at z <;> cases z
  | dK kvs =>
    obtain ⟨q, vs, rfl, rfl, e, r⟩ := h
    rw [List.mem_singleton.mp hp]; rintro (z | ⟨us, z⟩) <;> rw [e] at z <;> cases z
  | dT kvs =>
    obtain ⟨q, vs, rfl, rfl, e, r⟩ := h
    rw [List.mem_singleton.mp hp]; rintro (z | ⟨us, z⟩) <;> rw [e] at z <;> cases z
theorem OwnF.nw {F H : Hp} : ∀ {ws : List (Str × V)} {fs : List (Str × S1)} {O : List Addr}, OwnF F H ws fs O → ∀ p ∈ O, ¬ Nw H p
  | _, _, _, .nil, _, hp => by cases hp
  | _, _, _, .cons h r, p, hp => (List.mem_append.mp hp).elim (h.nw p) (OwnF.nw r p)
theorem Own.nw {F H : Hp} {v : V} {s : SV} {O : List Addr} (h : Own F H v s O) : ∀ p ∈ O, ¬ Nw H p := by
  intro p hp
  cases s with
  | one s => exact Own1.nw h p hp
  | dic fs =>
    obtain ⟨q, ws, O', rfl, rfl, e, r⟩ := h
    rcases List.mem_cons.mp hp with z | z
    · rw [z]; rintro (z | ⟨us, z⟩) <;> rw [e] at z <;> cases z
    · exact r.nw p z
  | obj C fs =>
    obtain ⟨q, dx, ws, O', rfl, rfl, e, r⟩ := h
    rcases List.mem_cons.mp hp with z | z
    · rw [z]; rintro (z | ⟨us, z⟩) <;> rw [e] at z <;> cases z
    · exact r.nw p z
  | lk s =>
    obtain ⟨q, od, rfl, rfl, r⟩ := h
    obtain ⟨u, e⟩ := r.at
    rw [List.mem_singleton.mp hp]; rintro (z | ⟨us, z⟩) <;> rw [e] at z <;> cases z
  | pt ds => rw [h.1] at hp; cases hp
theorem Own.there {F H : Hp} {v : V} {s : SV} {O : List Addr} (h : Own F H v s O) : ∀ p ∈ O, H p ≠ none := by
  intro p hp
  cases s with
  | one s => exact Own1.there h p hp
  | dic fs =>
    obtain ⟨q, ws, O', rfl, rfl, e, r⟩ := h
    rcases List.mem_cons.mp hp with z | z
    · rw [z, e]; simp
    · exact r.there p z
  | obj C fs =>
    obtain ⟨q, dx, ws, O', rfl, rfl, e, r⟩ := h
    rcases List.mem_cons.mp hp with z | z
    · rw [z, e]; simp
    · exact r.there p z
  | lk s =>
    obtain ⟨q, od, rfl, rfl, r⟩ := h
    obtain ⟨u, e⟩ := r.at
    rw [List.mem_singleton.mp hp, e]; simp
  | pt ds => rw [h.1] at hp; cases hp
abbrev Env := List (Option SV)
abbrev Ad := Nat → List Addr
structure Rel (F H : Hp) (σ : L2.St) (ρ : Env) (A : Ad) : Prop where
  sub : Same F H
  len : ρ.length = σ.length
  own : ∀ (i : Nat) (sv : SV), ρ[i]? = some (some sv) → ∃ v, σ[i]? = some (some v) ∧ Own F H v sv (A i)
  off : ∀ (i : Nat), (∀ sv, ρ[i]? ≠ some (some sv)) → A i = []
  free : ∀ (i : Nat) (p : Addr), p ∈ A i → F p = none
  dis : ∀ (i j : Nat) (p : Addr), p ∈ A i → p ∈ A j → i = j
  nd : ∀ i : Nat, (A i).Nodup
structure Ext (F H : Hp) (A : Ad) (F' H' : Hp) (A' : Ad) : Prop where
  f : Same F F'
  h : ∀ p o, H p = some o → (∀ i, p ∉ A i) → H' p = some o
  new : ∀ p, F' p ≠ none → F p ≠ none ∨ Nw H p ∨ ∃ i, p ∈ A i
  ow : ∀ i p, p ∈ A' i → (∃ j, p ∈ A j) ∨ H p = none
  dom : ∀ p, H p ≠ none → H' p ≠ none
theorem Ext.refl (F H : Hp) (A : Ad) : Ext F H A F H A := ⟨Same.refl F, fun _ _ e _ => e, fun _ h => .inl h, fun i _ h => .inl ⟨i, h⟩, fun _ h => h⟩
theorem some_of_ne {α : Type} {o : Option α} (h : o ≠ none) : ∃ x, o = some x := by
  cases o with
  | none => exact absurd rfl h
  | some x => exact ⟨x, rfl⟩
theorem Ext.trans {F H F1 H1 F2 H2 : Hp} {A A1 A2 : Ad} (a : Ext F H A F1 H1 A1) (b : Ext F1 H1 A1 F2 H2 A2) : Ext F H A F2 H2 A2 where
  f := a.f.trans b.f
  h := fun p o e n => b.h p o (a.h p o e n) fun i hi => by
    rcases a.ow i p hi with ⟨j, hj⟩ | z
    · exact n j hj
    · rw [e] at z; cases z
  new := fun p h => by
    rcases b.new p h with h | h | ⟨i, h⟩
    · exact a.new p h
    · refine .inr ?_
      by_cases z : H p = none
      · exact .inl (.inl z)
      · by_cases y : ∃ i, p ∈ A i
        · exact .inr y
        · obtain ⟨o, e⟩ := some_of_ne z
          have e' := a.h p o e fun i hi => y ⟨i, hi⟩
          rcases h with h | ⟨vs, h⟩
          · rw [e'] at h; cases h
          · rw [e'] at h; cases h; exact .inl (.inr ⟨vs, e⟩)
    · rcases a.ow i p h with h | h
      · exact .inr (.inr h)
      · exact .inr (.inl (.inl h))
  ow := fun i p h => by
    rcases b.ow i p h with ⟨j, h⟩ | h
    · exact a.ow j p h
    · by_cases z : H p = none
      · exact .inr z
      · exact absurd h (a.dom p z)
  dom := fun p h => b.dom p (a.dom p h)
/-- nothing owned is touched, new things stand still -/
structure PureX (F H F' H' : Hp) : Prop where
  f : Same F F'
  h : Same H H'
  sub : Same F' H'
  new : ∀ p, F' p ≠ none → F p ≠ none ∨ Nw H p
theorem PureX.refl {F H : Hp} (s : Same F H) : PureX F H F H := ⟨Same.refl F, Same.refl H, s, fun _ h => .inl h⟩
theorem PureX.trans {F H F1 H1 F2 H2 : Hp} (a : PureX F H F1 H1) (b : PureX F1 H1 F2 H2) : PureX F H F2 H2 where
  f := a.f.trans b.f
  h := a.h.trans b.h
  sub := b.sub
  new := fun p h => by
    rcases b.new p h with h | h
    · exact a.new p h
    · rcases h with h | ⟨vs, h⟩
      · exact .inr (.inl (a.h.free h))
      · cases e : H p with
        | none => exact .inr (.inl e)
        | some o =>
          have e' := a.h p o e
          rw [h] at e'
          cases e'
          exact .inr (.inr ⟨vs, e⟩)
theorem PureX.ext {F H F' H' : Hp} (a : PureX F H F' H') (A : Ad) : Ext F H A F' H' A where
  f := a.f
  h := fun p o e _ => a.h p o e
  new := fun p h => (a.new p h).imp id .inl
  ow := fun i p h => .inl ⟨i, h⟩
  dom := fun p h => by
    obtain ⟨o, e⟩ := some_of_ne h
    rw [a.h p o e]; simp
theorem Rel.there {F H : Hp} {σ : L2.St} {ρ : Env} {A : Ad} (r : Rel F H σ ρ A) {i : Nat} {p : Addr} (h : p ∈ A i) : H p ≠ none := by
  cases e : ρ[i]? with
  | none => rw [r.off i (fun sv z => by rw [e] at z; cases z)] at h; cases h
  | some o =>
    cases o with
    | none => rw [r.off i (fun sv z => by rw [e] at z; cases z)] at h; cases h
    | some sv =>
      obtain ⟨v, _, q⟩ := r.own i sv e
      exact q.there p h
theorem Rel.nw {F H : Hp} {σ : L2.St} {ρ : Env} {A : Ad} (r : Rel F H σ ρ A) {i : Nat} {p : Addr} (h : p ∈ A i) : ¬ Nw H p := by
  cases e : ρ[i]? with
  | none => rw [r.off i (fun sv z => by rw [e] at z; cases z)] at h; cases h
  | some o =>
    cases o with
    | none => rw [r.off i (fun sv z => by rw [e] at z; cases z)] at h; cases h
    | some sv =>
      obtain ⟨v, _, q⟩ := r.own i sv e
      exact q.nw p h
theorem Rel.pure {F H F' H' : Hp} {σ : L2.St} {ρ : Env} {A : Ad} (r : Rel F H σ ρ A) (x : PureX F H F' H') : Rel F' H' σ ρ A where
  sub := x.sub
  len := r.len
  own := fun i sv e => by
    obtain ⟨v, h1, h2⟩ := r.own i sv e
    exact ⟨v, h1, h2.mono x.f fun p _ o q => x.h p o q⟩
  off := r.off
  free := fun i p h => by
    by_cases z : F' p = none
    · exact z
    · rcases x.new p z with q | q
      · exact absurd (r.free i p h) q
      · exact absurd q (r.nw h)
  dis := r.dis
  nd := r.nd
/-- old: a thing that stands still, or one read where it is owned; new: a thing that nobody else holds -/
inductive Res where
  | old (s : S1) | new (s : SV)
def PRes (F' H' H : Hp) (z : V) : Res → Prop
  | .old s => ∃ O, Own1 F' H' z s O
  | .new sv => ∃ O, Own F' H' z sv O ∧ O.Nodup ∧ ∀ p ∈ O, H p = none ∧ F' p = none
def GRes (H : Hp) (A : Ad) (F' H' : Hp) (A' : Ad) (z : V) : Res → Prop
  | .old (.frz d) => Rp F' z d
  | .old _ => False
  | .new sv => ∃ O, Own F' H' z sv O ∧ O.Nodup ∧ ∀ p ∈ O, F' p = none ∧ (∀ i, p ∉ A' i) ∧ ((∃ j, p ∈ A j) ∨ H p = none)
theorem GRes.back {F H F1 H1 F2 H2 : Hp} {A A1 A2 : Ad} (a : Ext F H A F1 H1 A1) {z : V} {r : Res} (h : GRes H1 A1 F2 H2 A2 z r) : GRes H A F2 H2 A2 z r := by
  cases r with
  | old s => cases s <;> exact h
  | new sv =>
    obtain ⟨O, h1, h2, h3⟩ := h
    refine ⟨O, h1, h2, fun p hp => ?_⟩
    obtain ⟨q1, q2, q3⟩ := h3 p hp
    refine ⟨q1, q2, ?_⟩
    rcases q3 with ⟨j, q⟩ | q
    · exact a.ow j p q
    · by_cases z : H p = none
      · exact .inr z
      · exact absurd q (a.dom p z)
/-- an exception: its class's name, its one field -/
structure EX where
  cls : Str
  fld : Option (Str × PD)
inductive Out (α : Type) where
  | stuck | ok (a : α) | exc (x : EX) (ρ : Env)
inductive Fl where
  | nx | rt (r : Res) | bk | ct
def XD (F' H' : Hp) : Option Addr → Option (Str × PD) → Prop
  | none, none => True
  | some d, some (f, x) => ∃ v, H' d = some (.xd [(f, v)]) ∧ Rp F' v x
  | _, _ => False
abbrev XW := Value → Option Addr → Hp → Prop
/-- where an exception is wished for: the class stands at the module's name -/
def XPost (mg : Str → Option Value) (E : XW) (F H : Hp) (σ : L2.St) (A : Ad) (x : EX) (ρ' : Env) : Prop :=
  ∀ C d F' H' A', mg x.cls = some (.ref C) → Rel F' H' σ ρ' A' → Ext F H A F' H' A' → XD F' H' d x.fld → E (.ref C) d H'
def GPost (mg : Str → Option Value) (E : XW) (F H : Hp) (σ : L2.St) (A : Ad) (Q : VK) : Out (Res × Env) → Prop
  | .stuck => False
  | .ok (r, ρ') => ∀ z F' H' A', Rel F' H' σ ρ' A' → Ext F H A F' H' A' → GRes H A F' H' A' z r → Q z H'
  | .exc x ρ' => XPost mg E F H σ A x ρ'
def TPost (mg : Str → Option Value) (E : XW) (F H : Hp) (σ : L2.St) (A : Ad) (Q : Bool → Hp → Prop) : Out (Bool × Env) → Prop
  | .stuck => False
  | .ok (b, ρ') => ∀ F' H' A', Rel F' H' σ ρ' A' → Ext F H A F' H' A' → Q b H'
  | .exc x ρ' => XPost mg E F H σ A x ρ'
/-- the slots that hold what a caller owns -/
def Pin (S : List Nat) (σ σ' : L2.St) : Prop := ∀ i ∈ S, σ'[i]? = σ[i]?
theorem Pin.refl (S : List Nat) (σ : L2.St) : Pin S σ σ := fun _ _ => rfl
theorem Pin.trans {S : List Nat} {σ σ1 σ2 : L2.St} (a : Pin S σ σ1) (b : Pin S σ1 σ2) : Pin S σ σ2 := fun i h => (b i h).trans (a i h)
def SPost (mg : Str → Option Value) (E : XW) (S : List Nat) (F H : Hp) (σ : L2.St) (A : Ad) (D : Ends) : Out (Fl × Env) → Prop
  | .stuck => False
  | .ok (.nx, ρ') => ∀ σ' F' H' A', Rel F' H' σ' ρ' A' → Ext F H A F' H' A' → Pin S σ σ' → D.nx σ' H'
  | .ok (.bk, ρ') => ∀ σ' F' H' A', Rel F' H' σ' ρ' A' → Ext F H A F' H' A' → Pin S σ σ' → D.bk σ' H'
  | .ok (.ct, ρ') => ∀ σ' F' H' A', Rel F' H' σ' ρ' A' → Ext F H A F' H' A' → Pin S σ σ' → D.ct σ' H'
  | .ok (.rt r, ρ') => ∀ z σ' F' H' A', Rel F' H' σ' ρ' A' → Ext F H A F' H' A' → Pin S σ σ' → GRes H A F' H' A' z r → D.rt z H'
  | .exc x ρ' => ∀ σ' F1 H1 A1, Ext F H A F1 H1 A1 → Pin S σ σ' → XPost mg E F1 H1 σ' A1 x ρ'
section
variable {mg : Str → Option Value} {E : XW} {S : List Nat} {F H F1 H1 : Hp} {σ σ1 : L2.St} {A A1 : Ad}
theorem XPost.ext {x : EX} {ρ' : Env} (h : XPost mg E F H σ A x ρ') (a : Ext F H A F1 H1 A1) : XPost mg E F1 H1 σ A1 x ρ' :=
  fun C d F' H' A' e r b q => h C d F' H' A' e r (a.trans b) q
theorem GPost.ext {Q : VK} {o : Out (Res × Env)} (h : GPost mg E F H σ A Q o) (a : Ext F H A F1 H1 A1) : GPost mg E F1 H1 σ A1 Q o := by
  cases o with
  | stuck => exact h
  | ok q => exact fun z F' H' A' r b g => h z F' H' A' r (a.trans b) (g.back a)
  | exc x ρ' => exact XPost.ext h a
theorem TPost.ext {Q : Bool → Hp → Prop} {o : Out (Bool × Env)} (h : TPost mg E F H σ A Q o) (a : Ext F H A F1 H1 A1) : TPost mg E F1 H1 σ A1 Q o := by
  cases o with
  | stuck => exact h
  | ok q => exact fun F' H' A' r b => h F' H' A' r (a.trans b)
  | exc x ρ' => exact XPost.ext h a
theorem SPost.ext {D : Ends} {o : Out (Fl × Env)} (h : SPost mg E S F H σ A D o) (a : Ext F H A F1 H1 A1) (pn : Pin S σ σ1) : SPost mg E S F1 H1 σ1 A1 D o := by
  cases o with
  | stuck => exact h
  | ok q =>
    obtain ⟨f, ρ'⟩ := q
    cases f with
    | nx => exact fun σ' F' H' A' r b p => h σ' F' H' A' r (a.trans b) (pn.trans p)
    | bk => exact fun σ' F' H' A' r b p => h σ' F' H' A' r (a.trans b) (pn.trans p)
    | ct => exact fun σ' F' H' A' r b p => h σ' F' H' A' r (a.trans b) (pn.trans p)
    | rt r => exact fun z σ' F' H' A' r b p g => h z σ' F' H' A' r (a.trans b) (pn.trans p) (g.back a)
  | exc x ρ' => exact fun σ' F2 H2 A2 b p => h σ' F2 H2 A2 (a.trans b) (pn.trans p)
end
/-- an expression that changes nothing owned -/
def PX (X : Cx) (e : Expr) (p : Env → Option Res) : Prop :=
  ∃ t, PE X e t ∧ ∀ F H σ ρ A r, Rel F H σ ρ A → p ρ = some r → ∀ Q : VK, (∀ z F' H', PureX F H F' H' → PRes F' H' H z r → Q z H') → t σ H Q
def GX (X : Cx) (E : XW) (e : Expr) (g : Env → Out (Res × Env)) : Prop :=
  ∃ t, PE X e t ∧ ∀ F H σ ρ A, Rel F H σ ρ A → ∀ Q : VK, GPost X.mg E F H σ A Q (g ρ) → t σ H Q
def TX (X : Cx) (E : XW) (e : Expr) (g : Env → Out (Bool × Env)) : Prop :=
  ∃ t, PT X e t ∧ ∀ F H σ ρ A, Rel F H σ ρ A → ∀ Q : Bool → Hp → Prop, TPost X.mg E F H σ A Q (g ρ) → t σ H Q
def MS (X : Cx) (E : XW) (S : List Nat) (s : Stmt) (g : Env → Out (Fl × Env)) : Prop :=
  ∃ t, PS X s t ∧ ∀ F H σ ρ A, Rel F H σ ρ A → ∀ D : Ends, SPost X.mg E S F H σ A D (g ρ) → t D σ H
def MSs (X : Cx) (E : XW) (S : List Nat) (s : List Stmt) (g : Env → Out (Fl × Env)) : Prop :=
  ∃ t, PSs X s t ∧ ∀ F H σ ρ A, Rel F H σ ρ A → ∀ D : Ends, SPost X.mg E S F H σ A D (g ρ) → t D σ H
def mSeq (g1 g2 : Env → Out (Fl × Env)) : Env → Out (Fl × Env) := fun ρ => match g1 ρ with
  | .ok (.nx, ρ') => g2 ρ'
  | o => o
def mNop : Env → Out (Fl × Env) := fun ρ => .ok (.nx, ρ)
section
variable {X : Cx} {E : XW} {S : List Nat}
theorem ms_nil : MSs X E S [] mNop := ⟨_, pss_nil, fun F H σ ρ A r D h => h σ F H A r (Ext.refl F H A) (Pin.refl S σ)⟩
theorem ms_one {s : Stmt} {g : Env → Out (Fl × Env)} (h : MS X E S s g) : MSs X E S [s] g := let ⟨t, ht, q⟩ := h; ⟨t, pss_one ht, q⟩
theorem ms_cons {s : Stmt} {ss : List Stmt} {g1 g2 : Env → Out (Fl × Env)} (h1 : MS X E S s g1) (h2 : MSs X E S ss g2) : MSs X E S (s :: ss) (mSeq g1 g2) := by
  obtain ⟨t1, p1, q1⟩ := h1
  obtain ⟨t2, p2, q2⟩ := h2
  refine ⟨_, pss_cons p1 p2, fun F H σ ρ A r D h => ?_⟩
  refine q1 F H σ ρ A r _ ?_
  unfold mSeq at h
  generalize g1 ρ = o at h
  cases o with
  | stuck => exact h
  | exc x ρ' => exact h
  | ok q =>
    obtain ⟨f, ρ'⟩ := q
    cases f with
    | nx => exact fun σ' F' H' A' r' a pn => q2 F' H' σ' ρ' A' r' D (h.ext a pn)
    | bk => exact h
    | ct => exact h
    | rt r => exact h
end
end Mm
namespace Mm
open PySem PySem.Spec L2
set_option autoImplicit false
def S1.val : S1 → Option PD
  | .frz d => some d
  | _ => none
/-- the thing, whoever holds it -/
def Res.s1 : Res → Option S1
  | .old s => some s
  | .new (.one s) => some s
  | _ => none
theorem PRes.s1 {F H H0 : Hp} {z : V} {r : Res} {s : S1} (h : PRes F H H0 z r) (e : r.s1 = some s) : ∃ O, Own1 F H z s O := by
  cases r with
  | old s' => cases e; exact h
  | new sv =>
    cases sv with
    | one s' => cases e; obtain ⟨O, h1, _⟩ := h; exact ⟨O, h1⟩
    | dic _ => cases e
    | obj _ _ => cases e
    | lk _ => cases e
    | pt _ => cases e
/-- what may go on: no borrowed thing -/
def lift : Option Res → Env → Out (Res × Env)
  | some (.old (.frz d)), ρ => .ok (.old (.frz d), ρ)
  | some (.new s), ρ => .ok (.new s, ρ)
  | _, _ => .stuck
theorem lift_post {mg : Str → Option Value} {E : XW} {F H : Hp} {σ : L2.St} {A : Ad} {Q : VK} {r : Res} {ρ : Env} {F' H' : Hp} {z : V} (R : Rel F H σ ρ A) (h : GPost mg E F H σ A Q (lift (some r) ρ)) (x : PureX F H F' H') (p : PRes F' H' H z r) : Q z H' := by
  have R' := R.pure x
  cases r with
  | old s =>
    cases s with
    | frz d =>
      obtain ⟨O, h1, h2⟩ := p
      exact h z F' H' A R' (x.ext A) h2
    | _ => exact h.elim
  | new sv =>
    obtain ⟨O, h1, h2, h3⟩ := p
    refine h z F' H' A R' (x.ext A) ⟨O, h1, h2, fun q hq => ⟨(h3 q hq).2, fun i hi => ?_, .inr (h3 q hq).1⟩⟩
    exact R.there hi (h3 q hq).1
def gPx (p : Env → Option Res) : Env → Out (Res × Env) := fun ρ => lift (p ρ) ρ
section
variable {X : Cx} {E : XW} {e : Expr}
theorem gx_px {p : Env → Option Res} (h : PX X e p) : GX X E e (gPx p) := by
  obtain ⟨t, pe, q⟩ := h
  refine ⟨t, pe, fun F H σ ρ A R Q hp => ?_⟩
  unfold gPx at hp
  cases e : p ρ with
  | none => rw [e] at hp; exact hp.elim
  | some r =>
    rw [e] at hp
    exact q F H σ ρ A r R e Q fun z F' H' x pr => lift_post R hp x pr
end
def VPost (mg : Str → Option Value) (E : XW) (F H : Hp) (σ : L2.St) (A : Ad) (Q : VK) : Out (PD × Env) → Prop
  | .stuck => False
  | .ok (d, ρ') => ∀ z F' H' A', Rel F' H' σ ρ' A' → Ext F H A F' H' A' → Rp F' z d → Q z H'
  | .exc x ρ' => XPost mg E F H σ A x ρ'
def VX (X : Cx) (E : XW) (e : Expr) (g : Env → Out (PD × Env)) : Prop :=
  ∃ t, PE X e t ∧ ∀ F H σ ρ A, Rel F H σ ρ A → ∀ Q : VK, VPost X.mg E F H σ A Q (g ρ) → t σ H Q
def addF (F H : Hp) (O : List Addr) : Hp := fun p => if p ∈ O then H p else F p
theorem addF_same {F H : Hp} {O : List Addr} (h : ∀ p ∈ O, F p = none) : Same F (addF F H O) := fun p o e => by
  unfold addF
  by_cases q : p ∈ O
  · rw [h p q] at e; cases e
  · rw [if_neg q]; exact e
theorem addF_sub {F H : Hp} {O : List Addr} (s : Same F H) : Same (addF F H O) H := fun p o e => by
  unfold addF at e
  by_cases q : p ∈ O
  · rw [if_pos q] at e; exact e
  · rw [if_neg q] at e; exact s p o e
theorem addF_in {F H : Hp} {O : List Addr} {p : Addr} {o : HO} (h : p ∈ O) (e : H p = some o) : addF F H O p = some o := by
  unfold addF; rw [if_pos h]; exact e
/-- the data that a thing holds, if it can stand still -/
def S1.pd : S1 → Option PD
  | .frz d => some d
  | .lst xs => some (.list xs)
  | _ => none
theorem Own1.freeze {F H : Hp} {z : V} {s : S1} {O : List Addr} {d : PD} (h : Own1 F H z s O) (e : s.pd = some d) (hf : ∀ p ∈ O, F p = none) : Rp (addF F H O) z d := by
  cases s with
  | frz d' =>
    cases e
    exact h.2.mono (addF_same hf)
  | lst xs =>
    cases e
    obtain ⟨p, vs, rfl, rfl, q, r⟩ := h
    exact .lst (addF_in (by simp) q) (r.mono (addF_same hf))
  | dK _ => cases e
  | dT _ => cases e
def frzR : Out (Res × Env) → Out (PD × Env)
  | .ok (r, ρ) => match r.s1.bind S1.pd with
    | some d => .ok (d, ρ)
    | none => .stuck
  | .stuck => .stuck
  | .exc x ρ => .exc x ρ
def vGx (g : Env → Out (Res × Env)) : Env → Out (PD × Env) := fun ρ => frzR (g ρ)
theorem Rel.frozen {F H : Hp} {σ : L2.St} {ρ : Env} {A : Ad} {O : List Addr} (R : Rel F H σ ρ A) (hf : ∀ p ∈ O, F p = none) (hA : ∀ p ∈ O, ∀ i, p ∉ A i) : Rel (addF F H O) H σ ρ A where
  sub := addF_sub R.sub
  len := R.len
  own := fun i sv e => by
    obtain ⟨v, h1, h2⟩ := R.own i sv e
    exact ⟨v, h1, h2.mono (addF_same hf) fun _ _ _ q => q⟩
  off := R.off
  free := fun i p h => by
    unfold addF
    rw [if_neg fun q => hA p q i h]
    exact R.free i p h
  dis := R.dis
  nd := R.nd
section
variable {X : Cx} {E : XW} {e : Expr}
theorem frzR_post {mg : Str → Option Value} {F H : Hp} {σ : L2.St} {A : Ad} {Q : VK} {o : Out (Res × Env)} (h : VPost mg E F H σ A Q (frzR o)) : GPost mg E F H σ A Q o := by
  cases o with
  | stuck => exact h
  | exc x ρ' => exact h
  | ok q =>
    obtain ⟨r, ρ'⟩ := q
    intro z F' H' A' R a g
    unfold frzR at h
    cases r with
    | old s =>
      cases s with
      | frz d => exact h z F' H' A' R a g
      | _ => exact g.elim
    | new sv =>
      cases sv with
      | one s =>
        obtain ⟨O, h1, h2, h3⟩ := g
        cases hd : s.pd with
        | none =>
          have h : VPost mg E F H σ A Q (match ((Res.new (.one s)).s1.bind S1.pd) with | some d => .ok (d, ρ') | none => .stuck) := h
          rw [show (Res.new (.one s)).s1.bind S1.pd = s.pd from rfl, hd] at h
          exact h.elim
        | some d =>
          have h : VPost mg E F H σ A Q (match ((Res.new (.one s)).s1.bind S1.pd) with | some d => .ok (d, ρ') | none => .stuck) := h
          rw [show (Res.new (.one s)).s1.bind S1.pd = s.pd from rfl, hd] at h
          have hf : ∀ p ∈ O, F' p = none := fun p hp => (h3 p hp).1
          refine h z (addF F' H' O) H' A' (R.frozen hf fun p hp => (h3 p hp).2.1) ⟨a.f.trans (addF_same hf), a.h, fun p hp => ?_, a.ow, a.dom⟩ (h1.freeze hd hf)
          unfold addF at hp
          by_cases q : p ∈ O
          · exact .inr ((h3 p q).2.2.symm.imp .inl id)
          · rw [if_neg q] at hp; exact a.new p hp
      | dic _ => exact h.elim
      | obj _ _ => exact h.elim
      | lk _ => exact h.elim
      | pt _ => exact h.elim
theorem vx_gx {g : Env → Out (Res × Env)} (h : GX X E e g) : VX X E e (vGx g) := by
  obtain ⟨t, pe, q⟩ := h
  exact ⟨t, pe, fun F H σ ρ A R Q hp => q F H σ ρ A R Q (frzR_post hp)⟩
/-- the result of a value's expression, as a result -/
def gVx (g : Env → Out (PD × Env)) : Env → Out (Res × Env) := fun ρ => match g ρ with
  | .ok (d, ρ') => .ok (.old (.frz d), ρ')
  | .stuck => .stuck
  | .exc x ρ' => .exc x ρ'
theorem gx_vx {g : Env → Out (PD × Env)} (h : VX X E e g) : GX X E e (gVx g) := by
  obtain ⟨t, pe, q⟩ := h
  refine ⟨t, pe, fun F H σ ρ A R Q hp => q F H σ ρ A R Q ?_⟩
  unfold gVx at hp
  cases e : g ρ with
  | stuck => rw [e] at hp; exact hp
  | exc x ρ' => rw [e] at hp; exact hp
  | ok q => rw [e] at hp; exact fun z F' H' A' r a g => hp z F' H' A' r a g
end
def pVar (i : Nat) : Env → Option Res := fun ρ => match ρ[i]? with
  | some (some (.one s)) => some (.old s)
  | _ => none
def pK (d : PD) : Env → Option Res := fun _ => some (.old (.frz d))
/-- a slot's list stands still from now on -/
def vSlot (i : Nat) : Env → Out (PD × Env) := fun ρ => match ρ[i]? with
  | some (some (.one (.frz d))) => .ok (d, ρ)
  | some (some (.one (.lst xs))) => .ok (.list xs, ρ.set i (some (.one (.frz (.list xs)))))
  | _ => .stuck
theorem Rel.set_frz {F H : Hp} {σ : L2.St} {ρ : Env} {A : Ad} (R : Rel F H σ ρ A) {i : Nat} {v : V} {d : PD} (hi : i < σ.length) (r : Rp F v d) : Rel F H (σ.set i (some v)) (ρ.set i (some (.one (.frz d)))) (fun j => if j = i then [] else A j) where
  sub := R.sub
  len := by rw [List.length_set, List.length_set]; exact R.len
  own := fun j sv e => by
    by_cases hj : j = i
    · subst hj
      rw [List.getElem?_set_self (by rw [R.len]; exact hi)] at e
      cases e
      exact ⟨v, by rw [List.getElem?_set_self hi], by rw [if_pos rfl]; exact ⟨rfl, r⟩⟩
    · rw [List.getElem?_set_ne (Ne.symm hj)] at e
      obtain ⟨u, h1, h2⟩ := R.own j sv e
      exact ⟨u, by rw [List.getElem?_set_ne (Ne.symm hj)]; exact h1, by rw [if_neg hj]; exact h2⟩
  off := fun j h => by
    by_cases hj : j = i
    · rw [if_pos hj]
    · rw [if_neg hj]
      exact R.off j fun sv z => h sv (by rw [List.getElem?_set_ne (Ne.symm hj)]; exact z)
  free := fun j p h => by
    by_cases hj : j = i
    · rw [if_pos hj] at h; cases h
    · rw [if_neg hj] at h; exact R.free j p h
  dis := fun j k p h1 h2 => by
    by_cases hj : j = i
    · rw [if_pos hj] at h1; cases h1
    · by_cases hk : k = i
      · rw [if_pos hk] at h2; cases h2
      · rw [if_neg hj] at h1; rw [if_neg hk] at h2; exact R.dis j k p h1 h2
  nd := fun j => by
    by_cases hj : j = i
    · rw [if_pos hj]; exact List.nodup_nil
    · rw [if_neg hj]; exact R.nd j
section
variable {X : Cx} {E : XW}
theorem px_var {i : Nat} {x : Str} {pos : Pos} (hN : X.N[i]? = some x := by rfl) (hv : Vis X.env.scope x := by first | exact Or.inl rfl | exact Or.inr (Or.inl rfl) | exact Or.inr (Or.inr rfl)) (hd : (x == ("__debug__" : Str)) = false := by decide)
    (hcd : (x == ("__classdict__" : Str)) = false := by decide) : PX X (.Name x pos) (pVar i) := by
  refine ⟨_, pe_var hN hv hd hcd, fun F H σ ρ A r R h Q k => ?_⟩
  unfold pVar at h
  cases e : ρ[i]? with
  | none => rw [e] at h; cases h
  | some o =>
    cases o with
    | none => rw [e] at h; cases h
    | some sv =>
      cases sv with
      | one s =>
        rw [e] at h
        cases h
        obtain ⟨v, h1, h2⟩ := R.own i _ e
        exact ⟨v, h1, k v F H (.refl R.sub) ⟨_, h2⟩⟩
      | dic _ => rw [e] at h; cases h
      | obj _ _ => rw [e] at h; cases h
      | lk _ => rw [e] at h; cases h
      | pt _ => rw [e] at h; cases h
theorem px_k {e : Expr} {v : V} {d : PD} (h : PE X e (tC v)) (r : ∀ F : Hp, Rp F v d) : PX X e (pK d) :=
  ⟨_, h, fun F H σ ρ A res R hr Q k => by cases hr; exact k v F H (.refl R.sub) ⟨[], rfl, r F⟩⟩
theorem px_int {i : Int} {j : Nat} {pos : Pos} : PX X (.Constant (.int i) j pos) (pK (.int i)) := px_k pe_int fun _ => .int i
theorem px_bl {b : Bool} {j : Nat} {pos : Pos} : PX X (.Constant (.bool b) j pos) (pK (.bool b)) := px_k pe_bl fun _ => .bl b
theorem px_non {j : Nat} {pos : Pos} : PX X (.Constant .none j pos) (pK .none) := px_k pe_non fun _ => .non
theorem px_str {x : Str} {j : Nat} {pos : Pos} : PX X (.Constant (.str x) j pos) (pK (.str x)) := px_k pe_str fun _ => .str x
end
/-- a two-place operation of the layer does as φ says -/
def Fn2 (r : R2) (φ : S1 → S1 → Option Res) : Prop :=
  ∀ (F H : Hp) (x y : V) (s t : S1) (res : Res), Same F H → (∃ O, Own1 F H x s O) → (∃ O, Own1 F H y t O) → φ s t = some res → ∀ Q : VK, (∀ z F' H', PureX F H F' H' → PRes F' H' H z res → Q z H') → r x y H Q
def Fn1 (r : V → Hp → VK → Prop) (φ : S1 → Option Res) : Prop :=
  ∀ (F H : Hp) (x : V) (s : S1) (res : Res), Same F H → (∃ O, Own1 F H x s O) → φ s = some res → ∀ Q : VK, (∀ z F' H', PureX F H F' H' → PRes F' H' H z res → Q z H') → r x H Q
theorem PRes.back {F F1 H H1 H2 : Hp} {z : V} {r : Res} (x : Same H H1) (h : PRes F1 H2 H1 z r) : PRes F1 H2 H z r := by
  cases r with
  | old s => exact h
  | new sv =>
    obtain ⟨O, h1, h2, h3⟩ := h
    exact ⟨O, h1, h2, fun p hp => ⟨x.free (h3 p hp).1, (h3 p hp).2⟩⟩
theorem own_pure {F H F' H' : Hp} {z : V} {s : S1} (x : PureX F H F' H') (h : ∃ O, Own1 F H z s O) : ∃ O, Own1 F' H' z s O := by
  obtain ⟨O, h⟩ := h
  exact ⟨O, h.mono x.f fun p _ o q => x.h p o q⟩
theorem own_frz {F H : Hp} {z : V} {d : PD} (h : Rp F z d) : ∃ O, Own1 F H z (.frz d) O := ⟨[], rfl, h⟩
def p2 (φ : S1 → S1 → Option Res) (pa pb : Env → Option Res) : Env → Option Res := fun ρ =>
  (pa ρ).bind fun ra => ra.s1.bind fun s => (pb ρ).bind fun rb => rb.s1.bind fun t => φ s t
def p1 (φ : S1 → Option Res) (pa : Env → Option Res) : Env → Option Res := fun ρ =>
  (pa ρ).bind fun ra => ra.s1.bind φ
def Out.bind {α β : Type} (o : Out α) (f : α → Out β) : Out β := match o with
  | .stuck => .stuck
  | .ok a => f a
  | .exc x ρ => .exc x ρ
def g2 (φ : S1 → S1 → Option Res) (ga gb : Env → Out (PD × Env)) : Env → Out (Res × Env) := fun ρ =>
  (ga ρ).bind fun a => (gb a.2).bind fun b => lift (φ (.frz a.1) (.frz b.1)) b.2
def g1 (φ : S1 → Option Res) (ga : Env → Out (PD × Env)) : Env → Out (Res × Env) := fun ρ =>
  (ga ρ).bind fun a => lift (φ (.frz a.1)) a.2
section
variable {X : Cx} {E : XW} {a b : Expr} {pos : Pos}
theorem p2_run {ta tb : TE} {r : R2} {φ : S1 → S1 → Option Res} {pa pb : Env → Option Res} (hf : Fn2 r φ)
    (qa : ∀ F H σ ρ A r, Rel F H σ ρ A → pa ρ = some r → ∀ Q : VK, (∀ z F' H', PureX F H F' H' → PRes F' H' H z r → Q z H') → ta σ H Q)
    (qb : ∀ F H σ ρ A r, Rel F H σ ρ A → pb ρ = some r → ∀ Q : VK, (∀ z F' H', PureX F H F' H' → PRes F' H' H z r → Q z H') → tb σ H Q)
    {F H : Hp} {σ : L2.St} {ρ : Env} {A : Ad} {res : Res} (R : Rel F H σ ρ A) (h : p2 φ pa pb ρ = some res) (Q : VK) (k : ∀ z F' H', PureX F H F' H' → PRes F' H' H z res → Q z H') : tOp r ta tb σ H Q := by
  unfold p2 at h
  simp only [Option.bind_eq_some_iff] at h
  obtain ⟨ra, ea, s, sa, rb, eb, t, sb, e⟩ := h
  refine qa F H σ ρ A ra R ea _ fun x F1 H1 x1 r1 => ?_
  refine qb F1 H1 σ ρ A rb (R.pure x1) eb _ fun y F2 H2 x2 r2 => ?_
  refine hf F2 H2 x y s t res x2.sub (own_pure x2 (r1.s1 sa)) (r2.s1 sb) e Q fun z F3 H3 x3 r3 => ?_
  exact k z F3 H3 ((x1.trans x2).trans x3) (r3.back (F := F) (x1.trans x2).h)
theorem px_op {op : Operator} {r : R2} {φ : S1 → S1 → Option Res} {pa pb : Env → Option Res} (ho : OpR X (binaryOp op) r) (hf : Fn2 r φ) (ha : PX X a pa) (hb : PX X b pb) : PX X (.BinOp a op b pos) (p2 φ pa pb) := by
  obtain ⟨ta, ea, qa⟩ := ha
  obtain ⟨tb, eb, qb⟩ := hb
  exact ⟨_, pe_op ho ea eb, fun F H σ ρ A res R h Q k => p2_run hf qa qb R h Q k⟩
theorem g2_run {ta tb : TE} {r : R2} {φ : S1 → S1 → Option Res} {ga gb : Env → Out (PD × Env)} (hf : Fn2 r φ)
    (qa : ∀ F H σ ρ A, Rel F H σ ρ A → ∀ Q : VK, VPost X.mg E F H σ A Q (ga ρ) → ta σ H Q) (qb : ∀ F H σ ρ A, Rel F H σ ρ A → ∀ Q : VK, VPost X.mg E F H σ A Q (gb ρ) → tb σ H Q)
    {F H : Hp} {σ : L2.St} {ρ : Env} {A : Ad} (R : Rel F H σ ρ A) (Q : VK) (h : GPost X.mg E F H σ A Q (g2 φ ga gb ρ)) : tOp r ta tb σ H Q := by
  unfold g2 at h
  refine qa F H σ ρ A R _ ?_
  cases ea : ga ρ with
  | stuck => rw [ea] at h; exact h.elim
  | exc x ρ' => rw [ea] at h; exact h
  | ok q =>
    obtain ⟨da, ρ1⟩ := q
    rw [ea] at h
    have h : GPost X.mg E F H σ A Q ((gb ρ1).bind fun b => lift (φ (.frz da) (.frz b.1)) b.2) := h
    intro x F1 H1 A1 R1 x1 r1
    refine qb F1 H1 σ ρ1 A1 R1 _ ?_
    cases eb : gb ρ1 with
    | stuck => rw [eb] at h; exact h.elim
    | exc x ρ' => rw [eb] at h; exact XPost.ext h x1
    | ok q =>
      obtain ⟨db, ρ2⟩ := q
      rw [eb] at h
      have h : GPost X.mg E F H σ A Q (lift (φ (.frz da) (.frz db)) ρ2) := h
      intro y F2 H2 A2 R2 x2 r2
      cases ep : φ (.frz da) (.frz db) with
      | none => rw [ep] at h; exact h.elim
      | some res =>
        rw [ep] at h
        refine hf F2 H2 x y _ _ res R2.sub (own_frz (r1.mono x2.f)) (own_frz r2) ep Q fun z F3 H3 x3 r3 => ?_
        exact lift_post R2 (h.ext (x1.trans x2)) x3 r3
theorem gx_op {op : Operator} {r : R2} {φ : S1 → S1 → Option Res} {ga gb : Env → Out (PD × Env)} (ho : OpR X (binaryOp op) r) (hf : Fn2 r φ) (ha : VX X E a ga) (hb : VX X E b gb) : GX X E (.BinOp a op b pos) (g2 φ ga gb) := by
  obtain ⟨ta, ea, qa⟩ := ha
  obtain ⟨tb, eb, qb⟩ := hb
  exact ⟨_, pe_op ho ea eb, fun F H σ ρ A R Q h => g2_run hf qa qb R Q h⟩
theorem px_cmp {op : CmpOp} {r : R2} {φ : S1 → S1 → Option Res} {pa pb : Env → Option Res} (ho : OpR X (compareOp op) r) (hf : Fn2 r φ) (ha : PX X a pa) (hb : PX X b pb) (hm : behindInMarks op b = false := by first | exact nomark _ | rfl) : PX X (.Compare a [op] [b] pos) (p2 φ pa pb) := by
  obtain ⟨ta, ea, qa⟩ := ha
  obtain ⟨tb, eb, qb⟩ := hb
  exact ⟨_, pe_cmpR ho ea eb hm, fun F H σ ρ A res R h Q k => p2_run hf qa qb R h Q k⟩
/-- a truth -/
def Res.tr : Res → Option Bool
  | .old (.frz (.bool b)) => some b
  | _ => none
def tOf : Out (Res × Env) → Out (Bool × Env)
  | .ok (r, ρ) => match r.tr with
    | some b => .ok (b, ρ)
    | none => .stuck
  | .stuck => .stuck
  | .exc x ρ => .exc x ρ
theorem tOf_post {mg : Str → Option Value} {F H : Hp} {σ : L2.St} {A : Ad} {Q : Bool → Hp → Prop} {o : Out (Res × Env)} (h : TPost mg E F H σ A Q (tOf o)) : GPost mg E F H σ A (fun x H' => ∃ k, x = .bl k ∧ Q k H') o := by
  cases o with
  | stuck => exact h
  | exc x ρ' => exact h
  | ok q =>
    obtain ⟨r, ρ'⟩ := q
    intro z F' H' A' R a g
    cases r with
    | new sv => exact h.elim
    | old s =>
      cases s with
      | frz d =>
        cases d with
        | bool b =>
          cases (show Rp F' z (.bool b) from g)
          exact ⟨b, rfl, h F' H' A' R a⟩
        | _ => exact h.elim
      | _ => exact h.elim
theorem gPx_run {ta : TE} {pa : Env → Option Res} (qa : ∀ F H σ ρ A r, Rel F H σ ρ A → pa ρ = some r → ∀ Q : VK, (∀ z F' H', PureX F H F' H' → PRes F' H' H z r → Q z H') → ta σ H Q)
    {mg : Str → Option Value} {F H : Hp} {σ : L2.St} {ρ : Env} {A : Ad} (R : Rel F H σ ρ A) (Q : VK) (h : GPost mg E F H σ A Q (gPx pa ρ)) : ta σ H Q := by
  unfold gPx at h
  cases e : pa ρ with
  | none => rw [e] at h; exact h.elim
  | some r =>
    rw [e] at h
    exact qa F H σ ρ A r R e Q fun z F' H' x pr => lift_post R h x pr
theorem tx_gcmp {op : CmpOp} {r : R2} {φ : S1 → S1 → Option Res} {ga gb : Env → Out (PD × Env)} (ho : OpR X (compareOp op) r) (hf : Fn2 r φ) (ha : VX X E a ga) (hb : VX X E b gb) (hm : behindInMarks op b = false := by first | exact nomark _ | rfl) : TX X E (.Compare a [op] [b] pos) (fun ρ => tOf (g2 φ ga gb ρ)) := by
  obtain ⟨ta, ea, qa⟩ := ha
  obtain ⟨tb, eb, qb⟩ := hb
  exact ⟨_, pt_cmpR ho ea eb hm, fun F H σ ρ A R Q h => g2_run hf qa qb R _ (tOf_post h)⟩
/-- an expression of a truth as a test -/
theorem tx_val {e : Expr} {g : Env → Out (Res × Env)} (h : GX X E e g) (he : ∀ whole, isTrue e X.env whole = (do let v ← whole; standAt e.pos; holding [v] (truthy v)) := by intro _; rfl) : TX X E e (fun ρ => tOf (g ρ)) := by
  obtain ⟨t, pe, q⟩ := h
  exact ⟨_, pt_val pe he, fun F H σ ρ A R Q hq => q F H σ ρ A R _ (tOf_post hq)⟩
def WX (X : Cx) (E : XW) (e : Expr) (g : Env → Out (Bool × Env)) : Prop :=
  ∃ t, PW X e t ∧ ∀ F H σ ρ A, Rel F H σ ρ A → ∀ Q : Bool → Hp → Prop, TPost X.mg E F H σ A Q (g ρ) → t σ H Q
theorem tx_w {e : Expr} {g : Env → Out (Bool × Env)} (h : WX X E e g) : TX X E e g := let ⟨t, p, q⟩ := h; ⟨t, p.pt, q⟩
def tAndM (ga gb : Env → Out (Bool × Env)) : Env → Out (Bool × Env) := fun ρ => (ga ρ).bind fun a => if a.1 = true then gb a.2 else .ok (false, a.2)
def tOrM (ga gb : Env → Out (Bool × Env)) : Env → Out (Bool × Env) := fun ρ => (ga ρ).bind fun a => if a.1 = true then .ok (true, a.2) else gb a.2
def tNotM (ga : Env → Out (Bool × Env)) : Env → Out (Bool × Env) := fun ρ => (ga ρ).bind fun a => .ok (!a.1, a.2)
variable {rest : List Expr} {ga gb : Env → Out (Bool × Env)}
theorem wx_and1 (ha : TX X E a ga) : WX X E (.BoolOp .And [a] pos) ga := let ⟨t, p, q⟩ := ha; ⟨t, pw_and1 p, q⟩
theorem wx_or1 (ha : TX X E a ga) : WX X E (.BoolOp .Or [a] pos) ga := let ⟨t, p, q⟩ := ha; ⟨t, pw_or1 p, q⟩
theorem wx_and (ha : TX X E a ga) (hb : WX X E (.BoolOp .And (b :: rest) pos) gb) : WX X E (.BoolOp .And (a :: b :: rest) pos) (tAndM ga gb) := by
  obtain ⟨ta, ea, qa⟩ := ha
  obtain ⟨tb, eb, qb⟩ := hb
  refine ⟨_, pw_and ea eb, fun F H σ ρ A R Q h => qa F H σ ρ A R _ ?_⟩
  unfold tAndM at h
  cases e : ga ρ with
  | stuck => rw [e] at h; exact h
  | exc x ρ' => rw [e] at h; exact h
  | ok q =>
    obtain ⟨c, ρ1⟩ := q
    rw [e] at h
    intro F1 H1 A1 R1 x1
    cases c with
    | true =>
      rw [if_pos rfl]
      exact qb F1 H1 σ ρ1 A1 R1 Q (TPost.ext (show TPost X.mg E F H σ A Q (gb ρ1) from h) x1)
    | false =>
      rw [if_neg Bool.false_ne_true]
      exact (show TPost X.mg E F H σ A Q (.ok (false, ρ1)) from h) F1 H1 A1 R1 x1
theorem wx_or (ha : TX X E a ga) (hb : WX X E (.BoolOp .Or (b :: rest) pos) gb) : WX X E (.BoolOp .Or (a :: b :: rest) pos) (tOrM ga gb) := by
  obtain ⟨ta, ea, qa⟩ := ha
  obtain ⟨tb, eb, qb⟩ := hb
  refine ⟨_, pw_or ea eb, fun F H σ ρ A R Q h => qa F H σ ρ A R _ ?_⟩
  unfold tOrM at h
  cases e : ga ρ with
  | stuck => rw [e] at h; exact h
  | exc x ρ' => rw [e] at h; exact h
  | ok q =>
    obtain ⟨c, ρ1⟩ := q
    rw [e] at h
    intro F1 H1 A1 R1 x1
    cases c with
    | false =>
      rw [if_neg Bool.false_ne_true]
      exact qb F1 H1 σ ρ1 A1 R1 Q (TPost.ext (show TPost X.mg E F H σ A Q (gb ρ1) from h) x1)
    | true =>
      rw [if_pos rfl]
      exact (show TPost X.mg E F H σ A Q (.ok (true, ρ1)) from h) F1 H1 A1 R1 x1
theorem tx_not (ha : TX X E a ga) : TX X E (.UnaryOp .Not a pos) (tNotM ga) := by
  obtain ⟨ta, ea, qa⟩ := ha
  refine ⟨_, pt_not ea, fun F H σ ρ A R Q h => qa F H σ ρ A R _ ?_⟩
  unfold tNotM at h
  cases e : ga ρ with
  | stuck => rw [e] at h; exact h
  | exc x ρ' => rw [e] at h; exact h
  | ok q => rw [e] at h; exact h
end
end Mm
namespace Mm
open PySem PySem.Spec L2
set_option autoImplicit false
abbrev rD (d : PD) : Res := .old (.frz d)
abbrev rInt (i : Int) : Res := rD (.int i)
abbrev rB (b : Bool) : Res := rD (.bool b)
abbrev rS (x : Str) : Res := rD (.str x)
abbrev rL (xs : List PD) : Res := .new (.one (.lst xs))
def S1.lv : S1 → Option (List PD)
  | .frz (.list xs) => some xs
  | .lst xs => some xs
  | _ => none
def S1.tv : S1 → Option (List PD)
  | .frz (.tuple xs) => some xs
  | _ => none
section
variable {F H : Hp} {x y z : V} {s t : S1} {d : PD} {xs : List PD}
theorem lv_of (e : Same F H) (h : ∃ O, Own1 F H x s O) (q : s.lv = some xs) : ∃ p vs, x = .ref p ∧ H p = some (.lst vs) ∧ RpL F vs xs := by
  obtain ⟨O, h⟩ := h
  cases s with
  | frz d =>
    cases d <;> cases q
    cases h.2 with
    | lst h1 h2 => exact ⟨_, _, rfl, e _ _ h1, h2⟩
  | lst ys =>
    cases q
    obtain ⟨p, vs, rfl, rfl, h1, h2⟩ := h
    exact ⟨p, vs, rfl, h1, h2⟩
  | dK _ => cases q
  | dT _ => cases q
theorem tv_of (h : ∃ O, Own1 F H x s O) (q : s.tv = some xs) : ∃ p vs, x = .ref p ∧ F p = some (.tup vs) ∧ RpL F vs xs := by
  obtain ⟨O, h⟩ := h
  cases s with
  | frz d =>
    cases d <;> cases q
    cases h.2 with
    | tup h1 h2 => exact ⟨_, _, rfl, h1, h2⟩
  | lst ys => cases q
  | dK _ => cases q
  | dT _ => cases q
theorem frz_of (h : ∃ O, Own1 F H x (.frz d) O) : Rp F x d := h.elim fun _ q => q.2
theorem rp_int {i : Int} (h : Rp F x (.int i)) : x = .int i := by cases h; rfl
theorem rp_str {i : Str} (h : Rp F x (.str i)) : x = .str i := by cases h; rfl
theorem rp_bool {i : Bool} (h : Rp F x (.bool i)) : x = .bl i := by cases h; rfl
end
mutual
theorem dp_of {K : PySem.W.Frag} {F H : Hp} (e : Same F H) : ∀ {v : V} {d : PD}, Rp F v d → Dp K H v d
  | _, _, .non => .non
  | _, _, .bl b => .bl b
  | _, _, .int i => .int i
  | _, _, .str x => .str x
  | _, _, .lst h r => .lst (SqL.of (e _ _ h)) (dpl_of e r)
  | _, _, .tup h r => .tup (SqT.of (e _ _ h)) (dpl_of e r)
theorem dpl_of {K : PySem.W.Frag} {F H : Hp} (e : Same F H) : ∀ {vs : List V} {ds : List PD}, RpL F vs ds → DpAll K H vs ds
  | _, _, .nil => .nil
  | _, _, .cons r rs => .cons (dp_of e r) (dpl_of e rs)
end
theorem dp_own {K : PySem.W.Frag} {F H : Hp} {x : V} {s : S1} {d : PD} (e : Same F H) (h : ∃ O, Own1 F H x s O) (q : s.pd = some d) : Dp K H x d := by
  cases s with
  | frz d' => cases q; exact dp_of e (frz_of h)
  | lst ys =>
    cases q
    obtain ⟨p, vs, rfl, h1, h2⟩ := lv_of e h rfl
    exact .lst (SqL.of h1) (dpl_of e h2)
  | dK _ => cases q
  | dT _ => cases q
theorem same_new {H : Hp} {p : Addr} {o : HO} (h : H p = none) : Same H (upd H p o) := fun b u e => by
  rw [upd_ne (ne_of_none e h)]; exact e
theorem pure_new {F H : Hp} {p : Addr} {o : HO} (e : Same F H) (h : H p = none) : PureX F H F (upd H p o) := ⟨Same.refl F, same_new h, e.trans (same_new h), fun _ q => .inl q⟩
theorem pure_newF {F H : Hp} {p : Addr} {o : HO} (e : Same F H) (h : H p = none) : PureX F H (upd F p o) (upd H p o) where
  f := same_new (e.free h)
  h := same_new h
  sub := fun b u q => by
    unfold upd at q ⊢
    by_cases z : b = p
    · rw [if_pos z] at q ⊢; exact q
    · rw [if_neg z] at q ⊢; exact e b u q
  new := fun b q => by
    unfold upd at q
    by_cases z : b = p
    · rw [z]; exact .inr (.inl h)
    · rw [if_neg z] at q; exact .inl q
theorem new_lst {F H : Hp} {p : Addr} {vs : List V} {xs : List PD} (e : Same F H) (h : H p = none) (r : RpL F vs xs) : PRes F (upd H p (.lst vs)) H (.ref p) (rL xs) :=
  ⟨[p], ⟨p, vs, rfl, rfl, upd_same, r⟩, by simp, fun q hq => by rw [List.mem_singleton.mp hq]; exact ⟨h, e.free h⟩⟩
theorem new_tup {F H : Hp} {p : Addr} {vs : List V} {xs : List PD} (e : Same F H) (h : H p = none) (r : RpL F vs xs) : PRes (upd F p (.tup vs)) (upd H p (.tup vs)) H (.ref p) (rD (.tuple xs)) :=
  ⟨[], rfl, .tup upd_same (r.mono (same_new (e.free h)))⟩
theorem old_res {F H H0 : Hp} {z : V} {d : PD} (r : Rp F z d) : PRes F H H0 z (rD d) := ⟨[], rfl, r⟩
def fAdd (s t : S1) : Option Res := match s, t with
  | .frz (.int i), .frz (.int j) => some (rInt (i + j))
  | .frz (.str a), .frz (.str b) => if a.length + b.length ≤ sizeLine then some (rS (a ++ b)) else none
  | .frz (.tuple xs), .frz (.tuple ys) => if xs.length + ys.length ≤ sizeLine then some (rD (.tuple (xs ++ ys))) else none
  | s, t => match s.lv, t.lv with
    | some xs, some ys => if xs.length + ys.length ≤ sizeLine then some (rL (xs ++ ys)) else none
    | _, _ => none
def rAddM (K : PySem.W.Frag) : R2 := fun x y H Q => (∃ i j, x = .int i ∧ y = .int j ∧ Q (.int (i + j)) H) ∨ (∃ i j, x = .str i ∧ y = .str j ∧ i.length + j.length ≤ sizeLine ∧ Q (.str (i ++ j)) H) ∨ rCatA K x y H Q ∨ rCat x y H Q
theorem op_addM {X : Cx} : OpR X (binaryOp .Add) (rAddM X.K) := OpR.or op_add (OpR.or op_add_str (OpR.or op_catA op_cat))
theorem f_add {K : PySem.W.Frag} : Fn2 (rAddM K) fAdd := by
  intro F H x y s t res e hx hy h Q k
  unfold fAdd at h
  split at h
  · cases h
    cases rp_int (frz_of hx); cases rp_int (frz_of hy)
    exact .inl ⟨_, _, rfl, rfl, k _ F H (.refl e) (old_res (.int _))⟩
  · rename_i a b
    split at h
    · cases h
      cases rp_str (frz_of hx); cases rp_str (frz_of hy)
      exact .inr (.inl ⟨_, _, rfl, rfl, by assumption, k _ F H (.refl e) (old_res (.str _))⟩)
    · cases h
  · rename_i xs ys
    split at h
    · rename_i hz
      cases h
      obtain ⟨p, vs, rfl, h1, r1⟩ := tv_of hx rfl
      obtain ⟨q, ws, rfl, h2, r2⟩ := tv_of hy rfl
      refine .inr (.inr (.inl ⟨p, q, vs, ws, rfl, rfl, SqT.of (e _ _ h1), SqT.of (e _ _ h2), by rw [r1.length, r2.length]; exact hz, fun z => ?_, fun _ z => ?_, fun _ _ u hu => ?_⟩))
      · subst z
        cases r1
        exact k _ F H (.refl e) (old_res (.tup h2 r2))
      · subst z
        cases r2
        rw [List.append_nil] at k
        exact k _ F H (.refl e) (old_res (.tup h1 r1))
      · exact k _ _ _ (pure_newF e hu) (new_tup e hu (r1.append r2))
    · cases h
  · rename_i s t _ _ _
    split at h
    · rename_i xs ys hs ht
      split at h
      · rename_i hz
        cases h
        obtain ⟨p, vs, rfl, h1, r1⟩ := lv_of e hx hs
        obtain ⟨q, ws, rfl, h2, r2⟩ := lv_of e hy ht
        refine .inr (.inr (.inr ⟨p, q, vs, ws, rfl, rfl, h1, h2, by rw [r1.length, r2.length]; exact hz, fun u hu => ?_⟩))
        exact k _ _ _ (pure_new e hu) (new_lst e hu (r1.append r2))
      · cases h
    · cases h
def fI (C : Int → Int → Prop) [∀ i j, Decidable (C i j)] (g : Int → Int → Int) (s t : S1) : Option Res := match s, t with
  | .frz (.int i), .frz (.int j) => if C i j then some (rInt (g i j)) else none
  | _, _ => none
theorem f_I {C : Int → Int → Prop} [∀ i j, Decidable (C i j)] {g : Int → Int → Int} : Fn2 (rI C fun i j => .int (g i j)) (fI C g) := by
  intro F H x y s t res e hx hy h Q k
  unfold fI at h
  split at h
  · split at h
    · cases h
      cases rp_int (frz_of hx); cases rp_int (frz_of hy)
      exact ⟨_, _, rfl, rfl, by assumption, k _ F H (.refl e) (old_res (.int _))⟩
    · cases h
  · cases h
def fI0 (g : Int → Int → Int) (s t : S1) : Option Res := match s, t with
  | .frz (.int i), .frz (.int j) => some (rInt (g i j))
  | _, _ => none
theorem f_I0 {g : Int → Int → Int} : Fn2 (rI0 fun i j => .int (g i j)) (fI0 g) := by
  intro F H x y s t res e hx hy h Q k
  unfold fI0 at h
  split at h
  · cases h
    cases rp_int (frz_of hx); cases rp_int (frz_of hy)
    exact ⟨_, _, rfl, rfl, k _ F H (.refl e) (old_res (.int _))⟩
  · cases h
instance (i j : Int) : Decidable (CMulW i j) := by unfold CMulW; infer_instance
instance (i j : Int) : Decidable (CMul i j) := by unfold CMul; infer_instance
instance (i j : Int) : Decidable (CDivW i j) := by unfold CDivW; infer_instance
instance (i j : Int) : Decidable (CPow i j) := by unfold CPow; infer_instance
def fSub := fI0 fun i j => i - j
def fMul (s t : S1) : Option Res := match s, t with
  | .frz (.int i), .frz (.int j) => if CMulW i j ∨ CMul i j then some (rInt (i * j)) else none
  | s, .frz (.int j) => match s.lv with
    | some xs => if -(2 ^ 63) ≤ j ∧ j < 2 ^ 63 ∧ xs.length * j.toNat ≤ sizeLine then some (rL (List.replicate j.toNat xs).flatten) else none
    | none => none
  | _, _ => none
def fDiv := fI CDivW fun i j => i / j
def fMod := fI (fun _ j => 0 < j) fun i j => i % j
def fPow := fI CPow fun i j => i ^ j.toNat
def fShl := fI CPow fun i j => i * 2 ^ j.toNat
def fShr := fI (fun _ j => 0 ≤ j) fun i j => i / 2 ^ j.toNat
def fAnd := fI0 Builtin.bitAnd
def rMulM : R2 := fun x y H Q => (∃ i j, x = .int i ∧ y = .int j ∧ CMulW i j ∧ Q (.int (i * j)) H) ∨ (∃ i j, x = .int i ∧ y = .int j ∧ CMul i j ∧ Q (.int (i * j)) H) ∨ rRep x y H Q
theorem op_mulM {X : Cx} : OpR X (binaryOp .Mult) rMulM := OpR.or op_mulW (OpR.or op_mul op_rep)
theorem RpL.rep {F : Hp} {vs : List V} {xs : List PD} (r : RpL F vs xs) : ∀ n : Nat, RpL F (List.replicate n vs).flatten (List.replicate n xs).flatten
  | 0 => .nil
  | n + 1 => by
    rw [List.replicate_succ, List.replicate_succ, List.flatten_cons, List.flatten_cons]
    exact r.append (RpL.rep r n)
theorem f_mul : Fn2 rMulM fMul := by
  intro F H x y s t res e hx hy h Q k
  unfold fMul at h
  split at h
  · split at h
    · rename_i hm
      cases h
      cases rp_int (frz_of hx); cases rp_int (frz_of hy)
      rcases hm with hm | hm
      · exact .inl ⟨_, _, rfl, rfl, hm, k _ F H (.refl e) (old_res (.int _))⟩
      · exact .inr (.inl ⟨_, _, rfl, rfl, hm, k _ F H (.refl e) (old_res (.int _))⟩)
    · cases h
  · rename_i s j _
    split at h
    · rename_i xs hs
      split at h
      · rename_i hz
        cases h
        obtain ⟨p, vs, rfl, h1, r1⟩ := lv_of e hx hs
        cases rp_int (frz_of hy)
        refine .inr (.inr ⟨p, j, vs, rfl, rfl, h1, hz.1, hz.2.1, by rw [r1.length]; exact hz.2.2, fun u hu => ?_⟩)
        exact k _ _ _ (pure_new e hu) (new_lst e hu (r1.rep _))
      · cases h
    · cases h
  · cases h
theorem f_sub : Fn2 (rI0 fun i j => .int (i - j)) fSub := f_I0
theorem f_div : Fn2 (rI CDivW fun i j => .int (i / j)) fDiv := f_I
theorem f_mod : Fn2 (rI (fun _ j => 0 < j) fun i j => .int (i % j)) fMod := f_I
theorem f_pow : Fn2 (rI CPow fun i j => .int (i ^ j.toNat)) fPow := f_I
theorem f_shl : Fn2 (rI CPow fun i j => .int (i * 2 ^ j.toNat)) fShl := f_I
theorem f_shr : Fn2 (rI (fun _ j => 0 ≤ j) fun i j => .int (i / 2 ^ j.toNat)) fShr := f_I
theorem f_and : Fn2 (rI0 fun i j => .int (Builtin.bitAnd i j)) fAnd := f_I0
/-- data without dicts, not too deep -/
def okD (d : PD) : Bool := d.plain && decide (d.depth ≤ 60)
def eqOk (d e : PD) : Bool := d.plain && (e.plain && decide (min d.depth e.depth ≤ 60))
def fEqN (neg : Bool) (s t : S1) : Option Res := match s.pd, t.pd with
  | some d, some e => if eqOk d e = true then some (rB (neg.xor (PyData.eqv d e))) else none
  | _, _ => none
def fEq := fEqN false
def fNe := fEqN true
def rEqM (K : PySem.W.Frag) (neg : Bool) : R2 := fun x y H Q => ∃ d e, Dp K H x d ∧ Dp K H y e ∧ eqOk d e = true ∧ Q (.bl (neg.xor (PyData.eqv d e))) H
theorem eqOk_of {d e : PD} (h : eqOk d e = true) : d.plain = true ∧ e.plain = true ∧ min d.depth e.depth ≤ 60 := by
  unfold eqOk at h
  rw [Bool.and_eq_true, Bool.and_eq_true, decide_eq_true_eq] at h
  exact ⟨h.1, h.2.1, h.2.2⟩
theorem op_eqM {X : Cx} (hu : X.A.units + 65 < cLine) : OpR X (compareOp .Eq) (rEqM X.K false) := by
  intro pins s σ H x y v u Q I rx ry h
  obtain ⟨d, e, hd, he, hc, q⟩ := h
  obtain ⟨as, r1⟩ := Dp.reads I d x v hd rx
  obtain ⟨bs, r2⟩ := Dp.reads I e y u he ry
  obtain ⟨h1, h2, h3⟩ := eqOk_of hc
  rw [Bool.false_xor] at q
  exact SeqAt.eq_plain r1 r2 h1 h2 (by omega) ⟨.bl _, H, I, rfl, q⟩
theorem op_neM {X : Cx} (hu : X.A.units + 65 < cLine) : OpR X (compareOp .NotEq) (rEqM X.K true) := by
  intro pins s σ H x y v u Q I rx ry h
  obtain ⟨d, e, hd, he, hc, q⟩ := h
  obtain ⟨as, r1⟩ := Dp.reads I d x v hd rx
  obtain ⟨bs, r2⟩ := Dp.reads I e y u he ry
  obtain ⟨h1, h2, h3⟩ := eqOk_of hc
  rw [Bool.true_xor] at q
  exact SeqAt.ne_plain r1 r2 h1 h2 (by omega) ⟨.bl _, H, I, rfl, q⟩
theorem f_eqN {K : PySem.W.Frag} {neg : Bool} : Fn2 (rEqM K neg) (fEqN neg) := by
  intro F H x y s t res e hx hy h Q k
  unfold fEqN at h
  split at h
  · rename_i d f hd hf
    split at h
    · rename_i ho
      cases h
      exact ⟨d, f, dp_own e hx hd, dp_own e hy hf, ho, k _ F H (.refl e) (old_res (.bl _))⟩
    · cases h
  · cases h
theorem f_eq {K : PySem.W.Frag} : Fn2 (rEqM K false) fEq := f_eqN
theorem f_ne {K : PySem.W.Frag} : Fn2 (rEqM K true) fNe := f_eqN
def notNone : PD → Bool
  | .none => false
  | _ => true
def fLt (s t : S1) : Option Res := match s, t with
  | .frz (.int i), .frz (.int j) => some (rB (decide (i < j)))
  | s, t => match s.pd, t.pd with
    | some d, some e => if (PySem.W.alike d e && (notNone d && decide (d.depth ≤ 64))) = true then some (rB (PySem.W.dataLt d e)) else none
    | _, _ => none
def rLtD (K : PySem.W.Frag) : R2 := fun x y H Q => ∃ d e, Dp K H x d ∧ Dp K H y e ∧ (PySem.W.alike d e && (notNone d && decide (d.depth ≤ 64))) = true ∧ Q (.bl (PySem.W.dataLt d e)) H
theorem op_ltD {X : Cx} (hu : X.A.units + 64 < cLine) : OpR X (compareOp .Lt) (rLtD X.K) := by
  intro pins s σ H x y v u Q I rx ry h
  obtain ⟨d, e, hd, he, hc, q⟩ := h
  obtain ⟨as, r1⟩ := Dp.reads I d x v hd rx
  obtain ⟨bs, r2⟩ := Dp.reads I e y u he ry
  rw [Bool.and_eq_true, Bool.and_eq_true, decide_eq_true_eq] at hc
  have hn : d ≠ .none := fun z => by
    subst z
    exact absurd hc.2.1 (by simp [notNone])
  exact PySem.W.rcLt_alike d e X.A s v u as bs r1 r2 hc.1 hn (by have := Nat.min_le_left d.depth e.depth; omega) X.prog X.w X.xe _ ⟨.bl _, H, I, rfl, q⟩
def rLtM (K : PySem.W.Frag) : R2 := fun x y H Q => (∃ i j, x = .int i ∧ y = .int j ∧ Q (.bl (decide (i < j))) H) ∨ rLtD K x y H Q
theorem op_ltM {X : Cx} (hu : X.A.units + 64 < cLine) : OpR X (compareOp .Lt) (rLtM X.K) := OpR.or op_lt (op_ltD hu)
theorem f_lt {K : PySem.W.Frag} : Fn2 (rLtM K) fLt := by
  intro F H x y s t res e hx hy h Q k
  unfold fLt at h
  split at h
  · cases h
    cases rp_int (frz_of hx); cases rp_int (frz_of hy)
    exact .inl ⟨_, _, rfl, rfl, k _ F H (.refl e) (old_res (.bl _))⟩
  · split at h
    · rename_i d f hd hf
      split at h
      · rename_i ho
        cases h
        exact .inr ⟨d, f, dp_own e hx hd, dp_own e hy hf, ho, k _ F H (.refl e) (old_res (.bl _))⟩
      · cases h
    · cases h
def fIB (g : Int → Int → Bool) (s t : S1) : Option Res := match s, t with
  | .frz (.int i), .frz (.int j) => some (rB (g i j))
  | _, _ => none
theorem f_IB {g : Int → Int → Bool} : Fn2 (rI0 fun i j => .bl (g i j)) (fIB g) := by
  intro F H x y s t res e hx hy h Q k
  unfold fIB at h
  split at h
  · cases h
    cases rp_int (frz_of hx); cases rp_int (frz_of hy)
    exact ⟨_, _, rfl, rfl, k _ F H (.refl e) (old_res (.bl _))⟩
  · cases h
def fLe := fIB fun i j => decide (i ≤ j)
def fGt := fIB fun i j => decide (j < i)
def fGe := fIB fun i j => decide (j ≤ i)
theorem f_le : Fn2 (rI0 fun i j => .bl (decide (i ≤ j))) fLe := f_IB
theorem f_gt : Fn2 (rI0 fun i j => .bl (decide (j < i))) fGt := f_IB
theorem f_ge : Fn2 (rI0 fun i j => .bl (decide (j ≤ i))) fGe := f_IB
def isNon : PD → Bool
  | .none => true
  | _ => false
def S1.non : S1 → Bool
  | .frz d => isNon d
  | _ => false
def fIsN (neg : Bool) (s t : S1) : Option Res := match t with
  | .frz .none => some (rB (neg.xor s.non))
  | _ => none
def keyOf : PD → Option Key
  | .int i => some (.inl i)
  | .str x => some (.inr x)
  | _ => none
def keysOf : List PD → Option (List Key)
  | [] => some []
  | d :: ds => (keyOf d).bind fun k => (keysOf ds).map (k :: ·)
def tkeyOf : PD → Option (List Key)
  | .tuple ds => keysOf ds
  | _ => none
def kPD : Key → PD
  | .inl i => .int i
  | .inr x => .str x
section
variable {F H : Hp}
theorem keyOf_rp {v : V} {d : PD} {k : Key} (r : Rp F v d) (e : keyOf d = some k) : v = kV k := by
  cases r <;> cases e <;> rfl
theorem kPD_rp (k : Key) : Rp F (kV k) (kPD k) := by
  cases k with
  | inl i => exact .int i
  | inr x => exact .str x
theorem keysOf_rp : ∀ {vs : List V} {ds : List PD} {ks : List Key}, RpL F vs ds → keysOf ds = some ks → vs = ks.map kV
  | _, _, _, .nil, e => by cases e; rfl
  | _, _, _, .cons r rs, e => by
    unfold keysOf at e
    rw [Option.bind_eq_some_iff] at e
    obtain ⟨k, h1, h2⟩ := e
    rw [Option.map_eq_some_iff] at h2
    obtain ⟨ks, h3, rfl⟩ := h2
    rw [keyOf_rp r h1, keysOf_rp rs h3]
    rfl
theorem kPDs_rp : ∀ ks : List Key, RpL F (ks.map kV) (ks.map kPD)
  | [] => .nil
  | k :: ks => .cons (kPD_rp k) (kPDs_rp ks)
variable {κ : Type} [DecidableEq κ]
def valD (kvs : List (κ × PD)) (k : κ) : Option PD := (kvs.find? fun kv => decide (kv.1 = k)).map (·.2)
def putD (kvs : List (κ × PD)) (k : κ) (d : PD) : List (κ × PD) := if (kvs.any fun kv => decide (kv.1 = k)) = true then kvs.map fun kv => if kv.1 = k then (kv.1, d) else kv else kvs ++ [(k, d)]
theorem RpK.val : ∀ {ws : List (κ × V)} {kvs : List (κ × PD)} (_ : RpK F ws kvs) (k : κ), (valV ws k = none ∧ valD kvs k = none) ∨ ∃ v d, valV ws k = some v ∧ valD kvs k = some d ∧ Rp F v d
  | _, _, .nil, k => .inl ⟨rfl, rfl⟩
  | _, _, .cons (k := k') (v := v) (d := d) (kvs := kvs') r rs, k => by
    by_cases h : k' = k
    · refine .inr ⟨v, d, valV_pos h, ?_, r⟩
      simp [valD, List.find?_cons, h]
    · rw [valV_neg h, show valD ((k', d) :: kvs') k = valD kvs' k from by simp [valD, List.find?_cons, h]]
      exact RpK.val rs k
theorem RpK.any : ∀ {ws : List (κ × V)} {kvs : List (κ × PD)} (_ : RpK F ws kvs) (k : κ), (ws.any fun kv => decide (kv.1 = k)) = kvs.any fun kv => decide (kv.1 = k)
  | _, _, .nil, k => rfl
  | _, _, .cons r rs, k => by
    rw [List.any_cons, List.any_cons, RpK.any rs k]
theorem RpK.repl {v : V} {d : PD} (r : Rp F v d) : ∀ {ws : List (κ × V)} {kvs : List (κ × PD)} (_ : RpK F ws kvs) (k : κ), RpK F (ws.map fun kv => if kv.1 = k then (kv.1, v) else kv) (kvs.map fun kv => if kv.1 = k then (kv.1, d) else kv)
  | _, _, .nil, k => .nil
  | _, _, .cons (k := k') r' rs, k => by
    rw [List.map_cons, List.map_cons]
    by_cases h : k' = k
    · rw [if_pos h, if_pos h]; exact .cons r (RpK.repl r rs k)
    · rw [if_neg h, if_neg h]; exact .cons r' (RpK.repl r rs k)
theorem RpK.snoc {v : V} {d : PD} (r : Rp F v d) {k : κ} : ∀ {ws : List (κ × V)} {kvs : List (κ × PD)} (_ : RpK F ws kvs), RpK F (ws ++ [(k, v)]) (kvs ++ [(k, d)])
  | _, _, .nil => .cons r .nil
  | _, _, .cons r' rs => .cons r' (RpK.snoc r rs)
theorem RpK.put {v : V} {d : PD} (r : Rp F v d) {ws : List (κ × V)} {kvs : List (κ × PD)} (h : RpK F ws kvs) (k : κ) : RpK F (putK ws k v) (putD kvs k d) := by
  unfold putK putD
  rw [h.any k]
  split
  · exact RpK.repl r h k
  · exact RpK.snoc r h
end
/-- what a dict holds at a key: none, if it is none of its kind -/
def S1.look (s : S1) (y : PD) : Option (Option PD) := match s with
  | .dK kvs => (keyOf y).map (valD kvs)
  | .dT kvs => (tkeyOf y).map (valD kvs)
  | _ => none
theorem look_of {F H : Hp} {x y : V} {s : S1} {d : PD} {r : Option PD} (e : Same F H) (hx : ∃ O, Own1 F H x s O) (hy : Rp F y d) (h : s.look d = some r) :
    ∃ a o, x = .ref a ∧ DGet H a y o ∧ o.isSome = r.isSome ∧ ∀ q, r = some q → ∃ v, o = some v ∧ Rp F v q := by
  obtain ⟨O, hx⟩ := hx
  cases s with
  | frz _ => cases h
  | lst _ => cases h
  | dK kvs =>
    obtain ⟨p, ws, rfl, rfl, h1, h2⟩ := hx
    unfold S1.look at h
    rw [Option.map_eq_some_iff] at h
    obtain ⟨k, hk, rfl⟩ := h
    refine ⟨p, valV ws k, rfl, by rw [keyOf_rp hy hk]; exact DGet.k h1, ?_, ?_⟩
    · rcases h2.val k with ⟨e1, e2⟩ | ⟨v, q, e1, e2, _⟩ <;> rw [e1, e2] <;> rfl
    · intro q hq
      rcases h2.val k with ⟨e1, e2⟩ | ⟨v, q', e1, e2, r⟩
      · rw [e2] at hq; cases hq
      · rw [e2] at hq; cases hq; exact ⟨v, e1, r⟩
  | dT kvs =>
    obtain ⟨p, ws, rfl, rfl, h1, h2⟩ := hx
    unfold S1.look at h
    rw [Option.map_eq_some_iff] at h
    obtain ⟨k, hk, rfl⟩ := h
    have hb : ∃ b, y = .ref b ∧ H b = some (.tup (k.map kV)) := by
      cases hy with
      | tup h3 h4 => exact ⟨_, rfl, by rw [e _ _ h3, keysOf_rp h4 hk]⟩
      | _ => cases hk
    obtain ⟨b, rfl, hb⟩ := hb
    refine ⟨p, valV ws k, rfl, DGet.t h1 hb, ?_, ?_⟩
    · rcases h2.val k with ⟨e1, e2⟩ | ⟨v, q, e1, e2, _⟩ <;> rw [e1, e2] <;> rfl
    · intro q hq
      rcases h2.val k with ⟨e1, e2⟩ | ⟨v, q', e1, e2, r⟩
      · rw [e2] at hq; cases hq
      · rw [e2] at hq; cases hq; exact ⟨v, e1, r⟩
end Mm
namespace Mm
open PySem PySem.Spec L2
set_option autoImplicit false
def fIn (neg : Bool) (s t : S1) : Option Res := match t with
  | .frz (.str z) => match s with
    | .frz (.str c) => match c.cps.toList with
      | [u] => some (rB (neg.xor (decide (u ∈ z.cps.toList))))
      | _ => none
    | _ => none
  | .dK kvs => (s.val.bind ((S1.dK kvs).look)).map fun o => rB (neg.xor o.isSome)
  | .dT kvs => (s.val.bind ((S1.dT kvs).look)).map fun o => rB (neg.xor o.isSome)
  | t => match s.pd, t.lv with
    | some d, some ds => if (okD d && PyData.plainAll ds) = true then some (rB (neg.xor (ds.any fun z => PyData.eqv z d))) else none
    | some d, none => match t.tv with
      | some ds => if (okD d && PyData.plainAll ds) = true then some (rB (neg.xor (ds.any fun z => PyData.eqv z d))) else none
      | none => none
    | _, _ => none
def rInT (K : PySem.W.Frag) (neg : Bool) : R2 := fun x y H Q => ∃ d ds, Dp K H x d ∧ (Dp K H y (.tuple ds) ∨ Dp K H y (.list ds)) ∧ okD d = true ∧ PyData.plainAll ds = true ∧ Q (.bl (neg.xor (ds.any fun z => PyData.eqv z d))) H
theorem okD_of {d : PD} (h : okD d = true) : d.plain = true ∧ d.depth ≤ 60 := by
  unfold okD at h
  rw [Bool.and_eq_true, decide_eq_true_eq] at h
  exact h
theorem op_inT {X : Cx} (hu : X.A.units + 65 < cLine) : OpR X (compareOp .In) (rInT X.K false) := by
  intro pins s σ H x y v u Q I rx ry h
  obtain ⟨d, ds, hd, he, sd, se, q⟩ := h
  obtain ⟨as, r1⟩ := Dp.reads I d x v hd rx
  obtain ⟨p1, p2⟩ := okD_of sd
  rw [Bool.false_xor] at q
  rcases he with he | he
  · obtain ⟨bs, r2⟩ := Dp.reads I (.tuple ds) y u he ry
    exact SeqAt.in_tuple_data r2 r1 se p1 (by have := Nat.min_le_right (PyData.depthAll ds) d.depth; omega) ⟨.bl _, H, I, rfl, q⟩
  · obtain ⟨bs, r2⟩ := Dp.reads I (.list ds) y u he ry
    exact SeqAt.in_list_data r2 r1 se p1 (by have := Nat.min_le_right (PyData.depthAll ds) d.depth; omega) ⟨.bl _, H, I, rfl, q⟩
theorem op_notInT {X : Cx} (hu : X.A.units + 65 < cLine) : OpR X (compareOp .NotIn) (rInT X.K true) := by
  intro pins s σ H x y v u Q I rx ry h
  obtain ⟨d, ds, hd, he, sd, se, q⟩ := h
  obtain ⟨as, r1⟩ := Dp.reads I d x v hd rx
  obtain ⟨p1, p2⟩ := okD_of sd
  rw [Bool.true_xor] at q
  rcases he with he | he
  · obtain ⟨bs, r2⟩ := Dp.reads I (.tuple ds) y u he ry
    exact SeqAt.notIn_tuple_data r2 r1 se p1 (by have := Nat.min_le_right (PyData.depthAll ds) d.depth; omega) ⟨.bl _, H, I, rfl, q⟩
  · obtain ⟨bs, r2⟩ := Dp.reads I (.list ds) y u he ry
    exact SeqAt.notIn_list_data r2 r1 se p1 (by have := Nat.min_le_right (PyData.depthAll ds) d.depth; omega) ⟨.bl _, H, I, rfl, q⟩
def rInDict : R2 := fun y x H Q => ∃ a o, x = .ref a ∧ DGet H a y o ∧ Q (.bl o.isSome) H
def rNotInDict : R2 := fun y x H Q => ∃ a o, x = .ref a ∧ DGet H a y o ∧ Q (.bl (!o.isSome)) H
theorem op_inDict {X : Cx} (hu : X.A.units + 1 < cLine) : OpR X (compareOp .In) rInDict := by
  intro pins s σ H y x u v Q I ry rx h
  obtain ⟨a, o, rfl, g, q⟩ := h
  cases rx
  exact d_in hu I g ry fun s' I' => ⟨.bl _, H, I', rfl, q⟩
theorem op_notInDict {X : Cx} (hu : X.A.units + 1 < cLine) : OpR X (compareOp .NotIn) rNotInDict := by
  intro pins s σ H y x u v Q I ry rx h
  obtain ⟨a, o, rfl, g, q⟩ := h
  cases rx
  exact d_notIn hu I g ry fun s' I' => ⟨.bl _, H, I', rfl, q⟩
def rInM (K : PySem.W.Frag) : R2 := fun x y H Q => (∃ (c : Nat) (z : Str), x = .str ⟨#[c]⟩ ∧ y = .str z ∧ Q (.bl (decide (c ∈ z.cps.toList))) H) ∨ rInDict x y H Q ∨ rInT K false x y H Q
def rNotInM (K : PySem.W.Frag) : R2 := fun x y H Q => (∃ (c : Nat) (z : Str), x = .str ⟨#[c]⟩ ∧ y = .str z ∧ Q (.bl (!decide (c ∈ z.cps.toList))) H) ∨ rNotInDict x y H Q ∨ rInT K true x y H Q
theorem op_inM {X : Cx} (hu : X.A.units + 65 < cLine) : OpR X (compareOp .In) (rInM X.K) := OpR.or op_in_sign (OpR.or (op_inDict (by omega)) (op_inT hu))
theorem op_notInM {X : Cx} (hu : X.A.units + 65 < cLine) : OpR X (compareOp .NotIn) (rNotInM X.K) := OpR.or op_notIn_sign (OpR.or (op_notInDict (by omega)) (op_notInT hu))
theorem val_rp {F H : Hp} {x : V} {s : S1} {d : PD} (h : ∃ O, Own1 F H x s O) (q : s.val = some d) : Rp F x d := by
  cases s <;> cases q
  exact frz_of h
theorem sign_of {c : Str} {u : Nat} (h : c.cps.toList = [u]) : c = ⟨#[u]⟩ := by
  cases c with
  | mk cps =>
    have : cps = #[u] := by
      apply Array.toList_inj.mp
      simpa using h
    rw [this]
theorem tv_dp {K : PySem.W.Frag} {F H : Hp} {x : V} {s : S1} {xs : List PD} (e : Same F H) (h : ∃ O, Own1 F H x s O) (q : s.tv = some xs) : Dp K H x (.tuple xs) := by
  obtain ⟨p, vs, rfl, h1, h2⟩ := tv_of h q
  exact .tup (SqT.of (e _ _ h1)) (dpl_of e h2)
theorem lv_dp {K : PySem.W.Frag} {F H : Hp} {x : V} {s : S1} {xs : List PD} (e : Same F H) (h : ∃ O, Own1 F H x s O) (q : s.lv = some xs) : Dp K H x (.list xs) := by
  obtain ⟨p, vs, rfl, h1, h2⟩ := lv_of e h q
  exact .lst (SqL.of h1) (dpl_of e h2)
/-- by cases of what in asks -/
theorem fIn_cases {K : PySem.W.Frag} {neg : Bool} {F H : Hp} {x y : V} {s t : S1} {res : Res} (e : Same F H) (hx : ∃ O, Own1 F H x s O) (hy : ∃ O, Own1 F H y t O) (h : fIn neg s t = some res) :
    (∃ (c : Nat) (z : Str), x = .str ⟨#[c]⟩ ∧ y = .str z ∧ res = rB (neg.xor (decide (c ∈ z.cps.toList)))) ∨
    (∃ a o, y = .ref a ∧ DGet H a x o ∧ res = rB (neg.xor o.isSome)) ∨
    (∃ d ds, Dp K H x d ∧ (Dp K H y (.tuple ds) ∨ Dp K H y (.list ds)) ∧ okD d = true ∧ PyData.plainAll ds = true ∧ res = rB (neg.xor (ds.any fun z => PyData.eqv z d))) := by
  unfold fIn at h
  split at h
  · rename_i z
    split at h
    · rename_i c
      split at h
      · rename_i u hu
        cases h
        cases rp_str (frz_of hx); cases rp_str (frz_of hy)
        exact .inl ⟨u, z, by rw [sign_of hu], rfl, rfl⟩
      · cases h
    · cases h
  · rename_i kvs
    rw [Option.map_eq_some_iff] at h
    obtain ⟨o, h, rfl⟩ := h
    rw [Option.bind_eq_some_iff] at h
    obtain ⟨d, h1, h2⟩ := h
    obtain ⟨a, w, rfl, g, e1, _⟩ := look_of e hy (val_rp hx h1) h2
    exact .inr (.inl ⟨a, w, rfl, g, by rw [e1]⟩)
  · rename_i kvs
    rw [Option.map_eq_some_iff] at h
    obtain ⟨o, h, rfl⟩ := h
    rw [Option.bind_eq_some_iff] at h
    obtain ⟨d, h1, h2⟩ := h
    obtain ⟨a, w, rfl, g, e1, _⟩ := look_of e hy (val_rp hx h1) h2
    exact .inr (.inl ⟨a, w, rfl, g, by rw [e1]⟩)
  · split at h
    · rename_i d ds hd hds
      split at h
      · rename_i hc
        cases h
        rw [Bool.and_eq_true] at hc
        exact .inr (.inr ⟨d, ds, dp_own e hx hd, .inr (lv_dp e hy hds), hc.1, hc.2, rfl⟩)
      · cases h
    · rename_i d hd hds
      split at h
      · rename_i ds ht
        split at h
        · rename_i hc
          cases h
          rw [Bool.and_eq_true] at hc
          exact .inr (.inr ⟨d, ds, dp_own e hx hd, .inl (tv_dp e hy ht), hc.1, hc.2, rfl⟩)
        · cases h
      · cases h
    · cases h
theorem f_in {K : PySem.W.Frag} : Fn2 (rInM K) (fIn false) := by
  intro F H x y s t res e hx hy h Q k
  have fin : ∀ b, res = rB (Bool.xor false b) → Q (.bl b) H := fun b q => by
    subst q
    rw [Bool.false_xor] at k
    exact k _ F H (.refl e) (old_res (.bl _))
  rcases fIn_cases (K := K) e hx hy h with ⟨c, z, rfl, rfl, q⟩ | ⟨a, o, rfl, g, q⟩ | ⟨d, ds, h1, h2, h3, h4, q⟩
  · exact .inl ⟨c, z, rfl, rfl, fin _ q⟩
  · exact .inr (.inl ⟨a, o, rfl, g, fin _ q⟩)
  · exact .inr (.inr ⟨d, ds, h1, h2, h3, h4, by rw [Bool.false_xor]; exact fin _ q⟩)
theorem f_notIn {K : PySem.W.Frag} : Fn2 (rNotInM K) (fIn true) := by
  intro F H x y s t res e hx hy h Q k
  have fin : ∀ b, res = rB (Bool.xor true b) → Q (.bl (!b)) H := fun b q => by
    subst q
    rw [Bool.true_xor] at k
    exact k _ F H (.refl e) (old_res (.bl _))
  rcases fIn_cases (K := K) e hx hy h with ⟨c, z, rfl, rfl, q⟩ | ⟨a, o, rfl, g, q⟩ | ⟨d, ds, h1, h2, h3, h4, q⟩
  · exact .inl ⟨c, z, rfl, rfl, fin _ q⟩
  · exact .inr (.inl ⟨a, o, rfl, g, fin _ q⟩)
  · exact .inr (.inr ⟨d, ds, h1, h2, h3, h4, by rw [Bool.true_xor]; exact fin _ q⟩)
def fIx (s t : S1) : Option Res := match s, t with
  | .frz (.str z), .frz (.int i) => if z.length ≤ sizeLine then (atI z.cps.toList i).map fun c => rS ⟨#[c]⟩ else none
  | .dK kvs, t => (t.val.bind ((S1.dK kvs).look)).bind fun o => o.map rD
  | .dT kvs, t => (t.val.bind ((S1.dT kvs).look)).bind fun o => o.map rD
  | s, .frz (.int i) => match s.lv with
    | some xs => (atI xs i).map rD
    | none => match s.tv with
      | some xs => (atI xs i).map rD
      | none => none
  | _, _ => none
def rIxD : R2 := fun x y H Q => ∃ a v, x = .ref a ∧ DGet H a y (some v) ∧ Q v H
open PyProof.Rows in
theorem ix_dict {X : Cx} (hu : X.A.units + 1 < cLine) : IxR X rIxD := by
  intro value slice pins s σ H x y v u Q I rx ry h hs
  obtain ⟨a, w, rfl, g, q⟩ := h
  cases rx
  have hT := dict_typeIs I g
  unfold subscriptTail
  refine wpAny_bind ?_
  rw [getitemInPython_of_ne hT.not_modules]
  refine wpAny_bind (wpAny_specialOf hT PySem.F.slot_dict_getitem.lookup ?_)
  have fin : wpAny (model X.prog X.w) X.A (subscripted slice false (.ref a) u) (fun r s₃ => wpAny (model X.prog X.w) X.A (letTemporaryGo value (.ref a) r >>= fun _ => pure r) (EP X pins σ Q) X.xe s₃) X.xe s := by
    rw [hs]
    exact wpAny_operating (d_getItem hu I g ry fun w' s3 I3 rw' => wpAny_bind (wpAny_letTemporaryGo (wpAny_pure ⟨w, H, I3, rw', q⟩)))
  first
    | exact wpAny_pure (wpAny_bind fin)
    | exact wpAny_bind (wpAny_pure (wpAny_bind fin))
    | exact wpAny_bind fin
def rIxM (K : PySem.W.Frag) : R2 := fun x y H Q => rIxD x y H Q ∨ rIx K x y H Q
theorem ix_M {X : Cx} (hu : X.A.units + 1 < cLine) : IxR X (rIxM X.K) := IxR.or (ix_dict hu) ix_seq
theorem atI_rp {F : Hp} {vs : List V} {xs : List PD} {i : Int} {d : PD} (r : RpL F vs xs) (h : atI xs i = some d) : ∃ v, atI vs i = some v ∧ Rp F v d := by
  unfold atI at h ⊢
  rw [r.length]
  rw [Option.bind_eq_some_iff] at h
  obtain ⟨j, h1, h2⟩ := h
  obtain ⟨v, h3, h4⟩ := r.get' h2
  exact ⟨v, by rw [h1]; exact h3, h4⟩
theorem f_ix {K : PySem.W.Frag} : Fn2 (rIxM K) fIx := by
  intro F H x y s t res e hx hy h Q k
  have dict : ∀ (s : S1), (∃ O, Own1 F H x s O) → (t.val.bind s.look).bind (fun o => o.map rD) = some res → rIxM K x y H Q := fun s hx h => by
    rw [Option.bind_eq_some_iff] at h
    obtain ⟨o, h1, h2⟩ := h
    rw [Option.bind_eq_some_iff] at h1
    obtain ⟨d, h3, h4⟩ := h1
    rw [Option.map_eq_some_iff] at h2
    obtain ⟨q, rfl, rfl⟩ := h2
    obtain ⟨a, w, rfl, g, e1, e2⟩ := look_of e hx (val_rp hy h3) h4
    obtain ⟨v, rfl, r⟩ := e2 q rfl
    exact .inl ⟨a, v, rfl, g, k _ F H (.refl e) (old_res r)⟩
  unfold fIx at h
  split at h
  · split at h
    · rw [Option.map_eq_some_iff] at h
      obtain ⟨c, hc, rfl⟩ := h
      cases rp_str (frz_of hx); cases rp_int (frz_of hy)
      exact .inr (.inr (.inr ⟨_, _, c, rfl, rfl, by assumption, hc, k _ F H (.refl e) (old_res (.str _))⟩))
    · cases h
  · exact dict _ hx h
  · exact dict _ hx h
  · rename_i i _ _ _
    cases rp_int (frz_of hy)
    split at h
    · rename_i xs hs
      rw [Option.map_eq_some_iff] at h
      obtain ⟨d, hd, rfl⟩ := h
      obtain ⟨p, vs, rfl, h1, r⟩ := lv_of e hx hs
      obtain ⟨v, hv, rv⟩ := atI_rp r hd
      exact .inr (.inl ⟨p, vs, i, v, rfl, rfl, SqL.of h1, hv, k _ F H (.refl e) (old_res rv)⟩)
    · split at h
      · rename_i xs hs
        rw [Option.map_eq_some_iff] at h
        obtain ⟨d, hd, rfl⟩ := h
        obtain ⟨p, vs, rfl, h1, r⟩ := tv_of hx hs
        obtain ⟨v, hv, rv⟩ := atI_rp r hd
        exact .inr (.inr (.inl ⟨p, vs, i, v, rfl, rfl, SqT.of (e _ _ h1), hv, k _ F H (.refl e) (old_res rv)⟩))
      · cases h
  · cases h
section
variable {X : Cx} {E : XW} {a b : Expr} {pos : Pos}
theorem px_ix {pa pb : Env → Option Res} (hu : X.A.units + 1 < cLine) (ha : PX X a pa) (hb : PX X b pb) (hs : PlainIx b := by intro _ _; rfl) : PX X (.Subscript a b pos) (p2 fIx pa pb) := by
  obtain ⟨ta, ea, qa⟩ := ha
  obtain ⟨tb, eb, qb⟩ := hb
  exact ⟨_, pe_ix (ix_M hu) ea eb hs, fun F H σ ρ A res R h Q k => p2_run f_ix qa qb R h Q k⟩
theorem gx_ix {ga gb : Env → Out (PD × Env)} (hu : X.A.units + 1 < cLine) (ha : VX X E a ga) (hb : VX X E b gb) (hs : PlainIx b := by intro _ _; rfl) : GX X E (.Subscript a b pos) (g2 fIx ga gb) := by
  obtain ⟨ta, ea, qa⟩ := ha
  obtain ⟨tb, eb, qb⟩ := hb
  exact ⟨_, pe_ix (ix_M hu) ea eb hs, fun F H σ ρ A R Q h => g2_run f_ix qa qb R Q h⟩
def PPart (X : Cx) (e : Option Expr) (p : Env → Option (Option Int)) : Prop :=
  ∃ t, PO X e t ∧ ∀ F H σ ρ A r, Rel F H σ ρ A → p ρ = some r → ∀ Q : Option Int → Hp → Prop, (∀ F' H', PureX F H F' H' → Q r H') → t σ H Q
theorem pp_none : PPart X none (fun _ => some none) := ⟨_, po_none, fun F H σ ρ A r R h Q k => by cases h; exact k F H (.refl R.sub)⟩
def pInt (p : Env → Option Res) : Env → Option (Option Int) := fun ρ => match p ρ with
  | some (.old (.frz (.int i))) => some (some i)
  | _ => none
theorem pp_some {e : Expr} {p : Env → Option Res} (h : PX X e p) : PPart X (some e) (pInt p) := by
  obtain ⟨t, pe, q⟩ := h
  refine ⟨_, po_some pe, fun F H σ ρ A r R h Q k => ?_⟩
  unfold pInt at h
  split at h
  · rename_i i hi
    cases h
    refine q F H σ ρ A _ R hi _ fun z F' H' x pr => ?_
    obtain ⟨O, h1, h2⟩ := pr
    exact ⟨i, rp_int h2, k F' H' x⟩
  · cases h
def cutD (xs : List PD) (lo hi : Option Int) : List PD := (xs.drop (HT.sIx xs.length 0 lo)).take (HT.sIx xs.length xs.length hi - HT.sIx xs.length 0 lo)
theorem cut_rp {F : Hp} {vs : List V} {xs : List PD} (r : RpL F vs xs) (lo hi : Option Int) : RpL F (cutV vs lo hi) (cutD xs lo hi) := by
  unfold cutV cutD
  rw [r.length]
  exact (r.drop _).take _
def fCut (s : S1) (lo hi : Option Int) : Option Res := match s with
  | .frz (.str z) => if z.length ≤ sizeLine then some (rS (cutS z lo hi)) else none
  | s => match s.lv with
    | some xs => some (rL (cutD xs lo hi))
    | none => match s.tv with
      | some xs => some (rD (.tuple (cutD xs lo hi)))
      | none => none
def pCut (p : Env → Option Res) (lo hi : Env → Option (Option Int)) : Env → Option Res := fun ρ =>
  (p ρ).bind fun r => r.s1.bind fun s => (lo ρ).bind fun l => (hi ρ).bind fun h => fCut s l h
def rSlM (K : PySem.W.Frag) : V → Option Int → Option Int → Hp → VK → Prop := fun x lo hi H Q => rSlS x lo hi H Q ∨ rSlL K x lo hi H Q ∨ rSlA K x lo hi H Q
theorem sl_M : SlR X (rSlM X.K) := SlR.or sl_str (SlR.or sl_list sl_tupA)
def FnSl (r : V → Option Int → Option Int → Hp → VK → Prop) (φ : S1 → Option Int → Option Int → Option Res) : Prop :=
  ∀ (F H : Hp) (x : V) (s : S1) (lo hi : Option Int) (res : Res), Same F H → (∃ O, Own1 F H x s O) → φ s lo hi = some res → ∀ Q : VK, (∀ z F' H', PureX F H F' H' → PRes F' H' H z res → Q z H') → r x lo hi H Q
theorem f_cut {K : PySem.W.Frag} : FnSl (rSlM K) fCut := by
  intro F H x s lo hi res e hx h Q k
  unfold fCut at h
  split at h
  · split at h
    · cases h
      cases rp_str (frz_of hx)
      exact .inl ⟨_, rfl, by assumption, k _ F H (.refl e) (old_res (.str _))⟩
    · cases h
  · split at h
    · rename_i xs hs
      cases h
      obtain ⟨p, vs, rfl, h1, r⟩ := lv_of e hx hs
      exact .inr (.inl ⟨p, vs, rfl, SqL.of h1, fun u hu => k _ _ _ (pure_new e hu) (new_lst e hu (cut_rp r lo hi))⟩)
    · split at h
      · rename_i xs hs
        cases h
        obtain ⟨p, vs, rfl, h1, r⟩ := tv_of hx hs
        refine .inr (.inr ⟨p, vs, rfl, SqT.of (e _ _ h1), fun hw => ?_, fun _ u hu => k _ _ _ (pure_newF e hu) (new_tup e hu (cut_rp r lo hi))⟩)
        have ec : cutV vs lo hi = vs := by
          unfold cutV
          rw [hw.1, hw.2, List.drop_zero, Nat.sub_zero, List.take_length]
        have r' := cut_rp r lo hi
        rw [ec] at r'
        exact k _ F H (.refl e) (old_res (.tup h1 r'))
      · cases h
theorem px_cut {e : Expr} {lo hi : Option Expr} {p2 : Pos} {p : Env → Option Res} {pl ph : Env → Option (Option Int)} (he : PX X e p) (hl : PPart X lo pl) (hh : PPart X hi ph) : PX X (.Subscript e (.Slice lo hi none p2) pos) (pCut p pl ph) := by
  obtain ⟨t, pe, q⟩ := he
  obtain ⟨tl, el, ql⟩ := hl
  obtain ⟨th, eh, qh⟩ := hh
  refine ⟨_, pe_slice sl_M pe el eh, fun F H σ ρ A res R h Q k => ?_⟩
  unfold pCut at h
  simp only [Option.bind_eq_some_iff] at h
  obtain ⟨ra, ea, s, sa, l, hl, u, hu, hc⟩ := h
  refine q F H σ ρ A ra R ea _ fun x F1 H1 x1 r1 => ?_
  refine ql F1 H1 σ ρ A l (R.pure x1) hl _ fun F2 H2 x2 => ?_
  refine qh F2 H2 σ ρ A u ((R.pure x1).pure x2) hu _ fun F3 H3 x3 => ?_
  refine f_cut F3 H3 x s l u res x3.sub (own_pure x3 (own_pure x2 (r1.s1 sa))) hc Q fun z F4 H4 x4 r4 => ?_
  exact k z F4 H4 (((x1.trans x2).trans x3).trans x4) (r4.back (F := F) ((x1.trans x2).trans x3).h)
theorem p1_run {ta : TE} {r : V → Hp → VK → Prop} {φ : S1 → Option Res} {pa : Env → Option Res} (hf : Fn1 r φ)
    (qa : ∀ F H σ ρ A r, Rel F H σ ρ A → pa ρ = some r → ∀ Q : VK, (∀ z F' H', PureX F H F' H' → PRes F' H' H z r → Q z H') → ta σ H Q)
    {F H : Hp} {σ : L2.St} {ρ : Env} {A : Ad} {res : Res} (R : Rel F H σ ρ A) (h : p1 φ pa ρ = some res) (Q : VK) (k : ∀ z F' H', PureX F H F' H' → PRes F' H' H z res → Q z H') : ta σ H fun x H1 => r x H1 Q := by
  unfold p1 at h
  simp only [Option.bind_eq_some_iff] at h
  obtain ⟨ra, ea, s, sa, e⟩ := h
  refine qa F H σ ρ A ra R ea _ fun x F1 H1 x1 r1 => ?_
  exact hf F1 H1 x s res x1.sub (r1.s1 sa) e Q fun z F3 H3 x3 r3 => k z F3 H3 (x1.trans x3) (r3.back (F := F) x1.h)
def fNeg (s : S1) : Option Res := match s with
  | .frz (.int i) => some (rInt (-i))
  | _ => none
theorem f_neg : Fn1 (rU fun i => .int (-i)) fNeg := by
  intro F H x s res e hx h Q k
  unfold fNeg at h
  split at h
  · cases h
    cases rp_int (frz_of hx)
    exact ⟨_, rfl, k _ F H (.refl e) (old_res (.int _))⟩
  · cases h
theorem px_neg {pa : Env → Option Res} (ha : PX X a pa) : PX X (.UnaryOp .USub a pos) (p1 fNeg pa) := by
  obtain ⟨ta, ea, qa⟩ := ha
  exact ⟨_, pe_un un_neg ea, fun F H σ ρ A res R h Q k => p1_run f_neg qa R h Q k⟩
def gAnd (ga gb : Env → Out (Res × Env)) : Env → Out (Res × Env) := fun ρ => (ga ρ).bind fun a => match a.1.tr with
  | some true => gb a.2
  | some false => .ok (rB false, a.2)
  | none => .stuck
def gOr (ga gb : Env → Out (Res × Env)) : Env → Out (Res × Env) := fun ρ => (ga ρ).bind fun a => match a.1.tr with
  | some true => .ok (rB true, a.2)
  | some false => gb a.2
  | none => .stuck
def gNot (ga : Env → Out (Res × Env)) : Env → Out (Res × Env) := fun ρ => (ga ρ).bind fun a => match a.1.tr with
  | some b => .ok (rB (!b), a.2)
  | none => .stuck
variable {rest : List Expr} {ga gb : Env → Out (Res × Env)}
def gIf (t : Env → Out (Bool × Env)) (ga gb : Env → Out (Res × Env)) : Env → Out (Res × Env) := fun ρ => (t ρ).bind fun c => if c.1 = true then ga c.2 else gb c.2
/-- a tuple that is known plain -/
def PlainT (F : Hp) (v : V) (ds : List PD) : Prop := ∃ a xs od, v = .ref a ∧ F a = some (.frz od (.tup xs)) ∧ od.dict = none ∧ RpL F xs ds
theorem PlainT.mono {F F' : Hp} {v : V} {ds : List PD} (h : PlainT F v ds) (e : Same F F') : PlainT F' v ds := by
  obtain ⟨a, xs, od, rfl, h1, h2, h3⟩ := h
  exact ⟨a, xs, od, rfl, e _ _ h1, h2, h3.mono e⟩
inductive AR where
  | val (d : PD) | slot (i : Nat) | pt (ds : List PD)
def ARel (F : Hp) (σ : L2.St) : List V → List AR → Prop := Paired fun v a => match a with
  | .val d => Rp F v d
  | .slot i => σ[i]? = some (some v)
  | .pt ds => PlainT F v ds
def APost (mg : Str → Option Value) (E : XW) (F H : Hp) (σ : L2.St) (A : Ad) (Q : List V → Hp → Prop) : Out (List AR × Env) → Prop
  | .stuck => False
  | .ok (as, ρ') => ∀ vs F' H' A', Rel F' H' σ ρ' A' → Ext F H A F' H' A' → ARel F' σ vs as → Q vs H'
  | .exc x ρ' => XPost mg E F H σ A x ρ'
def MA (X : Cx) (E : XW) (es : List Expr) (g : Env → Out (List AR × Env)) : Prop :=
  ∃ t, PA X es t ∧ ∀ F H σ ρ A, Rel F H σ ρ A → ∀ Q : List V → Hp → Prop, APost X.mg E F H σ A Q (g ρ) → t σ H Q
def aNil : Env → Out (List AR × Env) := fun ρ => .ok ([], ρ)
def aVal (g : Env → Out (PD × Env)) (r : Env → Out (List AR × Env)) : Env → Out (List AR × Env) := fun ρ => (g ρ).bind fun a => (r a.2).bind fun b => .ok (.val a.1 :: b.1, b.2)
def aSlot (i : Nat) (r : Env → Out (List AR × Env)) : Env → Out (List AR × Env) := fun ρ => match ρ[i]? with
  | some (some _) => (r ρ).bind fun b => .ok (.slot i :: b.1, b.2)
  | _ => .stuck
theorem ma_nil : MA X E [] aNil := ⟨_, pa_nil, fun F H σ ρ A R Q h => h [] F H A R (.refl F H A) .nil⟩
theorem ma_val {e : Expr} {es : List Expr} {g : Env → Out (PD × Env)} {r : Env → Out (List AR × Env)} (he : VX X E e g) (hr : MA X E es r) (hs : starEach (e :: es) X.env = (false, eval e X.env) :: starEach es X.env := by rfl) : MA X E (e :: es) (aVal g r) := by
  obtain ⟨t, pe, q⟩ := he
  obtain ⟨tr, pr, qr⟩ := hr
  refine ⟨_, pa_cons pe pr hs, fun F H σ ρ A R Q h => q F H σ ρ A R _ ?_⟩
  unfold aVal at h
  cases e : g ρ with
  | stuck => rw [e] at h; exact h
  | exc x ρ' => rw [e] at h; exact h
  | ok q =>
    obtain ⟨d, ρ1⟩ := q
    rw [e] at h
    have h : APost X.mg E F H σ A Q ((r ρ1).bind fun b => .ok (.val d :: b.1, b.2)) := h
    intro x F1 H1 A1 R1 x1 r1
    refine qr F1 H1 σ ρ1 A1 R1 _ ?_
    cases e2 : r ρ1 with
    | stuck => rw [e2] at h; exact h
    | exc x ρ' => rw [e2] at h; exact XPost.ext h x1
    | ok q =>
      obtain ⟨as, ρ2⟩ := q
      rw [e2] at h
      exact fun vs F2 H2 A2 R2 x2 r2 => h (x :: vs) F2 H2 A2 R2 (x1.trans x2) (.cons (r1.mono x2.f) r2)
theorem ma_slot {i : Nat} {x : Str} {p : Pos} {es : List Expr} {r : Env → Out (List AR × Env)} (hr : MA X E es r) (hs : starEach (.Name x p :: es) X.env = (false, eval (.Name x p) X.env) :: starEach es X.env := by rfl)
    (hN : X.N[i]? = some x := by rfl) (hv : Vis X.env.scope x := by first | exact Or.inl rfl | exact Or.inr (Or.inl rfl) | exact Or.inr (Or.inr rfl)) (hd : (x == ("__debug__" : Str)) = false := by decide)
    (hcd : (x == ("__classdict__" : Str)) = false := by decide) : MA X E (.Name x p :: es) (aSlot i r) := by
  obtain ⟨tr, pr, qr⟩ := hr
  refine ⟨_, pa_cons (pe_var hN hv hd hcd) pr hs, fun F H σ ρ A R Q h => ?_⟩
  unfold aSlot at h
  split at h
  · rename_i sv hi
    obtain ⟨v, h1, h2⟩ := R.own i sv hi
    refine ⟨v, h1, qr F H σ ρ A R _ ?_⟩
    cases e2 : r ρ with
    | stuck => rw [e2] at h; exact h
    | exc x ρ' => rw [e2] at h; exact h
    | ok q =>
      obtain ⟨as, ρ2⟩ := q
      rw [e2] at h
      exact fun vs F2 H2 A2 R2 x2 r2 => h (v :: vs) F2 H2 A2 R2 x2 (.cons h1 r2)
  · exact h.elim
def arVals : List AR → Option (List PD)
  | [] => some []
  | .val d :: r => (arVals r).map (d :: ·)
  | .slot _ :: _ => none
  | .pt _ :: _ => none
theorem arVals_rp {F : Hp} {σ : L2.St} : ∀ {vs : List V} {as : List AR} {ds : List PD}, ARel F σ vs as → arVals as = some ds → RpL F vs ds
  | _, _, _, .nil, e => by cases e; exact .nil
  | _, _, _, .cons (b := a) h r, e => by
    cases a with
    | slot i => cases e
    | pt ds => cases e
    | val d =>
      have e : (arVals _).map (d :: ·) = some _ := e
      rw [Option.map_eq_some_iff] at e
      obtain ⟨ds, e1, rfl⟩ := e
      exact .cons h (arVals_rp r e1)
def gTup (r : Env → Out (List AR × Env)) : Env → Out (Res × Env) := fun ρ => (r ρ).bind fun b => match arVals b.1 with
  | some ds => if ds.length ≤ sizeLine then .ok (rD (.tuple ds), b.2) else .stuck
  | none => .stuck
def gLst (r : Env → Out (List AR × Env)) : Env → Out (Res × Env) := fun ρ => (r ρ).bind fun b => match arVals b.1 with
  | some ds => if ds.length ≤ sizeLine then .ok (rL ds, b.2) else .stuck
  | none => .stuck
theorem gx_lst {es : List Expr} {r : Env → Out (List AR × Env)} (h : MA X E es r) : GX X E (.List es pos) (gLst r) := by
  obtain ⟨t, pe, q⟩ := h
  refine ⟨_, pe_lst pe, fun F H σ ρ A R Q h => q F H σ ρ A R _ ?_⟩
  unfold gLst at h
  cases e : r ρ with
  | stuck => rw [e] at h; exact h
  | exc x ρ' => rw [e] at h; exact h
  | ok b =>
    obtain ⟨as, ρ1⟩ := b
    rw [e] at h
    intro vs F1 H1 A1 R1 x1 r1
    have h : GPost X.mg E F H σ A Q (match arVals as with | some ds => if ds.length ≤ sizeLine then .ok (rL ds, ρ1) else .stuck | none => .stuck) := h
    split at h
    · rename_i ds hd
      split at h
      · rename_i hz
        have rr := arVals_rp r1 hd
        refine ⟨by rw [rr.length]; exact hz, fun p hp => ?_⟩
        have x2 := pure_new (o := .lst vs) R1.sub hp
        have g : GRes H1 A1 F1 (upd H1 p (.lst vs)) A1 (.ref p) (rL ds) := ⟨[p], ⟨p, vs, rfl, rfl, upd_same, rr⟩, by simp, fun q hq => by
          rw [List.mem_singleton.mp hq]
          exact ⟨R1.sub.free hp, fun i hi => R1.there hi hp, .inr hp⟩⟩
        exact h _ _ _ _ (R1.pure x2) (x1.trans (x2.ext A1)) (g.back x1)
      · exact h.elim
    · exact h.elim
end
end Mm
namespace Mm
open PySem PySem.Spec L2
set_option autoImplicit false
def setR (i : Nat) (r : Res) (ρ : Env) : Option Env := match r with
  | .old (.frz d) => some (ρ.set i (some (.one (.frz d))))
  | .new sv => some (ρ.set i (some sv))
  | _ => none
theorem Rel.set_own {F H : Hp} {σ : L2.St} {ρ : Env} {A : Ad} (R : Rel F H σ ρ A) {i : Nat} {v : V} {sv : SV} {O : List Addr} (hi : i < σ.length) (r : Own F H v sv O) (nd : O.Nodup) (hf : ∀ p ∈ O, F p = none) (hA : ∀ p ∈ O, ∀ j, j ≠ i → p ∉ A j) :
    Rel F H (σ.set i (some v)) (ρ.set i (some sv)) (fun j => if j = i then O else A j) where
  sub := R.sub
  len := by rw [List.length_set, List.length_set]; exact R.len
  own := fun j sv' e => by
    by_cases hj : j = i
    · subst hj
      rw [List.getElem?_set_self (by rw [R.len]; exact hi)] at e
      cases e
      exact ⟨v, by rw [List.getElem?_set_self hi], by rw [if_pos rfl]; exact r⟩
    · rw [List.getElem?_set_ne (Ne.symm hj)] at e
      obtain ⟨u, h1, h2⟩ := R.own j sv' e
      exact ⟨u, by rw [List.getElem?_set_ne (Ne.symm hj)]; exact h1, by rw [if_neg hj]; exact h2⟩
  off := fun j h => by
    by_cases hj : j = i
    · subst hj
      exact absurd (by rw [List.getElem?_set_self (by rw [R.len]; exact hi)]) (h sv)
    · rw [if_neg hj]
      exact R.off j fun sv' z => h sv' (by rw [List.getElem?_set_ne (Ne.symm hj)]; exact z)
  free := fun j p h => by
    by_cases hj : j = i
    · rw [if_pos hj] at h; exact hf p h
    · rw [if_neg hj] at h; exact R.free j p h
  dis := fun j k p h1 h2 => by
    by_cases hj : j = i
    · rw [if_pos hj] at h1
      by_cases hk : k = i
      · rw [hj, hk]
      · rw [if_neg hk] at h2; exact absurd h2 (hA p h1 k hk)
    · rw [if_neg hj] at h1
      by_cases hk : k = i
      · rw [if_pos hk] at h2; exact absurd h1 (hA p h2 j hj)
      · rw [if_neg hk] at h2; exact R.dis j k p h1 h2
  nd := fun j => by
    by_cases hj : j = i
    · rw [if_pos hj]; exact nd
    · rw [if_neg hj]; exact R.nd j
theorem Ext.drop {F H F' H' : Hp} {A A' : Ad} (a : Ext F H A F' H' A') {B : Ad} (hB : ∀ i p, p ∈ B i → (∃ j, p ∈ A' j) ∨ (∃ j, p ∈ A j) ∨ H p = none) : Ext F H A F' H' B where
  f := a.f
  h := a.h
  new := a.new
  ow := fun i p h => by
    rcases hB i p h with ⟨j, q⟩ | q | q
    · exact a.ow j p q
    · exact .inl q
    · exact .inr q
  dom := a.dom
theorem pin_set {S : List Nat} {σ : L2.St} {i : Nat} {x : Option V} (h : S.contains i = false) : Pin S σ (σ.set i x) := fun j hj => by
  have : i ≠ j := fun e => by
    subst e
    rw [List.contains_iff_mem.mpr hj] at h
    cases h
  rw [List.getElem?_set_ne this]
/-- behind a value's store -/
theorem setR_ok {F H F1 H1 : Hp} {σ : L2.St} {ρ1 ρ2 : Env} {A A1 : Ad} {i : Nat} {v : V} {r : Res} (R1 : Rel F1 H1 σ ρ1 A1) (x1 : Ext F H A F1 H1 A1) (g : GRes H A F1 H1 A1 v r) (hi : i < σ.length) (e : setR i r ρ1 = some ρ2) :
    ∃ A2, Rel F1 H1 (σ.set i (some v)) ρ2 A2 ∧ Ext F H A F1 H1 A2 := by
  cases r with
  | old s =>
    cases s with
    | frz d =>
      cases e
      refine ⟨_, R1.set_frz hi g, x1.drop fun j p h => ?_⟩
      by_cases q : j = i
      · rw [if_pos q] at h; cases h
      · rw [if_neg q] at h; exact .inl ⟨j, h⟩
    | _ => cases e
  | new sv =>
    cases e
    obtain ⟨O, h1, h2, h3⟩ := g
    refine ⟨_, R1.set_own hi h1 h2 (fun p hp => (h3 p hp).1) (fun p hp j _ => (h3 p hp).2.1 j), x1.drop fun j p h => ?_⟩
    by_cases q : j = i
    · rw [if_pos q] at h; exact .inr (h3 p h).2.2
    · rw [if_neg q] at h; exact .inl ⟨j, h⟩
def mSet (i : Nat) (g : Env → Out (Res × Env)) : Env → Out (Fl × Env) := fun ρ => (g ρ).bind fun a => match setR i a.1 a.2 with
  | some ρ' => .ok (.nx, ρ')
  | none => .stuck
def mDrop (g : Env → Out (Res × Env)) : Env → Out (Fl × Env) := fun ρ => (g ρ).bind fun a => .ok (.nx, a.2)
def mRet (g : Env → Out (Res × Env)) : Env → Out (Fl × Env) := fun ρ => (g ρ).bind fun a => .ok (.rt a.1, a.2)
def mIf (t : Env → Out (Bool × Env)) (g1 g2 : Env → Out (Fl × Env)) : Env → Out (Fl × Env) := fun ρ => (t ρ).bind fun c => if c.1 = true then g1 c.2 else g2 c.2
section
variable {X : Cx} {E : XW} {S : List Nat} {pos : Pos}
theorem xpost_s {mg : Str → Option Value} {F H : Hp} {σ : L2.St} {A : Ad} {x : EX} {ρ' : Env} {D : Ends} (h : SPost mg E S F H σ A D (.exc x ρ')) : XPost mg E F H σ A x ρ' := h σ F H A (.refl F H A) (.refl S σ)
/-- the walk of a store's value -/
theorem set_run {te : TE} {g : Env → Out (Res × Env)} {i : Nat} {mg : Str → Option Value} (q : ∀ F H σ ρ A, Rel F H σ ρ A → ∀ Q : VK, GPost mg E F H σ A Q (g ρ) → te σ H Q) (hS : S.contains i = false) {n : Nat}
    {F H : Hp} {σ : L2.St} {ρ : Env} {A : Ad} (hn : i < n) (R : Rel F H σ ρ A) (hl : σ.length = n) {D : Ends} (h : SPost mg E S F H σ A D (mSet i g ρ)) : te σ H fun x H1 => gName i x σ H1 D.nx := by
  unfold mSet at h
  refine q F H σ ρ A R _ ?_
  cases e : g ρ with
  | stuck => rw [e] at h; exact h
  | exc x ρ' => rw [e] at h; exact xpost_s h
  | ok b =>
    obtain ⟨r, ρ1⟩ := b
    rw [e] at h
    intro z F1 H1 A1 R1 x1 g1
    have h : SPost mg E S F H σ A D (match setR i r ρ1 with | some ρ' => .ok (.nx, ρ') | none => .stuck) := h
    split at h
    · rename_i ρ2 e2
      obtain ⟨A2, R2, x2⟩ := setR_ok R1 x1 g1 (by omega) e2
      exact h _ _ _ _ R2 x2 (pin_set hS)
    · exact h.elim
end
theorem pe_len {X : Cx} {e : Expr} {t : TE} (h : PE X e t) : PE X e (fun σ H Q => σ.length = X.N.length → t σ H Q) := ⟨fun pins s σ H Q I q => h.run pins s σ H Q I (q I.len)⟩
theorem ps_len {X : Cx} {e : Stmt} {t : TS} (h : PS X e t) : PS X e (fun D σ H => σ.length = X.N.length → t D σ H) := ⟨fun pins s σ H D I q => h.run pins s σ H D I (q I.len)⟩
section
variable {X : Cx} {E : XW} {S : List Nat} {pos : Pos}
theorem ms_set {i : Nat} {x : Str} {e : Expr} {pos' : Pos} {g : Env → Out (Res × Env)} (hN : X.N.Nodup) (he : GX X E e g) (hi : X.N[i]? = some x := by rfl) (hx : Loc X.env.scope x := by first | exact Or.inl rfl | exact Or.inr rfl)
    (hS : S.contains i = false := by rfl) (hs : swapsWith e (some (.Name x pos')) pos.line X.env = pure false := by rfl) (hf : X.fn x = true ∨ X.env.scope.names.lookup x = some .local := by first | exact .inl rfl | exact .inr rfl) :
    MS X E S (.Assign [.Name x pos'] e pos) (mSet i g) := by
  obtain ⟨t, pe, q⟩ := he
  have hl : i < X.N.length := (List.getElem?_eq_some_iff.mp hi).1
  exact ⟨_, ps_len (ps_set hN hi hx pe hs hf), fun F H σ ρ A R D h hz => set_run q hS hl R hz h⟩
theorem ms_expr {e : Expr} {g : Env → Out (Res × Env)} (he : GX X E e g) (hs : swapsWith e none pos.line X.env = pure false := by rfl) : MS X E S (.Expr e pos) (mDrop g) := by
  obtain ⟨t, pe, q⟩ := he
  refine ⟨_, ps_expr pe hs, fun F H σ ρ A R D h => q F H σ ρ A R _ ?_⟩
  unfold mDrop at h
  cases e : g ρ with
  | stuck => rw [e] at h; exact h
  | exc x ρ' => rw [e] at h; exact xpost_s h
  | ok b =>
    obtain ⟨r, ρ1⟩ := b
    rw [e] at h
    exact fun z F1 H1 A1 R1 x1 g1 => h σ F1 H1 A1 R1 x1 (.refl S σ)
theorem ms_ret {e : Expr} {g : Env → Out (Res × Env)} (he : GX X E e g) : MS X E S (.Return (some e) pos) (mRet g) := by
  obtain ⟨t, pe, q⟩ := he
  refine ⟨_, ps_ret pe, fun F H σ ρ A R D h => q F H σ ρ A R _ ?_⟩
  unfold mRet at h
  cases e : g ρ with
  | stuck => rw [e] at h; exact h
  | exc x ρ' => rw [e] at h; exact xpost_s h
  | ok b =>
    obtain ⟨r, ρ1⟩ := b
    rw [e] at h
    exact fun z F1 H1 A1 R1 x1 g1 => h z σ F1 H1 A1 R1 x1 (.refl S σ) g1
/-- return of a slot's own thing: it is handed on as it is -/
def mRetOwn (i : Nat) : Env → Out (Fl × Env) := fun ρ => match ρ[i]? with
  | some (some (.one (.frz d))) => .ok (.rt (rD d), ρ)
  | some (some sv) => .ok (.rt (.new sv), ρ.set i none)
  | _ => .stuck
theorem Rel.unset {F H : Hp} {σ : L2.St} {ρ : Env} {A : Ad} (R : Rel F H σ ρ A) (i : Nat) : Rel F H σ (ρ.set i none) (fun j => if j = i then [] else A j) where
  sub := R.sub
  len := by rw [List.length_set]; exact R.len
  own := fun j sv ej => by
    by_cases q : j = i
    · subst q
      by_cases hj : j < ρ.length
      · rw [List.getElem?_set_self hj] at ej; cases ej
      · rw [List.getElem?_eq_none (by rw [List.length_set]; omega)] at ej; cases ej
    · rw [List.getElem?_set_ne (Ne.symm q)] at ej
      obtain ⟨u, g1, g2⟩ := R.own j sv ej
      exact ⟨u, g1, by rw [if_neg q]; exact g2⟩
  off := fun j hj => by
    by_cases q : j = i
    · rw [if_pos q]
    · rw [if_neg q]
      exact R.off j fun sv z => hj sv (by rw [List.getElem?_set_ne (Ne.symm q)]; exact z)
  free := fun j p hp => by
    by_cases q : j = i
    · rw [if_pos q] at hp; cases hp
    · rw [if_neg q] at hp; exact R.free j p hp
  dis := fun j k p hp hq => by
    by_cases q : j = i
    · rw [if_pos q] at hp; cases hp
    · by_cases q' : k = i
      · rw [if_pos q'] at hq; cases hq
      · rw [if_neg q] at hp; rw [if_neg q'] at hq; exact R.dis j k p hp hq
  nd := fun j => by
    by_cases q : j = i
    · rw [if_pos q]; exact List.nodup_nil
    · rw [if_neg q]; exact R.nd j
theorem ms_retOwn {i : Nat} {x : Str} {p : Pos} (hN : X.N[i]? = some x := by rfl) (hv : Vis X.env.scope x := by first | exact Or.inl rfl | exact Or.inr (Or.inl rfl) | exact Or.inr (Or.inr rfl)) (hd : (x == ("__debug__" : Str)) = false := by decide)
    (hcd : (x == ("__classdict__" : Str)) = false := by decide) : MS X E S (.Return (some (.Name x p)) pos) (mRetOwn i) := by
  refine ⟨_, ps_ret (pe_var hN hv hd hcd), fun F H σ ρ A R D h => ?_⟩
  unfold mRetOwn at h
  split at h
  · rename_i d hd
    obtain ⟨v, h1, h2⟩ := R.own i _ hd
    exact ⟨v, h1, h v σ F H A R (.refl F H A) (.refl S σ) h2.2⟩
  · rename_i sv _ hs
    obtain ⟨v, h1, h2⟩ := R.own i _ hs
    refine ⟨v, h1, h v σ F H _ (R.unset i) ((Ext.refl F H A).drop fun j p hp => ?_) (.refl S σ) ⟨A i, h2, R.nd i, fun p hp => ⟨R.free i p hp, fun j hj => ?_, .inl ⟨i, hp⟩⟩⟩⟩
    · by_cases q : j = i
      · rw [if_pos q] at hp; cases hp
      · rw [if_neg q] at hp; exact .inl ⟨j, hp⟩
    · have hj : p ∈ (if j = i then [] else A j) := hj
      by_cases q : j = i
      · rw [if_pos q] at hj; cases hj
      · rw [if_neg q] at hj; exact q (R.dis j i p hj hp)
  · exact h.elim
def mRetN : Env → Out (Fl × Env) := fun ρ => .ok (.rt (rD .none), ρ)
def mBk : Env → Out (Fl × Env) := fun ρ => .ok (.bk, ρ)
def mCt : Env → Out (Fl × Env) := fun ρ => .ok (.ct, ρ)
theorem ms_if {c : Expr} {a b : List Stmt} {t : Env → Out (Bool × Env)} {ga gb : Env → Out (Fl × Env)} (hc : TX X E c t) (ha : MSs X E S a ga) (hb : MSs X E S b gb) : MS X E S (.If c a b pos) (mIf t ga gb) := by
  obtain ⟨tc, ec, qc⟩ := hc
  obtain ⟨ta, ea, qa⟩ := ha
  obtain ⟨tb, eb, qb⟩ := hb
  refine ⟨_, ps_if ec ea eb, fun F H σ ρ A R D h => qc F H σ ρ A R _ ?_⟩
  unfold mIf at h
  cases e : t ρ with
  | stuck => rw [e] at h; exact h
  | exc x ρ' => rw [e] at h; exact xpost_s h
  | ok q =>
    obtain ⟨c, ρ1⟩ := q
    rw [e] at h
    have h : SPost X.mg E S F H σ A D (if c = true then ga ρ1 else gb ρ1) := h
    intro F1 H1 A1 R1 x1
    cases c with
    | true =>
      rw [if_pos rfl] at h ⊢
      exact qa F1 H1 σ ρ1 A1 R1 D (h.ext x1 (.refl S σ))
    | false =>
      rw [if_neg Bool.false_ne_true] at h ⊢
      exact qb F1 H1 σ ρ1 A1 R1 D (h.ext x1 (.refl S σ))
def mWhile (t : Env → Out (Bool × Env)) (g : Env → Out (Fl × Env)) : Nat → Env → Out (Fl × Env)
  | 0, _ => .stuck
  | n + 1, ρ => (t ρ).bind fun c => if c.1 = true then (match g c.2 with
      | .ok (.nx, ρ') => mWhile t g n ρ'
      | .ok (.ct, ρ') => mWhile t g n ρ'
      | .ok (.bk, ρ') => .ok (.nx, ρ')
      | o => o) else .ok (.nx, c.2)
/-- only the slots ts are stored -/
def Only (ts : List Nat) (σ σ' : L2.St) : Prop := σ'.length = σ.length ∧ ∀ i, i ∉ ts → σ'[i]? = σ[i]?
def MG (X : Cx) (S : List Nat) (tg : Expr) (ts : List Nat) (b : PD → Env → Option Env) : Prop :=
  ∃ g, PG X tg g ∧ ∀ F H σ ρ A v d, Rel F H σ ρ A → Rp F v d → σ.length = X.N.length → ∀ ρ', b d ρ = some ρ' → ∀ Q : L2.St → Hp → Prop, (∀ σ' A', Rel F H σ' ρ' A' → Ext F H A F H A' → Pin S σ σ' → Only ts σ σ' → Q σ' H) → g v σ H Q
def MGs (X : Cx) (S : List Nat) (tgs : List Expr) (ts : List Nat) (b : List PD → Env → Option Env) : Prop :=
  ∃ g, PGs X tgs g ∧ ∀ F H σ ρ A vs ds, Rel F H σ ρ A → RpL F vs ds → σ.length = X.N.length → ∀ ρ', b ds ρ = some ρ' → ∀ Q : L2.St → Hp → Prop, (∀ σ' A', Rel F H σ' ρ' A' → Ext F H A F H A' → Pin S σ σ' → Only ts σ σ' → Q σ' H) → g vs σ H Q
def bName (i : Nat) : PD → Env → Option Env := fun d ρ => some (ρ.set i (some (.one (.frz d))))
def bNil : List PD → Env → Option Env := fun ds ρ => match ds with
  | [] => some ρ
  | _ => none
def bCons (b : PD → Env → Option Env) (bs : List PD → Env → Option Env) : List PD → Env → Option Env := fun ds ρ => match ds with
  | d :: ds => (b d ρ).bind (bs ds)
  | [] => none
def bTup (n : Nat) (bs : List PD → Env → Option Env) : PD → Env → Option Env := fun d ρ => match d with
  | .tuple ds => if ds.length = n then bs ds ρ else none
  | .list ds => if ds.length = n then bs ds ρ else none
  | _ => none
theorem PG.or {e : Expr} {g1 g2 : TG} (h1 : PG X e g1) (h2 : PG X e g2) : PG X e (fun v σ H Q => g1 v σ H Q ∨ g2 v σ H Q) := ⟨fun pins s σ H v u Q I r hw => hw.elim (h1.run pins s σ H v u Q I r) (h2.run pins s σ H v u Q I r)⟩
theorem mg_name {i : Nat} {x : Str} {p : Pos} (hN : X.N.Nodup) (hi : X.N[i]? = some x := by rfl) (hx : Loc X.env.scope x := by first | exact Or.inl rfl | exact Or.inr rfl) (hS : S.contains i = false := by rfl)
    (hf : X.fn x = true ∨ X.env.scope.names.lookup x = some .local := by first | exact .inl rfl | exact .inr rfl) : MG X S (.Name x p) [i] (bName i) := by
  refine ⟨_, pg_name hN hi hx hf, fun F H σ ρ A v d R r hz ρ' e Q k => ?_⟩
  cases e
  have hl : i < σ.length := by rw [hz]; exact (List.getElem?_eq_some_iff.mp hi).1
  refine k _ _ (R.set_frz hl r) ((Ext.refl F H A).drop fun j p hp => ?_) (pin_set hS) ⟨List.length_set, fun j hj => ?_⟩
  · by_cases q : j = i
    · rw [if_pos q] at hp; cases hp
    · rw [if_neg q] at hp; exact .inl ⟨j, hp⟩
  · rw [List.getElem?_set_ne (fun e => hj (by rw [e]; simp))]
theorem mgs_nil : MGs X S [] [] bNil := by
  refine ⟨_, pgs_nil, fun F H σ ρ A vs ds R r hz ρ' e Q k => ?_⟩
  cases r with
  | nil => cases e; exact ⟨rfl, k σ A R (.refl F H A) (.refl S σ) ⟨rfl, fun _ _ => rfl⟩⟩
  | cons _ _ => cases e
theorem mgs_cons {tg : Expr} {tgs : List Expr} {t ts : List Nat} {b : PD → Env → Option Env} {bs : List PD → Env → Option Env} (h1 : MG X S tg t b) (h2 : MGs X S tgs ts bs)
    (hs : (assignEach (tg :: tgs) X.env).map (·.2) = assign tg X.env :: (assignEach tgs X.env).map (·.2) := by rfl) : MGs X S (tg :: tgs) (t ++ ts) (bCons b bs) := by
  obtain ⟨g, pg, q⟩ := h1
  obtain ⟨gs, pgs, qs⟩ := h2
  -- the slots' number stays: told by the frame
  have pgs' : PGs X tgs (fun vs σ H Q => σ.length = X.N.length → gs vs σ H Q) := ⟨fun pins s σ H vs us Q I r h => pgs.run pins s σ H vs us Q I r (h I.len)⟩
  refine ⟨_, pgs_cons pg pgs' hs, fun F H σ ρ A vs ds R r hz ρ' e Q k => ?_⟩
  cases r with
  | nil => cases e
  | cons r rs =>
    unfold bCons at e
    rw [Option.bind_eq_some_iff] at e
    obtain ⟨ρ1, e1, e2⟩ := e
    refine ⟨_, _, rfl, q F H σ ρ A _ _ R r hz ρ1 e1 _ fun σ1 A1 R1 x1 p1 o1 hz1 => ?_⟩
    refine qs F H σ1 ρ1 A1 _ _ R1 rs hz1 ρ' e2 Q fun σ2 A2 R2 x2 p2 o2 => k σ2 A2 R2 (x1.trans x2) (p1.trans p2) ⟨o2.1.trans o1.1, fun i hi => ?_⟩
    rw [List.mem_append, not_or] at hi
    exact (o2.2 i hi.2).trans (o1.2 i hi.1)
theorem mg_tup {es : List Expr} {k : Nat} {p : Pos} {ts : List Nat} {bs : List PD → Env → Option Env} {n : Nat} (hc : X.calm = true) (h : MGs X S es ts bs) (hn : (assignEach es X.env).length = n := by rfl) (hst : (assignEach es X.env).findIdx? (·.1) = none := by rfl) :
    MG X S (.Tuple es k p) ts (bTup n bs) := by
  obtain ⟨g, pg, q⟩ := h
  refine ⟨_, PG.or (pg_tup hc pg hn hst) (pg_unl hc pg hn hst), fun F H σ ρ A v d R r hz ρ' e Q k => ?_⟩
  unfold bTup at e
  split at e
  · rename_i ds
    split at e
    · rename_i hd
      cases r with
      | tup h1 h2 => exact .inl ⟨_, _, rfl, SqT.of (R.sub _ _ h1), by rw [h2.length]; exact hd, q F H σ ρ A _ _ R h2 hz ρ' e Q k⟩
    · cases e
  · rename_i ds
    split at e
    · rename_i hd
      cases r with
      | lst h1 h2 => exact .inr ⟨_, _, rfl, SqL.of (R.sub _ _ h1), by rw [h2.length]; exact hd, q F H σ ρ A _ _ R h2 hz ρ' e Q k⟩
    · cases e
  · cases e
/-- a, b = e -/
def mUnp (b : PD → Env → Option Env) (g : Env → Out (PD × Env)) : Env → Out (Fl × Env) := fun ρ => (g ρ).bind fun a => match b a.1 a.2 with
  | some ρ' => .ok (.nx, ρ')
  | none => .stuck
/-- the iterator J yields the data ds, whatever else is done meanwhile -/
def ItOk (F : Hp) (J : It) (ds : List PD) : Prop :=
  ∀ F1 H1, Same F F1 → Same F1 H1 → ∀ i : Nat, (ds.length ≤ i → J.stop i H1) ∧ ∀ d, ds[i]? = some d → J.go i H1 ∧ ∀ x H2, J.yld i H1 x H2 → ∃ F2, PureX F1 H1 F2 H2 ∧ Rp F2 x d
def IPost (mg : Str → Option Value) (E : XW) (F H : Hp) (σ : L2.St) (A : Ad) (R : It → Hp → Prop) : Out (List PD × Env) → Prop
  | .stuck => False
  | .ok (ds, ρ') => ∀ J F' H' A', Rel F' H' σ ρ' A' → Ext F H A F' H' A' → ItOk F' J ds → R J H'
  | .exc x ρ' => XPost mg E F H σ A x ρ'
def IX (X : Cx) (E : XW) (tg iter : Expr) (g : Env → Out (List PD × Env)) : Prop :=
  ∃ wi, PI X tg iter wi ∧ ∀ F H σ ρ A, Rel F H σ ρ A → ∀ R : It → Hp → Prop, IPost X.mg E F H σ A R (g ρ) → wi σ H R
theorem it_list {K : PySem.W.Frag} {F : Hp} {a : Addr} {vs : List V} {ds : List PD} (h : F a = some (.lst vs)) (r : RpL F vs ds) : ItOk F (Itl K a) ds := by
  intro F1 H1 s1 s2 i
  have q : SqL K H1 a vs := SqL.of (s2 _ _ (s1 _ _ h))
  refine ⟨fun hi => ⟨vs, q, by rw [r.length]; exact hi⟩, fun d hd => ?_⟩
  obtain ⟨v, hv, rv⟩ := r.get' hd
  refine ⟨⟨vs, v, q, hv⟩, fun x H2 ⟨e, y⟩ => ?_⟩
  subst e
  have e := y vs q
  rw [hv] at e
  cases e
  exact ⟨F1, .refl s2, rv.mono s1⟩
theorem it_tup {K : PySem.W.Frag} {F : Hp} {a : Addr} {vs : List V} {ds : List PD} (h : F a = some (.tup vs)) (r : RpL F vs ds) : ItOk F (Itt K a) ds := by
  intro F1 H1 s1 s2 i
  have q : SqT K H1 a vs := SqT.of (s2 _ _ (s1 _ _ h))
  refine ⟨fun hi => ⟨vs, q, by rw [r.length]; exact hi⟩, fun d hd => ?_⟩
  obtain ⟨v, hv, rv⟩ := r.get' hd
  refine ⟨⟨vs, v, q, hv⟩, fun x H2 ⟨e, y⟩ => ?_⟩
  subst e
  have e := y vs q
  rw [hv] at e
  cases e
  exact ⟨F1, .refl s2, rv.mono s1⟩
/-- lo, lo + 1, .. -/
def rngD (lo : Int) (n : Nat) : List PD := (List.range n).map fun i => .int (lo + (i : Nat))
theorem it_rng {F : Hp} {lo : Int} {n : Nat} : ItOk F (Itr lo n) (rngD lo n) := by
  intro F1 H1 s1 s2 i
  unfold rngD
  refine ⟨fun hi => by
    show n ≤ i
    simpa using hi, fun d hd => ?_⟩
  rw [List.getElem?_map, Option.map_eq_some_iff] at hd
  obtain ⟨j, hj, rfl⟩ := hd
  obtain ⟨hl, e⟩ := List.getElem?_eq_some_iff.mp hj
  rw [List.getElem_range] at e
  subst e
  refine ⟨by
    show _ < n
    simpa using hl, fun x H2 ⟨e1, e2⟩ => ?_⟩
  subst e1 e2
  exact ⟨F1, .refl s2, .int _⟩
def rngOf1 : List AR → Option (List PD)
  | [.val (.int j)] => if -(2 ^ 62) ≤ j ∧ j < 2 ^ 62 then some (rngD 0 j.toNat) else none
  | _ => none
theorem rngOf1_inv {as : List AR} {ds : List PD} (h : rngOf1 as = some ds) : ∃ j, as = [.val (.int j)] ∧ -(2 ^ 62) ≤ j ∧ j < 2 ^ 62 ∧ ds = rngD 0 j.toNat := by
  unfold rngOf1 at h
  split at h
  · split at h
    · rename_i hj; cases h; exact ⟨_, rfl, hj.1, hj.2, rfl⟩
    · cases h
  · cases h
/-- the arguments' list as what is walked -/
def iArgs (f : List AR → Option (List PD)) (g : Env → Out (List AR × Env)) : Env → Out (List PD × Env) := fun ρ => (g ρ).bind fun a => match f a.1 with
  | some ds => .ok (ds, a.2)
  | none => .stuck
theorem iArgs_run {mg : Str → Option Value} {ta : TA} {f : List AR → Option (List PD)} {g : Env → Out (List AR × Env)} (q : ∀ F H σ ρ A, Rel F H σ ρ A → ∀ Q : List V → Hp → Prop, APost mg E F H σ A Q (g ρ) → ta σ H Q)
    {F H : Hp} {σ : L2.St} {ρ : Env} {A : Ad} (R : Rel F H σ ρ A) {Q : It → Hp → Prop} (h : IPost mg E F H σ A Q (iArgs f g ρ)) {P : List V → Hp → Prop}
    (k : ∀ vs as ds F1 H1 A1 ρ1, Rel F1 H1 σ ρ1 A1 → ARel F1 σ vs as → f as = some ds → (∀ J F2 H2, PureX F1 H1 F2 H2 → ItOk F2 J ds → Q J H2) → P vs H1) : ta σ H P := by
  refine q F H σ ρ A R _ ?_
  unfold iArgs at h
  cases e : g ρ with
  | stuck => rw [e] at h; exact h
  | exc x ρ' => rw [e] at h; exact h
  | ok b =>
    obtain ⟨as, ρ1⟩ := b
    rw [e] at h
    intro vs F1 H1 A1 R1 x1 r1
    have h : IPost mg E F H σ A Q (match f as with | some ds => .ok (ds, ρ1) | none => .stuck) := h
    split at h
    · rename_i ds hf
      exact k vs as ds F1 H1 A1 ρ1 R1 r1 hf fun J F2 H2 x2 ok => h J F2 H2 A1 (R1.pure x2) (x1.trans (x2.ext A1)) ok
    · exact h.elim
abbrev iRng1 := iArgs rngOf1
theorem ix_rng1 {tg a : Expr} {p : Pos} {g : Env → Out (List AR × Env)} (hg : Gl X "range") (hm : X.mg "range" = none) (ha : MA X E [a] g) (hs : starEach [a] X.env = [(false, eval a X.env)] := by rfl) : IX X E tg (.Call (.Name "range" p) [a] [] pos) (iRng1 g) := by
  obtain ⟨t, pe, q⟩ := ha
  refine ⟨_, pi_range1 hg hm pe hs, fun F H σ ρ A R Q h => iArgs_run q R h fun vs as ds F1 H1 A1 ρ1 R1 r1 hf k => ?_⟩
  obtain ⟨j, rfl, h1, h2, rfl⟩ := rngOf1_inv hf
  cases r1 with
  | cons r rs =>
    cases rs
    cases rp_int (F := F1) r
    exact ⟨j, rfl, h1, h2, k _ F1 H1 (.refl R1.sub) it_rng⟩
def loopFor (b : PD → Env → Option Env) (g : Env → Out (Fl × Env)) : List PD → Env → Out (Fl × Env)
  | [], ρ => .ok (.nx, ρ)
  | x :: xs, ρ => match b x ρ with
    | none => .stuck
    | some ρ1 => match g ρ1 with
      | .ok (.nx, ρ') => loopFor b g xs ρ'
      | .ok (.ct, ρ') => loopFor b g xs ρ'
      | .ok (.bk, ρ') => .ok (.nx, ρ')
      | o => o
def mFor (it : Env → Out (List PD × Env)) (b : PD → Env → Option Env) (g : Env → Out (Fl × Env)) : Env → Out (Fl × Env) := fun ρ => (it ρ).bind fun a => loopFor b g a.1 a.2
theorem ms_for {tg iter : Expr} {ts : List Nat} {body : List Stmt} {it : Env → Out (List PD × Env)} {b : PD → Env → Option Env} {g : Env → Out (Fl × Env)} (hp : PassesOwn (model X.prog X.w) X.A X.env X.xe) (hc : X.calm = true) (hi : IX X E tg iter it) (ht : MG X S tg ts b) (hb : MSs X E S body g)
    (hs : ∀ x, foldedSetIterable iter X.env x = pure x := by intro _; rfl) : MS X E S (.For tg iter body [] pos) (mFor it b g) := by
  obtain ⟨wi, pi, qi⟩ := hi
  obtain ⟨gg, pg, qg⟩ := ht
  obtain ⟨tb, pb, qb⟩ := hb
  have pb' : PG X tg (fun v σ H Q => σ.length = X.N.length → gg v σ H Q) := ⟨fun pins s σ H v u Q I r h => pg.run pins s σ H v u Q I r (h I.len)⟩
  refine ⟨_, ps_for hp hc pi pb' pb hs, fun F H σ ρ A R D h => qi F H σ ρ A R _ ?_⟩
  unfold mFor at h
  cases e : it ρ with
  | stuck => rw [e] at h; exact h
  | exc x ρ' => rw [e] at h; exact xpost_s h
  | ok q =>
    obtain ⟨ds, ρ1⟩ := q
    rw [e] at h
    have h : SPost X.mg E S F H σ A D (loopFor b g ds ρ1) := h
    intro J F1 H1 A1 R1 x1 ok
    refine ⟨fun i m σ' H' => m = ds.length - i ∧ i ≤ ds.length ∧ ∃ F' ρ' A', Rel F' H' σ' ρ' A' ∧ Same F1 F' ∧ Ext F H A F' H' A' ∧ Pin S σ σ' ∧ SPost X.mg E S F H σ A D (loopFor b g (ds.drop i) ρ'), ⟨ds.length, by simp, Nat.zero_le _, F1, ρ1, A1, R1, .refl F1, x1, .refl S σ, h⟩, ?_⟩
    rintro i m σ2 H2 ⟨rfl, hi, F2, ρ2, A2, R2, s2, x2, p2, h2⟩
    obtain ⟨stop, go⟩ := ok F2 H2 s2 R2.sub i
    by_cases hlt : i < ds.length
    · obtain ⟨go, yl⟩ := go _ (List.getElem?_eq_getElem hlt)
      refine .inr ⟨go, fun σ' H' => ∃ F' ρ' A', Rel F' H' σ' ρ' A' ∧ Same F1 F' ∧ Ext F H A F' H' A' ∧ Pin S σ σ' ∧ SPost X.mg E S F H σ A D (loopFor b g (ds.drop (i + 1)) ρ'), fun σ' H' hN => ⟨ds.length - (i + 1), by omega, rfl, hlt, hN⟩, fun x H3 hy hz => ?_⟩
      obtain ⟨F3, x3, r3⟩ := yl x H3 hy
      rw [List.drop_eq_getElem_cons hlt] at h2
      unfold loopFor at h2
      cases eb : b ds[i] ρ2 with
      | none => rw [eb] at h2; exact h2.elim
      | some ρ3 =>
        rw [eb] at h2
        refine qg F3 H3 σ2 ρ2 A2 x _ (R2.pure x3) r3 hz ρ3 eb _ fun σ4 A4 R4 x4 p4 _ => ?_
        refine qb F3 H3 σ4 ρ3 A4 R4 _ ?_
        have x24 := x2.trans ((x3.ext A2).trans x4)
        have p24 := p2.trans p4
        have s23 := s2.trans x3.f
        have h2 : SPost X.mg E S F H σ A D (match g ρ3 with
          | .ok (.nx, ρ') => loopFor b g (ds.drop (i + 1)) ρ'
          | .ok (.ct, ρ') => loopFor b g (ds.drop (i + 1)) ρ'
          | .ok (.bk, ρ') => .ok (.nx, ρ')
          | o => o) := h2
        cases e2 : g ρ3 with
        | stuck => rw [e2] at h2; exact h2.elim
        | exc x ρ' => rw [e2] at h2; exact SPost.ext (show SPost X.mg E S F H σ A D (.exc x ρ') from h2) x24 p24
        | ok q =>
          obtain ⟨f, ρ5⟩ := q
          rw [e2] at h2
          cases f with
          | nx => exact fun σ' F' H' A' r a pn => ⟨F', ρ5, A', r, s23.trans a.f, x24.trans a, p24.trans pn, h2⟩
          | ct => exact fun σ' F' H' A' r a pn => ⟨F', ρ5, A', r, s23.trans a.f, x24.trans a, p24.trans pn, h2⟩
          | bk => exact fun σ' F' H' A' r a pn => h2 σ' F' H' A' r (x24.trans a) (p24.trans pn)
          | rt r => exact SPost.ext (show SPost X.mg E S F H σ A D (.ok (.rt r, ρ5)) from h2) x24 p24
    · refine .inl ⟨stop (by omega), ?_⟩
      rw [List.drop_of_length_le (by omega)] at h2
      exact h2 σ2 F2 H2 A2 R2 x2 p2
def upSlot (i : Nat) (s : S1) (ρ : Env) : Env := ρ.set i (some (.one s))
/-- the thing in slot i is written: p its place -/
theorem Rel.write {F H : Hp} {σ : L2.St} {ρ : Env} {A : Ad} (R : Rel F H σ ρ A) {i : Nat} {p : Addr} {s : S1} {o : HO} (hi : σ[i]? = some (some (.ref p))) (hA : A i = [p]) (r : Own1 F (upd H p o) (.ref p) s [p]) :
    Rel F (upd H p o) σ (upSlot i s ρ) A ∧ Ext F H A F (upd H p o) A := by
  have hp : p ∈ A i := by rw [hA]; simp
  have fp : F p = none := R.free i p hp
  have hil : i < ρ.length := by rw [R.len]; exact (List.getElem?_eq_some_iff.mp hi).1
  refine ⟨⟨fun q u e => ?_, by unfold upSlot; rw [List.length_set]; exact R.len, fun j sv e => ?_, fun j h => ?_, R.free, R.dis, R.nd⟩, ⟨.refl F, fun q u e n => ?_, fun q h => .inl h, fun j q h => .inl ⟨j, h⟩, fun q h => ?_⟩⟩
  · rw [upd_ne (ne_of_none e fp)]; exact R.sub q u e
  · unfold upSlot at e
    by_cases hj : j = i
    · subst hj
      rw [List.getElem?_set_self hil] at e
      cases e
      exact ⟨_, hi, by rw [hA]; exact r⟩
    · rw [List.getElem?_set_ne (Ne.symm hj)] at e
      obtain ⟨v, h1, h2⟩ := R.own j sv e
      exact ⟨v, h1, h2.mono (.refl F) fun q hq u e => by
        rw [upd_ne (fun z => hj (R.dis j i p (by rw [← z]; exact hq) hp))]; exact e⟩
  · by_cases hj : j = i
    · subst hj
      exact absurd (by unfold upSlot; rw [List.getElem?_set_self hil]) (h (.one s))
    · exact R.off j fun sv z => h sv (by unfold upSlot; rw [List.getElem?_set_ne (Ne.symm hj)]; exact z)
  · rw [upd_ne (fun z => n i (by rw [z]; exact hp))]; exact e
  · by_cases q' : q = p
    · rw [q', upd_same]; simp
    · rw [upd_ne q']; exact h
theorem own_lst {F H : Hp} {σ : L2.St} {ρ : Env} {A : Ad} (R : Rel F H σ ρ A) {i : Nat} {xs : List PD} (h : ρ[i]? = some (some (.one (.lst xs)))) : ∃ p vs, σ[i]? = some (some (.ref p)) ∧ A i = [p] ∧ H p = some (.lst vs) ∧ RpL F vs xs := by
  obtain ⟨v, h1, h2⟩ := R.own i _ h
  obtain ⟨p, vs, rfl, h3, h4, h5⟩ := h2
  exact ⟨p, vs, h1, h3, h4, h5⟩
/-- x.append(e), x an owned list -/
def mAppend (i : Nat) (g : Env → Out (PD × Env)) : Env → Out (Fl × Env) := fun ρ => match ρ[i]? with
  | some (some (.one (.lst _))) => (g ρ).bind fun a => match a.2[i]? with
    | some (some (.one (.lst xs))) => if xs.length < sizeLine then .ok (.nx, upSlot i (.lst (xs ++ [a.1])) a.2) else .stuck
    | _ => .stuck
  | _ => .stuck
theorem ms_append {i : Nat} {x : Str} {p ap cp : Pos} {e : Expr} {g : Env → Out (PD × Env)} (he : VX X E e g) (hN : X.N[i]? = some x := by rfl) (hv : Vis X.env.scope x := by first | exact Or.inl rfl | exact Or.inr (Or.inl rfl) | exact Or.inr (Or.inr rfl)) (hd : (x == ("__debug__" : Str)) = false := by decide)
    (hcd : (x == ("__classdict__" : Str)) = false := by decide)
    (h : ∀ t, PE X e t → PS X (.Expr (.Call (.Attribute (.Name x p) "append" ap) [e] [] cp) pos) (tDrop (tBM X.K "list" rAppend (tVar i) (tCons t tNil)))) : MS X E S (.Expr (.Call (.Attribute (.Name x p) "append" ap) [e] [] cp) pos) (mAppend i g) := by
  obtain ⟨t, pe, q⟩ := he
  refine ⟨_, h t pe, fun F H σ ρ A R D h => ?_⟩
  unfold mAppend at h
  split at h
  · rename_i xs0 hi0
    obtain ⟨p0, vs0, e1, e2, e3, e4⟩ := own_lst R hi0
    refine ⟨.ref p0, e1, .inl ⟨rfl, _, SqL.of e3⟩, q F H σ ρ A R _ ?_⟩
    cases e : g ρ with
    | stuck => rw [e] at h; exact h
    | exc x ρ' => rw [e] at h; exact xpost_s h
    | ok b =>
      obtain ⟨d, ρ1⟩ := b
      rw [e] at h
      intro z F1 H1 A1 R1 x1 g1
      have h : SPost X.mg E S F H σ A D (match ρ1[i]? with
        | some (some (.one (.lst xs))) => if xs.length < sizeLine then .ok (.nx, upSlot i (.lst (xs ++ [d])) ρ1) else .stuck
        | _ => .stuck) := h
      split at h
      · rename_i xs hi
        split at h
        · rename_i hz
          obtain ⟨p1, vs, f1, f2, f3, f4⟩ := own_lst R1 hi
          rw [e1] at f1
          cases f1
          refine ⟨p0, vs, z, rfl, rfl, f3, by rw [f4.length]; exact hz, ?_⟩
          obtain ⟨R2, x2⟩ := R1.write (s := .lst (xs ++ [d])) (o := .lst (vs ++ [z])) e1 f2 ⟨p0, _, rfl, rfl, upd_same, f4.append (.cons g1 .nil)⟩
          exact h σ F1 _ A1 R2 (x1.trans x2) (.refl S σ)
        · exact h.elim
      · exact h.elim
  · exact h.elim
end
end Mm
namespace Mm
open PySem PySem.Spec L2
set_option autoImplicit false
/-- a def's promise: it does as φ says; behind it the arguments hold what φ says -/
def spM (mg : Str → Option Value) (n : Nat) (φ : List SV → Out (Res × Env)) : Sp := fun vs H Q E =>
  vs.length = n ∧ ∃ F as A, Rel F H (vs.map some) (as.map some) A ∧ GPost mg E F H (vs.map some) A Q (φ as)
/-- what the arguments hold behind the body: what stood still, and the owned ones at the places S -/
def outsOf (S : List Nat) (as : List SV) (ρ : Env) : Env := as.mapIdx fun j a => match a with
  | .one (.frz d) => some (.one (.frz d))
  | _ => if S.contains j = true then (ρ[j]?).join else none
def runF (S : List Nat) (n : Nat) (g : Env → Out (Fl × Env)) (as : List SV) : Out (Res × Env) := match g (as.map some ++ List.replicate (n - as.length) none) with
  | .ok (.rt r, ρ) => .ok (r, outsOf S as ρ)
  | .ok (.nx, ρ) => .ok (rD .none, outsOf S as ρ)
  | .ok _ => .stuck
  | .stuck => .stuck
  | .exc x ρ => .exc x (outsOf S as ρ)
theorem Rel.more {F H : Hp} {σ : L2.St} {ρ : Env} {A : Ad} (R : Rel F H σ ρ A) (n : Nat) : Rel F H (σ ++ List.replicate n none) (ρ ++ List.replicate n none) A where
  sub := R.sub
  len := by rw [List.length_append, List.length_append, R.len, List.length_replicate, List.length_replicate]
  own := fun i sv e => by
    by_cases h : i < ρ.length
    · rw [List.getElem?_append_left h] at e
      obtain ⟨v, h1, h2⟩ := R.own i sv e
      exact ⟨v, by rw [List.getElem?_append_left (by rw [← R.len]; exact h)]; exact h1, h2⟩
    · rw [List.getElem?_append_right (by omega), List.getElem?_replicate] at e
      split at e <;> cases e
  off := fun i h => R.off i fun sv e => h sv (by
    have := (List.getElem?_eq_some_iff.mp e).1
    rw [List.getElem?_append_left this]; exact e)
  free := R.free
  dis := R.dis
  nd := R.nd
theorem outs_ok {S : List Nat} {F H F' H' : Hp} {vs : List V} {as : List SV} {A A' : Ad} {σ' : L2.St} {ρ' : Env} {k : Nat} (R : Rel F H (vs.map some) (as.map some) A) (R' : Rel F' H' σ' ρ' A') (x : Ext F H A F' H' A') (p : Pin S (vs.map some ++ List.replicate k none) σ') :
    ∃ A2 : Ad, Rel F' H' (vs.map some) (outsOf S as ρ') A2 ∧ Ext F H A F' H' A2 ∧ ∀ i q, q ∈ A2 i → q ∈ A' i := by
  have hl : as.length = vs.length := by have := R.len; rwa [List.length_map, List.length_map] at this
  -- which arguments are still owned
  have key : ∀ j sv, (outsOf S as ρ')[j]? = some (some sv) → (∃ d, as[j]? = some (.one (.frz d)) ∧ sv = .one (.frz d)) ∨ (j ∈ S ∧ ρ'[j]? = some (some sv) ∧ j < as.length ∧ ∀ d, as[j]? ≠ some (.one (.frz d))) := by
    intro j sv e
    unfold outsOf at e
    rw [List.getElem?_mapIdx, Option.map_eq_some_iff] at e
    obtain ⟨a, ha, e⟩ := e
    have hj := (List.getElem?_eq_some_iff.mp ha).1
    split at e
    · rename_i d
      cases e
      exact .inl ⟨d, ha, rfl⟩
    · rename_i a hn
      split at e
      · rename_i hc
        refine .inr ⟨List.contains_iff_mem.mp hc, ?_, hj, fun d z => ?_⟩
        · cases q : ρ'[j]? with
          | none => rw [q] at e; cases e
          | some o => rw [q] at e; exact congrArg some e
        · rw [ha] at z
          exact hn d (Option.some.inj z)
      · cases e
  open Classical in
  refine ⟨fun j => if (∃ sv, (outsOf S as ρ')[j]? = some (some sv)) ∧ j ∈ S ∧ ∀ d, as[j]? ≠ some (.one (.frz d)) then A' j else [], ?_, ?_, ?_⟩
  · refine ⟨R'.sub, ?_, fun j sv e => ?_, fun j h => ?_, fun j q hq => ?_, fun i j q hi hj => ?_, fun j => ?_⟩
    · unfold outsOf
      rw [List.length_mapIdx, List.length_map]; exact hl
    · rcases key j sv e with ⟨d, h1, rfl⟩ | ⟨hS, h1, hj, hn⟩
      · obtain ⟨v, g1, g2⟩ := R.own j _ (by rw [List.getElem?_map, h1]; rfl)
        refine ⟨v, g1, ?_⟩
        rw [if_neg (fun z => z.2.2 d h1)]
        exact ⟨rfl, g2.2.mono x.f⟩
      · obtain ⟨v, g1, g2⟩ := R'.own j sv h1
        refine ⟨v, ?_, ?_⟩
        · rw [p j hS, List.getElem?_append_left (by rw [List.length_map]; omega)] at g1
          exact g1
        · rw [if_pos ⟨⟨sv, e⟩, hS, hn⟩]
          exact g2
    · rw [if_neg (fun z => by obtain ⟨⟨sv, e⟩, _⟩ := z; exact h sv e)]
    · split at hq
      · exact R'.free j q hq
      · cases hq
    · split at hi
      · split at hj
        · exact R'.dis i j q hi hj
        · cases hj
      · cases hi
    · split
      · exact R'.nd j
      · exact List.nodup_nil
  · refine x.drop fun j q hq => ?_
    split at hq
    · exact .inl ⟨j, hq⟩
    · cases hq
  · intro j q hq
    have hq : q ∈ (if (∃ sv, (outsOf S as ρ')[j]? = some (some sv)) ∧ j ∈ S ∧ ∀ d, as[j]? ≠ some (.one (.frz d)) then A' j else []) := hq
    split at hq
    · exact hq
    · cases hq
theorem GRes.less {F' H' H : Hp} {A A' A2 : Ad} {z : V} {r : Res} (g : GRes H A F' H' A' z r) (h : ∀ i q, q ∈ A2 i → q ∈ A' i) : GRes H A F' H' A2 z r := by
  cases r with
  | old s => cases s <;> exact g
  | new sv =>
    obtain ⟨O, h1, h2, h3⟩ := g
    exact ⟨O, h1, h2, fun p hp => ⟨(h3 p hp).1, fun i hi => (h3 p hp).2.1 i (h i p hi), (h3 p hp).2.2⟩⟩
section
variable {P : Program} {w : World} {K : PySem.W.Frag} {mg : Str → Option Value} {base : Heap}
theorem body_post {E : XW} {S : List Nat} {n : Nat} {g : Env → Out (Fl × Env)} {F H : Hp} {vs : List V} {as : List SV} {A : Ad} {Q : VK} (hn : as.length ≤ n) (hl : n - as.length = n - vs.length) (R : Rel F H (vs.map some) (as.map some) A) (h : GPost mg E F H (vs.map some) A Q (runF S n g as)) :
    SPost mg E S F H (vs.map some ++ List.replicate (n - vs.length) none) A { nx := fun _ H' => Q .non H', rt := Q } (g (as.map some ++ List.replicate (n - as.length) none)) := by
  unfold runF at h
  cases e : g (as.map some ++ List.replicate (n - as.length) none) with
  | stuck => rw [e] at h; exact h
  | exc x ρ' =>
    rw [e] at h
    intro σ' F1 H1 A1 x1 p1 C d F' H' A' hC R' x2 xd
    obtain ⟨A2, R2, x3, _⟩ := outs_ok R R' (x1.trans x2) p1
    exact h C d F' H' A2 hC R2 x3 xd
  | ok q =>
    obtain ⟨f, ρ'⟩ := q
    rw [e] at h
    cases f with
    | nx =>
      intro σ' F' H' A' R' x p
      obtain ⟨A2, R2, x2, l2⟩ := outs_ok R R' x p
      exact h .non F' H' A2 R2 x2 .non
    | rt r =>
      intro z σ' F' H' A' R' x p gr
      obtain ⟨A2, R2, x2, l2⟩ := outs_ok R R' x p
      exact h z F' H' A2 R2 x2 (gr.less l2)
    | bk => exact h.elim
    | ct => exact h.elim
/-- THE RULE for a def that lets nothing out -/
theorem fun_ok {x qual : Str} {st : Stmt} {f : Addr} {fd : FuncData} {N ps : List Str} {k : Nat} {S : List Nat} {g : Env → Out (Fl × Env)} (F : Fun K x qual st f fd) (sc : FnScope N ps (defScope st)) {φ : List SV → Out (Res × Env)} (hφ : ∀ as, φ as = runF S N.length g as)
    (hbody : ∀ (cdv : Value) (A : Around) (outer : List PySem.Env) (s : Shared) (H : Hp) (E : XK), Room k (A.deeper (PyProof.Rows.envOfC qual (defScope st) s.heap.objs.size f cdv)) →
      MSs (cxOf CX0 P w K mg base N qual (defScope st) f cdv A outer s H E).nox E S (defBody st) g) :
    FnOk P w K mg base CX0 (k + 1) f fd ps (spM mg ps.length φ) := by
  refine F.ok sc (fun vs H Q E h => h.1) (fun cdv A outer s H vs Q E hr h => ?_)
  obtain ⟨t, pt, q⟩ := hbody cdv A outer s H E hr
  obtain ⟨hn, F0, as, A0, R, h⟩ := h
  have hl : as.length = vs.length := by have := R.len; rwa [List.length_map, List.length_map] at this
  have hN : ps.length ≤ N.length := by have := congrArg List.length sc.pre; rw [List.length_take] at this; omega
  refine ⟨t, pt, q F0 H _ (as.map some ++ List.replicate (N.length - as.length) none) A0 ?_ _ ?_⟩
  · have R' := R.more (N.length - vs.length)
    unfold L2.start
    rw [hl]
    exact R'
  · rw [hφ] at h
    unfold L2.start
    exact body_post (by omega) (by rw [hl]) R h
def argSV : List AR → Env → Option (List SV)
  | [], _ => some []
  | .val d :: r, ρ => (argSV r ρ).map (.one (.frz d) :: ·)
  | .slot i :: r, ρ => match ρ[i]? with
    | some (some sv) => (argSV r ρ).map (sv :: ·)
    | _ => none
  | .pt ds :: r, ρ => (argSV r ρ).map (.pt ds :: ·)
def slotsOf : List AR → List Nat
  | [] => []
  | .val _ :: r => slotsOf r
  | .slot i :: r => i :: slotsOf r
  | .pt _ :: r => slotsOf r
/-- which argument slot i is -/
def argIx (i : Nat) : List AR → Option Nat
  | [] => none
  | .val _ :: r => (argIx i r).map (· + 1)
  | .slot k :: r => if k = i then some 0 else (argIx i r).map (· + 1)
  | .pt _ :: r => (argIx i r).map (· + 1)
def putOuts (as : List AR) (outs ρ : Env) : Env := ρ.mapIdx fun i x => match argIx i as with
  | some j => (outs[j]?).join
  | none => x
def gCall (φ : List SV → Out (Res × Env)) (ga : Env → Out (List AR × Env)) : Env → Out (Res × Env) := fun ρ => (ga ρ).bind fun a => match argSV a.1 a.2 with
  | some as => if (slotsOf a.1).Nodup then (match φ as with
    | .ok (r, outs) => .ok (r, putOuts a.1 outs a.2)
    | .exc x outs => .exc x (putOuts a.1 outs a.2)
    | .stuck => .stuck) else .stuck
  | none => .stuck
theorem argIx_some {i : Nat} : ∀ {as : List AR} {j : Nat}, argIx i as = some j → as[j]? = some (.slot i)
  | [], _, h => by cases h
  | .val _ :: r, j, h => by
    unfold argIx at h
    rw [Option.map_eq_some_iff] at h
    obtain ⟨j', h1, rfl⟩ := h
    rw [List.getElem?_cons_succ]
    exact argIx_some h1
  | .slot k :: r, j, h => by
    unfold argIx at h
    split at h
    · rename_i e; cases h; rw [e]; rfl
    · rw [Option.map_eq_some_iff] at h
      obtain ⟨j', h1, rfl⟩ := h
      rw [List.getElem?_cons_succ]
      exact argIx_some h1
  | .pt _ :: r, j, h => by
    unfold argIx at h
    rw [Option.map_eq_some_iff] at h
    obtain ⟨j', h1, rfl⟩ := h
    rw [List.getElem?_cons_succ]
    exact argIx_some h1
theorem argIx_mem {i : Nat} : ∀ {as : List AR}, i ∈ slotsOf as ↔ (argIx i as).isSome = true
  | [] => by simp [slotsOf, argIx]
  | .val _ :: r => by
    unfold slotsOf argIx
    rw [Option.isSome_map]
    exact argIx_mem
  | .slot k :: r => by
    unfold slotsOf argIx
    by_cases e : k = i
    · rw [if_pos e, e]; simp
    · rw [if_neg e, Option.isSome_map, List.mem_cons, argIx_mem (as := r)]
      exact ⟨fun h => h.elim (fun q => absurd q.symm e) id, .inr⟩
  | .pt _ :: r => by
    unfold slotsOf argIx
    rw [Option.isSome_map]
    exact argIx_mem
theorem slot_mem {i : Nat} : ∀ {as : List AR} {j : Nat}, as[j]? = some (.slot i) → i ∈ slotsOf as
  | [], _, h => by simp at h
  | .val _ :: r, 0, h => by simp at h
  | .val _ :: r, j + 1, h => slot_mem (as := r) (by simpa using h)
  | .slot k :: r, 0, h => by
    simp at h
    unfold slotsOf
    rw [h]
    exact List.mem_cons_self
  | .slot k :: r, j + 1, h => List.mem_cons_of_mem _ (slot_mem (as := r) (by simpa using h))
  | .pt _ :: r, 0, h => by simp at h
  | .pt _ :: r, j + 1, h => slot_mem (as := r) (by simpa using h)
theorem slot_inj {i : Nat} : ∀ {as : List AR} {j k : Nat}, (slotsOf as).Nodup → as[j]? = some (.slot i) → as[k]? = some (.slot i) → j = k
  | [], _, _, _, h, _ => by simp at h
  | .val _ :: r, 0, _, _, h, _ => by simp at h
  | .val _ :: r, _ + 1, 0, _, _, h => by simp at h
  | .val _ :: r, j + 1, k + 1, nd, h1, h2 => congrArg (· + 1) (slot_inj (as := r) nd (by simpa using h1) (by simpa using h2))
  | .slot u :: r, 0, 0, _, _, _ => rfl
  | .slot u :: r, 0, k + 1, nd, h1, h2 => by
    simp at h1
    subst h1
    exact absurd (slot_mem (as := r) (by simpa using h2)) (List.nodup_cons.mp nd).1
  | .slot u :: r, j + 1, 0, nd, h1, h2 => by
    simp at h2
    subst h2
    exact absurd (slot_mem (as := r) (by simpa using h1)) (List.nodup_cons.mp nd).1
  | .slot u :: r, j + 1, k + 1, nd, h1, h2 => congrArg (· + 1) (slot_inj (as := r) (List.nodup_cons.mp nd).2 (by simpa using h1) (by simpa using h2))
  | .pt _ :: r, 0, _, _, h, _ => by simp at h
  | .pt _ :: r, _ + 1, 0, _, _, h => by simp at h
  | .pt _ :: r, j + 1, k + 1, nd, h1, h2 => congrArg (· + 1) (slot_inj (as := r) nd (by simpa using h1) (by simpa using h2))
/-- where the callee's arguments are owned -/
def callA (as : List AR) (A : Ad) : Ad := fun j => match as[j]? with
  | some (.slot i) => A i
  | _ => []
theorem argSV_get {F : Hp} {σ : L2.St} {ρ : Env} : ∀ {vs : List V} {as : List AR} {svs : List SV}, ARel F σ vs as → argSV as ρ = some svs → vs.length = svs.length ∧ ∀ (j : Nat) sv, svs[j]? = some sv →
    ∃ v, vs[j]? = some v ∧ ((∃ d, as[j]? = some (.val d) ∧ sv = .one (.frz d) ∧ Rp F v d) ∨ (∃ i, as[j]? = some (.slot i) ∧ ρ[i]? = some (some sv) ∧ σ[i]? = some (some v)) ∨ ∃ ds, as[j]? = some (.pt ds) ∧ sv = .pt ds ∧ PlainT F v ds)
  | _, _, _, .nil, e => by
    cases e
    exact ⟨rfl, fun j sv h => by simp at h⟩
  | _, _, _, .cons (b := a) h r, e => by
    cases a with
    | val d =>
      unfold argSV at e
      rw [Option.map_eq_some_iff] at e
      obtain ⟨svs, e1, rfl⟩ := e
      obtain ⟨hl, q⟩ := argSV_get r e1
      refine ⟨by rw [List.length_cons, List.length_cons, hl], fun j sv hj => ?_⟩
      cases j with
      | zero => simp at hj; exact ⟨_, rfl, .inl ⟨d, rfl, hj.symm, h⟩⟩
      | succ j => exact q j sv (by simpa using hj)
    | slot i =>
      unfold argSV at e
      split at e
      · rename_i sv0 hi
        rw [Option.map_eq_some_iff] at e
        obtain ⟨svs, e1, rfl⟩ := e
        obtain ⟨hl, q⟩ := argSV_get r e1
        refine ⟨by rw [List.length_cons, List.length_cons, hl], fun j sv hj => ?_⟩
        cases j with
        | zero => simp at hj; exact ⟨_, rfl, .inr (.inl ⟨i, rfl, by rw [hi, hj], h⟩)⟩
        | succ j => exact q j sv (by simpa using hj)
      · cases e
    | pt ds =>
      unfold argSV at e
      rw [Option.map_eq_some_iff] at e
      obtain ⟨svs, e1, rfl⟩ := e
      obtain ⟨hl, q⟩ := argSV_get r e1
      refine ⟨by rw [List.length_cons, List.length_cons, hl], fun j sv hj => ?_⟩
      cases j with
      | zero => simp at hj; exact ⟨_, rfl, .inr (.inr ⟨ds, rfl, hj.symm, h⟩)⟩
      | succ j => exact q j sv (by simpa using hj)
theorem argSV_len {F : Hp} {σ : L2.St} {vs : List V} {as : List AR} (h : ARel F σ vs as) : vs.length = as.length := Paired.length h
theorem callRel {F H : Hp} {σ : L2.St} {ρ : Env} {A : Ad} {vs : List V} {as : List AR} {svs : List SV} (R : Rel F H σ ρ A) (r : ARel F σ vs as) (e : argSV as ρ = some svs) (nd : (slotsOf as).Nodup) : Rel F H (vs.map some) (svs.map some) (callA as A) := by
  obtain ⟨hl, q⟩ := argSV_get r e
  refine ⟨R.sub, by rw [List.length_map, List.length_map, hl], fun j sv h => ?_, fun j h => ?_, fun j p h => ?_, fun j k p h1 h2 => ?_, fun j => ?_⟩
  · rw [List.getElem?_map, Option.map_eq_some_iff] at h
    obtain ⟨sv', h1, h2⟩ := h
    cases h2
    obtain ⟨v, hv, g⟩ := q j _ h1
    refine ⟨v, by rw [List.getElem?_map, hv]; rfl, ?_⟩
    unfold callA
    rcases g with ⟨d, g1, rfl, g3⟩ | ⟨i, g1, g2, g3⟩ | ⟨ds, g1, rfl, g3⟩
    · rw [g1]; exact ⟨rfl, g3⟩
    · rw [g1]
      obtain ⟨u, f1, f2⟩ := R.own i _ g2
      rw [g3] at f1
      cases f1
      exact f2
    · rw [g1]; exact ⟨rfl, g3⟩
  · unfold callA
    split
    · rename_i i hi
      have hj : j < svs.length := by rw [← hl, argSV_len r]; exact (List.getElem?_eq_some_iff.mp hi).1
      exact absurd (by rw [List.getElem?_map, List.getElem?_eq_getElem hj]; rfl) (h svs[j])
    · rfl
  · unfold callA at h
    split at h
    · exact R.free _ p h
    · cases h
  · unfold callA at h1 h2
    split at h1
    · rename_i i hi
      split at h2
      · rename_i i' hi'
        have e := R.dis _ _ p h1 h2
        subst e
        exact slot_inj nd hi hi'
      · cases h2
    · cases h1
  · unfold callA
    split
    · exact R.nd _
    · exact List.nodup_nil
/-- the caller's slots behind the call -/
theorem backRel {F H F' H' : Hp} {σ : L2.St} {ρ outs : Env} {A A' : Ad} {vs : List V} {as : List AR} (R : Rel F H σ ρ A) (r : ARel F σ vs as) (nd : (slotsOf as).Nodup) (R' : Rel F' H' (vs.map some) outs A') (x : Ext F H (callA as A) F' H' A') (hrho : ∀ i ∈ slotsOf as, i < ρ.length) :
    ∃ A2, Rel F' H' σ (putOuts as outs ρ) A2 ∧ Ext F H A F' H' A2 ∧ ∀ z res, GRes H (callA as A) F' H' A' z res → GRes H A F' H' A2 z res := by
  have inA : ∀ j p, p ∈ callA as A j → ∃ i, as[j]? = some (.slot i) ∧ p ∈ A i := fun j p h => by
    unfold callA at h
    split at h
    · rename_i i hi; exact ⟨i, hi, h⟩
    · cases h
  have no : ∀ i p, argIx i as = none → p ∈ A i → (∀ j, p ∉ callA as A j) := fun i p hn hp j hj => by
    obtain ⟨i', h1, h2⟩ := inA j p hj
    have e := R.dis i i' p hp h2
    subst e
    have := argIx_mem.mp (slot_mem h1)
    rw [hn] at this; cases this
  have ar : ∀ i j, argIx i as = some j → ∃ v, vs[j]? = some v ∧ σ[i]? = some (some v) := fun i j h => by
    have h1 := argIx_some h
    have hj := (List.getElem?_eq_some_iff.mp h1).1
    rw [← argSV_len r] at hj
    refine ⟨vs[j], List.getElem?_eq_getElem hj, ?_⟩
    obtain ⟨b, hb, g⟩ := paired_get r (List.getElem?_eq_getElem hj)
    rw [h1] at hb
    cases hb
    exact g
  refine ⟨fun i => match argIx i as with | some j => A' j | none => A i, ⟨R'.sub, ?_, fun i sv e => ?_, fun i h => ?_, fun i p hp => ?_, fun i k p h1 h2 => ?_, fun i => ?_⟩, ⟨x.f, fun p o e n => ?_, fun p h => ?_, fun i p h => ?_, x.dom⟩, fun z res g => ?_⟩
  · unfold putOuts; rw [List.length_mapIdx]; exact R.len
  · unfold putOuts at e
    rw [List.getElem?_mapIdx, Option.map_eq_some_iff] at e
    obtain ⟨y, hy, e⟩ := e
    cases hx : argIx i as with
    | some j =>
      rw [hx] at e
      have e : (outs[j]?).join = some sv := e
      have e' : outs[j]? = some (some sv) := by
        cases q : outs[j]? with
        | none => rw [q] at e; cases e
        | some o => rw [q] at e; exact congrArg some e
      obtain ⟨v, g1, g2⟩ := R'.own j sv e'
      obtain ⟨u, f1, f2⟩ := ar i j hx
      rw [List.getElem?_map, f1] at g1
      cases g1
      exact ⟨_, f2, g2⟩
    | none =>
      rw [hx] at e
      have e : y = some sv := e
      subst e
      obtain ⟨v, g1, g2⟩ := R.own i sv hy
      exact ⟨v, g1, g2.mono x.f fun p hp o q => x.h p o q (no i p hx hp)⟩
  · show (match argIx i as with | some j => A' j | none => A i) = []
    cases hx : argIx i as with
    | some j =>
      refine R'.off j fun sv e => ?_
      have hi : i < ρ.length := hrho i (argIx_mem.mpr (by rw [hx]; rfl))
      refine h sv ?_
      unfold putOuts
      rw [List.getElem?_mapIdx, List.getElem?_eq_getElem hi, Option.map_some, hx]
      show some (outs[j]?).join = _
      rw [e]; rfl
    | none =>
      refine R.off i fun sv e => h sv ?_
      unfold putOuts
      rw [List.getElem?_mapIdx, e, Option.map_some, hx]
  · have hp : p ∈ (match argIx i as with | some j => A' j | none => A i) := hp
    cases hx : argIx i as with
    | some j => rw [hx] at hp; exact R'.free j p hp
    | none =>
      rw [hx] at hp
      by_cases z : F' p = none
      · exact z
      · rcases x.new p z with q | q | ⟨j, q⟩
        · exact absurd (R.free i p hp) q
        · exact absurd q (R.nw hp)
        · exact absurd q (no i p hx hp j)
  · have h1 : p ∈ (match argIx i as with | some j => A' j | none => A i) := h1
    have h2 : p ∈ (match argIx k as with | some j => A' j | none => A k) := h2
    have cross : ∀ i k j, argIx i as = some j → argIx k as = none → p ∈ A' j → p ∈ A k → False := fun i k j hi hk a b => by
      rcases x.ow j p a with ⟨u, q⟩ | q
      · exact no k p hk b u q
      · exact R.there b q
    cases hi : argIx i as with
    | some j =>
      rw [hi] at h1
      cases hk : argIx k as with
      | some l =>
        rw [hk] at h2
        have e := R'.dis j l p h1 h2
        subst e
        have a := argIx_some hi
        rw [argIx_some hk] at a
        exact (AR.slot.inj (Option.some.inj a)).symm
      | none => rw [hk] at h2; exact (cross i k j hi hk h1 h2).elim
    | none =>
      rw [hi] at h1
      cases hk : argIx k as with
      | some l => rw [hk] at h2; exact (cross k i l hk hi h2 h1).elim
      | none => rw [hk] at h2; exact R.dis i k p h1 h2
  · show (match argIx i as with | some j => A' j | none => A i).Nodup
    cases argIx i as with
    | some j => exact R'.nd j
    | none => exact R.nd i
  · refine x.h p o e fun j hj => ?_
    obtain ⟨i, _, q⟩ := inA j p hj
    exact n i q
  · rcases x.new p h with q | q | ⟨j, q⟩
    · exact .inl q
    · exact .inr (.inl q)
    · obtain ⟨i, _, q⟩ := inA j p q
      exact .inr (.inr ⟨i, q⟩)
  · have h : p ∈ (match argIx i as with | some j => A' j | none => A i) := h
    cases hx : argIx i as with
    | some j =>
      rw [hx] at h
      rcases x.ow j p h with ⟨u, q⟩ | q
      · obtain ⟨i', _, q⟩ := inA u p q
        exact .inl ⟨i', q⟩
      · exact .inr q
    | none => rw [hx] at h; exact .inl ⟨i, h⟩
  · cases res with
    | old s => cases s <;> exact g
    | new sv =>
      obtain ⟨O, h1, h2, h3⟩ := g
      refine ⟨O, h1, h2, fun p hp => ?_⟩
      obtain ⟨a, b, c⟩ := h3 p hp
      refine ⟨a, fun i hi => ?_, ?_⟩
      · have hi : p ∈ (match argIx i as with | some j => A' j | none => A i) := hi
        cases hx : argIx i as with
        | some j => rw [hx] at hi; exact b j hi
        | none =>
          rw [hx] at hi
          rcases c with ⟨u, q⟩ | q
          · exact no i p hx hi u q
          · exact R.there hi q
      · rcases c with ⟨u, q⟩ | q
        · obtain ⟨i', _, q⟩ := inA u p q
          exact .inl ⟨i', q⟩
        · exact .inr q
theorem argSV_lt {ρ : Env} : ∀ {as : List AR} {svs : List SV}, argSV as ρ = some svs → ∀ i ∈ slotsOf as, i < ρ.length
  | [], _, _, i, h => by cases h
  | .val _ :: r, svs, e, i, h => by
    unfold argSV at e
    rw [Option.map_eq_some_iff] at e
    obtain ⟨s, e1, _⟩ := e
    exact argSV_lt e1 i h
  | .slot k :: r, svs, e, i, h => by
    unfold argSV at e
    split at e
    · rename_i sv hk
      rw [Option.map_eq_some_iff] at e
      obtain ⟨s, e1, _⟩ := e
      rcases List.mem_cons.mp h with q | q
      · rw [q]; exact (List.getElem?_eq_some_iff.mp hk).1
      · exact argSV_lt e1 i q
    · cases e
  | .pt _ :: r, svs, e, i, h => by
    unfold argSV at e
    rw [Option.map_eq_some_iff] at e
    obtain ⟨s, e1, _⟩ := e
    exact argSV_lt e1 i h
theorem passAll {X : Cx} {E : XK} : Passes CX0 X E := fun _ _ _ _ _ _ _ h => h.elim
/-- a callee by its mirror -/
theorem call_run {mg : Str → Option Value} {E : XW} {n : Nat} {φ : List SV → Out (Res × Env)} {ga : Env → Out (List AR × Env)} {ta : TA} {F H : Hp} {σ : L2.St} {ρ : Env} {A : Ad} {Q : VK}
    (q : ∀ F H σ ρ A, Rel F H σ ρ A → ∀ Q : List V → Hp → Prop, APost mg E F H σ A Q (ga ρ) → ta σ H Q) (R : Rel F H σ ρ A) (hn : ∀ ρ as ρ', ga ρ = .ok (as, ρ') → as.length = n) (h : GPost mg E F H σ A Q (gCall φ ga ρ)) :
    ta σ H fun vs H1 => spM mg n φ vs H1 Q E := by
  refine q F H σ ρ A R _ ?_
  unfold gCall at h
  cases e : ga ρ with
  | stuck => rw [e] at h; exact h
  | exc x ρ' => rw [e] at h; exact h
  | ok b =>
    obtain ⟨as, ρ1⟩ := b
    rw [e] at h
    intro vs F1 H1 A1 R1 x1 r1
    have h : GPost mg E F H σ A Q (match argSV as ρ1 with
      | some svs => if (slotsOf as).Nodup then (match φ svs with
        | .ok (r, outs) => .ok (r, putOuts as outs ρ1)
        | .exc x outs => .exc x (putOuts as outs ρ1)
        | .stuck => .stuck) else .stuck
      | none => .stuck) := h
    split at h
    · rename_i svs hs
      split at h
      · rename_i nd
        have Rc := callRel R1 r1 hs nd
        refine ⟨by rw [argSV_len r1]; exact hn _ _ _ e, F1, svs, _, Rc, ?_⟩
        have hlt := argSV_lt hs
        cases ep : φ svs with
        | stuck => rw [ep] at h; exact h.elim
        | ok c =>
          obtain ⟨r, outs⟩ := c
          rw [ep] at h
          intro z F2 H2 A2 R2 x2 g2
          obtain ⟨A3, R3, x3, k3⟩ := backRel R1 r1 nd R2 x2 hlt
          exact h z F2 H2 A3 R3 (x1.trans x3) ((k3 z r g2).back x1)
        | exc x outs =>
          rw [ep] at h
          intro C d F2 H2 A2 hC R2 x2 xd
          obtain ⟨A3, R3, x3, k3⟩ := backRel R1 r1 nd R2 x2 hlt
          exact h C d F2 H2 A3 hC R3 (x1.trans x3) xd
      · exact h.elim
    · exact h.elim
section
variable {X : Cx} {E : XW} {pos : Pos} {CX : CXT} {k : Nat} {f : Addr} {fd : FuncData} {ps : List Str} {φ : List SV → Out (Res × Env)}
theorem gx_call {x : Str} {p : Pos} {e : Expr} {es : List Expr} {ga : Env → Out (List AR × Env)} (F : FnOk X.prog X.w X.K X.mg X.base CX k f fd ps (spM X.mg ps.length φ)) (hr : Room k X.A) (hm : X.mg x = some (.ref f)) (hk : PySem.W.keepIn X.K (.ref f) = true) (hb : Binds X.K fd ps []) (hx : Passes CX X E)
    (ha : MA X E (e :: es) ga) (hn : ∀ ρ as ρ', ga ρ = .ok (as, ρ') → as.length = ps.length) (hg : Gl X x := by rfl)
    (hdb : (x == ("__debug__" : Str)) = false := by decide) (he : starEach (e :: es) X.env = (false, eval e X.env) :: starEach es X.env := by rfl) (hpl : (backTo pos (starEach es X.env)).any (·.1) = false := by rfl) : GX X E (.Call (.Name x p) (e :: es) [] pos) (gCall φ ga) := by
  obtain ⟨t, pa, q⟩ := ha
  refine ⟨_, pe_call F hr hg hm hk hb .nil hx pa hdb he hpl, fun F0 H σ ρ A R Q h => ?_⟩
  have z := call_run q R hn h
  unfold tCall
  simp only [List.append_nil]
  exact z
end
end
end Mm
namespace Mm
open PySem PySem.Spec L2
set_option autoImplicit false
theorem PE.weak {X : Cx} {e : Expr} {t t' : TE} (h : PE X e t) (w : ∀ σ H Q, t' σ H Q → t σ H Q) : PE X e t' := ⟨fun pins s σ H Q I q => h.run pins s σ H Q I (w σ H Q q)⟩
theorem PG.weak {X : Cx} {e : Expr} {t t' : TG} (h : PG X e t) (w : ∀ v σ H Q, t' v σ H Q → t v σ H Q) : PG X e t' := ⟨fun pins s σ H v u Q I r q => h.run pins s σ H v u Q I r (w v σ H Q q)⟩
theorem PTs.weak {X : Cx} {e : List Expr} {t t' : TT} (h : PTs X e t) (w : ∀ σ H Q, t' σ H Q → t σ H Q) : PTs X e t' := ⟨fun pins s σ H Q I q => h.run pins s σ H Q I (w σ H Q q)⟩
/-- a clause's tests -/
def CXs (X : Cx) (E : XW) (ifs : List Expr) (g : Env → Out (Bool × Env)) : Prop :=
  ∃ t, PTs X ifs t ∧ ∀ F H σ ρ A, Rel F H σ ρ A → ∀ Q : Bool → Hp → Prop, TPost X.mg E F H σ A Q (g ρ) → t σ H Q
def tTrue : Env → Out (Bool × Env) := fun ρ => .ok (true, ρ)
section
variable {X : Cx} {E : XW}
theorem cx_nil : CXs X E [] tTrue := ⟨_, pts_nil, fun F H σ ρ A R Q h => h F H A R (.refl F H A)⟩
end
def wipeE (ρ : Env) (vs : List Nat) : Env := ρ.mapIdx fun i x => if vs.contains i = true then none else x
/-- behind the block: they are as they were, where they held what stands still -/
def unwipe (vs : List Nat) (ρ ρ' : Env) : Env := ρ'.mapIdx fun i x => if vs.contains i = true then (match ρ[i]? with
  | some (some (.one (.frz d))) => some (.one (.frz d))
  | _ => none) else x
theorem wipe_in {σ : L2.St} {i : Nat} : ∀ {vs : List Nat}, i ∈ vs → i < σ.length → (wipe σ vs)[i]? = some none
  | [], h, _ => by cases h
  | v :: vs, h, hl => by
    unfold wipe
    by_cases e : v = i
    · subst e
      rw [List.getElem?_set_self (by rw [wipe_length]; exact hl)]
    · rw [List.getElem?_set_ne e]
      exact wipe_in ((List.mem_cons.mp h).resolve_left fun q => e q.symm) hl
theorem wipe_eq {σ σ' : L2.St} {ts vs : List Nat} (o : Only ts (wipe σ vs) σ') (h : ∀ i ∈ ts, i ∈ vs) : wipe σ' vs = wipe σ vs := by
  apply List.ext_getElem?
  intro i
  have hl : σ'.length = σ.length := by rw [o.1, wipe_length]
  by_cases hi : i ∈ vs
  · by_cases hz : i < σ.length
    · rw [wipe_in hi (by omega), wipe_in hi hz]
    · rw [List.getElem?_eq_none (by rw [wipe_length]; omega), List.getElem?_eq_none (by rw [wipe_length]; omega)]
  · rw [wipe_out hi, o.2 i fun q => hi (h i q)]
def wipeA (A : Ad) (vs : List Nat) : Ad := fun i => if vs.contains i = true then [] else A i
theorem wipeA_sub {A : Ad} {vs : List Nat} {i : Nat} {p : Addr} (h : p ∈ wipeA A vs i) : p ∈ A i := by
  unfold wipeA at h
  split at h
  · cases h
  · exact h
theorem wipeE_get {ρ : Env} {vs : List Nat} {i : Nat} {sv : SV} (h : (wipeE ρ vs)[i]? = some (some sv)) : ρ[i]? = some (some sv) ∧ vs.contains i = false := by
  unfold wipeE at h
  rw [List.getElem?_mapIdx, Option.map_eq_some_iff] at h
  obtain ⟨x, h1, h2⟩ := h
  split at h2
  · cases h2
  · rename_i hc
    rw [h1, h2]
    exact ⟨rfl, by simpa using hc⟩
theorem Rel.wiped {F H : Hp} {σ : L2.St} {ρ : Env} {A : Ad} (R : Rel F H σ ρ A) (vs : List Nat) : Rel F H (wipe σ vs) (wipeE ρ vs) (wipeA A vs) where
  sub := R.sub
  len := by unfold wipeE; rw [List.length_mapIdx, wipe_length]; exact R.len
  own := fun i sv e => by
    obtain ⟨e1, e2⟩ := wipeE_get e
    obtain ⟨v, h1, h2⟩ := R.own i sv e1
    have hi : i ∉ vs := fun z => by rw [List.contains_iff_mem.mpr z] at e2; cases e2
    refine ⟨v, by rw [wipe_out hi]; exact h1, ?_⟩
    unfold wipeA
    rw [if_neg (by rw [e2]; exact Bool.false_ne_true)]
    exact h2
  off := fun i h => by
    unfold wipeA
    split
    · rfl
    · rename_i hc
      refine R.off i fun sv e => h sv ?_
      unfold wipeE
      rw [List.getElem?_mapIdx, e, Option.map_some, if_neg hc]
  free := fun i p h => R.free i p (wipeA_sub h)
  dis := fun i j p h1 h2 => R.dis i j p (wipeA_sub h1) (wipeA_sub h2)
  nd := fun i => by
    unfold wipeA
    split
    · exact List.nodup_nil
    · exact R.nd i
theorem Ext.wiped {F H : Hp} {A : Ad} (vs : List Nat) : Ext F H A F H (wipeA A vs) := (Ext.refl F H A).drop fun i p h => .inl ⟨i, wipeA_sub h⟩
/-- back in the def -/
theorem Rel.unwiped {F H F' H' : Hp} {σ : L2.St} {ρ ρ' : Env} {A A' : Ad} {vs : List Nat} (R : Rel F H σ ρ A) (R' : Rel F' H' (wipe σ vs) (wipeE ρ' vs) A') (s : Same F F') (hl : ρ'.length = ρ.length) : Rel F' H' σ (unwipe vs ρ ρ') A' where
  sub := R'.sub
  len := by unfold unwipe; rw [List.length_mapIdx, hl]; exact R.len
  own := fun i sv e => by
    unfold unwipe at e
    rw [List.getElem?_mapIdx, Option.map_eq_some_iff] at e
    obtain ⟨x, e1, e2⟩ := e
    split at e2
    · rename_i hc
      split at e2
      · rename_i d hd
        cases e2
        obtain ⟨v, h1, h2⟩ := R.own i _ hd
        have hA : A' i = [] := R'.off i fun sv e => by
          have := (wipeE_get e).2
          rw [hc] at this; cases this
        exact ⟨v, h1, hA, h2.2.mono s⟩
      · cases e2
    · rename_i hc
      subst e2
      have hi : i ∉ vs := fun z => hc (List.contains_iff_mem.mpr z)
      obtain ⟨v, h1, h2⟩ := R'.own i sv (by unfold wipeE; rw [List.getElem?_mapIdx, e1, Option.map_some, if_neg hc])
      rw [wipe_out hi] at h1
      exact ⟨v, h1, h2⟩
  off := fun i h => by
    refine R'.off i fun sv e => ?_
    obtain ⟨e1, e2⟩ := wipeE_get e
    refine h sv ?_
    unfold unwipe
    rw [List.getElem?_mapIdx, e1, Option.map_some, if_neg (by rw [e2]; exact Bool.false_ne_true)]
  free := R'.free
  dis := R'.dis
  nd := R'.nd
def loopC (vs : List Nat) (b : PD → Env → Option Env) (t : Env → Out (Bool × Env)) (g : Env → Out (PD × Env)) : List PD → List PD → Env → Option (List PD × Env)
  | [], acc, ρ => some (acc, ρ)
  | x :: xs, acc, ρ => (b x (wipeE ρ vs)).bind fun ρ1 => match t ρ1 with
    | .ok (true, ρ2) => (match g ρ2 with
      | .ok (d, ρ3) => if acc.length < sizeLine then loopC vs b t g xs (acc ++ [d]) ρ3 else none
      | _ => none)
    | .ok (false, ρ2) => loopC vs b t g xs acc ρ2
    | _ => none
def gComp (vs : List Nat) (it : Env → Out (List PD × Env)) (b : PD → Env → Option Env) (t : Env → Out (Bool × Env)) (g : Env → Out (PD × Env)) : Env → Out (Res × Env) := fun ρ =>
  (it ρ).bind fun a => match loopC vs b t g a.1 [] a.2 with
    | some (acc, ρ') => if ρ'.length = a.2.length then .ok (rL acc, unwipe vs a.2 ρ') else .stuck
    | none => .stuck
abbrev NoE : XW := fun _ _ _ => False
section
variable {X : Cx} {E : XW} {S : List Nat} {pos : Pos}
/-- what a block's own judgements say, whatever block it is -/
def Blk (X : Cx) (scope : Scope) (J : Cx → Prop) : Prop := ∀ (s : Shared) (H : Hp) (C : Addr) (cl : List (Str × Addr)) (fp : List Addr), J (X.blk s H scope (compEnvC scope cl C X.env) fp)
theorem comp_run {wi : TI} {it : Env → Out (List PD × Env)} {b : PD → Env → Option Env} {t : Env → Out (Bool × Env)} {g : Env → Out (PD × Env)} {vs ts : List Nat} {gg : TG} {tt : TT} {te : TE} {mg : Str → Option Value} {n : Nat}
    (qi : ∀ F H σ ρ A, Rel F H σ ρ A → ∀ R : It → Hp → Prop, IPost mg E F H σ A R (it ρ) → wi σ H R) (hts : ∀ i ∈ ts, i ∈ vs)
    (qg : ∀ F H σ ρ A v d, Rel F H σ ρ A → Rp F v d → σ.length = n → ∀ ρ', b d ρ = some ρ' → ∀ Q : L2.St → Hp → Prop, (∀ σ' A', Rel F H σ' ρ' A' → Ext F H A F H A' → Only ts σ σ' → Q σ' H) → gg v σ H Q)
    (qt : ∀ F H σ ρ A, Rel F H σ ρ A → ∀ Q : Bool → Hp → Prop, TPost mg NoE F H σ A Q (t ρ) → tt σ H Q)
    (qe : ∀ F H σ ρ A, Rel F H σ ρ A → ∀ Q : VK, VPost mg NoE F H σ A Q (g ρ) → te σ H Q)
    {F H : Hp} {σ : L2.St} {ρ : Env} {A : Ad} (R : Rel F H σ ρ A) (hn : σ.length = n) (Q : VK) (h : GPost mg E F H σ A Q (gComp vs it b t g ρ)) : tLc wi gg tt te vs σ H Q := by
  refine qi F H σ ρ A R _ ?_
  unfold gComp at h
  cases ei : it ρ with
  | stuck => rw [ei] at h; exact h
  | exc x ρ' => rw [ei] at h; exact h
  | ok q =>
    obtain ⟨ds, ρ1⟩ := q
    rw [ei] at h
    intro J F1 H1 A1 R1 x1 ok D hD
    have h : GPost mg E F H σ A Q (match loopC vs b t g ds [] ρ1 with
      | some (acc, ρ') => if ρ'.length = ρ1.length then .ok (rL acc, unwipe vs ρ1 ρ') else .stuck
      | none => .stuck) := h
    cases el : loopC vs b t g ds [] ρ1 with
    | none => rw [el] at h; exact h.elim
    | some q =>
    obtain ⟨accE, ρE⟩ := q
    rw [el] at h
    have h : GPost mg E F H σ A Q (if ρE.length = ρ1.length then .ok (rL accE, unwipe vs ρ1 ρE) else .stuck) := h
    have fD : F1 D = none := R1.sub.free hD
    have nD : ∀ i, D ∉ A1 i := fun i hi => R1.there hi hD
    have xD := pure_new (o := .lst []) R1.sub hD
    refine ⟨fun i m H' => m = ds.length - i ∧ i ≤ ds.length ∧ ∃ F' ρ' A' va acc, Rel F' H' (wipe σ vs) (wipeE ρ' vs) A' ∧ Same F1 F' ∧ Ext F1 H1 (wipeA A1 vs) F' H' A' ∧ H' D = some (.lst va) ∧ F' D = none ∧ (∀ k, D ∉ A' k) ∧ RpL F' va acc ∧ loopC vs b t g (ds.drop i) acc ρ' = some (accE, ρE),
      ⟨ds.length, by simp, Nat.zero_le _, F1, ρ1, wipeA A1 vs, [], [], (R1.pure xD).wiped vs, .refl F1, xD.ext _, upd_same, fD, fun k z => nD k (wipeA_sub z), .nil, el⟩, ?_⟩
    rintro i m H2 ⟨rfl, hi, F2, ρ2, A2, va, acc, R2, s2, x2, hD2, fD2, nD2, ra, h2⟩
    obtain ⟨stop, go⟩ := ok F2 H2 s2 R2.sub i
    have keep : ∀ {F' H' A'}, Ext F2 H2 A2 F' H' A' → H' D = some (.lst va) ∧ F' D = none ∧ ∀ k, D ∉ A' k := fun {F' H' A'} y => by
      refine ⟨y.h D _ hD2 nD2, ?_, fun k z => ?_⟩
      · by_cases z : F' D = none
        · exact z
        · rcases y.new D z with q | q | ⟨j, q⟩
          · exact absurd fD2 q
          · rcases q with q | ⟨us, q⟩ <;> rw [hD2] at q <;> cases q
          · exact absurd q (nD2 j)
      · rcases y.ow k D z with ⟨j, q⟩ | q
        · exact nD2 j q
        · rw [hD2] at q; cases q
    by_cases hlt : i < ds.length
    · obtain ⟨go, yl⟩ := go _ (List.getElem?_eq_getElem hlt)
      refine .inr ⟨go, fun H' => ∃ F' ρ' A' va acc, Rel F' H' (wipe σ vs) (wipeE ρ' vs) A' ∧ Same F1 F' ∧ Ext F1 H1 (wipeA A1 vs) F' H' A' ∧ H' D = some (.lst va) ∧ F' D = none ∧ (∀ k, D ∉ A' k) ∧ RpL F' va acc ∧ loopC vs b t g (ds.drop (i + 1)) acc ρ' = some (accE, ρE), fun H' hN => ⟨ds.length - (i + 1), by omega, rfl, hlt, hN⟩, fun x H3 hy => ?_⟩
      obtain ⟨F3, x3, r3⟩ := yl x H3 hy
      rw [List.drop_eq_getElem_cons hlt] at h2
      unfold loopC at h2
      rw [Option.bind_eq_some_iff] at h2
      obtain ⟨ρ3, eb, h2⟩ := h2
      refine qg F3 H3 (wipe σ vs) (wipeE ρ2 vs) A2 x _ (R2.pure x3) r3 (by rw [wipe_length]; exact hn) ρ3 eb _ fun σ4 A4 R4 x4 o4 => ?_
      have y4 := (x3.ext A2).trans x4
      refine ⟨wipe_eq o4 hts, ?_⟩
      refine qt F3 H3 σ4 ρ3 A4 R4 _ ?_
      -- the turn's end: the block's slots are forgotten
      have fin : ∀ {F' H' A' ρ'}, Rel F' H' σ4 ρ' A' → Rel F' H' (wipe σ vs) (wipeE ρ' vs) (wipeA A' vs) := fun {F' H' A' ρ'} R' => by
        have q := R'.wiped vs
        rw [wipe_eq o4 hts] at q
        exact q
      cases et : t ρ3 with
      | stuck => rw [et] at h2; cases h2
      | exc x ρ' => rw [et] at h2; cases h2
      | ok q =>
        obtain ⟨c, ρ5⟩ := q
        rw [et] at h2
        intro F5 H5 A5 R5 x5
        have y5 := y4.trans x5
        cases c with
        | false =>
          have h2 : loopC vs b t g (ds.drop (i + 1)) acc ρ5 = some (accE, ρE) := h2
          rw [if_neg Bool.false_ne_true]
          obtain ⟨k1, k2, k3⟩ := keep y5
          exact ⟨F5, ρ5, _, va, acc, fin R5, s2.trans y5.f, (x2.trans y5).trans (Ext.wiped vs), k1, k2, fun k z => k3 k (wipeA_sub z), ra.mono y5.f, h2⟩
        | true =>
          rw [if_pos rfl]
          refine qe F5 H5 σ4 ρ5 A5 R5 _ ?_
          have h2 : (match g ρ5 with
            | .ok (d, ρ3) => if acc.length < sizeLine then loopC vs b t g (ds.drop (i + 1)) (acc ++ [d]) ρ3 else none
            | _ => none) = some (accE, ρE) := h2
          cases eg : g ρ5 with
          | stuck => rw [eg] at h2; cases h2
          | exc x ρ' => rw [eg] at h2; cases h2
          | ok q =>
            obtain ⟨d, ρ6⟩ := q
            rw [eg] at h2
            have h2 : (if acc.length < sizeLine then loopC vs b t g (ds.drop (i + 1)) (acc ++ [d]) ρ6 else none) = some (accE, ρE) := h2
            split at h2
            · rename_i hz
              intro z F6 H6 A6 R6 x6 r6
              have y6 := y5.trans x6
              obtain ⟨k1, k2, k3⟩ := keep y6
              have k6 : ∀ k, D ∉ wipeA A6 vs k := fun k z => k3 k (wipeA_sub z)
              refine ⟨va, k1, by rw [ra.length]; exact hz, F6, ρ6, wipeA A6 vs, va ++ [z], acc ++ [d], ?_, s2.trans y6.f, ?_, upd_same, k2, k6, (ra.mono y6.f).append (.cons r6 .nil), h2⟩
              · have q := fin R6
                refine ⟨fun p o e => ?_, q.len, fun k sv e => ?_, q.off, q.free, q.dis, q.nd⟩
                · rw [upd_ne (ne_of_none e k2)]; exact q.sub p o e
                · obtain ⟨v, h1, h2⟩ := q.own k sv e
                  exact ⟨v, h1, h2.mono (.refl F6) fun p hp o e => by rw [upd_ne (fun z => k6 k (by rw [← z]; exact hp))]; exact e⟩
              · have y := (x2.trans y6).trans (Ext.wiped (A := A6) vs)
                refine ⟨y.f, fun p o e n => ?_, y.new, y.ow, fun p hp => ?_⟩
                · rw [upd_ne (ne_of_none e hD)]; exact y.h p o e n
                · by_cases hp' : p = D
                  · rw [hp', upd_same]; simp
                  · rw [upd_ne hp']; exact y.dom p hp
            · cases h2
    · refine .inl ⟨stop (by omega), ?_⟩
      rw [List.drop_of_length_le (by omega)] at h2
      cases h2
      split at h
      · rename_i hl
        have x12 : Ext F1 H1 A1 F2 H2 A2 := (Ext.wiped vs).trans x2
        have g2 : GRes H1 A1 F2 H2 A2 (.ref D) (rL accE) := ⟨[D], ⟨D, va, rfl, rfl, hD2, ra⟩, by simp, fun p hp => by
          rw [List.mem_singleton.mp hp]
          exact ⟨fD2, nD2, .inr hD⟩⟩
        exact h _ F2 H2 A2 (R1.unwiped R2 x2.f hl) (x1.trans x12) (g2.back x1)
      · exact h.elim
open Classical in
/-- one reading for all blocks -/
theorem blk_mg {scope : Scope} {tg : Expr} {ts : List Nat} {b : PD → Env → Option Env} (h : Blk X scope fun Y => MG Y [] tg ts b) : ∃ g, (∀ (s : Shared) (H : Hp) (C : Addr) (cl : List (Str × Addr)) (fp : List Addr), PG (X.blk s H scope (compEnvC scope cl C X.env) fp) tg g) ∧
    ∀ F H σ ρ A v d, Rel F H σ ρ A → Rp F v d → σ.length = X.N.length → ∀ ρ', b d ρ = some ρ' → ∀ Q : L2.St → Hp → Prop, (∀ σ' A', Rel F H σ' ρ' A' → Ext F H A F H A' → Only ts σ σ' → Q σ' H) → g v σ H Q :=
  ⟨fun v σ H Q => ∀ s H0 C cl fp, (h s H0 C cl fp).choose v σ H Q, fun s H0 C cl fp => PG.weak (h s H0 C cl fp).choose_spec.1 fun v σ H Q q => q s H0 C cl fp,
    fun F H σ ρ A v d R r hn ρ' e Q k s H0 C cl fp => (h s H0 C cl fp).choose_spec.2 F H σ ρ A v d R r hn ρ' e Q fun σ' A' a b _ o => k σ' A' a b o⟩
theorem blk_cx {scope : Scope} {ifs : List Expr} {t : Env → Out (Bool × Env)} (h : Blk X scope fun Y => CXs Y NoE ifs t) : ∃ tt, (∀ (s : Shared) (H : Hp) (C : Addr) (cl : List (Str × Addr)) (fp : List Addr), PTs (X.blk s H scope (compEnvC scope cl C X.env) fp) ifs tt) ∧
    ∀ F H σ ρ A, Rel F H σ ρ A → ∀ Q : Bool → Hp → Prop, TPost X.mg NoE F H σ A Q (t ρ) → tt σ H Q :=
  ⟨fun σ H Q => ∀ s H0 C cl fp, (h s H0 C cl fp).choose σ H Q, fun s H0 C cl fp => PTs.weak (h s H0 C cl fp).choose_spec.1 fun σ H Q q => q s H0 C cl fp,
    fun F H σ ρ A R Q k s H0 C cl fp => (h s H0 C cl fp).choose_spec.2 F H σ ρ A R Q k⟩
theorem blk_vx {scope : Scope} {e : Expr} {g : Env → Out (PD × Env)} (h : Blk X scope fun Y => VX Y NoE e g) : ∃ te, (∀ (s : Shared) (H : Hp) (C : Addr) (cl : List (Str × Addr)) (fp : List Addr), PE (X.blk s H scope (compEnvC scope cl C X.env) fp) e te) ∧
    ∀ F H σ ρ A, Rel F H σ ρ A → ∀ Q : VK, VPost X.mg NoE F H σ A Q (g ρ) → te σ H Q :=
  ⟨fun σ H Q => ∀ s H0 C cl fp, (h s H0 C cl fp).choose σ H Q, fun s H0 C cl fp => PE.weak (h s H0 C cl fp).choose_spec.1 fun σ H Q q => q s H0 C cl fp,
    fun F H σ ρ A R Q k s H0 C cl fp => (h s H0 C cl fp).choose_spec.2 F H σ ρ A R Q k⟩
section
variable {elt tg iter : Expr} {ifs : List Expr} {scope : Scope} {own : List (Str × Nat)} {it : Env → Out (List PD × Env)} {b : PD → Env → Option Env} {t : Env → Out (Bool × Env)} {g : Env → Out (PD × Env)} {ts : List Nat}
theorem gx_comp (hc : X.calm = true) (hN : X.N.Nodup) (own : List (Str × Nat)) (ok : blkC X.N X.env.scope scope own = true) (hi : IX X E tg iter it) (hg : Blk X scope fun Y => MG Y [] tg ts b) (ht : Blk X scope fun Y => CXs Y NoE ifs t) (he : Blk X scope fun Y => VX Y NoE elt g)
    (hts : ts.all ((own.map (·.2)).contains ·) = true := by rfl) (hs : ∀ x, foldedSetIterable iter X.env x = pure x := by intro _; rfl) : GX X E (.ListComp elt [⟨tg, iter, ifs, 0⟩] scope pos) (gComp (own.map (·.2)) it b t g) := by
  obtain ⟨wi, pi, qi⟩ := hi
  obtain ⟨gg, pg, qg⟩ := blk_mg hg
  obtain ⟨tt, pt, qt⟩ := blk_cx ht
  obtain ⟨te, pe, qe⟩ := blk_vx he
  exact ⟨_, pe_len (pe_lc hc hN pi (blkOk_by ok) pg pt pe hs), fun F H σ ρ A R Q h hz => comp_run qi (fun i hi => List.contains_iff_mem.mp (List.all_eq_true.mp hts i hi)) qg qt qe R hz Q h⟩
/-- y = [..] on one line -/
theorem ms_comp {i : Nat} {y : Str} {py spos : Pos} (hc : X.calm = true) (hN : X.N.Nodup) (own : List (Str × Nat)) (ok : blkC X.N X.env.scope scope own = true) (hi : IX X E tg iter it) (hg : Blk X scope fun Y => MG Y [] tg ts b) (ht : Blk X scope fun Y => CXs Y NoE ifs t) (he : Blk X scope fun Y => VX Y NoE elt g)
    (hsw : swapsWith (.ListComp elt [⟨tg, iter, ifs, 0⟩] scope pos) (some (.Name y py)) spos.line X.env = pure true) (hy : X.N[i]? = some y := by rfl) (hyl : X.env.scope.names.lookup y = some .local := by rfl)
    (hS : S.contains i = false := by rfl) (hts : ts.all ((own.map (·.2)).contains ·) = true := by rfl) (hs : ∀ x, foldedSetIterable iter X.env x = pure x := by intro _; rfl) :
    MS X E S (.Assign [.Name y py] (.ListComp elt [⟨tg, iter, ifs, 0⟩] scope pos) spos) (mSet i (gComp (own.map (·.2)) it b t g)) := by
  obtain ⟨wi, pi, qi⟩ := hi
  obtain ⟨gg, pg, qg⟩ := blk_mg hg
  obtain ⟨tt, pt, qt⟩ := blk_cx ht
  obtain ⟨te, pe, qe⟩ := blk_vx he
  have hl : i < X.N.length := (List.getElem?_eq_some_iff.mp hy).1
  refine ⟨_, ps_len (ps_setLc hc hN hy hyl hsw pi (blkOk_by ok) pg pt pe hs), fun F H σ ρ A R D h hz => ?_⟩
  exact set_run (mg := X.mg) (te := fun σ H Q => σ.length = X.N.length → tLc wi gg tt te (own.map (·.2)) σ H Q) (fun F H σ ρ A R Q h hz => comp_run qi (fun i hi => List.contains_iff_mem.mp (List.all_eq_true.mp hts i hi)) qg qt qe R hz Q h) hS hl R hz h hz
end
end
end Mm
namespace Mm
open PySem PySem.Spec L2
set_option autoImplicit false
def OwnL (F H : Hp) : List V → List S1 → Prop := Paired fun v s => ∃ O, Own1 F H v s O
def PXs (X : Cx) (es : List Expr) (p : Env → Option (List S1)) : Prop :=
  ∃ t, PA X es t ∧ ∀ F H σ ρ A rs, Rel F H σ ρ A → p ρ = some rs → ∀ Q : List V → Hp → Prop, (∀ vs F' H', PureX F H F' H' → OwnL F' H' vs rs → Q vs H') → t σ H Q
def psNil : Env → Option (List S1) := fun _ => some []
def psCons (p : Env → Option Res) (ps : Env → Option (List S1)) : Env → Option (List S1) := fun ρ => (p ρ).bind fun r => r.s1.bind fun s => (ps ρ).bind fun ss => some (s :: ss)
def Res.pv (r : Res) : Option PD := match r with
  | .old (.frz d) => some d
  | .new (.one s) => s.pd
  | _ => none
def pVal (p : Env → Option Res) : Env → Option PD := fun ρ => (p ρ).bind Res.pv
def PV (X : Cx) (e : Expr) (q : Env → Option PD) : Prop :=
  ∃ t, PE X e t ∧ ∀ F H σ ρ A d, Rel F H σ ρ A → q ρ = some d → ∀ Q : VK, (∀ z F' H', PureX F H F' H' → Rp F' z d → Q z H') → t σ H Q
def PVs (X : Cx) (es : List Expr) (q : Env → Option (List PD)) : Prop :=
  ∃ t, PA X es t ∧ ∀ F H σ ρ A ds, Rel F H σ ρ A → q ρ = some ds → ∀ Q : List V → Hp → Prop, (∀ vs F' H', PureX F H F' H' → RpL F' vs ds → Q vs H') → t σ H Q
def vsNil : Env → Option (List PD) := fun _ => some []
def vsCons (q : Env → Option PD) (qs : Env → Option (List PD)) : Env → Option (List PD) := fun ρ => (q ρ).bind fun d => (qs ρ).bind fun ds => some (d :: ds)
/-- a result stands still from now on -/
theorem pres_frz {F H F' H' : Hp} {z : V} {r : Res} {d : PD} (x : PureX F H F' H') (p : PRes F' H' H z r) (e : r.pv = some d) : ∃ F2, PureX F H F2 H' ∧ Rp F2 z d := by
  cases r with
  | old s =>
    cases s <;> cases e
    exact ⟨F', x, frz_of p⟩
  | new sv =>
    cases sv with
    | one s =>
      obtain ⟨O, h1, h2, h3⟩ := p
      have hf : ∀ p ∈ O, F' p = none := fun p hp => (h3 p hp).2
      refine ⟨addF F' H' O, ⟨x.f.trans (addF_same hf), x.h, addF_sub x.sub, fun p hp => ?_⟩, h1.freeze e hf⟩
      unfold addF at hp
      by_cases q : p ∈ O
      · exact .inr (.inl (h3 p q).1)
      · rw [if_neg q] at hp; exact x.new p hp
    | _ => cases e
section
variable {X : Cx} {E : XW} {S : List Nat} {pos : Pos} {e : Expr} {es : List Expr}
theorem xs_nil : PXs X [] psNil := ⟨_, pa_nil, fun F H σ ρ A rs R h Q k => by cases h; exact k [] F H (.refl R.sub) .nil⟩
theorem xs_cons {p : Env → Option Res} {ps : Env → Option (List S1)} (h1 : PX X e p) (h2 : PXs X es ps) (hs : starEach (e :: es) X.env = (false, eval e X.env) :: starEach es X.env := by rfl) : PXs X (e :: es) (psCons p ps) := by
  obtain ⟨t, pe, q⟩ := h1
  obtain ⟨ts, pes, qs⟩ := h2
  refine ⟨_, pa_cons pe pes hs, fun F H σ ρ A rs R h Q k => ?_⟩
  unfold psCons at h
  simp only [Option.bind_eq_some_iff] at h
  obtain ⟨r, e1, s, e2, ss, e3, e4⟩ := h
  cases e4
  refine q F H σ ρ A r R e1 _ fun z F1 H1 x1 p1 => ?_
  exact qs F1 H1 σ ρ A ss (R.pure x1) e3 _ fun vs F2 H2 x2 o2 => k (z :: vs) F2 H2 (x1.trans x2) (.cons (own_pure x2 (p1.s1 e2)) o2)
theorem pv_px {p : Env → Option Res} (h : PX X e p) : PV X e (pVal p) := by
  obtain ⟨t, pe, q⟩ := h
  refine ⟨t, pe, fun F H σ ρ A d R h Q k => ?_⟩
  unfold pVal at h
  rw [Option.bind_eq_some_iff] at h
  obtain ⟨r, e1, e2⟩ := h
  refine q F H σ ρ A r R e1 _ fun z F1 H1 x1 p1 => ?_
  obtain ⟨F2, x2, r2⟩ := pres_frz x1 p1 e2
  exact k z F2 H1 x2 r2
theorem vs_nil : PVs X [] vsNil := ⟨_, pa_nil, fun F H σ ρ A rs R h Q k => by cases h; exact k [] F H (.refl R.sub) .nil⟩
theorem vs_cons {q : Env → Option PD} {qs : Env → Option (List PD)} (h1 : PV X e q) (h2 : PVs X es qs) (hs : starEach (e :: es) X.env = (false, eval e X.env) :: starEach es X.env := by rfl) : PVs X (e :: es) (vsCons q qs) := by
  obtain ⟨t, pe, q⟩ := h1
  obtain ⟨ts, pes, qs⟩ := h2
  refine ⟨_, pa_cons pe pes hs, fun F H σ ρ A rs R h Q k => ?_⟩
  unfold vsCons at h
  simp only [Option.bind_eq_some_iff] at h
  obtain ⟨d, e1, ds, e3, e4⟩ := h
  cases e4
  refine q F H σ ρ A d R e1 _ fun z F1 H1 x1 p1 => ?_
  exact qs F1 H1 σ ρ A ds (R.pure x1) e3 _ fun vs F2 H2 x2 o2 => k (z :: vs) F2 H2 (x1.trans x2) (.cons (p1.mono x2.f) o2)
def gPV (q : Env → Option PD) : Env → Out (PD × Env) := fun ρ => match q ρ with
  | some d => .ok (d, ρ)
  | none => .stuck
theorem vx_pv {q : Env → Option PD} (h : PV X e q) : VX X E e (gPV q) := by
  obtain ⟨t, pe, q⟩ := h
  refine ⟨t, pe, fun F H σ ρ A R Q h => ?_⟩
  unfold gPV at h
  split at h
  · rename_i d hd
    exact q F H σ ρ A d R hd _ fun z F1 H1 x1 p1 => h z F1 H1 A (R.pure x1) (x1.ext A) p1
  · exact h.elim
def FnN (r : List V → Hp → VK → Prop) (φ : List S1 → Option Res) : Prop :=
  ∀ (F H : Hp) (vs : List V) (ss : List S1) (res : Res), Same F H → OwnL F H vs ss → φ ss = some res → ∀ Q : VK, (∀ z F' H', PureX F H F' H' → PRes F' H' H z res → Q z H') → r vs H Q
def pN (φ : List S1 → Option Res) (ps : Env → Option (List S1)) : Env → Option Res := fun ρ => (ps ρ).bind φ
def gN (φ : List S1 → Option Res) (ga : Env → Out (List AR × Env)) : Env → Out (Res × Env) := fun ρ => (ga ρ).bind fun a => match arVals a.1 with
  | some ds => lift (φ (ds.map .frz)) a.2
  | none => .stuck
theorem rpl_own {F H : Hp} : ∀ {vs : List V} {ds : List PD}, RpL F vs ds → OwnL F H vs (ds.map .frz)
  | _, _, .nil => .nil
  | _, _, .cons r rs => .cons (own_frz r) (rpl_own rs)
theorem pN_run {ta : TA} {r : List V → Hp → VK → Prop} {φ : List S1 → Option Res} {ps : Env → Option (List S1)} (hf : FnN r φ)
    (q : ∀ F H σ ρ A rs, Rel F H σ ρ A → ps ρ = some rs → ∀ Q : List V → Hp → Prop, (∀ vs F' H', PureX F H F' H' → OwnL F' H' vs rs → Q vs H') → ta σ H Q)
    {F H : Hp} {σ : L2.St} {ρ : Env} {A : Ad} {res : Res} (R : Rel F H σ ρ A) (h : pN φ ps ρ = some res) (Q : VK) (k : ∀ z F' H', PureX F H F' H' → PRes F' H' H z res → Q z H') : ta σ H fun vs H1 => r vs H1 Q := by
  unfold pN at h
  rw [Option.bind_eq_some_iff] at h
  obtain ⟨ss, e1, e2⟩ := h
  refine q F H σ ρ A ss R e1 _ fun vs F1 H1 x1 o1 => ?_
  exact hf F1 H1 vs ss res x1.sub o1 e2 Q fun z F2 H2 x2 p2 => k z F2 H2 (x1.trans x2) (p2.back (F := F) x1.h)
theorem gN_run {ta : TA} {r : List V → Hp → VK → Prop} {φ : List S1 → Option Res} {ga : Env → Out (List AR × Env)} (hf : FnN r φ) {mg : Str → Option Value}
    (q : ∀ F H σ ρ A, Rel F H σ ρ A → ∀ Q : List V → Hp → Prop, APost mg E F H σ A Q (ga ρ) → ta σ H Q)
    {F H : Hp} {σ : L2.St} {ρ : Env} {A : Ad} (R : Rel F H σ ρ A) (Q : VK) (h : GPost mg E F H σ A Q (gN φ ga ρ)) : ta σ H fun vs H1 => r vs H1 Q := by
  refine q F H σ ρ A R _ ?_
  unfold gN at h
  cases e : ga ρ with
  | stuck => rw [e] at h; exact h
  | exc x ρ' => rw [e] at h; exact h
  | ok b =>
    obtain ⟨as, ρ1⟩ := b
    rw [e] at h
    intro vs F1 H1 A1 R1 x1 r1
    have h : GPost mg E F H σ A Q (match arVals as with | some ds => lift (φ (ds.map .frz)) ρ1 | none => .stuck) := h
    split at h
    · rename_i ds hd
      have rr := arVals_rp r1 hd
      cases ep : φ (ds.map .frz) with
      | none => rw [ep] at h; exact h.elim
      | some res =>
        rw [ep] at h
        exact hf F1 H1 vs _ res R1.sub (rpl_own rr) ep Q fun z F2 H2 x2 p2 => lift_post R1 (h.ext x1) x2 p2
    · exact h.elim
section
variable {r : List V → Hp → VK → Prop} {φ : List S1 → Option Res} {x : Str} {p : Pos} {id T : String}
theorem px_callB {ps : Env → Option (List S1)} (hc : CallR X (.builtin id) r) (hf : FnN r φ) (hg : Gl X x) (hm : X.mg x = none) (hv : bootBuiltins x = some (.builtin id)) (ha : PXs X (e :: es) ps) (hn : x ≠ "__name__" := by decide) (hdb : (x == ("__debug__" : Str)) = false := by decide)
    (he : starEach (e :: es) X.env = (false, eval e X.env) :: starEach es X.env := by rfl) (hpl : (backTo pos (starEach es X.env)).any (·.1) = false := by rfl) : PX X (.Call (.Name x p) (e :: es) [] pos) (pN φ ps) := by
  obtain ⟨t, pa, q⟩ := ha
  exact ⟨_, pe_callB hc hg hm hv pa hn hdb he hpl, fun F H σ ρ A res R h Q k => pN_run hf q R h Q k⟩
theorem gx_callB {ga : Env → Out (List AR × Env)} (hc : CallR X (.builtin id) r) (hf : FnN r φ) (hg : Gl X x) (hm : X.mg x = none) (hv : bootBuiltins x = some (.builtin id)) (ha : MA X E (e :: es) ga) (hn : x ≠ "__name__" := by decide) (hdb : (x == ("__debug__" : Str)) = false := by decide)
    (he : starEach (e :: es) X.env = (false, eval e X.env) :: starEach es X.env := by rfl) (hpl : (backTo pos (starEach es X.env)).any (·.1) = false := by rfl) : GX X E (.Call (.Name x p) (e :: es) [] pos) (gN φ ga) := by
  obtain ⟨t, pa, q⟩ := ha
  exact ⟨_, pe_callB hc hg hm hv pa hn hdb he hpl, fun F H σ ρ A R Q h => gN_run hf q R Q h⟩
theorem px_callTy {ps : Env → Option (List S1)} (hc : CallR X (.type T) r) (hf : FnN r φ) (hg : Gl X x) (hm : X.mg x = none) (hv : bootBuiltins x = some (.type T)) (ha : PXs X (e :: es) ps) (hn : x ≠ "__name__" := by decide) (hdb : (x == ("__debug__" : Str)) = false := by decide)
    (he : starEach (e :: es) X.env = (false, eval e X.env) :: starEach es X.env := by rfl) (hpl : (backTo pos (starEach es X.env)).any (·.1) = false := by rfl) : PX X (.Call (.Name x p) (e :: es) [] pos) (pN φ ps) := by
  obtain ⟨t, pa, q⟩ := ha
  exact ⟨_, pe_callTy hc hg hm hv pa hn hdb he hpl, fun F H σ ρ A res R h Q k => pN_run hf q R h Q k⟩
end
def pTup (qs : Env → Option (List PD)) : Env → Option Res := fun ρ => (qs ρ).bind fun ds => if ds.length ≤ sizeLine then some (rD (.tuple ds)) else none
def pLst (qs : Env → Option (List PD)) : Env → Option Res := fun ρ => (qs ρ).bind fun ds => if ds.length ≤ sizeLine then some (rL ds) else none
theorem px_tup {x1 : Nat} {qs : Env → Option (List PD)} (h : PVs X es qs) : PX X (.Tuple es x1 pos) (pTup qs) := by
  obtain ⟨t, pe, q⟩ := h
  refine ⟨_, pe_tup pe, fun F H σ ρ A r R h Q k => ?_⟩
  unfold pTup at h
  rw [Option.bind_eq_some_iff] at h
  obtain ⟨ds, e1, e2⟩ := h
  split at e2
  · rename_i hz
    cases e2
    refine q F H σ ρ A ds R e1 _ fun vs F1 H1 x1 r1 => ⟨by rw [r1.length]; exact hz, fun p hp => ?_⟩
    have x2 := pure_newF (o := .tup vs) x1.sub hp
    exact k _ _ _ (x1.trans x2) (PRes.back (F := F) x1.h (new_tup x1.sub hp r1))
  · cases e2
theorem px_lst {qs : Env → Option (List PD)} (h : PVs X es qs) : PX X (.List es pos) (pLst qs) := by
  obtain ⟨t, pe, q⟩ := h
  refine ⟨_, pe_lst pe, fun F H σ ρ A r R h Q k => ?_⟩
  unfold pLst at h
  rw [Option.bind_eq_some_iff] at h
  obtain ⟨ds, e1, e2⟩ := h
  split at e2
  · rename_i hz
    cases e2
    refine q F H σ ρ A ds R e1 _ fun vs F1 H1 x1 r1 => ⟨by rw [r1.length]; exact hz, fun p hp => ?_⟩
    have x2 := pure_new (o := .lst vs) x1.sub hp
    exact k _ _ _ (x1.trans x2) (PRes.back (F := F) x1.h (new_lst x1.sub hp r1))
  · cases e2
theorem rel_frz {F H : Hp} (s : Same F H) {vs : List V} {ds : List PD} (r : RpL F vs ds) : Rel F H (vs.map some) ((ds.map fun d => SV.one (.frz d)).map some) fun _ => [] where
  sub := s
  len := by rw [List.length_map, List.length_map, List.length_map, r.length]
  own := fun i sv e => by
    rw [List.getElem?_map, List.getElem?_map] at e
    cases hd : ds[i]? with
    | none => rw [hd] at e; cases e
    | some d =>
      rw [hd] at e
      cases e
      obtain ⟨v, h1, h2⟩ := r.get' hd
      exact ⟨v, by rw [List.getElem?_map, h1]; rfl, rfl, h2⟩
  off := fun _ _ => rfl
  free := fun i p h => by cases h
  dis := fun i j p h => by cases h
  nd := fun _ => List.nodup_nil
def pCall (φ : List SV → Out (Res × Env)) (qs : Env → Option (List PD)) : Env → Option Res := fun ρ => (qs ρ).bind fun ds => match φ (ds.map fun d => .one (.frz d)) with
  | .ok (r, _) => some r
  | _ => none
theorem px_call {CX : CXT} {k : Nat} {f : Addr} {fd : FuncData} {ps : List Str} {φ : List SV → Out (Res × Env)} {x : Str} {p : Pos} {qs : Env → Option (List PD)} (F : FnOk X.prog X.w X.K X.mg X.base CX k f fd ps (spM X.mg ps.length φ)) (hr : Room k X.A) (hm : X.mg x = some (.ref f)) (hk : PySem.W.keepIn X.K (.ref f) = true) (hb : Binds X.K fd ps []) (hx : Passes CX X NoE)
    (ha : PVs X (e :: es) qs) (hn : ∀ ρ ds, qs ρ = some ds → ds.length = ps.length) (hg : Gl X x := by rfl)
    (hdb : (x == ("__debug__" : Str)) = false := by decide) (he : starEach (e :: es) X.env = (false, eval e X.env) :: starEach es X.env := by rfl) (hpl : (backTo pos (starEach es X.env)).any (·.1) = false := by rfl) : PX X (.Call (.Name x p) (e :: es) [] pos) (pCall φ qs) := by
  obtain ⟨t, pa, q⟩ := ha
  refine ⟨_, pe_call F hr hg hm hk hb .nil hx pa hdb he hpl, fun F0 H σ ρ A r R h Q k => ?_⟩
  unfold pCall at h
  rw [Option.bind_eq_some_iff] at h
  obtain ⟨ds, e1, e2⟩ := h
  refine q F0 H σ ρ A ds R e1 _ fun vs F1 H1 x1 r1 => ?_
  simp only [List.append_nil]
  refine ⟨by rw [r1.length]; exact hn _ _ e1, F1, _, _, rel_frz x1.sub r1, ?_⟩
  split at e2
  · rename_i outs ep
    cases e2
    rw [ep]
    intro z F2 H2 A2 R2 x2 g2
    have xp : PureX F1 H1 F2 H2 := ⟨x2.f, fun p o e => x2.h p o e (fun i hi => nomatch hi), R2.sub, fun p hp => by
      rcases x2.new p hp with h | h | ⟨i, h⟩
      · exact .inl h
      · exact .inr h
      · cases h⟩
    refine k z F2 H2 (x1.trans xp) (PRes.back (F := F1) x1.h ?_)
    cases r with
    | old s =>
      cases s with
      | frz d => exact old_res g2
      | _ => exact g2.elim
    | new sv =>
      obtain ⟨O, h1, h2, h3⟩ := g2
      refine ⟨O, h1, h2, fun p hp => ⟨?_, (h3 p hp).1⟩⟩
      rcases (h3 p hp).2.2 with ⟨j, h⟩ | h
      · cases h
      · exact h
  · cases e2
def TP (X : Cx) (e : Expr) (p : Env → Option Bool) : Prop :=
  ∃ t, PT X e t ∧ ∀ F H σ ρ A b, Rel F H σ ρ A → p ρ = some b → ∀ Q : Bool → Hp → Prop, (∀ F' H', PureX F H F' H' → Q b H') → t σ H Q
def WP (X : Cx) (e : Expr) (p : Env → Option Bool) : Prop :=
  ∃ t, PW X e t ∧ ∀ F H σ ρ A b, Rel F H σ ρ A → p ρ = some b → ∀ Q : Bool → Hp → Prop, (∀ F' H', PureX F H F' H' → Q b H') → t σ H Q
def tB (p : Env → Option Res) : Env → Option Bool := fun ρ => (p ρ).bind Res.tr
theorem pres_tr {F H H0 : Hp} {z : V} {r : Res} {b : Bool} (p : PRes F H H0 z r) (e : r.tr = some b) : z = .bl b := by
  cases r with
  | new _ => cases e
  | old s =>
    cases s with
    | frz d =>
      cases d <;> cases e
      exact rp_bool (frz_of p)
    | _ => cases e
theorem tB_run {te : TE} {p : Env → Option Res} (q : ∀ F H σ ρ A r, Rel F H σ ρ A → p ρ = some r → ∀ Q : VK, (∀ z F' H', PureX F H F' H' → PRes F' H' H z r → Q z H') → te σ H Q)
    {F H : Hp} {σ : L2.St} {ρ : Env} {A : Ad} {b : Bool} (R : Rel F H σ ρ A) (h : tB p ρ = some b) {Q : Bool → Hp → Prop} (k : ∀ F' H', PureX F H F' H' → Q b H') : te σ H fun x H' => ∃ k, x = .bl k ∧ Q k H' := by
  unfold tB at h
  rw [Option.bind_eq_some_iff] at h
  obtain ⟨r, e1, e2⟩ := h
  exact q F H σ ρ A r R e1 _ fun z F1 H1 x1 p1 => ⟨b, pres_tr p1 e2, k F1 H1 x1⟩
variable {a b : Expr}
theorem tp_cmp {op : CmpOp} {r : R2} {φ : S1 → S1 → Option Res} {pa pb : Env → Option Res} (ho : OpR X (compareOp op) r) (hf : Fn2 r φ) (ha : PX X a pa) (hb : PX X b pb) (hm : behindInMarks op b = false := by first | exact nomark _ | rfl) : TP X (.Compare a [op] [b] pos) (tB (p2 φ pa pb)) := by
  obtain ⟨ta, ea, qa⟩ := ha
  obtain ⟨tb, eb, qb⟩ := hb
  exact ⟨_, pt_cmpR ho ea eb hm, fun F H σ ρ A c R h Q k => tB_run (fun F H σ ρ A res R h Q k => p2_run hf qa qb R h Q k) R h k⟩
theorem tp_val {p : Env → Option Res} (h : PX X e p) (he : ∀ whole, isTrue e X.env whole = (do let v ← whole; standAt e.pos; holding [v] (truthy v)) := by intro _; rfl) : TP X e (tB p) := by
  obtain ⟨t, pe, q⟩ := h
  exact ⟨_, pt_val pe he, fun F H σ ρ A c R h Q k => tB_run q R h k⟩
theorem tp_w {p : Env → Option Bool} (h : WP X e p) : TP X e p := let ⟨t, p, q⟩ := h; ⟨t, p.pt, q⟩
def tAnd (pa pb : Env → Option Bool) : Env → Option Bool := fun ρ => (pa ρ).bind fun c => if c = true then pb ρ else some false
def tOr (pa pb : Env → Option Bool) : Env → Option Bool := fun ρ => (pa ρ).bind fun c => if c = true then some true else pb ρ
def tNot (pa : Env → Option Bool) : Env → Option Bool := fun ρ => (pa ρ).map fun c => !c
variable {rest : List Expr} {pa pb : Env → Option Bool}
theorem wp_and1 (ha : TP X a pa) : WP X (.BoolOp .And [a] pos) pa := let ⟨t, p, q⟩ := ha; ⟨t, pw_and1 p, q⟩
theorem wp_or1 (ha : TP X a pa) : WP X (.BoolOp .Or [a] pos) pa := let ⟨t, p, q⟩ := ha; ⟨t, pw_or1 p, q⟩
theorem wp_and (ha : TP X a pa) (hb : WP X (.BoolOp .And (b :: rest) pos) pb) : WP X (.BoolOp .And (a :: b :: rest) pos) (tAnd pa pb) := by
  obtain ⟨ta, ea, qa⟩ := ha
  obtain ⟨tb, eb, qb⟩ := hb
  refine ⟨_, pw_and ea eb, fun F H σ ρ A c R h Q k => ?_⟩
  unfold tAnd at h
  rw [Option.bind_eq_some_iff] at h
  obtain ⟨c1, e1, e2⟩ := h
  refine qa F H σ ρ A c1 R e1 _ fun F1 H1 x1 => ?_
  cases c1 with
  | true =>
    rw [if_pos rfl] at e2 ⊢
    exact qb F1 H1 σ ρ A c (R.pure x1) e2 Q fun F2 H2 x2 => k F2 H2 (x1.trans x2)
  | false =>
    rw [if_neg Bool.false_ne_true] at e2 ⊢
    cases e2
    exact k F1 H1 x1
theorem wp_or (ha : TP X a pa) (hb : WP X (.BoolOp .Or (b :: rest) pos) pb) : WP X (.BoolOp .Or (a :: b :: rest) pos) (tOr pa pb) := by
  obtain ⟨ta, ea, qa⟩ := ha
  obtain ⟨tb, eb, qb⟩ := hb
  refine ⟨_, pw_or ea eb, fun F H σ ρ A c R h Q k => ?_⟩
  unfold tOr at h
  rw [Option.bind_eq_some_iff] at h
  obtain ⟨c1, e1, e2⟩ := h
  refine qa F H σ ρ A c1 R e1 _ fun F1 H1 x1 => ?_
  cases c1 with
  | true =>
    rw [if_pos rfl] at e2 ⊢
    cases e2
    exact k F1 H1 x1
  | false =>
    rw [if_neg Bool.false_ne_true] at e2 ⊢
    exact qb F1 H1 σ ρ A c (R.pure x1) e2 Q fun F2 H2 x2 => k F2 H2 (x1.trans x2)
theorem tp_not (ha : TP X a pa) : TP X (.UnaryOp .Not a pos) (tNot pa) := by
  obtain ⟨ta, ea, qa⟩ := ha
  refine ⟨_, pt_not ea, fun F H σ ρ A c R h Q k => ?_⟩
  unfold tNot at h
  rw [Option.map_eq_some_iff] at h
  obtain ⟨c1, e1, rfl⟩ := h
  exact qa F H σ ρ A c1 R e1 _ fun F1 H1 x1 => k F1 H1 x1
def gT (p : Env → Option Bool) : Env → Out (Bool × Env) := fun ρ => match p ρ with
  | some b => .ok (b, ρ)
  | none => .stuck
theorem tx_tp {p : Env → Option Bool} (h : TP X e p) : TX X E e (gT p) := by
  obtain ⟨t, pt, q⟩ := h
  refine ⟨t, pt, fun F H σ ρ A R Q h => ?_⟩
  unfold gT at h
  split at h
  · rename_i b hb
    exact q F H σ ρ A b R hb Q fun F1 H1 x1 => h F1 H1 A (R.pure x1) (x1.ext A)
  · exact h.elim
def pAnd (pa pb : Env → Option Res) : Env → Option Res := fun ρ => (pa ρ).bind fun r => r.tr.bind fun c => if c = true then pb ρ else some (rB false)
def pOr (pa pb : Env → Option Res) : Env → Option Res := fun ρ => (pa ρ).bind fun r => r.tr.bind fun c => if c = true then some (rB true) else pb ρ
def pNot (pa : Env → Option Res) : Env → Option Res := fun ρ => (pa ρ).bind fun r => r.tr.map fun c => rB (!c)
def pIf (t : Env → Option Bool) (pa pb : Env → Option Res) : Env → Option Res := fun ρ => (t ρ).bind fun c => if c = true then pa ρ else pb ρ
variable {ga gb : Env → Option Res}
theorem px_one {op : BoolOp} (h : PX X a ga) : PX X (.BoolOp op [a] pos) ga := let ⟨t, p, q⟩ := h; ⟨t, pe_one p, q⟩
theorem px_and (ha : PX X a ga) (hb : PX X (.BoolOp .And (b :: rest) pos) gb) : PX X (.BoolOp .And (a :: b :: rest) pos) (pAnd ga gb) := by
  obtain ⟨ta, ea, qa⟩ := ha
  obtain ⟨tb, eb, qb⟩ := hb
  refine ⟨_, pe_and ea eb, fun F H σ ρ A r R h Q k => ?_⟩
  unfold pAnd at h
  simp only [Option.bind_eq_some_iff] at h
  obtain ⟨r1, e1, c, e2, e3⟩ := h
  refine qa F H σ ρ A r1 R e1 _ fun z F1 H1 x1 p1 => ⟨c, pres_tr p1 e2, ?_⟩
  cases c with
  | true =>
    rw [if_pos rfl] at e3 ⊢
    exact qb F1 H1 σ ρ A r (R.pure x1) e3 Q fun z F2 H2 x2 p2 => k z F2 H2 (x1.trans x2) (p2.back (F := F) x1.h)
  | false =>
    rw [if_neg Bool.false_ne_true] at e3 ⊢
    cases e3
    exact k _ F1 H1 x1 (old_res (.bl _))
theorem px_not (ha : PX X a ga) : PX X (.UnaryOp .Not a pos) (pNot ga) := by
  obtain ⟨ta, ea, qa⟩ := ha
  refine ⟨_, pe_not ea, fun F H σ ρ A r R h Q k => ?_⟩
  unfold pNot at h
  simp only [Option.bind_eq_some_iff, Option.map_eq_some_iff] at h
  obtain ⟨r1, e1, c, e2, rfl⟩ := h
  exact qa F H σ ρ A r1 R e1 _ fun z F1 H1 x1 p1 => ⟨c, pres_tr p1 e2, k _ F1 H1 x1 (old_res (.bl _))⟩
theorem px_if {c : Expr} {t : Env → Option Bool} (hc : TP X c t) (ha : PX X a ga) (hb : PX X b gb) : PX X (.IfExp c a b pos) (pIf t ga gb) := by
  obtain ⟨tc, ec, qc⟩ := hc
  obtain ⟨ta, ea, qa⟩ := ha
  obtain ⟨tb, eb, qb⟩ := hb
  refine ⟨_, pe_ifExp ec ea eb, fun F H σ ρ A r R h Q k => ?_⟩
  unfold pIf at h
  rw [Option.bind_eq_some_iff] at h
  obtain ⟨c, e1, e2⟩ := h
  refine qc F H σ ρ A c R e1 _ fun F1 H1 x1 => ?_
  cases c with
  | true =>
    rw [if_pos rfl] at e2 ⊢
    exact qa F1 H1 σ ρ A r (R.pure x1) e2 Q fun z F2 H2 x2 p2 => k z F2 H2 (x1.trans x2) (p2.back (F := F) x1.h)
  | false =>
    rw [if_neg Bool.false_ne_true] at e2 ⊢
    exact qb F1 H1 σ ρ A r (R.pure x1) e2 Q fun z F2 H2 x2 p2 => k z F2 H2 (x1.trans x2) (p2.back (F := F) x1.h)
end
end Mm
namespace Mm
open PySem PySem.Spec L2
set_option autoImplicit false
def ItP (F H : Hp) (J : It) (ds : List PD) : Prop :=
  ∀ F1 H1, PureX F H F1 H1 → ∀ i : Nat, (ds.length ≤ i → J.stop i H1) ∧ ∀ d, ds[i]? = some d → J.go i H1 ∧ ∀ x H2, J.yld i H1 x H2 → ∃ F2, PureX F1 H1 F2 H2 ∧ Rp F2 x d
theorem ItOk.p {F H : Hp} {J : It} {ds : List PD} (h : ItOk F J ds) : ItP F H J ds := fun F1 H1 x => h F1 H1 x.f x.sub
def PIX (X : Cx) (tg iter : Expr) (it : Env → Option (List PD)) : Prop :=
  ∃ wi, PI X tg iter wi ∧ ∀ F H σ ρ A ds, Rel F H σ ρ A → it ρ = some ds → ∀ Q : It → Hp → Prop, (∀ J F' H', PureX F H F' H' → ItP F' H' J ds → Q J H') → wi σ H Q
/-- the stronger one: it goes on whatever is changed meanwhile -/
def PIS (X : Cx) (tg iter : Expr) (it : Env → Option (List PD)) : Prop :=
  ∃ wi, PI X tg iter wi ∧ ∀ F H σ ρ A ds, Rel F H σ ρ A → it ρ = some ds → ∀ Q : It → Hp → Prop, (∀ J F' H', PureX F H F' H' → ItOk F' J ds → Q J H') → wi σ H Q
def gI (it : Env → Option (List PD)) : Env → Out (List PD × Env) := fun ρ => match it ρ with
  | some ds => .ok (ds, ρ)
  | none => .stuck
section
variable {X : Cx} {E : XW} {S : List Nat} {pos : Pos} {tg e iter : Expr}
theorem pix_s {it : Env → Option (List PD)} (h : PIS X tg iter it) : PIX X tg iter it := let ⟨wi, pi, q⟩ := h; ⟨wi, pi, fun F H σ ρ A ds R e Q k => q F H σ ρ A ds R e Q fun J F' H' x o => k J F' H' x o.p⟩
theorem ix_s {it : Env → Option (List PD)} (h : PIS X tg iter it) : IX X E tg iter (gI it) := by
  obtain ⟨wi, pi, q⟩ := h
  refine ⟨wi, pi, fun F H σ ρ A R Q h => ?_⟩
  unfold gI at h
  split at h
  · rename_i ds hd
    exact q F H σ ρ A ds R hd Q fun J F' H' x o => h J F' H' A (R.pure x) (x.ext A) o
  · exact h.elim
theorem itP_list {K : PySem.W.Frag} {F H : Hp} {a : Addr} {vs : List V} {ds : List PD} (h : H a = some (.lst vs)) (r : RpL F vs ds) : ItP F H (Itl K a) ds := by
  intro F1 H1 x i
  have q : SqL K H1 a vs := SqL.of (x.h _ _ h)
  refine ⟨fun hi => ⟨vs, q, by rw [r.length]; exact hi⟩, fun d hd => ?_⟩
  obtain ⟨v, hv, rv⟩ := r.get' hd
  refine ⟨⟨vs, v, q, hv⟩, fun x' H2 ⟨e, y⟩ => ?_⟩
  subst e
  have e := y vs q
  rw [hv] at e
  cases e
  exact ⟨F1, .refl x.sub, rv.mono x.f⟩
def iA (f : List PD → Option (List PD)) (qs : Env → Option (List PD)) : Env → Option (List PD) := fun ρ => (qs ρ).bind f
def rng1 : List PD → Option (List PD)
  | [.int j] => if -(2 ^ 62) ≤ j ∧ j < 2 ^ 62 then some (rngD 0 j.toNat) else none
  | _ => none
def rng2 : List PD → Option (List PD)
  | [.int i, .int j] => if -(2 ^ 62) ≤ i ∧ i < 2 ^ 62 ∧ -(2 ^ 62) ≤ j ∧ j < 2 ^ 62 then some (rngD i (j - i).toNat) else none
  | _ => none
theorem pis_rng1 {a : Expr} {p : Pos} {qs : Env → Option (List PD)} (hg : Gl X "range") (hm : X.mg "range" = none) (ha : PVs X [a] qs) (hs : starEach [a] X.env = [(false, eval a X.env)] := by rfl) : PIS X tg (.Call (.Name "range" p) [a] [] pos) (iA rng1 qs) := by
  obtain ⟨t, pe, q⟩ := ha
  refine ⟨_, pi_range1 hg hm pe hs, fun F H σ ρ A ds R h Q k => ?_⟩
  unfold iA at h
  rw [Option.bind_eq_some_iff] at h
  obtain ⟨as, e1, e2⟩ := h
  unfold rng1 at e2
  split at e2
  · split at e2
    · rename_i j hj
      cases e2
      refine q F H σ ρ A _ R e1 _ fun vs F1 H1 x1 r1 => ?_
      cases r1 with
      | cons r rs =>
        cases rs
        cases rp_int r
        exact ⟨j, rfl, hj.1, hj.2, k _ F1 H1 x1 it_rng⟩
    · cases e2
  · cases e2
theorem pis_rng2 {a b : Expr} {p : Pos} {qs : Env → Option (List PD)} (hg : Gl X "range") (hm : X.mg "range" = none) (ha : PVs X [a, b] qs) (hs : starEach [a, b] X.env = [(false, eval a X.env), (false, eval b X.env)] := by rfl) (hs2 : starEach [b] X.env = [(false, eval b X.env)] := by rfl) :
    PIS X tg (.Call (.Name "range" p) [a, b] [] pos) (iA rng2 qs) := by
  obtain ⟨t, pe, q⟩ := ha
  refine ⟨_, pi_range2 hg hm pe hs hs2, fun F H σ ρ A ds R h Q k => ?_⟩
  unfold iA at h
  rw [Option.bind_eq_some_iff] at h
  obtain ⟨as, e1, e2⟩ := h
  unfold rng2 at e2
  split at e2
  · split at e2
    · rename_i i j hj
      cases e2
      refine q F H σ ρ A _ R e1 _ fun vs F1 H1 x1 r1 => ?_
      cases r1 with
      | cons r rs =>
        cases rs with
        | cons r' rs =>
          cases rs
          cases rp_int r
          cases rp_int r'
          exact ⟨i, j, rfl, hj, k _ F1 H1 x1 it_rng⟩
    · cases e2
  · cases e2
def loopP (vs : List Nat) (b : PD → Env → Option Env) (t : Env → Option Bool) (g : Env → Option PD) (ρ : Env) : List PD → Option (List PD)
  | [] => some []
  | x :: xs => (b x (wipeE ρ vs)).bind fun ρ1 => (t ρ1).bind fun c => if c = true then (g ρ1).bind fun d => (loopP vs b t g ρ xs).map (d :: ·) else loopP vs b t g ρ xs
def pComp (vs : List Nat) (it : Env → Option (List PD)) (b : PD → Env → Option Env) (t : Env → Option Bool) (g : Env → Option PD) : Env → Option Res := fun ρ =>
  (it ρ).bind fun ds => if ds.length ≤ sizeLine then (loopP vs b t g ρ ds).map rL else none
/-- a clause's tests -/
def CPs (X : Cx) (ifs : List Expr) (p : Env → Option Bool) : Prop :=
  ∃ t, PTs X ifs t ∧ ∀ F H σ ρ A b, Rel F H σ ρ A → p ρ = some b → ∀ Q : Bool → Hp → Prop, (∀ F' H', PureX F H F' H' → Q b H') → t σ H Q
def tYesP : Env → Option Bool := fun _ => some true
theorem cp_nil : CPs X [] tYesP := ⟨_, pts_nil, fun F H σ ρ A b R h Q k => by cases h; exact k F H (.refl R.sub)⟩
theorem cp_one {c : Expr} {p : Env → Option Bool} (h : TP X c p) : CPs X [c] p := let ⟨t, p, q⟩ := h; ⟨t, pts_one p, q⟩
theorem keepD {F H F' H' : Hp} {D : Addr} {o : HO} (x : PureX F H F' H') (h : H D = some o) (f : F D = none) (ho : ∀ vs, o ≠ .tup vs := by intro _ z; cases z) : H' D = some o ∧ F' D = none := by
  refine ⟨x.h _ _ h, ?_⟩
  by_cases z : F' D = none
  · exact z
  · rcases x.new D z with q | q
    · exact absurd f q
    · rcases q with q | ⟨us, q⟩ <;> rw [h] at q
      · cases q
      · exact absurd (Option.some.inj q) (ho us)
theorem compP_run {wi : TI} {it : Env → Option (List PD)} {b : PD → Env → Option Env} {t : Env → Option Bool} {g : Env → Option PD} {vs ts : List Nat} {gg : TG} {tt : TT} {te : TE} {n : Nat}
    (qi : ∀ F H σ ρ A ds, Rel F H σ ρ A → it ρ = some ds → ∀ Q : It → Hp → Prop, (∀ J F' H', PureX F H F' H' → ItP F' H' J ds → Q J H') → wi σ H Q) (hts : ∀ i ∈ ts, i ∈ vs)
    (qg : ∀ F H σ ρ A v d, Rel F H σ ρ A → Rp F v d → σ.length = n → ∀ ρ', b d ρ = some ρ' → ∀ Q : L2.St → Hp → Prop, (∀ σ' A', Rel F H σ' ρ' A' → Ext F H A F H A' → Only ts σ σ' → Q σ' H) → gg v σ H Q)
    (qt : ∀ F H σ ρ A b, Rel F H σ ρ A → t ρ = some b → ∀ Q : Bool → Hp → Prop, (∀ F' H', PureX F H F' H' → Q b H') → tt σ H Q)
    (qe : ∀ F H σ ρ A d, Rel F H σ ρ A → g ρ = some d → ∀ Q : VK, (∀ z F' H', PureX F H F' H' → Rp F' z d → Q z H') → te σ H Q)
    {F H : Hp} {σ : L2.St} {ρ : Env} {A : Ad} {res : Res} (R : Rel F H σ ρ A) (hn : σ.length = n) (h : pComp vs it b t g ρ = some res) (Q : VK) (k : ∀ z F' H', PureX F H F' H' → PRes F' H' H z res → Q z H') : tLc wi gg tt te vs σ H Q := by
  unfold pComp at h
  rw [Option.bind_eq_some_iff] at h
  obtain ⟨ds, e1, h⟩ := h
  split at h
  case isFalse => cases h
  rename_i hz
  rw [Option.map_eq_some_iff] at h
  obtain ⟨out, e2, rfl⟩ := h
  refine qi F H σ ρ A ds R e1 _ fun J F1 H1 x1 ok D hD => ?_
  have R1 := R.pure x1
  have fD : F1 D = none := x1.sub.free hD
  have xD := pure_new (o := .lst []) x1.sub hD
  refine ⟨fun i m H' => m = ds.length - i ∧ i ≤ ds.length ∧ ∃ F' va acc rest, PureX F1 H1 F' H' ∧ H' D = some (.lst va) ∧ F' D = none ∧ RpL F' va acc ∧ acc.length ≤ i ∧ loopP vs b t g ρ (ds.drop i) = some rest ∧ acc ++ rest = out,
    ⟨ds.length, by simp, Nat.zero_le _, F1, [], [], out, xD, upd_same, fD, .nil, Nat.le_refl 0, e2, rfl⟩, ?_⟩
  rintro i m H2 ⟨rfl, hi, F2, va, acc, rest, x2, hD2, fD2, ra, hal, h2, ho⟩
  obtain ⟨stop, go⟩ := ok F2 H2 x2 i
  by_cases hlt : i < ds.length
  · obtain ⟨go, yl⟩ := go _ (List.getElem?_eq_getElem hlt)
    refine .inr ⟨go, fun H' => ∃ F' va acc rest, PureX F1 H1 F' H' ∧ H' D = some (.lst va) ∧ F' D = none ∧ RpL F' va acc ∧ acc.length ≤ i + 1 ∧ loopP vs b t g ρ (ds.drop (i + 1)) = some rest ∧ acc ++ rest = out, fun H' hN => ⟨ds.length - (i + 1), by omega, rfl, hlt, hN⟩, fun x H3 hy => ?_⟩
    obtain ⟨F3, x3, r3⟩ := yl x H3 hy
    rw [List.drop_eq_getElem_cons hlt] at h2
    unfold loopP at h2
    rw [Option.bind_eq_some_iff] at h2
    obtain ⟨ρ3, eb, h2⟩ := h2
    rw [Option.bind_eq_some_iff] at h2
    obtain ⟨c, ec, h2⟩ := h2
    have x23 := x2.trans x3
    refine qg F3 H3 (wipe σ vs) (wipeE ρ vs) _ x _ ((R1.pure x23).wiped vs) r3 (by rw [wipe_length]; exact hn) ρ3 eb _ fun σ4 A4 R4 x4 o4 => ?_
    refine ⟨wipe_eq o4 hts, ?_⟩
    refine qt F3 H3 σ4 ρ3 A4 c R4 ec _ fun F5 H5 x5 => ?_
    have x25 := x23.trans x5
    have x35 := x3.trans x5
    cases c with
    | false =>
      rw [if_neg Bool.false_ne_true] at h2 ⊢
      obtain ⟨k1, k2⟩ := keepD x35 hD2 fD2
      exact ⟨F5, va, acc, rest, x25, k1, k2, ra.mono x35.f, by omega, h2, ho⟩
    | true =>
      rw [if_pos rfl] at h2 ⊢
      rw [Option.bind_eq_some_iff] at h2
      obtain ⟨d, ed, h2⟩ := h2
      rw [Option.map_eq_some_iff] at h2
      obtain ⟨rest', er, rfl⟩ := h2
      refine qe F5 H5 σ4 ρ3 A4 d (R4.pure x5) ed _ fun z F6 H6 x6 r6 => ?_
      have x36 := x35.trans x6
      obtain ⟨k1, k2⟩ := keepD x36 hD2 fD2
      have x26 := x25.trans x6
      refine ⟨va, k1, by rw [ra.length]; omega, F6, va ++ [z], acc ++ [d], rest', ⟨x26.f, fun p o e => ?_, fun p o e => ?_, x26.new⟩, upd_same, k2, (ra.mono x36.f).append (.cons r6 .nil), by rw [List.length_append]; simp; omega, er, by rw [List.append_assoc]; exact ho⟩
      · rw [upd_ne (ne_of_none e hD)]; exact x26.h p o e
      · rw [upd_ne (ne_of_none e k2)]; exact x26.sub p o e
  · refine .inl ⟨stop (by omega), ?_⟩
    rw [List.drop_of_length_le (by omega)] at h2
    cases h2
    rw [List.append_nil] at ho
    subst ho
    exact k _ F2 H2 (x1.trans x2) ⟨[D], ⟨D, va, rfl, rfl, hD2, ra⟩, by simp, fun p hp => by
      rw [List.mem_singleton.mp hp]
      exact ⟨x1.h.free hD, fD2⟩⟩
open Classical in
theorem blk_cp {scope : Scope} {ifs : List Expr} {t : Env → Option Bool} (h : Blk X scope fun Y => CPs Y ifs t) : ∃ tt, (∀ (s : Shared) (H : Hp) (C : Addr) (cl : List (Str × Addr)) (fp : List Addr), PTs (X.blk s H scope (compEnvC scope cl C X.env) fp) ifs tt) ∧
    ∀ F H σ ρ A b, Rel F H σ ρ A → t ρ = some b → ∀ Q : Bool → Hp → Prop, (∀ F' H', PureX F H F' H' → Q b H') → tt σ H Q :=
  ⟨fun σ H Q => ∀ s H0 C cl fp, (h s H0 C cl fp).choose σ H Q, fun s H0 C cl fp => PTs.weak (h s H0 C cl fp).choose_spec.1 fun σ H Q q => q s H0 C cl fp,
    fun F H σ ρ A b R e Q k s H0 C cl fp => (h s H0 C cl fp).choose_spec.2 F H σ ρ A b R e Q k⟩
theorem blk_pv {scope : Scope} {g : Env → Option PD} (h : Blk X scope fun Y => PV Y e g) : ∃ te, (∀ (s : Shared) (H : Hp) (C : Addr) (cl : List (Str × Addr)) (fp : List Addr), PE (X.blk s H scope (compEnvC scope cl C X.env) fp) e te) ∧
    ∀ F H σ ρ A d, Rel F H σ ρ A → g ρ = some d → ∀ Q : VK, (∀ z F' H', PureX F H F' H' → Rp F' z d → Q z H') → te σ H Q :=
  ⟨fun σ H Q => ∀ s H0 C cl fp, (h s H0 C cl fp).choose σ H Q, fun s H0 C cl fp => PE.weak (h s H0 C cl fp).choose_spec.1 fun σ H Q q => q s H0 C cl fp,
    fun F H σ ρ A d R e Q k s H0 C cl fp => (h s H0 C cl fp).choose_spec.2 F H σ ρ A d R e Q k⟩
/-- the test of a store with freezing -/
abbrev gFz (g : Env → Out (Res × Env)) : Env → Out (Res × Env) := gVx (vGx g)
theorem gpost_fz {mg : Str → Option Value} {F H : Hp} {σ : L2.St} {A : Ad} {Q : VK} {g : Env → Out (Res × Env)} {ρ : Env} (h : GPost mg E F H σ A Q (gFz g ρ)) : GPost mg E F H σ A Q (g ρ) := by
  refine frzR_post ?_
  unfold gFz gVx at h
  show VPost mg E F H σ A Q (vGx g ρ)
  cases e : vGx g ρ with
  | stuck => rw [e] at h; exact h
  | exc x ρ' => rw [e] at h; exact h
  | ok q => rw [e] at h; exact fun z F' H' A' r a g => h z F' H' A' r a g
section
variable {elt : Expr} {ifs : List Expr} {scope : Scope} {it : Env → Option (List PD)} {b : PD → Env → Option Env} {t : Env → Option Bool} {g : Env → Option PD} {ts : List Nat}
theorem px_comp (hc : X.calm = true) (hN : X.N.Nodup) (own : List (Str × Nat)) (ok : blkC X.N X.env.scope scope own = true) (hi : PIX X tg iter it) (hg : Blk X scope fun Y => MG Y [] tg ts b) (ht : Blk X scope fun Y => CPs Y ifs t) (he : Blk X scope fun Y => PV Y elt g)
    (hts : ts.all ((own.map (·.2)).contains ·) = true := by rfl) (hs : ∀ x, foldedSetIterable iter X.env x = pure x := by intro _; rfl) : PX X (.ListComp elt [⟨tg, iter, ifs, 0⟩] scope pos) (pComp (own.map (·.2)) it b t g) := by
  obtain ⟨wi, pi, qi⟩ := hi
  obtain ⟨gg, pg, qg⟩ := blk_mg hg
  obtain ⟨tt, pt, qt⟩ := blk_cp ht
  obtain ⟨te, pe, qe⟩ := blk_pv he
  refine ⟨_, pe_len (pe_lc hc hN pi (blkOk_by ok) pg pt pe hs), fun F H σ ρ A r R h Q k hz => compP_run qi (fun i hi => List.contains_iff_mem.mp (List.all_eq_true.mp hts i hi)) qg qt qe R hz h Q k⟩
/-- the same, what is stored stands still -/
theorem ms_compPF {i : Nat} {y : Str} {py spos : Pos} (hc : X.calm = true) (hN : X.N.Nodup) (own : List (Str × Nat)) (ok : blkC X.N X.env.scope scope own = true) (hi : PIX X tg iter it) (hg : Blk X scope fun Y => MG Y [] tg ts b) (ht : Blk X scope fun Y => CPs Y ifs t) (he : Blk X scope fun Y => PV Y elt g)
    (hsw : swapsWith (.ListComp elt [⟨tg, iter, ifs, 0⟩] scope pos) (some (.Name y py)) spos.line X.env = pure true) (hy : X.N[i]? = some y := by rfl) (hyl : X.env.scope.names.lookup y = some .local := by rfl)
    (hS : S.contains i = false := by rfl) (hts : ts.all ((own.map (·.2)).contains ·) = true := by rfl) (hs : ∀ x, foldedSetIterable iter X.env x = pure x := by intro _; rfl) :
    MS X E S (.Assign [.Name y py] (.ListComp elt [⟨tg, iter, ifs, 0⟩] scope pos) spos) (mSet i (gFz (gPx (pComp (own.map (·.2)) it b t g)))) := by
  obtain ⟨wi, pi, qi⟩ := hi
  obtain ⟨gg, pg, qg⟩ := blk_mg hg
  obtain ⟨tt, pt, qt⟩ := blk_cp ht
  obtain ⟨te, pe, qe⟩ := blk_pv he
  have hl : i < X.N.length := (List.getElem?_eq_some_iff.mp hy).1
  refine ⟨_, ps_len (ps_setLc hc hN hy hyl hsw pi (blkOk_by ok) pg pt pe hs), fun F H σ ρ A R D h hz => ?_⟩
  refine set_run (mg := X.mg) (te := fun σ H Q => σ.length = X.N.length → tLc wi gg tt te (own.map (·.2)) σ H Q) (fun F H σ ρ A R Q h hz => ?_) hS hl R hz h hz
  exact gPx_run (ta := fun σ H Q => σ.length = X.N.length → tLc wi gg tt te (own.map (·.2)) σ H Q) (fun F H σ ρ A r R h Q k hz => compP_run qi (fun i hi => List.contains_iff_mem.mp (List.all_eq_true.mp hts i hi)) qg qt qe R hz h Q k) R Q (gpost_fz h) hz
/-- .. of a comprehension that changes something, what is stored stands still -/
theorem ms_compF {i : Nat} {y : Str} {py spos : Pos} {it : Env → Out (List PD × Env)} {t : Env → Out (Bool × Env)} {g : Env → Out (PD × Env)} (hc : X.calm = true) (hN : X.N.Nodup) (own : List (Str × Nat)) (ok : blkC X.N X.env.scope scope own = true) (hi : IX X E tg iter it) (hg : Blk X scope fun Y => MG Y [] tg ts b) (ht : Blk X scope fun Y => CXs Y NoE ifs t) (he : Blk X scope fun Y => VX Y NoE elt g)
    (hsw : swapsWith (.ListComp elt [⟨tg, iter, ifs, 0⟩] scope pos) (some (.Name y py)) spos.line X.env = pure true) (hy : X.N[i]? = some y := by rfl) (hyl : X.env.scope.names.lookup y = some .local := by rfl)
    (hS : S.contains i = false := by rfl) (hts : ts.all ((own.map (·.2)).contains ·) = true := by rfl) (hs : ∀ x, foldedSetIterable iter X.env x = pure x := by intro _; rfl) :
    MS X E S (.Assign [.Name y py] (.ListComp elt [⟨tg, iter, ifs, 0⟩] scope pos) spos) (mSet i (gFz (gComp (own.map (·.2)) it b t g))) := by
  obtain ⟨wi, pi, qi⟩ := hi
  obtain ⟨gg, pg, qg⟩ := blk_mg hg
  obtain ⟨tt, pt, qt⟩ := blk_cx ht
  obtain ⟨te, pe, qe⟩ := blk_vx he
  have hl : i < X.N.length := (List.getElem?_eq_some_iff.mp hy).1
  refine ⟨_, ps_len (ps_setLc hc hN hy hyl hsw pi (blkOk_by ok) pg pt pe hs), fun F H σ ρ A R D h hz => ?_⟩
  exact set_run (mg := X.mg) (te := fun σ H Q => σ.length = X.N.length → tLc wi gg tt te (own.map (·.2)) σ H Q) (fun F H σ ρ A R Q h hz => comp_run qi (fun i hi => List.contains_iff_mem.mp (List.all_eq_true.mp hts i hi)) qg qt qe R hz Q (gpost_fz h)) hS hl R hz h hz
end
end
end Mm
namespace Mm
open PySem PySem.Spec L2
set_option autoImplicit false
theorem own_dK {F H : Hp} {σ : L2.St} {ρ : Env} {A : Ad} (R : Rel F H σ ρ A) {i : Nat} {xs : List (Key × PD)} (h : ρ[i]? = some (some (.one (.dK xs)))) : ∃ p vs, σ[i]? = some (some (.ref p)) ∧ A i = [p] ∧ H p = some (.dK vs) ∧ RpK F vs xs := by
  obtain ⟨v, h1, h2⟩ := R.own i _ h
  obtain ⟨p, vs, rfl, h3, h4, h5⟩ := h2
  exact ⟨p, vs, h1, h3, h4, h5⟩
theorem own_dT {F H : Hp} {σ : L2.St} {ρ : Env} {A : Ad} (R : Rel F H σ ρ A) {i : Nat} {xs : List (List Key × PD)} (h : ρ[i]? = some (some (.one (.dT xs)))) : ∃ p vs, σ[i]? = some (some (.ref p)) ∧ A i = [p] ∧ H p = some (.dT vs) ∧ RpK F vs xs := by
  obtain ⟨v, h1, h2⟩ := R.own i _ h
  obtain ⟨p, vs, rfl, h3, h4, h5⟩ := h2
  exact ⟨p, vs, h1, h3, h4, h5⟩
theorem PSet.or {X : Cx} {t t' : TSet} (h : PSet X t) (h' : PSet X t') : PSet X (fun o i v H Q => t o i v H Q ∨ t' o i v H Q) := by
  intro pins s σ H o i v ov iv u Q I r1 r2 r3 q
  rcases q with q | q
  · exact h pins s σ H o i v ov iv u Q I r1 r2 r3 q
  · exact h' pins s σ H o i v ov iv u Q I r1 r2 r3 q
def S1.put (s : S1) (k v : PD) : Option S1 := match s with
  | .lst xs => match k with
    | .int j => (ixN xs.length j).map fun n => .lst (xs.set n v)
    | _ => none
  | .dK kvs => (keyOf k).bind fun k => if kvs.length < sizeLine then some (.dK (putD kvs k v)) else none
  | .dT kvs => (tkeyOf k).bind fun k => if kvs.length < sizeLine then some (.dT (putD kvs k v)) else none
  | .frz _ => none
def getS (i : Nat) (ρ : Env) : Option S1 := match ρ[i]? with
  | some (some (.one s)) => some s
  | _ => none
theorem getS_of {i : Nat} {ρ : Env} {s : S1} (h : getS i ρ = some s) : ρ[i]? = some (some (.one s)) := by
  unfold getS at h
  split at h
  · rename_i s' hs; cases h; exact hs
  · cases h
def mPut (i : Nat) (gv gk : Env → Out (PD × Env)) : Env → Out (Fl × Env) := fun ρ => (gv ρ).bind fun v => match v.2[i]? with
  | some (some _) => (gk v.2).bind fun k => match (getS i k.2).bind fun s => s.put k.1 v.1 with
    | some s => .ok (.nx, upSlot i s k.2)
    | none => .stuck
  | _ => .stuck
/-- the write itself -/
theorem put_run {F H : Hp} {σ : L2.St} {ρ : Env} {A : Ad} (R : Rel F H σ ρ A) {i : Nat} {c z y : V} {s s' : S1} {k v : PD} (hs : getS i ρ = some s) (hc : σ[i]? = some (some c)) (rz : Rp F z v) (ry : Rp F y k) (e : s.put k v = some s') {Q : Hp → Prop}
    (q : ∀ H', Rel F H' σ (upSlot i s' ρ) A → Ext F H A F H' A → Q H') : rSetL c y z H Q ∨ rSetD c y z H Q := by
  have hs := getS_of hs
  cases s with
  | frz _ => cases e
  | lst xs =>
    obtain ⟨p, vs, f1, f2, f3, f4⟩ := own_lst R hs
    rw [hc] at f1
    cases f1
    cases k <;> try cases e
    rename_i j
    unfold S1.put at e
    rw [Option.map_eq_some_iff] at e
    obtain ⟨n, e1, rfl⟩ := e
    cases rp_int ry
    refine .inl ⟨p, vs, j, n, rfl, rfl, f3, by rw [f4.length]; exact e1, ?_⟩
    obtain ⟨R2, x2⟩ := R.write (s := .lst (xs.set n v)) (o := .lst (vs.set n z)) hc f2 ⟨p, _, rfl, rfl, upd_same, f4.set n rz⟩
    exact q _ R2 x2
  | dK kvs =>
    obtain ⟨p, vs, f1, f2, f3, f4⟩ := own_dK R hs
    rw [hc] at f1
    cases f1
    unfold S1.put at e
    rw [Option.bind_eq_some_iff] at e
    obtain ⟨k', e1, e2⟩ := e
    split at e2
    · rename_i hz
      cases e2
      cases keyOf_rp ry e1
      refine .inr ⟨p, _, rfl, DPut.k f3 (by rw [f4.length]; exact hz), ?_⟩
      obtain ⟨R2, x2⟩ := R.write (s := .dK (putD kvs k' v)) (o := .dK (putK vs k' z)) hc f2 ⟨p, _, rfl, rfl, upd_same, f4.put rz k'⟩
      exact q _ R2 x2
    · cases e2
  | dT kvs =>
    obtain ⟨p, vs, f1, f2, f3, f4⟩ := own_dT R hs
    rw [hc] at f1
    cases f1
    unfold S1.put at e
    rw [Option.bind_eq_some_iff] at e
    obtain ⟨k', e1, e2⟩ := e
    split at e2
    · rename_i hz
      cases e2
      cases ry with
      | tup h3 h4 =>
        have hb := R.sub _ _ h3
        rw [keysOf_rp h4 e1] at hb
        refine .inr ⟨p, _, rfl, DPut.t f3 hb (by rw [f4.length]; exact hz), ?_⟩
        obtain ⟨R2, x2⟩ := R.write (s := .dT (putD kvs k' v)) (o := .dT (putK vs k' z)) hc f2 ⟨p, _, rfl, rfl, upd_same, f4.put rz k'⟩
        exact q _ R2 x2
      | _ => cases e1
    · cases e2
section
variable {X : Cx} {E : XW} {S : List Nat} {pos : Pos}
theorem ms_put {i : Nat} {x : Str} {p p2 : Pos} {ek ev : Expr} {gv gk : Env → Out (PD × Env)} (hu : X.A.units + 1 < cLine) (hv : VX X E ev gv) (hk : VX X E ek gk) (hN : X.N[i]? = some x := by rfl) (hvis : Vis X.env.scope x := by first | exact Or.inl rfl | exact Or.inr (Or.inl rfl) | exact Or.inr (Or.inr rfl)) (hd : (x == ("__debug__" : Str)) = false := by decide)
    (hcd : (x == ("__classdict__" : Str)) = false := by decide)
    (hs : swapsWithSole [.Subscript (.Name x p) ek p2] ev pos.line X.env = pure false := by rfl) (hw : swappedStores [.Subscript (.Name x p) ek p2] ev X.env = pure none := by rfl)
    (h1 : (assignEach [.Subscript (.Name x p) ek p2] X.env).map (·.2) = [assign (.Subscript (.Name x p) ek p2) X.env] := by rfl)
    (ha : ∀ v, assign (.Subscript (.Name x p) ek p2) X.env v = (do
      let ov ← holding [v] (eval (.Name x p) X.env)
      let iv ← holding [v, ov] (eval ek X.env)
      standAt p2
      holding [v, ov, iv] (setItem ov iv v)
      release [v, ov, iv] []) := by intro _; rfl) : MS X E S (.Assign [.Subscript (.Name x p) ek p2] ev pos) (mPut i gv gk) := by
  obtain ⟨tv, pv, qv⟩ := hv
  obtain ⟨tk, pk, qk⟩ := hk
  refine ⟨_, ps_asg pv (pg_sub (pe_var hN hvis hd hcd) pk (PSet.or set_list (set_dict hu)) ha) hs hw h1, fun F H σ ρ A R D h => qv F H σ ρ A R _ ?_⟩
  unfold mPut at h
  cases e : gv ρ with
  | stuck => rw [e] at h; exact h
  | exc x ρ' => rw [e] at h; exact xpost_s h
  | ok b =>
    obtain ⟨dv, ρ1⟩ := b
    rw [e] at h
    intro z F1 H1 A1 R1 x1 g1
    have h : SPost X.mg E S F H σ A D (match ρ1[i]? with
      | some (some _) => (gk ρ1).bind fun k => match (getS i k.2).bind fun s => s.put k.1 dv with
        | some s => .ok (.nx, upSlot i s k.2)
        | none => .stuck
      | _ => .stuck) := h
    split at h
    · rename_i sv hi
      obtain ⟨c, hc, _⟩ := R1.own i _ hi
      refine ⟨c, hc, qk F1 H1 σ ρ1 A1 R1 _ ?_⟩
      cases e2 : gk ρ1 with
      | stuck => rw [e2] at h; exact h
      | exc x ρ' => rw [e2] at h; exact XPost.ext (xpost_s h) x1
      | ok b =>
        obtain ⟨dk, ρ2⟩ := b
        rw [e2] at h
        intro y F2 H2 A2 R2 x2 g2
        have h : SPost X.mg E S F H σ A D (match (getS i ρ2).bind fun s => s.put dk dv with
          | some s => .ok (.nx, upSlot i s ρ2)
          | none => .stuck) := h
        split at h
        · rename_i s' hs'
          rw [Option.bind_eq_some_iff] at hs'
          obtain ⟨s, e3, e4⟩ := hs'
          exact put_run R2 e3 hc (g1.mono x2.f) g2 e4 fun H' R' x' => h σ F2 H' A2 R' ((x1.trans x2).trans x') (.refl S σ)
        · exact h.elim
    · exact h.elim
def sDAugOf (op : Int → Int → Int) : PD → PD → Option PD := fun a b => match a, b with
  | .int i, .int j => some (.int (op i j))
  | _, _ => none
def mAugD (i : Nat) (op : Int → Int → Int) (qk qv : Env → Option PD) : Env → Out (Fl × Env) := fun ρ => match (getS i ρ).bind fun s => (qk ρ).bind fun k => (s.look k).bind fun o => o.bind fun old => (qv ρ).bind fun v => (sDAugOf op old v).bind fun d => s.put k d with
  | some s => .ok (.nx, upSlot i s ρ)
  | none => .stuck
theorem ms_augD {i : Nat} {x : Str} {p p2 : Pos} {ek ev : Expr} {qk qv : Env → Option PD} {op : Operator} {f : Int → Int → Int} {rd : V → V → Hp → VK → Prop} (hop : InOp X op rd) (hrd : ∀ i j H Q, Q (.int (f i j)) H → rd (.int i) (.int j) H Q) (hu : X.A.units + 1 < cLine) (hk : PV X ek qk) (hv : PV X ev qv)
    (hN : X.N[i]? = some x := by rfl) (hvis : Vis X.env.scope x := by first | exact Or.inl rfl | exact Or.inr (Or.inl rfl) | exact Or.inr (Or.inr rfl)) (hd : (x == ("__debug__" : Str)) = false := by decide) (hcd : (x == ("__classdict__" : Str)) = false := by decide)
    (ha : ∀ ov iv new, augStore ek ov iv new = (do holding [new, ov, iv] (setItem ov iv new); release [new, ov, iv] []; pure .next) := by intros; rfl) : MS X E S (.AugAssign (.Subscript (.Name x p) ek p2) op ev pos) (mAugD i f qk qv) := by
  obtain ⟨tk, pk, qk'⟩ := hk
  obtain ⟨tv, pv, qv'⟩ := hv
  refine ⟨_, ps_daug hu (pe_var hN hvis hd hcd) pk pv hop ha, fun F H σ ρ A R D h => ?_⟩
  unfold mAugD at h
  split at h
  · rename_i s' hs'
    simp only [Option.bind_eq_some_iff] at hs'
    obtain ⟨s, e1, k, e2, o, e3, old, e4, v, e5, d, e6, e7⟩ := hs'
    have hi := getS_of e1
    obtain ⟨c, hc, hown⟩ := R.own i _ hi
    refine ⟨c, hc, qk' F H σ ρ A k R e2 _ fun y F1 H1 x1 ry => ?_⟩
    have R1 := R.pure x1
    obtain ⟨c', hc', hown'⟩ := R1.own i _ hi
    rw [hc] at hc'
    cases hc'
    obtain ⟨a, w, rfl, g, e8, e9⟩ := look_of x1.sub ⟨_, hown'⟩ ry e3
    subst e4
    obtain ⟨vo, rfl, ro⟩ := e9 old rfl
    refine ⟨a, vo, rfl, g, qv' F1 H1 σ ρ A v R1 e5 _ fun z F2 H2 x2 rz => ?_⟩
    have R2 := R1.pure x2
    cases old <;> cases v <;> cases e6
    rename_i i1 j1
    cases rp_int ro
    cases rp_int rz
    refine hrd i1 j1 H2 _ ?_
    rcases put_run (z := .int (f i1 j1)) R2 e1 hc (.int _) (ry.mono x2.f) e7 (Q := fun H' => D.nx σ H') (fun H' R' x' => h σ F2 H' A R' (((x1.ext A).trans (x2.ext A)).trans x') (.refl S σ)) with q | q
    · obtain ⟨p, xs, k', j', ep, ek, hp, _, _⟩ := q
      exfalso
      cases ep
      cases s with
      | lst _ => cases e3
      | frz _ => cases e3
      | dK _ =>
        obtain ⟨p', vs, f1, f2, f3, f4⟩ := own_dK R2 hi
        rw [hc] at f1; cases f1
        rw [hp] at f3; cases f3
      | dT _ =>
        obtain ⟨p', vs, f1, f2, f3, f4⟩ := own_dT R2 hi
        rw [hc] at f1; cases f1
        rw [hp] at f3; cases f3
    · obtain ⟨a', H', ea, hp, q⟩ := q
      cases ea
      exact ⟨H', hp, q⟩
  · exact h.elim
def mAug (i : Nat) (f : Int → Int → Int) (g : Env → Out (PD × Env)) : Env → Out (Fl × Env) := fun ρ => match ρ[i]? with
  | some (some (.one (.frz (.int a)))) => (g ρ).bind fun b => match b.1 with
    | .int j => .ok (.nx, b.2.set i (some (.one (.frz (.int (f a j))))))
    | _ => .stuck
  | _ => .stuck
theorem ms_aug {i : Nat} {x : Str} {e : Expr} {op : Operator} {f : Int → Int → Int} {g : Env → Out (PD × Env)} {p : Pos} (hN : X.N.Nodup) (ho : PIp X op (ipI f)) (he : VX X E e g) (hi : X.N[i]? = some x := by rfl) (hx : Loc X.env.scope x := by first | exact Or.inl rfl | exact Or.inr rfl)
    (hS : S.contains i = false := by rfl) (hf : X.fn x = true ∨ X.env.scope.names.lookup x = some .local := by first | exact .inl rfl | exact .inr rfl) : MS X E S (.AugAssign (.Name x p) op e pos) (mAug i f g) := by
  obtain ⟨t, pe, q⟩ := he
  have hl : i < X.N.length := (List.getElem?_eq_some_iff.mp hi).1
  refine ⟨_, ps_len (ps_aug hN hi hx pe ho hf), fun F H σ ρ A R D h hz => ?_⟩
  unfold mAug at h
  split at h
  · rename_i a ha
    obtain ⟨v, h1, h2⟩ := R.own i _ ha
    refine ⟨v, h1, q F H σ ρ A R _ ?_⟩
    cases e : g ρ with
    | stuck => rw [e] at h; exact h
    | exc x ρ' => rw [e] at h; exact xpost_s h
    | ok b =>
      obtain ⟨d, ρ1⟩ := b
      rw [e] at h
      intro z F1 H1 A1 R1 x1 g1
      have h : SPost X.mg E S F H σ A D (match (generalizing := false) d with
        | .int j => .ok (.nx, ρ1.set i (some (.one (.frz (.int (f a j))))))
        | _ => .stuck) := h
      split at h
      · rename_i j _
        cases rp_int g1
        refine ⟨a, j, rp_int h2.2, rfl, ?_⟩
        obtain ⟨A2, R2, x2⟩ := setR_ok (v := .int (f a j)) (r := rInt (f a j)) R1 x1 (.int _) (show i < σ.length by rw [hz]; exact hl) rfl
        exact h _ _ _ _ R2 x2 (pin_set hS)
      · exact h.elim
  · exact h.elim
def gPop (i : Nat) : Env → Out (Res × Env) := fun ρ => match getS i ρ with
  | some (.lst xs) => match xs[xs.length - 1]? with
    | some d => .ok (rD d, upSlot i (.lst xs.dropLast) ρ)
    | none => .stuck
  | _ => .stuck
theorem RpL.eraseIdx {F : Hp} : ∀ {vs : List V} {ds : List PD} (i : Nat), RpL F vs ds → RpL F (vs.eraseIdx i) (ds.eraseIdx i)
  | _, _, _, .nil => .nil
  | _, _, 0, .cons r rs => rs
  | _, _, i + 1, .cons r rs => .cons r (RpL.eraseIdx i rs)
def gPopAt (i : Nat) (g : Env → Out (PD × Env)) : Env → Out (Res × Env) := fun ρ => match getS i ρ with
  | some (.lst _) => (g ρ).bind fun b => match b.1, getS i b.2 with
    | .int j, some (.lst xs) => if -(2 ^ 63) ≤ j ∧ j < 2 ^ 63 then (match seqIndex? j xs.length with
      | some k => match xs[k]? with
        | some d => .ok (rD d, upSlot i (.lst (xs.eraseIdx k)) b.2)
        | none => .stuck
      | none => .stuck) else .stuck
    | _, _ => .stuck
  | _ => .stuck
theorem gx_popAt {i : Nat} {x : Str} {p ap cp : Pos} {e : Expr} {g : Env → Out (PD × Env)} (he : VX X E e g) (hN : X.N[i]? = some x := by rfl) (hv : Vis X.env.scope x := by first | exact Or.inl rfl | exact Or.inr (Or.inl rfl) | exact Or.inr (Or.inr rfl)) (hd : (x == ("__debug__" : Str)) = false := by decide)
    (hcd : (x == ("__classdict__" : Str)) = false := by decide) (h : ∀ t, PE X e t → PE X (.Call (.Attribute (.Name x p) "pop" ap) [e] [] cp) (tBM X.K "list" rPopAt (tVar i) (tCons t tNil))) : GX X E (.Call (.Attribute (.Name x p) "pop" ap) [e] [] cp) (gPopAt i g) := by
  obtain ⟨t, pe, q⟩ := he
  refine ⟨_, h t pe, fun F H σ ρ A R Q h => ?_⟩
  unfold gPopAt at h
  split at h
  · rename_i xs0 hi0
    obtain ⟨p0, vs0, e1, e2, e3, e4⟩ := own_lst R (getS_of hi0)
    refine ⟨.ref p0, e1, .inl ⟨rfl, _, SqL.of e3⟩, q F H σ ρ A R _ ?_⟩
    cases e : g ρ with
    | stuck => rw [e] at h; exact h
    | exc x ρ' => rw [e] at h; exact h
    | ok b =>
      obtain ⟨d, ρ1⟩ := b
      rw [e] at h
      intro z F1 H1 A1 R1 x1 g1
      have h : GPost X.mg E F H σ A Q (match (generalizing := false) d, getS i ρ1 with
        | .int j, some (.lst xs) => if -(2 ^ 63) ≤ j ∧ j < 2 ^ 63 then (match seqIndex? j xs.length with
          | some k => match xs[k]? with
            | some d => .ok (rD d, upSlot i (.lst (xs.eraseIdx k)) ρ1)
            | none => .stuck
          | none => .stuck) else .stuck
        | _, _ => .stuck) := h
      split at h
      · rename_i j xs hi _
        split at h
        · rename_i hj
          split at h
          · rename_i k hk
            split at h
            · rename_i d' hd'
              obtain ⟨p1, vs, f1, f2, f3, f4⟩ := own_lst R1 (getS_of hi)
              rw [e1] at f1
              cases f1
              cases rp_int g1
              obtain ⟨v, hv1, hv2⟩ := f4.get' hd'
              refine ⟨p0, vs, j, k, v, rfl, rfl, f3, hj.1, hj.2, by rw [f4.length]; exact hk, hv1, ?_⟩
              obtain ⟨R2, x2⟩ := R1.write (s := .lst (xs.eraseIdx k)) (o := .lst (vs.eraseIdx k)) e1 f2 ⟨p0, _, rfl, rfl, upd_same, f4.eraseIdx k⟩
              exact h v F1 _ A1 R2 (x1.trans x2) hv2
            · exact h.elim
          · exact h.elim
        · exact h.elim
      · exact h.elim
  · exact h.elim
def rInsert : V → List V → Hp → VK → Prop := fun x vs H Q => ∃ (l : Addr) (xs : List V) (i : Int) (y : V), x = .ref l ∧ vs = [.int i, y] ∧ H l = some (.lst xs) ∧ xs.length < sizeLine ∧ 0 ≤ i ∧ i < 2 ^ 63 ∧
    Q .non (upd H l (.lst (xs.take i.toNat ++ [y] ++ xs.drop i.toNat)))
theorem mt_insertM : MtR X "list.insert" rInsert := mt_insert
def mInsert (i : Nat) (gk gv : Env → Out (PD × Env)) : Env → Out (Fl × Env) := fun ρ => match getS i ρ with
  | some (.lst _) => (gk ρ).bind fun k => (gv k.2).bind fun b => match k.1, getS i b.2 with
    | .int j, some (.lst xs) => if xs.length < sizeLine ∧ 0 ≤ j ∧ j < 2 ^ 63 then .ok (.nx, upSlot i (.lst (xs.take j.toNat ++ [b.1] ++ xs.drop j.toNat)) b.2) else .stuck
    | _, _ => .stuck
  | _ => .stuck
theorem ms_insert {i : Nat} {x : Str} {p ap cp : Pos} {ek ev : Expr} {gk gv : Env → Out (PD × Env)} (hk : VX X E ek gk) (hv' : VX X E ev gv) (hN : X.N[i]? = some x := by rfl) (hv : Vis X.env.scope x := by first | exact Or.inl rfl | exact Or.inr (Or.inl rfl) | exact Or.inr (Or.inr rfl)) (hd : (x == ("__debug__" : Str)) = false := by decide)
    (hcd : (x == ("__classdict__" : Str)) = false := by decide)
    (h : ∀ t t', PE X ek t → PE X ev t' → PS X (.Expr (.Call (.Attribute (.Name x p) "insert" ap) [ek, ev] [] cp) pos) (tDrop (tBM X.K "list" rInsert (tVar i) (tCons t (tCons t' tNil))))) : MS X E S (.Expr (.Call (.Attribute (.Name x p) "insert" ap) [ek, ev] [] cp) pos) (mInsert i gk gv) := by
  obtain ⟨t, pe, q⟩ := hk
  obtain ⟨t', pe', q'⟩ := hv'
  refine ⟨_, h t t' pe pe', fun F H σ ρ A R D h => ?_⟩
  unfold mInsert at h
  split at h
  · rename_i xs0 hi0
    obtain ⟨p0, vs0, e1, e2, e3, e4⟩ := own_lst R (getS_of hi0)
    refine ⟨.ref p0, e1, .inl ⟨rfl, _, SqL.of e3⟩, q F H σ ρ A R _ ?_⟩
    cases e : gk ρ with
    | stuck => rw [e] at h; exact h
    | exc x ρ' => rw [e] at h; exact xpost_s h
    | ok b =>
      obtain ⟨dk, ρ1⟩ := b
      rw [e] at h
      intro z F1 H1 A1 R1 x1 g1
      have h : SPost X.mg E S F H σ A D ((gv ρ1).bind fun b => match (generalizing := false) dk, getS i b.2 with
        | .int j, some (.lst xs) => if xs.length < sizeLine ∧ 0 ≤ j ∧ j < 2 ^ 63 then .ok (.nx, upSlot i (.lst (xs.take j.toNat ++ [b.1] ++ xs.drop j.toNat)) b.2) else .stuck
        | _, _ => .stuck) := h
      refine q' F1 H1 σ ρ1 A1 R1 _ ?_
      cases e' : gv ρ1 with
      | stuck => rw [e'] at h; exact h
      | exc x ρ' => rw [e'] at h; exact XPost.ext (xpost_s h) x1
      | ok b =>
        obtain ⟨dv, ρ2⟩ := b
        rw [e'] at h
        intro y F2 H2 A2 R2 x2 g2
        have h : SPost X.mg E S F H σ A D (match (generalizing := false) dk, getS i ρ2 with
          | .int j, some (.lst xs) => if xs.length < sizeLine ∧ 0 ≤ j ∧ j < 2 ^ 63 then .ok (.nx, upSlot i (.lst (xs.take j.toNat ++ [dv] ++ xs.drop j.toNat)) ρ2) else .stuck
          | _, _ => .stuck) := h
        split at h
        · rename_i j xs hi _ _
          split at h
          · rename_i hj
            obtain ⟨p1, vs, f1, f2, f3, f4⟩ := own_lst R2 (getS_of hi)
            rw [e1] at f1
            cases f1
            cases rp_int g1
            refine ⟨p0, vs, j, y, rfl, rfl, f3, by rw [f4.length]; exact hj.1, hj.2.1, hj.2.2, ?_⟩
            obtain ⟨R3, x3⟩ := R2.write (s := .lst (xs.take j.toNat ++ [dv] ++ xs.drop j.toNat)) (o := .lst (vs.take j.toNat ++ [y] ++ vs.drop j.toNat)) e1 f2 ⟨p0, _, rfl, rfl, upd_same, ((f4.take _).append (.cons g2 .nil)).append (f4.drop _)⟩
            exact h σ F2 _ A2 R3 ((x1.trans x2).trans x3) (.refl S σ)
          · exact h.elim
        · exact h.elim
  · exact h.elim
def pDNewK : Env → Option Res := fun _ => some (.new (.one (.dK [])))
def pDNewT : Env → Option Res := fun _ => some (.new (.one (.dT [])))
theorem px_dnewK : PX X (.Dict [] [] pos) pDNewK := by
  refine ⟨_, pe_dnewK, fun F H σ ρ A r R h Q k p hp => ?_⟩
  cases h
  exact k _ _ _ (pure_new R.sub hp) ⟨[p], ⟨p, [], rfl, rfl, upd_same, .nil⟩, by simp, fun q hq => by rw [List.mem_singleton.mp hq]; exact ⟨hp, R.sub.free hp⟩⟩
/-- the pairs of a display -/
def PQ (X : Cx) (pos : Pos) (ks : List (Option Expr)) (vs : List Expr) (q : Env → Option (List (Key × PD))) : Prop :=
  ∃ trs, PPs X pos ks vs trs ∧ ks.all (·.isSome) = true ∧ ks.length = vs.length ∧ ∀ F H σ ρ A kvs, Rel F H σ ρ A → q ρ = some kvs → ∀ Q : List (V × V) → Hp → Prop, (∀ (ps : List (Key × V)) F' H', PureX F H F' H' → RpK F' ps kvs → Q (ps.map fun kv => (kV kv.1, kv.2)) H') → tPairs trs σ H Q
def qNil : Env → Option (List (Key × PD)) := fun _ => some []
def qCons (qk qv : Env → Option PD) (qs : Env → Option (List (Key × PD))) : Env → Option (List (Key × PD)) := fun ρ => (qk ρ).bind fun k => (keyOf k).bind fun k => (qv ρ).bind fun v => (qs ρ).bind fun r => some ((k, v) :: r)
theorem pq_nil : PQ X pos [] [] qNil := ⟨[], pps_nil, rfl, rfl, fun F H σ ρ A kvs R h Q k => by cases h; exact k [] F H (.refl R.sub) .nil⟩
theorem pq_cons {k v : Expr} {ks : List (Option Expr)} {vs : List Expr} {qk qv : Env → Option PD} {qs : Env → Option (List (Key × PD))} (hk : PV X k qk) (hv : PV X v qv) (hr : PQ X pos ks vs qs) : PQ X pos (some k :: ks) (v :: vs) (qCons qk qv qs) := by
  obtain ⟨tk, pk, fk⟩ := hk
  obtain ⟨tv, pv, fv⟩ := hv
  obtain ⟨trs, ps, ha, hl, fr⟩ := hr
  refine ⟨_, pps_cons pk pv ps, by simpa using ha, by simpa using hl, fun F H σ ρ A kvs R h Q k => ?_⟩
  unfold qCons at h
  simp only [Option.bind_eq_some_iff] at h
  obtain ⟨d, e1, kk, e2, dv, e3, r, e4, e5⟩ := h
  cases e5
  refine fk F H σ ρ A d R e1 _ fun z F1 H1 x1 r1 => ?_
  refine fv F1 H1 σ ρ A dv (R.pure x1) e3 _ fun y F2 H2 x2 r2 => ?_
  refine fr F2 H2 σ ρ A r ((R.pure x1).pure x2) e4 _ fun ps F3 H3 x3 r3 => ?_
  cases keyOf_rp r1 e2
  exact k ((kk, y) :: ps) F3 H3 ((x1.trans x2).trans x3) (.cons (r2.mono x3.f) r3)
def mergeD (kvs more : List (Key × PD)) : List (Key × PD) := more.foldl (fun acc kv => putD acc kv.1 kv.2) kvs
theorem RpK.merge {F : Hp} : ∀ {ms : List (Key × V)} {more : List (Key × PD)} {ws : List (Key × V)} {kvs : List (Key × PD)}, RpK F ms more → RpK F ws kvs → RpK F (mergeK ws ms) (mergeD kvs more)
  | _, _, _, _, .nil, r => r
  | _, _, ws, kvs, .cons (k := k) (v := v) (d := d) (ws := ms) (kvs := more) r rs, q => by
    show RpK F (mergeK (putK ws k v) ms) (mergeD (putD kvs k d) more)
    exact RpK.merge rs (q.put r k)
def pDisp (qs : Env → Option (List (Key × PD))) : Env → Option Res := fun ρ => (qs ρ).bind fun kvs => if kvs.length ≤ 15 then some (.new (.one (.dK (mergeD [] kvs)))) else none
theorem px_disp {ks : List (Option Expr)} {vs : List Expr} {qs : Env → Option (List (Key × PD))} (h : PQ X pos ks vs qs) (h0 : ks ≠ []) (h15 : ks.length ≤ 15) : PX X (.Dict ks vs pos) (pDisp qs) := by
  obtain ⟨trs, ps, ha, hl, f⟩ := h
  refine ⟨_, pe_disp ps ha hl h0 h15, fun F H σ ρ A r R h Q k p hp => ?_⟩
  unfold pDisp at h
  rw [Option.bind_eq_some_iff] at h
  obtain ⟨kvs, e1, e2⟩ := h
  split at e2
  · rename_i hz
    cases e2
    have x0 := pure_new (o := .dK []) R.sub hp
    refine f F _ σ ρ A kvs (R.pure x0) e1 _ fun ps F1 H1 x1 r1 => ?_
    obtain ⟨k1, k2⟩ := keepD x1 upd_same (R.sub.free hp)
    refine ⟨k1, ps, rfl, by rw [r1.length]; exact hz, ?_⟩
    refine k _ F1 _ ⟨x1.f, fun q o e => ?_, fun q o e => ?_, fun q h => ?_⟩ ⟨[p], ⟨p, _, rfl, rfl, upd_same, r1.merge .nil⟩, by simp, fun q hq => by rw [List.mem_singleton.mp hq]; exact ⟨hp, k2⟩⟩
    · have hq := ne_of_none e hp
      rw [upd_ne hq]
      exact x1.h q o (by rw [upd_ne hq]; exact e)
    · have hq : q ≠ p := fun z => by rw [z, k2] at e; cases e
      rw [upd_ne hq]; exact x1.sub q o e
    · rcases x1.new q h with z | z
      · exact .inl z
      · refine .inr ?_
        by_cases hq : q = p
        · rw [hq]; exact .inl hp
        · unfold Nw at z ⊢; rwa [upd_ne hq] at z
  · cases e2
def pGet2 (p : Env → Option Res) (qk qd : Env → Option PD) : Env → Option Res := fun ρ => (p ρ).bind fun r => r.s1.bind fun s => (qk ρ).bind fun k => (qd ρ).bind fun d => (s.look k).map fun o => rD (o.getD d)
end
end Mm
namespace Mm
open PySem PySem.Spec L2
set_option autoImplicit false
/-- what is walked: a list, a tuple, a dict's keys -/
def SrcThen (K : PySem.W.Frag) (H : Hp) (a : Addr) (P : List V → Prop) : Prop :=
  (∃ ws, SqL K H a ws ∧ P ws) ∨ (∃ ws, SqT K H a ws ∧ P ws) ∨ (∃ kvs, H a = some (.dK kvs) ∧ P (kvs.map fun kv => kV kv.1)) ∨ (∃ kvs, H a = some (.dT kvs) ∧ ∀ bs, IsKeys H kvs bs → P (bs.map .ref))
section
variable {X : Cx} {pins : List (Addr × Obj)} {σ : L2.St} {H : Hp} {s : Shared}
theorem vals_keys {kvs : List (Key × V)} {vs : List (Key × Value)} {us : List Value} (kv : KV kvs vs) (hl : us.length = kvs.length) (h : ∀ (j : Nat) (v : Value), us[j]? = some v → ∃ k x, vs[j]? = some (k, x) ∧ RelV (kV k) v) : Vals (kvs.map fun kv => kV kv.1) us := by
  induction kv generalizing us with
  | nil => cases us with
    | nil => exact .nil
    | cons _ _ => cases hl
  | @cons p q ps qs hpq hr ih =>
    cases us with
    | nil => cases hl
    | cons u us =>
      refine .cons ?_ (ih (by simpa using hl) fun j v e => h (j + 1) v (by simpa using e))
      obtain ⟨k, x, e1, e2⟩ := h 0 u rfl
      cases e1
      show RelV (kV p.1) u
      rw [hpq.1]
      exact e2
theorem collect_src {A : Around} {E : Value → Shared → Prop} {Q : List Value → Shared → Prop} {a : Addr} {P : List V → Prop} (I : Inv X pins σ H s) (hh : A.handled = none) (h : SrcThen X.K H a P)
    (q : ∀ ws us h' tk, P ws → Vals ws us → us.length ≤ sizeLine → (∀ b o, s.heap.get? b = some o → h'.get? b = some o) → Q us { s with heap := h', toks := tk }) : wpAny (model X.prog X.w) A (collect (.ref a)) Q E s := by
  rcases h with ⟨ws, hq, hp⟩ | ⟨ws, hq, hp⟩ | ⟨kvs, hq, hp⟩ | ⟨kvs, hq, hp⟩
  · obtain ⟨its, r, pl, hz⟩ := I.list hq
    have hlen := r.length
    obtain ⟨o, ho, hc, n, hd⟩ := pl.isList
    exact wpAny_collect_seq a (.inl rfl) ho hc hd (fun h' k => by
      have e : ({ s with heap := h' } : Shared) = { s with heap := h', toks := s.toks } := rfl
      rw [e]
      exact q ws _ h' s.toks hp (by simpa using r) (by simp; omega) k) (by simp only [List.size_toArray] <;> omega)
  · obtain ⟨its, r, pl, hz⟩ := I.tuple hq
    have hlen := r.length
    obtain ⟨o, ho, hc, n, hd⟩ := pl
    exact wpAny_collect_seq a (.inr rfl) ho hc hd (fun h' k => by
      have e : ({ s with heap := h' } : Shared) = { s with heap := h', toks := s.toks } := rfl
      rw [e]
      exact q ws _ h' s.toks hp (by simpa using r) (by simp; omega) k) (by simp only [List.size_toArray] <;> omega)
  · obtain ⟨z, lo, vs, rel, dd⟩ := dk_of I.hok hq
    obtain ⟨ep, hat⟩ := dd.dictAt
    have hl : kvs.length = vs.length := Paired.length rel
    refine PySem.W.kdu_collect (PySem.W.kdl_dict (knd := mixKind X.prog X.w) (kvs := vs) (ep := ep) lo) hh hat (by omega) fun h' tk acc hk hacc => ?_
    refine q _ _ h' tk hp (vals_keys rel (by rw [Array.length_toList, hacc.1, hl]) fun j v e => ?_) (by rw [Array.length_toList, hacc.1]; omega) hk
    obtain ⟨k, x, e1, e2⟩ := hacc.2 j v (by rw [← Array.getElem?_toList]; exact e)
    refine ⟨k, x, e1, ?_⟩
    cases k with
    | inl i => obtain ⟨t, ev⟩ := Value.isInt_shape (v := v) e2; exact ⟨t, ev⟩
    | inr y => obtain ⟨t, ev⟩ := Value.isStrOf_shape (x := y) (v := v) e2; exact ⟨t, ev⟩
  · obtain ⟨z, hs, ks, pr, o, es, ep, ho, hx, hdt, he, hn⟩ := (show ObjOk X.prog X.w H s.heap a (.dT kvs) from I.hok a _ hq)
    have l1 : es.size = ks.length := size_of_entries he
    have l2 : kvs.length = ks.length := Paired.length pr
    refine PySem.W.kdu_collect (kdl_raw hs hx hdt) hh ho (by omega) fun h' tk acc hk it => ?_
    have ea : acc.toList = ks.map fun x => Value.ref x.2.1 := by
      have hl : acc.toList.length = ks.length := by rw [Array.length_toList, it.1]; exact l1
      apply List.ext_getElem?
      intro j
      rw [List.getElem?_map]
      cases hj : acc.toList[j]? with
      | none =>
        have h1 := List.getElem?_eq_none_iff.mp hj
        rw [List.getElem?_eq_none (by omega)]
        all_goals rfl
      | some v =>
        obtain ⟨en, hen, hv⟩ := it.2 j v (by rw [← Array.getElem?_toList]; exact hj)
        have qe := entry_at he j
        rw [hen] at qe
        cases hb : ks[j]? with
        | none =>
          rw [hb] at qe
          exact nomatch (show some en = none from qe)
        | some b =>
          rw [hb] at qe
          have e2 : en = entryOfKey (tupleKind (mixKind X.prog X.w)) b := Option.some.inj qe
          rw [hv, e2]
          all_goals rfl
    have eb : acc.toList = (ks.map fun x => x.2.1).map Value.ref := by rw [ea, List.map_map]; all_goals rfl
    refine q _ _ h' tk (hp _ (isKeys_of pr)) (by rw [eb]; exact vals_refs _) (by rw [Array.length_toList, it.1]; omega) hk
/-- data of one kind that have an order -/
def sortableB : List PD → Bool
  | [] => true
  | d :: ds => (d :: ds).all (fun e => match e with | .tuple (_ :: _) => true | _ => false) || (d :: ds).all (fun e => match e with | .none => false | .tuple _ => false | _ => true)
def sortOk (ds : List PD) : Bool := ds.all (fun d => ds.all fun e => PySem.W.alike d e) && (sortableB ds && (ds.all fun d => decide (d.depth ≤ 60)))
theorem sortOk_of {ds : List PD} (h : sortOk ds = true) : PySem.W.AllAlike ds ∧ PySem.W.Sortable ds ∧ ∀ d ∈ ds, d.depth ≤ 60 := by
  unfold sortOk at h
  rw [Bool.and_eq_true, Bool.and_eq_true] at h
  obtain ⟨h1, h2, h3⟩ := h
  refine ⟨fun d hd e he => List.all_eq_true.mp (List.all_eq_true.mp h1 d hd) e he, ?_, fun d hd => of_decide_eq_true (List.all_eq_true.mp h3 d hd)⟩
  cases ds with
  | nil => exact .inl fun d hd => nomatch hd
  | cons d ds =>
    unfold sortableB at h2
    rw [Bool.or_eq_true] at h2
    rcases h2 with h2 | h2
    · refine .inl fun e he => ?_
      have := List.all_eq_true.mp h2 e he
      split at this
      · exact ⟨_, _, rfl⟩
      · cases this
    · refine .inr fun e he => ?_
      have := List.all_eq_true.mp h2 e he
      split at this
      · cases this
      · cases this
      · rename_i h1 h2
        exact ⟨fun z => h1 z, fun xs z => h2 xs z⟩
abbrev sortD (ds : List PD) : List PD := ds.mergeSort (PySem.W.dataLe false id)
/-- the things, sorted by the data that they stand for -/
def SortedV (ws : List V) (ds : List PD) (zs : List V) : Prop := ∃ bs : List (V × PD), bs.map (·.1) = ws ∧ bs.map (·.2) = ds ∧ zs = (bs.mergeSort (PySem.W.dataLe false (·.2))).map (·.1)
def rSortedM (K : PySem.W.Frag) : List V → Hp → VK → Prop := fun xs H Q => ∃ a, xs = [.ref a] ∧ SrcThen K H a fun ws => ∃ ds, DpAll K H ws ds ∧ sortOk ds = true ∧ ∀ p zs, H p = none → SortedV ws ds zs → Q (.ref p) (upd H p (.lst zs))
theorem dpall_zip {K : PySem.W.Frag} : ∀ {ws : List V} {ds : List PD}, DpAll K H ws ds → ∃ bs : List (V × PD), bs.map (·.1) = ws ∧ bs.map (·.2) = ds ∧ ∀ b ∈ bs, Dp K H b.1 b.2
  | _, _, .nil => ⟨[], rfl, rfl, fun b hb => nomatch hb⟩
  | _, _, .cons (v := v) (d := d) h r => by
    obtain ⟨bs, h1, h2, h3⟩ := dpall_zip r
    refine ⟨(v, d) :: bs, by rw [List.map_cons, h1], by rw [List.map_cons, h2], fun b hb => ?_⟩
    rcases List.mem_cons.mp hb with e | hb
    · rw [e]; exact h
    · exact h3 b hb
theorem each_vals {h' : Heap} : ∀ {bs : List (V × PD)} {us : List Value}, Vals (bs.map (·.1)) us → (∀ b ∈ bs, ∀ u, RelV b.1 u → ∃ as, PySem.Reads h' u b.2 as) → PySem.W.EachIs (fun u (b : V × PD) => RelV b.1 u) us bs ∧ PySem.W.EachIs (fun u (b : V × PD) => ∃ as, PySem.Reads h' u b.2 as) us bs
  | [], _, .nil, _ => ⟨.nil, .nil⟩
  | b :: bs, _, .cons r rs, h => by
    obtain ⟨h1, h2⟩ := each_vals rs fun b hb => h b (List.mem_cons_of_mem _ hb)
    exact ⟨.cons r h1, .cons (h b List.mem_cons_self _ r) h2⟩
theorem vals_each : ∀ {bs : List (V × PD)} {us : List Value}, PySem.W.EachIs (fun u (b : V × PD) => RelV b.1 u) us bs → Vals (bs.map (·.1)) us
  | _, _, .nil => .nil
  | _, _, .cons r rs => .cons r (vals_each rs)
open PySem.W PyProof.Rows in
theorem call_sortedM (hc : X.calm = true) (hu : X.A.units + 64 < cLine) : CallR X (.builtin "sorted") (rSortedM X.K) := by
  intro pins s σ H xs us Q I r h
  obtain ⟨a, rfl, h⟩ := h
  obtain ⟨u, rfl, rx⟩ := vals1 r
  cases rx
  refine Calls.call_function_entry PyProof.Rows.kind_sorted PyProof.Rows.plain_sorted PyProof.Rows.entry_sorted (PyProof.Rows.args_sorted1 _) ?_
  unfold Builtin.«sorted»
  refine wpAny_bind (m := checkCount "sorted" 1 1 _) (wpAny_pure ?_)
  refine wpAny_bind (collect_src (A := X.A.in1) I (I.ok.hd hc) h fun ws vs h' tk hp rv hz kp => ?_)
  obtain ⟨ds, hd, ok, q⟩ := hp
  obtain ⟨bs, e1, e2, e3⟩ := dpall_zip hd
  obtain ⟨o1, o2, o3⟩ := sortOk_of ok
  subst e1 e2
  have I1 : Inv X pins σ H { s with heap := h', toks := tk } := I.kept kp
  have hlv := rv.length
  rw [List.length_map] at hlv
  refine wpAny_bind (wpAny_newList ?_ hz)
  have hoL : (h'.push (seqObj "list" vs.toArray 0)).get? h'.objs.size = some (seqObj "list" vs.toArray 0) := Heap.get?_push_size _ rfl
  show wpAny _ _ _ _ _ { s with heap := h'.push (seqObj "list" vs.toArray 0), toks := tk }
  have kS : ∀ b o, h'.get? b = some o → (sortingHeap (h'.push (seqObj "list" vs.toArray 0)) h'.objs.size vs).get? b = some o := fun b o e => sortingHeap_old (Nat.ne_of_lt (Heap.lt_size e)) (Heap.get?_push_of_some _ e)
  obtain ⟨g1, g2⟩ := each_vals (h' := sortingHeap (h'.push (seqObj "list" vs.toArray 0)) h'.objs.size vs) rv fun b hb u ru => by
    obtain ⟨as, r⟩ := Dp.reads I1 b.2 b.1 u (e3 b hb) ru
    exact ⟨as, PyProof.Rows.Reads.keeps kS r⟩
  have hlen : (sortVals (dataKind (sortingHeap (h'.push (seqObj "list" vs.toArray 0)) h'.objs.size vs) (bs.map (·.2))) false vs vs).length = vs.length := sortVals_length false rfl
  refine wpAny_bind (wpAny_holding (wpAny_call_entry PyProof.Rows.slot_list_sort ⟨_, hoL, rfl⟩ PyProof.Rows.entry_list_sort
    (list_sort_vals (κ := dataKind (sortingHeap (h'.push (seqObj "list" vs.toArray 0)) h'.objs.size vs) (bs.map (·.2))) (s := { s with heap := h'.push (seqObj "list" vs.toArray 0), toks := tk }) hoL
      (SortsAt.data (s := { s with heap := sortingHeap (h'.push (seqObj "list" vs.toArray 0)) h'.objs.size vs, toks := tk }) (each_map (R := fun v d => ∃ as, Reads (sortingHeap (h'.push (seqObj "list" vs.toArray 0)) h'.objs.size vs) v d as) (fun b : V × PD => b.2) g2) o1 o2
        (fun d hd => by have := o3 d hd; show X.A.units + 2 + _ < _; omega)) hz ⟨_, rfl, ?_⟩)
    (PyProof.Rows.args_list_sort _)))
  have so := sortVals_data (h' := sortingHeap (h'.push (seqObj "list" vs.toArray 0)) h'.objs.size vs) (enc := fun b : V × PD => b.2) false g1 g2 o1
  obtain ⟨e', he'⟩ := PyProof.Rows.sortedHeap_at (vs := vs) (out := (sortVals (dataKind (sortingHeap (h'.push (seqObj "list" vs.toArray 0)) h'.objs.size vs) (bs.map (·.2))) false vs vs).toArray) hoL
  have ro := vals_each so
  refine wpAny_pure ⟨_, rfl, .ref h'.objs.size, upd H h'.objs.size (.lst ((bs.mergeSort (dataLe false (·.2))).map (·.1))), I1.laid (t' := tk) (fun b u e => ?_) (Nat.le_refl _)
    (show ObjOk X.prog X.w _ _ _ (.lst ((bs.mergeSort (dataLe false (·.2))).map (·.1))) from ⟨by rw [List.length_map, List.length_mergeSort]; omega, _, e', ro, he'⟩), rfl, q _ _ (I1.hok.fresh (Nat.le_refl _)) ⟨bs, rfl, rfl, rfl⟩⟩
  have hb : b < h'.objs.size := Heap.lt_size e
  rw [PyProof.Rows.sortedHeap_old (Nat.ne_of_lt hb) (by rw [size_push']; exact Nat.lt_succ_of_lt hb)]
  exact Heap.get?_push_of_some _ e
end
end Mm
namespace Mm
open PySem PySem.Spec L2
set_option autoImplicit false
def S1.src : S1 → Option (List PD)
  | .frz (.list xs) => some xs
  | .frz (.tuple xs) => some xs
  | .lst xs => some xs
  | .dK kvs => some (kvs.map fun kv => kPD kv.1)
  | .dT kvs => some (kvs.map fun kv => .tuple (kv.1.map kPD))
  | .frz _ => none
theorem keysK {F : Hp} : ∀ {ws : List (Key × V)} {kvs : List (Key × PD)}, RpK F ws kvs → RpL F (ws.map fun kv => kV kv.1) (kvs.map fun kv => kPD kv.1)
  | _, _, .nil => .nil
  | _, _, .cons r rs => .cons (kPD_rp _) (keysK rs)
theorem keysT {F F' H : Hp} : ∀ {ws : List (List Key × V)} {kvs : List (List Key × PD)} {bs : List Addr}, RpK F ws kvs → IsKeys H ws bs → (∀ b ∈ bs, F' b = H b) → RpL F' (bs.map V.ref) (kvs.map fun kv => PyData.tuple (kv.1.map kPD))
  | _, _, _, .nil, .nil, _ => .nil
  | _, _, _, .cons r rs, .cons h hs, e => .cons (.tup (by rw [e _ List.mem_cons_self]; exact h) (kPDs_rp _)) (keysT rs hs fun b hb => e b (List.mem_cons_of_mem _ hb))
theorem isKeys_tup {H : Hp} {ws : List (List Key × V)} {bs : List Addr} (h : IsKeys H ws bs) : ∀ b ∈ bs, ∃ vs, H b = some (.tup vs) := by
  unfold IsKeys at h
  induction h with
  | nil => intro b hb; cases hb
  | cons h _ ih =>
    intro b hb
    rcases List.mem_cons.mp hb with e | hb
    · rw [e]; exact ⟨_, h⟩
    · exact ih b hb
theorem src_of {K : PySem.W.Frag} {F H : Hp} {x : V} {s : S1} {ds : List PD} (e : Same F H) (hx : ∃ O, Own1 F H x s O) (q : s.src = some ds) {P : List V → Prop} (h : ∀ ws F', PureX F H F' H → RpL F' ws ds → P ws) : ∃ a, x = .ref a ∧ SrcThen K H a P := by
  cases s with
  | frz d =>
    cases d <;> cases q
    · obtain ⟨p, vs, rfl, h1, r1⟩ := lv_of e hx rfl
      exact ⟨p, rfl, .inl ⟨vs, SqL.of h1, h vs F (.refl e) r1⟩⟩
    · obtain ⟨p, vs, rfl, h1, r1⟩ := tv_of hx rfl
      exact ⟨p, rfl, .inr (.inl ⟨vs, SqT.of (e _ _ h1), h vs F (.refl e) r1⟩)⟩
  | lst xs =>
    cases q
    obtain ⟨p, vs, rfl, h1, r1⟩ := lv_of e hx rfl
    exact ⟨p, rfl, .inl ⟨vs, SqL.of h1, h vs F (.refl e) r1⟩⟩
  | dK kvs =>
    cases q
    obtain ⟨O, p, ws, rfl, rfl, h1, h2⟩ := hx
    exact ⟨p, rfl, .inr (.inr (.inl ⟨ws, h1, h _ F (.refl e) (keysK h2)⟩))⟩
  | dT kvs =>
    cases q
    obtain ⟨O, p, ws, rfl, rfl, h1, h2⟩ := hx
    refine ⟨p, rfl, .inr (.inr (.inr ⟨ws, h1, fun bs hb => h _ (addF F H bs) ⟨fun q o eq => ?_, .refl H, addF_sub e, fun q hq => ?_⟩ (keysT h2 hb fun b hb => ?_)⟩))⟩
    · unfold addF
      split
      · exact e _ _ eq
      · exact eq
    · unfold addF at hq
      split at hq
      · rename_i hm; exact .inr (.inr (isKeys_tup hb q hm))
      · exact .inl hq
    · unfold addF; rw [if_pos hb]
theorem sorted_rp {F : Hp} {bs : List (V × PD)} (h : ∀ b ∈ bs, Rp F b.1 b.2) : RpL F (bs.map (·.1)) (bs.map (·.2)) := by
  induction bs with
  | nil => exact .nil
  | cons b bs ih => exact .cons (h b List.mem_cons_self) (ih fun b hb => h b (List.mem_cons_of_mem _ hb))
theorem rpl_zip {F : Hp} : ∀ {bs : List (V × PD)}, RpL F (bs.map (·.1)) (bs.map (·.2)) → ∀ b ∈ bs, Rp F b.1 b.2
  | [], _, b, hb => by cases hb
  | c :: bs, .cons r rs, b, hb => by
    rcases List.mem_cons.mp hb with e | hb
    · rw [e]; exact r
    · exact rpl_zip rs b hb
theorem SortedV.rp {F : Hp} {ws zs : List V} {ds : List PD} (r : RpL F ws ds) (h : SortedV ws ds zs) : RpL F zs (sortD ds) := by
  obtain ⟨bs, rfl, rfl, rfl⟩ := h
  have e : sortD (bs.map (·.2)) = (bs.mergeSort (PySem.W.dataLe false (·.2))).map (·.2) := by
    symm
    refine List.map_mergeSort ?_
    intro a _ b _
    rfl
  rw [e]
  exact sorted_rp fun b hb => rpl_zip r b ((List.mergeSort_perm _ _).mem_iff.mp hb)
/-- one argument -/
def f1 (f : S1 → Option Res) : List S1 → Option Res
  | [s] => f s
  | _ => none
theorem own1 {F H : Hp} {vs : List V} {s : S1} (h : OwnL F H vs [s]) : ∃ x, vs = [x] ∧ ∃ O, Own1 F H x s O := by
  cases h with
  | cons h r => cases r; exact ⟨_, rfl, h⟩
theorem own2 {F H : Hp} {vs : List V} {s t : S1} (h : OwnL F H vs [s, t]) : ∃ x y, vs = [x, y] ∧ (∃ O, Own1 F H x s O) ∧ ∃ O, Own1 F H y t O := by
  cases h with
  | cons h r =>
    cases r with
    | cons h' r => cases r; exact ⟨_, _, rfl, h, h'⟩
theorem fnN1 {r : List V → Hp → VK → Prop} {f : S1 → Option Res} (h : ∀ (F H : Hp) (x : V) (s : S1) (res : Res), Same F H → (∃ O, Own1 F H x s O) → f s = some res → ∀ Q : VK, (∀ z F' H', PureX F H F' H' → PRes F' H' H z res → Q z H') → r [x] H Q) : FnN r (f1 f) := by
  intro F H vs ss res e o q Q k
  unfold f1 at q
  split at q
  · obtain ⟨x, rfl, hx⟩ := own1 o
    exact h F H x _ res e hx q Q k
  · cases q
def fSorted (s : S1) : Option Res := s.src.bind fun ds => if sortOk ds = true then some (rL (sortD ds)) else none
theorem f_sorted {K : PySem.W.Frag} : FnN (rSortedM K) (f1 fSorted) := fnN1 fun F H x s res e hx q Q k => by
  unfold fSorted at q
  rw [Option.bind_eq_some_iff] at q
  obtain ⟨ds, h1, h2⟩ := q
  split at h2
  · rename_i ok
    cases h2
    obtain ⟨a, rfl, h⟩ := src_of (K := K) e hx h1 (P := fun ws => ∃ ds, DpAll K H ws ds ∧ sortOk ds = true ∧ ∀ p zs, H p = none → SortedV ws ds zs → Q (.ref p) (upd H p (.lst zs))) fun ws F' xF r => ⟨ds, dpl_of xF.sub r, ok, fun p zs hp hz => k _ _ _ (xF.trans (pure_new xF.sub hp)) (new_lst xF.sub hp (hz.rp r))⟩
    exact ⟨a, rfl, h⟩
  · cases h2
def S1.size : S1 → Option Nat
  | .frz (.str y) => if y.length ≤ sizeLine then some y.length else none
  | .frz (.list xs) => some xs.length
  | .frz (.tuple xs) => some xs.length
  | .lst xs => some xs.length
  | .dK kvs => some kvs.length
  | .dT kvs => some kvs.length
  | .frz _ => none
def fLen (s : S1) : Option Res := s.size.map fun (n : Nat) => rInt (n : Int)
def rLenM (K : PySem.W.Frag) : List V → Hp → VK → Prop := fun xs H Q => (∃ x n, xs = [x] ∧ LenV K x H n ∧ Q (.int n) H) ∨ (∃ a kvs, xs = [V.ref a] ∧ H a = some (.dK kvs) ∧ Q (.int kvs.length) H) ∨ rLenT xs H Q
theorem call_lenM {X : Cx} : CallR X (.builtin "len") (rLenM X.K) := CallR.or call_len (CallR.or call_lenD call_len_dT)
theorem f_len {K : PySem.W.Frag} : FnN (rLenM K) (f1 fLen) := fnN1 fun F H x s res e hx q Q k => by
  unfold fLen at q
  rw [Option.map_eq_some_iff] at q
  obtain ⟨n, h1, rfl⟩ := q
  have k' : Q (.int n) H := k _ F H (.refl e) (old_res (.int _))
  cases s with
  | frz d =>
    cases d with
    | str y =>
      have h1 : (if y.length ≤ sizeLine then some y.length else none) = some n := h1
      split at h1
      · rename_i hz
        cases h1
        cases rp_str (frz_of hx)
        exact .inl ⟨_, _, rfl, ⟨hz, rfl⟩, k'⟩
      · cases h1
    | list xs =>
      cases h1
      obtain ⟨p, vs, rfl, h1, r1⟩ := lv_of e hx rfl
      exact .inl ⟨_, _, rfl, .inl ⟨vs, SqL.of h1, r1.length.symm⟩, k'⟩
    | tuple xs =>
      cases h1
      obtain ⟨p, vs, rfl, h1, r1⟩ := tv_of hx rfl
      exact .inl ⟨_, _, rfl, .inr ⟨vs, SqT.of (e _ _ h1), r1.length.symm⟩, k'⟩
    | _ => cases h1
  | lst xs =>
    cases h1
    obtain ⟨p, vs, rfl, h1, r1⟩ := lv_of e hx rfl
    exact .inl ⟨_, _, rfl, .inl ⟨vs, SqL.of h1, r1.length.symm⟩, k'⟩
  | dK kvs =>
    cases h1
    obtain ⟨O, p, ws, rfl, rfl, h1, h2⟩ := hx
    exact .inr (.inl ⟨p, ws, rfl, h1, by rw [h2.length]; exact k'⟩)
  | dT kvs =>
    cases h1
    obtain ⟨O, p, ws, rfl, rfl, h1, h2⟩ := hx
    exact .inr (.inr ⟨p, ws, rfl, h1, by rw [h2.length]; exact k'⟩)
def fTuple (s : S1) : Option Res := match s.lv with
  | some xs => some (rD (.tuple xs))
  | none => s.tv.map fun xs => rD (.tuple xs)
theorem f_tuple {K : PySem.W.Frag} : FnN (fun xs H Q => ∃ p ys, xs = [.ref p] ∧ ((SqL K H p ys ∧ ∀ l, H l = none → Q (.ref l) (upd H l (.tup ys))) ∨ (SqT K H p ys ∧ Q (.ref p) H))) (f1 fTuple) := fnN1 fun F H x s res e hx q Q k => by
  unfold fTuple at q
  split at q
  · rename_i xs h1
    cases q
    obtain ⟨p, vs, rfl, h1, r1⟩ := lv_of e hx h1
    exact ⟨p, vs, rfl, .inl ⟨SqL.of h1, fun l hl => k _ _ _ (pure_newF e hl) (new_tup e hl r1)⟩⟩
  · rw [Option.map_eq_some_iff] at q
    obtain ⟨xs, h1, rfl⟩ := q
    obtain ⟨p, vs, rfl, h1, r1⟩ := tv_of hx h1
    exact ⟨p, vs, rfl, .inr ⟨SqT.of (e _ _ h1), k _ F H (.refl e) (old_res (.tup h1 r1))⟩⟩
def fList (s : S1) : Option Res := s.src.map rL
def rListM (K : PySem.W.Frag) : List V → Hp → VK → Prop := fun xs H Q => (∃ p ys, xs = [.ref p] ∧ (SqL K H p ys ∨ SqT K H p ys) ∧ ∀ l, H l = none → Q (.ref l) (upd H l (.lst ys))) ∨
  (∃ (a : Addr) (kvs : List (Key × V)), xs = [.ref a] ∧ Rd H a (.dK kvs) ∧ ∀ p, H p = none → Q (.ref p) (upd H p (.lst (kvs.map fun kv => kV kv.1)))) ∨
  (∃ d kvs, xs = [V.ref d] ∧ Rd H d (.dT kvs) ∧ ∀ p bs, H p = none → IsKeys H kvs bs → Q (.ref p) (upd H p (.lst (bs.map V.ref))))
theorem call_listM {X : Cx} (hc : X.calm = true) : CallR X (.type "list") (rListM X.K) := CallR.or call_list_of (CallR.or (call_listD hc) (call_list_dT hc))
theorem f_list {K : PySem.W.Frag} : FnN (rListM K) (f1 fList) := fnN1 fun F H x s res e hx q Q k => by
  unfold fList at q
  rw [Option.map_eq_some_iff] at q
  obtain ⟨ds, h1, rfl⟩ := q
  cases s with
  | frz d =>
    cases d <;> cases h1
    · obtain ⟨p, vs, rfl, h1, r1⟩ := lv_of e hx rfl
      exact .inl ⟨p, vs, rfl, .inl (SqL.of h1), fun l hl => k _ _ _ (pure_new e hl) (new_lst e hl r1)⟩
    · obtain ⟨p, vs, rfl, h1, r1⟩ := tv_of hx rfl
      exact .inl ⟨p, vs, rfl, .inr (SqT.of (e _ _ h1)), fun l hl => k _ _ _ (pure_new e hl) (new_lst e hl r1)⟩
  | lst xs =>
    cases h1
    obtain ⟨p, vs, rfl, h1, r1⟩ := lv_of e hx rfl
    exact .inl ⟨p, vs, rfl, .inl (SqL.of h1), fun l hl => k _ _ _ (pure_new e hl) (new_lst e hl r1)⟩
  | dK kvs =>
    cases h1
    obtain ⟨O, p, ws, rfl, rfl, h1, h2⟩ := hx
    exact .inr (.inl ⟨p, ws, rfl, .inl h1, fun l hl => k _ _ _ (pure_new e hl) (new_lst e hl (keysK h2))⟩)
  | dT kvs =>
    cases h1
    obtain ⟨O, p, ws, rfl, rfl, h1, h2⟩ := hx
    refine .inr (.inr ⟨p, ws, rfl, .inl h1, fun l bs hl hb => ?_⟩)
    have xF : PureX F H (addF F H bs) H := ⟨fun q o eq => by
        unfold addF
        split
        · exact e _ _ eq
        · exact eq, .refl H, addF_sub e, fun q hq => by
        unfold addF at hq
        split at hq
        · rename_i hm; exact .inr (.inr (isKeys_tup hb q hm))
        · exact .inl hq⟩
    exact k _ _ _ (xF.trans (pure_new xF.sub hl)) (new_lst xF.sub hl (keysT h2 hb fun b hb => by unfold addF; rw [if_pos hb]))
def intsOf : List PD → Option (List Int)
  | [] => some []
  | .int i :: r => (intsOf r).map (i :: ·)
  | _ :: _ => none
def boolsOf : List PD → Option (List Bool)
  | [] => some []
  | .bool i :: r => (boolsOf r).map (i :: ·)
  | _ :: _ => none
def strsOf : List PD → Option (List Str)
  | [] => some []
  | .str i :: r => (strsOf r).map (i :: ·)
  | _ :: _ => none
theorem intsOf_rp {F : Hp} : ∀ {vs : List V} {ds : List PD} {ns : List Int}, RpL F vs ds → intsOf ds = some ns → vs = ns.map V.int
  | _, _, _, .nil, e => by cases e; rfl
  | _, _, _, .cons (d := d) r rs, e => by
    cases d <;> try cases e
    unfold intsOf at e
    rw [Option.map_eq_some_iff] at e
    obtain ⟨ns, h1, rfl⟩ := e
    rw [rp_int r, intsOf_rp rs h1]; rfl
theorem boolsOf_rp {F : Hp} : ∀ {vs : List V} {ds : List PD} {ns : List Bool}, RpL F vs ds → boolsOf ds = some ns → vs = ns.map V.bl
  | _, _, _, .nil, e => by cases e; rfl
  | _, _, _, .cons (d := d) r rs, e => by
    cases d <;> try cases e
    unfold boolsOf at e
    rw [Option.map_eq_some_iff] at e
    obtain ⟨ns, h1, rfl⟩ := e
    rw [rp_bool r, boolsOf_rp rs h1]; rfl
theorem strsOf_rp {F : Hp} : ∀ {vs : List V} {ds : List PD} {ns : List Str}, RpL F vs ds → strsOf ds = some ns → vs = ns.map V.str
  | _, _, _, .nil, e => by cases e; rfl
  | _, _, _, .cons (d := d) r rs, e => by
    cases d <;> try cases e
    unfold strsOf at e
    rw [Option.map_eq_some_iff] at e
    obtain ⟨ns, h1, rfl⟩ := e
    rw [rp_str r, strsOf_rp rs h1]; rfl
def fSum (s : S1) : Option Res := (s.lv.bind intsOf).map fun ns => rInt ns.sum
theorem f_sum {K : PySem.W.Frag} : FnN (rSum K) (f1 fSum) := fnN1 fun F H x s res e hx q Q k => by
  unfold fSum at q
  simp only [Option.map_eq_some_iff, Option.bind_eq_some_iff] at q
  obtain ⟨ns, ⟨xs, h1, h2⟩, rfl⟩ := q
  obtain ⟨p, vs, rfl, h1, r1⟩ := lv_of e hx h1
  cases intsOf_rp r1 h2
  exact ⟨p, ns, rfl, SqL.of h1, k _ F H (.refl e) (old_res (.int _))⟩
def fAll (s : S1) : Option Res := (s.lv.bind boolsOf).map fun bs => rB (bs.all id)
theorem f_all {K : PySem.W.Frag} : FnN (rAll K) (f1 fAll) := fnN1 fun F H x s res e hx q Q k => by
  unfold fAll at q
  simp only [Option.map_eq_some_iff, Option.bind_eq_some_iff] at q
  obtain ⟨ns, ⟨xs, h1, h2⟩, rfl⟩ := q
  obtain ⟨p, vs, rfl, h1, r1⟩ := lv_of e hx h1
  cases boolsOf_rp r1 h2
  exact ⟨p, ns, rfl, SqL.of h1, k _ F H (.refl e) (old_res (.bl _))⟩
def fInt (s : S1) : Option Res := match s with
  | .frz (.int i) => some (rInt i)
  | .frz (.bool b) => some (rInt (if b then 1 else 0))
  | _ => none
theorem f_int : FnN (fun xs H Q => (∃ i, xs = [.int i] ∧ Q (.int i) H) ∨ ∃ k, xs = [.bl k] ∧ Q (.int (if k then 1 else 0)) H) (f1 fInt) := fnN1 fun F H x s res e hx q Q k => by
  unfold fInt at q
  split at q
  · cases q
    cases rp_int (frz_of hx)
    exact .inl ⟨_, rfl, k _ F H (.refl e) (old_res (.int _))⟩
  · cases q
    cases rp_bool (frz_of hx)
    exact .inr ⟨_, rfl, k _ F H (.refl e) (old_res (.int _))⟩
  · cases q
def fMin2 : List S1 → Option Res
  | [.frz (.int i), .frz (.int j)] => some (rInt (if j < i then j else i))
  | _ => none
def fMax2 : List S1 → Option Res
  | [.frz (.int i), .frz (.int j)] => some (rInt (if j > i then j else i))
  | _ => none
theorem f_max2 : FnN (fun xs H Q => ∃ i j, xs = [.int i, .int j] ∧ Q (.int (if j > i then j else i)) H) fMax2 := by
  intro F H vs ss res e o q Q k
  unfold fMax2 at q
  split at q
  · cases q
    obtain ⟨x, y, rfl, hx, hy⟩ := own2 o
    cases rp_int (frz_of hx); cases rp_int (frz_of hy)
    exact ⟨_, _, rfl, k _ F H (.refl e) (old_res (.int _))⟩
  · cases q
def isMin (ds : List PD) : Option Res := match ds with
  | [] => none
  | d :: r => if ((d :: r).all (fun x => (d :: r).all fun y => PySem.W.alike x y) && ((d :: r).all notNone && (PyData.plainAll (d :: r) && decide (PyData.depthAll (d :: r) ≤ 60)))) = true then some (rD (PySem.W.minD d r)) else none
def isMax (ds : List PD) : Option Res := match ds with
  | [] => none
  | d :: r => if ((d :: r).all (fun x => (d :: r).all fun y => PySem.W.alike x y) && ((d :: r).all notNone && (PyData.plainAll (d :: r) && decide (PyData.depthAll (d :: r) ≤ 60)))) = true then some (rD (PySem.W.maxD d r)) else none
def fMin (s : S1) : Option Res := s.lv.bind isMin
def fMax (s : S1) : Option Res := s.lv.bind isMax
def rMinM (K : PySem.W.Frag) (mn : PD → List PD → PD) : List V → Hp → VK → Prop := fun xs H Q => ∃ p vs d r, xs = [.ref p] ∧ SqL K H p vs ∧ DpAll K H vs (d :: r) ∧ PySem.W.AlikeAll (d :: r) ∧ PyData.plainAll (d :: r) = true ∧ PyData.depthAll (d :: r) ≤ 60 ∧ ∀ (i : Nat) v e, vs[i]? = some v → (d :: r)[i]? = some e → e = mn d r → Q v H
theorem plain_mem : ∀ {ds : List PD}, PyData.plainAll ds = true → ∀ d ∈ ds, d.plain = true
  | [], _, d, h => by cases h
  | e :: ds, h, d, hd => by
    rw [PyData.plainAll, Bool.and_eq_true] at h
    rcases List.mem_cons.mp hd with q | q
    · rw [q]; exact h.1
    · exact plain_mem h.2 d q
theorem min_fin {X : Cx} {pins : List (Addr × Obj)} {σ : L2.St} {H : Hp} {s : Shared} (I : Inv X pins σ H s) {vs : List V} {us : List Value} {ds : List PD} {i : Nat} {v : Value} {m : PD} {bs : List Addr} {h' : Heap} (kp : ∀ b o, s.heap.get? b = some o → h'.get? b = some o)
    (rv : Vals vs us) (hd : DpAll X.K H vs ds) (hp : PyData.plainAll ds = true) (hv : us[i]? = some v) (hr : Reads h' v m bs) : ∃ x e, vs[i]? = some x ∧ ds[i]? = some e ∧ e = m ∧ RelV x v := by
  have hl := rv.length
  have hi : i < us.length := (List.getElem?_eq_some_iff.mp hv).1
  obtain ⟨b2, e1, e2, e3⟩ := dpall_zip hd
  have hz : i < b2.length := by have := congrArg List.length e1; rw [List.length_map] at this; omega
  have q1 : vs[i]? = some (b2[i].1) := by rw [← e1, List.getElem?_map, List.getElem?_eq_getElem hz]; rfl
  have q2 : ds[i]? = some (b2[i].2) := by rw [← e2, List.getElem?_map, List.getElem?_eq_getElem hz]; rfl
  obtain ⟨u, hu, ru⟩ := paired_get rv q1
  rw [hv] at hu
  cases hu
  refine ⟨_, _, q1, q2, ?_, ru⟩
  obtain ⟨as, r1⟩ := Dp.reads I _ _ _ (e3 _ (List.getElem_mem hz)) ru
  exact SeqAt.plain_unique _ _ _ _ _ (plain_mem hp _ (List.mem_of_getElem? q2)) (PyProof.Rows.Reads.keeps kp r1) hr
open PySem.W in
theorem reads_all {X : Cx} {pins : List (Addr × Obj)} {σ : L2.St} {H : Hp} {s : Shared} (I : Inv X pins σ H s) {vs : List V} {us : List Value} {ds : List PD} (rv : Vals vs us) (hd : DpAll X.K H vs ds) : ∃ as, ReadsAll s.heap us ds as := Dp.readsAll I ds vs us hd rv
theorem call_minM {X : Cx} (hc : X.calm = true) (hu : X.A.units + 64 < cLine) : CallR X (.builtin "min") (rMinM X.K PySem.W.minD) := by
  intro pins s σ H xs us Q I r h
  obtain ⟨p, vs, d, ds, rfl, hs, hd, ha, hp, hz, q⟩ := h
  obtain ⟨its, rv, hl, _⟩ := I.list hs
  rw [Vals.ref1 r]
  obtain ⟨as, ra⟩ := reads_all I rv hd
  refine PySem.W.min_list_data (I.ok.hd hc) hl.isList (by simpa using ra) ha (by omega) fun i v h' tk bs hv hr kp => ?_
  obtain ⟨x, e, e1, e2, e3, rx⟩ := min_fin I kp rv hd hp (by simpa using hv) hr
  exact ⟨x, H, I.kept kp, rx, q i x e e1 e2 e3⟩
theorem call_maxM {X : Cx} (hc : X.calm = true) (hu : X.A.units + 64 < cLine) : CallR X (.builtin "max") (rMinM X.K PySem.W.maxD) := by
  intro pins s σ H xs us Q I r h
  obtain ⟨p, vs, d, ds, rfl, hs, hd, ha, hp, hz, q⟩ := h
  obtain ⟨its, rv, hl, _⟩ := I.list hs
  rw [Vals.ref1 r]
  obtain ⟨as, ra⟩ := reads_all I rv hd
  refine PySem.W.max_list_data (I.ok.hd hc) hl.isList (by simpa using ra) ha (by omega) fun i v h' tk bs hv hr kp => ?_
  obtain ⟨x, e, e1, e2, e3, rx⟩ := min_fin I kp rv hd hp (by simpa using hv) hr
  exact ⟨x, H, I.kept kp, rx, q i x e e1 e2 e3⟩
theorem isM_of {ds : List PD} {d : PD} {r : List PD} (h : ((d :: r).all (fun x => (d :: r).all fun y => PySem.W.alike x y) && ((d :: r).all notNone && (PyData.plainAll (d :: r) && decide (PyData.depthAll (d :: r) ≤ 60)))) = true) :
    PySem.W.AlikeAll (d :: r) ∧ PyData.plainAll (d :: r) = true ∧ PyData.depthAll (d :: r) ≤ 60 := by
  rw [Bool.and_eq_true, Bool.and_eq_true, Bool.and_eq_true, decide_eq_true_eq] at h
  refine ⟨⟨fun x hx y hy => List.all_eq_true.mp (List.all_eq_true.mp h.1 x hx) y hy, fun x hx z => ?_⟩, h.2.2.1, h.2.2.2⟩
  have := List.all_eq_true.mp h.2.1 x hx
  rw [z] at this
  cases this
theorem f_max {K : PySem.W.Frag} : FnN (rMinM K PySem.W.maxD) (f1 fMax) := fnN1 fun F H x s res e hx q Q k => by
  unfold fMax at q
  rw [Option.bind_eq_some_iff] at q
  obtain ⟨ds, h1, h2⟩ := q
  unfold isMax at h2
  split at h2
  · cases h2
  · rename_i d r
    split at h2
    · rename_i ok
      cases h2
      obtain ⟨o1, o2, o3⟩ := isM_of (ds := d :: r) ok
      obtain ⟨p, vs, rfl, h1, r1⟩ := lv_of e hx h1
      refine ⟨p, vs, d, r, rfl, SqL.of h1, dpl_of e r1, o1, o2, o3, fun i v e' e1 e2 e3 => ?_⟩
      obtain ⟨d', e4, e5⟩ := r1.get e1
      rw [e2] at e4
      cases e4
      subst e3
      exact k v F H (.refl e) (old_res e5)
    · cases h2
def S1.ty : S1 → Option String
  | .frz .none => some "NoneType"
  | .frz (.bool _) => some "bool"
  | .frz (.int _) => some "int"
  | .frz (.str _) => some "str"
  | .frz (.list _) => some "list"
  | .frz (.tuple _) => some "tuple"
  | .frz (.dict _) => none
  | .lst _ => some "list"
  | .dK _ => some "dict"
  | .dT _ => some "dict"
theorem ty_of {K : PySem.W.Frag} {F H : Hp} {x : V} {s : S1} {t : String} (e : Same F H) (hx : ∃ O, Own1 F H x s O) (q : s.ty = some t) : TyX K H x (.type t) := by
  cases s with
  | frz d =>
    have h := frz_of hx
    cases h with
    | non => cases q; exact .base .non
    | bl b => cases q; exact .base (.bl b)
    | int i => cases q; exact .base (.int i)
    | str y => cases q; exact .base (.str y)
    | lst h r => cases q; exact .base (.lst (e _ _ h))
    | tup h r => cases q; exact .base (.tup (e _ _ h))
  | lst xs =>
    cases q
    obtain ⟨O, p, ws, rfl, rfl, h1, h2⟩ := hx
    exact .base (.lst h1)
  | dK xs =>
    cases q
    obtain ⟨O, p, ws, rfl, rfl, h1, h2⟩ := hx
    exact .base (.dK h1)
  | dT xs =>
    cases q
    obtain ⟨O, p, ws, rfl, rfl, h1, h2⟩ := hx
    exact .base (.dT h1)
/-- the kinds that are asked for -/
def isKind (t T : String) : Bool := t == T || (t == "bool" && T == "int")
theorem kit_is {K : PySem.W.Frag} {s : S1} {t : String} (q : s.ty = some t) (T : String) (hT : T = "int" ∨ T = "bool" ∨ T = "str" ∨ T = "list" ∨ T = "tuple" ∨ T = "dict") : PySem.W.kitOne K (.type t) (.type T) = some (isKind t T) := by
  have ht : t = "NoneType" ∨ t = "bool" ∨ t = "int" ∨ t = "str" ∨ t = "list" ∨ t = "tuple" ∨ t = "dict" := by
    cases s with
    | frz d => cases d <;> cases q <;> simp
    | lst _ => cases q; simp
    | dK _ => cases q; simp
    | dT _ => cases q; simp
  refine kit_ty ?_
  rcases hT with rfl | rfl | rfl | rfl | rfl | rfl <;> rcases ht with rfl | rfl | rfl | rfl | rfl | rfl | rfl <;> decide +kernel
end Mm
namespace Mm
open PySem PySem.Spec L2
set_option autoImplicit false
section
variable {X : Cx} {E : XW} {S : List Nat} {pos : Pos} {e e2 : Expr} {es : List Expr}
theorem bt_len : bootBuiltins "len" = some (.builtin "len") := by decide +kernel
theorem bt_sorted : bootBuiltins "sorted" = some (.builtin "sorted") := by decide +kernel
theorem bt_tuple : bootBuiltins "tuple" = some (.type "tuple") := by decide +kernel
theorem bt_list : bootBuiltins "list" = some (.type "list") := by decide +kernel
theorem bt_sum : bootBuiltins "sum" = some (.builtin "sum") := by decide +kernel
theorem bt_all : bootBuiltins "all" = some (.builtin "all") := by decide +kernel
theorem bt_int : bootBuiltins "int" = some (.type "int") := by decide +kernel
theorem bt_max : bootBuiltins "max" = some (.builtin "max") := by decide +kernel
theorem bt_isinstance : bootBuiltins "isinstance" = some (.builtin "isinstance") := by decide +kernel
theorem bt_str : bootBuiltins "str" = some (.type "str") := by decide +kernel
theorem bt_dict : bootBuiltins "dict" = some (.type "dict") := by decide +kernel
theorem bt_bool : bootBuiltins "bool" = some (.type "bool") := by decide +kernel
theorem px_b_len {p : Pos} {ps : Env → Option (List S1)} (hg : Gl X "len") (hm : X.mg "len" = none)  (ha : PXs X [e] ps) (he : starEach [e] X.env = [(false, eval e X.env)] := by rfl) (hpl : (backTo pos (starEach [] X.env)).any (·.1) = false := by rfl) : PX X (.Call (.Name "len" p) [e] [] pos) (pN (f1 fLen) ps) :=
  px_callB (call_lenM) f_len hg hm bt_len ha (he := he) (hpl := hpl)
theorem px_b_sorted {p : Pos} {ps : Env → Option (List S1)} (hg : Gl X "sorted") (hm : X.mg "sorted" = none) (hc : X.calm = true) (hu : X.A.units + 64 < cLine) (ha : PXs X [e] ps) (he : starEach [e] X.env = [(false, eval e X.env)] := by rfl) (hpl : (backTo pos (starEach [] X.env)).any (·.1) = false := by rfl) : PX X (.Call (.Name "sorted" p) [e] [] pos) (pN (f1 fSorted) ps) :=
  px_callB (call_sortedM hc hu) f_sorted hg hm bt_sorted ha (he := he) (hpl := hpl)
theorem px_b_tuple {p : Pos} {ps : Env → Option (List S1)} (hg : Gl X "tuple") (hm : X.mg "tuple" = none)  (ha : PXs X [e] ps) (he : starEach [e] X.env = [(false, eval e X.env)] := by rfl) (hpl : (backTo pos (starEach [] X.env)).any (·.1) = false := by rfl) : PX X (.Call (.Name "tuple" p) [e] [] pos) (pN (f1 fTuple) ps) :=
  px_callTy (call_tuple_of) f_tuple hg hm bt_tuple ha (he := he) (hpl := hpl)
theorem px_b_list {p : Pos} {ps : Env → Option (List S1)} (hg : Gl X "list") (hm : X.mg "list" = none) (hc : X.calm = true) (ha : PXs X [e] ps) (he : starEach [e] X.env = [(false, eval e X.env)] := by rfl) (hpl : (backTo pos (starEach [] X.env)).any (·.1) = false := by rfl) : PX X (.Call (.Name "list" p) [e] [] pos) (pN (f1 fList) ps) :=
  px_callTy (call_listM hc) f_list hg hm bt_list ha (he := he) (hpl := hpl)
theorem px_b_sum {p : Pos} {ps : Env → Option (List S1)} (hg : Gl X "sum") (hm : X.mg "sum" = none) (hc : X.calm = true) (ha : PXs X [e] ps) (he : starEach [e] X.env = [(false, eval e X.env)] := by rfl) (hpl : (backTo pos (starEach [] X.env)).any (·.1) = false := by rfl) : PX X (.Call (.Name "sum" p) [e] [] pos) (pN (f1 fSum) ps) :=
  px_callB (cr_sum hc) f_sum hg hm bt_sum ha (he := he) (hpl := hpl)
theorem px_b_all {p : Pos} {ps : Env → Option (List S1)} (hg : Gl X "all") (hm : X.mg "all" = none) (hc : X.calm = true) (ha : PXs X [e] ps) (he : starEach [e] X.env = [(false, eval e X.env)] := by rfl) (hpl : (backTo pos (starEach [] X.env)).any (·.1) = false := by rfl) : PX X (.Call (.Name "all" p) [e] [] pos) (pN (f1 fAll) ps) :=
  px_callB (cr_all hc) f_all hg hm bt_all ha (he := he) (hpl := hpl)
theorem gx_b_all {p : Pos} {ps : Env → Out (List AR × Env)} (hg : Gl X "all") (hm : X.mg "all" = none) (hc : X.calm = true) (ha : MA X E [e] ps) (he : starEach [e] X.env = [(false, eval e X.env)] := by rfl) (hpl : (backTo pos (starEach [] X.env)).any (·.1) = false := by rfl) : GX X E (.Call (.Name "all" p) [e] [] pos) (gN (f1 fAll) ps) :=
  gx_callB (cr_all hc) f_all hg hm bt_all ha (he := he) (hpl := hpl)
theorem px_b_int {p : Pos} {ps : Env → Option (List S1)} (hg : Gl X "int") (hm : X.mg "int" = none)  (ha : PXs X [e] ps) (he : starEach [e] X.env = [(false, eval e X.env)] := by rfl) (hpl : (backTo pos (starEach [] X.env)).any (·.1) = false := by rfl) : PX X (.Call (.Name "int" p) [e] [] pos) (pN (f1 fInt) ps) :=
  px_callTy (call_int1) f_int hg hm bt_int ha (he := he) (hpl := hpl)
theorem px_b_max {p : Pos} {ps : Env → Option (List S1)} (hg : Gl X "max") (hm : X.mg "max" = none) (hc : X.calm = true) (hu : X.A.units + 64 < cLine) (ha : PXs X [e] ps) (he : starEach [e] X.env = [(false, eval e X.env)] := by rfl) (hpl : (backTo pos (starEach [] X.env)).any (·.1) = false := by rfl) : PX X (.Call (.Name "max" p) [e] [] pos) (pN (f1 fMax) ps) :=
  px_callB (call_maxM hc hu) f_max hg hm bt_max ha (he := he) (hpl := hpl)
theorem px_b_max2 {p : Pos} {ps : Env → Option (List S1)} (hg : Gl X "max") (hm : X.mg "max" = none) (hc : X.calm = true) (ha : PXs X [e, e2] ps) (he : starEach [e, e2] X.env = (false, eval e X.env) :: starEach [e2] X.env := by rfl) (hpl : (backTo pos (starEach [e2] X.env)).any (·.1) = false := by rfl) : PX X (.Call (.Name "max" p) [e, e2] [] pos) (pN fMax2 ps) :=
  px_callB (call_max2 hc) f_max2 hg hm bt_max ha (he := he) (hpl := hpl)
def fIsi (T : String) (s : S1) : Option Res := s.ty.map fun t => rB (isKind t T)
def pIsi (T : String) (p : Env → Option Res) : Env → Option Res := fun ρ => (p ρ).bind fun r => r.s1.bind (fIsi T)
theorem pe_cls {x : Str} {T : String} {p : Pos} (hg : Gl X x) (hm : X.mg x = none) (hv : bootBuiltins x = some (.type T)) (hn : x ≠ "__name__" := by decide) (hd : (x == ("__debug__" : Str)) = false := by decide) : PE X (.Name x p) (tC (.ty T)) := pe_bltn hg hm hv rfl hn hd
def isT (T : String) : Prop := T = "int" ∨ T = "bool" ∨ T = "str" ∨ T = "list" ∨ T = "tuple" ∨ T = "dict"
theorem px_isi {x : Str} {T : String} {p p2 : Pos} {q : Env → Option Res} (hg : Gl X "isinstance") (hm : X.mg "isinstance" = none) (hg2 : Gl X x) (hm2 : X.mg x = none) (hv : bootBuiltins x = some (.type T)) (hT : isT T) (ha : PX X e q) (hn : x ≠ "__name__" := by decide) (hd : (x == ("__debug__" : Str)) = false := by decide)
    (he : starEach [e, .Name x p2] X.env = (false, eval e X.env) :: starEach [.Name x p2] X.env := by rfl) (he2 : starEach [.Name x p2] X.env = [(false, eval (.Name x p2) X.env)] := by rfl) (hpl : (backTo pos (starEach [.Name x p2] X.env)).any (·.1) = false := by rfl) : PX X (.Call (.Name "isinstance" p) [e, .Name x p2] [] pos) (pIsi T q) := by
  obtain ⟨t, pe, f⟩ := ha
  refine ⟨_, pe_callB call_isi hg hm bt_isinstance (pa_cons pe (pa_cons (pe_cls hg2 hm2 hv hn hd) pa_nil he2) he) (by decide) (by decide) he hpl, fun F H σ ρ A r R h Q k => ?_⟩
  unfold pIsi fIsi at h
  simp only [Option.bind_eq_some_iff, Option.map_eq_some_iff] at h
  obtain ⟨r1, e1, s, e2, t', e3, rfl⟩ := h
  refine f F H σ ρ A r1 R e1 _ fun z F1 H1 x1 p1 => ?_
  exact ⟨z, .ty T, .type t', .type T, _, rfl, .ty T, ty_of x1.sub (p1.s1 e2) e3, kit_is e3 T hT, k _ F1 H1 x1 (old_res (.bl _))⟩
/-- isinstance(x, (T1, T2)) -/
def fIsi2 (T U : String) (s : S1) : Option Res := s.ty.map fun t => rB (isKind t T || isKind t U)
def pIsi2 (T U : String) (p : Env → Option Res) : Env → Option Res := fun ρ => (p ρ).bind fun r => r.s1.bind (fIsi2 T U)
theorem px_isi2 {x y : Str} {T U : String} {p p1 p2 p3 : Pos} {n1 : Nat} {q : Env → Option Res} (hg : Gl X "isinstance") (hm : X.mg "isinstance" = none) (hg2 : Gl X x) (hm2 : X.mg x = none) (hg3 : Gl X y) (hm3 : X.mg y = none) (hv : bootBuiltins x = some (.type T)) (hw : bootBuiltins y = some (.type U)) (hT : isT T) (hU : isT U) (ha : PX X e q)
    (hn : x ≠ "__name__" := by decide) (hd : (x == ("__debug__" : Str)) = false := by decide) (hn2 : y ≠ "__name__" := by decide) (hd2 : (y == ("__debug__" : Str)) = false := by decide)
    (he : starEach [e, .Tuple [.Name x p1, .Name y p2] n1 p3] X.env = (false, eval e X.env) :: starEach [.Tuple [.Name x p1, .Name y p2] n1 p3] X.env := by rfl) (he2 : starEach [.Tuple [.Name x p1, .Name y p2] n1 p3] X.env = [(false, eval (.Tuple [.Name x p1, .Name y p2] n1 p3) X.env)] := by rfl)
    (he3 : starEach [.Name x p1, .Name y p2] X.env = (false, eval (.Name x p1) X.env) :: starEach [.Name y p2] X.env := by rfl) (he4 : starEach [.Name y p2] X.env = [(false, eval (.Name y p2) X.env)] := by rfl)
    (hpl : (backTo pos (starEach [.Tuple [.Name x p1, .Name y p2] n1 p3] X.env)).any (·.1) = false := by rfl) : PX X (.Call (.Name "isinstance" p) [e, .Tuple [.Name x p1, .Name y p2] n1 p3] [] pos) (pIsi2 T U q) := by
  obtain ⟨t, pe, f⟩ := ha
  refine ⟨_, pe_callB call_isiT hg hm bt_isinstance (pa_cons pe (pa_cons (pe_tup (pa_cons (pe_cls hg2 hm2 hv hn hd) (pa_cons (pe_cls hg3 hm3 hw hn2 hd2) pa_nil he4) he3)) pa_nil he2) he) (by decide) (by decide) he hpl, fun F H σ ρ A r R h Q k => ?_⟩
  unfold pIsi2 fIsi2 at h
  simp only [Option.bind_eq_some_iff, Option.map_eq_some_iff] at h
  obtain ⟨r1, e1, s, e2, t', e3, rfl⟩ := h
  refine f F H σ ρ A r1 R e1 _ fun z F1 H1 x1 p1 => ⟨by show 2 ≤ sizeLine; decide, fun u hu => ?_⟩
  have x2 := pure_new (o := .tup [.ty T, .ty U]) x1.sub hu
  have x12 := x1.trans x2
  refine ⟨z, u, [.ty T, .ty U], .type t', [.type T, .type U], _, rfl, upd_same, .cons (.ty T) (.cons (.ty U) .nil), ty_of x2.sub (own_pure x2 (p1.s1 e2)) e3, ?_, k _ F1 _ x12 (old_res (.bl _))⟩
  refine kitAny_cons (kit_is e3 T hT) (fun h1 => ?_) (fun h1 => by rw [h1]; rfl)
  refine kitAny_cons (kit_is e3 U hU) (fun h2 => ?_) (fun h2 => by rw [h2, Bool.or_true])
  rw [h1, h2]
  exact kitAny_nil
theorem isT_int : isT "int" := .inl rfl
theorem isT_bool : isT "bool" := .inr (.inl rfl)
theorem isT_str : isT "str" := .inr (.inr (.inl rfl))
theorem isT_list : isT "list" := .inr (.inr (.inr (.inl rfl)))
theorem isT_tuple : isT "tuple" := .inr (.inr (.inr (.inr (.inl rfl))))
def fJoin (a b : PD) : Option Res := match a with
  | .str x => match b with
    | .list ds => (strsOf ds).bind fun ys => if (ys.map (·.length)).sum + ys.length * x.length ≤ 16777216 then some (rS (Txt.join x ys)) else none
    | .tuple ds => (strsOf ds).bind fun ys => if (ys.map (·.length)).sum + ys.length * x.length ≤ 16777216 then some (rS (Txt.join x ys)) else none
    | _ => none
  | _ => none
def gJoin (ga gb : Env → Out (PD × Env)) : Env → Out (Res × Env) := fun ρ => (ga ρ).bind fun a => match a.1 with
  | .str _ => (gb a.2).bind fun b => lift (fJoin a.1 b.1) b.2
  | _ => .stuck
theorem join_run {K : PySem.W.Frag} {F H : Hp} {x y : V} {a b : PD} {res : Res} (e : Same F H) (hx : Rp F x a) (hy : Rp F y b) (h : fJoin a b = some res) (Q : VK) (k : ∀ z F' H', PureX F H F' H' → PRes F' H' H z res → Q z H') :
    ∃ a p, ∃ ys : List Str, x = .str a ∧ [y] = [.ref p] ∧ (SqL K H p (ys.map V.str) ∨ SqT K H p (ys.map V.str)) ∧ (ys.map (·.length)).sum + ys.length * a.length ≤ 16777216 ∧ Q (.str (Txt.join a ys)) H := by
  unfold fJoin at h
  split at h
  · split at h
    · rw [Option.bind_eq_some_iff] at h
      obtain ⟨ys, e1, e2⟩ := h
      split at e2
      · rename_i hz
        cases e2
        cases hy with
        | lst h1 h2 =>
          cases strsOf_rp h2 e1
          exact ⟨_, _, ys, rp_str hx, rfl, .inl (SqL.of (e _ _ h1)), hz, k _ F H (.refl e) (old_res (.str _))⟩
      · cases e2
    · rw [Option.bind_eq_some_iff] at h
      obtain ⟨ys, e1, e2⟩ := h
      split at e2
      · rename_i hz
        cases e2
        cases hy with
        | tup h1 h2 =>
          cases strsOf_rp h2 e1
          exact ⟨_, _, ys, rp_str hx, rfl, .inr (SqT.of (e _ _ h1)), hz, k _ F H (.refl e) (old_res (.str _))⟩
      · cases e2
    · cases h
  · cases h
theorem gx_join {o : Expr} {apos : Pos} {ga gb : Env → Out (PD × Env)} (ho : VX X E o ga) (he : VX X E e gb) (hs : starEach [e] X.env = [(false, eval e X.env)] := by rfl) (hbase : attributeBase o "join" X.env (eval o X.env) = eval o X.env := by rfl) (hline : (apos.endLine == pos.line) = true := by rfl) : GX X E (.Call (.Attribute o "join" apos) [e] [] pos) (gJoin ga gb) := by
  obtain ⟨to, po, qo⟩ := ho
  obtain ⟨te, pe, qe⟩ := he
  refine ⟨_, pe_join po pe hs hbase hline, fun F H σ ρ A R Q h => qo F H σ ρ A R _ ?_⟩
  unfold gJoin at h
  cases e1 : ga ρ with
  | stuck => rw [e1] at h; exact h
  | exc x ρ' => rw [e1] at h; exact h
  | ok b =>
    obtain ⟨d, ρ1⟩ := b
    rw [e1] at h
    intro z F1 H1 A1 R1 x1 r1
    have h : GPost X.mg E F H σ A Q (match (generalizing := false) d with
      | .str _ => (gb ρ1).bind fun b => lift (fJoin d b.1) b.2
      | _ => .stuck) := h
    cases d with
    | str x =>
      refine ⟨⟨x, rp_str r1⟩, qe F1 H1 σ ρ1 A1 R1 _ ?_⟩
      have h : GPost X.mg E F H σ A Q ((gb ρ1).bind fun b => lift (fJoin (.str x) b.1) b.2) := h
      cases e2 : gb ρ1 with
      | stuck => rw [e2] at h; exact h
      | exc x ρ' => rw [e2] at h; exact XPost.ext h x1
      | ok b =>
        obtain ⟨d2, ρ2⟩ := b
        rw [e2] at h
        have h : GPost X.mg E F H σ A Q (lift (fJoin (.str x) d2) ρ2) := h
        intro y F2 H2 A2 R2 x2 r2
        cases ep : fJoin (.str x) d2 with
        | none => rw [ep] at h; exact h.elim
        | some res =>
          rw [ep] at h
          exact join_run R2.sub (r1.mono x2.f) r2 ep Q fun w F3 H3 x3 p3 => lift_post R2 (h.ext (x1.trans x2)) x3 p3
    | _ => exact h.elim
def signsD (x : Str) : List PD := x.cps.toList.map fun c => .str ⟨#[c]⟩
theorem it_str {F : Hp} {x : Str} : ItOk F (Its x) (signsD x) := by
  intro F1 H1 s1 s2 i
  unfold signsD
  refine ⟨fun hi => by
    show x.cps.size ≤ i
    simpa using hi, fun d hd => ?_⟩
  rw [List.getElem?_map, Option.map_eq_some_iff] at hd
  obtain ⟨c, hc, rfl⟩ := hd
  have hi := (List.getElem?_eq_some_iff.mp hc).1
  refine ⟨by
    show i < x.cps.size
    simpa using hi, fun v H2 ⟨e1, c', e2, e3⟩ => ?_⟩
  subst e1 e3
  rw [← Array.getElem?_toList, hc] at e2
  cases e2
  exact ⟨F1, .refl s2, .str _⟩
def zipD (xs ys : List PD) : List PD := List.zipWith (fun a b => PyData.tuple [a, b]) xs ys
theorem zipD_get {xs ys : List PD} {i : Nat} {d : PD} (h : (zipD xs ys)[i]? = some d) : ∃ a b, xs[i]? = some a ∧ ys[i]? = some b ∧ d = .tuple [a, b] := by
  unfold zipD at h
  rw [List.getElem?_zipWith] at h
  split at h
  · rename_i a b ha hb
    cases h
    exact ⟨a, b, ha, hb, rfl⟩
  · cases h
theorem zipD_len {xs ys : List PD} : (zipD xs ys).length = min xs.length ys.length := by unfold zipD; exact List.length_zipWith
theorem itP_zip {K : PySem.W.Frag} {F H : Hp} {a b : Addr} {vs ws : List V} {xs ys : List PD} (h1 : H a = some (.lst vs)) (h2 : H b = some (.lst ws)) (r1 : RpL F vs xs) (r2 : RpL F ws ys) : ItP F H (Itz K a b) (zipD xs ys) := by
  intro F1 H1 x i
  have q1 : SqL K H1 a vs := SqL.of (x.h _ _ h1)
  have q2 : SqL K H1 b ws := SqL.of (x.h _ _ h2)
  refine ⟨fun hi => ⟨vs, ws, q1, q2, by rw [r1.length, r2.length]; rw [zipD_len] at hi; omega⟩, fun d hd => ?_⟩
  obtain ⟨da, db, ea, eb, rfl⟩ := zipD_get hd
  obtain ⟨va, fa, ra⟩ := r1.get' ea
  obtain ⟨vb, fb, rb⟩ := r2.get' eb
  refine ⟨⟨vs, ws, va, vb, q1, q2, fa, fb⟩, fun v H2 ⟨T, x', y', e1, hT, e2, g1, g2⟩ => ?_⟩
  subst e1 e2
  have g1 := g1 vs q1
  have g2 := g2 ws q2
  rw [fa] at g1; rw [fb] at g2
  cases g1; cases g2
  exact ⟨_, pure_newF x.sub hT, .tup upd_same (.cons ((ra.mono x.f).mono (same_new (x.sub.free hT))) (.cons ((rb.mono x.f).mono (same_new (x.sub.free hT))) .nil))⟩
theorem it_zipT {K : PySem.W.Frag} {F : Hp} {a b : Addr} {vs ws : List V} {xs ys : List PD} (h1 : F a = some (.tup vs)) (h2 : F b = some (.tup ws)) (r1 : RpL F vs xs) (r2 : RpL F ws ys) : ItOk F (RZ.ItzT K a b) (zipD xs ys) := by
  intro F1 H1 s1 s2 i
  have q1 : SqT K H1 a vs := SqT.of (s2 _ _ (s1 _ _ h1))
  have q2 : SqT K H1 b ws := SqT.of (s2 _ _ (s1 _ _ h2))
  refine ⟨fun hi => ⟨vs, ws, q1, q2, by rw [r1.length, r2.length]; rw [zipD_len] at hi; omega⟩, fun d hd => ?_⟩
  obtain ⟨da, db, ea, eb, rfl⟩ := zipD_get hd
  obtain ⟨va, fa, ra⟩ := r1.get' ea
  obtain ⟨vb, fb, rb⟩ := r2.get' eb
  refine ⟨⟨vs, ws, va, vb, q1, q2, fa, fb⟩, fun v H2 ⟨T, x', y', e1, hT, e2, g1, g2⟩ => ?_⟩
  subst e1 e2
  have g1 := g1 vs q1
  have g2 := g2 ws q2
  rw [fa] at g1; rw [fb] at g2
  cases g1; cases g2
  exact ⟨_, pure_newF s2 hT, .tup upd_same (.cons ((ra.mono s1).mono (same_new (s2.free hT))) (.cons ((rb.mono s1).mono (same_new (s2.free hT))) .nil))⟩
/-- zip of two lists or of two tuples -/
def iZ (ps : Env → Option (List S1)) : Env → Option (List PD) := fun ρ => (ps ρ).bind fun ss => match ss with
  | [s, t] => match s.lv, t.lv with
    | some xs, some ys => some (zipD xs ys)
    | _, _ => match s.tv, t.tv with
      | some xs, some ys => some (zipD xs ys)
      | _, _ => none
  | _ => none
theorem pix_zip {ps : Env → Option (List S1)} {p tpos : Pos} {elts : List Expr} {kk : Nat} (hg : Gl X "zip") (hm : X.mg "zip" = none) (ha : PXs X [e, e2] ps)
    (hs : starEach [e, e2] X.env = (false, eval e X.env) :: starEach [e2] X.env := by rfl) (hpl : (backTo pos (starEach [e2] X.env)).any (·.1) = false := by rfl) : PIX X (.Tuple elts kk tpos) (.Call (.Name "zip" p) [e, e2] [] pos) (iZ ps) := by
  obtain ⟨t, pa, q⟩ := ha
  refine ⟨_, RZ.pi_zipA hg hm pa hs hpl, fun F H σ ρ A ds R h Q k => ?_⟩
  unfold iZ at h
  rw [Option.bind_eq_some_iff] at h
  obtain ⟨ss, e1, h⟩ := h
  refine q F H σ ρ A ss R e1 _ fun vs F1 H1 x1 o => ?_
  split at h
  · obtain ⟨x, y, rfl, hx, hy⟩ := own2 o
    split at h
    · rename_i xs ys hs ht
      cases h
      obtain ⟨p1, v1, rfl, g1, r1⟩ := lv_of x1.sub hx hs
      obtain ⟨p2, v2, rfl, g2, r2⟩ := lv_of x1.sub hy ht
      exact ⟨p1, p2, v1, v2, rfl, .inl ⟨SqL.of g1, SqL.of g2, k _ F1 H1 x1 (itP_zip g1 g2 r1 r2)⟩⟩
    · split at h
      · rename_i xs ys hs ht
        cases h
        obtain ⟨p1, v1, rfl, g1, r1⟩ := tv_of hx hs
        obtain ⟨p2, v2, rfl, g2, r2⟩ := tv_of hy ht
        exact ⟨p1, p2, v1, v2, rfl, .inr ⟨SqT.of (x1.sub _ _ g1), SqT.of (x1.sub _ _ g2), k _ F1 H1 x1 (it_zipT g1 g2 r1 r2).p⟩⟩
      · cases h
  · cases h
/-- .. whatever is changed meanwhile: of things that stand still -/
def iZV (qs : Env → Option (List PD)) : Env → Option (List PD) := fun ρ => (qs ρ).bind fun ss => match ss with
  | [.list xs, .list ys] => some (zipD xs ys)
  | [.tuple xs, .tuple ys] => some (zipD xs ys)
  | _ => none
theorem it_zip {K : PySem.W.Frag} {F : Hp} {a b : Addr} {vs ws : List V} {xs ys : List PD} (h1 : F a = some (.lst vs)) (h2 : F b = some (.lst ws)) (r1 : RpL F vs xs) (r2 : RpL F ws ys) : ItOk F (Itz K a b) (zipD xs ys) := fun F1 H1 s1 s2 =>
  itP_zip (s2 _ _ (s1 _ _ h1)) (s2 _ _ (s1 _ _ h2)) (r1.mono s1) (r2.mono s1) F1 H1 (.refl s2)
theorem pis_zip {qs : Env → Option (List PD)} {p tpos : Pos} {elts : List Expr} {kk : Nat} (hg : Gl X "zip") (hm : X.mg "zip" = none) (ha : PVs X [e, e2] qs)
    (hs : starEach [e, e2] X.env = (false, eval e X.env) :: starEach [e2] X.env := by rfl) (hpl : (backTo pos (starEach [e2] X.env)).any (·.1) = false := by rfl) : PIS X (.Tuple elts kk tpos) (.Call (.Name "zip" p) [e, e2] [] pos) (iZV qs) := by
  obtain ⟨t, pa, q⟩ := ha
  refine ⟨_, RZ.pi_zipA hg hm pa hs hpl, fun F H σ ρ A ds R h Q k => ?_⟩
  unfold iZV at h
  rw [Option.bind_eq_some_iff] at h
  obtain ⟨ss, e1, h⟩ := h
  refine q F H σ ρ A ss R e1 _ fun vs F1 H1 x1 o => ?_
  split at h
  · cases h
    cases o with
    | cons o1 o =>
      cases o with
      | cons o2 o =>
        cases o
        cases o1 with
        | lst g1 r1 =>
          cases o2 with
          | lst g2 r2 => exact ⟨_, _, _, _, rfl, .inl ⟨SqL.of (x1.sub _ _ g1), SqL.of (x1.sub _ _ g2), k _ F1 H1 x1 (it_zip g1 g2 r1 r2)⟩⟩
  · cases h
    cases o with
    | cons o1 o =>
      cases o with
      | cons o2 o =>
        cases o
        cases o1 with
        | tup g1 r1 =>
          cases o2 with
          | tup g2 r2 => exact ⟨_, _, _, _, rfl, .inr ⟨SqT.of (x1.sub _ _ g1), SqT.of (x1.sub _ _ g2), k _ F1 H1 x1 (it_zipT g1 g2 r1 r2)⟩⟩
  · cases h
end
end Mm
namespace Mm
open PySem PySem.Spec L2
set_option autoImplicit false
end Mm
namespace Mm
open PySem PySem.Spec L2
set_option autoImplicit false
theorem PI.or {X : Cx} {tg iter : Expr} {w1 w2 : TI} (h1 : PI X tg iter w1) (h2 : PI X tg iter w2) : PI X tg iter (fun σ H R => w1 σ H R ∨ w2 σ H R) :=
  ⟨fun pins s σ H R I h => h.elim (h1.run pins s σ H R I) (h2.run pins s σ H R I)⟩
def seqD : PD → Option (List PD)
  | .list xs => some xs
  | .tuple xs => some xs
  | .str x => some (signsD x)
  | _ => none
def iSq (g : Env → Out (PD × Env)) : Env → Out (List PD × Env) := fun ρ => (g ρ).bind fun a => match seqD a.1 with
  | some xs => .ok (xs, a.2)
  | none => .stuck
def S1.sq : S1 → Option (List PD)
  | .frz d => seqD d
  | .lst xs => some xs
  | _ => none
def iP (p : Env → Option Res) : Env → Option (List PD) := fun ρ => (p ρ).bind fun r => r.s1.bind S1.sq
section
variable {X : Cx} {E : XW} {S : List Nat} {pos : Pos} {tg e : Expr} {es : List Expr}
theorem ix_seq {g : Env → Out (PD × Env)} (he : VX X E e g) : IX X E tg e (iSq g) := by
  obtain ⟨t, pe, q⟩ := he
  refine ⟨_, PI.or (pi_list pe) (PI.or (pi_tup pe) (pi_str pe)), fun F H σ ρ A R Q h => ?_⟩
  unfold iSq at h
  cases e : g ρ with
  | stuck => rw [e] at h; exact h.elim
  | exc x ρ' => rw [e] at h; exact .inl (q F H σ ρ A R _ (by rw [e]; exact h))
  | ok b =>
    obtain ⟨d, ρ1⟩ := b
    rw [e] at h
    have h : IPost X.mg E F H σ A Q (match seqD d with | some xs => .ok (xs, ρ1) | none => .stuck) := h
    cases d with
    | list xs =>
      refine .inl (q F H σ ρ A R _ ?_)
      rw [e]
      intro z F1 H1 A1 R1 x1 r1
      cases r1 with
      | lst h1 h2 => exact ⟨_, rfl, ⟨_, SqL.of (R1.sub _ _ h1)⟩, h _ F1 H1 A1 R1 x1 (it_list h1 h2)⟩
    | tuple xs =>
      refine .inr (.inl (q F H σ ρ A R _ ?_))
      rw [e]
      intro z F1 H1 A1 R1 x1 r1
      cases r1 with
      | tup h1 h2 => exact ⟨_, rfl, ⟨_, SqT.of (R1.sub _ _ h1)⟩, h _ F1 H1 A1 R1 x1 (it_tup h1 h2)⟩
    | str x =>
      refine .inr (.inr (q F H σ ρ A R _ ?_))
      rw [e]
      intro z F1 H1 A1 R1 x1 r1
      exact ⟨_, rp_str r1, h _ F1 H1 A1 R1 x1 it_str⟩
    | _ => exact h.elim
theorem pix_seq {p : Env → Option Res} (he : PX X e p) : PIX X tg e (iP p) := by
  obtain ⟨t, pe, q⟩ := he
  refine ⟨_, PI.or (pi_list pe) (PI.or (pi_tup pe) (pi_str pe)), fun F H σ ρ A ds R h Q k => ?_⟩
  unfold iP at h
  simp only [Option.bind_eq_some_iff] at h
  obtain ⟨r, e1, s, e2, e3⟩ := h
  have lst : s.lv = some ds → iList X.K t σ H Q := fun e3 => q F H σ ρ A r R e1 _ fun z F1 H1 x1 p1 => by
    obtain ⟨a, vs, rfl, h1, h2⟩ := lv_of x1.sub (p1.s1 e2) e3
    exact ⟨a, rfl, ⟨_, SqL.of h1⟩, k _ F1 H1 x1 (itP_list h1 h2)⟩
  cases s with
  | lst xs => exact .inl (lst e3)
  | frz d =>
    cases d with
    | list xs => exact .inl (lst e3)
    | tuple xs =>
      refine .inr (.inl (q F H σ ρ A r R e1 _ fun z F1 H1 x1 p1 => ?_))
      obtain ⟨a, vs, rfl, h1, h2⟩ := tv_of (p1.s1 e2) e3
      exact ⟨a, rfl, ⟨_, SqT.of (x1.sub _ _ h1)⟩, k _ F1 H1 x1 (it_tup h1 h2).p⟩
    | str x =>
      cases e3
      refine .inr (.inr (q F H σ ρ A r R e1 _ fun z F1 H1 x1 p1 => ?_))
      exact ⟨_, rp_str (frz_of (p1.s1 e2)), k _ F1 H1 x1 it_str.p⟩
    | _ => cases e3
  | dK _ => cases e3
  | dT _ => cases e3
def AL (n : Nat) (ga : Env → Out (List AR × Env)) : Prop := ∀ ρ as ρ', ga ρ = .ok (as, ρ') → as.length = n
theorem al_nil : AL 0 aNil := fun ρ as ρ' h => by cases h; rfl
theorem al_val {n : Nat} {g : Env → Out (PD × Env)} {r : Env → Out (List AR × Env)} (h : AL n r) : AL (n + 1) (aVal g r) := fun ρ as ρ' e => by
  unfold aVal at e
  cases e1 : g ρ with
  | stuck => rw [e1] at e; cases e
  | exc x ρ' => rw [e1] at e; cases e
  | ok b =>
    rw [e1] at e
    have e : (r b.2).bind (fun c => Out.ok (AR.val b.1 :: c.1, c.2)) = .ok (as, ρ') := e
    cases e2 : r b.2 with
    | stuck => rw [e2] at e; cases e
    | exc x ρ' => rw [e2] at e; cases e
    | ok c =>
      rw [e2] at e
      cases e
      exact congrArg (· + 1) (h _ _ _ e2)
theorem al_slot {n : Nat} {i : Nat} {r : Env → Out (List AR × Env)} (h : AL n r) : AL (n + 1) (aSlot i r) := fun ρ as ρ' e => by
  unfold aSlot at e
  split at e
  · cases e2 : r ρ with
    | stuck => rw [e2] at e; cases e
    | exc x ρ' => rw [e2] at e; cases e
    | ok c =>
      rw [e2] at e
      cases e
      exact congrArg (· + 1) (h _ _ _ e2)
  · cases e
def VL (n : Nat) (qs : Env → Option (List PD)) : Prop := ∀ ρ ds, qs ρ = some ds → ds.length = n
theorem vl_nil : VL 0 vsNil := fun ρ ds h => by cases h; rfl
theorem vl_cons {n : Nat} {q : Env → Option PD} {qs : Env → Option (List PD)} (h : VL n qs) : VL (n + 1) (vsCons q qs) := fun ρ ds e => by
  unfold vsCons at e
  simp only [Option.bind_eq_some_iff] at e
  obtain ⟨d, e1, r, e2, e3⟩ := e
  cases e3
  exact congrArg (· + 1) (h _ _ e2)
def Cal (P : Program) (w : World) (K : PySem.W.Frag) (mg : Str → Option Value) (base : Heap) (k : Nat) (x : Str) (n : Nat) (φ : List SV → Out (Res × Env)) : Prop :=
  ∃ f fd ps, mg x = some (.ref f) ∧ PySem.W.keepIn K (.ref f) = true ∧ Binds K fd ps [] ∧ ps.length = n ∧ FnOk P w K mg base CX0 k f fd ps (spM mg ps.length φ)
variable {k j n : Nat} {x : Str} {p : Pos} {φ : List SV → Out (Res × Env)}
theorem gx_cal {ga : Env → Out (List AR × Env)} (C : Cal X.prog X.w X.K X.mg X.base k x n φ) (hr : Room j X.A) (hk : k ≤ j) (ha : MA X E (e :: es) ga) (hn : AL n ga) (hg : Gl X x := by rfl)
    (hdb : (x == ("__debug__" : Str)) = false := by decide) (he : starEach (e :: es) X.env = (false, eval e X.env) :: starEach es X.env := by rfl) (hpl : (backTo pos (starEach es X.env)).any (·.1) = false := by rfl) : GX X E (.Call (.Name x p) (e :: es) [] pos) (gCall φ ga) := by
  obtain ⟨f, fd, ps, h1, h2, h3, rfl, F⟩ := C
  exact gx_call F (hr.mono hk) h1 h2 h3 passAll ha hn hg hdb he hpl
theorem px_cal {qs : Env → Option (List PD)} (C : Cal X.prog X.w X.K X.mg X.base k x n φ) (hr : Room j X.A) (hk : k ≤ j) (ha : PVs X (e :: es) qs) (hn : VL n qs) (hg : Gl X x := by rfl)
    (hdb : (x == ("__debug__" : Str)) = false := by decide) (he : starEach (e :: es) X.env = (false, eval e X.env) :: starEach es X.env := by rfl) (hpl : (backTo pos (starEach es X.env)).any (·.1) = false := by rfl) : PX X (.Call (.Name x p) (e :: es) [] pos) (pCall φ qs) := by
  obtain ⟨f, fd, ps, h1, h2, h3, rfl, F⟩ := C
  exact px_call F (hr.mono hk) h1 h2 h3 passAll ha hn hg hdb he hpl
theorem Room.u65 {k : Nat} {A : Around} (r : Room k A) : A.units + 65 < cLine := by have := r.un; omega
theorem Room.u64 {k : Nat} {A : Around} (r : Room k A) : A.units + 64 < cLine := by have := r.un; omega
theorem Room.u1 {k : Nat} {A : Around} (r : Room k A) : A.units + 1 < cLine := by have := r.un; omega
end
section
variable {P : Program} {w : World} {K : PySem.W.Frag} {mg : Str → Option Value} {base : Heap}
theorem cal_mk {x qual : Str} {st : Stmt} {f : Addr} {fd : FuncData} {N ps : List Str} {k : Nat} {S : List Nat} {g : Env → Out (Fl × Env)} {φ : List SV → Out (Res × Env)} (F : Fun K x qual st f fd) (hm : mg x = some (.ref f)) (hb : Binds K fd ps []) (sc : FnScope N ps (defScope st)) (hφ : ∀ as, φ as = runF S N.length g as)
    (hbody : ∀ (cdv : Value) (A : Around) (outer : List PySem.Env) (s : Shared) (H : Hp) (E : XK), Room k (A.deeper (PyProof.Rows.envOfC qual (defScope st) s.heap.objs.size f cdv)) →
      MSs (cxOf CX0 P w K mg base N qual (defScope st) f cdv A outer s H E).nox E S (defBody st) g) : Cal P w K mg base (k + 1) x ps.length φ :=
  ⟨f, fd, ps, hm, F.kp, hb, rfl, fun_ok F sc hφ hbody⟩
/-- a def that calls itself, so many calls deep -/
theorem cal_zero {x qual : Str} {st : Stmt} {f : Addr} {fd : FuncData} {N ps : List Str} {k : Nat} (F : Fun K x qual st f fd) (hm : mg x = some (.ref f)) (hb : Binds K fd ps []) (sc : FnScope N ps (defScope st)) : Cal P w K mg base (k + 1) x ps.length (fun _ => .stuck) :=
  ⟨f, fd, ps, hm, F.kp, hb, rfl, F.ok sc (fun vs H Q E h => h.1) (fun cdv A outer s H vs Q E hr h => by
    obtain ⟨_, _, _, _, _, h⟩ := h
    exact h.elim)⟩
end
end Mm
namespace Mm
open PySem PySem.Spec L2
set_option autoImplicit false
/-- the slots behind tape = [list(script), 0, 0] -/
def lawEnv (n : Nat) (ns : List Int) : Env := none :: some (.one (.lst [.list (ns.map .int), .int 0, .int 0])) :: List.replicate (n - 2) none
def spLaw (K : PySem.W.Frag) (m : Nat) : Sp := fun vs H Q _ => ∃ (a : Addr) (ns : List Int), vs = [.ref a] ∧ ns.length ≤ m ∧ SqL K H a (ns.map V.int) ∧ ∀ H', Q (.bl true) H'
theorem rpl_ints {F : Hp} : ∀ ns : List Int, RpL F (ns.map V.int) (ns.map PyData.int)
  | [] => .nil
  | n :: ns => .cons (.int n) (rpl_ints ns)
theorem law_ok {P : Program} {w : World} {K : PySem.W.Frag} {mg : Str → Option Value} {base : Heap} {st : Stmt} {f : Addr} {fd : FuncData} {N : List Str} {k m : Nat} {g : Env → Out (Fl × Env)} {p1 p2 p3 p4 p5 p6 p7 p8 : Pos} {j1 j2 : Nat} {rest : List Stmt} (F : Fun K "law" "law" st f fd) (sc : FnScope N ["script"] (defScope st))
    (hb : defBody st = .Assign [.Name "tape" p1] (.List [.Call (.Name "list" p2) [.Name "script" p3] [] p4, .Constant (.int 0) j1 p5, .Constant (.int 0) j2 p6] p7) p8 :: rest)
    (h1 : N[1]? = some ("tape" : Str)) (hl : Loc (defScope st) "tape") (hs : Vis (defScope st) "script") (hgl : (defScope st).names.lookup ("list" : Str) = some .globalImplicit) (hz : mg "list" = none)
    (hbody : ∀ (cdv : Value) (A : Around) (outer : List PySem.Env) (s : Shared) (H : Hp) (E : XK), Room k (A.deeper (PyProof.Rows.envOfC "law" (defScope st) s.heap.objs.size f cdv)) →
      MSs (cxOf CX0 P w K mg base N "law" (defScope st) f cdv A outer s H E).nox E [] rest g)
    (hok : ∀ ns : List Int, ns.length ≤ m → ∃ ρ', g (lawEnv N.length ns) = .ok (.rt (rB true), ρ')) : FnOk P w K mg base CX0 (k + 1) f fd ["script"] (spLaw K m) := by
  refine F.ok sc (fun vs H Q E h => by obtain ⟨a, ns, rfl, _⟩ := h; rfl) (fun cdv A outer s H vs Q E hr h => ?_)
  obtain ⟨a, ns, rfl, hlen, hS, q⟩ := h
  obtain ⟨t, pt, ft⟩ := hbody cdv A outer s H E hr
  rw [hb]
  have h0 : N[0]? = some ("script" : Str) := by
    have := congrArg (fun l : List Str => l[0]?) sc.pre
    simpa using this
  refine ⟨_, pss_cons (ps_set sc.nd h1 hl (pe_lst (pa_cons (pe_callTy call_list_of hgl hz bt_list (pa_cons (pe_var h0 hs) pa_nil) (by decide) (by decide) (by rfl) (by rfl)) (pa_cons pe_int (pa_cons pe_int pa_nil (by rfl)) (by rfl)) (by rfl))) (by rfl) (.inl rfl)) pt, ?_⟩
  obtain ⟨ρ', hg⟩ := hok ns hlen
  have hn : 2 ≤ N.length := (List.getElem?_eq_some_iff.mp h1).1
  have e0 : (L2.start N [V.ref a])[0]? = some (some (V.ref a)) := rfl
  refine ⟨.ref a, e0, a, _, rfl, .inl hS, fun p hp => ?_⟩
  refine ⟨by show 3 ≤ sizeLine; decide, fun t0 ht0 => ?_⟩
  have hpt : t0 ≠ p := fun e => by rw [e, upd_same] at ht0; cases ht0
  have hlen2 : (L2.start N [V.ref a]).length = N.length := by unfold L2.start; simp; omega
  refine ft (fun b => if b = p then some (.lst (ns.map V.int)) else none) _ _ (lawEnv N.length ns) (fun i => if i = 1 then [t0] else []) ⟨fun b o e => ?_, ?_, fun i sv e => ?_, fun i h => ?_, fun i b hb => ?_, fun i j b hi hj => ?_, fun i => ?_⟩ _ ?_
  · by_cases hbp : b = p
    · rw [if_pos hbp] at e
      cases e
      rw [hbp, upd_ne (Ne.symm hpt), upd_same]
    · rw [if_neg hbp] at e; cases e
  · rw [List.length_set, hlen2]
    unfold lawEnv
    simp; omega
  · match i, e with
    | 0, e => cases e
    | 1, e =>
      cases e
      refine ⟨.ref t0, by rw [List.getElem?_set_self (by rw [hlen2]; exact hn)], ?_⟩
      exact ⟨t0, _, rfl, rfl, upd_same, .cons (.lst (if_pos rfl) (rpl_ints ns)) (.cons (.int 0) (.cons (.int 0) .nil))⟩
    | i + 2, e =>
      exfalso
      have e : (List.replicate (N.length - 2) (none : Option SV))[i]? = some (some sv) := e
      rw [List.getElem?_replicate] at e
      split at e <;> cases e
  · by_cases hi : i = 1
    · subst hi
      exact absurd rfl (h (.one (.lst [.list (ns.map .int), .int 0, .int 0])))
    · show (if i = 1 then [t0] else []) = []
      rw [if_neg hi]
  · have hb : b ∈ (if i = 1 then [t0] else []) := hb
    split at hb
    · rw [List.mem_singleton.mp hb]; exact if_neg hpt
    · cases hb
  · have hi : b ∈ (if i = 1 then [t0] else []) := hi
    have hj : b ∈ (if j = 1 then [t0] else []) := hj
    split at hi
    · split at hj
      · omega
      · cases hj
    · cases hi
  · show (if i = 1 then [t0] else []).Nodup
    split
    · simp
    · exact List.nodup_nil
  · rw [hg]
    intro z σ' F' H' A' R' x pn gr
    cases (show Rp F' z (.bool true) from gr)
    exact q H'
end Mm
namespace Mm
open PySem PySem.Spec L2
set_option autoImplicit false
def pChain (φ φ' : S1 → S1 → Option Res) (pa pb pc : Env → Option Res) : Env → Option Res := fun ρ => (pa ρ).bind fun ra => ra.s1.bind fun s => (pb ρ).bind fun rb => rb.s1.bind fun t => (φ s t).bind fun r => r.tr.bind fun k =>
  if k = true then (pc ρ).bind fun rc => rc.s1.bind fun u => φ' t u else some (rB false)
section
variable {X : Cx} {E : XW} {S : List Nat} {a b c : Expr} {pos : Pos} {op op' : CmpOp} {r r' : R2} {φ φ' : S1 → S1 → Option Res} {pa pb pc : Env → Option Res}
theorem chain_run {ta tb tc : TE} (hf : Fn2 r φ) (hf' : Fn2 r' φ')
    (qa : ∀ F H σ ρ A r, Rel F H σ ρ A → pa ρ = some r → ∀ Q : VK, (∀ z F' H', PureX F H F' H' → PRes F' H' H z r → Q z H') → ta σ H Q)
    (qb : ∀ F H σ ρ A r, Rel F H σ ρ A → pb ρ = some r → ∀ Q : VK, (∀ z F' H', PureX F H F' H' → PRes F' H' H z r → Q z H') → tb σ H Q)
    (qc : ∀ F H σ ρ A r, Rel F H σ ρ A → pc ρ = some r → ∀ Q : VK, (∀ z F' H', PureX F H F' H' → PRes F' H' H z r → Q z H') → tc σ H Q)
    {F H : Hp} {σ : L2.St} {ρ : Env} {A : Ad} {res : Res} (R : Rel F H σ ρ A) (h : pChain φ φ' pa pb pc ρ = some res) (Q : VK) (k : ∀ z F' H', PureX F H F' H' → PRes F' H' H z res → Q z H') : tChain r r' ta tb tc σ H Q := by
  unfold pChain at h
  simp only [Option.bind_eq_some_iff] at h
  obtain ⟨ra, ea, s, sa, rb, eb, t, sb, r1, e1, k1, e2, e⟩ := h
  refine qa F H σ ρ A ra R ea _ fun x F1 H1 x1 p1 => ?_
  refine qb F1 H1 σ ρ A rb (R.pure x1) eb _ fun y F2 H2 x2 p2 => ?_
  refine hf F2 H2 x y s t r1 x2.sub (own_pure x2 (p1.s1 sa)) (p2.s1 sb) e1 _ fun z F3 H3 x3 p3 => ⟨k1, pres_tr p3 e2, ?_⟩
  have x13 := (x1.trans x2).trans x3
  cases k1 with
  | false =>
    rw [if_neg Bool.false_ne_true] at e ⊢
    cases e
    exact k _ F3 H3 x13 (old_res (.bl _))
  | true =>
    rw [if_pos rfl] at e ⊢
    simp only [Option.bind_eq_some_iff] at e
    obtain ⟨rc, ec, u, sc, e⟩ := e
    refine qc F3 H3 σ ρ A rc (R.pure x13) ec _ fun w F4 H4 x4 p4 => ?_
    exact hf' F4 H4 y w t u res x4.sub (own_pure x4 (own_pure x3 (p2.s1 sb))) (p4.s1 sc) e Q fun z F5 H5 x5 p5 => k z F5 H5 ((x13.trans x4).trans x5) (PRes.back (F := F) (x13.trans x4).h p5)
theorem px_chain (ho : OpR X (compareOp op) r) (hf : Fn2 r φ) (ho' : OpR X (compareOp op') r') (hf' : Fn2 r' φ') (ha : PX X a pa) (hb : PX X b pb) (hc : PX X c pc) (hm : lastMarks [op, op'] [b, c] = false := by with_unfolding_all rfl) : PX X (.Compare a [op, op'] [b, c] pos) (pChain φ φ' pa pb pc) := by
  obtain ⟨ta, ea, qa⟩ := ha
  obtain ⟨tb, eb, qb⟩ := hb
  obtain ⟨tc, ec, qc⟩ := hc
  exact ⟨_, pe_chain ho ho' ea eb ec hm, fun F H σ ρ A res R h Q k => chain_run hf hf' qa qb qc R h Q k⟩
def mPar (i j : Nat) (ga gb : Env → Out (PD × Env)) : Env → Out (Fl × Env) := fun ρ => (ga ρ).bind fun a => (gb a.2).bind fun b => .ok (.nx, (b.2.set i (some (.one (.frz a.1)))).set j (some (.one (.frz b.1))))
theorem ms_par {i j : Nat} {x y : Str} {px py pt pt2 : Pos} {kt k2 : Nat} {ga gb : Env → Out (PD × Env)} (hN : X.N.Nodup) (hc : X.calm = true) (ha : VX X E a ga) (hb : VX X E b gb) (hij : i ≠ j := by decide) (hi : X.N[i]? = some x := by rfl) (hj : X.N[j]? = some y := by rfl)
    (hx : X.env.scope.names.lookup x = some .local := by rfl) (hy : X.env.scope.names.lookup y = some .local := by rfl) (hS : S.contains i = false := by rfl) (hS' : S.contains j = false := by rfl)
    (hw : swappedStores [.Tuple [.Name x px, .Name y py] kt pt] (.Tuple [a, b] k2 pt2) X.env = pure (some [x, y]) := by rfl)
    (hs : swapsWithSole [.Tuple [.Name x px, .Name y py] kt pt] (.Tuple [a, b] k2 pt2) pos.line X.env = pure false := by rfl)
    (he : starEach [a, b] X.env = (false, eval a X.env) :: starEach [b] X.env := by rfl) (he2 : starEach [b] X.env = [(false, eval b X.env)] := by rfl) : MS X E S (.Assign [.Tuple [.Name x px, .Name y py] kt pt] (.Tuple [a, b] k2 pt2) pos) (mPar i j ga gb) := by
  obtain ⟨ta, ea, qa⟩ := ha
  obtain ⟨tb, eb, qb⟩ := hb
  have li : i < X.N.length := (List.getElem?_eq_some_iff.mp hi).1
  have lj : j < X.N.length := (List.getElem?_eq_some_iff.mp hj).1
  refine ⟨_, ps_len (ps_par hc hN hi hj hij hx hy (pa_cons ea (pa_cons eb pa_nil he2) he) hw hs), fun F H σ ρ A R D h hz => qa F H σ ρ A R _ ?_⟩
  unfold mPar at h
  cases e1 : ga ρ with
  | stuck => rw [e1] at h; exact h
  | exc x ρ' => rw [e1] at h; exact xpost_s h
  | ok q =>
    obtain ⟨d1, ρ1⟩ := q
    rw [e1] at h
    have h : SPost X.mg E S F H σ A D ((gb ρ1).bind fun b => .ok (.nx, (b.2.set i (some (.one (.frz d1)))).set j (some (.one (.frz b.1))))) := h
    intro v F1 H1 A1 R1 x1 r1
    refine qb F1 H1 σ ρ1 A1 R1 _ ?_
    cases e2 : gb ρ1 with
    | stuck => rw [e2] at h; exact h
    | exc x ρ' => rw [e2] at h; exact XPost.ext (xpost_s h) x1
    | ok q =>
      obtain ⟨d2, ρ2⟩ := q
      rw [e2] at h
      intro w F2 H2 A2 R2 x2 r2
      refine ⟨v, w, rfl, ?_⟩
      obtain ⟨A3, R3, x3⟩ := setR_ok (v := v) (r := rD d1) R2 (x1.trans x2) (r1.mono x2.f) (show i < σ.length by rw [hz]; exact li) rfl
      obtain ⟨A4, R4, x4⟩ := setR_ok (v := w) (r := rD d2) R3 x3 r2 (show j < (σ.set i (some v)).length by rw [List.length_set, hz]; exact lj) rfl
      exact (show SPost X.mg E S F H σ A D (.ok (.nx, (ρ2.set i (some (.one (.frz d1)))).set j (some (.one (.frz d2))))) from h) _ F2 H2 A4 R4 x4 ((pin_set hS).trans (pin_set hS'))
end
end Mm
namespace Mm
open PySem PySem.Spec L2
set_option autoImplicit false
section
open PyProof.Rows HT
variable {prog : Program} {w : World} {A : Around} {E : Value → Shared → Prop} {s : Shared}
theorem sliceApplied_rev {sl : Addr} {vs : Value} {n : Nat} {Q : Int × Int × Nat → Shared → Prop} (hs : s.heap.IsSliceOf sl .none .none vs) (ps : IsPart vs (some (-1)))
    (h : Q ((n : Int) - 1, -1, n) s) : wpAny (model prog w) A (Builtin.Slice.sliceApplied (.ref sl) (pure (n : Int))) Q E s := by
  obtain ⟨os, hos, hcs, hds⟩ := id hs
  unfold Builtin.Slice.sliceApplied Builtin.Slice.sliceFields
  refine wpAny_bind (wpAny_bind (wpAny_field hos hds (x := .none) rfl (wpAny_bind (wpAny_field hos hds (x := .none) rfl (wpAny_bind (wpAny_field hos hds (x := vs) rfl (wpAny_pure ?_)))))))
  refine wpAny_bind (slicePart_ ps ?_)
  show wpAny _ _ (if ((-1 : Int) == 0) = true then _ else _) _ _ s
  rw [if_neg (by decide)]
  refine wpAny_bind (slicePart_none (wpAny_bind (slicePart_none (wpAny_bind (wpAny_pure ?_)))))
  have e1 : Builtin.Slice.sliceAdjust none none (-1) (n : Int) = ((n : Int) - 1, -1) := by
    unfold Builtin.Slice.sliceAdjust
    simp
  show wpAny _ _ (match Builtin.Slice.sliceAdjust none none (-1) (n : Int) with | (lo, hi) => pure (lo, (-1 : Int), Builtin.Slice.slicePlaces lo hi (-1))) _ _ s
  rw [e1]
  have e2 : Builtin.Slice.slicePlaces ((n : Int) - 1) (-1) (-1) = n := by
    unfold Builtin.Slice.slicePlaces
    by_cases hn : n = 0
    · subst hn; decide
    · simp
      omega
  show wpAny _ _ (pure ((n : Int) - 1, (-1 : Int), Builtin.Slice.slicePlaces ((n : Int) - 1) (-1) (-1))) _ _ s
  rw [e2]
  exact wpAny_pure h
theorem fm_map {α β : Type} {f : α → Option β} {g : α → β} : ∀ {l : List α}, (∀ m ∈ l, f m = some (g m)) → l.filterMap f = l.map g
  | [], _ => rfl
  | x :: l, h => by
    rw [List.filterMap_cons, h x List.mem_cons_self, List.map_cons, fm_map fun m hm => h m (List.mem_cons_of_mem _ hm)]
theorem pick_rev (xs : Array Value) : ((List.range xs.size).filterMap fun (m : Nat) => xs[(((xs.size : Int) - 1) + (m : Int) * (-1)).toNat]?).toArray = xs.toList.reverse.toArray := by
  congr 1
  apply List.ext_getElem?
  intro i
  have e : ∀ m ∈ List.range xs.size, xs[(((xs.size : Int) - 1) + (m : Int) * (-1)).toNat]? = some (xs.toList.reverse.getD m .none) := by
    intro m hm
    have hm := List.mem_range.mp hm
    have e1 : (((xs.size : Int) - 1) + (m : Int) * (-1)).toNat = xs.size - 1 - m := by omega
    rw [e1, List.getD_eq_getElem?_getD, List.getElem?_reverse (by simpa using hm), Array.length_toList, Array.getElem?_toList]
    have : xs.size - 1 - m < xs.size := by omega
    rw [Array.getElem?_eq_getElem this]; rfl
  have e3 : ((List.range xs.size).filterMap fun (m : Nat) => xs[(((xs.size : Int) - 1) + (m : Int) * (-1)).toNat]?) = (List.range xs.size).map fun m => xs.toList.reverse.getD m .none := fm_map e
  rw [e3, List.getElem?_map]
  by_cases hi : i < xs.size
  · rw [List.getElem?_range hi, Option.map_some, List.getD_eq_getElem?_getD, List.getElem?_eq_getElem (by simpa using hi)]; rfl
  · rw [List.getElem?_eq_none (by simp; omega), List.getElem?_eq_none (by simp; omega)]; rfl
theorem getItem_tuple_rev {t sl : Addr} {items : Array Value} {vs : Value} {Q : Value → Shared → Prop} (ht : IsTup s.heap t items) (hs : s.heap.IsSliceOf sl .none .none vs) (ps : IsPart vs (some (-1)))
    (h : Q (.ref s.heap.objs.size) { s with heap := s.heap.push { cls := .type "tuple", data := .seq items.toList.reverse.toArray } })
    (hsz : items.size ≤ sizeLine) : wpAny (model prog w) A (getItem (.ref t) (.ref sl)) Q E s := by
  have htake : sizeOk (.seq items.toList.reverse.toArray) := by
    show items.toList.reverse.toArray.size ≤ sizeLine
    rw [List.size_toArray, List.length_reverse, Array.length_toList]
    exact hsz
  obtain ⟨os, hos, hcs, hds⟩ := id hs
  have hTs : s.TypeIs (.ref sl) "slice" := ⟨os, hos, hcs⟩
  unfold getItem
  try with_reducible refine wpAny_holding ?_
  first | refine wpAny_bind (wpAny_pure ?_) | skip
  refine wpAny_bind (wpAny_sequenceKey ht.typeIs (by decide) ?_)
  refine wpAny_bind (wpAny_callSpecial?_slot (name := Str.ofString "__getitem__") ht.typeIs PyProof.Rows.slot_tuple_getitem
    (wpAny_call_entry PyProof.Rows.slot_tuple_getitem ht.typeIs entry_tuple_getitem ?_ (args_tuple_getitem _ _)))
  show wpAny _ _ (Builtin.Tuple.tupleItemsOf (.ref t) >>= _) _ _ s
  refine wpAny_bind (tupleItemsOf_ ht ?_)
  refine wpAny_bind (wpAny_typeOf hTs ?_)
  rw [if_pos (by decide)]
  refine wpAny_bind (sliceApplied_rev hs ps ?_)
  have hno : ¬ ((((items.size : Int) - 1) == 0 && (-1 : Int) == 1 && items.size == items.size) = true) := by
    intro q
    rw [Bool.and_eq_true, Bool.and_eq_true] at q
    exact absurd q.1.2 (by decide)
  show wpAny _ _ (if (((items.size : Int) - 1) == 0 && (-1 : Int) == 1 && items.size == items.size) = true then _ else _) _ _ s
  rw [if_neg hno, pick_rev]
  first
    | exact wpAny_bind (m := Builtin.Tuple.tupleExact _) (wpAny_newObj_type (wpAny_pure ⟨_, rfl, wpAny_pure h⟩) htake)
    | exact wpAny_bind (m := Builtin.Tuple.tupleExact _) (wpAny_newObj_type (wpAny_bind (wpAny_pure (wpAny_pure ⟨_, rfl, wpAny_pure h⟩))) htake)
    | exact wpAny_bind (wpAny_bind (m := Builtin.Tuple.tupleExact _) (wpAny_newObj_type (wpAny_pure (wpAny_pure ⟨_, rfl, wpAny_pure h⟩)) htake))
    | exact wpAny_bind (wpAny_bind (m := Builtin.Tuple.tupleExact _) (wpAny_newObj_type (wpAny_pure ⟨_, rfl, wpAny_pure h⟩) htake))
end
def tRevT (K : PySem.W.Frag) (te : TE) : TE := fun σ H Q => te σ H fun x H1 => ∃ a xs, x = .ref a ∧ SqT K H1 a xs ∧ ∀ p, H1 p = none → Q (.ref p) (upd H1 p (.tup xs.reverse))
section
variable {X : Cx} {E : XW} {S : List Nat} {e : Expr} {pos : Pos}
open PyProof.Rows in
theorem pe_revT {te : TE} {k : Nat} {p1 p2 p3 : Pos} (he : PE X e te) : PE X (.Subscript e (.Slice none none (some (.UnaryOp .USub (.Constant (.int 1) k p1) p2)) p3) pos) (tRevT X.K te) := by
  refine ⟨fun pins s σ H Q I h => ?_⟩
  refine Subscript_ (thn (he.run pins s σ H _ I h) fun v s1 ⟨x, H1, I1, r1, q1⟩ => ?_)
  obtain ⟨a, xs, ex, hx, q⟩ := q1
  subst ex
  cases r1
  have hst : PO X (some (.UnaryOp .USub (.Constant (.int 1) k p1) p2)) (tPart (tUn (rU fun i => .int (-i)) (tC (.int 1)))) := po_some (pe_un un_neg pe_int)
  refine wpAny_Slice (thn (po_none.run pins s1 σ H1 (fun o H2 => o = none ∧ H2 = H1) I1 ⟨rfl, rfl⟩) fun vl s2 ⟨l, H2, I2, pl, el, e2⟩ => ?_)
  subst el e2
  refine thn (po_none.run pins s2 σ H2 (fun o H3 => o = none ∧ H3 = H2) I2 ⟨rfl, rfl⟩) fun vu s3 ⟨u, H3, I3, pu, eu, e3⟩ => ?_
  subst eu e3
  refine thn (hst.run pins s3 σ H3 (fun o H4 => o = some (-1) ∧ H4 = H3) I3 ⟨1, rfl, -1, rfl, rfl, rfl⟩) fun vs s4 ⟨o, H4, I4, ps, eo, e4⟩ => ?_
  subst eo e4
  cases pl
  cases pu
  have I5 : Inv X pins σ H4 { s4 with heap := s4.heap.push { cls := .type "slice", data := .fields #[.none, .none, vs] } } := I4.kept (t' := s4.toks) fun b ob q => Heap.get?_push_of_some _ q
  obtain ⟨its, r, ht, hz⟩ := I5.tuple hx
  have hlen := r.length
  show wpAny (model X.prog X.w) X.A (subscriptTail e (.Slice none none (some (.UnaryOp .USub (.Constant (.int 1) k p1) p2)) p3) (.ref a) (.ref s4.heap.objs.size)) (EP X pins σ Q) X.xe { s4 with heap := s4.heap.push { cls := .type "slice", data := .fields #[.none, .none, vs] } }
  refine tail_any (ops := [.ref a, .ref s4.heap.objs.size]) ht.typeIs (PyProof.Rows.slot_tuple_getitem.lookup) ?_ (by with_unfolding_all rfl)
  refine getItem_tuple_rev ht (Heap.IsSliceOf.new _ .none .none vs) ps ?_ (by rw [List.size_toArray]; omega)
  refine ⟨.ref _, _, I5.laid (t' := s4.toks) (o := .tup xs.reverse) (fun b ob q => Heap.get?_push_of_some _ q) (Nat.le_refl _) ?_, rfl, q _ (I5.hok.fresh (Nat.le_refl _))⟩
  exact ⟨by rw [List.length_reverse]; exact hz, its.reverse, r.reverse, IsTup.new _ _⟩
def fRev (s : S1) : Option Res := match s.lv with
  | some xs => some (rL xs.reverse)
  | none => s.tv.map fun xs => rD (.tuple xs.reverse)
theorem PE.or {t1 t2 : TE} {e' : Expr} (h1 : PE X e' t1) (h2 : PE X e' t2) : PE X e' (fun σ H Q => t1 σ H Q ∨ t2 σ H Q) := ⟨fun pins s σ H Q I h => h.elim (h1.run pins s σ H Q I) (h2.run pins s σ H Q I)⟩
theorem px_rev {k : Nat} {q1 q2 q3 : Pos} {p : Env → Option Res} (he : PX X e p) : PX X (.Subscript e (.Slice none none (some (.UnaryOp .USub (.Constant (.int 1) k q1) q2)) q3) pos) (p1 fRev p) := by
  obtain ⟨t, pe, q⟩ := he
  refine ⟨_, PE.or (pe_revL pe) (pe_revT pe), fun F H σ ρ A r R h Q k => ?_⟩
  unfold p1 at h
  simp only [Option.bind_eq_some_iff] at h
  obtain ⟨r1, e1, s, e2, e3⟩ := h
  unfold fRev at e3
  split at e3
  · rename_i xs hs
    cases e3
    refine .inl (q F H σ ρ A r1 R e1 _ fun z F1 H1 x1 p1 => ?_)
    obtain ⟨a, vs, rfl, h1, h2⟩ := lv_of x1.sub (p1.s1 e2) hs
    exact ⟨a, vs, rfl, SqL.of h1, fun p hp => k _ _ _ (x1.trans (pure_new x1.sub hp)) (PRes.back (F := F) x1.h (new_lst x1.sub hp h2.reverse))⟩
  · rw [Option.map_eq_some_iff] at e3
    obtain ⟨xs, hs, rfl⟩ := e3
    refine .inr (q F H σ ρ A r1 R e1 _ fun z F1 H1 x1 p1 => ?_)
    obtain ⟨a, vs, rfl, h1, h2⟩ := tv_of (p1.s1 e2) hs
    exact ⟨a, vs, rfl, SqT.of (x1.sub _ _ h1), fun p hp => k _ _ _ (x1.trans (pure_newF x1.sub hp)) (PRes.back (F := F) x1.h (new_tup x1.sub hp h2.reverse))⟩
end
end Mm
namespace Mm
open PySem PySem.Spec L2
set_option autoImplicit false
section
variable {X : Cx} {E : XW}
/-- x[e], x a slot of its own -/
def gIxS (i : Nat) (g : Env → Out (PD × Env)) : Env → Out (Res × Env) := fun ρ => (getS i ρ).elim .stuck fun _ => (g ρ).bind fun b => (getS i b.2).elim .stuck fun s => lift (fIx s (.frz b.1)) b.2
theorem own_any {F H : Hp} {σ : L2.St} {ρ : Env} {A : Ad} (R : Rel F H σ ρ A) {i : Nat} {s : S1} (h : getS i ρ = some s) : ∃ v, σ[i]? = some (some v) ∧ Own1 F H v s (A i) := by
  obtain ⟨v, h1, h2⟩ := R.own i _ (getS_of h)
  exact ⟨v, h1, h2⟩
theorem gx_ixS {i : Nat} {x : Str} {p : Pos} {e : Expr} {pos : Pos} {g : Env → Out (PD × Env)} (hu : X.A.units + 1 < cLine) (he : VX X E e g) (hN : X.N[i]? = some x := by rfl) (hv : Vis X.env.scope x := by first | exact Or.inl rfl | exact Or.inr (Or.inl rfl) | exact Or.inr (Or.inr rfl)) (hd : (x == ("__debug__" : Str)) = false := by decide)
    (hcd : (x == ("__classdict__" : Str)) = false := by decide) (hs : PlainIx e := by intro _ _; rfl) : GX X E (.Subscript (.Name x p) e pos) (gIxS i g) := by
  obtain ⟨t, pe, q⟩ := he
  refine ⟨_, pe_ix (ix_M hu) (pe_var hN hv hd hcd) pe hs, fun F H σ ρ A R Q h => ?_⟩
  unfold gIxS at h
  cases e0 : getS i ρ with
  | none => rw [e0] at h; exact h.elim
  | some s0 =>
    rw [e0] at h
    have h : GPost X.mg E F H σ A Q ((g ρ).bind fun b => (getS i b.2).elim .stuck fun s => lift (fIx s (.frz b.1)) b.2) := h
    obtain ⟨v, h1, h2⟩ := own_any R e0
    refine ⟨v, h1, q F H σ ρ A R _ ?_⟩
    cases e1 : g ρ with
    | stuck => rw [e1] at h; exact h
    | exc x ρ' => rw [e1] at h; exact h
    | ok b =>
      obtain ⟨d, ρ1⟩ := b
      rw [e1] at h
      have h : GPost X.mg E F H σ A Q ((getS i ρ1).elim .stuck fun s => lift (fIx s (.frz d)) ρ1) := h
      intro z F1 H1 A1 R1 x1 g1
      cases e2 : getS i ρ1 with
      | none => rw [e2] at h; exact h.elim
      | some s =>
        rw [e2] at h
        have h : GPost X.mg E F H σ A Q (lift (fIx s (.frz d)) ρ1) := h
        obtain ⟨v', h3, h4⟩ := own_any R1 e2
        rw [h1] at h3
        cases h3
        cases e3 : fIx s (.frz d) with
        | none => rw [e3] at h; exact h.elim
        | some r =>
          rw [e3] at h
          exact f_ix F1 H1 v z s (.frz d) r R1.sub ⟨_, h4⟩ ⟨[], rfl, g1⟩ e3 Q fun z2 F2 H2 x2 pr => lift_post R1 (h.ext x1) x2 pr
variable {S : List Nat} {pos : Pos}
def RX (X : Cx) (E : XW) (S : List Nat) (e : Expr) (g : Env → Out (Fl × Env)) : Prop :=
  ∃ t, PE X e t ∧ ∀ F H σ ρ A, Rel F H σ ρ A → ∀ D : Ends, SPost X.mg E S F H σ A D (g ρ) → t σ H D.rt
theorem rx_gx {e : Expr} {g : Env → Out (Res × Env)} (he : GX X E e g) : RX X E S e (mRet g) := by
  obtain ⟨t, pe, q⟩ := he
  refine ⟨t, pe, fun F H σ ρ A R D h => q F H σ ρ A R _ ?_⟩
  unfold mRet at h
  cases e : g ρ with
  | stuck => rw [e] at h; exact h
  | exc x ρ' => rw [e] at h; exact xpost_s h
  | ok b =>
    obtain ⟨r, ρ1⟩ := b
    rw [e] at h
    exact fun z F1 H1 A1 R1 x1 g1 => h z σ F1 H1 A1 R1 x1 (.refl S σ) g1
theorem rx_own {i : Nat} {x : Str} {p : Pos} (hN : X.N[i]? = some x := by rfl) (hv : Vis X.env.scope x := by first | exact Or.inl rfl | exact Or.inr (Or.inl rfl) | exact Or.inr (Or.inr rfl)) (hd : (x == ("__debug__" : Str)) = false := by decide)
    (hcd : (x == ("__classdict__" : Str)) = false := by decide) : RX X E S (.Name x p) (mRetOwn i) := by
  refine ⟨_, pe_var hN hv hd hcd, fun F H σ ρ A R D h => ?_⟩
  unfold mRetOwn at h
  split at h
  · rename_i d hd
    obtain ⟨v, h1, h2⟩ := R.own i _ hd
    exact ⟨v, h1, h v σ F H A R (.refl F H A) (.refl S σ) h2.2⟩
  · rename_i sv _ hs
    obtain ⟨v, h1, h2⟩ := R.own i _ hs
    refine ⟨v, h1, h v σ F H _ (R.unset i) ((Ext.refl F H A).drop fun j p hp => ?_) (.refl S σ) ⟨A i, h2, R.nd i, fun p hp => ⟨R.free i p hp, fun j hj => ?_, .inl ⟨i, hp⟩⟩⟩⟩
    · by_cases q : j = i
      · rw [if_pos q] at hp; cases hp
      · rw [if_neg q] at hp; exact .inl ⟨j, hp⟩
    · have hj : p ∈ (if j = i then [] else A j) := hj
      by_cases q : j = i
      · rw [if_pos q] at hj; cases hj
      · rw [if_neg q] at hj; exact q (R.dis j i p hj hp)
  · exact h.elim
theorem rx_if {c a b : Expr} {t : Env → Out (Bool × Env)} {ga gb : Env → Out (Fl × Env)} (hc : TX X E c t) (ha : RX X E S a ga) (hb : RX X E S b gb) : RX X E S (.IfExp c a b pos) (mIf t ga gb) := by
  obtain ⟨tc, ec, qc⟩ := hc
  obtain ⟨ta, ea, qa⟩ := ha
  obtain ⟨tb, eb, qb⟩ := hb
  refine ⟨_, pe_ifExp ec ea eb, fun F H σ ρ A R D h => qc F H σ ρ A R _ ?_⟩
  unfold mIf at h
  cases e : t ρ with
  | stuck => rw [e] at h; exact h
  | exc x ρ' => rw [e] at h; exact xpost_s h
  | ok q =>
    obtain ⟨c, ρ1⟩ := q
    rw [e] at h
    have h : SPost X.mg E S F H σ A D (if c = true then ga ρ1 else gb ρ1) := h
    intro F1 H1 A1 R1 x1
    cases c with
    | true =>
      rw [if_pos rfl] at h ⊢
      exact qa F1 H1 σ ρ1 A1 R1 D (h.ext x1 (.refl S σ))
    | false =>
      rw [if_neg Bool.false_ne_true] at h ⊢
      exact qb F1 H1 σ ρ1 A1 R1 D (h.ext x1 (.refl S σ))
theorem ms_rx {e : Expr} {g : Env → Out (Fl × Env)} (he : RX X E S e g) : MS X E S (.Return (some e) pos) g := by
  obtain ⟨t, pe, q⟩ := he
  exact ⟨_, ps_ret pe, fun F H σ ρ A R D h => q F H σ ρ A R D h⟩
end
end Mm
namespace Mm
open PySem PySem.Spec L2
set_option autoImplicit false
end Mm
namespace Mm
open PySem PySem.Spec L2
set_option autoImplicit false
end Mm
namespace Mm
open PySem PySem.Spec L2
set_option autoImplicit false
theorem RpK.at {κ : Type} {F : Hp} : ∀ {ws : List (κ × V)} {kvs : List (κ × PD)} (_ : RpK F ws kvs) {i : Nat} {q : κ × PD}, kvs[i]? = some q → ∃ v, ws[i]? = some (q.1, v) ∧ Rp F v q.2
  | _, _, .nil, i, q, e => by simp at e
  | _, _, .cons r rs, 0, q, e => by simp at e; subst e; exact ⟨_, rfl, r⟩
  | _, _, .cons r rs, i + 1, q, e => by
    obtain ⟨v, h1, h2⟩ := RpK.at rs (i := i) (q := q) (by simpa using e)
    exact ⟨v, by simpa using h1, h2⟩
def S1.kys : S1 → Option (List PD)
  | .dK kvs => some (kvs.map fun kv => kPD kv.1)
  | .dT kvs => some (kvs.map fun kv => .tuple (kv.1.map kPD))
  | _ => none
def itLk (i : Nat) : Env → Option (List PD) := fun ρ => match ρ[i]? with
  | some (some (.lk s)) => s.kys
  | _ => none
theorem itP_k {F H : Hp} {d : Addr} {o : Obj} {ws : List (Key × V)} {kvs : List (Key × PD)} (h : H d = some (.frz o (.dK ws))) (r : RpK F ws kvs) : ItP F H (Itk d o ws) (kvs.map fun kv => kPD kv.1) := by
  intro F1 H1 x i
  have h1 := x.h _ _ h
  have hl := r.length
  refine ⟨fun hi => ⟨h1, by rw [hl]; simpa using hi⟩, fun y hy => ?_⟩
  rw [List.getElem?_map, Option.map_eq_some_iff] at hy
  obtain ⟨kv, hk, rfl⟩ := hy
  obtain ⟨v, hv, _⟩ := r.at hk
  refine ⟨⟨h1, (List.getElem?_eq_some_iff.mp hv).1⟩, fun x' H2 ⟨e, k, v', hk', hx⟩ => ?_⟩
  subst e
  rw [hv] at hk'
  cases hk'
  rw [hx]
  exact ⟨F1, .refl x.sub, kPD_rp _⟩
theorem itP_kt {F H : Hp} {d : Addr} {o : Obj} {ws : List (List Key × V)} {kvs : List (List Key × PD)} (h : H d = some (.frz o (.dT ws))) (r : RpK F ws kvs) : ItP F H (Itkt d o ws) (kvs.map fun kv => .tuple (kv.1.map kPD)) := by
  intro F1 H1 x i
  have h1 := x.h _ _ h
  have hl := r.length
  refine ⟨fun hi => ⟨h1, by rw [hl]; simpa using hi⟩, fun y hy => ?_⟩
  rw [List.getElem?_map, Option.map_eq_some_iff] at hy
  obtain ⟨kv, hk, rfl⟩ := hy
  obtain ⟨v, hv, _⟩ := r.at hk
  refine ⟨⟨h1, (List.getElem?_eq_some_iff.mp hv).1⟩, fun x' H2 ⟨e, k, v', q, hk', hx, hq⟩ => ?_⟩
  subst e
  rw [hv] at hk'
  cases hk'
  rw [hx]
  refine ⟨addF F1 H2 [q], ⟨fun p o eq => ?_, .refl H2, addF_sub x.sub, fun p hp => ?_⟩, .tup (addF_in (by simp) hq) (kPDs_rp _)⟩
  · unfold addF
    split
    · exact x.sub _ _ eq
    · exact eq
  · unfold addF at hp
    split at hp
    · rename_i hm
      rw [List.mem_singleton.mp hm]
      exact .inr (.inr ⟨_, hq⟩)
    · exact .inl hp
section
variable {X : Cx} {E : XW} {S : List Nat} {pos : Pos}
theorem keys_run {F H : Hp} {σ : L2.St} {ρ : Env} {A : Ad} {ds : List PD} {i : Nat} (R : Rel F H σ ρ A) (e : itLk i ρ = some ds) (Q : It → Hp → Prop) (k : ∀ J F' H', PureX F H F' H' → ItP F' H' J ds → Q J H') : iKeys (tVar i) σ H Q := by
  unfold itLk at e
  split at e
  · rename_i s hi
    obtain ⟨v, h1, p, od, rfl, hA, h2⟩ := R.own i _ hi
    refine ⟨_, h1, p, od, rfl, ?_⟩
    cases s with
    | dK kvs =>
      obtain ⟨ws, e1, r⟩ := h2
      cases e
      exact .inl ⟨ws, e1, k _ F H (.refl R.sub) (itP_k e1 r)⟩
    | dT kvs =>
      obtain ⟨ws, e1, r⟩ := h2
      cases e
      exact .inr ⟨ws, e1, k _ F H (.refl R.sub) (itP_kt e1 r)⟩
    | _ => exact h2.elim
  · cases e
theorem Rel.lock {F H : Hp} {σ : L2.St} {ρ : Env} {A : Ad} (R : Rel F H σ ρ A) {i : Nat} {p : Addr} {u : HO} {od : Obj} {s s0 : S1} (hi : ρ[i]? = some (some (.one s0))) (hσ : σ[i]? = some (some (.ref p))) (hA : A i = [p]) (hl : OwnL1 F (upd H p (.frz od u)) p od s) :
    Rel F (upd H p (.frz od u)) σ (ρ.set i (some (.lk s))) A where
  sub := fun q o e => by
    have : q ≠ p := fun z => by
      have := R.free i p (by rw [hA]; simp)
      rw [z] at e
      rw [this] at e
      cases e
    rw [upd_ne this]
    exact R.sub q o e
  len := by rw [List.length_set]; exact R.len
  own := fun j sv e => by
    have hil : i < ρ.length := (List.getElem?_eq_some_iff.mp hi).1
    by_cases q : j = i
    · subst q
      rw [List.getElem?_set_self hil] at e
      cases e
      exact ⟨_, hσ, p, od, rfl, hA, hl⟩
    · rw [List.getElem?_set_ne (Ne.symm q)] at e
      obtain ⟨v, h1, h2⟩ := R.own j sv e
      refine ⟨v, h1, h2.mono (.refl F) fun b hb o eo => ?_⟩
      rw [upd_ne fun z => q (R.dis j i b hb (by rw [hA, z]; simp))]
      exact eo
  off := fun j h => by
    by_cases q : j = i
    · subst q
      have hil : j < ρ.length := (List.getElem?_eq_some_iff.mp hi).1
      exact absurd (List.getElem?_set_self hil) (h _)
    · exact R.off j fun sv e => h sv (by rw [List.getElem?_set_ne (Ne.symm q)]; exact e)
  free := R.free
  dis := R.dis
  nd := R.nd
theorem PureX.unlock {F H F' H' : Hp} {p : Addr} {od : Obj} {u : HO} (hp : H p = some u) (hF : F p = none) (x : PureX F (upd H p (.frz od u)) F' H') : PureX F H F' (upd H' p u) where
  f := x.f
  h := fun q o e => by
    by_cases z : q = p
    · rw [z] at e ⊢
      rw [hp] at e
      cases e
      exact upd_same
    · rw [upd_ne z]
      exact x.h q o (by rw [upd_ne z]; exact e)
  sub := fun q o e => by
    have z : q ≠ p := fun z => by
      rw [z] at e
      rcases x.new p (by rw [e]; simp) with w | w | ⟨vs, w⟩
      · exact w hF
      · rw [upd_same] at w; cases w
      · rw [upd_same] at w; cases w
    rw [upd_ne z]
    exact x.sub q o e
  new := fun q hq => by
    rcases x.new q hq with w | w | ⟨vs, w⟩
    · exact .inl w
    · by_cases z : q = p
      · rw [z, upd_same] at w; cases w
      · rw [upd_ne z] at w; exact .inr (.inl w)
    · by_cases z : q = p
      · rw [z, upd_same] at w; cases w
      · rw [upd_ne z] at w; exact .inr (.inr ⟨vs, w⟩)
theorem PRes.unlock {F' H H' : Hp} {p : Addr} {od : Obj} {u : HO} {z : V} {out : List PD} (h : PRes F' H' (upd H p (.frz od u)) z (rL out)) (hp : H p = some u) : PRes F' (upd H' p u) H z (rL out) := by
  obtain ⟨O, ⟨D, va, rfl, rfl, e, r⟩, nd, hh⟩ := h
  have hD := hh D (by simp)
  have hne : D ≠ p := fun q => by rw [q, upd_same] at hD; cases hD.1
  refine ⟨[D], ⟨D, va, rfl, rfl, by rw [upd_ne hne]; exact e, r⟩, nd, fun q hq => ?_⟩
  rw [List.mem_singleton.mp hq]
  exact ⟨by have := hD.1; rwa [upd_ne hne] at this, hD.2⟩
/-- [.. for .. in d ..], d a slot's dict -/
def pCompD (i : Nat) (vs : List Nat) (b : PD → Env → Option Env) (t : Env → Option Bool) (g : Env → Option PD) : Env → Option Res := fun ρ => match ρ[i]? with
  | some (some (.one s)) => pComp vs (itLk i) b t g (ρ.set i (some (.lk s)))
  | _ => none
theorem pComp_rL {vs : List Nat} {it : Env → Option (List PD)} {b : PD → Env → Option Env} {t : Env → Option Bool} {g : Env → Option PD} {ρ : Env} {res : Res} (h : pComp vs it b t g ρ = some res) : ∃ out, res = rL out := by
  unfold pComp at h
  rw [Option.bind_eq_some_iff] at h
  obtain ⟨ds, e1, h⟩ := h
  split at h
  · rw [Option.map_eq_some_iff] at h
    obtain ⟨out, _, rfl⟩ := h
    exact ⟨out, rfl⟩
  · cases h
theorem compD_run {i : Nat} {b : PD → Env → Option Env} {t : Env → Option Bool} {g : Env → Option PD} {vs ts : List Nat} {gg : TG} {tt : TT} {te : TE} {n : Nat} (hts : ∀ i ∈ ts, i ∈ vs)
    (qg : ∀ F H σ ρ A v d, Rel F H σ ρ A → Rp F v d → σ.length = n → ∀ ρ', b d ρ = some ρ' → ∀ Q : L2.St → Hp → Prop, (∀ σ' A', Rel F H σ' ρ' A' → Ext F H A F H A' → Only ts σ σ' → Q σ' H) → gg v σ H Q)
    (qt : ∀ F H σ ρ A b, Rel F H σ ρ A → t ρ = some b → ∀ Q : Bool → Hp → Prop, (∀ F' H', PureX F H F' H' → Q b H') → tt σ H Q)
    (qe : ∀ F H σ ρ A d, Rel F H σ ρ A → g ρ = some d → ∀ Q : VK, (∀ z F' H', PureX F H F' H' → Rp F' z d → Q z H') → te σ H Q)
    {F H : Hp} {σ : L2.St} {ρ : Env} {A : Ad} {res : Res} (R : Rel F H σ ρ A) (hn : σ.length = n) (h : pCompD i vs b t g ρ = some res) (Q : VK) (k : ∀ z F' H', PureX F H F' H' → PRes F' H' H z res → Q z H') : tLockE (tLc (iKeys (tVar i)) gg tt te vs) σ H Q := by
  unfold pCompD at h
  split at h
  · rename_i s hi
    obtain ⟨out, rfl⟩ := pComp_rL h
    have hil : i < ρ.length := (List.getElem?_eq_some_iff.mp hi).1
    obtain ⟨v, hσ, ho⟩ := R.own i _ hi
    cases s with
    | dK kvs =>
      obtain ⟨p, ws, rfl, hA, h1, h2⟩ := ho
      refine ⟨p, .dK ws, h1, True.intro, fun od => ?_⟩
      have hF := R.free i p (by rw [hA]; simp)
      have R' := R.lock (s := .dK kvs) (od := od) (u := .dK ws) hi hσ hA ⟨ws, upd_same, h2⟩
      exact compP_run (fun F H σ ρ A ds R e Q k => keys_run R e Q k) hts qg qt qe R' hn h _ fun z F' H' x pr => ⟨x.h _ _ upd_same, k z F' _ (x.unlock h1 hF) (pr.unlock h1)⟩
    | dT kvs =>
      obtain ⟨p, ws, rfl, hA, h1, h2⟩ := ho
      refine ⟨p, .dT ws, h1, True.intro, fun od => ?_⟩
      have hF := R.free i p (by rw [hA]; simp)
      have R' := R.lock (s := .dT kvs) (od := od) (u := .dT ws) hi hσ hA ⟨ws, upd_same, h2⟩
      exact compP_run (fun F H σ ρ A ds R e Q k => keys_run R e Q k) hts qg qt qe R' hn h _ fun z F' H' x pr => ⟨x.h _ _ upd_same, k z F' _ (x.unlock h1 hF) (pr.unlock h1)⟩
    | _ =>
      unfold pComp itLk at h
      rw [List.getElem?_set_self hil] at h
      cases h
  · cases h
section
variable {elt tg : Expr} {ifs : List Expr} {scope : Scope} {b : PD → Env → Option Env} {t : Env → Option Bool} {g : Env → Option PD} {ts : List Nat}
theorem px_compD {i : Nat} {x : Str} {p : Pos} (hc : X.calm = true) (hN : X.N.Nodup) (own : List (Str × Nat)) (ok : blkC X.N X.env.scope scope own = true) (hg : Blk X scope fun Y => MG Y [] tg ts b) (ht : Blk X scope fun Y => CPs Y ifs t) (he : Blk X scope fun Y => PV Y elt g)
    (hi : X.N[i]? = some x := by rfl) (hv : Vis X.env.scope x := by first | exact Or.inl rfl | exact Or.inr (Or.inl rfl) | exact Or.inr (Or.inr rfl)) (hd : (x == ("__debug__" : Str)) = false := by decide)
    (hcd : (x == ("__classdict__" : Str)) = false := by decide) (hts : ts.all ((own.map (·.2)).contains ·) = true := by rfl) (hs : ∀ y, foldedSetIterable (.Name x p) X.env y = pure y := by intro _; rfl) :
    PX X (.ListComp elt [⟨tg, .Name x p, ifs, 0⟩] scope pos) (pCompD i (own.map (·.2)) b t g) := by
  obtain ⟨gg, pg, qg⟩ := blk_mg hg
  obtain ⟨tt, pt, qt⟩ := blk_cp ht
  obtain ⟨te, pe, qe⟩ := blk_pv he
  exact ⟨_, pe_len (pe_lock (pe_lc hc hN (pi_keys (pe_var hi hv hd hcd)) (blkOk_by ok) pg pt pe hs)), fun F H σ ρ A r R h Q k hz => compD_run (fun i hi => List.contains_iff_mem.mp (List.all_eq_true.mp hts i hi)) qg qt qe R hz h Q k⟩
end
/-- d[k], d locked -/
def pIxL (i : Nat) (q : Env → Option PD) : Env → Option Res := fun ρ => match ρ[i]? with
  | some (some (.lk s)) => (q ρ).bind fun d => (s.look d).bind fun o => o.map rD
  | _ => none
theorem look_ofL {F H : Hp} {p : Addr} {od : Obj} {y : V} {s : S1} {d : PD} {r : Option PD} (e : Same F H) (hx : OwnL1 F H p od s) (hy : Rp F y d) (h : s.look d = some r) :
    ∃ o, DGet H p y o ∧ ∀ q, r = some q → ∃ v, o = some v ∧ Rp F v q := by
  cases s with
  | frz _ => cases h
  | lst _ => cases h
  | dK kvs =>
    obtain ⟨ws, h1, h2⟩ := hx
    unfold S1.look at h
    rw [Option.map_eq_some_iff] at h
    obtain ⟨k, hk, rfl⟩ := h
    refine ⟨valV ws k, .inl ⟨ws, k, .inr ⟨od, h1⟩, keyOf_rp hy hk, rfl⟩, fun q hq => ?_⟩
    rcases h2.val k with ⟨e1, e2⟩ | ⟨v, q', e1, e2, r⟩
    · rw [e2] at hq; cases hq
    · rw [e2] at hq; cases hq; exact ⟨v, e1, r⟩
  | dT kvs =>
    obtain ⟨ws, h1, h2⟩ := hx
    unfold S1.look at h
    rw [Option.map_eq_some_iff] at h
    obtain ⟨k, hk, rfl⟩ := h
    have hb : ∃ b, y = .ref b ∧ H b = some (.tup (k.map kV)) := by
      cases hy with
      | tup h3 h4 => exact ⟨_, rfl, by rw [e _ _ h3, keysOf_rp h4 hk]⟩
      | _ => cases hk
    obtain ⟨b, rfl, hb⟩ := hb
    refine ⟨valV ws k, .inr ⟨ws, k, b, .inr ⟨od, h1⟩, rfl, hb, rfl⟩, fun q hq => ?_⟩
    rcases h2.val k with ⟨e1, e2⟩ | ⟨v, q', e1, e2, r⟩
    · rw [e2] at hq; cases hq
    · rw [e2] at hq; cases hq; exact ⟨v, e1, r⟩
theorem px_ixL {i : Nat} {x : Str} {p : Pos} {b : Expr} {q : Env → Option PD} (hu : X.A.units + 1 < cLine) (hb : PV X b q) (hi : X.N[i]? = some x := by rfl) (hv : Vis X.env.scope x := by first | exact Or.inl rfl | exact Or.inr (Or.inl rfl) | exact Or.inr (Or.inr rfl)) (hd : (x == ("__debug__" : Str)) = false := by decide)
    (hcd : (x == ("__classdict__" : Str)) = false := by decide) (hs : PlainIx b := by intro _ _; rfl) : PX X (.Subscript (.Name x p) b pos) (pIxL i q) := by
  obtain ⟨tb, eb, qb⟩ := hb
  refine ⟨_, pe_ix (ix_dict hu) (pe_var hi hv hd hcd) eb hs, fun F H σ ρ A r R h Q k => ?_⟩
  unfold pIxL at h
  split at h
  · rename_i s hj
    simp only [Option.bind_eq_some_iff, Option.map_eq_some_iff] at h
    obtain ⟨d, e1, o, e2, q', rfl, rfl⟩ := h
    obtain ⟨v, h1, p, od, rfl, hA, h2⟩ := R.own i _ hj
    refine ⟨_, h1, qb F H σ ρ A d R e1 _ fun y F2 H2 x2 ry => ?_⟩
    obtain ⟨o, g, e9⟩ := look_ofL x2.sub (h2.mono x2.f (x2.h _)) ry e2
    obtain ⟨v, rfl, rv⟩ := e9 q' rfl
    exact ⟨p, v, rfl, g, k _ F2 H2 x2 (old_res rv)⟩
  · cases h
end
end Mm
namespace Mm
open PySem PySem.Spec L2
set_option autoImplicit false
def isP16 : List Key → Bool
  | [.inl a, .inl b] => decide (0 ≤ a ∧ a < 16 ∧ 0 ≤ b ∧ b < 16)
  | _ => false
section
variable {X : Cx}
def dpairs : List PD → Option (List (Key × PD))
  | [] => some []
  | .tuple [k, v] :: r => (keyOf k).bind fun k => (dpairs r).map ((k, v) :: ·)
  | _ => none
theorem new_dK {F H : Hp} {p : Addr} {ws : List (Key × V)} {kvs : List (Key × PD)} (e : Same F H) (h : H p = none) (r : RpK F ws kvs) : PRes F (upd H p (.dK ws)) H (.ref p) (.new (.one (.dK kvs))) :=
  ⟨[p], ⟨p, ws, rfl, rfl, upd_same, r⟩, by simp, fun q hq => by rw [List.mem_singleton.mp hq]; exact ⟨h, e.free h⟩⟩
theorem dpairs_rp {K : PySem.W.Frag} {F H : Hp} (e : Same F H) : ∀ {vs : List V} {ds : List PD} {kvs : List (Key × PD)}, RpL F vs ds → dpairs ds = some kvs → ∃ (ps : List Addr) (ws : List (Key × V)), vs = ps.map V.ref ∧ Paired (fun p kv => SqT K H p [kV kv.1, kv.2]) ps ws ∧ RpK F ws kvs
  | _, _, _, .nil, h => by cases h; exact ⟨[], [], rfl, .nil, .nil⟩
  | _, _, _, .cons (d := d) r rs, h => by
    unfold dpairs at h
    split at h
    · rename_i q; cases q
    · rename_i k v r' q
      cases q
      rw [Option.bind_eq_some_iff] at h
      obtain ⟨k', h1, h2⟩ := h
      rw [Option.map_eq_some_iff] at h2
      obtain ⟨kvs, h3, rfl⟩ := h2
      obtain ⟨ps, ws, rfl, hp, hr⟩ := dpairs_rp e rs h3
      cases r with
      | tup ht rl =>
        cases rl with
        | cons rk rl =>
          cases rl with
          | cons rv rl =>
            cases rl
            rw [keyOf_rp rk h1] at ht
            exact ⟨_ :: ps, (k', _) :: ws, rfl, .cons (SqT.of (e _ _ ht)) hp, .cons rv hr⟩
    · cases h
variable {E : XW} {pos : Pos} {e : Expr}
end
end Mm
namespace Mm
open PySem PySem.Spec L2
set_option autoImplicit false
abbrev rP (ds : List PD) : Res := .new (.pt ds)
theorem PlainT.res {F H' H : Hp} {v : V} {ds : List PD} (h : PlainT F v ds) : PRes F H' H v (rP ds) := ⟨[], ⟨rfl, h⟩, List.nodup_nil, fun p hp => nomatch hp⟩
theorem plainT_of {F H' H : Hp} {v : V} {ds : List PD} (h : PRes F H' H v (rP ds)) : PlainT F v ds := by
  obtain ⟨O, h1, _⟩ := h
  exact h1.2
section
variable {X : Cx} {E : XW} {S : List Nat} {pos : Pos} {e tg : Expr}
theorem call_tupleP : CallR X (.type "tuple") (fun xs H Q => ∃ p ys, xs = [.ref p] ∧ SqL X.K H p ys ∧ ∀ l od, H l = none → od.dict = none → Q (.ref l) (upd H l (.frz od (.tup ys)))) := by
  intro pins s σ H xs us Q I r h
  obtain ⟨p, ys, rfl, hq, q⟩ := h
  obtain ⟨u, rfl, rx⟩ := vals1 r
  cases rx
  obtain ⟨its, r', pl, hz⟩ := I.list hq
  have hlen := r'.length
  refine call_tuple_list pl.isList (fun h' kp => ?_) (by simp only [List.size_toArray] <;> omega)
  have I1 : L2.Inv X pins σ H { s with heap := h' } := I.kept (t' := s.toks) kp
  have I2 : L2.Inv X pins σ (upd H h'.objs.size (.frz { cls := .type "tuple", data := .seq its.toArray } (.tup ys))) { s with heap := h'.push { cls := .type "tuple", data := .seq its.toArray } } :=
    I1.laid (t' := s.toks) (fun b o e => Heap.get?_push_of_some _ e) (Nat.le_refl _) (show ObjOk X.prog X.w _ _ _ (.frz _ (.tup ys)) from ⟨Heap.get?_push_size _ rfl, hz, its, r', PyProof.Rows.IsTup.new _ _⟩)
  exact ⟨.ref h'.objs.size, _, I2, rfl, q _ _ (I1.hok.fresh (Nat.le_refl _)) rfl⟩
def fTupleP (s : S1) : Option Res := s.lv.map rP
theorem f_tupleP {K : PySem.W.Frag} : FnN (fun xs H Q => ∃ p ys, xs = [.ref p] ∧ SqL K H p ys ∧ ∀ l od, H l = none → od.dict = none → Q (.ref l) (upd H l (.frz od (.tup ys)))) (f1 fTupleP) := fnN1 fun F H x s res e hx q Q k => by
  unfold fTupleP at q
  rw [Option.map_eq_some_iff] at q
  obtain ⟨xs, h1, rfl⟩ := q
  obtain ⟨p, vs, rfl, h2, r⟩ := lv_of e hx h1
  refine ⟨p, vs, rfl, SqL.of h2, fun l od hl hd => k _ (upd F l (.frz od (.tup vs))) _ (pure_newF e hl) (PlainT.res ⟨l, vs, od, rfl, upd_same, hd, r.mono (same_new (e.free hl))⟩)⟩
theorem px_b_tupleP {p : Pos} {ps : Env → Option (List S1)} (hg : Gl X "tuple") (hm : X.mg "tuple" = none) (ha : PXs X [e] ps) (he : starEach [e] X.env = [(false, eval e X.env)] := by rfl) (hpl : (backTo pos (starEach [] X.env)).any (·.1) = false := by rfl) : PX X (.Call (.Name "tuple" p) [e] [] pos) (pN (f1 fTupleP) ps) :=
  px_callTy call_tupleP f_tupleP hg hm bt_tuple ha (he := he) (hpl := hpl)
/-- a slot's -/
def pVarP (i : Nat) : Env → Option Res := fun ρ => match ρ[i]? with
  | some (some (.pt ds)) => some (rP ds)
  | _ => none
theorem px_varP {i : Nat} {x : Str} {pos : Pos} (hN : X.N[i]? = some x := by rfl) (hv : Vis X.env.scope x := by first | exact Or.inl rfl | exact Or.inr (Or.inl rfl) | exact Or.inr (Or.inr rfl)) (hd : (x == ("__debug__" : Str)) = false := by decide)
    (hcd : (x == ("__classdict__" : Str)) = false := by decide) : PX X (.Name x pos) (pVarP i) := by
  refine ⟨_, pe_var hN hv hd hcd, fun F H σ ρ A r R h Q k => ?_⟩
  unfold pVarP at h
  split at h
  · rename_i ds hi
    cases h
    obtain ⟨v, h1, h2⟩ := R.own i _ hi
    exact ⟨v, h1, k v F H (.refl R.sub) (PlainT.res h2.2)⟩
  · cases h
/-- walked -/
def iPP (p : Env → Option Res) : Env → Option (List PD) := fun ρ => (p ρ).bind fun r => match r with
  | .new (.pt ds) => some ds
  | _ => none
theorem it_plain {K : PySem.W.Frag} {F : Hp} {a : Addr} {od : Obj} {vs : List V} {ds : List PD} (h : F a = some (.frz od (.tup vs))) (r : RpL F vs ds) : ItOk F (Itt K a) ds := by
  intro F1 H1 x s i
  have q : SqT K H1 a vs := .inl (.inr ⟨od, s _ _ (x _ _ h)⟩)
  refine ⟨fun hi => ⟨vs, q, by rw [r.length]; exact hi⟩, fun d hd => ?_⟩
  obtain ⟨v, hv, rv⟩ := r.get' hd
  refine ⟨⟨vs, v, q, hv⟩, fun x' H2 ⟨e, y⟩ => ?_⟩
  subst e
  have e := y vs q
  rw [hv] at e
  cases e
  exact ⟨F1, .refl s, rv.mono x⟩
theorem pix_pt {p : Env → Option Res} (he : PX X e p) : PIX X tg e (iPP p) := by
  obtain ⟨t, pe, q⟩ := he
  refine ⟨_, pi_tup pe, fun F H σ ρ A ds R h Q k => ?_⟩
  unfold iPP at h
  rw [Option.bind_eq_some_iff] at h
  obtain ⟨r, e1, e2⟩ := h
  split at e2
  · cases e2
    refine q F H σ ρ A _ R e1 _ fun z F1 H1 x1 p1 => ?_
    obtain ⟨a, vs, od, rfl, h1, h2, h3⟩ := plainT_of p1
    exact ⟨a, rfl, ⟨_, .inl (.inr ⟨od, x1.sub _ _ h1⟩)⟩, k _ F1 H1 x1 (it_plain h1 h3).p⟩
  · cases e2
theorem pairs_ofV {pins : List (Addr × Obj)} {σ : L2.St} {H : Hp} {s : Shared} (I : L2.Inv X pins σ H s) : ∀ {ps : List Addr} {kvs : List (Key × V)}, Paired (fun p kv => SqT X.K H p [kV kv.1, kv.2]) ps kvs →
    ∃ (prs : List (Key × Value)) (pv : List (Value × Value)), KV kvs prs ∧ prs.length = ps.length ∧ pv.length = ps.length ∧ ∀ (j : Nat) k v, pv[j]? = some (k, v) → ∃ b q, ps[j]? = some b ∧ s.heap.IsTuple b #[k, v] ∧ prs[j]? = some (q, v) ∧ keyIs q k = true
  | _, _, .nil => ⟨[], [], .nil, rfl, rfl, fun j k v e => by simp at e⟩
  | _, _, .cons (a := p) (b := kv) h t => by
    obtain ⟨prs, pv, r, hl, hl2, hp⟩ := pairs_ofV I t
    obtain ⟨its, rv, ht, _⟩ := I.tuple h
    obtain ⟨u, y, ei, ru, ry⟩ := vals2 rv
    subst ei
    refine ⟨(kv.1, y) :: prs, (u, y) :: pv, .cons ⟨rfl, ry⟩ r, by rw [List.length_cons, List.length_cons, hl], by rw [List.length_cons, List.length_cons, hl2], fun j k v e => ?_⟩
    cases j with
    | zero =>
      simp only [List.getElem?_cons_zero, Option.some.injEq, Prod.mk.injEq] at e
      obtain ⟨rfl, rfl⟩ := e
      obtain ⟨o, h1, h2, n, h3⟩ := ht
      exact ⟨p, kv.1, rfl, ⟨o, h1, h2, n, h3⟩, rfl, kV_is (P := X.prog) (w := X.w) ru⟩
    | succ j =>
      obtain ⟨b, q, e1, e2, e3, e4⟩ := hp j k v (by simpa using e)
      exact ⟨b, q, by simpa using e1, e2, by simpa using e3, e4⟩
theorem call_dictTu (hcalm : X.calm = true) : CallR X (.type "dict") (fun xs H Q => ∃ (a : Addr) (od : Obj) (ps : List Addr) (kvs : List (Key × V)), xs = [.ref a] ∧ H a = some (.frz od (.tup (ps.map V.ref))) ∧ od.dict = none ∧ Paired (fun p kv => SqT X.K H p [kV kv.1, kv.2]) ps kvs ∧
    ∀ p, H p = none → Q (.ref p) (upd H p (.dK (mergeK [] kvs)))) := by
  intro pins s σ H xs us Q I r q
  obtain ⟨a, od, ps, kvs, ex, ha, hdn, hp, q⟩ := q
  subst ex
  obtain ⟨u, eu, rx⟩ := vals1 r
  subst eu
  cases rx
  obtain ⟨hget, hz, its, rv, ht⟩ := I.hok a _ ha
  have ei := refs_at rv
  subst ei
  rw [List.length_map] at hz
  obtain ⟨prs, pv, rel, hl, hl2, hpr⟩ := pairs_ofV I hp
  obtain ⟨o, ho, hc, n, hdat⟩ := ht
  rw [hget] at ho
  cases ho
  have hm : (s.heap.objs.size == sysModules) = false := beq_eq_false_iff_ne.mpr (Nat.ne_of_gt I.big)
  have hlen : (mergeK [] kvs).length ≤ sizeLine := by
    refine Nat.le_trans (length_mergeK kvs []) ?_
    rw [List.length_nil, Nat.zero_add, rel.length, hl]
    exact hz
  refine PySem.call_dict_pairs (knd := mixKind X.prog X.w) (kvs := prs) (PairArg.tuple a (ps.map Value.ref).toArray (fun j => (ps[j]?).getD 0) pv) (I.ok.hd hcalm) ⟨⟨od, n, hget, hc, hdn, hdat⟩, by simp [hl2], fun j k v e => ?_⟩ ⟨by rw [hl, hl2], fun i key v e => ?_⟩ (by rw [hl2]; exact hz) fun h' tk hd' k => ?_
  · obtain ⟨b, q, e1, e2, _, _⟩ := hpr j k v e
    have hb : (ps[j]?).getD 0 = b := by rw [e1]; rfl
    show (ps.map Value.ref).toArray[j]? = some (Value.ref ((ps[j]?).getD 0)) ∧ PairAt s.heap ((ps[j]?).getD 0) k v
    rw [hb]
    exact ⟨by simp [e1], .inl e2⟩
  · obtain ⟨b, q, _, _, e3, e4⟩ := hpr i key v e
    exact ⟨q, e3, e4⟩
  · exact ⟨.ref s.heap.objs.size, upd H s.heap.objs.size (.dK (mergeK [] kvs)), I.laid (t' := tk) (fun b o e => k b o (by simp) e) (Nat.le_refl _) (show ObjOk X.prog X.w _ _ _ (.dK (mergeK [] kvs)) from ⟨hlen, hm, merged [] prs, KV.merge rel .nil, hd'⟩), rfl, q _ (I.hok.fresh (Nat.le_refl _))⟩
def pDictP (p : Env → Option Res) : Env → Option Res := fun ρ => (p ρ).bind fun r => match r with
  | .new (.pt ds) => (dpairs ds).map fun kvs => .new (.one (.dK (mergeD [] kvs)))
  | _ => none
theorem px_dictP {q : Pos} {p : Env → Option Res} (hg : Gl X "dict") (hm : X.mg "dict" = none) (hc : X.calm = true) (he : PX X e p) (hs : starEach [e] X.env = [(false, eval e X.env)] := by rfl) (hpl : (backTo pos (starEach [] X.env)).any (·.1) = false := by rfl) : PX X (.Call (.Name "dict" q) [e] [] pos) (pDictP p) := by
  obtain ⟨t, pe, f⟩ := he
  refine ⟨_, pe_callTy (call_dictTu hc) hg hm bt_dict (pa_cons pe pa_nil hs) (by decide) (by decide) hs hpl, fun F H σ ρ A r R h Q k => ?_⟩
  unfold pDictP at h
  rw [Option.bind_eq_some_iff] at h
  obtain ⟨r0, e1, e2⟩ := h
  split at e2
  · rw [Option.map_eq_some_iff] at e2
    obtain ⟨kvs, e3, rfl⟩ := e2
    refine f F H σ ρ A _ R e1 _ fun z F1 H1 x1 p1 => ?_
    obtain ⟨a, vs, od, rfl, h1, h2, h3⟩ := plainT_of p1
    obtain ⟨ps, ws, rfl, hp, hr⟩ := dpairs_rp (K := X.K) x1.sub h3 e3
    exact ⟨a, od, ps, ws, rfl, x1.sub _ _ h1, h2, hp, fun p hp => k _ _ _ (x1.trans (pure_new x1.sub hp)) (PRes.back (F := F1) x1.h (new_dK x1.sub hp (RpK.merge hr .nil)))⟩
  · cases e2
end
end Mm
namespace Mm
open PySem PySem.Spec L2
set_option autoImplicit false
section
variable {X : Cx} {E : XW}
def aPt (p : Env → Option Res) (r : Env → Out (List AR × Env)) : Env → Out (List AR × Env) := fun ρ => match p ρ with
  | some (.new (.pt ds)) => (r ρ).bind fun b => .ok (.pt ds :: b.1, b.2)
  | _ => .stuck
theorem ma_pt {e : Expr} {es : List Expr} {p : Env → Option Res} {r : Env → Out (List AR × Env)} (he : PX X e p) (hr : MA X E es r) (hs : starEach (e :: es) X.env = (false, eval e X.env) :: starEach es X.env := by rfl) : MA X E (e :: es) (aPt p r) := by
  obtain ⟨t, pe, q⟩ := he
  obtain ⟨tr, pr, qr⟩ := hr
  refine ⟨_, pa_cons pe pr hs, fun F H σ ρ A R Q h => ?_⟩
  unfold aPt at h
  split at h
  · rename_i ds hp
    refine q F H σ ρ A _ R hp _ fun x F1 H1 x1 p1 => ?_
    have r1 := plainT_of p1
    refine qr F1 H1 σ ρ A (R.pure x1) _ ?_
    cases e2 : r ρ with
    | stuck => rw [e2] at h; exact h
    | exc x ρ' => rw [e2] at h; exact XPost.ext h (x1.ext A)
    | ok q =>
      obtain ⟨as, ρ2⟩ := q
      rw [e2] at h
      exact fun vs F2 H2 A2 R2 x2 r2 => h (x :: vs) F2 H2 A2 R2 ((x1.ext A).trans x2) (.cons (r1.mono x2.f) r2)
  · exact h.elim
end
end Mm
namespace Mm
open PySem PySem.Spec L2
set_option autoImplicit false
def itLv (i : Nat) : Env → Option (List PD) := fun ρ => match ρ[i]? with
  | some (some (.lk (.dK kvs))) => some (kvs.map (·.2))
  | _ => none
theorem itP_v {F H : Hp} {d : Addr} {o : Obj} {ws : List (Key × V)} {kvs : List (Key × PD)} (h : H d = some (.frz o (.dK ws))) (r : RpK F ws kvs) : ItP F H (Itd d o ws) (kvs.map (·.2)) := by
  intro F1 H1 x i
  have h1 := x.h _ _ h
  have hl := r.length
  refine ⟨fun hi => ⟨h1, by rw [hl]; simpa using hi⟩, fun y hy => ?_⟩
  rw [List.getElem?_map, Option.map_eq_some_iff] at hy
  obtain ⟨kv, hk, rfl⟩ := hy
  obtain ⟨v, hv, rv⟩ := r.at hk
  refine ⟨⟨h1, (List.getElem?_eq_some_iff.mp hv).1⟩, fun x' H2 ⟨e, k, hk'⟩ => ?_⟩
  subst e
  rw [hv] at hk'
  cases hk'
  exact ⟨F1, .refl x.sub, rv.mono x.f⟩
section
variable {X : Cx} {pos : Pos}
theorem vals_run {F H : Hp} {σ : L2.St} {ρ : Env} {A : Ad} {ds : List PD} {i : Nat} (R : Rel F H σ ρ A) (e : itLv i ρ = some ds) (Q : It → Hp → Prop) (k : ∀ J F' H', PureX F H F' H' → ItP F' H' J ds → Q J H') : iVals (tVar i) σ H Q := by
  unfold itLv at e
  split at e
  · rename_i kvs hi
    cases e
    obtain ⟨v, h1, p, od, rfl, hA, h2⟩ := R.own i _ hi
    obtain ⟨ws, e1, r⟩ := h2
    exact ⟨_, h1, p, od, ws, rfl, e1, k _ F H (.refl R.sub) (itP_v e1 r)⟩
  · cases e
def pCompV (i : Nat) (vs : List Nat) (b : PD → Env → Option Env) (t : Env → Option Bool) (g : Env → Option PD) : Env → Option Res := fun ρ => match ρ[i]? with
  | some (some (.one (.dK kvs))) => pComp vs (itLv i) b t g (ρ.set i (some (.lk (.dK kvs))))
  | _ => none
theorem compV_run {i : Nat} {b : PD → Env → Option Env} {t : Env → Option Bool} {g : Env → Option PD} {vs ts : List Nat} {gg : TG} {tt : TT} {te : TE} {n : Nat} (hts : ∀ i ∈ ts, i ∈ vs)
    (qg : ∀ F H σ ρ A v d, Rel F H σ ρ A → Rp F v d → σ.length = n → ∀ ρ', b d ρ = some ρ' → ∀ Q : L2.St → Hp → Prop, (∀ σ' A', Rel F H σ' ρ' A' → Ext F H A F H A' → Only ts σ σ' → Q σ' H) → gg v σ H Q)
    (qt : ∀ F H σ ρ A b, Rel F H σ ρ A → t ρ = some b → ∀ Q : Bool → Hp → Prop, (∀ F' H', PureX F H F' H' → Q b H') → tt σ H Q)
    (qe : ∀ F H σ ρ A d, Rel F H σ ρ A → g ρ = some d → ∀ Q : VK, (∀ z F' H', PureX F H F' H' → Rp F' z d → Q z H') → te σ H Q)
    {F H : Hp} {σ : L2.St} {ρ : Env} {A : Ad} {res : Res} (R : Rel F H σ ρ A) (hn : σ.length = n) (h : pCompV i vs b t g ρ = some res) (Q : VK) (k : ∀ z F' H', PureX F H F' H' → PRes F' H' H z res → Q z H') : tLockE (tLc (iVals (tVar i)) gg tt te vs) σ H Q := by
  unfold pCompV at h
  split at h
  · rename_i kvs hi
    obtain ⟨out, rfl⟩ := pComp_rL h
    obtain ⟨v, hσ, ho⟩ := R.own i _ hi
    obtain ⟨p, ws, rfl, hA, h1, h2⟩ := ho
    refine ⟨p, .dK ws, h1, True.intro, fun od => ?_⟩
    have hF := R.free i p (by rw [hA]; simp)
    have R' := R.lock (s := .dK kvs) (od := od) (u := .dK ws) hi hσ hA ⟨ws, upd_same, h2⟩
    exact compP_run (fun F H σ ρ A ds R e Q k => vals_run R e Q k) hts qg qt qe R' hn h _ fun z F' H' x pr => ⟨x.h _ _ upd_same, k z F' _ (x.unlock h1 hF) (pr.unlock h1)⟩
  · cases h
theorem px_compV {elt tg : Expr} {ifs : List Expr} {scope : Scope} {b : PD → Env → Option Env} {t : Env → Option Bool} {g : Env → Option PD} {ts : List Nat} {i : Nat} {x : Str} {p ap cp : Pos} (hc : X.calm = true) (hN : X.N.Nodup) (own : List (Str × Nat)) (ok : blkC X.N X.env.scope scope own = true) (hg : Blk X scope fun Y => MG Y [] tg ts b) (ht : Blk X scope fun Y => CPs Y ifs t) (he : Blk X scope fun Y => PV Y elt g)
    (hi : X.N[i]? = some x := by rfl) (hv : Vis X.env.scope x := by first | exact Or.inl rfl | exact Or.inr (Or.inl rfl) | exact Or.inr (Or.inr rfl)) (hd : (x == ("__debug__" : Str)) = false := by decide)
    (hcd : (x == ("__classdict__" : Str)) = false := by decide) (hts : ts.all ((own.map (·.2)).contains ·) = true := by rfl) (hs : ∀ y, foldedSetIterable (.Call (.Attribute (.Name x p) "values" ap) [] [] cp) X.env y = pure y := by intro _; rfl)
    (hbase : attributeBase (.Name x p) "values" X.env (eval (.Name x p) X.env) = eval (.Name x p) X.env := by rfl) (hline : (ap.endLine == cp.line) = true := by rfl) :
    PX X (.ListComp elt [⟨tg, .Call (.Attribute (.Name x p) "values" ap) [] [] cp, ifs, 0⟩] scope pos) (pCompV i (own.map (·.2)) b t g) := by
  obtain ⟨gg, pg, qg⟩ := blk_mg hg
  obtain ⟨tt, pt, qt⟩ := blk_cp ht
  obtain ⟨te, pe, qe⟩ := blk_pv he
  exact ⟨_, pe_len (pe_lock (pe_lc hc hN (pi_values (pe_var hi hv hd hcd) hbase hline) (blkOk_by ok) pg pt pe hs)), fun F H σ ρ A r R h Q k hz => compV_run (fun i hi => List.contains_iff_mem.mp (List.all_eq_true.mp hts i hi)) qg qt qe R hz h Q k⟩
end
end Mm
namespace Mm
open PySem PySem.Spec L2
set_option autoImplicit false
def loopC2 (vs : List Nat) (b : PD → Env → Option Env) (t : Env → Out (Bool × Env)) (it1 : Env → Out (List PD × Env)) (vs1 : List Nat) (b1 : PD → Env → Option Env) (t1 : Env → Out (Bool × Env)) (g : Env → Out (PD × Env)) : List PD → List PD → Env → Option (List PD × Env)
  | [], acc, ρ => some (acc, ρ)
  | x :: xs, acc, ρ => (b x (wipeE ρ vs)).bind fun ρ1 => match t ρ1 with
    | .ok (true, ρ2) => (match it1 ρ2 with
      | .ok (ys, ρ3) => (loopC vs1 b1 t1 g ys acc ρ3).bind fun a => loopC2 vs b t it1 vs1 b1 t1 g xs a.1 a.2
      | _ => none)
    | .ok (false, ρ2) => loopC2 vs b t it1 vs1 b1 t1 g xs acc ρ2
    | _ => none
def gComp2 (vs : List Nat) (it : Env → Out (List PD × Env)) (b : PD → Env → Option Env) (t : Env → Out (Bool × Env)) (it1 : Env → Out (List PD × Env)) (vs1 : List Nat) (b1 : PD → Env → Option Env) (t1 : Env → Out (Bool × Env)) (g : Env → Out (PD × Env)) : Env → Out (Res × Env) := fun ρ =>
  (it ρ).bind fun a => match loopC2 vs b t it1 vs1 b1 t1 g a.1 [] a.2 with
    | some (acc, ρ') => if ρ'.length = a.2.length then .ok (rL acc, unwipe vs a.2 ρ') else .stuck
    | none => .stuck
theorem wipeE_sub {ρ : Env} {vs vs1 : List Nat} (h : ∀ i ∈ vs1, i ∈ vs) : wipeE (wipeE ρ vs1) vs = wipeE ρ vs := by
  unfold wipeE
  apply List.ext_getElem?
  intro i
  rw [List.getElem?_mapIdx, List.getElem?_mapIdx, List.getElem?_mapIdx]
  cases ρ[i]? with
  | none => rfl
  | some x =>
    rw [Option.map_some, Option.map_some, Option.map_some]
    by_cases h1 : vs.contains i = true
    · rw [if_pos h1, if_pos h1]
    · have h2 : ¬ vs1.contains i = true := fun z => h1 (List.contains_iff_mem.mpr (h i (List.contains_iff_mem.mp z)))
      rw [if_neg h1, if_neg h1, if_neg h2]
theorem wipe_sub {σ : L2.St} {vs vs1 : List Nat} (h : ∀ i ∈ vs1, i ∈ vs) : wipe (wipe σ vs1) vs = wipe σ vs := by
  apply List.ext_getElem?
  intro i
  by_cases hi : i ∈ vs
  · by_cases hl : i < σ.length
    · rw [wipe_in hi (by rw [wipe_length]; exact hl), wipe_in hi hl]
    · rw [List.getElem?_eq_none (by rw [wipe_length, wipe_length]; omega), List.getElem?_eq_none (by rw [wipe_length]; omega)]
  · rw [wipe_out hi, wipe_out hi, wipe_out fun z => hi (h i z)]
section
variable {X : Cx} {E : XW} {S : List Nat} {pos : Pos}
def tIn (J1 : It) (g1 : TG) (tt1 : TT) (te : TE) (vs1 : List Nat) (D : Addr) (Nx : Hp → Prop) (σ2 : L2.St) (H4 : Hp) : Prop :=
  ∃ W1 : Nat → Nat → Hp → Prop, (∃ m, W1 0 m H4) ∧ ∀ j k H, W1 j k H →
      (J1.stop j H ∧ Nx H) ∨ (J1.go j H ∧ ∃ Nx1 : Hp → Prop, (∀ H', Nx1 H' → ∃ k', k' < k ∧ W1 (j + 1) k' H') ∧ ∀ x H', J1.yld j H x H' → g1 x (wipe σ2 vs1) H' fun σ3 H5 => wipe σ3 vs1 = wipe σ2 vs1 ∧ tt1 σ3 H5 fun b H6 =>
        if b = true then te σ3 H6 fun y H7 => ∃ acc, H7 D = some (.lst acc) ∧ acc.length < sizeLine ∧ Nx1 (upd H7 D (.lst (acc ++ [y]))) else Nx1 H6)
theorem in_run {b : PD → Env → Option Env} {t : Env → Out (Bool × Env)} {g : Env → Out (PD × Env)} {vs ts : List Nat} {gg : TG} {tt : TT} {te : TE} {mg : Str → Option Value} {n : Nat} (hts : ∀ i ∈ ts, i ∈ vs)
    (qg : ∀ F H σ ρ A v d, Rel F H σ ρ A → Rp F v d → σ.length = n → ∀ ρ', b d ρ = some ρ' → ∀ Q : L2.St → Hp → Prop, (∀ σ' A', Rel F H σ' ρ' A' → Ext F H A F H A' → Only ts σ σ' → Q σ' H) → gg v σ H Q)
    (qt : ∀ F H σ ρ A, Rel F H σ ρ A → ∀ Q : Bool → Hp → Prop, TPost mg NoE F H σ A Q (t ρ) → tt σ H Q)
    (qe : ∀ F H σ ρ A, Rel F H σ ρ A → ∀ Q : VK, VPost mg NoE F H σ A Q (g ρ) → te σ H Q)
    {F0 H0 F1 H1 : Hp} {A0 A1 : Ad} {σ : L2.St} {ρ1 : Env} {D : Addr} {ds acc0 accE : List PD} {va0 : List V} {ρE : Env} {J : It} {Nx : Hp → Prop}
    (R1 : Rel F1 H1 σ ρ1 A1) (hn : σ.length = n) (ok : ItOk F1 J ds) (hD : H0 D = none) (x1 : Ext F0 H0 A0 F1 H1 A1) (hD1 : H1 D = some (.lst va0)) (fD : F1 D = none) (nD : ∀ k, D ∉ A1 k) (ra0 : RpL F1 va0 acc0)
    (el : loopC vs b t g ds acc0 ρ1 = some (accE, ρE))
    (fin0 : ∀ F' H' A' va, Rel F' H' (wipe σ vs) (wipeE ρE vs) A' → Same F1 F' → Ext F0 H0 A0 F' H' A' → H' D = some (.lst va) → F' D = none → (∀ k, D ∉ A' k) → RpL F' va accE → Nx H') : tIn J gg tt te vs D Nx σ H1 := by
  refine ⟨fun i m H' => m = ds.length - i ∧ i ≤ ds.length ∧ ∃ F' ρ' A' va acc, Rel F' H' (wipe σ vs) (wipeE ρ' vs) A' ∧ Same F1 F' ∧ Ext F0 H0 A0 F' H' A' ∧ H' D = some (.lst va) ∧ F' D = none ∧ (∀ k, D ∉ A' k) ∧ RpL F' va acc ∧ loopC vs b t g (ds.drop i) acc ρ' = some (accE, ρE),
      ⟨ds.length, by simp, Nat.zero_le _, F1, ρ1, wipeA A1 vs, va0, acc0, R1.wiped vs, .refl F1, x1.trans (Ext.wiped vs), hD1, fD, fun k z => nD k (wipeA_sub z), ra0, el⟩, ?_⟩
  rintro i m H2 ⟨rfl, hi, F2, ρ2, A2, va, acc, R2, s2, x2, hD2, fD2, nD2, ra, h2⟩
  obtain ⟨stop, go⟩ := ok F2 H2 s2 R2.sub i
  have keep : ∀ {F' H' A'}, Ext F2 H2 A2 F' H' A' → H' D = some (.lst va) ∧ F' D = none ∧ ∀ k, D ∉ A' k := fun {F' H' A'} y => by
    refine ⟨y.h D _ hD2 nD2, ?_, fun k z => ?_⟩
    · by_cases z : F' D = none
      · exact z
      · rcases y.new D z with q | q | ⟨j, q⟩
        · exact absurd fD2 q
        · rcases q with q | ⟨us, q⟩ <;> rw [hD2] at q <;> cases q
        · exact absurd q (nD2 j)
    · rcases y.ow k D z with ⟨j, q⟩ | q
      · exact nD2 j q
      · rw [hD2] at q; cases q
  by_cases hlt : i < ds.length
  · obtain ⟨go, yl⟩ := go _ (List.getElem?_eq_getElem hlt)
    refine .inr ⟨go, fun H' => ∃ F' ρ' A' va acc, Rel F' H' (wipe σ vs) (wipeE ρ' vs) A' ∧ Same F1 F' ∧ Ext F0 H0 A0 F' H' A' ∧ H' D = some (.lst va) ∧ F' D = none ∧ (∀ k, D ∉ A' k) ∧ RpL F' va acc ∧ loopC vs b t g (ds.drop (i + 1)) acc ρ' = some (accE, ρE), fun H' hN => ⟨ds.length - (i + 1), by omega, rfl, hlt, hN⟩, fun x H3 hy => ?_⟩
    obtain ⟨F3, x3, r3⟩ := yl x H3 hy
    rw [List.drop_eq_getElem_cons hlt] at h2
    unfold loopC at h2
    rw [Option.bind_eq_some_iff] at h2
    obtain ⟨ρ3, eb, h2⟩ := h2
    refine qg F3 H3 (wipe σ vs) (wipeE ρ2 vs) A2 x _ (R2.pure x3) r3 (by rw [wipe_length]; exact hn) ρ3 eb _ fun σ4 A4 R4 x4 o4 => ?_
    have y4 := (x3.ext A2).trans x4
    refine ⟨wipe_eq o4 hts, ?_⟩
    refine qt F3 H3 σ4 ρ3 A4 R4 _ ?_
    -- the turn's end: the block's slots are forgotten
    have fin : ∀ {F' H' A' ρ'}, Rel F' H' σ4 ρ' A' → Rel F' H' (wipe σ vs) (wipeE ρ' vs) (wipeA A' vs) := fun {F' H' A' ρ'} R' => by
      have q := R'.wiped vs
      rw [wipe_eq o4 hts] at q
      exact q
    cases et : t ρ3 with
    | stuck => rw [et] at h2; cases h2
    | exc x ρ' => rw [et] at h2; cases h2
    | ok q =>
      obtain ⟨c, ρ5⟩ := q
      rw [et] at h2
      intro F5 H5 A5 R5 x5
      have y5 := y4.trans x5
      cases c with
      | false =>
        have h2 : loopC vs b t g (ds.drop (i + 1)) acc ρ5 = some (accE, ρE) := h2
        rw [if_neg Bool.false_ne_true]
        obtain ⟨k1, k2, k3⟩ := keep y5
        exact ⟨F5, ρ5, _, va, acc, fin R5, s2.trans y5.f, (x2.trans y5).trans (Ext.wiped vs), k1, k2, fun k z => k3 k (wipeA_sub z), ra.mono y5.f, h2⟩
      | true =>
        rw [if_pos rfl]
        refine qe F5 H5 σ4 ρ5 A5 R5 _ ?_
        have h2 : (match g ρ5 with
          | .ok (d, ρ3) => if acc.length < sizeLine then loopC vs b t g (ds.drop (i + 1)) (acc ++ [d]) ρ3 else none
          | _ => none) = some (accE, ρE) := h2
        cases eg : g ρ5 with
        | stuck => rw [eg] at h2; cases h2
        | exc x ρ' => rw [eg] at h2; cases h2
        | ok q =>
          obtain ⟨d, ρ6⟩ := q
          rw [eg] at h2
          have h2 : (if acc.length < sizeLine then loopC vs b t g (ds.drop (i + 1)) (acc ++ [d]) ρ6 else none) = some (accE, ρE) := h2
          split at h2
          · rename_i hz
            intro z F6 H6 A6 R6 x6 r6
            have y6 := y5.trans x6
            obtain ⟨k1, k2, k3⟩ := keep y6
            have k6 : ∀ k, D ∉ wipeA A6 vs k := fun k z => k3 k (wipeA_sub z)
            refine ⟨va, k1, by rw [ra.length]; exact hz, F6, ρ6, wipeA A6 vs, va ++ [z], acc ++ [d], ?_, s2.trans y6.f, ?_, upd_same, k2, k6, (ra.mono y6.f).append (.cons r6 .nil), h2⟩
            · have q := fin R6
              refine ⟨fun p o e => ?_, q.len, fun k sv e => ?_, q.off, q.free, q.dis, q.nd⟩
              · rw [upd_ne (ne_of_none e k2)]; exact q.sub p o e
              · obtain ⟨v, h1, h2⟩ := q.own k sv e
                exact ⟨v, h1, h2.mono (.refl F6) fun p hp o e => by rw [upd_ne (fun z => k6 k (by rw [← z]; exact hp))]; exact e⟩
            · have y := (x2.trans y6).trans (Ext.wiped (A := A6) vs)
              refine ⟨y.f, fun p o e n => ?_, y.new, y.ow, fun p hp => ?_⟩
              · rw [upd_ne (ne_of_none e hD)]; exact y.h p o e n
              · by_cases hp' : p = D
                · rw [hp', upd_same]; simp
                · rw [upd_ne hp']; exact y.dom p hp
          · cases h2
  · refine .inl ⟨stop (by omega), ?_⟩
    rw [List.drop_of_length_le (by omega)] at h2
    cases h2
    exact fin0 F2 H2 A2 va R2 s2 x2 hD2 fD2 nD2 ra
theorem comp2_run {wi wi1 : TI} {it it1 : Env → Out (List PD × Env)} {b b1 : PD → Env → Option Env} {t t1 : Env → Out (Bool × Env)} {g : Env → Out (PD × Env)} {vs ts vs1 ts1 : List Nat} {gg gg1 : TG} {tt tt1 : TT} {te : TE} {mg : Str → Option Value} {n : Nat}
    (qi : ∀ F H σ ρ A, Rel F H σ ρ A → ∀ R : It → Hp → Prop, IPost mg E F H σ A R (it ρ) → wi σ H R) (hts : ∀ i ∈ ts, i ∈ vs) (hts1 : ∀ i ∈ ts1, i ∈ vs1) (hvs : ∀ i ∈ vs1, i ∈ vs)
    (qg : ∀ F H σ ρ A v d, Rel F H σ ρ A → Rp F v d → σ.length = n → ∀ ρ', b d ρ = some ρ' → ∀ Q : L2.St → Hp → Prop, (∀ σ' A', Rel F H σ' ρ' A' → Ext F H A F H A' → Only ts σ σ' → Q σ' H) → gg v σ H Q)
    (qt : ∀ F H σ ρ A, Rel F H σ ρ A → ∀ Q : Bool → Hp → Prop, TPost mg NoE F H σ A Q (t ρ) → tt σ H Q)
    (qi1 : ∀ F H σ ρ A, Rel F H σ ρ A → ∀ R : It → Hp → Prop, IPost mg NoE F H σ A R (it1 ρ) → wi1 σ H R)
    (qg1 : ∀ F H σ ρ A v d, Rel F H σ ρ A → Rp F v d → σ.length = n → ∀ ρ', b1 d ρ = some ρ' → ∀ Q : L2.St → Hp → Prop, (∀ σ' A', Rel F H σ' ρ' A' → Ext F H A F H A' → Only ts1 σ σ' → Q σ' H) → gg1 v σ H Q)
    (qt1 : ∀ F H σ ρ A, Rel F H σ ρ A → ∀ Q : Bool → Hp → Prop, TPost mg NoE F H σ A Q (t1 ρ) → tt1 σ H Q)
    (qe : ∀ F H σ ρ A, Rel F H σ ρ A → ∀ Q : VK, VPost mg NoE F H σ A Q (g ρ) → te σ H Q)
    {F H : Hp} {σ : L2.St} {ρ : Env} {A : Ad} (R : Rel F H σ ρ A) (hn : σ.length = n) (Q : VK) (h : GPost mg E F H σ A Q (gComp2 vs it b t it1 vs1 b1 t1 g ρ)) : tLc2 wi gg tt wi1 gg1 tt1 te vs vs1 σ H Q := by
  refine qi F H σ ρ A R _ ?_
  unfold gComp2 at h
  cases ei : it ρ with
  | stuck => rw [ei] at h; exact h
  | exc x ρ' => rw [ei] at h; exact h
  | ok q =>
    obtain ⟨ds, ρ1⟩ := q
    rw [ei] at h
    intro J F1 H1 A1 R1 x1 ok D hD
    have h : GPost mg E F H σ A Q (match loopC2 vs b t it1 vs1 b1 t1 g ds [] ρ1 with
      | some (acc, ρ') => if ρ'.length = ρ1.length then .ok (rL acc, unwipe vs ρ1 ρ') else .stuck
      | none => .stuck) := h
    cases el : loopC2 vs b t it1 vs1 b1 t1 g ds [] ρ1 with
    | none => rw [el] at h; exact h.elim
    | some q =>
    obtain ⟨accE, ρE⟩ := q
    rw [el] at h
    have h : GPost mg E F H σ A Q (if ρE.length = ρ1.length then .ok (rL accE, unwipe vs ρ1 ρE) else .stuck) := h
    have fD : F1 D = none := R1.sub.free hD
    have nD : ∀ i, D ∉ A1 i := fun i hi => R1.there hi hD
    have xD := pure_new (o := .lst []) R1.sub hD
    refine ⟨fun i m H' => m = ds.length - i ∧ i ≤ ds.length ∧ ∃ F' ρ' A' va acc, Rel F' H' (wipe σ vs) (wipeE ρ' vs) A' ∧ Same F1 F' ∧ Ext F1 H1 (wipeA A1 vs) F' H' A' ∧ H' D = some (.lst va) ∧ F' D = none ∧ (∀ k, D ∉ A' k) ∧ RpL F' va acc ∧ loopC2 vs b t it1 vs1 b1 t1 g (ds.drop i) acc ρ' = some (accE, ρE),
      ⟨ds.length, by simp, Nat.zero_le _, F1, ρ1, wipeA A1 vs, [], [], (R1.pure xD).wiped vs, .refl F1, xD.ext _, upd_same, fD, fun k z => nD k (wipeA_sub z), .nil, el⟩, ?_⟩
    rintro i m H2 ⟨rfl, hi, F2, ρ2, A2, va, acc, R2, s2, x2, hD2, fD2, nD2, ra, h2⟩
    obtain ⟨stop, go⟩ := ok F2 H2 s2 R2.sub i
    have keep : ∀ {F' H' A'}, Ext F2 H2 A2 F' H' A' → H' D = some (.lst va) ∧ F' D = none ∧ ∀ k, D ∉ A' k := fun {F' H' A'} y => by
      refine ⟨y.h D _ hD2 nD2, ?_, fun k z => ?_⟩
      · by_cases z : F' D = none
        · exact z
        · rcases y.new D z with q | q | ⟨j, q⟩
          · exact absurd fD2 q
          · rcases q with q | ⟨us, q⟩ <;> rw [hD2] at q <;> cases q
          · exact absurd q (nD2 j)
      · rcases y.ow k D z with ⟨j, q⟩ | q
        · exact nD2 j q
        · rw [hD2] at q; cases q
    by_cases hlt : i < ds.length
    · obtain ⟨go, yl⟩ := go _ (List.getElem?_eq_getElem hlt)
      refine .inr ⟨go, fun H' => ∃ F' ρ' A' va acc, Rel F' H' (wipe σ vs) (wipeE ρ' vs) A' ∧ Same F1 F' ∧ Ext F1 H1 (wipeA A1 vs) F' H' A' ∧ H' D = some (.lst va) ∧ F' D = none ∧ (∀ k, D ∉ A' k) ∧ RpL F' va acc ∧ loopC2 vs b t it1 vs1 b1 t1 g (ds.drop (i + 1)) acc ρ' = some (accE, ρE), fun H' hN => ⟨ds.length - (i + 1), by omega, rfl, hlt, hN⟩, fun x H3 hy => ?_⟩
      obtain ⟨F3, x3, r3⟩ := yl x H3 hy
      rw [List.drop_eq_getElem_cons hlt] at h2
      unfold loopC2 at h2
      rw [Option.bind_eq_some_iff] at h2
      obtain ⟨ρ3, eb, h2⟩ := h2
      refine qg F3 H3 (wipe σ vs) (wipeE ρ2 vs) A2 x _ (R2.pure x3) r3 (by rw [wipe_length]; exact hn) ρ3 eb _ fun σ4 A4 R4 x4 o4 => ?_
      have y4 := (x3.ext A2).trans x4
      refine ⟨wipe_eq o4 hts, ?_⟩
      refine qt F3 H3 σ4 ρ3 A4 R4 _ ?_
      have fin : ∀ {F' H' A' ρ'}, Rel F' H' σ4 ρ' A' → Rel F' H' (wipe σ vs) (wipeE ρ' vs) (wipeA A' vs) := fun {F' H' A' ρ'} R' => by
        have q := R'.wiped vs
        rw [wipe_eq o4 hts] at q
        exact q
      cases et : t ρ3 with
      | stuck => rw [et] at h2; cases h2
      | exc x ρ' => rw [et] at h2; cases h2
      | ok q =>
        obtain ⟨c, ρ5⟩ := q
        rw [et] at h2
        intro F5 H5 A5 R5 x5
        have y5 := y4.trans x5
        cases c with
        | false =>
          have h2 : loopC2 vs b t it1 vs1 b1 t1 g (ds.drop (i + 1)) acc ρ5 = some (accE, ρE) := h2
          rw [if_neg Bool.false_ne_true]
          obtain ⟨k1, k2, k3⟩ := keep y5
          exact ⟨F5, ρ5, _, va, acc, fin R5, s2.trans y5.f, (x2.trans y5).trans (Ext.wiped vs), k1, k2, fun k z => k3 k (wipeA_sub z), ra.mono y5.f, h2⟩
        | true =>
          rw [if_pos rfl]
          have h2 : (match it1 ρ5 with
            | .ok (ys, ρ3) => (loopC vs1 b1 t1 g ys acc ρ3).bind fun a => loopC2 vs b t it1 vs1 b1 t1 g (ds.drop (i + 1)) a.1 a.2
            | _ => none) = some (accE, ρE) := h2
          have hl4 : σ4.length = n := by
            have z : (wipe σ4 vs).length = (wipe σ vs).length := by rw [wipe_eq o4 hts]
            rw [wipe_length, wipe_length] at z
            rw [z]; exact hn
          refine qi1 F5 H5 σ4 ρ5 A5 R5 _ ?_
          cases ei1 : it1 ρ5 with
          | stuck => rw [ei1] at h2; cases h2
          | exc x ρ' => rw [ei1] at h2; cases h2
          | ok q =>
            obtain ⟨ys, ρ6⟩ := q
            rw [ei1] at h2
            have h2 : ((loopC vs1 b1 t1 g ys acc ρ6).bind fun a => loopC2 vs b t it1 vs1 b1 t1 g (ds.drop (i + 1)) a.1 a.2) = some (accE, ρE) := h2
            rw [Option.bind_eq_some_iff] at h2
            obtain ⟨⟨acc1, ρ7⟩, e7, h2⟩ := h2
            intro J1 F6 H6 A6 R6 x6 ok1
            have y6 := y5.trans x6
            obtain ⟨k1, k2, k3⟩ := keep y6
            refine in_run hts1 qg1 qt1 qe (F0 := F1) (H0 := H1) (A0 := wipeA A1 vs) R6 hl4 ok1 hD (x2.trans y6) k1 k2 k3 (ra.mono y6.f) e7 fun F' H' A' va' R' s' x' hD' fD' nD' ra' => ?_
            refine ⟨F', ρ7, wipeA A' vs, va', acc1, ?_, (s2.trans y6.f).trans s', x'.trans (Ext.wiped vs), hD', fD', fun k z => nD' k (wipeA_sub z), ra', h2⟩
            have q := R'.wiped vs
            rw [wipe_sub hvs, wipeE_sub hvs, wipe_eq o4 hts] at q
            exact q
    · refine .inl ⟨stop (by omega), ?_⟩
      rw [List.drop_of_length_le (by omega)] at h2
      cases h2
      split at h
      · rename_i hl
        have x12 : Ext F1 H1 A1 F2 H2 A2 := (Ext.wiped vs).trans x2
        have g2 : GRes H1 A1 F2 H2 A2 (.ref D) (rL accE) := ⟨[D], ⟨D, va, rfl, rfl, hD2, ra⟩, by simp, fun p hp => by
          rw [List.mem_singleton.mp hp]
          exact ⟨fD2, nD2, .inr hD⟩⟩
        exact h _ F2 H2 A2 (R1.unwiped R2 x2.f hl) (x1.trans x12) (g2.back x1)
      · exact h.elim
theorem PI.weak {X : Cx} {tg e : Expr} {t t' : TI} (h : PI X tg e t) (w : ∀ σ H Q, t' σ H Q → t σ H Q) : PI X tg e t' := ⟨fun pins s σ H Q I q => h.run pins s σ H Q I (w σ H Q q)⟩
open Classical in
theorem blk_ix {scope : Scope} {tg e : Expr} {g : Env → Out (List PD × Env)} (h : Blk X scope fun Y => IX Y NoE tg e g) : ∃ te, (∀ (s : Shared) (H : Hp) (C : Addr) (cl : List (Str × Addr)) (fp : List Addr), PI (X.blk s H scope (compEnvC scope cl C X.env) fp) tg e te) ∧
    ∀ F H σ ρ A, Rel F H σ ρ A → ∀ Q : It → Hp → Prop, IPost X.mg NoE F H σ A Q (g ρ) → te σ H Q :=
  ⟨fun σ H Q => ∀ s H0 C cl fp, (h s H0 C cl fp).choose σ H Q, fun s H0 C cl fp => PI.weak (h s H0 C cl fp).choose_spec.1 fun σ H Q q => q s H0 C cl fp,
    fun F H σ ρ A R Q k s H0 C cl fp => (h s H0 C cl fp).choose_spec.2 F H σ ρ A R Q k⟩
section
variable {elt tg iter tg1 iter1 : Expr} {ifs ifs1 : List Expr} {scope : Scope} {own : List (Str × Nat)} {it it1 : Env → Out (List PD × Env)} {b b1 : PD → Env → Option Env} {t t1 : Env → Out (Bool × Env)} {g : Env → Out (PD × Env)} {ts ts1 : List Nat}
theorem gx_comp2 (hc : X.calm = true) (hN : X.N.Nodup) (own : List (Str × Nat)) (vs1 : List Nat) (ok : blkC X.N X.env.scope scope own = true) (hi : IX X E tg iter it) (hg : Blk X scope fun Y => MG Y [] tg ts b) (ht : Blk X scope fun Y => CXs Y NoE ifs t)
    (hi1 : Blk X scope fun Y => IX Y NoE tg1 iter1 it1) (hg1 : Blk X scope fun Y => MG Y [] tg1 ts1 b1) (ht1 : Blk X scope fun Y => CXs Y NoE ifs1 t1) (he : Blk X scope fun Y => VX Y NoE elt g)
    (hts : ts.all ((own.map (·.2)).contains ·) = true := by rfl) (hts1 : ts1.all (vs1.contains ·) = true := by rfl) (hvs : vs1.all ((own.map (·.2)).contains ·) = true := by rfl) (hs : ∀ x, foldedSetIterable iter X.env x = pure x := by intro _; rfl) (hs1 : ∀ env x, foldedSetIterable iter1 env x = pure x := by intro _ _; rfl) :
    GX X E (.ListComp elt [⟨tg, iter, ifs, 0⟩, ⟨tg1, iter1, ifs1, 0⟩] scope pos) (gComp2 (own.map (·.2)) it b t it1 vs1 b1 t1 g) := by
  obtain ⟨wi, pi, qi⟩ := hi
  obtain ⟨gg, pg, qg⟩ := blk_mg hg
  obtain ⟨tt, pt, qt⟩ := blk_cx ht
  obtain ⟨wi1, pi1, qi1⟩ := blk_ix hi1
  obtain ⟨gg1, pg1, qg1⟩ := blk_mg hg1
  obtain ⟨tt1, pt1, qt1⟩ := blk_cx ht1
  obtain ⟨te, pe, qe⟩ := blk_vx he
  have m {l k : List Nat} (h : l.all (k.contains ·) = true) : ∀ i ∈ l, i ∈ k := fun i hi => List.contains_iff_mem.mp (List.all_eq_true.mp h i hi)
  exact ⟨_, pe_len (pe_lc2 hc hN pi (blkOk_by ok) (m hvs) pg pt pi1 pg1 pt1 pe hs hs1), fun F H σ ρ A R Q h hz => comp2_run qi (m hts) (m hts1) (m hvs) qg qt qi1 qg1 qt1 qe R hz Q h⟩
end
end
end Mm
namespace Mm
open PySem PySem.Spec L2
set_option autoImplicit false
section
variable {X : Cx} {E : XW} {S : List Nat} {pos : Pos} {es : List Expr} {a b : Expr}
def AnPost (mg : Str → Option Value) (E : XW) (F H : Hp) (σ : L2.St) (A : Ad) (Q : List V → Hp → Prop) : Out (List AR × Env) → Prop
  | .stuck => False
  | .ok (as, ρ') => ∀ vs F' H' A', Rel F' H' σ ρ' A' → Ext F H A F' H' A' → ARel F' σ vs as → ∀ p, H' p = none → Q (vs ++ [.ref p]) (upd H' p (.dT []))
  | .exc x ρ' => XPost mg E F H σ A x ρ'
def MAN (X : Cx) (E : XW) (es : List Expr) (g : Env → Out (List AR × Env)) : Prop :=
  ∃ t, PA X es t ∧ ∀ F H σ ρ A, Rel F H σ ρ A → ∀ Q : List V → Hp → Prop, AnPost X.mg E F H σ A Q (g ρ) → t σ H Q
theorem man_last {p : Pos} (hs : starEach [.Dict [] [] p] X.env = [(false, eval (.Dict [] [] p) X.env)] := by rfl) : MAN X E [.Dict [] [] p] aNil :=
  ⟨_, pa_cons pe_dnewT pa_nil hs, fun F H σ ρ A R Q h p hp => h [] F H A R (.refl F H A) .nil p hp⟩
theorem man_val {e : Expr} {es : List Expr} {g : Env → Out (PD × Env)} {r : Env → Out (List AR × Env)} (he : VX X E e g) (hr : MAN X E es r) (hs : starEach (e :: es) X.env = (false, eval e X.env) :: starEach es X.env := by rfl) : MAN X E (e :: es) (aVal g r) := by
  obtain ⟨t, pe, q⟩ := he
  obtain ⟨tr, pr, qr⟩ := hr
  refine ⟨_, pa_cons pe pr hs, fun F H σ ρ A R Q h => q F H σ ρ A R _ ?_⟩
  unfold aVal at h
  cases e : g ρ with
  | stuck => rw [e] at h; exact h
  | exc x ρ' => rw [e] at h; exact h
  | ok q =>
    obtain ⟨d, ρ1⟩ := q
    rw [e] at h
    have h : AnPost X.mg E F H σ A Q ((r ρ1).bind fun b => .ok (.val d :: b.1, b.2)) := h
    intro x F1 H1 A1 R1 x1 r1
    refine qr F1 H1 σ ρ1 A1 R1 _ ?_
    cases e2 : r ρ1 with
    | stuck => rw [e2] at h; exact h
    | exc x ρ' => rw [e2] at h; exact XPost.ext h x1
    | ok q =>
      obtain ⟨as, ρ2⟩ := q
      rw [e2] at h
      exact fun vs F2 H2 A2 R2 x2 r2 p hp => h (x :: vs) F2 H2 A2 R2 (x1.trans x2) (.cons (r1.mono x2.f) r2) p hp
theorem man_slot {i : Nat} {x : Str} {p : Pos} {es : List Expr} {r : Env → Out (List AR × Env)} (hr : MAN X E es r) (hs : starEach (.Name x p :: es) X.env = (false, eval (.Name x p) X.env) :: starEach es X.env := by rfl)
    (hN : X.N[i]? = some x := by rfl) (hv : Vis X.env.scope x := by first | exact Or.inl rfl | exact Or.inr (Or.inl rfl) | exact Or.inr (Or.inr rfl)) (hd : (x == ("__debug__" : Str)) = false := by decide)
    (hcd : (x == ("__classdict__" : Str)) = false := by decide) : MAN X E (.Name x p :: es) (aSlot i r) := by
  obtain ⟨tr, pr, qr⟩ := hr
  refine ⟨_, pa_cons (pe_var hN hv hd hcd) pr hs, fun F H σ ρ A R Q h => ?_⟩
  unfold aSlot at h
  split at h
  · rename_i sv hi
    obtain ⟨v, h1, h2⟩ := R.own i _ hi
    refine ⟨v, h1, qr F H σ ρ A R _ ?_⟩
    cases e2 : r ρ with
    | stuck => rw [e2] at h; exact h
    | exc x ρ' => rw [e2] at h; exact h
    | ok q =>
      obtain ⟨as, ρ2⟩ := q
      rw [e2] at h
      exact fun vs F2 H2 A2 R2 x2 r2 p hp => h (v :: vs) F2 H2 A2 R2 x2 (.cons h1 r2) p hp
  · exact h.elim
/-- the slots, and one more -/
theorem Rel.snoc {F H : Hp} {σ : L2.St} {ρ : Env} {A : Ad} {p : Addr} (R : Rel F H σ ρ A) (hp : H p = none) : Rel F (upd H p (.dT [])) (σ ++ [some (.ref p)]) (ρ ++ [some (.one (.dT []))]) (fun i => if i = σ.length then [p] else A i) where
  sub := (pure_new R.sub hp).sub
  len := by rw [List.length_append, List.length_append, R.len]; rfl
  own := fun i sv e => by
    by_cases hi : i < ρ.length
    · rw [List.getElem?_append_left hi] at e
      obtain ⟨v, h1, h2⟩ := R.own i sv e
      have hs : i < σ.length := by rw [← R.len]; exact hi
      refine ⟨v, by rw [List.getElem?_append_left hs]; exact h1, ?_⟩
      rw [if_neg (by omega)]
      exact h2.mono (.refl F) fun q hq o e => same_new hp _ _ e
    · rw [List.getElem?_append_right (by omega)] at e
      have hi2 : i = ρ.length := by
        have := (List.getElem?_eq_some_iff.mp e).1
        simp at this; omega
      subst hi2
      simp at e
      subst e
      refine ⟨.ref p, by rw [R.len, List.getElem?_append_right (Nat.le_refl _)]; simp, ?_⟩
      rw [if_pos R.len]
      exact ⟨p, [], rfl, rfl, upd_same, .nil⟩
  off := fun i h => by
    by_cases hi : i = σ.length
    · exfalso
      refine h (.one (.dT [])) ?_
      rw [hi, ← R.len, List.getElem?_append_right (Nat.le_refl _)]; simp
    · rw [if_neg hi]
      refine R.off i fun sv e => h sv ?_
      rw [List.getElem?_append_left (List.getElem?_eq_some_iff.mp e).1]; exact e
  free := fun i q h => by
    by_cases hi : i = σ.length
    · rw [if_pos hi, List.mem_singleton] at h
      rw [h]; exact R.sub.free hp
    · rw [if_neg hi] at h; exact R.free i q h
  dis := fun i j q h1 h2 => by
    have ne : ∀ k, p ∈ A k → False := fun k hk => R.there hk hp
    by_cases hi : i = σ.length
    · rw [if_pos hi, List.mem_singleton] at h1
      by_cases hj : j = σ.length
      · rw [hi, hj]
      · rw [if_neg hj] at h2; rw [h1] at h2; exact (ne j h2).elim
    · rw [if_neg hi] at h1
      by_cases hj : j = σ.length
      · rw [if_pos hj, List.mem_singleton] at h2; rw [h2] at h1; exact (ne i h1).elim
      · rw [if_neg hj] at h2; exact R.dis i j q h1 h2
  nd := fun i => by
    show (if i = σ.length then [p] else A i).Nodup
    split
    · simp
    · exact R.nd i
/-- less the last one -/
theorem Rel.less1 {F H : Hp} {σ : L2.St} {v : Option V} {ρ : Env} {A : Ad} (R : Rel F H (σ ++ [v]) ρ A) : Rel F H σ (ρ.take σ.length) (fun i => if i < σ.length then A i else []) where
  sub := R.sub
  len := by
    have := R.len
    rw [List.length_append] at this
    rw [List.length_take]; simp at this; omega
  own := fun i sv e => by
    by_cases hi : i < σ.length
    · rw [List.getElem?_take, if_pos hi] at e
      obtain ⟨u, h1, h2⟩ := R.own i sv e
      rw [List.getElem?_append_left hi] at h1
      exact ⟨u, h1, by rw [if_pos hi]; exact h2⟩
    · rw [List.getElem?_take, if_neg hi] at e; cases e
  off := fun i h => by
    by_cases hi : i < σ.length
    · rw [if_pos hi]
      refine R.off i fun sv e => h sv ?_
      rw [List.getElem?_take, if_pos hi]; exact e
    · rw [if_neg hi]
  free := fun i q h => by
    split at h
    · exact R.free i q h
    · cases h
  dis := fun i j q h1 h2 => by
    split at h1
    · split at h2
      · exact R.dis i j q h1 h2
      · cases h2
    · cases h1
  nd := fun i => by
    show (if i < σ.length then A i else []).Nodup
    split
    · exact R.nd i
    · exact List.nodup_nil
def gCallN (φ : List SV → Out (Res × Env)) (ga : Env → Out (List AR × Env)) : Env → Out (Res × Env) := fun ρ => (ga ρ).bind fun a => match argSV (a.1 ++ [.slot a.2.length]) (a.2 ++ [some (.one (.dT []))]) with
  | some as => if (slotsOf (a.1 ++ [.slot a.2.length])).Nodup then (match φ as with
    | .ok (r, outs) => .ok (r, (putOuts (a.1 ++ [.slot a.2.length]) outs (a.2 ++ [some (.one (.dT []))])).take a.2.length)
    | .exc x outs => .exc x ((putOuts (a.1 ++ [.slot a.2.length]) outs (a.2 ++ [some (.one (.dT []))])).take a.2.length)
    | .stuck => .stuck) else .stuck
  | none => .stuck
theorem ARel.more {F : Hp} {σ τ : L2.St} : ∀ {vs : List V} {as : List AR}, ARel F σ vs as → ARel F (σ ++ τ) vs as
  | _, _, .nil => .nil
  | _, _, .cons (b := a) h r => by
    refine .cons ?_ (ARel.more r)
    cases a with
    | val d => exact h
    | slot i => exact (List.getElem?_append_left (List.getElem?_eq_some_iff.mp h).1).trans h
    | pt ds => exact h
theorem ARel.snoc {F : Hp} {σ : L2.St} {v : V} {a : AR} (h : match a with | .val d => Rp F v d | .slot i => σ[i]? = some (some v) | .pt ds => PlainT F v ds) : ∀ {vs : List V} {as : List AR}, ARel F σ vs as → ARel F σ (vs ++ [v]) (as ++ [a])
  | _, _, .nil => .cons h .nil
  | _, _, .cons h' r => .cons h' (ARel.snoc h r)
theorem callN_run {mg : Str → Option Value} {E : XW} {n : Nat} {φ : List SV → Out (Res × Env)} {ga : Env → Out (List AR × Env)} {ta : TA} {F H : Hp} {σ : L2.St} {ρ : Env} {A : Ad} {Q : VK}
    (q : ∀ F H σ ρ A, Rel F H σ ρ A → ∀ Q : List V → Hp → Prop, AnPost mg E F H σ A Q (ga ρ) → ta σ H Q) (R : Rel F H σ ρ A) (hn : ∀ ρ as ρ', ga ρ = .ok (as, ρ') → as.length + 1 = n) (h : GPost mg E F H σ A Q (gCallN φ ga ρ)) :
    ta σ H fun vs H1 => spM mg n φ vs H1 Q E := by
  refine q F H σ ρ A R _ ?_
  unfold gCallN at h
  cases e : ga ρ with
  | stuck => rw [e] at h; exact h
  | exc x ρ' => rw [e] at h; exact h
  | ok b =>
    obtain ⟨as, ρ1⟩ := b
    rw [e] at h
    intro vs F1 H1 A1 R1 x1 r1 p hp
    have h : GPost mg E F H σ A Q (match argSV (as ++ [.slot ρ1.length]) (ρ1 ++ [some (.one (.dT []))]) with
      | some svs => if (slotsOf (as ++ [.slot ρ1.length])).Nodup then (match φ svs with
        | .ok (r, outs) => .ok (r, (putOuts (as ++ [.slot ρ1.length]) outs (ρ1 ++ [some (.one (.dT []))])).take ρ1.length)
        | .exc x outs => .exc x ((putOuts (as ++ [.slot ρ1.length]) outs (ρ1 ++ [some (.one (.dT []))])).take ρ1.length)
        | .stuck => .stuck) else .stuck
      | none => .stuck) := h
    have R2 := R1.snoc hp
    have ra : ARel F1 (σ ++ [some (.ref p)]) (vs ++ [.ref p]) (as ++ [.slot ρ1.length]) := ARel.snoc (by
      show (σ ++ [some (.ref p)])[ρ1.length]? = some (some (.ref p))
      rw [R1.len, List.getElem?_append_right (Nat.le_refl _)]; simp) r1.more
    have x2 : Ext F H A F1 (upd H1 p (.dT [])) (fun i => if i = σ.length then [p] else A1 i) := by
      refine x1.trans ⟨.refl F1, fun q o e _ => same_new hp _ _ e, fun q h => .inl h, fun i q h => ?_, fun q h => ?_⟩
      · split at h
        · rw [List.mem_singleton.mp h]; exact .inr hp
        · exact .inl ⟨i, h⟩
      · obtain ⟨o, e⟩ := some_of_ne h
        rw [same_new hp _ _ e]; simp
    -- back: less the last slot
    have back : ∀ {F' H' A' outs}, Rel F' H' (σ ++ [some (.ref p)]) outs A' → Rel F' H' σ (outs.take ρ1.length) (fun i => if i < σ.length then A' i else []) := fun {F' H' A' outs} R' => by
      have q := R'.less1
      rw [← R1.len] at q
      rw [← R1.len]
      exact q
    have backx : ∀ {F' H' A'}, Ext F H A F' H' A' → Ext F H A F' H' (fun i => if i < σ.length then A' i else []) := fun {F' H' A'} y => ⟨y.f, y.h, y.new, (fun i q h => by
      split at h
      · exact y.ow i q h
      · cases h), y.dom⟩
    have backg : ∀ {F' H' A' z r}, GRes H A F' H' A' z r → GRes H A F' H' (fun i => if i < σ.length then A' i else []) z r := fun {F' H' A' z r} g => g.less fun i q h => by
      split at h
      · exact h
      · cases h
    split at h
    · rename_i svs hs
      split at h
      · rename_i nd
        have Rc := callRel R2 ra hs nd
        refine ⟨by rw [List.length_append, Paired.length r1]; exact hn _ _ _ e, F1, svs, _, Rc, ?_⟩
        have hlt := argSV_lt hs
        cases ep : φ svs with
        | stuck => rw [ep] at h; exact h.elim
        | ok c =>
          obtain ⟨r, outs⟩ := c
          rw [ep] at h
          intro z F2 H2 A2 R3 x3 g2
          obtain ⟨A3, R4, x4, k3⟩ := backRel R2 ra nd R3 x3 hlt
          exact h z F2 H2 _ (back R4) (backx (x2.trans x4)) (backg ((k3 z r g2).back x2))
        | exc x outs =>
          rw [ep] at h
          intro C d F2 H2 A2 hC R3 x3 xd
          obtain ⟨A3, R4, x4, k3⟩ := backRel R2 ra nd R3 x3 hlt
          exact h C d F2 H2 _ hC (back R4) (backx (x2.trans x4)) xd
      · exact h.elim
    · exact h.elim
theorem al_pt {n : Nat} {p : Env → Option Res} {r : Env → Out (List AR × Env)} (h : AL n r) : AL (n + 1) (aPt p r) := fun ρ as ρ' e => by
  unfold aPt at e
  split at e
  · cases er : r ρ with
    | stuck => rw [er] at e; cases e
    | exc x ρ' => rw [er] at e; cases e
    | ok q =>
      rw [er] at e
      cases e
      rw [List.length_cons, h ρ _ _ er]
  · cases e
section
variable {e : Expr} {es : List Expr} {x : Str} {p : Pos} {k j n : Nat} {φ : List SV → Out (Res × Env)}
theorem gx_calN {ga : Env → Out (List AR × Env)} (C : Cal X.prog X.w X.K X.mg X.base k x (n + 1) φ) (hr : Room j X.A) (hk : k ≤ j) (ha : MAN X E (e :: es) ga) (hn : AL n ga) (hg : Gl X x := by rfl)
    (hdb : (x == ("__debug__" : Str)) = false := by decide) (he : starEach (e :: es) X.env = (false, eval e X.env) :: starEach es X.env := by rfl) (hpl : (backTo pos (starEach es X.env)).any (·.1) = false := by rfl) : GX X E (.Call (.Name x p) (e :: es) [] pos) (gCallN φ ga) := by
  obtain ⟨f, fd, ps, h1, h2, h3, hl, F⟩ := C
  obtain ⟨t, pa, q⟩ := ha
  refine ⟨_, pe_call (E := E) F (hr.mono hk) hg h1 h2 h3 .nil passAll pa hdb he hpl, fun F0 H σ ρ A R Q h => ?_⟩
  have z := callN_run (n := ps.length) (φ := φ) q R (fun ρ as ρ' e => by rw [hn ρ as ρ' e, hl]) h
  unfold tCall
  simp only [List.append_nil]
  exact z
end
end
end Mm
namespace Mm
open PySem PySem.Spec L2
set_option autoImplicit false
abbrev fz (d : PD) : SV := .one (.frz d)
abbrev fzI (i : Int) : SV := fz (.int i)
def oB {α β : Type} (o : Option α) (k : α → Out β) : Out β := match o with
  | some a => k a
  | none => .stuck
def Out.seq (o : Out (Fl × Env)) (k : Env → Out (Fl × Env)) : Out (Fl × Env) := match o with
  | .ok (.nx, ρ') => k ρ'
  | o => o
section
variable {α β : Type} {a : α} {f : α → Out β} {ρ ρ' : Env} {k : Env → Out (Fl × Env)} {r : Res} {i j : Nat} {d : PD} {s t : S1} {x : Option SV} {sv : SV}
theorem q0 : oB (some a) f = f a := rfl
theorem q4 : (Out.ok a).bind f = f a := rfl
theorem q6 {e : EX} : (Out.exc e ρ : Out α).bind f = .exc e ρ := rfl
theorem q7 : (Out.stuck : Out α).bind f = .stuck := rfl
theorem q8 : (Out.ok (Fl.nx, ρ)).seq k = k ρ := rfl
theorem q9 : (Out.ok (Fl.rt r, ρ)).seq k = .ok (.rt r, ρ) := rfl
theorem qf : (Out.ok (Fl.bk, ρ)).seq k = .ok (.bk, ρ) := rfl
theorem qj : (Out.ok (Fl.ct, ρ)).seq k = .ok (.ct, ρ) := rfl
theorem qm {e : EX} : (Out.exc e ρ).seq k = .exc e ρ := rfl
theorem qn : pVar 0 (some (.one s) :: ρ) = some (.old s) := rfl
theorem qp : pVar (i + 1) (x :: ρ) = pVar i ρ := rfl
theorem qu : getS 0 (some (.one s) :: ρ) = some s := rfl
theorem qw : getS (i + 1) (x :: ρ) = getS i ρ := rfl
theorem qx : upSlot i s ρ = ρ.set i (some (.one s)) := rfl
theorem qy : Res.pv (.old (.frz d)) = some d := rfl
theorem qz : Res.pv (.new (.one s)) = s.pd := rfl
theorem qA : Res.s1 (.old s) = some s := rfl
theorem qB : Res.s1 (.new (.one s)) = some s := rfl
theorem qC : (S1.frz d).pd = some d := rfl
theorem qD {xs : List PD} : (S1.lst xs).pd = some (.list xs) := rfl
theorem qE {b : Bool} : Res.tr (rB b) = some b := rfl
variable {p pa pb : Env → Option Res} {φ : S1 → S1 → Option Res} {φ1 : S1 → Option Res} {φn : List S1 → Option Res} {ps : Env → Option (List S1)} {q qa qb : Env → Option PD} {qs : Env → Option (List PD)} {tp ta tb : Env → Option Bool}
theorem qF : pK d ρ = some (rD d) := rfl
theorem qG : p2 φ pa pb ρ = (pa ρ).bind fun ra => ra.s1.bind fun s => (pb ρ).bind fun rb => rb.s1.bind fun t => φ s t := rfl
theorem qH : p1 φ1 pa ρ = (pa ρ).bind fun ra => ra.s1.bind φ1 := rfl
theorem qI : pN φn ps ρ = (ps ρ).bind φn := rfl
theorem qJ : psNil ρ = some [] := rfl
theorem qK : psCons p ps ρ = (p ρ).bind fun r => r.s1.bind fun s => (ps ρ).bind fun ss => some (s :: ss) := rfl
theorem qL : vsNil ρ = some [] := rfl
theorem qM : vsCons q qs ρ = (q ρ).bind fun d => (qs ρ).bind fun ds => some (d :: ds) := rfl
theorem qN : pVal p ρ = (p ρ).bind Res.pv := rfl
theorem qO : f1 φ1 [s] = φ1 s := rfl
theorem qP : tB p ρ = (p ρ).bind Res.tr := rfl
theorem qQ : tAnd ta tb ρ = (ta ρ).bind fun c => if c = true then tb ρ else some false := rfl
theorem qR : tOr ta tb ρ = (ta ρ).bind fun c => if c = true then some true else tb ρ := rfl
theorem qS : tNot ta ρ = (ta ρ).map fun c => !c := rfl
theorem qT : pIf tp pa pb ρ = (tp ρ).bind fun c => if c = true then pa ρ else pb ρ := rfl
theorem qU : pAnd pa pb ρ = (pa ρ).bind fun r => r.tr.bind fun c => if c = true then pb ρ else some (rB false) := rfl
theorem qV : pOr pa pb ρ = (pa ρ).bind fun r => r.tr.bind fun c => if c = true then some (rB true) else pb ρ := rfl
theorem qW : pNot pa ρ = (pa ρ).bind fun r => r.tr.map fun c => rB (!c) := rfl
theorem qX : pTup qs ρ = (qs ρ).bind fun ds => if ds.length ≤ sizeLine then some (rD (.tuple ds)) else none := rfl
theorem qY : pLst qs ρ = (qs ρ).bind fun ds => if ds.length ≤ sizeLine then some (rL ds) else none := rfl
theorem pCall_def {φ : List SV → Out (Res × Env)} : pCall φ qs ρ = (qs ρ).bind fun ds => match φ (ds.map fun d => .one (.frz d)) with
  | .ok (r, _) => some r
  | _ => none := rfl
theorem qZ : pGet2 p qa qb ρ = (p ρ).bind fun r => r.s1.bind fun s => (qa ρ).bind fun k => (qb ρ).bind fun d => (s.look k).map fun o => rD (o.getD d) := rfl
theorem pCut_def {lo hi : Env → Option (Option Int)} : pCut p lo hi ρ = (p ρ).bind fun r => r.s1.bind fun s => (lo ρ).bind fun l => (hi ρ).bind fun h => fCut s l h := rfl
theorem pInt_def {v : Int} (h : p ρ = some (rInt v)) : pInt p ρ = some (some v) := by unfold pInt; rw [h]
theorem pDisp_def {qq : Env → Option (List (Key × PD))} : pDisp qq ρ = (qq ρ).bind fun kvs => if kvs.length ≤ 15 then some (.new (.one (.dK (mergeD [] kvs)))) else none := rfl
theorem w6 : pDNewK ρ = some (.new (.one (.dK []))) := rfl
theorem w7 : pDNewT ρ = some (.new (.one (.dT []))) := rfl
theorem qNil_def : qNil ρ = some [] := rfl
theorem qCons_def {qq : Env → Option (List (Key × PD))} : qCons qa qb qq ρ = (qa ρ).bind fun k => (keyOf k).bind fun k => (qb ρ).bind fun v => (qq ρ).bind fun r => some ((k, v) :: r) := rfl
theorem pComp_def {vs : List Nat} {it : Env → Option (List PD)} {b : PD → Env → Option Env} : pComp vs it b tp q ρ = (it ρ).bind fun ds => if ds.length ≤ sizeLine then (loopP vs b tp q ρ ds).map rL else none := rfl
theorem iP_def : iP p ρ = (p ρ).bind fun r => r.s1.bind S1.sq := rfl
theorem wa {f : List PD → Option (List PD)} : iA f qs ρ = (qs ρ).bind f := rfl
theorem pIsi_def {T : String} : pIsi T p ρ = (p ρ).bind fun r => r.s1.bind (fIsi T) := rfl
theorem wb : tYesP ρ = some true := rfl
variable {g ga gb : Env → Out (Res × Env)} {v va vb : Env → Out (PD × Env)} {gt gt2 : Env → Out (Bool × Env)} {m1 m2 : Env → Out (Fl × Env)} {gas : Env → Out (List AR × Env)}
theorem wc : lift (some (.old (.frz d))) ρ = .ok (rD d, ρ) := rfl
theorem wd : lift (some (.new sv)) ρ = .ok (.new sv, ρ) := rfl
theorem we : gPx p ρ = lift (p ρ) ρ := rfl
theorem wg : gPV q ρ = oB (q ρ) fun d => .ok (d, ρ) := by unfold gPV; cases q ρ <;> rfl
theorem wh : gT tp ρ = oB (tp ρ) fun b => .ok (b, ρ) := by unfold gT; cases tp ρ <;> rfl
theorem wj {it : Env → Option (List PD)} : gI it ρ = oB (it ρ) fun b => .ok (b, ρ) := by unfold gI; cases it ρ <;> rfl
theorem wl : gVx v ρ = (v ρ).bind fun a => .ok (rD a.1, a.2) := by unfold gVx; cases v ρ <;> rfl
theorem wm : vGx g ρ = (g ρ).bind fun a => oB (a.1.s1.bind S1.pd) fun d => .ok (d, a.2) := by
  unfold vGx frzR
  cases g ρ with
  | ok a =>
    obtain ⟨r, ρ'⟩ := a
    show (match r.s1.bind S1.pd with | some d => .ok (d, ρ') | none => .stuck) = oB (r.s1.bind S1.pd) fun d => .ok (d, ρ')
    cases r.s1.bind S1.pd <;> rfl
  | _ => rfl
theorem wn : g2 φ va vb ρ = (va ρ).bind fun a => (vb a.2).bind fun b => lift (φ (.frz a.1) (.frz b.1)) b.2 := rfl
theorem wo : g1 φ1 va ρ = (va ρ).bind fun a => lift (φ1 (.frz a.1)) a.2 := rfl
theorem wp : gN φn gas ρ = (gas ρ).bind fun a => oB (arVals a.1) fun ds => lift (φn (ds.map .frz)) a.2 := by
  unfold gN
  cases gas ρ with
  | ok a =>
    show (match arVals a.1 with | some ds => lift (φn (ds.map .frz)) a.2 | none => .stuck) = oB (arVals a.1) fun ds => lift (φn (ds.map .frz)) a.2
    cases arVals a.1 <;> rfl
  | _ => rfl
theorem wq : gTup gas ρ = (gas ρ).bind fun b => oB (arVals b.1) fun ds => if ds.length ≤ sizeLine then .ok (rD (.tuple ds), b.2) else .stuck := by
  unfold gTup
  cases gas ρ with
  | ok a =>
    show (match arVals a.1 with | some ds => if ds.length ≤ sizeLine then .ok (rD (.tuple ds), a.2) else .stuck | none => .stuck) = oB (arVals a.1) fun ds => if ds.length ≤ sizeLine then .ok (rD (.tuple ds), a.2) else .stuck
    cases arVals a.1 <;> rfl
  | _ => rfl
theorem wr : gLst gas ρ = (gas ρ).bind fun b => oB (arVals b.1) fun ds => if ds.length ≤ sizeLine then .ok (rL ds, b.2) else .stuck := by
  unfold gLst
  cases gas ρ with
  | ok a =>
    show (match arVals a.1 with | some ds => if ds.length ≤ sizeLine then .ok (rL ds, a.2) else .stuck | none => .stuck) = oB (arVals a.1) fun ds => if ds.length ≤ sizeLine then .ok (rL ds, a.2) else .stuck
    cases arVals a.1 <;> rfl
  | _ => rfl
theorem wt : aNil ρ = .ok ([], ρ) := rfl
theorem wu : aVal v gas ρ = (v ρ).bind fun a => (gas a.2).bind fun b => .ok (.val a.1 :: b.1, b.2) := rfl
theorem wv : aSlot i gas ρ = oB ((ρ[i]?).join) fun _ => (gas ρ).bind fun b => .ok (.slot i :: b.1, b.2) := by
  unfold aSlot
  cases ρ[i]? with
  | none => rfl
  | some o => cases o <;> rfl
theorem ww : arVals [] = some [] := rfl
theorem wx {r : List AR} : arVals (.val d :: r) = (arVals r).map (d :: ·) := rfl
theorem tOf_ok : tOf (.ok (rB true, ρ)) = .ok (true, ρ) := rfl
theorem wy {o : Out (Res × Env)} : tOf o = o.bind fun a => oB a.1.tr fun b => .ok (b, a.2) := by
  unfold tOf
  cases o with
  | ok a =>
    obtain ⟨r, ρ'⟩ := a
    show (match r.tr with | some b => .ok (b, ρ') | none => .stuck) = oB r.tr fun b => .ok (b, ρ')
    cases r.tr <;> rfl
  | _ => rfl
theorem wz : gIf gt ga gb ρ = (gt ρ).bind fun c => if c.1 = true then ga c.2 else gb c.2 := rfl
theorem wA : tAndM gt gt2 ρ = (gt ρ).bind fun a => if a.1 = true then gt2 a.2 else .ok (false, a.2) := rfl
theorem wB : tOrM gt gt2 ρ = (gt ρ).bind fun a => if a.1 = true then .ok (true, a.2) else gt2 a.2 := rfl
theorem wC : tNotM gt ρ = (gt ρ).bind fun a => .ok (!a.1, a.2) := rfl
theorem wD : gAnd ga gb ρ = (ga ρ).bind fun a => oB a.1.tr fun c => if c = true then gb a.2 else .ok (rB false, a.2) := by
  unfold gAnd
  cases ga ρ with
  | ok a =>
    obtain ⟨r, ρ'⟩ := a
    show (match r.tr with | some true => gb ρ' | some false => .ok (rB false, ρ') | none => .stuck) = oB r.tr fun c => if c = true then gb ρ' else .ok (rB false, ρ')
    cases r.tr with
    | none => rfl
    | some c => cases c <;> rfl
  | _ => rfl
theorem wE : gOr ga gb ρ = (ga ρ).bind fun a => oB a.1.tr fun c => if c = true then .ok (rB true, a.2) else gb a.2 := by
  unfold gOr
  cases ga ρ with
  | ok a =>
    obtain ⟨r, ρ'⟩ := a
    show (match r.tr with | some true => .ok (rB true, ρ') | some false => gb ρ' | none => .stuck) = oB r.tr fun c => if c = true then .ok (rB true, ρ') else gb ρ'
    cases r.tr with
    | none => rfl
    | some c => cases c <;> rfl
  | _ => rfl
theorem wF : gNot ga ρ = (ga ρ).bind fun a => oB a.1.tr fun c => .ok (rB (!c), a.2) := by
  unfold gNot
  cases ga ρ with
  | ok a =>
    obtain ⟨r, ρ'⟩ := a
    show (match r.tr with | some b => .ok (rB (!b), ρ') | none => .stuck) = oB r.tr fun c => .ok (rB (!c), ρ')
    cases r.tr <;> rfl
  | _ => rfl
theorem vSlot_def : vSlot i ρ = oB (getS i ρ) fun s => match s with
  | .frz d => .ok (d, ρ)
  | .lst xs => .ok (.list xs, ρ.set i (some (fz (.list xs))))
  | _ => .stuck := by
  unfold vSlot getS
  cases ρ[i]? with
  | none => rfl
  | some o =>
    cases o with
    | none => rfl
    | some sv =>
      cases sv with
      | one s => cases s <;> rfl
      | _ => rfl
theorem wG : iSq v ρ = (v ρ).bind fun a => oB (seqD a.1) fun xs => .ok (xs, a.2) := by
  unfold iSq
  cases v ρ with
  | ok a =>
    show (match seqD a.1 with | some xs => .ok (xs, a.2) | none => .stuck) = oB (seqD a.1) fun xs => .ok (xs, a.2)
    cases seqD a.1 <;> rfl
  | _ => rfl
theorem gComp_def {vs : List Nat} {it : Env → Out (List PD × Env)} {b : PD → Env → Option Env} : gComp vs it b gt v ρ = (it ρ).bind fun a => oB (loopC vs b gt v a.1 [] a.2) fun c => if c.2.length = a.2.length then .ok (rL c.1, unwipe vs a.2 c.2) else .stuck := by
  unfold gComp
  cases it ρ with
  | ok a =>
    show (match loopC vs b gt v a.1 [] a.2 with | some (acc, ρ') => if ρ'.length = a.2.length then .ok (rL acc, unwipe vs a.2 ρ') else .stuck | none => .stuck) = oB (loopC vs b gt v a.1 [] a.2) _
    cases loopC vs b gt v a.1 [] a.2 <;> rfl
  | _ => rfl
theorem gJoin_def : gJoin va vb ρ = (va ρ).bind fun a => match a.1 with
  | .str _ => (vb a.2).bind fun b => lift (fJoin a.1 b.1) b.2
  | _ => .stuck := rfl
theorem wH : setR i (.old (.frz d)) ρ = some (ρ.set i (some (fz d))) := rfl
theorem wI : setR i (.new sv) ρ = some (ρ.set i (some sv)) := rfl
theorem wJ : mSeq m1 m2 ρ = (m1 ρ).seq m2 := by
  unfold mSeq Out.seq
  cases m1 ρ with
  | ok a =>
    obtain ⟨fl, ρ'⟩ := a
    cases fl <;> rfl
  | _ => rfl
theorem wK : mNop ρ = .ok (.nx, ρ) := rfl
theorem wM : mSet i g ρ = (g ρ).bind fun a => oB (setR i a.1 a.2) fun ρ' => .ok (.nx, ρ') := by
  unfold mSet
  cases g ρ with
  | ok a =>
    show (match setR i a.1 a.2 with | some ρ' => .ok (Fl.nx, ρ') | none => .stuck) = oB (setR i a.1 a.2) fun ρ' => .ok (Fl.nx, ρ')
    cases setR i a.1 a.2 <;> rfl
  | _ => rfl
theorem wN : mDrop g ρ = (g ρ).bind fun a => .ok (.nx, a.2) := rfl
theorem wO : mRet g ρ = (g ρ).bind fun a => .ok (.rt a.1, a.2) := rfl
theorem wQ : mRetN ρ = .ok (.rt (rD .none), ρ) := rfl
theorem mBk_def : mBk ρ = .ok (.bk, ρ) := rfl
theorem mCt_def : mCt ρ = .ok (.ct, ρ) := rfl
theorem mRetOwn_def : mRetOwn i ρ = oB ((ρ[i]?).join) fun sv => match sv with
  | .one (.frz d) => .ok (.rt (rD d), ρ)
  | sv => .ok (.rt (.new sv), ρ.set i none) := by
  unfold mRetOwn
  cases ρ[i]? with
  | none => rfl
  | some o =>
    cases o with
    | none => rfl
    | some sv =>
      cases sv with
      | one s => cases s <;> rfl
      | _ => rfl
theorem wS : mIf gt m1 m2 ρ = (gt ρ).bind fun c => if c.1 = true then m1 c.2 else m2 c.2 := rfl
theorem wT {b : PD → Env → Option Env} : mUnp b v ρ = (v ρ).bind fun a => oB (b a.1 a.2) fun ρ' => .ok (.nx, ρ') := by
  unfold mUnp
  cases v ρ with
  | ok a =>
    show (match b a.1 a.2 with | some ρ' => .ok (Fl.nx, ρ') | none => .stuck) = oB (b a.1 a.2) fun ρ' => .ok (Fl.nx, ρ')
    cases b a.1 a.2 <;> rfl
  | _ => rfl
theorem wU {it : Env → Out (List PD × Env)} {b : PD → Env → Option Env} : mFor it b m1 ρ = (it ρ).bind fun a => loopFor b m1 a.1 a.2 := rfl
theorem wV : mPut i va vb ρ = (va ρ).bind fun v => oB ((v.2[i]?).join) fun _ => (vb v.2).bind fun k => oB ((getS i k.2).bind fun s => s.put k.1 v.1) fun s => .ok (.nx, upSlot i s k.2) := by
  unfold mPut
  cases va ρ with
  | ok a =>
    show (match a.2[i]? with | some (some _) => _ | _ => _) = oB ((a.2[i]?).join) _
    cases a.2[i]? with
    | none => rfl
    | some o =>
      cases o with
      | none => rfl
      | some _ =>
        show ((vb a.2).bind fun k => match (getS i k.2).bind fun s => s.put k.1 a.1 with | some s => .ok (Fl.nx, upSlot i s k.2) | none => .stuck) = ((vb a.2).bind fun k => oB ((getS i k.2).bind fun s => s.put k.1 a.1) fun s => .ok (Fl.nx, upSlot i s k.2))
        congr 1
        funext k
        cases (getS i k.2).bind fun s => s.put k.1 a.1 <;> rfl
  | _ => rfl
theorem mAppend_def : mAppend i v ρ = oB (getS i ρ) fun s => match s with
  | .lst _ => (v ρ).bind fun a => oB (getS i a.2) fun s => match s with
    | .lst xs => if xs.length < sizeLine then .ok (.nx, upSlot i (.lst (xs ++ [a.1])) a.2) else .stuck
    | _ => .stuck
  | _ => .stuck := by
  unfold mAppend getS
  cases ρ[i]? with
  | none => rfl
  | some o =>
    cases o with
    | none => rfl
    | some sv =>
      cases sv with
      | one s =>
        cases s with
        | lst xs =>
          show ((v ρ).bind _) = ((v ρ).bind _)
          cases v ρ with
          | ok a =>
            show (match a.2[i]? with | some (some (.one (.lst xs))) => _ | _ => _) = oB (match a.2[i]? with | some (some (.one s)) => some s | _ => none) _
            cases a.2[i]? with
            | none => rfl
            | some o =>
              cases o with
              | none => rfl
              | some sv =>
                cases sv with
                | one s => cases s <;> rfl
                | _ => rfl
          | _ => rfl
        | _ => rfl
      | _ => rfl
theorem wW : bName i d ρ = some (ρ.set i (some (fz d))) := rfl
theorem wX {n : Nat} {bs : List PD → Env → Option Env} {ds : List PD} : bTup n bs (.tuple ds) ρ = if ds.length = n then bs ds ρ else none := rfl
theorem wY {b : PD → Env → Option Env} {bs : List PD → Env → Option Env} {ds : List PD} : bCons b bs (d :: ds) ρ = (b d ρ).bind (bs ds) := rfl
theorem wZ : bNil [] ρ = some ρ := rfl
def oneOut (S : List Nat) (j : Nat) (a : SV) (ρ : Env) : Option SV := match a with
  | .one (.frz d) => some (fz d)
  | _ => if S.contains j = true then (ρ[j]?).join else none
def outR (S : List Nat) (ρ : Env) : Nat → List SV → Env
  | _, [] => []
  | j, a :: as => oneOut S j a ρ :: outR S ρ (j + 1) as
theorem mapIdx_outs {S : List Nat} : ∀ (as : List SV) (j : Nat), (as.mapIdx fun i a => oneOut S (i + j) a ρ) = outR S ρ j as
  | [], _ => rfl
  | a :: as, j => by
    rw [List.mapIdx_cons]
    show oneOut S (0 + j) a ρ :: _ = oneOut S j a ρ :: outR S ρ (j + 1) as
    rw [Nat.zero_add, ← mapIdx_outs as (j + 1)]
    congr 1
    apply List.ext_getElem?
    intro n
    rw [List.getElem?_mapIdx, List.getElem?_mapIdx]
    cases as[n]? with
    | none => rfl
    | some b => show some (oneOut S (n + 1 + j) b ρ) = some (oneOut S (n + (j + 1)) b ρ); rw [Nat.add_assoc, Nat.add_comm 1 j]
theorem xa {S : List Nat} {as : List SV} : outsOf S as ρ = outR S ρ 0 as := by
  rw [← mapIdx_outs as 0]
  rfl
theorem xb {S : List Nat} : outR S ρ j [] = [] := rfl
theorem xc {S : List Nat} {as : List SV} : outR S ρ j (fz d :: as) = some (fz d) :: outR S ρ (j + 1) as := rfl
theorem xf {S : List Nat} {as : List SV} {xs : List PD} : outR S ρ j (.one (.lst xs) :: as) = (if S.contains j = true then (ρ[j]?).join else none) :: outR S ρ (j + 1) as := rfl
theorem xg {S : List Nat} {as : List SV} {xs : List (Key × PD)} : outR S ρ j (.one (.dK xs) :: as) = (if S.contains j = true then (ρ[j]?).join else none) :: outR S ρ (j + 1) as := rfl
theorem xh {S : List Nat} {as : List SV} {xs : List (List Key × PD)} : outR S ρ j (.one (.dT xs) :: as) = (if S.contains j = true then (ρ[j]?).join else none) :: outR S ρ (j + 1) as := rfl
def runK (S : List Nat) (as : List SV) (o : Out (Fl × Env)) : Out (Res × Env) := match o with
  | .ok (.rt r, ρ) => .ok (r, outsOf S as ρ)
  | .ok (.nx, ρ) => .ok (rD .none, outsOf S as ρ)
  | .ok _ => .stuck
  | .stuck => .stuck
  | .exc x ρ => .exc x (outsOf S as ρ)
theorem xi {S : List Nat} {n : Nat} {as : List SV} : runF S n m1 as = runK S as (m1 (as.map some ++ List.replicate (n - as.length) none)) := by
  unfold runF runK
  cases m1 (as.map some ++ List.replicate (n - as.length) none) with
  | ok a => obtain ⟨fl, ρ'⟩ := a; cases fl <;> rfl
  | _ => rfl
theorem xj {S : List Nat} {as : List SV} : runK S as (.ok (.rt r, ρ)) = .ok (r, outsOf S as ρ) := rfl
theorem xk {S : List Nat} {as : List SV} : runK S as (.ok (.nx, ρ)) = .ok (rD .none, outsOf S as ρ) := rfl
def putR (as : List AR) (outs : Env) : Nat → Env → Env
  | _, [] => []
  | i, x :: ρ => (match argIx i as with | some j => (outs[j]?).join | none => x) :: putR as outs (i + 1) ρ
theorem mapIdx_put {as : List AR} {outs : Env} : ∀ (ρ : Env) (j : Nat), (ρ.mapIdx fun i x => match argIx (i + j) as with | some k => (outs[k]?).join | none => x) = putR as outs j ρ
  | [], _ => rfl
  | x :: ρ, j => by
    rw [List.mapIdx_cons]
    show (match argIx (0 + j) as with | some k => (outs[k]?).join | none => x) :: _ = (match argIx j as with | some k => (outs[k]?).join | none => x) :: putR as outs (j + 1) ρ
    rw [Nat.zero_add, ← mapIdx_put ρ (j + 1)]
    congr 1
    apply List.ext_getElem?
    intro n
    rw [List.getElem?_mapIdx, List.getElem?_mapIdx]
    cases ρ[n]? with
    | none => rfl
    | some b =>
      show some (match argIx (n + 1 + j) as with | some k => (outs[k]?).join | none => b) = some (match argIx (n + (j + 1)) as with | some k => (outs[k]?).join | none => b)
      rw [Nat.add_assoc, Nat.add_comm 1 j]
theorem putOuts_def {as : List AR} {outs : Env} : putOuts as outs ρ = putR as outs 0 ρ := by
  rw [← mapIdx_put ρ 0]
  rfl
/-- a call whose only owned argument is slot i, the first -/
theorem put1_s {r : List AR} {o : Option SV} {os : Env} (h : ∀ k, argIx k r = none) : putOuts (.slot i :: r) (o :: os) ρ = ρ.mapIdx fun k x => if i = k then o else x := by
  unfold putOuts
  congr 1
  funext k x
  unfold argIx
  by_cases e : i = k
  · rw [if_pos e, if_pos e]; rfl
  · rw [if_neg e, if_neg e, h]; rfl
theorem mapIdx_set {o : Option SV} : (∀ (ρ : Env) (i : Nat), (ρ.mapIdx fun k x => if i = k then o else x) = ρ.set i o) := by
  intro ρ i
  apply List.ext_getElem?
  intro n
  rw [List.getElem?_mapIdx]
  by_cases e : i = n
  · subst e
    by_cases h : i < ρ.length
    · rw [List.getElem?_set_self h, List.getElem?_eq_getElem h]; simp
    · rw [List.getElem?_eq_none (by omega), List.getElem?_eq_none (by rw [List.length_set]; omega)]; rfl
  · rw [List.getElem?_set_ne e]
    cases ρ[n]? with
    | none => rfl
    | some b => simp [e]
theorem xS {o : Option SV} {os : Env} : putOuts [.slot i] (o :: os) ρ = ρ.set i o := by rw [put1_s (fun _ => rfl), mapIdx_set]
theorem xT {o : Option SV} {os : Env} : putOuts [.slot i, .val d] (o :: os) ρ = ρ.set i o := by rw [put1_s (fun _ => rfl), mapIdx_set]
theorem xU {o : Option SV} {os : Env} {d2 : PD} : putOuts [.slot i, .val d, .val d2] (o :: os) ρ = ρ.set i o := by rw [put1_s (fun _ => rfl), mapIdx_set]
theorem xV {o : Option SV} {os : Env} {d2 d3 : PD} : putOuts [.slot i, .val d, .val d2, .val d3] (o :: os) ρ = ρ.set i o := by rw [put1_s (fun _ => rfl), mapIdx_set]
def callK (as : List AR) (ρ : Env) (o : Out (Res × Env)) : Out (Res × Env) := match o with
  | .ok (r, outs) => .ok (r, putOuts as outs ρ)
  | .exc x outs => .exc x (putOuts as outs ρ)
  | .stuck => .stuck
theorem xl {φ : List SV → Out (Res × Env)} : gCall φ gas ρ = (gas ρ).bind fun a => oB (argSV a.1 a.2) fun as => if (slotsOf a.1).Nodup then callK a.1 a.2 (φ as) else .stuck := by
  unfold gCall
  cases gas ρ with
  | ok a =>
    show (match argSV a.1 a.2 with | some as => if (slotsOf a.1).Nodup then (match φ as with | .ok (r, outs) => .ok (r, putOuts a.1 outs a.2) | .exc x outs => .exc x (putOuts a.1 outs a.2) | .stuck => .stuck) else .stuck | none => .stuck) = oB (argSV a.1 a.2) fun as => if (slotsOf a.1).Nodup then callK a.1 a.2 (φ as) else .stuck
    cases argSV a.1 a.2 with
    | none => rfl
    | some as =>
      show (if (slotsOf a.1).Nodup then _ else _) = (if (slotsOf a.1).Nodup then callK a.1 a.2 (φ as) else .stuck)
      congr 1
  | _ => rfl
theorem xm {as : List AR} {outs : Env} : callK as ρ (.ok (r, outs)) = .ok (r, putOuts as outs ρ) := rfl
theorem xn : argSV [] ρ = some [] := rfl
theorem xo {r : List AR} : argSV (.val d :: r) ρ = (argSV r ρ).map (fz d :: ·) := rfl
theorem xq {r : List AR} : argSV (.slot i :: r) ρ = ((ρ[i]?).join).bind fun sv => (argSV r ρ).map (sv :: ·) := by
  show (match ρ[i]? with | some (some sv) => (argSV r ρ).map (sv :: ·) | _ => none) = _
  cases ρ[i]? with
  | none => rfl
  | some o => cases o <;> rfl
theorem xr : slotsOf [] = [] := rfl
theorem xt {r : List AR} : slotsOf (.val d :: r) = slotsOf r := rfl
theorem xu {r : List AR} : slotsOf (.slot i :: r) = i :: slotsOf r := rfl
theorem argIx_nil {k : Nat} : argIx k [] = none := rfl
theorem argIx_val {k : Nat} {r : List AR} : argIx k (.val d :: r) = (argIx k r).map (· + 1) := rfl
theorem xv : (some (some sv) : Option (Option SV)).join = some sv := rfl
theorem xx : [i].contains i = true := by simp
theorem xw : [i].Nodup := by simp
variable {n m : Int}
theorem xy : fAdd (.frz (.int n)) (.frz (.int m)) = some (rInt (n + m)) := rfl
theorem xz : fSub (.frz (.int n)) (.frz (.int m)) = some (rInt (n - m)) := rfl
theorem fMul_i (h : CMulW n m ∨ CMul n m) : fMul (.frz (.int n)) (.frz (.int m)) = some (rInt (n * m)) := by
  show (if CMulW n m ∨ CMul n m then some (rInt (n * m)) else none) = _
  rw [if_pos h]
theorem fMod_i (h : 0 < m) : fMod (.frz (.int n)) (.frz (.int m)) = some (rInt (n % m)) := by
  show (if 0 < m then some (rInt (n % m)) else none) = _
  rw [if_pos h]
theorem fDiv_i (h : CDivW n m) : fDiv (.frz (.int n)) (.frz (.int m)) = some (rInt (n / m)) := by
  show (if CDivW n m then some (rInt (n / m)) else none) = _
  rw [if_pos h]
theorem fPow_i (h : CPow n m) : fPow (.frz (.int n)) (.frz (.int m)) = some (rInt (n ^ m.toNat)) := by
  show (if CPow n m then some (rInt (n ^ m.toNat)) else none) = _
  rw [if_pos h]
theorem xA : fLt (.frz (.int n)) (.frz (.int m)) = some (rB (decide (n < m))) := rfl
theorem xB : fLe (.frz (.int n)) (.frz (.int m)) = some (rB (decide (n ≤ m))) := rfl
theorem xC : fGt (.frz (.int n)) (.frz (.int m)) = some (rB (decide (m < n))) := rfl
theorem xE : fGe (.frz (.int n)) (.frz (.int m)) = some (rB (decide (m ≤ n))) := rfl
theorem xG : fNeg (.frz (.int n)) = some (rInt (-n)) := rfl
theorem xH {xs : List PD} : fLen (.frz (.list xs)) = some (rInt (xs.length : Nat)) := rfl
theorem xI {xs : List PD} : fLen (.lst xs) = some (rInt (xs.length : Nat)) := rfl
theorem xJ {xs : List PD} : fLen (.frz (.tuple xs)) = some (rInt (xs.length : Nat)) := rfl
theorem xK {xs : List PD} : fIx (.lst xs) (.frz (.int n)) = (atI xs n).map rD := rfl
theorem xL {xs : List PD} : fIx (.frz (.list xs)) (.frz (.int n)) = (atI xs n).map rD := rfl
theorem xM {xs : List PD} : fIx (.frz (.tuple xs)) (.frz (.int n)) = (atI xs n).map rD := rfl
theorem xN {α : Type} {x : α} {xs : List α} : atI (x :: xs) 0 = some x := by
  unfold atI ixN
  simp
theorem xO {α : Type} {x y : α} {xs : List α} : atI (x :: y :: xs) 1 = some y := by
  unfold atI ixN
  rw [if_pos (by omega), if_pos (by simp only [List.length_cons]; omega)]
  rfl
theorem xP {α : Type} {x y z : α} {xs : List α} : atI (x :: y :: z :: xs) 2 = some z := by
  unfold atI ixN
  rw [if_pos (by omega), if_pos (by simp only [List.length_cons]; omega)]
  rfl
theorem atI_at {α : Type} {xs : List α} {i : Int} {j : Nat} {x : α} (h : i = (j : Int)) (hx : xs[j]? = some x) : atI xs i = some x := by
  subst h
  have hj := (List.getElem?_eq_some_iff.mp hx).1
  unfold atI ixN
  rw [if_pos (by omega), if_pos (by omega)]
  simpa using hx
theorem xQ {x y z : PD} : (S1.lst [x, y, z]).put (.int 1) d = some (.lst [x, d, z]) := rfl
theorem xR {x y z : PD} : (S1.lst [x, y, z]).put (.int 2) d = some (.lst [x, y, d]) := rfl
theorem xW {b : PD → Env → Option Env} : loopFor b m1 [] ρ = .ok (.nx, ρ) := rfl
theorem xY : (0 ≤ sizeLine) = True := eq_true (by decide)
theorem xZ : (1 ≤ sizeLine) = True := eq_true (by decide)
theorem y0 : (2 ≤ sizeLine) = True := eq_true (by decide)
theorem y1 : (3 ≤ sizeLine) = True := eq_true (by decide)
theorem y2 : (4 ≤ sizeLine) = True := eq_true (by decide)
theorem ya : (5 ≤ sizeLine) = True := eq_true (by decide)
theorem yb : (6 ≤ sizeLine) = True := eq_true (by decide)
theorem yc : (7 ≤ sizeLine) = True := eq_true (by decide)
theorem yd : (8 ≤ sizeLine) = True := eq_true (by decide)
theorem ye : (9 ≤ sizeLine) = True := eq_true (by decide)
theorem yf : (10 ≤ sizeLine) = True := eq_true (by decide)
theorem yg : (11 ≤ sizeLine) = True := eq_true (by decide)
theorem yh : (12 ≤ sizeLine) = True := eq_true (by decide)
theorem yi : (13 ≤ sizeLine) = True := eq_true (by decide)
theorem yj : (14 ≤ sizeLine) = True := eq_true (by decide)
theorem yk : (15 ≤ sizeLine) = True := eq_true (by decide)
theorem ym : (16 ≤ sizeLine) = True := eq_true (by decide)
theorem xX {o : Option SV} : List.replicate 0 o = [] := rfl
end
end Mm
namespace Mm
open PySem PySem.Spec L2
set_option autoImplicit false
def m_law_draw : Env → Out (Fl × Env) := (mSeq (mSet 2 (gVx (gPV (pVal (pK (.int 2305843009213693951)))))) (mSeq (mIf (gT (tB (p2 fLt (p2 fIx (pVar 0) (pK (.int 2))) (pVar 1)))) (mSeq (mSet 3 (gVx (gPV (pVal (pK (.int 0)))))) (mSeq (mIf (gT (tB (p2 fGt (pN (f1 fLen) (psCons (p2 fIx (pVar 0) (pK (.int 0))) psNil)) (pK (.int 0))))) (mSet 3 (gVx (gPV (pVal (p2 fIx (p2 fIx (pVar 0) (pK (.int 0))) (p2 fMod (p2 fIx (pVar 0) (pK (.int 1))) (pN (f1 fLen) (psCons (p2 fIx (pVar 0) (pK (.int 0))) psNil)))))))) mNop) (mSeq (mIf (gT (tOr (tB (p2 fGe (p2 fIx (pVar 0) (pK (.int 1))) (pN (f1 fLen) (psCons (p2 fIx (pVar 0) (pK (.int 0))) psNil)))) (tB (p2 fLt (pVar 3) (p2 fPow (pK (.int 10)) (pK (.int 18))))))) (mSeq (mSet 3 (gVx (gPV (pVal (p2 fMod (p2 fAdd (pVar 3) (p2 fMul (pK (.int 1000003)) (p2 fIx (pVar 0) (pK (.int 1))))) (pVar 2)))))) (mSeq (mSet 3 (gVx (gPV (pVal (p2 fMod (p2 fAdd (p2 fAdd (p2 fMul (pVar 3) (pVar 3)) (p2 fMul (pK (.int 1181783497276652981)) (pVar 3))) (pK (.int 2049848353892358983))) (pVar 2)))))) (mSet 3 (gVx (gPV (pVal (p2 fMod (p2 fAdd (p2 fMul (pVar 3) (pVar 3)) (pK (.int 1442695040888963407))) (pVar 2)))))))) mNop) (mSeq (mPut 0 (gPV (pVal (p2 fAdd (p2 fIx (pVar 0) (pK (.int 1))) (pK (.int 1))))) (gPV (pVal (pK (.int 1))))) (mPut 0 (gPV (pVal (pVar 3))) (gPV (pVal (pK (.int 2))))))))) mNop) (mSeq (mSet 4 (gVx (gPV (pVal (p2 fMod (p2 fIx (pVar 0) (pK (.int 2))) (pVar 1)))))) (mSeq (mPut 0 (gPV (pVal (p2 fDiv (p2 fIx (pVar 0) (pK (.int 2))) (pVar 1)))) (gPV (pVal (pK (.int 2))))) (mRet (gPx (pVar 4)))))))
def φ_law_draw : List SV → Out (Res × Env) := runF [0] 5 m_law_draw
def c1_law_name : Env → Out (Res × Env) := gComp [4] (gI (iA rng1 (vsCons (pVal (pVar 3)) vsNil))) (bName 4) tTrue (vGx (g2 fIx (gPV (pVal (pVar 2))) (vGx (gCall φ_law_draw (aSlot 0 (aVal (gPV (pVal (pK (.int 26)))) aNil))))))
def m_law_name : Env → Out (Fl × Env) := (mSeq (mSet 1 (gVx (vGx (gCall φ_law_draw (aSlot 0 (aVal (gPV (pVal (pK (.int 8)))) aNil)))))) (mSeq (mIf (gT (tB (p2 fLt (pVar 1) (pK (.int 6))))) (mRet (gPx (p2 fIx (pLst (vsCons (pVal (pK (.str "ann"))) (vsCons (pVal (pK (.str "bo"))) (vsCons (pVal (pK (.str "cy"))) (vsCons (pVal (pK (.str "dot"))) (vsCons (pVal (pK (.str "eve"))) (vsCons (pVal (pK (.str "fay"))) vsNil))))))) (pVar 1)))) mNop) (mSeq (mSet 2 (gVx (gPV (pVal (pK (.str "abcdefghijklmnopqrstuvwxyz")))))) (mSeq (mSet 3 (gVx (vGx (g2 fIx (gPV (pVal (pLst (vsCons (pVal (pK (.int 1))) (vsCons (pVal (pK (.int 2))) (vsCons (pVal (pK (.int 8))) vsNil)))))) (vGx (gCall φ_law_draw (aSlot 0 (aVal (gPV (pVal (pK (.int 3)))) aNil)))))))) (mRet (gJoin (gPV (pVal (pK (.str "")))) (vGx c1_law_name)))))))
def φ_law_name : List SV → Out (Res × Env) := runF [0] 5 m_law_name
def l1_law_names : Env → Out (Fl × Env) := (mPut 2 (gPV (pVal (pK (.bool true)))) (vGx (gCall φ_law_name (aSlot 0 aNil))))
def m_law_names : Env → Out (Fl × Env) := (mSeq (mSet 2 (gPx pDNewK)) (mSeq (mFor (gI (iA rng1 (vsCons (pVal (pVar 1)) vsNil))) (bName 3) l1_law_names) (mRet (gPx (pN (f1 fSorted) (psCons (pVar 2) psNil))))))
def φ_law_names : List SV → Out (Res × Env) := runF [0] 4 m_law_names
def m_is_whole : Env → Out (Fl × Env) := (mRet (gPx (pAnd (pIsi "int" (pVar 0)) (pNot (pIsi "bool" (pVar 0))))))
def φ_is_whole : List SV → Out (Res × Env) := runF [] 1 m_is_whole
def m_law_whole : Env → Out (Fl × Env) := (mRet (gPx (pAnd (pIsi "int" (pVar 0)) (pNot (pIsi "bool" (pVar 0))))))
def φ_law_whole : List SV → Out (Res × Env) := runF [] 1 m_law_whole
def c1_law_like (rec : List SV → Out (Res × Env)) : Env → Option Res := pComp [2] (iA rng1 (vsCons (pVal (pN (f1 fLen) (psCons (pVar 0) psNil))) vsNil)) (bName 2) (tNot (tB (pCall rec (vsCons (pVal (p2 fIx (pVar 0) (pVar 2))) (vsCons (pVal (p2 fIx (pVar 1) (pVar 2))) vsNil))))) (pVal (pVar 2))
def m_law_like (rec : List SV → Out (Res × Env)) : Env → Out (Fl × Env) := (mSeq (mIf (gT (tB (pIsi2 "list" "tuple" (pVar 0)))) (mSeq (mIf (gT (tOr (tB (p2 fNe (pIsi "list" (pVar 0)) (pIsi "list" (pVar 1)))) (tB (p2 fNe (pIsi "tuple" (pVar 0)) (pIsi "tuple" (pVar 1)))))) (mRet (gPx (pK (.bool false)))) mNop) (mSeq (mIf (gT (tB (p2 fNe (pN (f1 fLen) (psCons (pVar 0) psNil)) (pN (f1 fLen) (psCons (pVar 1) psNil))))) (mRet (gPx (pK (.bool false)))) mNop) (mRet (gPx (p2 fEq (c1_law_like rec) (pLst vsNil)))))) mNop) (mSeq (mIf (gT (tB (pIsi2 "list" "tuple" (pVar 1)))) (mRet (gPx (pK (.bool false)))) mNop) (mRet (gPx (pAnd (p2 fEq (pIsi "bool" (pVar 0)) (pIsi "bool" (pVar 1))) (p2 fEq (pVar 0) (pVar 1)))))))
def φ_law_like : Nat → List SV → Out (Res × Env)
  | 0 => fun _ => .stuck
  | n + 1 => runF [] 3 (m_law_like (φ_law_like n))
def nR_law_like : Nat := 12
def m_is_within : Env → Out (Fl × Env) := (mRet (gPx (pAnd (pCall φ_is_whole (vsCons (pVal (pVar 0)) vsNil)) (pChain fLe fLe (pVar 1) (pVar 0) (pVar 2)))))
def φ_is_within : List SV → Out (Res × Env) := runF [] 3 m_is_within
def c1_law_any (rec : List SV → Out (Res × Env)) : Env → Out (Res × Env) := gComp [4] (iRng1 (aVal (vGx (gCall φ_law_draw (aSlot 0 (aVal (gPV (pVal (pK (.int 4)))) aNil)))) aNil)) (bName 4) tTrue (vGx (gCall rec (aSlot 0 (aVal (gPV (pVal (p2 fSub (pVar 1) (pK (.int 1))))) aNil))))
def m_law_any (rec : List SV → Out (Res × Env)) : Env → Out (Fl × Env) := (mSeq (mSet 2 (gVx (vGx (gCall φ_law_draw (aSlot 0 (aVal (gPV (pVal (pK (.int 13)))) aNil)))))) (mSeq (mIf (gT (tAnd (tB (p2 fLt (pVar 2) (pK (.int 4)))) (tB (p2 fGt (pVar 1) (pK (.int 0)))))) (mSeq (mSet 3 (gFz (c1_law_any rec))) (mRet (gPx (p2 fIx (pLst (vsCons (pVal (pVar 3)) (vsCons (pVal (pN (f1 fTuple) (psCons (pVar 3) psNil))) (vsCons (pVal (pN (f1 fTuple) (psCons (pVar 3) psNil))) (vsCons (pVal (pN (f1 fTuple) (psCons (pVar 3) psNil))) vsNil))))) (pVar 2))))) mNop) (mSeq (mIf (gT (tB (p2 fLt (pVar 2) (pK (.int 8))))) (mRet (g2 fIx (vGx (gLst (aVal (vGx (g2 fSub (vGx (gCall φ_law_draw (aSlot 0 (aVal (gPV (pVal (pK (.int 9)))) aNil)))) (gPV (pVal (pK (.int 2)))))) (aVal (vGx (gCall φ_law_draw (aSlot 0 (aVal (gPV (pVal (p2 fPow (pK (.int 10)) (pK (.int 12))))) aNil)))) (aVal (gPV (pVal (pK (.int 0)))) (aVal (gPV (pVal (pK (.int 61)))) aNil)))))) (gPV (pVal (pN fMax2 (psCons (pK (.int 0)) (psCons (p2 fSub (pVar 2) (pK (.int 4))) psNil))))))) mNop) (mSeq (mSet 3 (gVx (gPV (pVal (pLst (vsCons (pVal (pK (.str ""))) (vsCons (pVal (pK (.str " "))) (vsCons (pVal (pK (.str "a"))) (vsCons (pVal (pK (.str "record"))) (vsCons (pVal (pK (.str "wish"))) (vsCons (pVal (pK (.str "shelf"))) (vsCons (pVal (pK (.str "day"))) (vsCons (pVal (pK (.str "ann"))) (vsCons (pVal (pK (.str "0"))) (vsCons (pVal (pK (.str "lend"))) (vsCons (pVal (pK (.str "give"))) (vsCons (pVal (pK (.str "A"))) (vsCons (pVal (pK (.str "stock"))) (vsCons (pVal (pK (.str "a\nb"))) (vsCons (pVal (pK (.str "back"))) vsNil)))))))))))))))))))) (mRet (g2 fIx (vGx (gLst (aVal (gPV (pVal (pK (.bool true)))) (aVal (gPV (pVal (pK (.bool false)))) (aVal (gPV (pVal (pK .none))) (aVal (vGx (g2 fIx (gPV (pVal (pVar 3))) (vGx (gCall φ_law_draw (aSlot 0 (aVal (gPV (pVal (pK (.int 15)))) aNil)))))) (aVal (gPV (pVal (pTup (vsCons (pVal (pK (.int 1))) (vsCons (pVal (pK (.int 2))) vsNil))))) aNil))))))) (gPV (pVal (p2 fSub (pVar 2) (pK (.int 8)))))))))))
def φ_law_any : Nat → List SV → Out (Res × Env)
  | 0 => fun _ => .stuck
  | n + 1 => runF [0] 5 (m_law_any (φ_law_any n))
def nR_law_any : Nat := 12
def m_law_spoilt (rec : List SV → Out (Res × Env)) : Env → Out (Fl × Env) := (mSeq (mIf (tAndM (gT (tB (pIsi2 "tuple" "list" (pVar 1)))) (tAndM (gT (tB (p2 fGt (pN (f1 fLen) (psCons (pVar 1) psNil)) (pK (.int 0))))) (fun ρ => tOf (g2 fGt (vGx (gCall φ_law_draw (aSlot 0 (aVal (gPV (pVal (pK (.int 7)))) aNil)))) (gPV (pVal (pK (.int 0)))) ρ)))) (mSeq (mSet 2 (gVx (vGx (gCall φ_law_draw (aSlot 0 (aVal (gPV (pVal (pN (f1 fLen) (psCons (pVar 1) psNil)))) aNil)))))) (mSeq (mSet 3 (gPx (pN (f1 fList) (psCons (pVar 1) psNil)))) (mSeq (mSet 4 (gVx (vGx (gCall φ_law_draw (aSlot 0 (aVal (gPV (pVal (pK (.int 12)))) aNil)))))) (mSeq (mIf (gT (tB (p2 fLt (pVar 4) (pK (.int 8))))) (mPut 3 (vGx (gCall rec (aSlot 0 (aVal (gPV (pVal (p2 fIx (pVar 3) (pVar 2)))) aNil)))) (gPV (pVal (pVar 2)))) (mIf (gT (tB (p2 fEq (pVar 4) (pK (.int 8))))) (mDrop (gPopAt 3 (gPV (pVal (pVar 2))))) (mIf (gT (tB (p2 fEq (pVar 4) (pK (.int 9))))) (mInsert 3 (gPV (pVal (pVar 2))) (vGx (gIxS 3 (vGx (gCall φ_law_draw (aSlot 0 (aVal (gPV (pVal (pN (f1 fLen) (psCons (pVar 3) psNil)))) aNil))))))) (mIf (gT (tB (p2 fEq (pVar 4) (pK (.int 10))))) (mSet 3 (gPx (p1 fRev (pVar 3)))) (mInsert 3 (gPV (pVal (pVar 2))) (vGx (gCall (φ_law_any nR_law_any) (aSlot 0 (aVal (gPV (pVal (pK (.int 1)))) aNil))))))))) (mIf (gT (tB (pIsi "tuple" (pVar 1)))) (mRet (gPx (pN (f1 fTuple) (psCons (pVar 3) psNil)))) (mRetOwn 3)))))) mNop) (mSeq (mIf (tAndM (gT (tB (pCall φ_law_whole (vsCons (pVal (pVar 1)) vsNil)))) (fun ρ => tOf (g2 fGt (vGx (gCall φ_law_draw (aSlot 0 (aVal (gPV (pVal (pK (.int 6)))) aNil)))) (gPV (pVal (pK (.int 0)))) ρ))) (mRet (g2 fAdd (gPV (pVal (pVar 1))) (vGx (g2 fIx (gPV (pVal (pLst (vsCons (pVal (pK (.int 1))) (vsCons (pVal (p1 fNeg (pK (.int 1)))) (vsCons (pVal (pK (.int 2))) (vsCons (pVal (p1 fNeg (pK (.int 2)))) (vsCons (pVal (pK (.int 9))) (vsCons (pVal (pK (.int 1000))) vsNil))))))))) (vGx (gCall φ_law_draw (aSlot 0 (aVal (gPV (pVal (pK (.int 6)))) aNil)))))))) mNop) (mSeq (mIf (tAndM (gT (tB (pIsi "str" (pVar 1)))) (fun ρ => tOf (g2 fGt (vGx (gCall φ_law_draw (aSlot 0 (aVal (gPV (pVal (pK (.int 3)))) aNil)))) (gPV (pVal (pK (.int 0)))) ρ))) (mSeq (mSet 5 (gVx (vGx (gCall φ_law_draw (aSlot 0 (aVal (gPV (pVal (p2 fAdd (pN (f1 fLen) (psCons (pVar 1) psNil)) (pK (.int 1))))) aNil)))))) (mRet (g2 fAdd (vGx (g2 fAdd (gPV (pVal (pCut (pVar 1) (fun _ => some none) (pInt (pVar 5))))) (vGx (g2 fIx (gPV (pVal (pLst (vsCons (pVal (pK (.str " "))) (vsCons (pVal (pK (.str "z"))) (vsCons (pVal (pK (.str "A"))) (vsCons (pVal (pK (.str "|"))) (vsCons (pVal (pK (.str "abcdefgh"))) (vsCons (pVal (pK (.str ""))) vsNil))))))))) (vGx (gCall φ_law_draw (aSlot 0 (aVal (gPV (pVal (pK (.int 6)))) aNil)))))))) (gPV (pVal (pCut (pVar 1) (pInt (pVar 5)) (fun _ => some none))))))) mNop) (mSeq (mIf (tAndM (gT (tB (pIsi2 "tuple" "list" (pVar 1)))) (fun ρ => tOf (g2 fEq (vGx (gCall φ_law_draw (aSlot 0 (aVal (gPV (pVal (pK (.int 2)))) aNil)))) (gPV (pVal (pK (.int 0)))) ρ))) (mRet (gPx (pIf (tB (pIsi "tuple" (pVar 1))) (pN (f1 fList) (psCons (pVar 1) psNil)) (pN (f1 fTuple) (psCons (pVar 1) psNil))))) mNop) (mRet (gCall (φ_law_any nR_law_any) (aSlot 0 (aVal (gPV (pVal (pK (.int 2)))) aNil))))))))
def φ_law_spoilt : Nat → List SV → Out (Res × Env)
  | 0 => fun _ => .stuck
  | n + 1 => runF [0] 6 (m_law_spoilt (φ_law_spoilt n))
def nR_law_spoilt : Nat := 12
def c1_lots_of : Env → Option Res := pComp [3] (iP (pVar 1)) (bName 3) tYesP (pVal (p2 fAdd (pVar 3) (pTup (vsCons (pVal (pVar 2)) vsNil))))
def l2_lots_of : Env → Out (Fl × Env) := (mSet 1 (gVx (gPV (pVal (p2 fAdd (pVar 1) c1_lots_of)))))
def m_lots_of : Env → Out (Fl × Env) := (mSeq (mSet 1 (gVx (gPV (pVal (pLst (vsCons (pVal (pTup vsNil)) vsNil)))))) (mSeq (mFor (iSq (gPV (pVal (pVar 0)))) (bName 2) l2_lots_of) (mRet (gPx (pVar 1)))))
def φ_lots_of : List SV → Out (Res × Env) := runF [] 4 m_lots_of
def l1_paid_in : Env → Out (Fl × Env) := (mSeq (mAug 3 (fun i j => i + j) (gPV (pVal (p2 fIx (pVar 0) (pVar 4))))) (mIf (gT (tB (p2 fGt (pVar 3) (pK (.int 0))))) (mAppend 2 (gPV (pVal (pTup (vsCons (pVal (pVar 5)) (vsCons (pVal (pVar 4)) (vsCons (pVal (pVar 3)) vsNil))))))) (mIf (gT (tB (p2 fLt (pVar 3) (pK (.int 0))))) (mAppend 2 (gPV (pVal (pTup (vsCons (pVal (pVar 4)) (vsCons (pVal (pVar 5)) (vsCons (pVal (p1 fNeg (pVar 3))) vsNil))))))) mNop)))
def m_paid_in : Env → Out (Fl × Env) := (mSeq (mSet 2 (gPx (pLst vsNil))) (mSeq (mSet 3 (gVx (gPV (pVal (pK (.int 0)))))) (mSeq (mFor (gI (iZV (vsCons (pVal (pVar 1)) (vsCons (pVal (pCut (pVar 1) (pInt (pK (.int 1))) (fun _ => some none))) vsNil)))) (bTup 2 (bCons (bName 4) (bCons (bName 5) bNil))) l1_paid_in) (mRetOwn 2))))
def φ_paid_in : List SV → Out (Res × Env) := runF [0] 6 m_paid_in
def c1_law_fewest : Env → Option Res := pComp [6] (iA rng1 (vsCons (pVal (pVar 2)) vsNil)) (bName 6) (tB (p2 fEq (p2 fAnd (p2 fShr (pVar 4) (pVar 6)) (pK (.int 1))) (pK (.int 1)))) (pVal (p2 fIx (pVar 0) (pVar 6)))
def c2_law_fewest : Env → Option Res := pComp [4] (iA rng1 (vsCons (pVal (p2 fShl (pK (.int 1)) (pVar 2))) vsNil)) (bName 4) tYesP (pVal (pN (f1 fSum) (psCons c1_law_fewest psNil)))
def c3_law_fewest : Env → Option Res := pComp [6] (iA rng1 (vsCons (pVal (pVar 2)) vsNil)) (bName 6) (tB (p2 fEq (p2 fAnd (p2 fShr (pVar 4) (pVar 6)) (pK (.int 1))) (pK (.int 1)))) (pVal (p2 fIx (pVar 1) (p2 fSub (pVar 4) (p2 fShl (pK (.int 1)) (pVar 6)))))
def l4_law_fewest : Env → Out (Fl × Env) := (mSeq (mSet 5 (gFz (gPx c3_law_fewest))) (mPut 1 (gPV (pVal (p2 fAdd (pN (f1 fMax) (psCons (pVar 5) psNil)) (pN (f1 fInt) (psCons (p2 fEq (p2 fIx (pVar 3) (pVar 4)) (pK (.int 0))) psNil))))) (gPV (pVal (pVar 4)))))
def m_law_fewest : Env → Out (Fl × Env) := (mSeq (mSet 1 (gPx (pDisp (qCons (pVal (pK (.int 0))) (pVal (pK (.int 0))) qNil)))) (mSeq (mSet 2 (gVx (gPV (pVal (pN (f1 fLen) (psCons (pVar 0) psNil)))))) (mSeq (mSet 3 (gFz (gPx c2_law_fewest))) (mSeq (mFor (gI (iA rng2 (vsCons (pVal (pK (.int 1))) (vsCons (pVal (p2 fShl (pK (.int 1)) (pVar 2))) vsNil)))) (bName 4) l4_law_fewest) (mRet (gPx (p2 fSub (pVar 2) (p2 fIx (pVar 1) (p2 fSub (p2 fShl (pK (.int 1)) (pVar 2)) (pK (.int 1)))))))))))
def φ_law_fewest : List SV → Out (Res × Env) := runF [] 7 m_law_fewest
def c1_most_lots (rec : List SV → Out (Res × Env)) : Env → Option Res := pComp [7] (iP (pVar 5)) (bName 7) tYesP (pVal (p2 fIx (pVar 0) (pVar 7)))
def c2_most_lots (rec : List SV → Out (Res × Env)) : Env → Option Res := pComp [7] (iP (pVar 1)) (bName 7) (tB (p2 (fIn true) (pVar 7) (pVar 5))) (pVal (pVar 7))
def l3_most_lots (rec : List SV → Out (Res × Env)) : Env → Out (Fl × Env) := (mSeq (mSet 5 (gVx (gPV (pVal (p2 fAdd (pTup (vsCons (pVal (p2 fIx (pVar 1) (pK (.int 0)))) vsNil)) (pVar 4)))))) (mIf (gT (tB (p2 fEq (pN (f1 fSum) (psCons (c1_most_lots rec) psNil)) (pK (.int 0))))) (mSeq (mSet 6 (gVx (vGx (gCall rec (aSlot 0 (aVal (gPV (pVal (pN (f1 fTuple) (psCons (c2_most_lots rec) psNil)))) (aSlot 2 aNil))))))) (mIf (gT (tB (p2 fGt (p2 fAdd (pN (f1 fLen) (psCons (pVar 6) psNil)) (pK (.int 1))) (pN (f1 fLen) (psCons (pVar 3) psNil))))) (mSet 3 (gVx (gPV (pVal (p2 fAdd (pLst (vsCons (pVal (pVar 5)) vsNil)) (pVar 6)))))) mNop)) mNop))
def m_most_lots (rec : List SV → Out (Res × Env)) : Env → Out (Fl × Env) := (mSeq (mIf (gT (tB (p2 fEq (pVar 1) (pTup vsNil)))) (mRet (gPx (pLst vsNil))) mNop) (mSeq (mIf (gT (tB (p2 (fIn true) (pVar 1) (pVar 2)))) (mSeq (mSet 3 (gVx (gPV (pVal (pLst vsNil))))) (mSeq (mFor (iSq (gPV (pVal (pCall φ_lots_of (vsCons (pVal (pCut (pVar 1) (pInt (pK (.int 1))) (fun _ => some none))) vsNil))))) (bName 4) (l3_most_lots rec)) (mPut 2 (gPV (pVal (pVar 3))) (gPV (pVal (pVar 1)))))) mNop) (mRet (gPx (p2 fIx (pVar 2) (pVar 1))))))
def φ_most_lots : Nat → List SV → Out (Res × Env)
  | 0 => fun _ => .stuck
  | n + 1 => runF [0, 2] 8 (m_most_lots (φ_most_lots n))
def nR_most_lots : Nat := 12
def l1_law_settles : Env → Out (Fl × Env) := (mSeq (mIf (gT (tOr (tNot (tB (pIsi "tuple" (pVar 3)))) (tOr (tB (p2 fNe (pN (f1 fLen) (psCons (pVar 3) psNil)) (pK (.int 3)))) (tOr (tNot (tB (pCall φ_law_whole (vsCons (pVal (p2 fIx (pVar 3) (pK (.int 2)))) vsNil)))) (tB (p2 fLt (p2 fIx (pVar 3) (pK (.int 2))) (pK (.int 1)))))))) (mRet (gPx (pK (.bool false)))) mNop) (mSeq (mIf (gT (tOr (tNot (tB (pIsi "str" (p2 fIx (pVar 3) (pK (.int 0)))))) (tOr (tNot (tB (pIsi "str" (p2 fIx (pVar 3) (pK (.int 1)))))) (tOr (tB (p2 (fIn true) (p2 fIx (pVar 3) (pK (.int 0))) (pVar 2))) (tB (p2 (fIn true) (p2 fIx (pVar 3) (pK (.int 1))) (pVar 2))))))) (mRet (gPx (pK (.bool false)))) mNop) (mSeq (mIf (gT (tB (p2 fEq (p2 fIx (pVar 3) (pK (.int 0))) (p2 fIx (pVar 3) (pK (.int 1)))))) (mRet (gPx (pK (.bool false)))) mNop) (mSeq (mPut 2 (gPV (pVal (p2 fAdd (p2 fIx (pVar 2) (p2 fIx (pVar 3) (pK (.int 0)))) (p2 fIx (pVar 3) (pK (.int 2)))))) (gPV (pVal (p2 fIx (pVar 3) (pK (.int 0)))))) (mPut 2 (gPV (pVal (p2 fSub (p2 fIx (pVar 2) (p2 fIx (pVar 3) (pK (.int 1)))) (p2 fIx (pVar 3) (pK (.int 2)))))) (gPV (pVal (p2 fIx (pVar 3) (pK (.int 1))))))))))
def c2_law_settles : Env → Option Res := pCompD 2 [4] (bName 4) (tB (p2 fNe (pIxL 2 (pVal (pVar 4))) (pK (.int 0)))) (pVal (pVar 4))
def m_law_settles : Env → Out (Fl × Env) := (mSeq (mSet 2 (gPx (pDictP (pVarP 0)))) (mSeq (mIf (gT (tNot (tB (pIsi "list" (pVar 1))))) (mRet (gPx (pK (.bool false)))) mNop) (mSeq (mFor (iSq (gPV (pVal (pVar 1)))) (bName 3) l1_law_settles) (mRet (gPx (p2 fEq c2_law_settles (pLst vsNil)))))))
def φ_law_settles : List SV → Out (Res × Env) := runF [] 5 m_law_settles
def c1_is_payment : Env → Option Res := pComp [2] (iP (pCut (pVar 1) (fun _ => some none) (pInt (pK (.int 2))))) (bName 2) tYesP (pVal (pAnd (pIsi "str" (pVar 2)) (p2 (fIn false) (pVar 2) (pVar 0))))
def m_is_payment : Env → Out (Fl × Env) := (mSeq (mIf (gT (tOr (tNot (tB (pIsi "tuple" (pVar 1)))) (tOr (tB (p2 fNe (pN (f1 fLen) (psCons (pVar 1) psNil)) (pK (.int 3)))) (tNot (tB (pCall φ_is_within (vsCons (pVal (p2 fIx (pVar 1) (pK (.int 2)))) (vsCons (pVal (pK (.int 1))) (vsCons (pVal (p2 fPow (pK (.int 10)) (pK (.int 12)))) vsNil))))))))) (mRet (gPx (pK (.bool false)))) mNop) (mRet (gPx (pAnd (pN (f1 fAll) (psCons c1_is_payment psNil)) (p2 fNe (p2 fIx (pVar 1) (pK (.int 0))) (p2 fIx (pVar 1) (pK (.int 1))))))))
def φ_is_payment : List SV → Out (Res × Env) := runF [0] 3 m_is_payment
def c1_settles : Env → Out (Res × Env) := gComp [6] (iSq (gPV (pVal (pVar 1)))) (bName 6) tTrue (vGx (gCall φ_is_payment (aSlot 2 (aVal (gPV (pVal (pVar 6))) aNil))))
def l2_settles : Env → Out (Fl × Env) := (mSeq (mAugD 2 (fun i j => i + j) (pVal (pVar 3)) (pVal (pVar 5))) (mAugD 2 (fun i j => i - j) (pVal (pVar 4)) (pVal (pVar 5))))
def c3_settles : Env → Option Res := pCompV 2 [5] (bName 5) tYesP (pVal (p2 fEq (pVar 5) (pK (.int 0))))
def m_settles : Env → Out (Fl × Env) := (mSeq (mSet 2 (gPx (pDictP (pVarP 0)))) (mSeq (mIf (tOrM (gT (tNot (tB (pIsi "list" (pVar 1))))) (tNotM (fun ρ => tOf ((gN (f1 fAll) (aVal (vGx c1_settles) aNil)) ρ)))) (mRet (gPx (pK (.bool false)))) mNop) (mSeq (mFor (iSq (gPV (pVal (pVar 1)))) (bTup 3 (bCons (bName 3) (bCons (bName 4) (bCons (bName 5) bNil)))) l2_settles) (mRet (gPx (pN (f1 fAll) (psCons c3_settles psNil)))))))
def φ_settles : List SV → Out (Res × Env) := runF [] 7 m_settles
def c1_law_accounts : Env → Out (Res × Env) := gComp [4] (iSq (gPV (pVal (pVar 2)))) (bName 4) tTrue (vGx (g2 fIx (vGx (gLst (aVal (gPV (pVal (pK (.int 0)))) (aVal (gPV (pVal (pK (.int 1)))) (aVal (gPV (pVal (p1 fNeg (pK (.int 1))))) (aVal (gPV (pVal (pK (.int 2)))) (aVal (gPV (pVal (p1 fNeg (pK (.int 2))))) (aVal (vGx (g2 fSub (vGx (gCall φ_law_draw (aSlot 0 (aVal (gPV (pVal (pK (.int 40)))) aNil)))) (gPV (pVal (pK (.int 20)))))) aNil)))))))) (vGx (gCall φ_law_draw (aSlot 0 (aVal (gPV (pVal (pK (.int 6)))) aNil))))))
def c2_law_accounts : Env → Option Res := pComp [4, 5] (iZ (psCons (pVar 2) (psCons (pVar 3) psNil))) (bTup 2 (bCons (bName 4) (bCons (bName 5) bNil))) tYesP (pVal (pTup (vsCons (pVal (pVar 4)) (vsCons (pVal (pVar 5)) vsNil))))
def m_law_accounts : Env → Out (Fl × Env) := (mSeq (mSet 2 (gVx (vGx (gCall φ_law_names (aSlot 0 (aVal (vGx (g2 fAdd (gPV (pVal (pK (.int 1)))) (vGx (gCall φ_law_draw (aSlot 0 (aVal (gPV (pVal (pVar 1))) aNil)))))) aNil)))))) (mSeq (mSet 3 c1_law_accounts) (mSeq (mPut 3 (gPV (pVal (p2 fSub (pK (.int 0)) (pN (f1 fSum) (psCons (pCut (pVar 3) (fun _ => some none) (pInt (p1 fNeg (pK (.int 1))))) psNil))))) (gPV (pVal (p1 fNeg (pK (.int 1)))))) (mRet (gPx (pN (f1 fTupleP) (psCons c2_law_accounts psNil)))))))
def φ_law_accounts : List SV → Out (Res × Env) := runF [0] 6 m_law_accounts
def c1_payments : Env → Option Res := pComp [3, 4] (iPP (pVarP 0)) (bTup 2 (bCons (bName 3) (bCons (bName 4) bNil))) (tB (p2 fNe (pVar 4) (pK (.int 0)))) (pVal (pVar 3))
def c2_payments : Env → Out (Res × Env) := gComp2 [5, 6] (iSq (vGx (gCallN (φ_most_lots nR_most_lots) (aSlot 1 (aVal (gPV (pVal (pVar 2))) aNil))))) (bName 5) tTrue (iSq (vGx (gCall φ_paid_in (aSlot 1 (aVal (gPV (pVal (pVar 5))) aNil))))) [6] (bName 6) tTrue (gPV (pVal (pVar 6)))
def m_payments : Env → Out (Fl × Env) := (mSeq (mSet 1 (gPx (pDictP (pVarP 0)))) (mSeq (mSet 2 (gVx (gPV (pVal (pN (f1 fTuple) (psCons c1_payments psNil)))))) (mRet c2_payments)))
def φ_payments : List SV → Out (Res × Env) := runF [] 7 m_payments
def c1_law_k07 : Env → Option Res := pComp [11] (iPP (pVarP 3)) (bName 11) tYesP (pVal (p2 fIx (pVar 11) (pK (.int 0))))
def c2_law_k07 : Env → Option Res := pComp [11] (iP (pVar 4)) (bName 11) tYesP (pVal (pTup (vsCons (pVal (p2 fIx (pVar 11) (pK (.int 1)))) (vsCons (pVal (p2 fIx (pVar 11) (pK (.int 0)))) (vsCons (pVal (p2 fIx (pVar 11) (pK (.int 2)))) vsNil)))))
def c3_law_k07 : Env → Option Res := pComp [11] (iP (pVar 4)) (bName 11) tYesP (pVal (p2 fAdd (pCut (pVar 11) (fun _ => some none) (pInt (pK (.int 2)))) (pTup (vsCons (pVal (pK (.int 0))) vsNil))))
def c4_law_k07 : Env → Out (Res × Env) := gComp [12] (gI (iA rng1 (vsCons (pVal (pK (.int 8))) vsNil))) (bName 12) tTrue (vGx (gCall (φ_law_spoilt nR_law_spoilt) (aSlot 1 (aVal (gPV (pVal (pVar 4))) aNil))))
def l5_law_k07 : Env → Out (Fl × Env) := (mIf (tNotM (fun ρ => tOf ((gCall (φ_law_like nR_law_like) (aVal (vGx (gCall φ_settles (aPt (pVarP 3) (aVal (gPV (pVal (pVar 10))) aNil)))) (aVal (vGx (gCall φ_law_settles (aPt (pVarP 3) (aVal (gPV (pVal (pVar 10))) aNil)))) aNil))) ρ))) (mRet (gPx (pK (.bool false)))) mNop)
def l6_law_k07 : Env → Out (Fl × Env) := (mSeq (mSet 3 (gCall φ_law_accounts (aSlot 1 (aVal (gPV (pVal (pK (.int 5)))) aNil)))) (mSeq (mSet 4 (gVx (vGx (gCall φ_payments (aPt (pVarP 3) aNil))))) (mSeq (mSet 5 (gFz (gPx c1_law_k07))) (mSeq (mPar 6 7 (vGx (g2 fIx (gPV (pVal (pVar 5))) (vGx (gCall φ_law_draw (aSlot 1 (aVal (gPV (pVal (pN (f1 fLen) (psCons (pVar 5) psNil)))) aNil)))))) (vGx (g2 fIx (gPV (pVal (pVar 5))) (vGx (gCall φ_law_draw (aSlot 1 (aVal (gPV (pVal (pN (f1 fLen) (psCons (pVar 5) psNil)))) aNil))))))) (mSeq (mSet 8 (gFz (gPx c2_law_k07))) (mSeq (mSet 9 (gVx (gPV (pVal (pLst (vsCons (pVal (pVar 4)) (vsCons (pVal (p1 fRev (pVar 4))) (vsCons (pVal (pVar 8)) (vsCons (pVal (pCut (pVar 4) (pInt (pK (.int 1))) (fun _ => some none))) (vsCons (pVal (p2 fAdd (pVar 4) (pLst (vsCons (pVal (pTup (vsCons (pVal (pVar 6)) (vsCons (pVal (pVar 7)) (vsCons (pVal (pK (.int 3))) vsNil))))) (vsCons (pVal (pTup (vsCons (pVal (pVar 7)) (vsCons (pVal (pVar 6)) (vsCons (pVal (pK (.int 3))) vsNil))))) vsNil))))) (vsCons (pVal (pN (f1 fTuple) (psCons (pVar 4) psNil))) (vsCons (pVal (pLst vsNil)) vsNil)))))))))))) (mSeq (mSet 9 (gVx (vGx (g2 fAdd (gPV (pVal (pVar 9))) (vGx (gLst (aVal (gPV (pVal c3_law_k07)) (aVal (vGx (gCall (φ_law_any nR_law_any) (aSlot 1 (aVal (gPV (pVal (pK (.int 2)))) aNil)))) (aVal (gPV (pVal (p2 fAdd (pVar 4) (pLst (vsCons (pVal (pTup (vsCons (pVal (pK (.str "nobody"))) (vsCons (pVal (pVar 6)) (vsCons (pVal (pK (.int 1))) vsNil))))) vsNil))))) aNil))))))))) (mSeq (mSet 9 (gVx (vGx (g2 fAdd (gPV (pVal (pVar 9))) (vGx c4_law_k07))))) (mFor (iSq (gPV (pVal (pVar 9)))) (bName 10) l5_law_k07)))))))))
def m_law_k07 : Env → Out (Fl × Env) := (mSeq (mFor (gI (iA rng1 (vsCons (pVal (pK (.int 4))) vsNil))) (bName 2) l6_law_k07) (mRet (gPx (pK (.bool true)))))
def c6_law_k16 : Env → Option Res := pComp [20] (iP (pVar 4)) (bName 20) (tB (p2 fNe (pVar 20) (pVar 16))) (pVal (pVar 20))
def c9_law_k16 : Env → Option Res := pComp [22, 13] (iP (pVar 4)) (bTup 2 (bCons (bName 22) (bCons (bName 13) bNil))) tYesP (pVal (pN (f1 fTuple) (psCons (pN (f1 fSorted) (psCons (pLst (vsCons (pVal (p2 fIx (pVar 17) (p2 fSub (pVar 22) (pK (.int 1))))) (vsCons (pVal (p2 fIx (pVar 17) (p2 fSub (pVar 13) (pK (.int 1))))) vsNil))) psNil)) psNil)))
end Mm
namespace Mm
open PySem PySem.Spec L2
set_option autoImplicit false
/-- the tape of drawn numbers -/
def Tp (s : SV) : Prop := ∃ (ns : List Int) (i : Nat) (c : Int), 0 ≤ c ∧ ns.length ≤ 63 ∧ s = .one (.lst [.list (ns.map .int), .int i, .int c])
theorem cm_a (x : Int) : CMulW 1000003 x ∨ CMul 1000003 x := .inr (.inl ⟨by decide, by decide⟩)
theorem cm_b (x : Int) : CMulW 1181783497276652981 x ∨ CMul 1181783497276652981 x := .inr (.inl ⟨by decide, by decide⟩)
theorem cm_c (x y : Int) : CMulW (x % 2305843009213693951) y ∨ CMul (x % 2305843009213693951) y := .inr (.inl ⟨by omega, by omega⟩)
theorem cp_a : CPow 10 18 := ⟨by decide, by decide, by decide⟩
theorem pr_pos : (0 : Int) < 2305843009213693951 := by decide
theorem ixlist {ns : List Int} {k : Int} (h0 : 0 ≤ k) (h1 : k < ns.length) : ∃ v, (atI (ns.map PyData.int) k) = some (.int v) := by
  obtain ⟨j, rfl⟩ := Int.eq_ofNat_of_zero_le h0
  have hj : j < ns.length := by omega
  exact ⟨ns[j], atI_at rfl (by rw [List.getElem?_map, List.getElem?_eq_getElem hj]; rfl)⟩
theorem draw_ok {s : SV} (h : Tp s) {m : Int} (h0 : 0 < m) (h1 : m.natAbs.log2 < 9000) : ∃ r s', φ_law_draw [s, fzI m] = .ok (rInt r, [some s', some (fzI m)]) ∧ 0 ≤ r ∧ r < m ∧ Tp s' := by
  obtain ⟨ns, i, c, hc, hn, rfl⟩ := h
  have hdv : ∀ x, CDivW x m := fun x => ⟨h0, h1⟩
  -- behind the first part: the third cell
  have fin : ∀ (i' : Nat) (c' : Int), 0 ≤ c' → Tp (.one (.lst [.list (ns.map .int), .int i', .int (c' / m)])) := fun i' c' hc' => ⟨ns, i', _, Int.ediv_nonneg hc' (by omega), hn, rfl⟩
  unfold φ_law_draw m_law_draw
  by_cases hcm : c < m
  · -- a cell of the script, if there is one
    have cell : ∃ v, (if 0 < (((ns.map PyData.int).length : Nat) : Int) then (((oB (((fMod (S1.frz (PyData.int i)) (S1.frz (PyData.int ((ns.map PyData.int).length : Nat)))).bind fun rb => rb.s1.bind fun t => fIx (S1.frz (PyData.list (ns.map PyData.int))) t).bind Res.pv) fun d =>
        Out.ok (d, ([some (SV.one (S1.lst [PyData.list (ns.map PyData.int), PyData.int i, PyData.int c])), some (fzI m), some (fz (PyData.int 2305843009213693951)), some (fz (PyData.int 0)), none] : Env))).bind fun a => Out.ok (rD a.fst, a.snd)).bind fun a => oB (setR 3 a.fst a.snd) fun ρ' => Out.ok (Fl.nx, ρ'))
        else Out.ok (Fl.nx, ([some (SV.one (S1.lst [PyData.list (ns.map PyData.int), PyData.int i, PyData.int c])), some (fzI m), some (fz (PyData.int 2305843009213693951)), some (fz (PyData.int 0)), none] : Env)))
        = .ok (Fl.nx, ([some (SV.one (S1.lst [PyData.list (ns.map PyData.int), PyData.int i, PyData.int c])), some (fzI m), some (fz (PyData.int 2305843009213693951)), some (fzI v), none] : Env)) := by
      by_cases hl : 0 < (((ns.map PyData.int).length : Nat) : Int)
      · obtain ⟨v, hv⟩ := ixlist (ns := ns) (k := (i : Int) % (((ns.map PyData.int).length : Nat) : Int)) (Int.emod_nonneg _ (by omega)) (by have := Int.emod_lt_of_pos (i : Int) hl; simpa using this)
        exact ⟨v, by rw [if_pos hl, fMod_i hl]; simp only [hv, q0, q4, q6, q7, q8, q9, qf, qj, qm, qn, qp, qu, qw, qx, qy, qz, qA, qB, qC, qD, qE, qF, qG, qH, qI, qJ, qK, qL, qM, qN, qO, qP, qQ, qR, qS, qT, qU, qV, qW, qX, qY, qZ, w6, w7, wa, wb, wc, wd, we, wg, wh, wj, wl, wm, wn, wo, wp, wq, wr, wt, wu, wv, ww, wx, wy, wz, wA, wB, wC, wD, wE, wF, wG, wH, wI, wJ, wK, wM, wN, wO, wQ, wS, wT, wU, wV, wW, wX, wY, wZ, xa, xb, xc, xf, xg, xh, xi, xj, xk, xl, xm, xn, xo, xq, xr, xt, xu, xv, xw, xx, xy, xz, xA, xB, xC, xE, xG, xH, xI, xJ, xK, xL, xM, xN, xO, xP, xQ, xR, xS, xT, xU, xV, xW, List.map_cons, List.map_nil, List.length_cons, List.length_nil, List.cons_append, List.nil_append, List.set_cons_zero, List.set_cons_succ, List.getElem?_cons_zero, List.getElem?_cons_succ, Option.bind_some, Option.map_some, List.replicate_succ, xX, xY, xZ, y0, y1, y2, ya, yb, yc, yd, ye, yf, yg, yh, yi, yj, yk, ym, Nat.reduceSub, Nat.reduceAdd, if_true, if_false, decide_eq_true_eq]⟩
      · exact ⟨0, by rw [if_neg hl]⟩
    obtain ⟨v, hv⟩ := cell
    simp only [q0, q4, q6, q7, q8, q9, qf, qj, qm, qn, qp, qu, qw, qx, qy, qz, qA, qB, qC, qD, qE, qF, qG, qH, qI, qJ, qK, qL, qM, qN, qO, qP, qQ, qR, qS, qT, qU, qV, qW, qX, qY, qZ, w6, w7, wa, wb, wc, wd, we, wg, wh, wj, wl, wm, wn, wo, wp, wq, wr, wt, wu, wv, ww, wx, wy, wz, wA, wB, wC, wD, wE, wF, wG, wH, wI, wJ, wK, wM, wN, wO, wQ, wS, wT, wU, wV, wW, wX, wY, wZ, xa, xb, xc, xf, xg, xh, xi, xj, xk, xl, xm, xn, xo, xq, xr, xt, xu, xv, xw, xx, xy, xz, xA, xB, xC, xE, xG, xH, xI, xJ, xK, xL, xM, xN, xO, xP, xQ, xR, xS, xT, xU, xV, xW, List.map_cons, List.map_nil, List.length_cons, List.length_nil, List.cons_append, List.nil_append, List.set_cons_zero, List.set_cons_succ, List.getElem?_cons_zero, List.getElem?_cons_succ, Option.bind_some, Option.map_some, List.replicate_succ, xX, xY, xZ, y0, y1, y2, ya, yb, yc, yd, ye, yf, yg, yh, yi, yj, yk, ym, Nat.reduceSub, Nat.reduceAdd, if_true, if_false, decide_eq_true_eq, if_pos hcm, hv, fPow_i cp_a, cm_a, cm_b, cm_c, fMul_i, fMod_i pr_pos, fMod_i h0, fDiv_i (hdv _)]
    obtain ⟨b, hb, hbf⟩ : ∃ b, (if (((ns.map PyData.int).length : Nat) : Int) ≤ (i : Int) then some true else some (decide (v < 10 ^ Int.toNat 18))) = some b ∧ (b = false → 0 ≤ v) := by
      by_cases hl : (((ns.map PyData.int).length : Nat) : Int) ≤ (i : Int)
      · exact ⟨true, if_pos hl, fun z => nomatch z⟩
      · refine ⟨_, if_neg hl, fun z => ?_⟩
        have hz := of_decide_eq_false z
        have h18 : (10 : Int) ^ Int.toNat 18 = 1000000000000000000 := by decide
        omega
    rw [hb]
    cases b with
    | false =>
      simp only [q0, q4, q6, q7, q8, q9, qf, qj, qm, qn, qp, qu, qw, qx, qy, qz, qA, qB, qC, qD, qE, qF, qG, qH, qI, qJ, qK, qL, qM, qN, qO, qP, qQ, qR, qS, qT, qU, qV, qW, qX, qY, qZ, w6, w7, wa, wb, wc, wd, we, wg, wh, wj, wl, wm, wn, wo, wp, wq, wr, wt, wu, wv, ww, wx, wy, wz, wA, wB, wC, wD, wE, wF, wG, wH, wI, wJ, wK, wM, wN, wO, wQ, wS, wT, wU, wV, wW, wX, wY, wZ, xa, xb, xc, xf, xg, xh, xi, xj, xk, xl, xm, xn, xo, xq, xr, xt, xu, xv, xw, xx, xy, xz, xA, xB, xC, xE, xG, xH, xI, xJ, xK, xL, xM, xN, xO, xP, xQ, xR, xS, xT, xU, xV, xW, List.map_cons, List.map_nil, List.length_cons, List.length_nil, List.cons_append, List.nil_append, List.set_cons_zero, List.set_cons_succ, List.getElem?_cons_zero, List.getElem?_cons_succ, Option.bind_some, Option.map_some, List.replicate_succ, xX, xY, xZ, y0, y1, y2, ya, yb, yc, yd, ye, yf, yg, yh, yi, yj, yk, ym, Nat.reduceSub, Nat.reduceAdd, if_true, if_false, decide_eq_true_eq, Bool.false_eq_true, fMod_i h0, fDiv_i (hdv _)]
      exact ⟨_, _, rfl, Int.emod_nonneg _ (by omega), Int.emod_lt_of_pos _ h0, fin (i + 1) v (hbf rfl)⟩
    | true =>
      simp only [q0, q4, q6, q7, q8, q9, qf, qj, qm, qn, qp, qu, qw, qx, qy, qz, qA, qB, qC, qD, qE, qF, qG, qH, qI, qJ, qK, qL, qM, qN, qO, qP, qQ, qR, qS, qT, qU, qV, qW, qX, qY, qZ, w6, w7, wa, wb, wc, wd, we, wg, wh, wj, wl, wm, wn, wo, wp, wq, wr, wt, wu, wv, ww, wx, wy, wz, wA, wB, wC, wD, wE, wF, wG, wH, wI, wJ, wK, wM, wN, wO, wQ, wS, wT, wU, wV, wW, wX, wY, wZ, xa, xb, xc, xf, xg, xh, xi, xj, xk, xl, xm, xn, xo, xq, xr, xt, xu, xv, xw, xx, xy, xz, xA, xB, xC, xE, xG, xH, xI, xJ, xK, xL, xM, xN, xO, xP, xQ, xR, xS, xT, xU, xV, xW, List.map_cons, List.map_nil, List.length_cons, List.length_nil, List.cons_append, List.nil_append, List.set_cons_zero, List.set_cons_succ, List.getElem?_cons_zero, List.getElem?_cons_succ, Option.bind_some, Option.map_some, List.replicate_succ, xX, xY, xZ, y0, y1, y2, ya, yb, yc, yd, ye, yf, yg, yh, yi, yj, yk, ym, Nat.reduceSub, Nat.reduceAdd, if_true, if_false, decide_eq_true_eq, fPow_i cp_a, cm_a, cm_b, cm_c, fMul_i, fMod_i pr_pos, fMod_i h0, fDiv_i (hdv _)]
      exact ⟨_, _, rfl, Int.emod_nonneg _ (by omega), Int.emod_lt_of_pos _ h0, fin (i + 1) _ (Int.emod_nonneg _ (by omega))⟩
  · simp only [q0, q4, q6, q7, q8, q9, qf, qj, qm, qn, qp, qu, qw, qx, qy, qz, qA, qB, qC, qD, qE, qF, qG, qH, qI, qJ, qK, qL, qM, qN, qO, qP, qQ, qR, qS, qT, qU, qV, qW, qX, qY, qZ, w6, w7, wa, wb, wc, wd, we, wg, wh, wj, wl, wm, wn, wo, wp, wq, wr, wt, wu, wv, ww, wx, wy, wz, wA, wB, wC, wD, wE, wF, wG, wH, wI, wJ, wK, wM, wN, wO, wQ, wS, wT, wU, wV, wW, wX, wY, wZ, xa, xb, xc, xf, xg, xh, xi, xj, xk, xl, xm, xn, xo, xq, xr, xt, xu, xv, xw, xx, xy, xz, xA, xB, xC, xE, xG, xH, xI, xJ, xK, xL, xM, xN, xO, xP, xQ, xR, xS, xT, xU, xV, xW, List.map_cons, List.map_nil, List.length_cons, List.length_nil, List.cons_append, List.nil_append, List.set_cons_zero, List.set_cons_succ, List.getElem?_cons_zero, List.getElem?_cons_succ, Option.bind_some, Option.map_some, List.replicate_succ, xX, xY, xZ, y0, y1, y2, ya, yb, yc, yd, ye, yf, yg, yh, yi, yj, yk, ym, Nat.reduceSub, Nat.reduceAdd, if_true, if_false, decide_eq_true_eq, if_neg hcm, fMod_i h0, fDiv_i (hdv _)]
    exact ⟨_, _, rfl, Int.emod_nonneg _ (by omega), Int.emod_lt_of_pos _ h0, fin i c hc⟩
end Mm
namespace Mm
open PySem PySem.Spec L2
set_option autoImplicit false
abbrev fzS (x : Str) : SV := fz (.str x)
section
variable {a b c h t : Str} {F : List (Key × PD)} {d v : PD} {xs : List PD}
theorem eqv_s : PyData.eqv (.str a) (.str b) = decide (a = b) := by
  simp only [PyData.eqv]
  exact PySem.W.beq_decide a b
theorem eqv_i {i j : Int} : PyData.eqv (.int i) (.int j) = decide (i = j) := by
  simp only [PyData.eqv]
  exact PySem.W.beq_decide i j
theorem fEq_s : fEq (.frz (.str a)) (.frz (.str b)) = some (rB (decide (a = b))) := by
  show (if eqOk (.str a) (.str b) = true then some (rB (Bool.xor false (PyData.eqv (.str a) (.str b)))) else none) = _
  rw [if_pos (by rfl), eqv_s, Bool.false_xor]
theorem fNe_s : fNe (.frz (.str a)) (.frz (.str b)) = some (rB (!decide (a = b))) := by
  show (if eqOk (.str a) (.str b) = true then some (rB (Bool.xor true (PyData.eqv (.str a) (.str b)))) else none) = _
  rw [if_pos (by rfl), eqv_s, Bool.true_xor]
theorem fEq_i {i j : Int} : fEq (.frz (.int i)) (.frz (.int j)) = some (rB (decide (i = j))) := by
  show (if eqOk (.int i) (.int j) = true then some (rB (Bool.xor false (PyData.eqv (.int i) (.int j)))) else none) = _
  rw [if_pos (by rfl), eqv_i, Bool.false_xor]
theorem fNe_i {i j : Int} : fNe (.frz (.int i)) (.frz (.int j)) = some (rB (!decide (i = j))) := by
  show (if eqOk (.int i) (.int j) = true then some (rB (Bool.xor true (PyData.eqv (.int i) (.int j)))) else none) = _
  rw [if_pos (by rfl), eqv_i, Bool.true_xor]
theorem fIx_dK : fIx (.dK F) (.frz (.str t)) = (valD F (.inr t)).map rD := rfl
theorem put_dK (hF : F.length < sizeLine) : (S1.dK F).put (.str t) v = some (.dK (putD F (.inr t) v)) := by
  show (if F.length < sizeLine then some (S1.dK (putD F (.inr t) v)) else none) = _
  rw [if_pos hF]
theorem look_dK : (S1.dK F).look (.str t) = some (valD F (.inr t)) := rfl
theorem eqv_nil : PyData.eqv (.list xs) (.list []) = xs.isEmpty := by
  cases xs with
  | nil => simp [PyData.eqv, PyData.eqvAll]
  | cons x xs => simp [PyData.eqv, PyData.eqvAll]
theorem fNe_nil (hp : PyData.plainAll xs = true) : fNe (.lst xs) (.lst []) = some (rB (!xs.isEmpty)) := by
  show (if eqOk (.list xs) (.list []) = true then some (rB (Bool.xor true (PyData.eqv (.list xs) (.list [])))) else none) = _
  rw [if_pos (by
    unfold eqOk
    rw [Bool.and_eq_true, Bool.and_eq_true, decide_eq_true_eq]
    refine ⟨by simpa [PyData.plain] using hp, rfl, ?_⟩
    have : (PyData.list []).depth ≤ 60 := by decide
    omega), eqv_nil, Bool.true_xor]
theorem valD_put {κ : Type} [DecidableEq κ] {F : List (κ × PD)} {k k' : κ} {d : PD} : valD (putD F k d) k' = if k = k' then some d else valD F k' := by
  unfold valD putD
  by_cases hk : (F.any fun kv => decide (kv.1 = k)) = true
  · rw [if_pos hk]
    induction F with
    | nil => cases hk
    | cons kv F ih =>
      obtain ⟨k0, d0⟩ := kv
      by_cases h0 : k0 = k
      · subst h0
        by_cases h1 : k0 = k'
        · simp [h1]
        · by_cases hF : (F.any fun kv => decide (kv.1 = k0)) = true
          · have := ih hF
            rw [if_neg h1] at this ⊢
            simp only [List.map_cons, if_true, List.find?_cons, h1, decide_false]
            exact this
          · have hm : (F.map fun kv => if kv.1 = k0 then (kv.1, d) else kv) = F := by
              conv => rhs; rw [← List.map_id F]
              apply List.map_congr_left
              intro kv hkv
              rw [if_neg (fun e => hF (List.any_eq_true.mpr ⟨kv, hkv, by simpa using e⟩))]
              rfl
            rw [if_neg h1]
            simp only [List.map_cons, if_true, List.find?_cons, h1, decide_false, hm]
      · have hF : (F.any fun kv => decide (kv.1 = k)) = true := by simpa [h0] using hk
        have := ih hF
        by_cases h1 : k0 = k'
        · subst h1
          rw [if_neg (fun e => h0 e.symm)]
          simp only [List.map_cons, if_neg h0, List.find?_cons, decide_true, Option.map_some]
        · simp only [List.map_cons, h0, if_false, List.find?_cons, h1, decide_false]
          exact this
  · rw [if_neg hk]
    rw [List.find?_append]
    by_cases h1 : k = k'
    · subst h1
      rw [if_pos rfl]
      have : F.find? (fun kv => decide (kv.1 = k)) = none := by
        rw [List.find?_eq_none]
        intro kv hkv e
        exact hk (List.any_eq_true.mpr ⟨kv, hkv, e⟩)
      rw [this]
      simp
    · rw [if_neg h1]
      cases F.find? (fun kv => decide (kv.1 = k')) <;> simp [h1]
theorem plain_strs : ∀ xs : List Str, PyData.plainAll (xs.map PyData.str) = true
  | [] => rfl
  | x :: xs => by
    rw [List.map_cons, PyData.plainAll, plain_strs xs]; rfl
theorem len_le {α : Type} {xs : List α} {n : Nat} (h : xs.length = n) (hn : n ≤ 1000) : xs.length ≤ sizeLine := by
  rw [h]; exact Nat.le_trans hn (by decide)
end
end Mm
namespace Mm
open PySem PySem.Spec L2
set_option autoImplicit false
abbrev Road := Str × Str × Nat
abbrev Fm := Str → Option Nat
def names (R : List Road) (s : Str) : List Str := s :: R.flatMap fun r => [r.1, r.2.1]
def cnt (f : Fm) (N : List Str) : Nat := N.countP fun x => (f x).isSome
end Mm
namespace Mm
open PySem PySem.Spec L2
set_option autoImplicit false
theorem cutD_1 (xs : List PD) : cutD xs (some 1) none = xs.drop 1 := by
  unfold cutD
  rw [show HT.sIx xs.length 0 (some 1) = min 1 xs.length from HT.sIx_nat xs.length 0 1, HT.sIx_none]
  cases xs with
  | nil => rfl
  | cons x r =>
    rw [show min 1 (x :: r).length = 1 by rw [List.length_cons]; omega]
    show List.take ((x :: r).length - 1) r = r
    rw [List.length_cons, Nat.add_sub_cancel]
    exact List.take_length
end Mm
namespace Mm
open PySem PySem.Spec L2
set_option autoImplicit false
def wR (vs : List Nat) : Nat → Env → Env
  | _, [] => []
  | j, x :: ρ => (if vs.contains j = true then none else x) :: wR vs (j + 1) ρ
theorem wR_idx {vs : List Nat} : ∀ (ρ : Env) (j : Nat), (ρ.mapIdx fun i x => if vs.contains (i + j) = true then none else x) = wR vs j ρ
  | [], _ => rfl
  | x :: ρ, j => by
    rw [List.mapIdx_cons]
    show (if vs.contains (0 + j) = true then none else x) :: _ = (if vs.contains j = true then none else x) :: wR vs (j + 1) ρ
    rw [Nat.zero_add, ← wR_idx ρ (j + 1)]
    congr 1
    apply List.ext_getElem?
    intro n
    rw [List.getElem?_mapIdx, List.getElem?_mapIdx]
    cases ρ[n]? with
    | none => rfl
    | some b => show some (if vs.contains (n + 1 + j) = true then none else b) = some (if vs.contains (n + (j + 1)) = true then none else b); rw [Nat.add_assoc, Nat.add_comm 1 j]
theorem wipeE_def {vs : List Nat} {ρ : Env} : wipeE ρ vs = wR vs 0 ρ := wR_idx ρ 0
theorem for_inv {b : PD → Env → Option Env} {g : Env → Out (Fl × Env)} (Inv : Env → Prop) : ∀ (xs : List PD), (∀ x ∈ xs, ∀ ρ, Inv ρ → ∃ ρ1 ρ', b x ρ = some ρ1 ∧ g ρ1 = .ok (.nx, ρ') ∧ Inv ρ') → ∀ ρ, Inv ρ → ∃ ρ', loopFor b g xs ρ = .ok (.nx, ρ') ∧ Inv ρ'
  | [], _, ρ, hi => ⟨ρ, rfl, hi⟩
  | x :: xs, h, ρ, hi => by
    obtain ⟨ρ1, ρ2, h1, h2, h3⟩ := h x List.mem_cons_self ρ hi
    obtain ⟨ρ', h4, h5⟩ := for_inv Inv xs (fun y hy => h y (List.mem_cons_of_mem _ hy)) ρ2 h3
    refine ⟨ρ', ?_, h5⟩
    unfold loopFor
    rw [h1]
    show (match g ρ1 with | .ok (.nx, ρ') => _ | .ok (.ct, ρ') => _ | .ok (.bk, ρ') => _ | o => o) = _
    rw [h2]
    exact h4
inductive All2 {α β : Type} (P : α → β → Prop) : List α → List β → Prop
  | nil : All2 P [] []
  | cons {a : α} {b : β} {as : List α} {bs : List β} : P a b → All2 P as bs → All2 P (a :: as) (b :: bs)
theorem All2.length {α β : Type} {P : α → β → Prop} : ∀ {as : List α} {bs : List β}, All2 P as bs → as.length = bs.length
  | _, _, .nil => rfl
  | _, _, .cons _ r => congrArg (· + 1) r.length
theorem All2.right {α β : Type} {P : α → β → Prop} : ∀ {as : List α} {bs : List β}, All2 P as bs → ∀ b ∈ bs, ∃ a ∈ as, P a b
  | _, _, .nil, b, h => by cases h
  | _, _, .cons p r, b, h => by
    rcases List.mem_cons.mp h with e | h
    · exact ⟨_, List.mem_cons_self, by rw [e]; exact p⟩
    · obtain ⟨a, ha, q⟩ := r.right b h
      exact ⟨a, List.mem_cons_of_mem _ ha, q⟩
/-- the right ones are the images of things of which more is told -/
theorem All2.lift {α β γ : Type} {P : α → β → Prop} {Q : α → γ → Prop} {f : γ → β} (h : ∀ a b, P a b → ∃ c, b = f c ∧ Q a c) : ∀ {as : List α} {bs : List β}, All2 P as bs → ∃ cs : List γ, bs = cs.map f ∧ All2 Q as cs
  | _, _, .nil => ⟨[], rfl, .nil⟩
  | _, _, .cons p r => by
    obtain ⟨c, e, q⟩ := h _ _ p
    obtain ⟨cs, e2, q2⟩ := All2.lift h r
    exact ⟨c :: cs, by rw [e, e2]; rfl, .cons q q2⟩
/-- a comprehension that changes something -/
theorem loopC_inv {vs : List Nat} {b : PD → Env → Option Env} {t : Env → Out (Bool × Env)} {g : Env → Out (PD × Env)} (Inv : Env → Prop) (P : PD → PD → Prop) : ∀ (xs acc : List PD), acc.length + xs.length ≤ sizeLine →
    (∀ x ∈ xs, ∀ ρ, Inv ρ → ∃ ρ1 c ρ2, b x (wR vs 0 ρ) = some ρ1 ∧ t ρ1 = .ok (c, ρ2) ∧ (c = false → Inv ρ2) ∧ (c = true → ∃ d ρ3, g ρ2 = .ok (d, ρ3) ∧ P x d ∧ Inv ρ3)) → ∀ ρ, Inv ρ →
    ∃ ys ds ρ', loopC vs b t g xs acc ρ = some (acc ++ ds, ρ') ∧ ys.Sublist xs ∧ All2 P ys ds ∧ Inv ρ'
  | [], acc, _, _, ρ, hi => ⟨[], [], ρ, by rw [List.append_nil]; rfl, List.Sublist.slnil, .nil, hi⟩
  | x :: xs, acc, hz, h, ρ, hi => by
    obtain ⟨ρ1, c, ρ2, h1, h2, h3, h4⟩ := h x List.mem_cons_self ρ hi
    rw [List.length_cons] at hz
    unfold loopC
    rw [wipeE_def, h1, Option.bind_some]
    cases c with
    | false =>
      obtain ⟨ys, ds, ρ', k1, k2, k3, k4⟩ := loopC_inv Inv P xs acc (by omega) (fun y hy => h y (List.mem_cons_of_mem _ hy)) ρ2 (h3 rfl)
      refine ⟨ys, ds, ρ', ?_, k2.cons x, k3, k4⟩
      rw [h2]
      exact k1
    | true =>
      obtain ⟨d, ρ3, g1, g2, g3⟩ := h4 rfl
      obtain ⟨ys, ds, ρ', k1, k2, k3, k4⟩ := loopC_inv Inv P xs (acc ++ [d]) (by simp; omega) (fun y hy => h y (List.mem_cons_of_mem _ hy)) ρ3 g3
      refine ⟨x :: ys, d :: ds, ρ', ?_, k2.cons₂ x, .cons g2 k3, k4⟩
      rw [h2]
      show (match g ρ2 with | .ok (d, ρ3) => if acc.length < sizeLine then loopC vs b t g xs (acc ++ [d]) ρ3 else none | _ => none) = _
      rw [g1]
      show (if acc.length < sizeLine then loopC vs b t g xs (acc ++ [d]) ρ3 else none) = _
      rw [if_pos (by omega), k1, List.append_assoc]
      rfl
/-- .. with no tests -/
theorem loopC_all {vs : List Nat} {b : PD → Env → Option Env} {g : Env → Out (PD × Env)} (Inv : Env → Prop) (P : PD → PD → Prop) : ∀ (xs acc : List PD), acc.length + xs.length ≤ sizeLine →
    (∀ x ∈ xs, ∀ ρ, Inv ρ → ∃ ρ1 d ρ3, b x (wR vs 0 ρ) = some ρ1 ∧ g ρ1 = .ok (d, ρ3) ∧ P x d ∧ Inv ρ3) → ∀ ρ, Inv ρ →
    ∃ ds ρ', loopC vs b tTrue g xs acc ρ = some (acc ++ ds, ρ') ∧ All2 P xs ds ∧ Inv ρ'
  | [], acc, _, _, ρ, hi => ⟨[], ρ, by rw [List.append_nil]; rfl, .nil, hi⟩
  | x :: xs, acc, hz, h, ρ, hi => by
    obtain ⟨ρ1, d, ρ3, h1, g1, g2, g3⟩ := h x List.mem_cons_self ρ hi
    rw [List.length_cons] at hz
    obtain ⟨ds, ρ', k1, k3, k4⟩ := loopC_all Inv P xs (acc ++ [d]) (by simp; omega) (fun y hy => h y (List.mem_cons_of_mem _ hy)) ρ3 g3
    refine ⟨d :: ds, ρ', ?_, .cons g2 k3, k4⟩
    unfold loopC
    rw [wipeE_def, h1, Option.bind_some]
    show (match g ρ1 with | .ok (d, ρ3) => if acc.length < sizeLine then loopC vs b tTrue g xs (acc ++ [d]) ρ3 else none | _ => none) = _
    rw [g1]
    show (if acc.length < sizeLine then loopC vs b tTrue g xs (acc ++ [d]) ρ3 else none) = _
    rw [if_pos (by omega), k1, List.append_assoc]
    rfl
/-- a comprehension that changes nothing: its items -/
def compD {α : Type} (t : α → Bool) (g : α → PD) (xs : List α) : List PD := (xs.filter t).map g
theorem loopP_ok {α : Type} {vs : List Nat} {b : PD → Env → Option Env} {t : Env → Option Bool} {g : Env → Option PD} {ρ : Env} {enc : α → PD} {tt : α → Bool} {gg : α → PD} : ∀ (xs : List α), (∀ x ∈ xs, ∃ ρ1, b (enc x) (wR vs 0 ρ) = some ρ1 ∧ t ρ1 = some (tt x) ∧ (tt x = true → g ρ1 = some (gg x))) → loopP vs b t g ρ (xs.map enc) = some (compD tt gg xs)
  | [], _ => rfl
  | x :: xs, h => by
    obtain ⟨ρ1, h1, h2, h3⟩ := h x List.mem_cons_self
    have ih := loopP_ok (vs := vs) (b := b) (t := t) (g := g) (ρ := ρ) (enc := enc) (tt := tt) (gg := gg) xs fun y hy => h y (List.mem_cons_of_mem _ hy)
    rw [List.map_cons]
    unfold loopP
    rw [wipeE_def, h1, Option.bind_some, h2, Option.bind_some]
    unfold compD at ih ⊢
    cases e : tt x with
    | false => rw [if_neg Bool.false_ne_true, ih, List.filter_cons_of_neg (by simp [e])]
    | true => rw [if_pos rfl, h3 e, Option.bind_some, ih, List.filter_cons_of_pos (by simp [e])]; rfl
end Mm
namespace Mm
open PySem PySem.Spec L2
set_option autoImplicit false
theorem log2_small {m : Int} (h0 : 0 ≤ m) (h : m < 2 ^ 9000) : m.natAbs.log2 < 9000 := by
  by_cases e : m.natAbs = 0
  · rw [e]; decide
  · rw [Nat.log2_lt e]; omega
theorem rng1_i {n : Int} (h0 : -(2 ^ 62) ≤ n) (h1 : n < 2 ^ 62) : rng1 [.int n] = some (rngD 0 n.toNat) := by
  show (if -(2 ^ 62) ≤ n ∧ n < 2 ^ 62 then some (rngD 0 n.toNat) else none) = _
  rw [if_pos ⟨h0, h1⟩]
theorem ix3 {a b c : PD} {r : Int} (h0 : 0 ≤ r) (h1 : r < 3) : ∃ d, atI [a, b, c] r = some d ∧ (d = a ∨ d = b ∨ d = c) := by
  obtain rfl | rfl | rfl : r = 0 ∨ r = 1 ∨ r = 2 := by omega
  · exact ⟨a, xN, .inl rfl⟩
  · exact ⟨b, xO, .inr (.inl rfl)⟩
  · exact ⟨c, xP, .inr (.inr rfl)⟩
theorem ixs {ds : List PD} {r : Int} (h0 : 0 ≤ r) (h1 : r < ds.length) : ∃ d ∈ ds, atI ds r = some d := by
  obtain ⟨j, rfl⟩ := Int.eq_ofNat_of_zero_le h0
  have hj : j < ds.length := by omega
  exact ⟨ds[j], List.getElem_mem hj, atI_at rfl (List.getElem?_eq_getElem hj)⟩
def abc : Str := "abcdefghijklmnopqrstuvwxyz"
theorem fIx_s {z : Str} {i : Int} (h : z.length ≤ sizeLine) : fIx (.frz (.str z)) (.frz (.int i)) = (atI z.cps.toList i).map fun c => rS ⟨#[c]⟩ := by
  show (if z.length ≤ sizeLine then (atI z.cps.toList i).map fun c => rS ⟨#[c]⟩ else none) = _
  rw [if_pos h]
theorem strsOf_map : ∀ xs : List Str, strsOf (xs.map PyData.str) = some xs
  | [] => rfl
  | x :: xs => by
    show (strsOf (xs.map PyData.str)).map (x :: ·) = _
    rw [strsOf_map xs]; rfl
theorem rngD_len (lo : Int) (n : Nat) : (rngD lo n).length = n := by unfold rngD; simp
theorem All2.strs {P : PD → PD → Prop} (h : ∀ a b, P a b → ∃ x : Str, b = .str x ∧ x.length = 1) : ∀ {as bs : List PD}, All2 P as bs → ∃ xs : List Str, bs = xs.map PyData.str ∧ (xs.map (·.length)).sum = xs.length ∧ xs.length = as.length
  | _, _, .nil => ⟨[], rfl, rfl, rfl⟩
  | _, _, .cons p r => by
    obtain ⟨x, e, q⟩ := h _ _ p
    obtain ⟨xs, e2, q2, q3⟩ := All2.strs h r
    exact ⟨x :: xs, by rw [e, e2]; rfl, by rw [List.map_cons, List.sum_cons, q, q2, List.length_cons]; omega, by rw [List.length_cons, List.length_cons, q3]⟩
theorem outR_tp {S : List Nat} {ρ : Env} {j : Nat} {s : SV} {as : List SV} (h : Tp s) : outR S ρ j (s :: as) = (if S.contains j = true then (ρ[j]?).join else none) :: outR S ρ (j + 1) as := by
  obtain ⟨ns, i, c, _, _, rfl⟩ := h
  rfl
theorem name_ok {s : SV} (h : Tp s) : ∃ (x : Str) (s' : SV), φ_law_name [s] = .ok (rS x, [some s']) ∧ Tp s' ∧ x.length ≤ 8 := by
  obtain ⟨r, s1, e1, h0, h1, t1⟩ := draw_ok h (m := 8) (by decide) (by decide)
  unfold φ_law_name m_law_name
  by_cases hr : r < 6
  · obtain ⟨d, hd, hx⟩ := ixs (ds := [.str "ann", .str "bo", .str "cy", .str "dot", .str "eve", .str "fay"]) h0 hr
    obtain ⟨x, rfl, hx8⟩ : ∃ x : Str, d = .str x ∧ x.length ≤ 8 := by
      simp only [List.mem_cons, List.not_mem_nil, or_false] at hd
      rcases hd with e | e | e | e | e | e <;> exact ⟨_, e, by decide⟩
    refine ⟨x, s1, ?_, t1, hx8⟩
    simp only [q0, q4, q6, q7, q8, q9, qf, qj, qm, qn, qp, qu, qw, qx, qy, qz, qA, qB, qC, qD, qE, qF, qG, qH, qI, qJ, qK, qL, qM, qN, qO, qP, qQ, qR, qS, qT, qU, qV, qW, qX, qY, qZ, w6, w7, wa, wb, wc, wd, we, wg, wh, wj, wl, wm, wn, wo, wp, wq, wr, wt, wu, wv, ww, wx, wy, wz, wA, wB, wC, wD, wE, wF, wG, wH, wI, wJ, wK, wM, wN, wO, wQ, wS, wT, wU, wV, wW, wX, wY, wZ, xa, xb, xc, xf, xg, xh, xi, xj, xk, xl, xm, xn, xo, xq, xr, xt, xu, xv, xw, xx, xy, xz, xA, xB, xC, xE, xG, xH, xI, xJ, xK, xL, xM, xN, xO, xP, xQ, xR, xS, xT, xU, xV, xW, List.map_cons, List.map_nil, List.length_cons, List.length_nil, List.cons_append, List.nil_append, List.set_cons_zero, List.set_cons_succ, List.getElem?_cons_zero, List.getElem?_cons_succ, Option.bind_some, Option.map_some, List.replicate_succ, xX, xY, xZ, y0, y1, y2, ya, yb, yc, yd, ye, yf, yg, yh, yi, yj, yk, ym, Nat.reduceSub, Nat.reduceAdd, if_true, if_false, decide_eq_true_eq, e1, hr, hx, outR_tp h]
  · obtain ⟨r2, s2, e2, h2, h3, t2⟩ := draw_ok t1 (m := 3) (by decide) (by decide)
    obtain ⟨d, hd, hm⟩ := ix3 (a := .int 1) (b := .int 2) (c := .int 8) h2 h3
    obtain ⟨n, rfl, hn0, hn1⟩ : ∃ n : Int, d = .int n ∧ 0 ≤ n ∧ n < 9 := by
      rcases hm with e | e | e <;> exact ⟨_, e, by decide, by decide⟩
    simp only [q0, q4, q6, q7, q8, q9, qf, qj, qm, qn, qp, qu, qw, qx, qy, qz, qA, qB, qC, qD, qE, qF, qG, qH, qI, qJ, qK, qL, qM, qN, qO, qP, qQ, qR, qS, qT, qU, qV, qW, qX, qY, qZ, w6, w7, wa, wb, wc, wd, we, wg, wh, wj, wl, wm, wn, wo, wp, wq, wr, wt, wu, wv, ww, wx, wy, wz, wA, wB, wC, wD, wE, wF, wG, wH, wI, wJ, wK, wM, wN, wO, wQ, wS, wT, wU, wV, wW, wX, wY, wZ, xa, xb, xc, xf, xg, xh, xi, xj, xk, xl, xm, xn, xo, xq, xr, xt, xu, xv, xw, xx, xy, xz, xA, xB, xC, xE, xG, xH, xI, xJ, xK, xL, xM, xN, xO, xP, xQ, xR, xS, xT, xU, xV, xW, List.map_cons, List.map_nil, List.length_cons, List.length_nil, List.cons_append, List.nil_append, List.set_cons_zero, List.set_cons_succ, List.getElem?_cons_zero, List.getElem?_cons_succ, Option.bind_some, Option.map_some, List.replicate_succ, xX, xY, xZ, y0, y1, y2, ya, yb, yc, yd, ye, yf, yg, yh, yi, yj, yk, ym, Nat.reduceSub, Nat.reduceAdd, if_true, if_false, decide_eq_true_eq, e1, e2, hr, hd]
    -- the letters
    have hz : (rngD 0 n.toNat).length ≤ 9 := by rw [rngD_len]; omega
    obtain ⟨ds, ρ', k1, k2, ⟨s3, x4, rfl, t3⟩⟩ := loopC_all (vs := [4]) (b := bName 4) (g := vGx (g2 fIx (gPV (pVal (pVar 2))) (vGx (gCall φ_law_draw (aSlot 0 (aVal (gPV (pVal (pK (.int 26)))) aNil))))))
      (fun ρ => ∃ s3 x4, ρ = [some s3, some (fz (.int r)), some (fzS abc), some (fzI n), x4] ∧ Tp s3) (fun _ d => ∃ x : Str, d = .str x ∧ x.length = 1) (rngD 0 n.toNat) [] (by rw [List.length_nil]; exact Nat.le_trans (by omega) (show 9 ≤ sizeLine by decide))
      (fun x _ ρ ⟨s3, x4, e, t3⟩ => by
        subst e
        obtain ⟨r3, s4, e3, h4, h5, t4⟩ := draw_ok t3 (m := 26) (by decide) (by decide)
        have hl : abc.cps.toList.length = 26 := by decide +kernel
        obtain ⟨j, rfl⟩ := Int.eq_ofNat_of_zero_le h4
        have hj : j < abc.cps.toList.length := by omega
        have hix : atI abc.cps.toList (j : Int) = some abc.cps.toList[j] := atI_at rfl (List.getElem?_eq_getElem hj)
        refine ⟨[some s3, some (fz (.int r)), some (fzS abc), some (fzI n), some (fz x)], .str ⟨#[abc.cps.toList[j]]⟩, [some s4, some (fz (.int r)), some (fzS abc), some (fzI n), some (fz x)], rfl, ?_, ⟨_, rfl, rfl⟩, ⟨s4, _, rfl, t4⟩⟩
        simp only [q0, q4, q6, q7, q8, q9, qf, qj, qm, qn, qp, qu, qw, qx, qy, qz, qA, qB, qC, qD, qE, qF, qG, qH, qI, qJ, qK, qL, qM, qN, qO, qP, qQ, qR, qS, qT, qU, qV, qW, qX, qY, qZ, w6, w7, wa, wb, wc, wd, we, wg, wh, wj, wl, wm, wn, wo, wp, wq, wr, wt, wu, wv, ww, wx, wy, wz, wA, wB, wC, wD, wE, wF, wG, wH, wI, wJ, wK, wM, wN, wO, wQ, wS, wT, wU, wV, wW, wX, wY, wZ, xa, xb, xc, xf, xg, xh, xi, xj, xk, xl, xm, xn, xo, xq, xr, xt, xu, xv, xw, xx, xy, xz, xA, xB, xC, xE, xG, xH, xI, xJ, xK, xL, xM, xN, xO, xP, xQ, xR, xS, xT, xU, xV, xW, List.map_cons, List.map_nil, List.length_cons, List.length_nil, List.cons_append, List.nil_append, List.set_cons_zero, List.set_cons_succ, List.getElem?_cons_zero, List.getElem?_cons_succ, Option.bind_some, Option.map_some, List.replicate_succ, xX, xY, xZ, y0, y1, y2, ya, yb, yc, yd, ye, yf, yg, yh, yi, yj, yk, ym, Nat.reduceSub, Nat.reduceAdd, if_true, if_false, decide_eq_true_eq, e3, fIx_s (show abc.length ≤ sizeLine by decide +kernel), hix]) [some s2, some (fz (.int r)), some (fzS abc), some (fzI n), none] ⟨s2, none, rfl, t2⟩
    obtain ⟨xs, rfl, q2, q3⟩ := k2.strs fun _ _ h => h
    have hc : c1_law_name [some s2, some (fz (.int r)), some (fzS abc), some (fzI n), none] = .ok (rL (xs.map .str), [some s3, some (fz (.int r)), some (fzS abc), some (fzI n), none]) := by
      unfold c1_law_name
      simp only [gComp_def, q0, q4, q6, q7, q8, q9, qf, qj, qm, qn, qp, qu, qw, qx, qy, qz, qA, qB, qC, qD, qE, qF, qG, qH, qI, qJ, qK, qL, qM, qN, qO, qP, qQ, qR, qS, qT, qU, qV, qW, qX, qY, qZ, w6, w7, wa, wb, wc, wd, we, wg, wh, wj, wl, wm, wn, wo, wp, wq, wr, wt, wu, wv, ww, wx, wy, wz, wA, wB, wC, wD, wE, wF, wG, wH, wI, wJ, wK, wM, wN, wO, wQ, wS, wT, wU, wV, wW, wX, wY, wZ, xa, xb, xc, xf, xg, xh, xi, xj, xk, xl, xm, xn, xo, xq, xr, xt, xu, xv, xw, xx, xy, xz, xA, xB, xC, xE, xG, xH, xI, xJ, xK, xL, xM, xN, xO, xP, xQ, xR, xS, xT, xU, xV, xW, List.map_cons, List.map_nil, List.length_cons, List.length_nil, List.cons_append, List.nil_append, List.set_cons_zero, List.set_cons_succ, List.getElem?_cons_zero, List.getElem?_cons_succ, Option.bind_some, Option.map_some, List.replicate_succ, xX, xY, xZ, y0, y1, y2, ya, yb, yc, yd, ye, yf, yg, yh, yi, yj, yk, ym, Nat.reduceSub, Nat.reduceAdd, if_true, if_false, decide_eq_true_eq, rng1_i (show -(2 ^ 62) ≤ n by omega) (show n < 2 ^ 62 by omega), k1]
      rfl
    rw [rngD_len] at q3
    refine ⟨Txt.join "" xs, s3, ?_, t3, by
      have k := StrLaws.join_length_le "" xs
      have k0 : ("" : Str).length = 0 := rfl
      rw [k0, Nat.mul_zero, q2, q3] at k
      rw [TL.join_eq]
      omega⟩
    have hj : fJoin (.str "") (.list (xs.map .str)) = some (rS (Txt.join "" xs)) := by
      show (strsOf (xs.map .str)).bind _ = _
      rw [strsOf_map, Option.bind_some]
      have : ("" : Str).length = 0 := rfl
      rw [if_pos (by rw [q2, this]; omega)]
    have hc' : c1_law_name [some s2, some (fz (.int r)), some (fz (PyData.str (Str.ofString "abcdefghijklmnopqrstuvwxyz"))), some (fz (.int n)), none] = _ := hc
    simp only [gJoin_def, q0, q4, q6, q7, q8, q9, qf, qj, qm, qn, qp, qu, qw, qx, qy, qz, qA, qB, qC, qD, qE, qF, qG, qH, qI, qJ, qK, qL, qM, qN, qO, qP, qQ, qR, qS, qT, qU, qV, qW, qX, qY, qZ, w6, w7, wa, wb, wc, wd, we, wg, wh, wj, wl, wm, wn, wo, wp, wq, wr, wt, wu, wv, ww, wx, wy, wz, wA, wB, wC, wD, wE, wF, wG, wH, wI, wJ, wK, wM, wN, wO, wQ, wS, wT, wU, wV, wW, wX, wY, wZ, xa, xb, xc, xf, xg, xh, xi, xj, xk, xl, xm, xn, xo, xq, xr, xt, xu, xv, xw, xx, xy, xz, xA, xB, xC, xE, xG, xH, xI, xJ, xK, xL, xM, xN, xO, xP, xQ, xR, xS, xT, xU, xV, xW, List.map_cons, List.map_nil, List.length_cons, List.length_nil, List.cons_append, List.nil_append, List.set_cons_zero, List.set_cons_succ, List.getElem?_cons_zero, List.getElem?_cons_succ, Option.bind_some, Option.map_some, List.replicate_succ, xX, xY, xZ, y0, y1, y2, ya, yb, yc, yd, ye, yf, yg, yh, yi, yj, yk, ym, Nat.reduceSub, Nat.reduceAdd, if_true, if_false, decide_eq_true_eq, hc', hj, outR_tp h]
end Mm
namespace Mm
open PySem PySem.Spec L2
set_option autoImplicit false
theorem sortD_map {α : Type} (f : α → PD) (xs : List α) : ∃ ys : List α, sortD (xs.map f) = ys.map f ∧ ys.Perm xs := by
  refine ⟨xs.mergeSort fun a b => PySem.W.dataLe false id (f a) (f b), ?_, List.mergeSort_perm _ _⟩
  symm
  exact List.map_mergeSort fun a _ b _ => rfl
theorem sortOk_map {α : Type} {f : α → PD} {xs : List α} (h : ∀ a b, PySem.W.alike (f a) (f b) = true) (h2 : (∀ a, ∃ x r, f a = .tuple (x :: r)) ∨ ∀ a, f a ≠ .none ∧ ∀ r, f a ≠ .tuple r) (h3 : ∀ a, (f a).depth ≤ 60) : sortOk (xs.map f) = true := by
  unfold sortOk
  rw [Bool.and_eq_true, Bool.and_eq_true]
  refine ⟨List.all_eq_true.mpr fun d hd => List.all_eq_true.mpr fun e he => ?_, ?_, List.all_eq_true.mpr fun d hd => ?_⟩
  · obtain ⟨a, _, rfl⟩ := List.mem_map.mp hd
    obtain ⟨b, _, rfl⟩ := List.mem_map.mp he
    exact h a b
  · cases xs with
    | nil => rfl
    | cons a xs =>
      rw [List.map_cons]
      unfold sortableB
      rw [Bool.or_eq_true]
      rcases h2 with h2 | h2
      · refine .inl (List.all_eq_true.mpr fun d hd => ?_)
        rw [← List.map_cons] at hd
        obtain ⟨b, _, rfl⟩ := List.mem_map.mp hd
        obtain ⟨x, r, e⟩ := h2 b
        rw [e]
      · refine .inr (List.all_eq_true.mpr fun d hd => ?_)
        rw [← List.map_cons] at hd
        obtain ⟨b, _, rfl⟩ := List.mem_map.mp hd
        obtain ⟨h4, h5⟩ := h2 b
        split
        · rename_i e; exact absurd e h4
        · rename_i r e; exact absurd e (h5 r)
        · rfl
  · obtain ⟨a, _, rfl⟩ := List.mem_map.mp hd
    exact decide_eq_true (h3 a)
theorem alike_s (a b : Str) : PySem.W.alike (.str a) (.str b) = true := by simp [PySem.W.alike]
theorem sortOk_strs (xs : List Str) : sortOk (xs.map .str) = true := sortOk_map alike_s (.inr fun a => ⟨by simp, by simp⟩) fun a => by simp [PyData.depth]
def trueF (xs : List Str) : List (Key × PD) := xs.map fun x => (.inr x, .bool true)
theorem putD_true (xs : List Str) (x : Str) : putD (trueF xs) (.inr x) (.bool true) = trueF (if x ∈ xs then xs else xs ++ [x]) := by
  unfold putD trueF
  by_cases h : x ∈ xs
  · rw [if_pos h, if_pos]
    · rw [List.map_map]
      apply List.map_congr_left
      intro y _
      by_cases e : (Sum.inr y : Key) = Sum.inr x
      · simp [Sum.inr.inj e]
      · simp [e]
    · rw [List.any_eq_true]
      exact ⟨(.inr x, .bool true), List.mem_map.mpr ⟨x, h, rfl⟩, by simp⟩
  · rw [if_neg h, if_neg]
    · rw [List.map_append]; rfl
    · rw [List.any_eq_true]
      rintro ⟨kv, hkv, e⟩
      obtain ⟨y, hy, rfl⟩ := List.mem_map.mp hkv
      have : (Sum.inr y : Key) = Sum.inr x := by simpa using e
      exact h (by rw [← Sum.inr.inj this]; exact hy)
theorem src_true (xs : List Str) : (S1.dK (trueF xs)).src = some (xs.map .str) := by
  show some ((trueF xs).map fun kv => kPD kv.1) = _
  unfold trueF
  rw [List.map_map]
  rfl
theorem for_invN {b : PD → Env → Option Env} {g : Env → Out (Fl × Env)} (Inv : Nat → Env → Prop) : ∀ (xs : List PD) (k : Nat), (∀ x ∈ xs, ∀ j ρ, j < k + xs.length → Inv j ρ → ∃ ρ1 ρ', b x ρ = some ρ1 ∧ g ρ1 = .ok (.nx, ρ') ∧ Inv (j + 1) ρ') → ∀ ρ, Inv k ρ → ∃ ρ', loopFor b g xs ρ = .ok (.nx, ρ') ∧ Inv (k + xs.length) ρ'
  | [], k, _, ρ, hi => ⟨ρ, rfl, hi⟩
  | x :: xs, k, h, ρ, hi => by
    obtain ⟨ρ1, ρ2, h1, h2, h3⟩ := h x List.mem_cons_self k ρ (by rw [List.length_cons]; omega) hi
    obtain ⟨ρ', h4, h5⟩ := for_invN Inv xs (k + 1) (fun y hy j ρ hj => h y (List.mem_cons_of_mem _ hy) j ρ (by rw [List.length_cons]; omega)) ρ2 h3
    refine ⟨ρ', ?_, by rw [List.length_cons, show k + (xs.length + 1) = k + 1 + xs.length by omega]; exact h5⟩
    unfold loopFor
    rw [h1]
    show (match g ρ1 with | .ok (.nx, ρ') => _ | .ok (.ct, ρ') => _ | .ok (.bk, ρ') => _ | o => o) = _
    rw [h2]
    exact h4
theorem names_ok {s : SV} (h : Tp s) {n : Int} (h0 : 0 ≤ n) (h1 : n ≤ 1000) : ∃ (xs : List Str) (s' : SV), φ_law_names [s, fzI n] = .ok (rL (xs.map .str), [some s', some (fzI n)]) ∧ Tp s' ∧ xs.Nodup ∧ xs.length ≤ n.toNat ∧ (0 < n → 0 < xs.length) ∧ ∀ x ∈ xs, x.length ≤ 8 := by
  unfold φ_law_names m_law_names
  obtain ⟨ρ', k1, ⟨s1, xs, x3, rfl, t1, nd, hl, hp, h8⟩⟩ := for_invN (b := bName 3) (g := l1_law_names) (fun k ρ => ∃ s1 xs x3, ρ = [some s1, some (fzI n), some (.one (.dK (trueF xs))), x3] ∧ Tp s1 ∧ xs.Nodup ∧ xs.length ≤ k ∧ (0 < k → 0 < xs.length) ∧ ∀ x ∈ xs, x.length ≤ 8) (rngD 0 n.toNat) 0
    (fun x hx k ρ hk ⟨s1, xs, x3, e, t1, nd, hl, hp, h8⟩ => by
        have hk : xs.length < sizeLine := by
          rw [rngD_len] at hk
          have : 1000 < sizeLine := by decide
          omega
        subst e
        obtain ⟨y, s2, e2, t2, hy8⟩ := name_ok t1
        refine ⟨[some s1, some (fzI n), some (.one (.dK (trueF xs))), some (fz x)], [some s2, some (fzI n), some (.one (.dK (trueF (if y ∈ xs then xs else xs ++ [y])))), some (fz x)], rfl, ?_, ⟨s2, _, _, rfl, t2, ?_, ?_, ?_, ?_⟩⟩
        · unfold l1_law_names
          simp only [q0, q4, q6, q7, q8, q9, qf, qj, qm, qn, qp, qu, qw, qx, qy, qz, qA, qB, qC, qD, qE, qF, qG, qH, qI, qJ, qK, qL, qM, qN, qO, qP, qQ, qR, qS, qT, qU, qV, qW, qX, qY, qZ, w6, w7, wa, wb, wc, wd, we, wg, wh, wj, wl, wm, wn, wo, wp, wq, wr, wt, wu, wv, ww, wx, wy, wz, wA, wB, wC, wD, wE, wF, wG, wH, wI, wJ, wK, wM, wN, wO, wQ, wS, wT, wU, wV, wW, wX, wY, wZ, xa, xb, xc, xf, xg, xh, xi, xj, xk, xl, xm, xn, xo, xq, xr, xt, xu, xv, xw, xx, xy, xz, xA, xB, xC, xE, xG, xH, xI, xJ, xK, xL, xM, xN, xO, xP, xQ, xR, xS, xT, xU, xV, xW, List.map_cons, List.map_nil, List.length_cons, List.length_nil, List.cons_append, List.nil_append, List.set_cons_zero, List.set_cons_succ, List.getElem?_cons_zero, List.getElem?_cons_succ, Option.bind_some, Option.map_some, List.replicate_succ, xX, xY, xZ, y0, y1, y2, ya, yb, yc, yd, ye, yf, yg, yh, yi, yj, yk, ym, Nat.reduceSub, Nat.reduceAdd, if_true, if_false, decide_eq_true_eq, e2, put_dK (F := trueF xs) (by unfold trueF; rw [List.length_map]; exact hk), putD_true]
        · split
          · exact nd
          · rename_i hy
            rw [List.nodup_append]
            exact ⟨nd, by simp, fun a ha b hb => by rw [List.mem_singleton.mp hb]; exact fun e => hy (e ▸ ha)⟩
        · split
          · omega
          · rw [List.length_append, List.length_singleton]; omega
        · intro _
          split
          · rename_i hy; exact List.length_pos_of_mem hy
          · rw [List.length_append, List.length_singleton]; omega
        · intro x hx
          split at hx
          · exact h8 x hx
          · rcases List.mem_append.1 hx with q | q
            · exact h8 x q
            · rw [List.mem_singleton.1 q]; exact hy8) [some s, some (fzI n), some (.one (.dK [])), none] ⟨s, [], none, rfl, h, List.nodup_nil, Nat.le_refl _, fun z => absurd z (Nat.lt_irrefl _), fun x hx => (by cases hx)⟩
  rw [rngD_len, Nat.zero_add] at hl hp
  obtain ⟨ys, q1, q2⟩ := sortD_map PyData.str xs
  refine ⟨ys, s1, ?_, t1, q2.nodup_iff.mpr nd, by rw [q2.length_eq]; exact hl, fun z => by rw [q2.length_eq]; exact hp (by omega), fun x hx => h8 x (q2.mem_iff.1 hx)⟩
  have hs : fSorted (.dK (trueF xs)) = some (rL (ys.map .str)) := by
    unfold fSorted
    rw [src_true, Option.bind_some, if_pos (sortOk_strs xs), q1]
  simp only [q0, q4, q6, q7, q8, q9, qf, qj, qm, qn, qp, qu, qw, qx, qy, qz, qA, qB, qC, qD, qE, qF, qG, qH, qI, qJ, qK, qL, qM, qN, qO, qP, qQ, qR, qS, qT, qU, qV, qW, qX, qY, qZ, w6, w7, wa, wb, wc, wd, we, wg, wh, wj, wl, wm, wn, wo, wp, wq, wr, wt, wu, wv, ww, wx, wy, wz, wA, wB, wC, wD, wE, wF, wG, wH, wI, wJ, wK, wM, wN, wO, wQ, wS, wT, wU, wV, wW, wX, wY, wZ, xa, xb, xc, xf, xg, xh, xi, xj, xk, xl, xm, xn, xo, xq, xr, xt, xu, xv, xw, xx, xy, xz, xA, xB, xC, xE, xG, xH, xI, xJ, xK, xL, xM, xN, xO, xP, xQ, xR, xS, xT, xU, xV, xW, List.map_cons, List.map_nil, List.length_cons, List.length_nil, List.cons_append, List.nil_append, List.set_cons_zero, List.set_cons_succ, List.getElem?_cons_zero, List.getElem?_cons_succ, Option.bind_some, Option.map_some, List.replicate_succ, xX, xY, xZ, y0, y1, y2, ya, yb, yc, yd, ye, yf, yg, yh, yi, yj, yk, ym, Nat.reduceSub, Nat.reduceAdd, if_true, if_false, decide_eq_true_eq, rng1_i (show -(2 ^ 62) ≤ n by omega) (show n < 2 ^ 62 by omega), k1, hs, outR_tp h]
end Mm
namespace Mm
open PySem PySem.Spec L2
set_option autoImplicit false
theorem fTuple_l {xs : List PD} : fTuple (.frz (.list xs)) = some (rD (.tuple xs)) := rfl
theorem fTuple_o {xs : List PD} : fTuple (.lst xs) = some (rD (.tuple xs)) := rfl
theorem fAdd_lo {xs ys : List PD} (h : xs.length + ys.length ≤ sizeLine) : fAdd (.frz (.list xs)) (.lst ys) = some (rL (xs ++ ys)) := by
  show (if xs.length + ys.length ≤ sizeLine then some (rL (xs ++ ys)) else none) = _
  rw [if_pos h]
theorem fAdd_ll {xs ys : List PD} (h : xs.length + ys.length ≤ sizeLine) : fAdd (.frz (.list xs)) (.frz (.list ys)) = some (rL (xs ++ ys)) := by
  show (if xs.length + ys.length ≤ sizeLine then some (rL (xs ++ ys)) else none) = _
  rw [if_pos h]
theorem fAdd_tt {xs ys : List PD} (h : xs.length + ys.length ≤ sizeLine) : fAdd (.frz (.tuple xs)) (.frz (.tuple ys)) = some (rD (.tuple (xs ++ ys))) := by
  show (if xs.length + ys.length ≤ sizeLine then some (rD (.tuple (xs ++ ys))) else none) = _
  rw [if_pos h]
end Mm
namespace Mm
open PySem PySem.Spec L2
set_option autoImplicit false
theorem eqv_b {a b : Bool} : PyData.eqv (.bool a) (.bool b) = decide (a = b) := by cases a <;> cases b <;> simp [PyData.eqv]
theorem fNe_b {a b : Bool} : fNe (.frz (.bool a)) (.frz (.bool b)) = some (rB (!decide (a = b))) := by
  show (if eqOk (.bool a) (.bool b) = true then some (rB (Bool.xor true (PyData.eqv (.bool a) (.bool b)))) else none) = _
  rw [if_pos (by rfl), eqv_b, Bool.true_xor]
end Mm
namespace Mm
open PySem PySem.Spec L2
set_option autoImplicit false
end Mm
namespace Mm
open PySem PySem.Spec L2
set_option autoImplicit false
theorem cutD_to (xs : List PD) (i : Nat) : cutD xs none (some (i : Int)) = xs.take i := by
  unfold cutD
  rw [HT.sIx_none, show HT.sIx xs.length xs.length (some (i : Int)) = min i xs.length from HT.sIx_nat xs.length xs.length i]
  rw [List.drop_zero, Nat.sub_zero]
  by_cases h : i ≤ xs.length
  · rw [Nat.min_eq_left h]
  · rw [Nat.min_eq_right (by omega), List.take_length, List.take_of_length_le (by omega)]
theorem fCut_t {xs : List PD} {lo hi : Option Int} : fCut (.frz (.tuple xs)) lo hi = some (rD (.tuple (cutD xs lo hi))) := rfl
theorem fCut_l {xs : List PD} {lo hi : Option Int} : fCut (.frz (.list xs)) lo hi = some (rL (cutD xs lo hi)) := rfl
end Mm
namespace Mm
open PySem PySem.Spec L2
set_option autoImplicit false
theorem small_log {m : Int} (h0 : 0 ≤ m) (h : m ≤ 1000) : m.natAbs.log2 < 9000 := log2_small h0 (Int.lt_of_le_of_lt h (by decide +kernel))
end Mm
namespace Mm
open PySem PySem.Spec L2
set_option autoImplicit false
/-- data of lists, tuples, texts, ints, bools and None: sizes at most L, depth at most n -/
def Gd (L : Nat) : Nat → PD → Prop
  | _, .str x => x.length ≤ L
  | _, .int _ => True
  | _, .bool _ => True
  | _, .none => True
  | n + 1, .list xs => xs.length ≤ L ∧ ∀ x ∈ xs, Gd L n x
  | n + 1, .tuple xs => xs.length ≤ L ∧ ∀ x ∈ xs, Gd L n x
  | _, _ => False
theorem pChain_def {φ φ' : S1 → S1 → Option Res} {pa pb pc : Env → Option Res} {ρ : Env} : pChain φ φ' pa pb pc ρ = (pa ρ).bind fun ra => ra.s1.bind fun s => (pb ρ).bind fun rb => rb.s1.bind fun t => (φ s t).bind fun r => r.tr.bind fun k => if k = true then (pc ρ).bind fun rc => rc.s1.bind fun u => φ' t u else some (rB false) := rfl
theorem boolsOf_map {α : Type} (f : α → Bool) : ∀ xs : List α, boolsOf (xs.map fun x => PyData.bool (f x)) = some (xs.map f)
  | [] => rfl
  | x :: xs => by
    show (boolsOf (xs.map _)).map (f x :: ·) = _
    rw [boolsOf_map f xs]; rfl
theorem fAll_map {α : Type} (f : α → Bool) (xs : List α) : fAll (.lst (xs.map fun x => PyData.bool (f x))) = some (rB (xs.all f)) := by
  show (boolsOf (xs.map fun x => PyData.bool (f x))).map _ = _
  rw [boolsOf_map]
  show some (rB ((xs.map f).all id)) = _
  rw [List.all_map]; rfl
theorem fLen_s {x : Str} (h : x.length ≤ sizeLine) : fLen (.frz (.str x)) = some (rInt (x.length : Int)) := by
  show (if x.length ≤ sizeLine then some x.length else none).map _ = _
  rw [if_pos h]; rfl
theorem isi_s {T : String} {x : Str} : fIsi T (.frz (.str x)) = some (rB (isKind "str" T)) := rfl
theorem k_ss : isKind "str" "str" = true := by decide
theorem fEq_nil {xs : List PD} (hp : PyData.plainAll xs = true) : fEq (.lst xs) (.lst []) = some (rB xs.isEmpty) := by
  have := fNe_nil hp
  have e : (fEqN true (.lst xs) (.lst [])).map id = _ := congrArg _ this
  unfold fNe fEqN at this
  unfold fEq fEqN
  simp only [qD] at this ⊢
  split at this
  · rename_i ho
    rw [if_pos ho]
    rw [eqv_nil, Bool.false_xor]
  · cases this
end Mm
namespace Mm
open PySem PySem.Spec L2
set_option autoImplicit false
theorem plain_ints {α : Type} (f : α → Int) : ∀ xs : List α, PyData.plainAll (xs.map fun x => PyData.int (f x)) = true
  | [] => rfl
  | x :: xs => by
    rw [List.map_cons, PyData.plainAll, plain_ints f xs]; rfl
theorem zipD_map {α : Type} (enc : α → PD) : ∀ xs ys : List α, zipD (xs.map enc) (ys.map enc) = (xs.zip ys).map fun p => .tuple [enc p.1, enc p.2] := by
  intro xs ys
  unfold zipD
  rw [List.zipWith_map, List.zip, List.map_zipWith]
theorem h62c {n : Nat} : -(2 ^ 62) ≤ (n : Int) := by omega
theorem h62d {n : Nat} (h : n ≤ 1000) : (n : Int) < 2 ^ 62 := by omega
end Mm
namespace Mm
open PySem PySem.Spec L2
set_option autoImplicit false
theorem isi_t {T : String} {x : List PD} : fIsi T (.frz (.tuple x)) = some (rB (isKind "tuple" T)) := rfl
theorem k_tt : isKind "tuple" "tuple" = true := by decide
theorem fLen_t5 {xs : List PD} : fLen (.frz (.tuple xs)) = some (rInt (xs.length : Int)) := rfl
end Mm
namespace Mm
open PySem PySem.Spec L2
set_option autoImplicit false
theorem pCall_1 {φ : List SV → Out (Res × Env)} {q : Env → Option PD} {ρ ρ' : Env} {d : PD} {r : Res} (h : q ρ = some d) (e : φ [fz d] = .ok (r, ρ')) : pCall φ (vsCons q vsNil) ρ = some r := by
  rw [pCall_def, qM, h, Option.bind_some, qL, Option.bind_some, Option.bind_some]
  show (match φ [fz d] with | .ok (r, _) => some r | _ => none) = _
  rw [e]
end Mm
namespace Mm
open PySem PySem.Spec L2
set_option autoImplicit false
def wholeB : PD → Bool
  | .int _ => true
  | _ => false
def withinB (lo hi : Int) : PD → Bool
  | .int n => decide (lo ≤ n ∧ n ≤ hi)
  | _ => false
theorem whole_ok {d : PD} {L n : Nat} (h : Gd L n d) : φ_is_whole [fz d] = .ok (rB (wholeB d), [some (fz d)]) := by
  cases d <;> first | rfl | (exfalso; revert h; cases n <;> exact id)
theorem law_whole_ok {d : PD} {L n : Nat} (h : Gd L n d) : φ_law_whole [fz d] = .ok (rB (wholeB d), [some (fz d)]) := by
  cases d <;> first | rfl | (exfalso; revert h; cases n <;> exact id)
theorem within_ok {d : PD} {L n : Nat} {lo hi : Int} (h : Gd L n d) : φ_is_within [fz d, fzI lo, fzI hi] = .ok (rB (withinB lo hi d), [some (fz d), some (fzI lo), some (fzI hi)]) := by
  have e := pCall_1 (ρ := [some (fz d), some (fzI lo), some (fzI hi)]) (q := pVal (pVar 0)) rfl (whole_ok h)
  unfold φ_is_within m_is_within
  cases hw : wholeB d with
  | false =>
    rw [hw] at e
    have : withinB lo hi d = false := by cases d <;> first | rfl | cases hw
    rw [this]
    simp only [q0, q4, q6, q7, q8, q9, qf, qj, qm, qn, qp, qu, qw, qx, qy, qz, qA, qB, qC, qD, qE, qF, qG, qH, qI, qJ, qK, qL, qM, qN, qO, qP, qQ, qR, qS, qT, qU, qV, qW, qX, qY, qZ, w6, w7, wa, wb, wc, wd, we, wg, wh, wj, wl, wm, wn, wo, wp, wq, wr, wt, wu, wv, ww, wx, wy, wz, wA, wB, wC, wD, wE, wF, wG, wH, wI, wJ, wK, wM, wN, wO, wQ, wS, wT, wU, wV, wW, wX, wY, wZ, xa, xb, xc, xf, xg, xh, xi, xj, xk, xl, xm, xn, xo, xq, xr, xt, xu, xv, xw, xx, xy, xz, xA, xB, xC, xE, xG, xH, xI, xJ, xK, xL, xM, xN, xO, xP, xQ, xR, xS, xT, xU, xV, xW, List.map_cons, List.map_nil, List.length_cons, List.length_nil, List.cons_append, List.nil_append, List.set_cons_zero, List.set_cons_succ, List.getElem?_cons_zero, List.getElem?_cons_succ, Option.bind_some, Option.map_some, List.replicate_succ, xX, xY, xZ, y0, y1, y2, ya, yb, yc, yd, ye, yf, yg, yh, yi, yj, yk, ym, Nat.reduceSub, Nat.reduceAdd, if_true, if_false, decide_eq_true_eq, e, Bool.false_eq_true, ↓reduceIte]
  | true =>
    rw [hw] at e
    obtain ⟨i, rfl⟩ : ∃ i, d = .int i := by cases d <;> first | exact ⟨_, rfl⟩ | cases hw
    by_cases h1 : lo ≤ i
    · by_cases h2 : i ≤ hi <;> simp only [withinB, q0, q4, q6, q7, q8, q9, qf, qj, qm, qn, qp, qu, qw, qx, qy, qz, qA, qB, qC, qD, qE, qF, qG, qH, qI, qJ, qK, qL, qM, qN, qO, qP, qQ, qR, qS, qT, qU, qV, qW, qX, qY, qZ, w6, w7, wa, wb, wc, wd, we, wg, wh, wj, wl, wm, wn, wo, wp, wq, wr, wt, wu, wv, ww, wx, wy, wz, wA, wB, wC, wD, wE, wF, wG, wH, wI, wJ, wK, wM, wN, wO, wQ, wS, wT, wU, wV, wW, wX, wY, wZ, xa, xb, xc, xf, xg, xh, xi, xj, xk, xl, xm, xn, xo, xq, xr, xt, xu, xv, xw, xx, xy, xz, xA, xB, xC, xE, xG, xH, xI, xJ, xK, xL, xM, xN, xO, xP, xQ, xR, xS, xT, xU, xV, xW, List.map_cons, List.map_nil, List.length_cons, List.length_nil, List.cons_append, List.nil_append, List.set_cons_zero, List.set_cons_succ, List.getElem?_cons_zero, List.getElem?_cons_succ, Option.bind_some, Option.map_some, List.replicate_succ, xX, xY, xZ, y0, y1, y2, ya, yb, yc, yd, ye, yf, yg, yh, yi, yj, yk, ym, Nat.reduceSub, Nat.reduceAdd, if_true, if_false, decide_eq_true_eq, e, pChain_def, xB, h1, h2, decide_true, decide_false, and_self, and_false, Bool.false_eq_true, ↓reduceIte]
    · simp only [withinB, q0, q4, q6, q7, q8, q9, qf, qj, qm, qn, qp, qu, qw, qx, qy, qz, qA, qB, qC, qD, qE, qF, qG, qH, qI, qJ, qK, qL, qM, qN, qO, qP, qQ, qR, qS, qT, qU, qV, qW, qX, qY, qZ, w6, w7, wa, wb, wc, wd, we, wg, wh, wj, wl, wm, wn, wo, wp, wq, wr, wt, wu, wv, ww, wx, wy, wz, wA, wB, wC, wD, wE, wF, wG, wH, wI, wJ, wK, wM, wN, wO, wQ, wS, wT, wU, wV, wW, wX, wY, wZ, xa, xb, xc, xf, xg, xh, xi, xj, xk, xl, xm, xn, xo, xq, xr, xt, xu, xv, xw, xx, xy, xz, xA, xB, xC, xE, xG, xH, xI, xJ, xK, xL, xM, xN, xO, xP, xQ, xR, xS, xT, xU, xV, xW, List.map_cons, List.map_nil, List.length_cons, List.length_nil, List.cons_append, List.nil_append, List.set_cons_zero, List.set_cons_succ, List.getElem?_cons_zero, List.getElem?_cons_succ, Option.bind_some, Option.map_some, List.replicate_succ, xX, xY, xZ, y0, y1, y2, ya, yb, yc, yd, ye, yf, yg, yh, yi, yj, yk, ym, Nat.reduceSub, Nat.reduceAdd, if_true, if_false, decide_eq_true_eq, e, pChain_def, xB, h1, decide_true, decide_false, false_and, Bool.false_eq_true, ↓reduceIte]
end Mm
namespace Mm
open PySem PySem.Spec L2
set_option autoImplicit false
theorem any_strs (a : Str) : ∀ hs : List Str, ((hs.map PyData.str).any fun z => PyData.eqv z (.str a)) = decide (a ∈ hs)
  | [] => rfl
  | h :: hs => by
    rw [List.map_cons, List.any_cons, any_strs a hs, eqv_s]
    by_cases e : h = a
    · subst e; simp
    · have : ¬ a = h := fun x => e x.symm
      simp [e, this]
theorem okD_s (a : Str) : okD (.str a) = true := rfl
theorem fIn_strs {a : Str} {hs : List Str} {neg : Bool} : fIn neg (.frz (.str a)) (.frz (.tuple (hs.map PyData.str))) = some (rB (neg.xor (decide (a ∈ hs)))) := by
  show (if (okD (.str a) && PyData.plainAll (hs.map PyData.str)) = true then some (rB (neg.xor ((hs.map PyData.str).any fun z => PyData.eqv z (.str a)))) else none) = _
  rw [okD_s, plain_strs, any_strs]; rfl
def strB : PD → Bool
  | .str _ => true
  | _ => false
theorem isi_strB {d : PD} {L n : Nat} (h : Gd L n d) : fIsi "str" (.frz d) = some (rB (strB d)) := by
  cases d <;> first | rfl | (exfalso; revert h; cases n <;> exact id)
theorem at_0 {x y c : PD} : fIx (.frz (.tuple [x, y, c])) (.frz (.int 0)) = some (rD x) := rfl
theorem at_1 {x y c : PD} : fIx (.frz (.tuple [x, y, c])) (.frz (.int 1)) = some (rD y) := rfl
theorem at_2 {x y c : PD} : fIx (.frz (.tuple [x, y, c])) (.frz (.int 2)) = some (rD c) := rfl
theorem fLen3 {x y c : PD} : fLen (.frz (.tuple [x, y, c])) = some (rInt 3) := rfl
theorem n33 : fNe (.frz (.int ((3 : Nat) : Int))) (.frz (.int 3)) = some (rB false) := by
  rw [fNe_i]; rfl
theorem pCall_3 {φ : List SV → Out (Res × Env)} {q1 q2 q3 : Env → Option PD} {ρ ρ' : Env} {d1 d2 d3 : PD} {r : Res} (h1 : q1 ρ = some d1) (h2 : q2 ρ = some d2) (h3 : q3 ρ = some d3) (e : φ [fz d1, fz d2, fz d3] = .ok (r, ρ')) : pCall φ (vsCons q1 (vsCons q2 (vsCons q3 vsNil))) ρ = some r := by
  rw [pCall_def, qM, h1, Option.bind_some, qM, h2, Option.bind_some, qM, h3, Option.bind_some, qL, Option.bind_some, Option.bind_some, Option.bind_some, Option.bind_some]
  show (match φ [fz d1, fz d2, fz d3] with | .ok (r, _) => some r | _ => none) = _
  rw [e]
end Mm
namespace Mm
open PySem PySem.Spec L2
set_option autoImplicit false
end Mm
namespace Mm
open PySem PySem.Spec L2
set_option autoImplicit false
theorem pCall_2 {φ : List SV → Out (Res × Env)} {q1 q2 : Env → Option PD} {ρ ρ' : Env} {d1 d2 : PD} {r : Res} (h1 : q1 ρ = some d1) (h2 : q2 ρ = some d2) (e : φ [fz d1, fz d2] = .ok (r, ρ')) : pCall φ (vsCons q1 (vsCons q2 vsNil)) ρ = some r := by
  rw [pCall_def, qM, h1, Option.bind_some, qM, h2, Option.bind_some, qL, Option.bind_some, Option.bind_some, Option.bind_some]
  show (match φ [fz d1, fz d2] with | .ok (r, _) => some r | _ => none) = _
  rw [e]
end Mm
namespace Mm
open PySem PySem.Spec L2
set_option autoImplicit false
/-- a loop that folds -/
theorem for_fold {α σ : Type} {b : PD → Env → Option Env} {g : Env → Out (Fl × Env)} {enc : α → PD} (f : σ → α → σ) (Rl : Nat → σ → Env → Prop) : ∀ (xs : List α) (k : Nat) (s : σ) (ρ : Env), (∀ x ∈ xs, ∀ j s ρ, j < k + xs.length → Rl j s ρ → ∃ ρ1 ρ', b (enc x) ρ = some ρ1 ∧ g ρ1 = .ok (.nx, ρ') ∧ Rl (j + 1) (f s x) ρ') → Rl k s ρ → ∃ ρ', loopFor b g (xs.map enc) ρ = .ok (.nx, ρ') ∧ Rl (k + xs.length) (xs.foldl f s) ρ'
  | [], k, s, ρ, _, h => ⟨ρ, rfl, h⟩
  | x :: xs, k, s, ρ, hx, h => by
    obtain ⟨ρ1, ρ2, h1, h2, h3⟩ := hx x List.mem_cons_self k s ρ (by rw [List.length_cons]; omega) h
    obtain ⟨ρ3, h4, h5⟩ := for_fold (b := b) (g := g) (enc := enc) f Rl xs (k + 1) (f s x) ρ2 (fun y hy j s ρ hj => hx y (List.mem_cons_of_mem _ hy) j s ρ (by rw [List.length_cons]; omega)) h3
    refine ⟨ρ3, ?_, by rw [List.length_cons, List.foldl_cons, show k + (xs.length + 1) = k + 1 + xs.length by omega]; exact h5⟩
    rw [List.map_cons]
    unfold loopFor
    rw [h1]
    show (match g ρ1 with | .ok (.nx, ρ') => loopFor b g (xs.map enc) ρ' | .ok (.ct, ρ') => loopFor b g (xs.map enc) ρ' | .ok (.bk, ρ') => .ok (.nx, ρ') | o => o) = _
    rw [h2]
    exact h4
theorem lf_cons {b : PD → Env → Option Env} {g : Env → Out (Fl × Env)} {x : PD} {xs : List PD} {ρ ρ1 ρ' : Env} (h1 : b x ρ = some ρ1) (h2 : g ρ1 = .ok (.nx, ρ')) : loopFor b g (x :: xs) ρ = loopFor b g xs ρ' := by
  conv => lhs; unfold loopFor
  rw [h1]
  show (match g ρ1 with | .ok (.nx, ρ') => loopFor b g xs ρ' | .ok (.ct, ρ') => loopFor b g xs ρ' | .ok (.bk, ρ') => .ok (.nx, ρ') | o => o) = _
  rw [h2]
end Mm
namespace Mm
open PySem PySem.Spec L2
set_option autoImplicit false
theorem ff_ {P : Prop} (h : false = true) : P := Bool.noConfusion h
theorem tf_ {P : Prop} (h : true = false) : P := Bool.noConfusion h
noncomputable def likeB (d e : PD) : Bool := @decide (d = e) (Classical.propDecidable _)
theorem likeB_iff {d e : PD} : likeB d e = true ↔ d = e := by unfold likeB; exact @decide_eq_true_iff _ (Classical.propDecidable _)
theorem likeB_self {d : PD} : likeB d d = true := likeB_iff.2 rfl
theorem pIsi2_def {T U : String} {p : Env → Option Res} {ρ : Env} : pIsi2 T U p ρ = (p ρ).bind fun r => r.s1.bind (fIsi2 T U) := rfl
def seqK : PD → Bool
  | .list _ => true
  | .tuple _ => true
  | _ => false
def lstK : PD → Bool
  | .list _ => true
  | _ => false
def tupK : PD → Bool
  | .tuple _ => true
  | _ => false
def bolK : PD → Bool
  | .bool _ => true
  | _ => false
section
variable {d e : PD} {L n : Nat}
theorem isi2_seq (h : Gd L n d) : fIsi2 "list" "tuple" (.frz d) = some (rB (seqK d)) := by
  cases d <;> first | rfl | (exfalso; revert h; cases n <;> exact id)
theorem isi2_seq' (h : Gd L n d) : fIsi2 "tuple" "list" (.frz d) = some (rB (seqK d)) := by
  cases d <;> first | rfl | (exfalso; revert h; cases n <;> exact id)
theorem isi_lstK (h : Gd L n d) : fIsi "list" (.frz d) = some (rB (lstK d)) := by
  cases d <;> first | rfl | (exfalso; revert h; cases n <;> exact id)
theorem isi_tupK (h : Gd L n d) : fIsi "tuple" (.frz d) = some (rB (tupK d)) := by
  cases d <;> first | rfl | (exfalso; revert h; cases n <;> exact id)
theorem isi_bolK (h : Gd L n d) : fIsi "bool" (.frz d) = some (rB (bolK d)) := by
  cases d <;> first | rfl | (exfalso; revert h; cases n <;> exact id)
theorem fEq_at (hd : seqK d = false) (he : seqK e = false) (h1 : Gd L n d) (h2 : Gd L n e) : fEq (.frz d) (.frz e) = some (rB (PyData.eqv d e)) := by
  have : fEq (.frz d) (.frz e) = if eqOk d e = true then some (rB (false.xor (PyData.eqv d e))) else none := rfl
  rw [this, if_pos, Bool.false_xor]
  cases d <;> first | exact Bool.noConfusion (hd : true = false) | (exfalso; revert h1; cases n <;> exact id) | (cases e <;> first | exact Bool.noConfusion (he : true = false) | (exfalso; revert h2; cases n <;> exact id) | rfl)
theorem like_at (hd : seqK d = false) (he : seqK e = false) (h1 : Gd L n d) (h2 : Gd L n e) : (decide (bolK d = bolK e) && PyData.eqv d e) = likeB d e := by
  rw [Bool.eq_iff_iff, likeB_iff]
  cases d <;> first | exact Bool.noConfusion (hd : true = false) | (exfalso; revert h1; cases n <;> exact id) | (cases e <;> first | exact Bool.noConfusion (he : true = false) | (exfalso; revert h2; cases n <;> exact id) | (simp [bolK, eqv_s, eqv_i, eqv_b, PyData.eqv]; done))
def likB (c : Env → Option Res) : Env → Out (Fl × Env) := (mSeq (mIf (gT (tB (pIsi2 "list" "tuple" (pVar 0)))) (mSeq (mIf (gT (tOr (tB (p2 fNe (pIsi "list" (pVar 0)) (pIsi "list" (pVar 1)))) (tB (p2 fNe (pIsi "tuple" (pVar 0)) (pIsi "tuple" (pVar 1)))))) (mRet (gPx (pK (.bool false)))) mNop) (mSeq (mIf (gT (tB (p2 fNe (pN (f1 fLen) (psCons (pVar 0) psNil)) (pN (f1 fLen) (psCons (pVar 1) psNil))))) (mRet (gPx (pK (.bool false)))) mNop) (mRet (gPx (p2 fEq c (pLst vsNil)))))) mNop) (mSeq (mIf (gT (tB (pIsi2 "list" "tuple" (pVar 1)))) (mRet (gPx (pK (.bool false)))) mNop) (mRet (gPx (pAnd (p2 fEq (pIsi "bool" (pVar 0)) (pIsi "bool" (pVar 1))) (p2 fEq (pVar 0) (pVar 1)))))))
theorem likB_eq {rec : List SV → Out (Res × Env)} : m_law_like rec = likB (c1_law_like rec) := rfl
variable {c : Env → Option Res} {l1 l2 t1 t2 : Bool}
theorem fEq_b {a b : Bool} : fEq (.frz (.bool a)) (.frz (.bool b)) = some (rB (decide (a = b))) := by
  show (if eqOk (.bool a) (.bool b) = true then some (rB (false.xor (PyData.eqv (.bool a) (.bool b)))) else none) = _
  rw [if_pos (show eqOk (.bool a) (.bool b) = true from rfl), eqv_b, Bool.false_xor]
theorem lik_kind (h1 : fIsi2 "list" "tuple" (.frz d) = some (rB true)) (a1 : fIsi "list" (.frz d) = some (rB l1)) (a2 : fIsi "list" (.frz e) = some (rB l2)) (b1 : fIsi "tuple" (.frz d) = some (rB t1)) (b2 : fIsi "tuple" (.frz e) = some (rB t2)) (hk : (decide (l1 = l2) && decide (t1 = t2)) = false) : runF [] 3 (likB c) [fz d, fz e] = .ok (rB false, [some (fz d), some (fz e)]) := by
  unfold likB
  cases l1 <;> cases l2 <;> cases t1 <;> cases t2 <;> first | (exfalso; revert hk; decide) | simp only [q0, q4, q6, q7, q8, q9, qf, qj, qm, qn, qp, qu, qw, qx, qy, qz, qA, qB, qC, qD, qE, qF, qG, qH, qI, qJ, qK, qL, qM, qN, qO, qP, qQ, qR, qS, qT, qU, qV, qW, qX, qY, qZ, w6, w7, wa, wb, wc, wd, we, wg, wh, wj, wl, wm, wn, wo, wp, wq, wr, wt, wu, wv, ww, wx, wy, wz, wA, wB, wC, wD, wE, wF, wG, wH, wI, wJ, wK, wM, wN, wO, wQ, wS, wT, wU, wV, wW, wX, wY, wZ, xa, xb, xc, xf, xg, xh, xi, xj, xk, xl, xm, xn, xo, xq, xr, xt, xu, xv, xw, xx, xy, xz, xA, xB, xC, xE, xG, xH, xI, xJ, xK, xL, xM, xN, xO, xP, xQ, xR, xS, xT, xU, xV, xW, List.map_cons, List.map_nil, List.length_cons, List.length_nil, List.cons_append, List.nil_append, List.set_cons_zero, List.set_cons_succ, List.getElem?_cons_zero, List.getElem?_cons_succ, Option.bind_some, Option.map_some, List.replicate_succ, xX, xY, xZ, y0, y1, y2, ya, yb, yc, yd, ye, yf, yg, yh, yi, yj, yk, ym, Nat.reduceSub, Nat.reduceAdd, if_true, if_false, decide_eq_true_eq, pIsi2_def, pIsi_def, h1, a1, a2, b1, b2, fNe_b, decide_true, decide_false, Bool.not_true, Bool.not_false, Bool.false_eq_true, Bool.true_eq_false, reduceCtorEq, ↓reduceIte]
theorem lik_len {a b : Int} (h1 : fIsi2 "list" "tuple" (.frz d) = some (rB true)) (a1 : fIsi "list" (.frz d) = some (rB l1)) (a2 : fIsi "list" (.frz e) = some (rB l1)) (b1 : fIsi "tuple" (.frz d) = some (rB t1)) (b2 : fIsi "tuple" (.frz e) = some (rB t1)) (e1 : fLen (.frz d) = some (rInt a)) (e2 : fLen (.frz e) = some (rInt b)) (hk : (a = b) = False) : runF [] 3 (likB c) [fz d, fz e] = .ok (rB false, [some (fz d), some (fz e)]) := by
  unfold likB
  simp only [q0, q4, q6, q7, q8, q9, qf, qj, qm, qn, qp, qu, qw, qx, qy, qz, qA, qB, qC, qD, qE, qF, qG, qH, qI, qJ, qK, qL, qM, qN, qO, qP, qQ, qR, qS, qT, qU, qV, qW, qX, qY, qZ, w6, w7, wa, wb, wc, wd, we, wg, wh, wj, wl, wm, wn, wo, wp, wq, wr, wt, wu, wv, ww, wx, wy, wz, wA, wB, wC, wD, wE, wF, wG, wH, wI, wJ, wK, wM, wN, wO, wQ, wS, wT, wU, wV, wW, wX, wY, wZ, xa, xb, xc, xf, xg, xh, xi, xj, xk, xl, xm, xn, xo, xq, xr, xt, xu, xv, xw, xx, xy, xz, xA, xB, xC, xE, xG, xH, xI, xJ, xK, xL, xM, xN, xO, xP, xQ, xR, xS, xT, xU, xV, xW, List.map_cons, List.map_nil, List.length_cons, List.length_nil, List.cons_append, List.nil_append, List.set_cons_zero, List.set_cons_succ, List.getElem?_cons_zero, List.getElem?_cons_succ, Option.bind_some, Option.map_some, List.replicate_succ, xX, xY, xZ, y0, y1, y2, ya, yb, yc, yd, ye, yf, yg, yh, yi, yj, yk, ym, Nat.reduceSub, Nat.reduceAdd, if_true, if_false, decide_eq_true_eq, pIsi2_def, pIsi_def, h1, a1, a2, b1, b2, e1, e2, fNe_b, fNe_i, hk, decide_true, decide_false, Bool.not_true, Bool.not_false, Bool.false_eq_true, ↓reduceIte]
theorem lik_all {a : Int} {zs : List PD} (h1 : fIsi2 "list" "tuple" (.frz d) = some (rB true)) (a1 : fIsi "list" (.frz d) = some (rB l1)) (a2 : fIsi "list" (.frz e) = some (rB l1)) (b1 : fIsi "tuple" (.frz d) = some (rB t1)) (b2 : fIsi "tuple" (.frz e) = some (rB t1)) (e1 : fLen (.frz d) = some (rInt a)) (e2 : fLen (.frz e) = some (rInt a)) (hc : c [some (fz d), some (fz e), none] = some (rL zs)) (hz : PyData.plainAll zs = true) : runF [] 3 (likB c) [fz d, fz e] = .ok (rB zs.isEmpty, [some (fz d), some (fz e)]) := by
  have := fEq_nil hz
  unfold likB
  simp only [q0, q4, q6, q7, q8, q9, qf, qj, qm, qn, qp, qu, qw, qx, qy, qz, qA, qB, qC, qD, qE, qF, qG, qH, qI, qJ, qK, qL, qM, qN, qO, qP, qQ, qR, qS, qT, qU, qV, qW, qX, qY, qZ, w6, w7, wa, wb, wc, wd, we, wg, wh, wj, wl, wm, wn, wo, wp, wq, wr, wt, wu, wv, ww, wx, wy, wz, wA, wB, wC, wD, wE, wF, wG, wH, wI, wJ, wK, wM, wN, wO, wQ, wS, wT, wU, wV, wW, wX, wY, wZ, xa, xb, xc, xf, xg, xh, xi, xj, xk, xl, xm, xn, xo, xq, xr, xt, xu, xv, xw, xx, xy, xz, xA, xB, xC, xE, xG, xH, xI, xJ, xK, xL, xM, xN, xO, xP, xQ, xR, xS, xT, xU, xV, xW, List.map_cons, List.map_nil, List.length_cons, List.length_nil, List.cons_append, List.nil_append, List.set_cons_zero, List.set_cons_succ, List.getElem?_cons_zero, List.getElem?_cons_succ, Option.bind_some, Option.map_some, List.replicate_succ, xX, xY, xZ, y0, y1, y2, ya, yb, yc, yd, ye, yf, yg, yh, yi, yj, yk, ym, Nat.reduceSub, Nat.reduceAdd, if_true, if_false, decide_eq_true_eq, pIsi2_def, pIsi_def, h1, a1, a2, b1, b2, e1, e2, hc, this, fNe_b, fNe_i, decide_true, Bool.not_true, Bool.not_false, Bool.false_eq_true, ↓reduceIte]
theorem lik_a0 (h1 : fIsi2 "list" "tuple" (.frz d) = some (rB false)) (h2 : fIsi2 "list" "tuple" (.frz e) = some (rB true)) : runF [] 3 (likB c) [fz d, fz e] = .ok (rB false, [some (fz d), some (fz e)]) := by
  unfold likB
  simp only [q0, q4, q6, q7, q8, q9, qf, qj, qm, qn, qp, qu, qw, qx, qy, qz, qA, qB, qC, qD, qE, qF, qG, qH, qI, qJ, qK, qL, qM, qN, qO, qP, qQ, qR, qS, qT, qU, qV, qW, qX, qY, qZ, w6, w7, wa, wb, wc, wd, we, wg, wh, wj, wl, wm, wn, wo, wp, wq, wr, wt, wu, wv, ww, wx, wy, wz, wA, wB, wC, wD, wE, wF, wG, wH, wI, wJ, wK, wM, wN, wO, wQ, wS, wT, wU, wV, wW, wX, wY, wZ, xa, xb, xc, xf, xg, xh, xi, xj, xk, xl, xm, xn, xo, xq, xr, xt, xu, xv, xw, xx, xy, xz, xA, xB, xC, xE, xG, xH, xI, xJ, xK, xL, xM, xN, xO, xP, xQ, xR, xS, xT, xU, xV, xW, List.map_cons, List.map_nil, List.length_cons, List.length_nil, List.cons_append, List.nil_append, List.set_cons_zero, List.set_cons_succ, List.getElem?_cons_zero, List.getElem?_cons_succ, Option.bind_some, Option.map_some, List.replicate_succ, xX, xY, xZ, y0, y1, y2, ya, yb, yc, yd, ye, yf, yg, yh, yi, yj, yk, ym, Nat.reduceSub, Nat.reduceAdd, if_true, if_false, decide_eq_true_eq, pIsi2_def, h1, h2, Bool.false_eq_true, ↓reduceIte]
theorem lik_a1 {v : Bool} (h1 : fIsi2 "list" "tuple" (.frz d) = some (rB false)) (h2 : fIsi2 "list" "tuple" (.frz e) = some (rB false)) (a1 : fIsi "bool" (.frz d) = some (rB l1)) (a2 : fIsi "bool" (.frz e) = some (rB l2)) (hv : fEq (.frz d) (.frz e) = some (rB v)) : runF [] 3 (likB c) [fz d, fz e] = .ok (rB (decide (l1 = l2) && v), [some (fz d), some (fz e)]) := by
  unfold likB
  cases l1 <;> cases l2 <;> simp only [q0, q4, q6, q7, q8, q9, qf, qj, qm, qn, qp, qu, qw, qx, qy, qz, qA, qB, qC, qD, qE, qF, qG, qH, qI, qJ, qK, qL, qM, qN, qO, qP, qQ, qR, qS, qT, qU, qV, qW, qX, qY, qZ, w6, w7, wa, wb, wc, wd, we, wg, wh, wj, wl, wm, wn, wo, wp, wq, wr, wt, wu, wv, ww, wx, wy, wz, wA, wB, wC, wD, wE, wF, wG, wH, wI, wJ, wK, wM, wN, wO, wQ, wS, wT, wU, wV, wW, wX, wY, wZ, xa, xb, xc, xf, xg, xh, xi, xj, xk, xl, xm, xn, xo, xq, xr, xt, xu, xv, xw, xx, xy, xz, xA, xB, xC, xE, xG, xH, xI, xJ, xK, xL, xM, xN, xO, xP, xQ, xR, xS, xT, xU, xV, xW, List.map_cons, List.map_nil, List.length_cons, List.length_nil, List.cons_append, List.nil_append, List.set_cons_zero, List.set_cons_succ, List.getElem?_cons_zero, List.getElem?_cons_succ, Option.bind_some, Option.map_some, List.replicate_succ, xX, xY, xZ, y0, y1, y2, ya, yb, yc, yd, ye, yf, yg, yh, yi, yj, yk, ym, Nat.reduceSub, Nat.reduceAdd, if_true, if_false, decide_eq_true_eq, pIsi2_def, pIsi_def, h1, h2, a1, a2, hv, fEq_b, decide_true, decide_false, Bool.true_and, Bool.false_and, Bool.false_eq_true, Bool.true_eq_false, reduceCtorEq, ↓reduceIte]
end
/-- the items of a list or a tuple -/
def itemsK : PD → List PD
  | .list xs => xs
  | .tuple xs => xs
  | _ => []
theorem like_c1 {rec : List SV → Out (Res × Env)} {d e : PD} (hl1 : fLen (.frz d) = some (rInt ((itemsK d).length : Nat))) (hx1 : ∀ (i : Nat) x, (itemsK d)[i]? = some x → fIx (.frz d) (.frz (.int (i : Int))) = some (rD x)) (hx2 : ∀ (i : Nat) x, (itemsK e)[i]? = some x → fIx (.frz e) (.frz (.int (i : Int))) = some (rD x)) (hlen : (itemsK d).length = (itemsK e).length) (hz : (itemsK d).length ≤ 1000) (ih : ∀ x ∈ itemsK d, ∀ y ∈ itemsK e, rec [fz x, fz y] = .ok (rB (likeB x y), [some (fz x), some (fz y)])) :
    ∃ zs : List PD, c1_law_like rec [some (fz d), some (fz e), none] = some (rL zs) ∧ PyData.plainAll zs = true ∧ zs.isEmpty = @decide (itemsK d = itemsK e) (Classical.propDecidable _) := by
  let tt : Nat → Bool := fun i => match (itemsK d)[i]?, (itemsK e)[i]? with
    | some x, some y => !likeB x y
    | _, _ => false
  refine ⟨((List.range (itemsK d).length).filter tt).map fun i => PyData.int (0 + (i : Nat)), ?_, plain_ints _ _, ?_⟩
  · unfold c1_law_like
    have e1 : iA rng1 (vsCons (pVal (pN (f1 fLen) (psCons (pVar 0) psNil))) vsNil) [some (fz d), some (fz e), none] = some ((List.range (itemsK d).length).map fun i => .int (0 + (i : Nat))) := by
      have e2 : vsCons (pVal (pN (f1 fLen) (psCons (pVar 0) psNil))) vsNil [some (fz d), some (fz e), none] = some [.int ((itemsK d).length : Nat)] := by
        simp only [q0, q4, q6, q7, q8, q9, qf, qj, qm, qn, qp, qu, qw, qx, qy, qz, qA, qB, qC, qD, qE, qF, qG, qH, qI, qJ, qK, qL, qM, qN, qO, qP, qQ, qR, qS, qT, qU, qV, qW, qX, qY, qZ, w6, w7, wa, wb, wc, wd, we, wg, wh, wj, wl, wm, wn, wo, wp, wq, wr, wt, wu, wv, ww, wx, wy, wz, wA, wB, wC, wD, wE, wF, wG, wH, wI, wJ, wK, wM, wN, wO, wQ, wS, wT, wU, wV, wW, wX, wY, wZ, xa, xb, xc, xf, xg, xh, xi, xj, xk, xl, xm, xn, xo, xq, xr, xt, xu, xv, xw, xx, xy, xz, xA, xB, xC, xE, xG, xH, xI, xJ, xK, xL, xM, xN, xO, xP, xQ, xR, xS, xT, xU, xV, xW, List.map_cons, List.map_nil, List.length_cons, List.length_nil, List.cons_append, List.nil_append, List.set_cons_zero, List.set_cons_succ, List.getElem?_cons_zero, List.getElem?_cons_succ, Option.bind_some, Option.map_some, List.replicate_succ, xX, xY, xZ, y0, y1, y2, ya, yb, yc, yd, ye, yf, yg, yh, yi, yj, yk, ym, Nat.reduceSub, Nat.reduceAdd, if_true, if_false, decide_eq_true_eq, hl1]
      rw [wa, e2, Option.bind_some, rng1_i h62c (h62d hz)]
      show some ((List.range ((itemsK d).length : Int).toNat).map _) = _
      rw [Int.toNat_natCast]
    rw [pComp_def, e1, Option.bind_some, if_pos (len_le (n := (itemsK d).length) (by rw [List.length_map, List.length_range]) hz)]
    rw [loopP_ok (enc := fun i : Nat => PyData.int (0 + (i : Nat))) (tt := tt) (gg := fun i => .int (0 + (i : Nat))) (List.range (itemsK d).length) fun i hi => ⟨[some (fz d), some (fz e), some (fz (.int (0 + (i : Nat))))], rfl, by
      rw [List.mem_range] at hi
      have h0 : (itemsK d)[i]? = some (itemsK d)[i] := List.getElem?_eq_getElem (by omega)
      have h1 : (itemsK e)[i]? = some (itemsK e)[i] := List.getElem?_eq_getElem (by omega)
      have e2 := hx1 i _ h0
      have e3 := hx2 i _ h1
      have ea : (0 : Int) + (i : Int) = (i : Int) := by omega
      have e4 : tt i = !likeB (itemsK d)[i] (itemsK e)[i] := by
        show (match (itemsK d)[i]?, (itemsK e)[i]? with | some a, some b => !likeB a b | _, _ => false) = _
        rw [h0, h1]
      rw [e4, qS, qP, pCall_2 (d1 := (itemsK d)[i]) (d2 := (itemsK e)[i]) (by rw [qN, qG]; simp only [q0, q4, q6, q7, q8, q9, qf, qj, qm, qn, qp, qu, qw, qx, qy, qz, qA, qB, qC, qD, qE, qF, qG, qH, qI, qJ, qK, qL, qM, qN, qO, qP, qQ, qR, qS, qT, qU, qV, qW, qX, qY, qZ, w6, w7, wa, wb, wc, wd, we, wg, wh, wj, wl, wm, wn, wo, wp, wq, wr, wt, wu, wv, ww, wx, wy, wz, wA, wB, wC, wD, wE, wF, wG, wH, wI, wJ, wK, wM, wN, wO, wQ, wS, wT, wU, wV, wW, wX, wY, wZ, xa, xb, xc, xf, xg, xh, xi, xj, xk, xl, xm, xn, xo, xq, xr, xt, xu, xv, xw, xx, xy, xz, xA, xB, xC, xE, xG, xH, xI, xJ, xK, xL, xM, xN, xO, xP, xQ, xR, xS, xT, xU, xV, xW, List.map_cons, List.map_nil, List.length_cons, List.length_nil, List.cons_append, List.nil_append, List.set_cons_zero, List.set_cons_succ, List.getElem?_cons_zero, List.getElem?_cons_succ, Option.bind_some, Option.map_some, List.replicate_succ, xX, xY, xZ, y0, y1, y2, ya, yb, yc, yd, ye, yf, yg, yh, yi, yj, yk, ym, Nat.reduceSub, Nat.reduceAdd, if_true, if_false, decide_eq_true_eq, ea, e2]) (by rw [qN, qG]; simp only [q0, q4, q6, q7, q8, q9, qf, qj, qm, qn, qp, qu, qw, qx, qy, qz, qA, qB, qC, qD, qE, qF, qG, qH, qI, qJ, qK, qL, qM, qN, qO, qP, qQ, qR, qS, qT, qU, qV, qW, qX, qY, qZ, w6, w7, wa, wb, wc, wd, we, wg, wh, wj, wl, wm, wn, wo, wp, wq, wr, wt, wu, wv, ww, wx, wy, wz, wA, wB, wC, wD, wE, wF, wG, wH, wI, wJ, wK, wM, wN, wO, wQ, wS, wT, wU, wV, wW, wX, wY, wZ, xa, xb, xc, xf, xg, xh, xi, xj, xk, xl, xm, xn, xo, xq, xr, xt, xu, xv, xw, xx, xy, xz, xA, xB, xC, xE, xG, xH, xI, xJ, xK, xL, xM, xN, xO, xP, xQ, xR, xS, xT, xU, xV, xW, List.map_cons, List.map_nil, List.length_cons, List.length_nil, List.cons_append, List.nil_append, List.set_cons_zero, List.set_cons_succ, List.getElem?_cons_zero, List.getElem?_cons_succ, Option.bind_some, Option.map_some, List.replicate_succ, xX, xY, xZ, y0, y1, y2, ya, yb, yc, yd, ye, yf, yg, yh, yi, yj, yk, ym, Nat.reduceSub, Nat.reduceAdd, if_true, if_false, decide_eq_true_eq, ea, e3]) (ih _ (List.getElem_mem _) _ (List.getElem_mem _))]
      rfl, fun _ => rfl⟩]
    rfl
  · rw [Bool.eq_iff_iff, List.isEmpty_iff, List.map_eq_nil_iff, List.filter_eq_nil_iff, @decide_eq_true_iff _ (Classical.propDecidable _)]
    constructor
    · intro h
      refine List.ext_getElem hlen fun i h1 h2 => ?_
      have q := h i (List.mem_range.2 h1)
      have e4 : tt i = !likeB (itemsK d)[i] (itemsK e)[i] := by
        show (match (itemsK d)[i]?, (itemsK e)[i]? with | some a, some b => !likeB a b | _, _ => false) = _
        rw [List.getElem?_eq_getElem h1, List.getElem?_eq_getElem h2]
      rw [e4] at q
      exact likeB_iff.1 (by simpa using q)
    · intro h i hi
      rw [List.mem_range] at hi
      have e4 : tt i = !likeB (itemsK d)[i] (itemsK d)[i] := by
        show (match (itemsK d)[i]?, (itemsK e)[i]? with | some a, some b => !likeB a b | _, _ => false) = _
        rw [← h, List.getElem?_eq_getElem hi]
      rw [e4, likeB_self]; decide
theorem Gd.items {L n : Nat} {d : PD} (h : Gd L n d) (hs : seqK d = true) : (itemsK d).length ≤ L ∧ ∃ m, n = m + 1 ∧ ∀ x ∈ itemsK d, Gd L m x := by
  cases n with
  | zero => cases d <;> first | exact ff_ hs | exact absurd h id
  | succ m => cases d <;> first | exact ff_ hs | exact ⟨h.1, m, rfl, h.2⟩
theorem len_K {d : PD} (hs : seqK d = true) : fLen (.frz d) = some (rInt ((itemsK d).length : Nat)) := by
  cases d <;> first | exact ff_ hs | rfl
theorem ix_K {d : PD} (hs : seqK d = true) (i : Nat) (x : PD) (h : (itemsK d)[i]? = some x) : fIx (.frz d) (.frz (.int (i : Int))) = some (rD x) := by
  cases d with
  | list xs =>
    have h : xs[i]? = some x := h
    show (atI xs (i : Int)).map rD = _; rw [atI_at rfl h]; rfl
  | tuple xs =>
    have h : xs[i]? = some x := h
    show (atI xs (i : Int)).map rD = _; rw [atI_at rfl h]; rfl
  | _ => exact ff_ hs
theorem law_like_ok {L : Nat} (hL : L ≤ 1000) : ∀ (n : Nat) (d e : PD), Gd L n d → Gd L n e → φ_law_like (n + 1) [fz d, fz e] = .ok (rB (likeB d e), [some (fz d), some (fz e)]) := by
  intro n
  induction n with
  | zero =>
    intro d e h1 h2
    show runF [] 3 (m_law_like (φ_law_like 0)) _ = _
    rw [likB_eq]
    have s1 : seqK d = false := by cases d <;> first | rfl | exact absurd h1 id
    have s2 : seqK e = false := by cases e <;> first | rfl | exact absurd h2 id
    have := lik_a1 (c := c1_law_like (φ_law_like 0)) (by rw [isi2_seq h1, s1]) (by rw [isi2_seq h2, s2]) (isi_bolK h1) (isi_bolK h2) (fEq_at s1 s2 h1 h2)
    rw [like_at s1 s2 h1 h2] at this
    exact this
  | succ n ih =>
    intro d e h1 h2
    show runF [] 3 (m_law_like (φ_law_like (n + 1))) _ = _
    rw [likB_eq]
    have i1 := isi2_seq h1
    have i2 := isi2_seq h2
    cases s1 : seqK d with
    | false =>
      rw [s1] at i1
      cases s2 : seqK e with
      | false =>
        rw [s2] at i2
        have := lik_a1 (c := c1_law_like (φ_law_like (n + 1))) i1 i2 (isi_bolK h1) (isi_bolK h2) (fEq_at s1 s2 h1 h2)
        rw [like_at s1 s2 h1 h2] at this
        exact this
      | true =>
        rw [s2] at i2
        have hne : likeB d e = false := by
          rw [Bool.eq_false_iff]
          intro q
          rw [likeB_iff] at q
          rw [q, s2] at s1; cases s1
        rw [hne]
        exact lik_a0 i1 i2
    | true =>
      rw [s1] at i1
      by_cases hk : (decide (lstK d = lstK e) && decide (tupK d = tupK e)) = true
      · have k1 : lstK d = lstK e := by rw [Bool.and_eq_true, decide_eq_true_iff] at hk; exact hk.1
        have k2 : tupK d = tupK e := by rw [Bool.and_eq_true, decide_eq_true_iff, decide_eq_true_iff] at hk; exact hk.2
        have s2 : seqK e = true := by
          cases d <;> first | exact ff_ s1 | (cases e <;> first | rfl | exact ff_ k1.symm | exact ff_ k2.symm)
        have a2 := isi_lstK h2
        have b2 := isi_tupK h2
        rw [← k1] at a2
        rw [← k2] at b2
        obtain ⟨z1, m, hm, g1⟩ := h1.items s1
        obtain ⟨z2, m', hm', g2⟩ := h2.items s2
        have em : m = n := by omega
        have em' : m' = n := by omega
        rw [em] at g1
        rw [em'] at g2
        have hinj : likeB d e = @decide (itemsK d = itemsK e) (Classical.propDecidable _) := by
          rw [Bool.eq_iff_iff, likeB_iff, @decide_eq_true_iff _ (Classical.propDecidable _)]
          cases d <;> first | exact ff_ s1 | (cases e <;> first | exact ff_ s2 | exact ff_ k1 | exact tf_ k1 | exact ff_ k2 | exact tf_ k2 | simp [itemsK])
        by_cases hl : (((itemsK d).length : Nat) : Int) = (((itemsK e).length : Nat) : Int)
        · obtain ⟨zs, c1, c2, c3⟩ := like_c1 (rec := φ_law_like (n + 1)) (len_K s1) (ix_K s1) (ix_K s2) (by omega) (by omega) (fun x hx y hy => ih x y (g1 x hx) (g2 y hy))
          have e2 := len_K s2
          rw [← hl] at e2
          have := lik_all i1 (isi_lstK h1) a2 (isi_tupK h1) b2 (len_K s1) e2 c1 c2
          rw [c3, ← hinj] at this
          exact this
        · have : likeB d e = false := by
            rw [hinj]
            refine @decide_eq_false _ (Classical.propDecidable _) fun q => ?_
            rw [q] at hl; exact hl rfl
          rw [this]
          exact lik_len i1 (isi_lstK h1) a2 (isi_tupK h1) b2 (len_K s1) (len_K s2) (eq_false hl)
      · have hk' : (decide (lstK d = lstK e) && decide (tupK d = tupK e)) = false := Bool.eq_false_iff.2 hk
        have hne : likeB d e = false := by
          rw [Bool.eq_false_iff]
          intro q
          rw [likeB_iff] at q
          rw [q] at hk
          exact hk (by simp)
        rw [hne]
        exact lik_kind i1 (isi_lstK h1) (isi_lstK h2) (isi_tupK h1) (isi_tupK h2) hk'
end Mm
namespace Mm
open PySem PySem.Spec L2
set_option autoImplicit false
theorem Gd.mono {L L' : Nat} (hL : L ≤ L') : ∀ {n n' : Nat} {d : PD}, n ≤ n' → Gd L n d → Gd L' n' d := by
  intro n
  induction n with
  | zero =>
    intro n' d _ h
    cases d <;> first | exact absurd h id | (cases n' <;> first | trivial | exact Nat.le_trans h hL)
  | succ n ih =>
    intro n' d hn h
    cases n' with
    | zero => omega
    | succ n' =>
      cases d with
      | list xs => exact ⟨Nat.le_trans h.1 hL, fun x hx => ih (by omega) (h.2 x hx)⟩
      | tuple xs => exact ⟨Nat.le_trans h.1 hL, fun x hx => ih (by omega) (h.2 x hx)⟩
      | str x => exact Nat.le_trans h hL
      | int _ => trivial
      | bool _ => trivial
      | none => trivial
      | _ => exact absurd h id
theorem Gd.int {L n : Nat} {i : Int} : Gd L n (.int i) := by cases n <;> trivial
theorem Gd.bool {L n : Nat} {i : Bool} : Gd L n (.bool i) := by cases n <;> trivial
theorem Gd.none {L n : Nat} : Gd L n .none := by cases n <;> trivial
theorem Gd.str {L n : Nat} {x : Str} (h : x.length ≤ L) : Gd L n (.str x) := by cases n <;> exact h
theorem Gd.tup {L n : Nat} {xs : List PD} (h : xs.length ≤ L) (h2 : ∀ x ∈ xs, Gd L n x) : Gd L (n + 1) (.tuple xs) := ⟨h, h2⟩
theorem iArgs_def {f : List AR → Option (List PD)} {g : Env → Out (List AR × Env)} {ρ : Env} : iArgs f g ρ = (g ρ).bind fun a => oB (f a.1) fun ds => .ok (ds, a.2) := by
  unfold iArgs
  cases g ρ with
  | ok a =>
    show (match f a.1 with | some ds => .ok (ds, a.2) | none => .stuck) = oB (f a.1) fun ds => .ok (ds, a.2)
    cases f a.1 <;> rfl
  | _ => rfl
theorem rngOf1_i {n : Int} (h0 : -(2 ^ 62) ≤ n) (h1 : n < 2 ^ 62) : rngOf1 [.val (.int n)] = some (rngD 0 n.toNat) := by
  show (if -(2 ^ 62) ≤ n ∧ n < 2 ^ 62 then some (rngD 0 n.toNat) else none) = _
  rw [if_pos ⟨h0, h1⟩]
theorem rngOf1_s {n : Int} (h0 : 0 ≤ n) (h1 : n ≤ 1000000) : rngOf1 [.val (.int n)] = some (rngD 0 n.toNat) := rngOf1_i (by omega) (by omega)
theorem e10_12 : (10 : Int) ^ (12 : Int).toNat = 1000000000000 := by decide
theorem cp_c : CPow 10 12 := ⟨by decide, by decide, by decide⟩
theorem log_12 : (1000000000000 : Int).natAbs.log2 < 9000 := log2_small (by decide) (by decide +kernel)
theorem fMax2_i {a b : Int} : fMax2 [.frz (.int a), .frz (.int b)] = some (rInt (if b > a then b else a)) := rfl
def anyR : Env → Out (Fl × Env) := (mSeq (mIf (gT (tB (p2 fLt (pVar 2) (pK (.int 8))))) (mRet (g2 fIx (vGx (gLst (aVal (vGx (g2 fSub (vGx (gCall φ_law_draw (aSlot 0 (aVal (gPV (pVal (pK (.int 9)))) aNil)))) (gPV (pVal (pK (.int 2)))))) (aVal (vGx (gCall φ_law_draw (aSlot 0 (aVal (gPV (pVal (p2 fPow (pK (.int 10)) (pK (.int 12))))) aNil)))) (aVal (gPV (pVal (pK (.int 0)))) (aVal (gPV (pVal (pK (.int 61)))) aNil)))))) (gPV (pVal (pN fMax2 (psCons (pK (.int 0)) (psCons (p2 fSub (pVar 2) (pK (.int 4))) psNil))))))) mNop) (mSeq (mSet 3 (gVx (gPV (pVal (pLst (vsCons (pVal (pK (.str ""))) (vsCons (pVal (pK (.str " "))) (vsCons (pVal (pK (.str "a"))) (vsCons (pVal (pK (.str "record"))) (vsCons (pVal (pK (.str "wish"))) (vsCons (pVal (pK (.str "shelf"))) (vsCons (pVal (pK (.str "day"))) (vsCons (pVal (pK (.str "ann"))) (vsCons (pVal (pK (.str "0"))) (vsCons (pVal (pK (.str "lend"))) (vsCons (pVal (pK (.str "give"))) (vsCons (pVal (pK (.str "A"))) (vsCons (pVal (pK (.str "stock"))) (vsCons (pVal (pK (.str "a\nb"))) (vsCons (pVal (pK (.str "back"))) vsNil)))))))))))))))))))) (mRet (g2 fIx (vGx (gLst (aVal (gPV (pVal (pK (.bool true)))) (aVal (gPV (pVal (pK (.bool false)))) (aVal (gPV (pVal (pK .none))) (aVal (vGx (g2 fIx (gPV (pVal (pVar 3))) (vGx (gCall φ_law_draw (aSlot 0 (aVal (gPV (pVal (pK (.int 15)))) aNil)))))) (aVal (gPV (pVal (pTup (vsCons (pVal (pK (.int 1))) (vsCons (pVal (pK (.int 2))) vsNil))))) aNil))))))) (gPV (pVal (p2 fSub (pVar 2) (pK (.int 8)))))))))
def anyA (c : Env → Out (Res × Env)) : Env → Out (Fl × Env) := (mIf (gT (tAnd (tB (p2 fLt (pVar 2) (pK (.int 4)))) (tB (p2 fGt (pVar 1) (pK (.int 0)))))) (mSeq (mSet 3 (gFz c)) (mRet (gPx (p2 fIx (pLst (vsCons (pVal (pVar 3)) (vsCons (pVal (pN (f1 fTuple) (psCons (pVar 3) psNil))) (vsCons (pVal (pN (f1 fTuple) (psCons (pVar 3) psNil))) (vsCons (pVal (pN (f1 fTuple) (psCons (pVar 3) psNil))) vsNil))))) (pVar 2))))) mNop)
def any0 : Env → Out (Fl × Env) := (mSet 2 (gVx (vGx (gCall φ_law_draw (aSlot 0 (aVal (gPV (pVal (pK (.int 13)))) aNil))))))
theorem any_eq {rec : List SV → Out (Res × Env)} : m_law_any rec = mSeq any0 (mSeq (anyA (c1_law_any rec)) anyR) := rfl
def someStr : List PD := [.str "", .str " ", .str "a", .str "record", .str "wish", .str "shelf", .str "day", .str "ann", .str "0", .str "lend", .str "give", .str "A", .str "stock", .str "a\nb", .str "back"]
theorem someStr_ok : ∀ d ∈ someStr, Gd 15 1 d := by
  intro d hd
  simp only [someStr, List.mem_cons, List.not_mem_nil, or_false] at hd
  rcases hd with h | h | h | h | h | h | h | h | h | h | h | h | h | h | h <;> subst h <;> exact Gd.str (by decide)
theorem anyR_ok {s : SV} {a : PD} {r : Int} (h : Tp s) (h0 : 0 ≤ r) (h1 : r < 13) : ∃ d s' x3, anyR [some s, some (fz a), some (fzI r), none, none] = .ok (.rt (rD d), [some s', some (fz a), some (fzI r), x3, none]) ∧ Gd 15 1 d ∧ Tp s' := by
  unfold anyR
  by_cases h8 : r < 8
  · obtain ⟨r1, s1, e1, a0, a1, t1⟩ := draw_ok h (m := 9) (by decide) (by decide)
    obtain ⟨r2, s2, e2, b0, b1, t2⟩ := draw_ok t1 (m := 1000000000000) (by decide) log_12
    obtain ⟨d, hd, hx⟩ := ixs (ds := [.int (r1 - 2), .int r2, .int 0, .int 61]) (r := if r - 4 > 0 then r - 4 else 0) (by split <;> omega) (by split <;> (simp only [List.length_cons, List.length_nil]; omega))
    refine ⟨d, s2, none, ?_, ?_, t2⟩
    · simp only [q0, q4, q6, q7, q8, q9, qf, qj, qm, qn, qp, qu, qw, qx, qy, qz, qA, qB, qC, qD, qE, qF, qG, qH, qI, qJ, qK, qL, qM, qN, qO, qP, qQ, qR, qS, qT, qU, qV, qW, qX, qY, qZ, w6, w7, wa, wb, wc, wd, we, wg, wh, wj, wl, wm, wn, wo, wp, wq, wr, wt, wu, wv, ww, wx, wy, wz, wA, wB, wC, wD, wE, wF, wG, wH, wI, wJ, wK, wM, wN, wO, wQ, wS, wT, wU, wV, wW, wX, wY, wZ, xa, xb, xc, xf, xg, xh, xi, xj, xk, xl, xm, xn, xo, xq, xr, xt, xu, xv, xw, xx, xy, xz, xA, xB, xC, xE, xG, xH, xI, xJ, xK, xL, xM, xN, xO, xP, xQ, xR, xS, xT, xU, xV, xW, List.map_cons, List.map_nil, List.length_cons, List.length_nil, List.cons_append, List.nil_append, List.set_cons_zero, List.set_cons_succ, List.getElem?_cons_zero, List.getElem?_cons_succ, Option.bind_some, Option.map_some, List.replicate_succ, xX, xY, xZ, y0, y1, y2, ya, yb, yc, yd, ye, yf, yg, yh, yi, yj, yk, ym, Nat.reduceSub, Nat.reduceAdd, if_true, if_false, decide_eq_true_eq, h8, e1, e2, fPow_i cp_c, e10_12, fMax2_i, hx]
    · simp only [List.mem_cons, List.not_mem_nil, or_false] at hd
      rcases hd with e | e | e | e <;> rw [e] <;> exact Gd.int
  · obtain ⟨r1, s1, e1, a0, a1, t1⟩ := draw_ok h (m := 15) (by decide) (by decide)
    obtain ⟨d, hd, hx⟩ := ixs (ds := someStr) (r := r1) a0 (by show r1 < 15; exact a1)
    obtain ⟨d2, hd2, hx2⟩ := ixs (ds := [.bool true, .bool false, .none, d, .tuple [.int 1, .int 2]]) (r := r - 8) (by omega) (by simp only [List.length_cons, List.length_nil]; omega)
    refine ⟨d2, s1, some (fz (.list someStr)), ?_, ?_, t1⟩
    · unfold someStr at hx
      simp only [q0, q4, q6, q7, q8, q9, qf, qj, qm, qn, qp, qu, qw, qx, qy, qz, qA, qB, qC, qD, qE, qF, qG, qH, qI, qJ, qK, qL, qM, qN, qO, qP, qQ, qR, qS, qT, qU, qV, qW, qX, qY, qZ, w6, w7, wa, wb, wc, wd, we, wg, wh, wj, wl, wm, wn, wo, wp, wq, wr, wt, wu, wv, ww, wx, wy, wz, wA, wB, wC, wD, wE, wF, wG, wH, wI, wJ, wK, wM, wN, wO, wQ, wS, wT, wU, wV, wW, wX, wY, wZ, xa, xb, xc, xf, xg, xh, xi, xj, xk, xl, xm, xn, xo, xq, xr, xt, xu, xv, xw, xx, xy, xz, xA, xB, xC, xE, xG, xH, xI, xJ, xK, xL, xM, xN, xO, xP, xQ, xR, xS, xT, xU, xV, xW, List.map_cons, List.map_nil, List.length_cons, List.length_nil, List.cons_append, List.nil_append, List.set_cons_zero, List.set_cons_succ, List.getElem?_cons_zero, List.getElem?_cons_succ, Option.bind_some, Option.map_some, List.replicate_succ, xX, xY, xZ, y0, y1, y2, ya, yb, yc, yd, ye, yf, yg, yh, yi, yj, yk, ym, Nat.reduceSub, Nat.reduceAdd, if_true, if_false, decide_eq_true_eq, h8, e1, hx, hx2]
      rfl
    · simp only [List.mem_cons, List.not_mem_nil, or_false] at hd2
      rcases hd2 with e | e | e | e | e <;> rw [e]
      · exact Gd.bool
      · exact Gd.bool
      · exact Gd.none
      · exact someStr_ok d hd
      · exact Gd.tup (by decide) (by
          intro x hx
          simp only [List.mem_cons, List.not_mem_nil, or_false] at hx
          rcases hx with e | e <;> rw [e] <;> exact Gd.int)
theorem anyA_no {c : Env → Out (Res × Env)} {s : SV} {a r : Int} (h : r < 4 → ¬ 0 < a) : anyA c [some s, some (fzI a), some (fzI r), none, none] = .ok (.nx, [some s, some (fzI a), some (fzI r), none, none]) := by
  unfold anyA
  by_cases h4 : r < 4
  · have := h h4
    simp only [q0, q4, q6, q7, q8, q9, qf, qj, qm, qn, qp, qu, qw, qx, qy, qz, qA, qB, qC, qD, qE, qF, qG, qH, qI, qJ, qK, qL, qM, qN, qO, qP, qQ, qR, qS, qT, qU, qV, qW, qX, qY, qZ, w6, w7, wa, wb, wc, wd, we, wg, wh, wj, wl, wm, wn, wo, wp, wq, wr, wt, wu, wv, ww, wx, wy, wz, wA, wB, wC, wD, wE, wF, wG, wH, wI, wJ, wK, wM, wN, wO, wQ, wS, wT, wU, wV, wW, wX, wY, wZ, xa, xb, xc, xf, xg, xh, xi, xj, xk, xl, xm, xn, xo, xq, xr, xt, xu, xv, xw, xx, xy, xz, xA, xB, xC, xE, xG, xH, xI, xJ, xK, xL, xM, xN, xO, xP, xQ, xR, xS, xT, xU, xV, xW, List.map_cons, List.map_nil, List.length_cons, List.length_nil, List.cons_append, List.nil_append, List.set_cons_zero, List.set_cons_succ, List.getElem?_cons_zero, List.getElem?_cons_succ, Option.bind_some, Option.map_some, List.replicate_succ, xX, xY, xZ, y0, y1, y2, ya, yb, yc, yd, ye, yf, yg, yh, yi, yj, yk, ym, Nat.reduceSub, Nat.reduceAdd, if_true, if_false, decide_eq_true_eq, h4, this, decide_true, decide_false, Bool.false_eq_true, ↓reduceIte]
  · simp only [q0, q4, q6, q7, q8, q9, qf, qj, qm, qn, qp, qu, qw, qx, qy, qz, qA, qB, qC, qD, qE, qF, qG, qH, qI, qJ, qK, qL, qM, qN, qO, qP, qQ, qR, qS, qT, qU, qV, qW, qX, qY, qZ, w6, w7, wa, wb, wc, wd, we, wg, wh, wj, wl, wm, wn, wo, wp, wq, wr, wt, wu, wv, ww, wx, wy, wz, wA, wB, wC, wD, wE, wF, wG, wH, wI, wJ, wK, wM, wN, wO, wQ, wS, wT, wU, wV, wW, wX, wY, wZ, xa, xb, xc, xf, xg, xh, xi, xj, xk, xl, xm, xn, xo, xq, xr, xt, xu, xv, xw, xx, xy, xz, xA, xB, xC, xE, xG, xH, xI, xJ, xK, xL, xM, xN, xO, xP, xQ, xR, xS, xT, xU, xV, xW, List.map_cons, List.map_nil, List.length_cons, List.length_nil, List.cons_append, List.nil_append, List.set_cons_zero, List.set_cons_succ, List.getElem?_cons_zero, List.getElem?_cons_succ, Option.bind_some, Option.map_some, List.replicate_succ, xX, xY, xZ, y0, y1, y2, ya, yb, yc, yd, ye, yf, yg, yh, yi, yj, yk, ym, Nat.reduceSub, Nat.reduceAdd, if_true, if_false, decide_eq_true_eq, h4, decide_false, Bool.false_eq_true, ↓reduceIte]
theorem anyA_yes {c : Env → Out (Res × Env)} {s s' : SV} {a r : Int} {ds : List PD} {d : PD} (h4 : r < 4) (ha : 0 < a) (hc : c [some s, some (fzI a), some (fzI r), none, none] = .ok (rL ds, [some s', some (fzI a), some (fzI r), none, none])) (hx : atI [.list ds, .tuple ds, .tuple ds, .tuple ds] r = some d) : anyA c [some s, some (fzI a), some (fzI r), none, none] = .ok (.rt (rD d), [some s', some (fzI a), some (fzI r), some (fz (.list ds)), none]) := by
  unfold anyA
  simp only [q0, q4, q6, q7, q8, q9, qf, qj, qm, qn, qp, qu, qw, qx, qy, qz, qA, qB, qC, qD, qE, qF, qG, qH, qI, qJ, qK, qL, qM, qN, qO, qP, qQ, qR, qS, qT, qU, qV, qW, qX, qY, qZ, w6, w7, wa, wb, wc, wd, we, wg, wh, wj, wl, wm, wn, wo, wp, wq, wr, wt, wu, wv, ww, wx, wy, wz, wA, wB, wC, wD, wE, wF, wG, wH, wI, wJ, wK, wM, wN, wO, wQ, wS, wT, wU, wV, wW, wX, wY, wZ, xa, xb, xc, xf, xg, xh, xi, xj, xk, xl, xm, xn, xo, xq, xr, xt, xu, xv, xw, xx, xy, xz, xA, xB, xC, xE, xG, xH, xI, xJ, xK, xL, xM, xN, xO, xP, xQ, xR, xS, xT, xU, xV, xW, List.map_cons, List.map_nil, List.length_cons, List.length_nil, List.cons_append, List.nil_append, List.set_cons_zero, List.set_cons_succ, List.getElem?_cons_zero, List.getElem?_cons_succ, Option.bind_some, Option.map_some, List.replicate_succ, xX, xY, xZ, y0, y1, y2, ya, yb, yc, yd, ye, yf, yg, yh, yi, yj, yk, ym, Nat.reduceSub, Nat.reduceAdd, if_true, if_false, decide_eq_true_eq, gFz, h4, ha, hc, fTuple_l, decide_true, hx]
theorem any0_ok {s s1 : SV} {a : PD} {r : Int} (e : φ_law_draw [s, fzI 13] = .ok (rInt r, [some s1, some (fzI 13)])) : any0 [some s, some (fz a), none, none, none] = .ok (.nx, [some s1, some (fz a), some (fzI r), none, none]) := by
  unfold any0
  simp only [q0, q4, q6, q7, q8, q9, qf, qj, qm, qn, qp, qu, qw, qx, qy, qz, qA, qB, qC, qD, qE, qF, qG, qH, qI, qJ, qK, qL, qM, qN, qO, qP, qQ, qR, qS, qT, qU, qV, qW, qX, qY, qZ, w6, w7, wa, wb, wc, wd, we, wg, wh, wj, wl, wm, wn, wo, wp, wq, wr, wt, wu, wv, ww, wx, wy, wz, wA, wB, wC, wD, wE, wF, wG, wH, wI, wJ, wK, wM, wN, wO, wQ, wS, wT, wU, wV, wW, wX, wY, wZ, xa, xb, xc, xf, xg, xh, xi, xj, xk, xl, xm, xn, xo, xq, xr, xt, xu, xv, xw, xx, xy, xz, xA, xB, xC, xE, xG, xH, xI, xJ, xK, xL, xM, xN, xO, xP, xQ, xR, xS, xT, xU, xV, xW, List.map_cons, List.map_nil, List.length_cons, List.length_nil, List.cons_append, List.nil_append, List.set_cons_zero, List.set_cons_succ, List.getElem?_cons_zero, List.getElem?_cons_succ, Option.bind_some, Option.map_some, List.replicate_succ, xX, xY, xZ, y0, y1, y2, ya, yb, yc, yd, ye, yf, yg, yh, yi, yj, yk, ym, Nat.reduceSub, Nat.reduceAdd, if_true, if_false, decide_eq_true_eq, e]
theorem run0_any {m : Env → Out (Fl × Env)} {s s' : SV} {a : PD} {r : Res} {ρ : Env} (h : Tp s) (e : m [some s, some (fz a), none, none, none] = .ok (.rt r, some s' :: ρ)) : runF [0] 5 m [s, fz a] = .ok (r, [some s', some (fz a)]) := by
  simp only [q0, q4, q6, q7, q8, q9, qf, qj, qm, qn, qp, qu, qw, qx, qy, qz, qA, qB, qC, qD, qE, qF, qG, qH, qI, qJ, qK, qL, qM, qN, qO, qP, qQ, qR, qS, qT, qU, qV, qW, qX, qY, qZ, w6, w7, wa, wb, wc, wd, we, wg, wh, wj, wl, wm, wn, wo, wp, wq, wr, wt, wu, wv, ww, wx, wy, wz, wA, wB, wC, wD, wE, wF, wG, wH, wI, wJ, wK, wM, wN, wO, wQ, wS, wT, wU, wV, wW, wX, wY, wZ, xa, xb, xc, xf, xg, xh, xi, xj, xk, xl, xm, xn, xo, xq, xr, xt, xu, xv, xw, xx, xy, xz, xA, xB, xC, xE, xG, xH, xI, xJ, xK, xL, xM, xN, xO, xP, xQ, xR, xS, xT, xU, xV, xW, List.map_cons, List.map_nil, List.length_cons, List.length_nil, List.cons_append, List.nil_append, List.set_cons_zero, List.set_cons_succ, List.getElem?_cons_zero, List.getElem?_cons_succ, Option.bind_some, Option.map_some, List.replicate_succ, xX, xY, xZ, y0, y1, y2, ya, yb, yc, yd, ye, yf, yg, yh, yi, yj, yk, ym, Nat.reduceSub, Nat.reduceAdd, if_true, if_false, decide_eq_true_eq, e, outR_tp h]
end Mm
namespace Mm
open PySem PySem.Spec L2
set_option autoImplicit false
def spW (rec dr an : List SV → Out (Res × Env)) : Env → Out (Fl × Env) := (mIf (gT (tB (p2 fLt (pVar 4) (pK (.int 8))))) (mPut 3 (vGx (gCall rec (aSlot 0 (aVal (gPV (pVal (p2 fIx (pVar 3) (pVar 2)))) aNil)))) (gPV (pVal (pVar 2)))) (mIf (gT (tB (p2 fEq (pVar 4) (pK (.int 8))))) (mDrop (gPopAt 3 (gPV (pVal (pVar 2))))) (mIf (gT (tB (p2 fEq (pVar 4) (pK (.int 9))))) (mInsert 3 (gPV (pVal (pVar 2))) (vGx (gIxS 3 (vGx (gCall dr (aSlot 0 (aVal (gPV (pVal (pN (f1 fLen) (psCons (pVar 3) psNil)))) aNil))))))) (mIf (gT (tB (p2 fEq (pVar 4) (pK (.int 10))))) (mSet 3 (gPx (p1 fRev (pVar 3)))) (mInsert 3 (gPV (pVal (pVar 2))) (vGx (gCall an (aSlot 0 (aVal (gPV (pVal (pK (.int 1)))) aNil)))))))))
def spA (w : Env → Out (Fl × Env)) : Env → Out (Fl × Env) := (mIf (tAndM (gT (tB (pIsi2 "tuple" "list" (pVar 1)))) (tAndM (gT (tB (p2 fGt (pN (f1 fLen) (psCons (pVar 1) psNil)) (pK (.int 0))))) (fun ρ => tOf (g2 fGt (vGx (gCall φ_law_draw (aSlot 0 (aVal (gPV (pVal (pK (.int 7)))) aNil)))) (gPV (pVal (pK (.int 0)))) ρ)))) (mSeq (mSet 2 (gVx (vGx (gCall φ_law_draw (aSlot 0 (aVal (gPV (pVal (pN (f1 fLen) (psCons (pVar 1) psNil)))) aNil)))))) (mSeq (mSet 3 (gPx (pN (f1 fList) (psCons (pVar 1) psNil)))) (mSeq (mSet 4 (gVx (vGx (gCall φ_law_draw (aSlot 0 (aVal (gPV (pVal (pK (.int 12)))) aNil)))))) (mSeq w (mIf (gT (tB (pIsi "tuple" (pVar 1)))) (mRet (gPx (pN (f1 fTuple) (psCons (pVar 3) psNil)))) (mRetOwn 3)))))) mNop)
def spB : Env → Out (Fl × Env) := (mIf (tAndM (gT (tB (pCall φ_law_whole (vsCons (pVal (pVar 1)) vsNil)))) (fun ρ => tOf (g2 fGt (vGx (gCall φ_law_draw (aSlot 0 (aVal (gPV (pVal (pK (.int 6)))) aNil)))) (gPV (pVal (pK (.int 0)))) ρ))) (mRet (g2 fAdd (gPV (pVal (pVar 1))) (vGx (g2 fIx (gPV (pVal (pLst (vsCons (pVal (pK (.int 1))) (vsCons (pVal (p1 fNeg (pK (.int 1)))) (vsCons (pVal (pK (.int 2))) (vsCons (pVal (p1 fNeg (pK (.int 2)))) (vsCons (pVal (pK (.int 9))) (vsCons (pVal (pK (.int 1000))) vsNil))))))))) (vGx (gCall φ_law_draw (aSlot 0 (aVal (gPV (pVal (pK (.int 6)))) aNil)))))))) mNop)
def spC : Env → Out (Fl × Env) := (mIf (tAndM (gT (tB (pIsi "str" (pVar 1)))) (fun ρ => tOf (g2 fGt (vGx (gCall φ_law_draw (aSlot 0 (aVal (gPV (pVal (pK (.int 3)))) aNil)))) (gPV (pVal (pK (.int 0)))) ρ))) (mSeq (mSet 5 (gVx (vGx (gCall φ_law_draw (aSlot 0 (aVal (gPV (pVal (p2 fAdd (pN (f1 fLen) (psCons (pVar 1) psNil)) (pK (.int 1))))) aNil)))))) (mRet (g2 fAdd (vGx (g2 fAdd (gPV (pVal (pCut (pVar 1) (fun _ => some none) (pInt (pVar 5))))) (vGx (g2 fIx (gPV (pVal (pLst (vsCons (pVal (pK (.str " "))) (vsCons (pVal (pK (.str "z"))) (vsCons (pVal (pK (.str "A"))) (vsCons (pVal (pK (.str "|"))) (vsCons (pVal (pK (.str "abcdefgh"))) (vsCons (pVal (pK (.str ""))) vsNil))))))))) (vGx (gCall φ_law_draw (aSlot 0 (aVal (gPV (pVal (pK (.int 6)))) aNil)))))))) (gPV (pVal (pCut (pVar 1) (pInt (pVar 5)) (fun _ => some none))))))) mNop)
def spD : Env → Out (Fl × Env) := (mIf (tAndM (gT (tB (pIsi2 "tuple" "list" (pVar 1)))) (fun ρ => tOf (g2 fEq (vGx (gCall φ_law_draw (aSlot 0 (aVal (gPV (pVal (pK (.int 2)))) aNil)))) (gPV (pVal (pK (.int 0)))) ρ))) (mRet (gPx (pIf (tB (pIsi "tuple" (pVar 1))) (pN (f1 fList) (psCons (pVar 1) psNil)) (pN (f1 fTuple) (psCons (pVar 1) psNil))))) mNop)
def spE : Env → Out (Fl × Env) := (mRet (gCall (φ_law_any nR_law_any) (aSlot 0 (aVal (gPV (pVal (pK (.int 2)))) aNil))))
theorem sp_eq {rec : List SV → Out (Res × Env)} : m_law_spoilt rec = mSeq (spA (spW rec φ_law_draw (φ_law_any nR_law_any))) (mSeq spB (mSeq spC (mSeq spD spE))) := rfl
theorem isi_tupA {d : PD} (hs : seqK d = true) : fIsi2 "tuple" "list" (.frz d) = some (rB true) := by
  cases d <;> first | exact ff_ hs | rfl
theorem small_log2 {m : Int} (h0 : 0 ≤ m) (h : m ≤ 1000000) : m.natAbs.log2 < 9000 := log2_small h0 (Int.lt_of_le_of_lt h (by decide +kernel))
theorem mIf_t {t : Env → Out (Bool × Env)} {a b : Env → Out (Fl × Env)} {ρ ρ' : Env} (h : t ρ = .ok (true, ρ')) : mIf t a b ρ = a ρ' := by
  rw [wS, h]; rfl
theorem mIf_f {t : Env → Out (Bool × Env)} {a b : Env → Out (Fl × Env)} {ρ ρ' : Env} (h : t ρ = .ok (false, ρ')) : mIf t a b ρ = b ρ' := by
  rw [wS, h]; rfl
theorem mDrop_ok {g : Env → Out (Res × Env)} {ρ ρ' : Env} {r : Res} (h : g ρ = .ok (r, ρ')) : mDrop g ρ = .ok (.nx, ρ') := by
  rw [wN, h]; rfl
theorem ixN_nat {n j : Nat} (h : j < n) : ixN n (j : Int) = some j := by
  unfold ixN
  rw [if_pos (by omega), if_pos (by omega), Int.toNat_natCast]
theorem put_lst {xs : List PD} {j : Nat} {d : PD} (h : j < xs.length) : (S1.lst xs).put (.int (j : Int)) d = some (.lst (xs.set j d)) := by
  show (ixN xs.length (j : Int)).map _ = _
  rw [ixN_nat h]; rfl
theorem popAt_ok {i : Nat} {ρ ρ' : Env} {xs xs' : List PD} {j : Nat} {g : Env → Out (PD × Env)} (h0 : getS i ρ = some (.lst xs')) (hg : g ρ = .ok (.int (j : Int), ρ')) (h1 : getS i ρ' = some (.lst xs)) (hj : j < xs.length) (hl : xs.length ≤ 1000000) : ∃ d, gPopAt i g ρ = .ok (rD d, upSlot i (.lst (xs.eraseIdx j)) ρ') ∧ d ∈ xs := by
  refine ⟨xs[j], ?_, List.getElem_mem hj⟩
  unfold gPopAt
  rw [h0]
  show (g ρ).bind _ = _
  rw [hg, q4]
  dsimp only
  rw [h1]
  dsimp only
  rw [if_pos ⟨by omega, by omega⟩]
  have : seqIndex? (j : Int) xs.length = some j := by
    unfold seqIndex?
    have h0 : ¬ ((j : Int) < 0) := by omega
    simp [h0, hj]
  rw [this]
  dsimp only
  rw [List.getElem?_eq_getElem hj]
theorem insert_ok {i : Nat} {ρ ρ1 ρ2 : Env} {xs xs' : List PD} {j : Nat} {d : PD} {gk gv : Env → Out (PD × Env)} (h0 : getS i ρ = some (.lst xs')) (hk : gk ρ = .ok (.int (j : Int), ρ1)) (hv : gv ρ1 = .ok (d, ρ2)) (h1 : getS i ρ2 = some (.lst xs)) (hj : j ≤ 1000000) (hl : xs.length ≤ 1000000) : mInsert i gk gv ρ = .ok (.nx, upSlot i (.lst (xs.take j ++ [d] ++ xs.drop j)) ρ2) := by
  unfold mInsert
  rw [h0]
  show (gk ρ).bind _ = _
  rw [hk, q4]
  dsimp only
  rw [hv, q4]
  dsimp only
  rw [h1]
  dsimp only
  have : 1000000 < sizeLine := by decide
  rw [if_pos ⟨by omega, by omega, by omega⟩, Int.toNat_natCast]
theorem ixS_ok {i : Nat} {ρ ρ' : Env} {s0 s : S1} {d : PD} {r : Res} {g : Env → Out (PD × Env)} (h0 : getS i ρ = some s0) (hg : g ρ = .ok (d, ρ')) (h1 : getS i ρ' = some s) (hr : fIx s (.frz d) = some r) : gIxS i g ρ = lift (some r) ρ' := by
  unfold gIxS
  rw [h0]
  show (g ρ).bind _ = _
  rw [hg, q4]
  dsimp only
  rw [h1]
  show lift (fIx s (.frz d)) ρ' = _
  rw [hr]
theorem fRev_o {xs : List PD} : fRev (.lst xs) = some (rL xs.reverse) := rfl
theorem fIx_at {xs : List PD} {j : Nat} {x : PD} (h : xs[j]? = some x) : fIx (.lst xs) (.frz (.int (j : Int))) = some (rD x) := by
  show (atI xs (j : Int)).map rD = _
  rw [atI_at rfl h]; rfl
theorem gd_set {L n : Nat} {xs : List PD} {x : PD} {j : Nat} (h : ∀ y ∈ xs, Gd L n y) (hx : Gd L n x) : ∀ y ∈ xs.set j x, Gd L n y := fun y hy => by
  rcases List.mem_or_eq_of_mem_set hy with q | q
  · exact h y q
  · rw [q]; exact hx
theorem gd_ins {L n : Nat} {xs : List PD} {x : PD} {j : Nat} (h : ∀ y ∈ xs, Gd L n y) (hx : Gd L n x) : ∀ y ∈ xs.take j ++ [x] ++ xs.drop j, Gd L n y := fun y hy => by
  rw [List.mem_append, List.mem_append, List.mem_singleton] at hy
  rcases hy with (q | q) | q
  · exact h y (List.mem_of_mem_take q)
  · rw [q]; exact hx
  · exact h y (List.mem_of_mem_drop q)
theorem len_ins {xs : List PD} {x : PD} {j : Nat} : (xs.take j ++ [x] ++ xs.drop j).length = xs.length + 1 := by
  rw [List.length_append, List.length_append, List.length_take, List.length_drop, List.length_singleton]; omega
section
variable {s : SV} {d : PD} {L m k : Nat} {w : Int} {xs : List PD} {rec : List SV → Out (Res × Env)}
def spE_ (s : SV) (d : PD) (k : Nat) (xs : List PD) (w : Int) : Env := [some s, some (fz d), some (fzI (k : Int)), some (.one (.lst xs)), some (fzI w), none]
theorem spW_ok {dr an : List SV → Out (Res × Env)} (hd : ∀ {s : SV}, Tp s → ∀ m : Int, 0 < m → m ≤ 1000000 → ∃ r s', dr [s, fzI m] = .ok (rInt r, [some s', some (fzI m)]) ∧ 0 ≤ r ∧ r < m ∧ Tp s') (ha : ∀ {s : SV}, Tp s → ∃ d s', an [s, fz (.int 1)] = .ok (rD d, [some s', some (fz (.int 1))]) ∧ Gd 15 2 d ∧ Tp s') (h15 : 15 ≤ L) (hL : L ≤ 1000) (h : Tp s) (hk : k < xs.length) (hx : xs.length ≤ L) (hg : ∀ x ∈ xs, Gd L m x) (ih : ∀ x ∈ xs, ∀ {s : SV}, Tp s → ∃ d' r s', rec [s, fz x] = .ok (r, [some s', some (fz x)]) ∧ r.s1.bind S1.pd = some d' ∧ Gd (2 * L + 8) (m + 3) d' ∧ Tp s') :
    ∃ xs' s', spW rec dr an (spE_ s d k xs w) = .ok (.nx, spE_ s' d k xs' w) ∧ xs'.length ≤ xs.length + 1 ∧ (∀ x ∈ xs', Gd (2 * L + 8) (m + 3) x) ∧ Tp s' := by
  have up : ∀ x ∈ xs, Gd (2 * L + 8) (m + 3) x := fun x hx => Gd.mono (by omega) (by omega) (hg x hx)
  have h0 : xs[k]? = some xs[k] := List.getElem?_eq_getElem hk
  have c8 : gT (tB (p2 fLt (pVar 4) (pK (.int 8)))) (spE_ s d k xs w) = .ok (decide (w < 8), spE_ s d k xs w) := by
    unfold spE_; simp only [q0, q4, q6, q7, q8, q9, qf, qj, qm, qn, qp, qu, qw, qx, qy, qz, qA, qB, qC, qD, qE, qF, qG, qH, qI, qJ, qK, qL, qM, qN, qO, qP, qQ, qR, qS, qT, qU, qV, qW, qX, qY, qZ, w6, w7, wa, wb, wc, wd, we, wg, wh, wj, wl, wm, wn, wo, wp, wq, wr, wt, wu, wv, ww, wx, wy, wz, wA, wB, wC, wD, wE, wF, wG, wH, wI, wJ, wK, wM, wN, wO, wQ, wS, wT, wU, wV, wW, wX, wY, wZ, xa, xb, xc, xf, xg, xh, xi, xj, xk, xl, xm, xn, xo, xq, xr, xt, xu, xv, xw, xx, xy, xz, xA, xB, xC, xE, xG, xH, xI, xJ, xK, xL, xM, xN, xO, xP, xQ, xR, xS, xT, xU, xV, xW, List.map_cons, List.map_nil, List.length_cons, List.length_nil, List.cons_append, List.nil_append, List.set_cons_zero, List.set_cons_succ, List.getElem?_cons_zero, List.getElem?_cons_succ, Option.bind_some, Option.map_some, List.replicate_succ, xX, xY, xZ, y0, y1, y2, ya, yb, yc, yd, ye, yf, yg, yh, yi, yj, yk, ym, Nat.reduceSub, Nat.reduceAdd, if_true, if_false, decide_eq_true_eq]
  have d8 : gT (tB (p2 fEq (pVar 4) (pK (.int 8)))) (spE_ s d k xs w) = .ok (decide (w = 8), spE_ s d k xs w) := by
    unfold spE_; simp only [q0, q4, q6, q7, q8, q9, qf, qj, qm, qn, qp, qu, qw, qx, qy, qz, qA, qB, qC, qD, qE, qF, qG, qH, qI, qJ, qK, qL, qM, qN, qO, qP, qQ, qR, qS, qT, qU, qV, qW, qX, qY, qZ, w6, w7, wa, wb, wc, wd, we, wg, wh, wj, wl, wm, wn, wo, wp, wq, wr, wt, wu, wv, ww, wx, wy, wz, wA, wB, wC, wD, wE, wF, wG, wH, wI, wJ, wK, wM, wN, wO, wQ, wS, wT, wU, wV, wW, wX, wY, wZ, xa, xb, xc, xf, xg, xh, xi, xj, xk, xl, xm, xn, xo, xq, xr, xt, xu, xv, xw, xx, xy, xz, xA, xB, xC, xE, xG, xH, xI, xJ, xK, xL, xM, xN, xO, xP, xQ, xR, xS, xT, xU, xV, xW, List.map_cons, List.map_nil, List.length_cons, List.length_nil, List.cons_append, List.nil_append, List.set_cons_zero, List.set_cons_succ, List.getElem?_cons_zero, List.getElem?_cons_succ, Option.bind_some, Option.map_some, List.replicate_succ, xX, xY, xZ, y0, y1, y2, ya, yb, yc, yd, ye, yf, yg, yh, yi, yj, yk, ym, Nat.reduceSub, Nat.reduceAdd, if_true, if_false, decide_eq_true_eq, fEq_i]
  have d9 : gT (tB (p2 fEq (pVar 4) (pK (.int 9)))) (spE_ s d k xs w) = .ok (decide (w = 9), spE_ s d k xs w) := by
    unfold spE_; simp only [q0, q4, q6, q7, q8, q9, qf, qj, qm, qn, qp, qu, qw, qx, qy, qz, qA, qB, qC, qD, qE, qF, qG, qH, qI, qJ, qK, qL, qM, qN, qO, qP, qQ, qR, qS, qT, qU, qV, qW, qX, qY, qZ, w6, w7, wa, wb, wc, wd, we, wg, wh, wj, wl, wm, wn, wo, wp, wq, wr, wt, wu, wv, ww, wx, wy, wz, wA, wB, wC, wD, wE, wF, wG, wH, wI, wJ, wK, wM, wN, wO, wQ, wS, wT, wU, wV, wW, wX, wY, wZ, xa, xb, xc, xf, xg, xh, xi, xj, xk, xl, xm, xn, xo, xq, xr, xt, xu, xv, xw, xx, xy, xz, xA, xB, xC, xE, xG, xH, xI, xJ, xK, xL, xM, xN, xO, xP, xQ, xR, xS, xT, xU, xV, xW, List.map_cons, List.map_nil, List.length_cons, List.length_nil, List.cons_append, List.nil_append, List.set_cons_zero, List.set_cons_succ, List.getElem?_cons_zero, List.getElem?_cons_succ, Option.bind_some, Option.map_some, List.replicate_succ, xX, xY, xZ, y0, y1, y2, ya, yb, yc, yd, ye, yf, yg, yh, yi, yj, yk, ym, Nat.reduceSub, Nat.reduceAdd, if_true, if_false, decide_eq_true_eq, fEq_i]
  have d10 : gT (tB (p2 fEq (pVar 4) (pK (.int 10)))) (spE_ s d k xs w) = .ok (decide (w = 10), spE_ s d k xs w) := by
    unfold spE_; simp only [q0, q4, q6, q7, q8, q9, qf, qj, qm, qn, qp, qu, qw, qx, qy, qz, qA, qB, qC, qD, qE, qF, qG, qH, qI, qJ, qK, qL, qM, qN, qO, qP, qQ, qR, qS, qT, qU, qV, qW, qX, qY, qZ, w6, w7, wa, wb, wc, wd, we, wg, wh, wj, wl, wm, wn, wo, wp, wq, wr, wt, wu, wv, ww, wx, wy, wz, wA, wB, wC, wD, wE, wF, wG, wH, wI, wJ, wK, wM, wN, wO, wQ, wS, wT, wU, wV, wW, wX, wY, wZ, xa, xb, xc, xf, xg, xh, xi, xj, xk, xl, xm, xn, xo, xq, xr, xt, xu, xv, xw, xx, xy, xz, xA, xB, xC, xE, xG, xH, xI, xJ, xK, xL, xM, xN, xO, xP, xQ, xR, xS, xT, xU, xV, xW, List.map_cons, List.map_nil, List.length_cons, List.length_nil, List.cons_append, List.nil_append, List.set_cons_zero, List.set_cons_succ, List.getElem?_cons_zero, List.getElem?_cons_succ, Option.bind_some, Option.map_some, List.replicate_succ, xX, xY, xZ, y0, y1, y2, ya, yb, yc, yd, ye, yf, yg, yh, yi, yj, yk, ym, Nat.reduceSub, Nat.reduceAdd, if_true, if_false, decide_eq_true_eq, fEq_i]
  unfold spW
  by_cases w8 : w < 8
  · obtain ⟨d', r, s', e1, e2, e3, e4⟩ := ih xs[k] (List.getElem_mem hk) h
    refine ⟨xs.set k d', s', ?_, by rw [List.length_set]; omega, gd_set up e3, e4⟩
    rw [mIf_t (c8.trans (by rw [decide_eq_true w8]))]
    unfold spE_
    simp only [q0, q4, q6, q7, q8, q9, qf, qj, qm, qn, qp, qu, qw, qx, qy, qz, qA, qB, qC, qD, qE, qF, qG, qH, qI, qJ, qK, qL, qM, qN, qO, qP, qQ, qR, qS, qT, qU, qV, qW, qX, qY, qZ, w6, w7, wa, wb, wc, wd, we, wg, wh, wj, wl, wm, wn, wo, wp, wq, wr, wt, wu, wv, ww, wx, wy, wz, wA, wB, wC, wD, wE, wF, wG, wH, wI, wJ, wK, wM, wN, wO, wQ, wS, wT, wU, wV, wW, wX, wY, wZ, xa, xb, xc, xf, xg, xh, xi, xj, xk, xl, xm, xn, xo, xq, xr, xt, xu, xv, xw, xx, xy, xz, xA, xB, xC, xE, xG, xH, xI, xJ, xK, xL, xM, xN, xO, xP, xQ, xR, xS, xT, xU, xV, xW, List.map_cons, List.map_nil, List.length_cons, List.length_nil, List.cons_append, List.nil_append, List.set_cons_zero, List.set_cons_succ, List.getElem?_cons_zero, List.getElem?_cons_succ, Option.bind_some, Option.map_some, List.replicate_succ, xX, xY, xZ, y0, y1, y2, ya, yb, yc, yd, ye, yf, yg, yh, yi, yj, yk, ym, Nat.reduceSub, Nat.reduceAdd, if_true, if_false, decide_eq_true_eq, fIx_at h0, e1, e2, put_lst hk]
  · rw [mIf_f (c8.trans (by rw [decide_eq_false w8]))]
    by_cases w8' : w = 8
    · rw [mIf_t (d8.trans (by rw [decide_eq_true w8']))]
      obtain ⟨d', e1, e2⟩ := popAt_ok (i := 3) (g := gPV (pVal (pVar 2))) (ρ := spE_ s d k xs w) (xs := xs) (j := k) rfl rfl rfl hk (by omega)
      refine ⟨xs.eraseIdx k, s, ?_, by rw [List.length_eraseIdx]; split <;> omega, fun x hx => up x (List.mem_of_mem_eraseIdx hx), h⟩
      exact mDrop_ok e1
    · rw [mIf_f (d8.trans (by rw [decide_eq_false w8']))]
      by_cases w9 : w = 9
      · rw [mIf_t (d9.trans (by rw [decide_eq_true w9]))]
        obtain ⟨r1, s1, e1, a0, a1, t1⟩ := hd h (xs.length : Int) (by omega) (by omega)
        obtain ⟨j, rfl⟩ := Int.eq_ofNat_of_zero_le a0
        have hj : j < xs.length := by omega
        have hj0 : xs[j]? = some xs[j] := List.getElem?_eq_getElem hj
        have e3 := ixS_ok (i := 3) (g := vGx (gCall dr (aSlot 0 (aVal (gPV (pVal (pN (f1 fLen) (psCons (pVar 3) psNil)))) aNil)))) (ρ := spE_ s d k xs w) (ρ' := spE_ s1 d k xs w) (s0 := .lst xs) (s := .lst xs) (d := .int (j : Int)) rfl (by unfold spE_; simp only [q0, q4, q6, q7, q8, q9, qf, qj, qm, qn, qp, qu, qw, qx, qy, qz, qA, qB, qC, qD, qE, qF, qG, qH, qI, qJ, qK, qL, qM, qN, qO, qP, qQ, qR, qS, qT, qU, qV, qW, qX, qY, qZ, w6, w7, wa, wb, wc, wd, we, wg, wh, wj, wl, wm, wn, wo, wp, wq, wr, wt, wu, wv, ww, wx, wy, wz, wA, wB, wC, wD, wE, wF, wG, wH, wI, wJ, wK, wM, wN, wO, wQ, wS, wT, wU, wV, wW, wX, wY, wZ, xa, xb, xc, xf, xg, xh, xi, xj, xk, xl, xm, xn, xo, xq, xr, xt, xu, xv, xw, xx, xy, xz, xA, xB, xC, xE, xG, xH, xI, xJ, xK, xL, xM, xN, xO, xP, xQ, xR, xS, xT, xU, xV, xW, List.map_cons, List.map_nil, List.length_cons, List.length_nil, List.cons_append, List.nil_append, List.set_cons_zero, List.set_cons_succ, List.getElem?_cons_zero, List.getElem?_cons_succ, Option.bind_some, Option.map_some, List.replicate_succ, xX, xY, xZ, y0, y1, y2, ya, yb, yc, yd, ye, yf, yg, yh, yi, yj, yk, ym, Nat.reduceSub, Nat.reduceAdd, if_true, if_false, decide_eq_true_eq, e1]) rfl (fIx_at hj0)
        have e2 := insert_ok (i := 3) (gk := gPV (pVal (pVar 2))) (gv := vGx (gIxS 3 (vGx (gCall dr (aSlot 0 (aVal (gPV (pVal (pN (f1 fLen) (psCons (pVar 3) psNil)))) aNil)))))) (ρ := spE_ s d k xs w) (xs := xs) (j := k) (ρ2 := spE_ s1 d k xs w) (d := xs[j]) rfl rfl (by rw [wm, e3]; rfl) rfl (by omega) (by omega)
        exact ⟨_, s1, e2, by rw [len_ins]; omega, gd_ins (j := k) up (up xs[j] (List.getElem_mem hj)), t1⟩
      · rw [mIf_f (d9.trans (by rw [decide_eq_false w9]))]
        by_cases w10 : w = 10
        · rw [mIf_t (d10.trans (by rw [decide_eq_true w10]))]
          refine ⟨xs.reverse, s, ?_, by rw [List.length_reverse]; omega, fun x hx => up x (List.mem_reverse.1 hx), h⟩
          unfold spE_
          simp only [q0, q4, q6, q7, q8, q9, qf, qj, qm, qn, qp, qu, qw, qx, qy, qz, qA, qB, qC, qD, qE, qF, qG, qH, qI, qJ, qK, qL, qM, qN, qO, qP, qQ, qR, qS, qT, qU, qV, qW, qX, qY, qZ, w6, w7, wa, wb, wc, wd, we, wg, wh, wj, wl, wm, wn, wo, wp, wq, wr, wt, wu, wv, ww, wx, wy, wz, wA, wB, wC, wD, wE, wF, wG, wH, wI, wJ, wK, wM, wN, wO, wQ, wS, wT, wU, wV, wW, wX, wY, wZ, xa, xb, xc, xf, xg, xh, xi, xj, xk, xl, xm, xn, xo, xq, xr, xt, xu, xv, xw, xx, xy, xz, xA, xB, xC, xE, xG, xH, xI, xJ, xK, xL, xM, xN, xO, xP, xQ, xR, xS, xT, xU, xV, xW, List.map_cons, List.map_nil, List.length_cons, List.length_nil, List.cons_append, List.nil_append, List.set_cons_zero, List.set_cons_succ, List.getElem?_cons_zero, List.getElem?_cons_succ, Option.bind_some, Option.map_some, List.replicate_succ, xX, xY, xZ, y0, y1, y2, ya, yb, yc, yd, ye, yf, yg, yh, yi, yj, yk, ym, Nat.reduceSub, Nat.reduceAdd, if_true, if_false, decide_eq_true_eq, fRev_o]
        · rw [mIf_f (d10.trans (by rw [decide_eq_false w10]))]
          obtain ⟨d', s1, e1', g1, t1⟩ := ha h
          have e2 := insert_ok (i := 3) (gk := gPV (pVal (pVar 2))) (gv := vGx (gCall an (aSlot 0 (aVal (gPV (pVal (pK (.int 1)))) aNil)))) (ρ := spE_ s d k xs w) (xs := xs) (j := k) (ρ2 := spE_ s1 d k xs w) (d := d') rfl rfl (by unfold spE_; simp only [q0, q4, q6, q7, q8, q9, qf, qj, qm, qn, qp, qu, qw, qx, qy, qz, qA, qB, qC, qD, qE, qF, qG, qH, qI, qJ, qK, qL, qM, qN, qO, qP, qQ, qR, qS, qT, qU, qV, qW, qX, qY, qZ, w6, w7, wa, wb, wc, wd, we, wg, wh, wj, wl, wm, wn, wo, wp, wq, wr, wt, wu, wv, ww, wx, wy, wz, wA, wB, wC, wD, wE, wF, wG, wH, wI, wJ, wK, wM, wN, wO, wQ, wS, wT, wU, wV, wW, wX, wY, wZ, xa, xb, xc, xf, xg, xh, xi, xj, xk, xl, xm, xn, xo, xq, xr, xt, xu, xv, xw, xx, xy, xz, xA, xB, xC, xE, xG, xH, xI, xJ, xK, xL, xM, xN, xO, xP, xQ, xR, xS, xT, xU, xV, xW, List.map_cons, List.map_nil, List.length_cons, List.length_nil, List.cons_append, List.nil_append, List.set_cons_zero, List.set_cons_succ, List.getElem?_cons_zero, List.getElem?_cons_succ, Option.bind_some, Option.map_some, List.replicate_succ, xX, xY, xZ, y0, y1, y2, ya, yb, yc, yd, ye, yf, yg, yh, yi, yj, yk, ym, Nat.reduceSub, Nat.reduceAdd, if_true, if_false, decide_eq_true_eq, e1']) rfl (by omega) (by omega)
          exact ⟨_, s1, e2, by rw [len_ins]; omega, gd_ins (j := k) up (Gd.mono (by omega) (by omega) g1), t1⟩
theorem spA_no {wf : Env → Out (Fl × Env)} {ρ : Env} (i2 : fIsi2 "tuple" "list" (.frz d) = some (rB false)) : spA wf (some s :: some (fz d) :: ρ) = .ok (.nx, some s :: some (fz d) :: ρ) := by
  unfold spA
  simp only [q0, q4, q6, q7, q8, q9, qf, qj, qm, qn, qp, qu, qw, qx, qy, qz, qA, qB, qC, qD, qE, qF, qG, qH, qI, qJ, qK, qL, qM, qN, qO, qP, qQ, qR, qS, qT, qU, qV, qW, qX, qY, qZ, w6, w7, wa, wb, wc, wd, we, wg, wh, wj, wl, wm, wn, wo, wp, wq, wr, wt, wu, wv, ww, wx, wy, wz, wA, wB, wC, wD, wE, wF, wG, wH, wI, wJ, wK, wM, wN, wO, wQ, wS, wT, wU, wV, wW, wX, wY, wZ, xa, xb, xc, xf, xg, xh, xi, xj, xk, xl, xm, xn, xo, xq, xr, xt, xu, xv, xw, xx, xy, xz, xA, xB, xC, xE, xG, xH, xI, xJ, xK, xL, xM, xN, xO, xP, xQ, xR, xS, xT, xU, xV, xW, List.map_cons, List.map_nil, List.length_cons, List.length_nil, List.cons_append, List.nil_append, List.set_cons_zero, List.set_cons_succ, List.getElem?_cons_zero, List.getElem?_cons_succ, Option.bind_some, Option.map_some, List.replicate_succ, xX, xY, xZ, y0, y1, y2, ya, yb, yc, yd, ye, yf, yg, yh, yi, yj, yk, ym, Nat.reduceSub, Nat.reduceAdd, if_true, if_false, decide_eq_true_eq, pIsi2_def, i2, Bool.false_eq_true, ↓reduceIte]
theorem spD_no {ρ : Env} (i2 : fIsi2 "tuple" "list" (.frz d) = some (rB false)) : spD (some s :: some (fz d) :: ρ) = .ok (.nx, some s :: some (fz d) :: ρ) := by
  unfold spD
  simp only [q0, q4, q6, q7, q8, q9, qf, qj, qm, qn, qp, qu, qw, qx, qy, qz, qA, qB, qC, qD, qE, qF, qG, qH, qI, qJ, qK, qL, qM, qN, qO, qP, qQ, qR, qS, qT, qU, qV, qW, qX, qY, qZ, w6, w7, wa, wb, wc, wd, we, wg, wh, wj, wl, wm, wn, wo, wp, wq, wr, wt, wu, wv, ww, wx, wy, wz, wA, wB, wC, wD, wE, wF, wG, wH, wI, wJ, wK, wM, wN, wO, wQ, wS, wT, wU, wV, wW, wX, wY, wZ, xa, xb, xc, xf, xg, xh, xi, xj, xk, xl, xm, xn, xo, xq, xr, xt, xu, xv, xw, xx, xy, xz, xA, xB, xC, xE, xG, xH, xI, xJ, xK, xL, xM, xN, xO, xP, xQ, xR, xS, xT, xU, xV, xW, List.map_cons, List.map_nil, List.length_cons, List.length_nil, List.cons_append, List.nil_append, List.set_cons_zero, List.set_cons_succ, List.getElem?_cons_zero, List.getElem?_cons_succ, Option.bind_some, Option.map_some, List.replicate_succ, xX, xY, xZ, y0, y1, y2, ya, yb, yc, yd, ye, yf, yg, yh, yi, yj, yk, ym, Nat.reduceSub, Nat.reduceAdd, if_true, if_false, decide_eq_true_eq, pIsi2_def, i2, Bool.false_eq_true, ↓reduceIte]
theorem spB_no {ρ : Env} (hG : Gd L m d) (hw : wholeB d = false) : spB (some s :: some (fz d) :: ρ) = .ok (.nx, some s :: some (fz d) :: ρ) := by
  have e := pCall_1 (ρ := some s :: some (fz d) :: ρ) (q := pVal (pVar 1)) (d := d) rfl (law_whole_ok hG)
  rw [hw] at e
  unfold spB
  simp only [q0, q4, q6, q7, q8, q9, qf, qj, qm, qn, qp, qu, qw, qx, qy, qz, qA, qB, qC, qD, qE, qF, qG, qH, qI, qJ, qK, qL, qM, qN, qO, qP, qQ, qR, qS, qT, qU, qV, qW, qX, qY, qZ, w6, w7, wa, wb, wc, wd, we, wg, wh, wj, wl, wm, wn, wo, wp, wq, wr, wt, wu, wv, ww, wx, wy, wz, wA, wB, wC, wD, wE, wF, wG, wH, wI, wJ, wK, wM, wN, wO, wQ, wS, wT, wU, wV, wW, wX, wY, wZ, xa, xb, xc, xf, xg, xh, xi, xj, xk, xl, xm, xn, xo, xq, xr, xt, xu, xv, xw, xx, xy, xz, xA, xB, xC, xE, xG, xH, xI, xJ, xK, xL, xM, xN, xO, xP, xQ, xR, xS, xT, xU, xV, xW, List.map_cons, List.map_nil, List.length_cons, List.length_nil, List.cons_append, List.nil_append, List.set_cons_zero, List.set_cons_succ, List.getElem?_cons_zero, List.getElem?_cons_succ, Option.bind_some, Option.map_some, List.replicate_succ, xX, xY, xZ, y0, y1, y2, ya, yb, yc, yd, ye, yf, yg, yh, yi, yj, yk, ym, Nat.reduceSub, Nat.reduceAdd, if_true, if_false, decide_eq_true_eq, e, Bool.false_eq_true, ↓reduceIte]
theorem spC_no {ρ : Env} (hG : Gd L m d) (hw : strB d = false) : spC (some s :: some (fz d) :: ρ) = .ok (.nx, some s :: some (fz d) :: ρ) := by
  have e := isi_strB hG
  rw [hw] at e
  unfold spC
  simp only [q0, q4, q6, q7, q8, q9, qf, qj, qm, qn, qp, qu, qw, qx, qy, qz, qA, qB, qC, qD, qE, qF, qG, qH, qI, qJ, qK, qL, qM, qN, qO, qP, qQ, qR, qS, qT, qU, qV, qW, qX, qY, qZ, w6, w7, wa, wb, wc, wd, we, wg, wh, wj, wl, wm, wn, wo, wp, wq, wr, wt, wu, wv, ww, wx, wy, wz, wA, wB, wC, wD, wE, wF, wG, wH, wI, wJ, wK, wM, wN, wO, wQ, wS, wT, wU, wV, wW, wX, wY, wZ, xa, xb, xc, xf, xg, xh, xi, xj, xk, xl, xm, xn, xo, xq, xr, xt, xu, xv, xw, xx, xy, xz, xA, xB, xC, xE, xG, xH, xI, xJ, xK, xL, xM, xN, xO, xP, xQ, xR, xS, xT, xU, xV, xW, List.map_cons, List.map_nil, List.length_cons, List.length_nil, List.cons_append, List.nil_append, List.set_cons_zero, List.set_cons_succ, List.getElem?_cons_zero, List.getElem?_cons_succ, Option.bind_some, Option.map_some, List.replicate_succ, xX, xY, xZ, y0, y1, y2, ya, yb, yc, yd, ye, yf, yg, yh, yi, yj, yk, ym, Nat.reduceSub, Nat.reduceAdd, if_true, if_false, decide_eq_true_eq, pIsi_def, e, Bool.false_eq_true, ↓reduceIte]
theorem spB_ok {i : Int} (h : Tp s) : (∃ s', spB [some s, some (fzI i), none, none, none, none] = .ok (.nx, [some s', some (fzI i), none, none, none, none]) ∧ Tp s') ∨
    ∃ j s', spB [some s, some (fzI i), none, none, none, none] = .ok (.rt (rInt j), [some s', some (fzI i), none, none, none, none]) ∧ Tp s' := by
  have e := pCall_1 (ρ := [some s, some (fzI i), none, none, none, none]) (q := pVal (pVar 1)) (d := .int i) rfl (law_whole_ok (L := 0) (n := 0) trivial)
  have e : pCall φ_law_whole (vsCons (pVal (pVar 1)) vsNil) [some s, some (fzI i), none, none, none, none] = some (rB true) := e
  obtain ⟨r, s1, e1, a0, a1, t1⟩ := draw_ok h (m := 6) (by decide) (by decide)
  by_cases hr : 0 < r
  · obtain ⟨r2, s2, e2, b0, b1, t2⟩ := draw_ok t1 (m := 6) (by decide) (by decide)
    obtain ⟨d, hd, hx⟩ := ixs (ds := [.int 1, .int (-1), .int 2, .int (-2), .int 9, .int 1000]) b0 b1
    obtain ⟨j, rfl⟩ : ∃ j, d = .int j := by
      simp only [List.mem_cons, List.not_mem_nil, or_false] at hd
      rcases hd with q | q | q | q | q | q <;> exact ⟨_, q⟩
    refine .inr ⟨i + j, s2, ?_, t2⟩
    unfold spB
    simp only [q0, q4, q6, q7, q8, q9, qf, qj, qm, qn, qp, qu, qw, qx, qy, qz, qA, qB, qC, qD, qE, qF, qG, qH, qI, qJ, qK, qL, qM, qN, qO, qP, qQ, qR, qS, qT, qU, qV, qW, qX, qY, qZ, w6, w7, wa, wb, wc, wd, we, wg, wh, wj, wl, wm, wn, wo, wp, wq, wr, wt, wu, wv, ww, wx, wy, wz, wA, wB, wC, wD, wE, wF, wG, wH, wI, wJ, wK, wM, wN, wO, wQ, wS, wT, wU, wV, wW, wX, wY, wZ, xa, xb, xc, xf, xg, xh, xi, xj, xk, xl, xm, xn, xo, xq, xr, xt, xu, xv, xw, xx, xy, xz, xA, xB, xC, xE, xG, xH, xI, xJ, xK, xL, xM, xN, xO, xP, xQ, xR, xS, xT, xU, xV, xW, List.map_cons, List.map_nil, List.length_cons, List.length_nil, List.cons_append, List.nil_append, List.set_cons_zero, List.set_cons_succ, List.getElem?_cons_zero, List.getElem?_cons_succ, Option.bind_some, Option.map_some, List.replicate_succ, xX, xY, xZ, y0, y1, y2, ya, yb, yc, yd, ye, yf, yg, yh, yi, yj, yk, ym, Nat.reduceSub, Nat.reduceAdd, if_true, if_false, decide_eq_true_eq, e, e1, hr, e2, hx, decide_true]
  · refine .inl ⟨s1, ?_, t1⟩
    unfold spB
    simp only [q0, q4, q6, q7, q8, q9, qf, qj, qm, qn, qp, qu, qw, qx, qy, qz, qA, qB, qC, qD, qE, qF, qG, qH, qI, qJ, qK, qL, qM, qN, qO, qP, qQ, qR, qS, qT, qU, qV, qW, qX, qY, qZ, w6, w7, wa, wb, wc, wd, we, wg, wh, wj, wl, wm, wn, wo, wp, wq, wr, wt, wu, wv, ww, wx, wy, wz, wA, wB, wC, wD, wE, wF, wG, wH, wI, wJ, wK, wM, wN, wO, wQ, wS, wT, wU, wV, wW, wX, wY, wZ, xa, xb, xc, xf, xg, xh, xi, xj, xk, xl, xm, xn, xo, xq, xr, xt, xu, xv, xw, xx, xy, xz, xA, xB, xC, xE, xG, xH, xI, xJ, xK, xL, xM, xN, xO, xP, xQ, xR, xS, xT, xU, xV, xW, List.map_cons, List.map_nil, List.length_cons, List.length_nil, List.cons_append, List.nil_append, List.set_cons_zero, List.set_cons_succ, List.getElem?_cons_zero, List.getElem?_cons_succ, Option.bind_some, Option.map_some, List.replicate_succ, xX, xY, xZ, y0, y1, y2, ya, yb, yc, yd, ye, yf, yg, yh, yi, yj, yk, ym, Nat.reduceSub, Nat.reduceAdd, if_true, if_false, decide_eq_true_eq, e, e1, hr, decide_true, decide_false, Bool.false_eq_true, ↓reduceIte]
theorem cutS_len (z : Str) (lo hi : Option Int) : (cutS z lo hi).length ≤ z.length := by
  show (Array.size _) ≤ _
  unfold cutS
  simp only [List.size_toArray, List.length_take, List.length_drop]
  have : z.cps.toList.length = z.length := by rw [Array.length_toList]; rfl
  omega
theorem fCut_s {z : Str} {lo hi : Option Int} (h : z.length ≤ sizeLine) : fCut (.frz (.str z)) lo hi = some (rS (cutS z lo hi)) := by
  show (if z.length ≤ sizeLine then some (rS (cutS z lo hi)) else none) = _
  rw [if_pos h]
theorem fAdd_s {a b : Str} (h : a.length + b.length ≤ sizeLine) : fAdd (.frz (.str a)) (.frz (.str b)) = some (rS (a ++ b)) := by
  show (if a.length + b.length ≤ sizeLine then some (rS (a ++ b)) else none) = _
  rw [if_pos h]
theorem spC_ok {x : Str} (hx : x.length ≤ L) (hL : L ≤ 1000) (h : Tp s) : (∃ s', spC [some s, some (fzS x), none, none, none, none] = .ok (.nx, [some s', some (fzS x), none, none, none, none]) ∧ Tp s') ∨
    ∃ y s' x5, spC [some s, some (fzS x), none, none, none, none] = .ok (.rt (rS y), [some s', some (fzS x), none, none, none, x5]) ∧ y.length ≤ 2 * L + 8 ∧ Tp s' := by
  have big : 100000 ≤ sizeLine := by decide
  obtain ⟨r, s1, e1, a0, a1, t1⟩ := draw_ok h (m := 3) (by decide) (by decide)
  by_cases hr : 0 < r
  · obtain ⟨r2, s2, e2, b0, b1, t2⟩ := draw_ok t1 (m := (x.length : Int) + 1) (by omega) (small_log2 (by omega) (by omega))
    obtain ⟨r3, s3, e3, c0, c1, t3⟩ := draw_ok t2 (m := 6) (by decide) (by decide)
    obtain ⟨d, hd, hx3⟩ := ixs (ds := [.str " ", .str "z", .str "A", .str "|", .str "abcdefgh", .str ""]) c0 c1
    obtain ⟨y, rfl, hy⟩ : ∃ y : Str, d = .str y ∧ y.length ≤ 8 := by
      simp only [List.mem_cons, List.not_mem_nil, or_false] at hd
      rcases hd with q | q | q | q | q | q <;> exact ⟨_, q, by decide⟩
    have k1 := cutS_len x none (some r2)
    have k2 := cutS_len x (some r2) none
    have k3 : (cutS x none (some r2) ++ y).length = (cutS x none (some r2)).length + y.length := Str.length_append _ _
    have k4 : (cutS x none (some r2) ++ y ++ cutS x (some r2) none).length = (cutS x none (some r2) ++ y).length + (cutS x (some r2) none).length := Str.length_append _ _
    have hi : ∀ ρ : Env, pInt (pVar 5) (some s3 :: some (fzS x) :: none :: none :: none :: some (fzI r2) :: ρ) = some (some r2) := fun _ => rfl
    have hi2 : ∀ ρ : Env, pInt (pVar 5) (some s2 :: some (fzS x) :: none :: none :: none :: some (fzI r2) :: ρ) = some (some r2) := fun _ => rfl
    refine .inr ⟨cutS x none (some r2) ++ y ++ cutS x (some r2) none, s3, some (fzI r2), ?_, by omega, t3⟩
    unfold spC
    simp only [q0, q4, q6, q7, q8, q9, qf, qj, qm, qn, qp, qu, qw, qx, qy, qz, qA, qB, qC, qD, qE, qF, qG, qH, qI, qJ, qK, qL, qM, qN, qO, qP, qQ, qR, qS, qT, qU, qV, qW, qX, qY, qZ, w6, w7, wa, wb, wc, wd, we, wg, wh, wj, wl, wm, wn, wo, wp, wq, wr, wt, wu, wv, ww, wx, wy, wz, wA, wB, wC, wD, wE, wF, wG, wH, wI, wJ, wK, wM, wN, wO, wQ, wS, wT, wU, wV, wW, wX, wY, wZ, xa, xb, xc, xf, xg, xh, xi, xj, xk, xl, xm, xn, xo, xq, xr, xt, xu, xv, xw, xx, xy, xz, xA, xB, xC, xE, xG, xH, xI, xJ, xK, xL, xM, xN, xO, xP, xQ, xR, xS, xT, xU, xV, xW, List.map_cons, List.map_nil, List.length_cons, List.length_nil, List.cons_append, List.nil_append, List.set_cons_zero, List.set_cons_succ, List.getElem?_cons_zero, List.getElem?_cons_succ, Option.bind_some, Option.map_some, List.replicate_succ, xX, xY, xZ, y0, y1, y2, ya, yb, yc, yd, ye, yf, yg, yh, yi, yj, yk, ym, Nat.reduceSub, Nat.reduceAdd, if_true, if_false, decide_eq_true_eq, pIsi_def, isi_s, k_ss, fLen_s (show x.length ≤ sizeLine by omega), e1, hr, e2, pCut_def, hi, hi2, fCut_s (show x.length ≤ sizeLine by omega), e3, hx3, fAdd_s (show (cutS x none (some r2)).length + y.length ≤ sizeLine by omega), fAdd_s (show (cutS x none (some r2) ++ y).length + (cutS x (some r2) none).length ≤ sizeLine by omega), decide_true]
  · refine .inl ⟨s1, ?_, t1⟩
    unfold spC
    simp only [q0, q4, q6, q7, q8, q9, qf, qj, qm, qn, qp, qu, qw, qx, qy, qz, qA, qB, qC, qD, qE, qF, qG, qH, qI, qJ, qK, qL, qM, qN, qO, qP, qQ, qR, qS, qT, qU, qV, qW, qX, qY, qZ, w6, w7, wa, wb, wc, wd, we, wg, wh, wj, wl, wm, wn, wo, wp, wq, wr, wt, wu, wv, ww, wx, wy, wz, wA, wB, wC, wD, wE, wF, wG, wH, wI, wJ, wK, wM, wN, wO, wQ, wS, wT, wU, wV, wW, wX, wY, wZ, xa, xb, xc, xf, xg, xh, xi, xj, xk, xl, xm, xn, xo, xq, xr, xt, xu, xv, xw, xx, xy, xz, xA, xB, xC, xE, xG, xH, xI, xJ, xK, xL, xM, xN, xO, xP, xQ, xR, xS, xT, xU, xV, xW, List.map_cons, List.map_nil, List.length_cons, List.length_nil, List.cons_append, List.nil_append, List.set_cons_zero, List.set_cons_succ, List.getElem?_cons_zero, List.getElem?_cons_succ, Option.bind_some, Option.map_some, List.replicate_succ, xX, xY, xZ, y0, y1, y2, ya, yb, yc, yd, ye, yf, yg, yh, yi, yj, yk, ym, Nat.reduceSub, Nat.reduceAdd, if_true, if_false, decide_eq_true_eq, pIsi_def, isi_s, k_ss, e1, hr, decide_true, decide_false, Bool.false_eq_true, ↓reduceIte]
theorem run0_sp {m : Env → Out (Fl × Env)} {s' : SV} {r : Res} {ρ : Env} (h : Tp s) (e : m [some s, some (fz d), none, none, none, none] = .ok (.rt r, some s' :: ρ)) : runF [0] 6 m [s, fz d] = .ok (r, [some s', some (fz d)]) := by
  simp only [q0, q4, q6, q7, q8, q9, qf, qj, qm, qn, qp, qu, qw, qx, qy, qz, qA, qB, qC, qD, qE, qF, qG, qH, qI, qJ, qK, qL, qM, qN, qO, qP, qQ, qR, qS, qT, qU, qV, qW, qX, qY, qZ, w6, w7, wa, wb, wc, wd, we, wg, wh, wj, wl, wm, wn, wo, wp, wq, wr, wt, wu, wv, ww, wx, wy, wz, wA, wB, wC, wD, wE, wF, wG, wH, wI, wJ, wK, wM, wN, wO, wQ, wS, wT, wU, wV, wW, wX, wY, wZ, xa, xb, xc, xf, xg, xh, xi, xj, xk, xl, xm, xn, xo, xq, xr, xt, xu, xv, xw, xx, xy, xz, xA, xB, xC, xE, xG, xH, xI, xJ, xK, xL, xM, xN, xO, xP, xQ, xR, xS, xT, xU, xV, xW, List.map_cons, List.map_nil, List.length_cons, List.length_nil, List.cons_append, List.nil_append, List.set_cons_zero, List.set_cons_succ, List.getElem?_cons_zero, List.getElem?_cons_succ, Option.bind_some, Option.map_some, List.replicate_succ, xX, xY, xZ, y0, y1, y2, ya, yb, yc, yd, ye, yf, yg, yh, yi, yj, yk, ym, Nat.reduceSub, Nat.reduceAdd, if_true, if_false, decide_eq_true_eq, e, outR_tp h]
end
end Mm
namespace Mm
open PySem PySem.Spec L2
set_option autoImplicit false
theorem like_self {d : PD} {L n : Nat} (hL : L ≤ 1000) (h : Gd L n d) (hn : n ≤ 11) : φ_law_like nR_law_like [fz d, fz d] = .ok (rB true, [some (fz d), some (fz d)]) := by
  have := law_like_ok hL 11 d d (Gd.mono (Nat.le_refl _) hn h) (Gd.mono (Nat.le_refl _) hn h)
  rw [likeB_self] at this
  exact this
def things (an : List SV → Out (Res × Env)) : Env → Out (Fl × Env) := (mSet 6 (gVx (vGx (gLst (aVal (gPV (pVal (pVar 3))) (aVal (gPV (pVal (pVar 4))) (aVal (gPV (pVal (pVar 5))) (aVal (gPV (pVal (p1 fRev (pVar 3)))) (aVal (gPV (pVal (p1 fRev (pVar 4)))) (aVal (gPV (pVal (p2 fAdd (pVar 4) (pCut (pVar 4) (fun _ => some none) (pInt (pK (.int 1))))))) (aVal (gPV (pVal (pN (f1 fList) (psCons (pVar 4) psNil)))) (aVal (gPV (pVal (pTup vsNil))) (aVal (vGx (gCall an (aSlot 1 (aVal (gPV (pVal (pK (.int 2)))) aNil)))) aNil)))))))))))))
end Mm
namespace Mm
open PySem PySem.Spec L2
set_option autoImplicit false
abbrev Tie := Int × Int
end Mm
namespace Mm
open PySem PySem.Spec L2
set_option autoImplicit false
end Mm
namespace Mm
open PySem PySem.Spec L2
set_option autoImplicit false
end Mm
namespace Mm
open PySem PySem.Spec L2
set_option autoImplicit false
end Mm
namespace Mm
open PySem PySem.Spec L2
set_option autoImplicit false
theorem valD_cons {G : List (Key × PD)} {k j : Key} {d : PD} : valD ((k, d) :: G) j = if k = j then some d else valD G j := by
  unfold valD
  rw [List.find?_cons]
  by_cases e : k = j
  · subst e; simp
  · simp [e]
end Mm
namespace Mm
open PySem PySem.Spec L2
set_option autoImplicit false
end Mm
namespace Mm
open PySem PySem.Spec L2
set_option autoImplicit false
end Mm
namespace Mm
open PySem PySem.Spec L2
set_option autoImplicit false
end Mm
namespace Mm
open PySem PySem.Spec L2
set_option autoImplicit false
section
variable {s : SV} {x2 x3 x4 x5 x6 x7 x8 x9 x10 x11 x12 x13 : Option SV} {n : Nat} {ts : List Tie}
def q3 (dr : List SV → Out (Res × Env)) : Env → Out (Fl × Env) := mSet 3 (gVx (vGx (g2 fAdd (gPV (pVal (pK (.int 2)))) (vGx (gCall dr (aSlot 1 (aVal (gPV (pVal (pK (.int 11)))) aNil)))))))
def q5 (wk : List SV → Out (Res × Env)) : Env → Out (Fl × Env) := mSet 5 (gVx (gPV (pVal (pCall wk (vsCons (pVal (pVar 3)) (vsCons (pVal (pVar 4)) vsNil))))))
end
end Mm
namespace Mm
open PySem PySem.Spec L2
set_option autoImplicit false
end Mm
namespace Mm
open PySem PySem.Spec L2
set_option autoImplicit false
abbrev Fw := Int → Int → Int
end Mm
namespace Mm
open PySem PySem.Spec L2
set_option autoImplicit false
section
variable {ts : List Tie} {G : List (List Key × PD)} {f : Fw} {a b : Int}
theorem nodup_len' {α : Type} [DecidableEq α] {xs ys : List α} (h : xs.Nodup) (hs : ∀ x ∈ xs, x ∈ ys) : xs.length ≤ ys.length := by
  induction xs generalizing ys with
  | nil => exact Nat.zero_le _
  | cons x xs ih =>
    obtain ⟨h1, h2⟩ := List.nodup_cons.1 h
    have hx : x ∈ ys := hs x List.mem_cons_self
    have := ih (ys := ys.erase x) h2 fun y hy => (List.mem_erase_of_ne fun e => h1 (by rw [← e]; exact hy)).2 (hs y (List.mem_cons_of_mem _ hy))
    rw [List.length_erase_of_mem hx] at this
    have := List.length_pos_of_mem hx
    rw [List.length_cons]
    omega
theorem putD_nd {κ : Type} [DecidableEq κ] {F : List (κ × PD)} {k : κ} {d : PD} (h : (F.map (·.1)).Nodup) : ((putD F k d).map (·.1)).Nodup := by
  unfold putD
  split
  · rw [List.map_map]
    have : ((fun x : κ × PD => x.1) ∘ fun kv => if kv.1 = k then (kv.1, d) else kv) = fun x => x.1 := by
      funext kv
      show (if kv.1 = k then (kv.1, d) else kv).1 = kv.1
      split <;> rfl
    rw [this]; exact h
  · rename_i hn
    rw [List.map_append, List.nodup_append]
    refine ⟨h, by simp, fun x hx y hy => ?_⟩
    simp only [List.map_cons, List.map_nil, List.mem_singleton] at hy
    rw [hy]
    rintro rfl
    obtain ⟨kv, hk, e⟩ := List.mem_map.1 hx
    exact hn (List.any_eq_true.2 ⟨kv, hk, by simp [e]⟩)
end
end Mm
namespace Mm
open PySem PySem.Spec L2
set_option autoImplicit false
end Mm
namespace Mm
open PySem PySem.Spec L2
set_option autoImplicit false
end Mm
namespace Mm
open PySem PySem.Spec L2
set_option autoImplicit false
end Mm
namespace Mm
open PySem PySem.Spec L2
set_option autoImplicit false
/-- neighbours in a row -/
def prs : List Int → List Tie
  | a :: b :: r => (a, b) :: prs (b :: r)
  | _ => []
end Mm
namespace Mm
open PySem PySem.Spec L2
set_option autoImplicit false
end Mm
namespace Mm
open PySem PySem.Spec L2
set_option autoImplicit false
end Mm
namespace Mm
open PySem PySem.Spec L2
set_option autoImplicit false
end Mm
namespace Mm
open PySem PySem.Spec L2
set_option autoImplicit false
end Mm
namespace Mm
open PySem PySem.Spec L2
set_option autoImplicit false
end Mm
namespace Mm
open PySem PySem.Spec L2
set_option autoImplicit false
end Mm
namespace Mm
open PySem PySem.Spec L2
set_option autoImplicit false
end Mm
namespace Mm
open PySem PySem.Spec L2
set_option autoImplicit false
section
variable {s : SV} {x2 x3 x4 x5 x6 x7 x8 x9 x10 x11 x12 x13 x14 x15 x16 x17 x18 : Option SV} {ts : List Tie}
def h3 (dr : List SV → Out (Res × Env)) : Env → Out (Fl × Env) := mSet 3 (gVx (vGx (g2 fAdd (gPV (pVal (pK (.int 3)))) (vGx (gCall dr (aSlot 1 (aVal (gPV (pVal (pK (.int 6)))) aNil)))))))
def h4 (lt : List SV → Out (Res × Env)) : Env → Out (Fl × Env) := mSet 4 (gVx (vGx (gCall lt (aSlot 1 (aVal (gPV (pVal (pVar 3))) (aVal (gPV (pVal (pK (.int 16)))) aNil))))))
def h5 (ao : List SV → Out (Res × Env)) : Env → Out (Fl × Env) := mSet 5 (gVx (vGx (gCall ao (aSlot 1 (aVal (gPV (pVal (pVar 3))) aNil)))))
def h8 (ch : List SV → Out (Res × Env)) : Env → Out (Fl × Env) := mIf (gT (tOr (tB (p2 fGt (pVar 9) (pN (f1 fMin) (psCons (pVar 11) psNil)))) (tB (p2 fNe (p2 fGt (pVar 9) (pK (.int 0))) (p2 (fIsN true) (pCall ch (vsCons (pVal (pVar 4)) (vsCons (pVal (pVar 6)) (vsCons (pVal (pVar 7)) vsNil)))) (pK .none)))))) (mRet (gPx (pK (.bool false)))) mNop
def h12 : Env → Out (Fl × Env) := mSet 12 (gVx (gPV (pVal (pLst vsNil))))
def h15a (dr : List SV → Out (Res × Env)) : Env → Out (Fl × Env) := mSet 16 (gVx (vGx (g2 fIx (gPV (pVal (pVar 4))) (vGx (gCall dr (aSlot 1 (aVal (gPV (pVal (pN (f1 fLen) (psCons (pVar 4) psNil)))) aNil)))))))
def h15b (cu : List SV → Out (Res × Env)) : Env → Out (Fl × Env) := mIf (gT (tNot (tB (pChain fLe fLe (p2 fSub (pVar 9) (pK (.int 1))) (pCall cu (vsCons (pVal c6_law_k16) (vsCons (pVal (pVar 6)) (vsCons (pVal (pVar 7)) vsNil)))) (pVar 9))))) (mRet (gPx (pK (.bool false)))) mNop
def h15 (dr cu : List SV → Out (Res × Env)) : Env → Out (Fl × Env) := mIf (gT (tB (p2 fNe (pVar 4) (pLst vsNil)))) (mSeq (h15a dr) (h15b cu)) mNop
def h18 : Env → Out (Fl × Env) := mSet 18 (gVx (gPV (pVal (pN (f1 fSorted) (psCons c9_law_k16 psNil)))))
end
end Mm
namespace Mm
open PySem PySem.Spec L2
set_option autoImplicit false
end Mm
namespace Mm
open PySem PySem.Spec L2
set_option autoImplicit false
end Mm
namespace Mm
open PySem PySem.Spec L2
set_option autoImplicit false
end Mm
namespace Mm
open PySem PySem.Spec L2
set_option autoImplicit false
section
variable {α : Type} [DecidableEq α]
def tot (f : α → Int) (l : List α) : Int := (l.map f).sum
theorem tot_nil {f : α → Int} : tot f [] = 0 := rfl
theorem tot_cons {f : α → Int} {x : α} {l : List α} : tot f (x :: l) = f x + tot f l := by simp [tot]
theorem tot_app {f : α → Int} {l r : List α} : tot f (l ++ r) = tot f l + tot f r := by simp [tot, List.sum_append]
theorem tot_perm {f : α → Int} {l r : List α} (h : l.Perm r) : tot f l = tot f r := by
  induction h with
  | nil => rfl
  | cons x _ ih => rw [tot_cons, tot_cons, ih]
  | swap x y l => rw [tot_cons, tot_cons, tot_cons, tot_cons]; omega
  | trans _ _ h1 h2 => exact h1.trans h2
theorem tot_split {f : α → Int} (p : α → Bool) : ∀ l : List α, tot f l = tot f (l.filter p) + tot f (l.filter fun x => !p x)
  | [] => rfl
  | x :: l => by
    rw [tot_cons, tot_split p l]
    cases h : p x
    · rw [List.filter_cons_of_neg (by simp [h]), List.filter_cons_of_pos (by simp [h]), tot_cons]; omega
    · rw [List.filter_cons_of_pos (by simp [h]), List.filter_cons_of_neg (by simp [h]), tot_cons]; omega
theorem nodup_filter {l : List α} (h : l.Nodup) (p : α → Bool) : (l.filter p).Nodup := h.sublist List.filter_sublist
/-- fibers -/
def fib (l : List α) (c : α → Nat) (i : Nat) : List α := l.filter fun s => decide (c s = i)
theorem mem_fib {l : List α} {c : α → Nat} {i : Nat} {s : α} : s ∈ fib l c i ↔ s ∈ l ∧ c s = i := by simp [fib]
/-- so many lots, unlike, each 0 in all -/
def HasF (f : α → Int) (l : List α) (m : Nat) : Prop := ∃ c : α → Nat, ∀ i, 1 ≤ i → i ≤ m → (∃ s ∈ l, c s = i) ∧ tot f (fib l c i) = 0
/-- as many as are in lots -/
theorem fib_sum (l : List α) (c : α → Nat) : ∀ m : Nat, (∀ i, 1 ≤ i → i ≤ m → 2 ≤ (fib l c i).length) → 2 * m ≤ (l.filter fun s => decide (1 ≤ c s ∧ c s ≤ m)).length
  | 0, _ => by simp
  | m + 1, h => by
    have ih := fib_sum l c m fun i h1 h2 => h i h1 (by omega)
    have h1 := h (m + 1) (by omega) (by omega)
    have key : (l.filter fun s => decide (1 ≤ c s ∧ c s ≤ m + 1)).length = (l.filter fun s => decide (1 ≤ c s ∧ c s ≤ m)).length + (fib l c (m + 1)).length := by
      clear ih h1 h
      unfold fib
      induction l with
      | nil => rfl
      | cons x l ih =>
        by_cases a : 1 ≤ c x ∧ c x ≤ m
        · rw [List.filter_cons_of_pos (by simp; omega), List.filter_cons_of_pos (by simp; omega), List.filter_cons_of_neg (by simp; omega), List.length_cons, List.length_cons, ih]; omega
        · by_cases b : c x = m + 1
          · rw [List.filter_cons_of_pos (by simp; omega), List.filter_cons_of_neg (by simp; omega), List.filter_cons_of_pos (by simp; omega), List.length_cons, List.length_cons, ih]; omega
          · rw [List.filter_cons_of_neg (by simp; omega), List.filter_cons_of_neg (by simp; omega), List.filter_cons_of_neg (by simp; omega), ih]
    omega
def lab : List (List α) → α → Nat
  | [], _ => 0
  | lot :: L, s => if s ∈ lot then L.length + 1 else lab L s
theorem lab_le : ∀ (L : List (List α)) (s : α), lab L s ≤ L.length
  | [], s => Nat.le_refl _
  | lot :: L, s => by
    unfold lab
    split
    · exact Nat.le_refl _
    · exact Nat.le_succ_of_le (lab_le L s)
theorem lab_at : ∀ (L : List (List α)), L.flatten.Nodup → ∀ i, 1 ≤ i → i ≤ L.length → ∃ lot ∈ L, ∀ s, lab L s = i ↔ s ∈ lot
  | [], _, i, h1, h2 => absurd h2 (by simp only [List.length_nil]; omega)
  | lot :: L, hn, i, h1, h2 => by
    rw [List.flatten_cons, List.nodup_append] at hn
    obtain ⟨_, n2, nd⟩ := hn
    by_cases hi : i = L.length + 1
    · refine ⟨lot, List.mem_cons_self, fun s => ?_⟩
      have := lab_le L s
      unfold lab
      split
      · rename_i hs; exact ⟨fun _ => hs, fun _ => hi.symm⟩
      · rename_i hs; exact ⟨fun e => by omega, fun z => absurd z hs⟩
    · obtain ⟨lot', hl, q⟩ := lab_at L n2 i h1 (by rw [List.length_cons] at h2; omega)
      refine ⟨lot', List.mem_cons_of_mem _ hl, fun s => ?_⟩
      unfold lab
      split
      · rename_i hs
        refine ⟨fun e => absurd e.symm hi, fun z => ?_⟩
        exact absurd rfl (nd s hs s (List.mem_flatten.mpr ⟨lot', hl, z⟩))
      · exact q s
theorem HasF.of_lots {f : α → Int} {l : List α} {L : List (List α)} (hn : l.Nodup) (hL : L.flatten.Nodup) (hs : ∀ s ∈ L.flatten, s ∈ l) (h : ∀ lot ∈ L, lot ≠ [] ∧ tot f lot = 0) : HasF f l L.length := by
  refine ⟨lab L, fun i h1 h2 => ?_⟩
  obtain ⟨lot, hl, q⟩ := lab_at L hL i h1 h2
  obtain ⟨e1, e2⟩ := h lot hl
  have hin : ∀ s ∈ lot, s ∈ l := fun s z => hs s (List.mem_flatten.mpr ⟨lot, hl, z⟩)
  have hlot : lot.Nodup := (List.sublist_flatten_of_mem hl).nodup hL
  refine ⟨?_, ?_⟩
  · cases lot with
    | nil => exact absurd rfl e1
    | cons x r => exact ⟨x, hin x List.mem_cons_self, (q x).mpr List.mem_cons_self⟩
  · have pm : (fib l (lab L) i).Perm lot := (List.perm_ext_iff_of_nodup (nodup_filter hn _) hlot).mpr fun s => by
      refine Iff.trans mem_fib ?_
      rw [q s]
      exact ⟨fun z => z.2, fun z => ⟨hin s z, z⟩⟩
    rw [tot_perm pm, e2]
def lotsL (ns : List α) : List (List α) := ns.foldl (fun found x => found ++ found.map (· ++ [x])) [[]]
theorem lotsL_snoc {ns : List α} {x : α} : lotsL (ns ++ [x]) = lotsL ns ++ (lotsL ns).map (· ++ [x]) := by unfold lotsL; rw [List.foldl_append]; rfl
theorem sub_single {l : List α} {x : α} : l.Sublist [x] ↔ l = [] ∨ l = [x] := by
  constructor
  · intro h
    cases h with
    | cons _ h => exact .inl (List.sublist_nil.mp h)
    | cons_cons _ h => rw [List.sublist_nil.mp h]; exact .inr rfl
  · rintro (rfl | rfl)
    · exact List.nil_sublist _
    · exact List.Sublist.refl _
theorem mem_lotsR : ∀ (ms : List α) (l : List α), l ∈ lotsL ms.reverse ↔ l.Sublist ms.reverse
  | [], l => by
    show l ∈ [[]] ↔ l.Sublist []
    rw [List.sublist_nil]; simp
  | x :: ms, l => by
    rw [List.reverse_cons, lotsL_snoc, List.mem_append, List.mem_map, List.sublist_append_iff]
    constructor
    · rintro (h | ⟨r, h, rfl⟩)
      · exact ⟨l, [], by simp, (mem_lotsR ms l).mp h, List.nil_sublist _⟩
      · exact ⟨r, [x], rfl, (mem_lotsR ms r).mp h, List.Sublist.refl _⟩
    · rintro ⟨l1, l2, rfl, h1, h2⟩
      rcases sub_single.mp h2 with rfl | rfl
      · left; rw [List.append_nil]; exact (mem_lotsR ms l1).mpr h1
      · right; exact ⟨l1, (mem_lotsR ms l1).mpr h1, rfl⟩
theorem mem_lotsL {ns l : List α} : l ∈ lotsL ns ↔ l.Sublist ns := by
  have := mem_lotsR ns.reverse l
  rwa [List.reverse_reverse] at this
theorem lotsR_len : ∀ ms : List α, (lotsL ms.reverse).length = 2 ^ ms.length
  | [] => rfl
  | x :: ms => by
    rw [List.reverse_cons, lotsL_snoc, List.length_append, List.length_map, lotsR_len ms, List.length_cons, Nat.pow_succ]; omega
theorem lotsL_len {ns : List α} : (lotsL ns).length = 2 ^ ns.length := by
  have := lotsR_len ns.reverse
  rwa [List.reverse_reverse, List.length_reverse] at this
def remL (ns mine : List α) : List α := ns.filter fun x => decide (x ∉ mine)
def stepM (f : α → Int) (rec : List α → List (List α)) (ns : List α) (a : α) (best : List (List α)) (lot : List α) : List (List α) :=
  if tot f (a :: lot) = 0 then (if (rec (remL ns (a :: lot))).length + 1 > best.length then (a :: lot) :: rec (remL ns (a :: lot)) else best) else best
def ML (f : α → Int) : Nat → List α → List (List α)
  | 0, _ => []
  | _ + 1, [] => []
  | n + 1, a :: rest => (lotsL rest).foldl (stepM f (ML f n) (a :: rest) a) []
theorem rem_len {a : α} {rest lot : List α} : (remL (a :: rest) (a :: lot)).length ≤ rest.length := by
  unfold remL
  rw [List.filter_cons_of_neg (by simp)]
  exact List.length_filter_le _ _
theorem ML_stable (f : α → Int) : ∀ (n m : Nat) (ns : List α), ns.length ≤ n → ns.length ≤ m → ML f n ns = ML f m ns
  | 0, m, ns, h1, h2 => by
    have e : ns = [] := List.length_eq_zero_iff.mp (by omega)
    subst e
    cases m <;> rfl
  | n + 1, 0, ns, h1, h2 => by
    have e : ns = [] := List.length_eq_zero_iff.mp (by omega)
    subst e
    rfl
  | n + 1, m + 1, [], h1, h2 => rfl
  | n + 1, m + 1, a :: rest, h1, h2 => by
    unfold ML
    rw [List.length_cons] at h1 h2
    have : stepM f (ML f n) (a :: rest) a = stepM f (ML f m) (a :: rest) a := by
      funext best lot
      unfold stepM
      rw [ML_stable f n m _ (Nat.le_trans rem_len (by omega)) (Nat.le_trans rem_len (by omega))]
    rw [this]
theorem foldM_ge (f : α → Int) (rec : List α → List (List α)) (ns : List α) (a : α) : ∀ (lots : List (List α)) (best : List (List α)), best.length ≤ (lots.foldl (stepM f rec ns a) best).length ∧ ∀ lot ∈ lots, tot f (a :: lot) = 0 → (rec (remL ns (a :: lot))).length + 1 ≤ (lots.foldl (stepM f rec ns a) best).length
  | [], best => ⟨Nat.le_refl _, fun lot h => by cases h⟩
  | l :: lots, best => by
    obtain ⟨h1, h2⟩ := foldM_ge f rec ns a lots (stepM f rec ns a best l)
    have s1 : best.length ≤ (stepM f rec ns a best l).length := by
      unfold stepM
      split
      · split
        · rw [List.length_cons]; omega
        · exact Nat.le_refl _
      · exact Nat.le_refl _
    have s2 : tot f (a :: l) = 0 → (rec (remL ns (a :: l))).length + 1 ≤ (stepM f rec ns a best l).length := fun z => by
      unfold stepM
      rw [if_pos z]
      split
      · rw [List.length_cons]; exact Nat.le_refl _
      · omega
    rw [List.foldl_cons]
    refine ⟨Nat.le_trans s1 h1, fun lot hl z => ?_⟩
    rcases List.mem_cons.mp hl with e | hl
    · subst e; exact Nat.le_trans (s2 z) h1
    · exact h2 lot hl z
theorem foldM_of (f : α → Int) (rec : List α → List (List α)) (ns : List α) (a : α) (G : List (List α) → Prop) : ∀ (lots : List (List α)) (best : List (List α)), G best → (∀ lot ∈ lots, tot f (a :: lot) = 0 → G ((a :: lot) :: rec (remL ns (a :: lot)))) → G (lots.foldl (stepM f rec ns a) best)
  | [], best, h, _ => h
  | l :: lots, best, h, k => by
    rw [List.foldl_cons]
    refine foldM_of f rec ns a G lots _ ?_ fun lot hl => k lot (List.mem_cons_of_mem _ hl)
    unfold stepM
    split
    · rename_i z
      split
      · exact k l List.mem_cons_self z
      · exact h
    · exact h
/-- lots that part a list -/
structure Part (f : α → Int) (ns : List α) (L : List (List α)) : Prop where
  pm : L.flatten.Perm ns
  ok : ∀ lot ∈ L, lot ≠ [] ∧ tot f lot = 0
theorem rem_perm {a : α} {rest lot : List α} (hn : (a :: rest).Nodup) (hs : lot.Sublist rest) : ((a :: lot) ++ remL (a :: rest) (a :: lot)).Perm (a :: rest) := by
  have hm : (a :: lot).Sublist (a :: rest) := hs.cons_cons a
  have n1 : (a :: lot).Nodup := hm.nodup hn
  refine (List.perm_ext_iff_of_nodup ?_ hn).mpr fun s => ?_
  · rw [List.nodup_append]
    refine ⟨n1, nodup_filter hn _, fun x hx y hy e => ?_⟩
    subst e
    unfold remL at hy
    simp only [List.mem_filter, decide_eq_true_eq] at hy
    exact hy.2 hx
  · unfold remL
    simp only [List.mem_append, List.mem_filter, decide_eq_true_eq]
    constructor
    · rintro (h | h)
      · exact hm.subset h
      · exact h.1
    · intro h
      by_cases z : s ∈ a :: lot
      · exact .inl z
      · exact .inr ⟨h, z⟩
theorem ML_part (f : α → Int) : ∀ (n : Nat) (ns : List α), ns.Nodup → ns.length ≤ n → tot f ns = 0 → Part f ns (ML f n ns)
  | 0, ns, _, h, _ => by
    have e : ns = [] := List.length_eq_zero_iff.mp (by omega)
    subst e
    exact ⟨.nil, fun lot h => by cases h⟩
  | n + 1, [], _, _, _ => ⟨.nil, fun lot h => by cases h⟩
  | n + 1, a :: rest, hn, hl, h0 => by
    unfold ML
    rw [List.length_cons] at hl
    have good : ∀ lot ∈ lotsL rest, tot f (a :: lot) = 0 → Part f (a :: rest) ((a :: lot) :: ML f n (remL (a :: rest) (a :: lot))) := fun lot hlot z => by
      have pm := rem_perm hn (mem_lotsL.mp hlot)
      have t0 : tot f (remL (a :: rest) (a :: lot)) = 0 := by
        have := tot_perm (f := f) pm
        rw [tot_app] at this
        omega
      have ih := ML_part f n (remL (a :: rest) (a :: lot)) (nodup_filter hn _) (Nat.le_trans rem_len (by omega)) t0
      refine ⟨?_, fun l h => ?_⟩
      · rw [List.flatten_cons]
        exact (List.Perm.append_left _ ih.pm).trans pm
      · rcases List.mem_cons.mp h with e | h
        · subst e; exact ⟨List.cons_ne_nil _ _, z⟩
        · exact ih.ok l h
    have ge := (foldM_ge f (ML f n) (a :: rest) a (lotsL rest) []).2 rest (mem_lotsL.mpr (List.Sublist.refl _)) h0
    have q := foldM_of f (ML f n) (a :: rest) a (fun b => b = [] ∨ Part f (a :: rest) b) (lotsL rest) [] (.inl rfl) fun lot hl z => .inr (good lot hl z)
    rcases q with q | q
    · rw [q] at ge; simp at ge
    · exact q
/-- what is in none of the lots -/
theorem tot_range {f : α → Int} {l : List α} {c : α → Nat} : ∀ m : Nat, (∀ i, 1 ≤ i → i ≤ m → tot f (fib l c i) = 0) → tot f (l.filter fun s => decide (1 ≤ c s ∧ c s ≤ m)) = 0
  | 0, _ => by
    rw [List.filter_eq_nil_iff.mpr fun s _ => by simp; omega]; rfl
  | m + 1, h => by
    have ih := tot_range m fun i h1 h2 => h i h1 (by omega)
    rw [tot_split (fun s => decide (c s = m + 1)), List.filter_filter, List.filter_filter]
    rw [List.filter_congr (q := fun s => decide (c s = m + 1)) fun s _ => by rw [← Bool.decide_and]; exact decide_eq_decide.mpr (by omega)]
    rw [List.filter_congr (p := fun a => (!decide (c a = m + 1)) && decide (1 ≤ c a ∧ c a ≤ m + 1)) (q := fun s => decide (1 ≤ c s ∧ c s ≤ m)) fun s _ => by
      by_cases z : c s = m + 1
      · rw [decide_eq_true z, decide_eq_false (show ¬ (1 ≤ c s ∧ c s ≤ m) by omega)]; rfl
      · rw [decide_eq_false z]; show decide _ = decide _; exact decide_eq_decide.mpr (by omega)]
    rw [ih, show (l.filter fun s => decide (c s = m + 1)) = fib l c (m + 1) from rfl, h (m + 1) (by omega) (by omega)]; rfl
theorem ML_max (f : α → Int) : ∀ (n : Nat) (ns : List α), ns.Nodup → ns.length ≤ n → tot f ns = 0 → ∀ m, HasF f ns m → m ≤ (ML f n ns).length
  | _, [], _, _, _, m, ⟨c, h⟩ => by
    cases m with
    | zero => exact Nat.zero_le _
    | succ m => obtain ⟨⟨s, hs, _⟩, _⟩ := h 1 (Nat.le_refl _) (by omega); cases hs
  | 0, a :: rest, _, h, _, m, _ => absurd h (by simp)
  | n + 1, a :: rest, hn, hl, h0, m, ⟨c, h⟩ => by
    rw [List.length_cons] at hl
    -- a lot that holds a, and what it leaves
    have go : ∀ (p : α → Bool), p a = true → tot f ((a :: rest).filter p) = 0 → ∀ k, HasF f ((a :: rest).filter fun s => !p s) k → k + 1 ≤ (ML f (n + 1) (a :: rest)).length := fun p hp hz k hk => by
      rw [List.filter_cons_of_pos hp] at hz
      have ge := (foldM_ge f (ML f n) (a :: rest) a (lotsL rest) []).2 (rest.filter p) (mem_lotsL.mpr List.filter_sublist) hz
      have er : remL (a :: rest) (a :: rest.filter p) = (a :: rest).filter fun s => !p s := List.filter_congr fun s hs => by
        have hiff : s ∈ a :: rest.filter p ↔ p s = true := by
          rw [← List.filter_cons_of_pos hp, List.mem_filter]
          exact ⟨fun z => z.2, fun z => ⟨hs, z⟩⟩
        cases hps : p s with
        | true =>
          have : ¬ (s ∉ a :: rest.filter p) := fun z => z (hiff.mpr hps)
          simp only [this, decide_false]; rfl
        | false =>
          have : s ∉ a :: rest.filter p := fun z => by rw [hiff.mp z] at hps; cases hps
          simp only [this, not_false_eq_true, decide_true]; rfl
      have t0 : tot f ((a :: rest).filter fun s => !p s) = 0 := by
        have := tot_split (f := f) p (a :: rest)
        rw [List.filter_cons_of_pos hp] at this
        omega
      have hlen : ((a :: rest).filter fun s => !p s).length ≤ n := by rw [← er]; exact Nat.le_trans rem_len (by omega)
      have ih := ML_max f n _ (nodup_filter hn fun s => !p s) hlen t0 k hk
      rw [er] at ge
      show k + 1 ≤ ((lotsL rest).foldl (stepM f (ML f n) (a :: rest) a) []).length
      omega
    by_cases ha : 1 ≤ c a ∧ c a ≤ m
    · -- the lot of a
      have q := go (fun s => decide (c s = c a)) (by simp) (h (c a) ha.1 ha.2).2 (m - 1) ⟨fun s => if c s = m then c a else c s, fun i h1 h2 => ?_⟩
      · omega
      · by_cases hi : i = c a
        · -- those of m
          have hne : m ≠ c a := by omega
          obtain ⟨⟨s, hs, hc⟩, q⟩ := h m (by omega) (Nat.le_refl _)
          refine ⟨⟨s, List.mem_filter.mpr ⟨hs, by simp; omega⟩, by show (if c s = m then c a else c s) = i; rw [if_pos hc]; exact hi.symm⟩, ?_⟩
          rw [← q]
          unfold fib
          rw [List.filter_filter]
          refine congrArg (tot f) (List.filter_congr fun s _ => ?_)
          show (decide ((if c s = m then c a else c s) = i) && !decide (c s = c a)) = _
          by_cases z : c s = m
          · rw [if_pos z, decide_eq_true hi.symm, decide_eq_true z, decide_eq_false (show ¬ c s = c a by omega)]; rfl
          · rw [if_neg z, decide_eq_false z]
            by_cases z2 : c s = c a
            · rw [decide_eq_true z2]; simp
            · rw [decide_eq_false (show ¬ c s = i by omega)]; rfl
        · obtain ⟨⟨s, hs, hc⟩, q⟩ := h i h1 (by omega)
          refine ⟨⟨s, List.mem_filter.mpr ⟨hs, by simp; omega⟩, by show (if c s = m then c a else c s) = i; rw [if_neg (by omega)]; exact hc⟩, ?_⟩
          rw [← q]
          unfold fib
          rw [List.filter_filter]
          refine congrArg (tot f) (List.filter_congr fun s _ => ?_)
          show (decide ((if c s = m then c a else c s) = i) && !decide (c s = c a)) = _
          by_cases z : c s = m
          · rw [if_pos z, decide_eq_false (show ¬ c a = i by omega), decide_eq_false (show ¬ c s = i by omega)]; rfl
          · rw [if_neg z]
            by_cases z2 : c s = i
            · rw [decide_eq_true z2, decide_eq_false (show ¬ c s = c a by omega)]; rfl
            · rw [decide_eq_false z2]; rfl
    · -- a is in none of the lots
      have tr := tot_range (f := f) (l := a :: rest) (c := c) m fun i h1 h2 => (h i h1 h2).2
      have hz : tot f ((a :: rest).filter fun s => !decide (1 ≤ c s ∧ c s ≤ m)) = 0 := by
        have := tot_split (f := f) (fun s => decide (1 ≤ c s ∧ c s ≤ m)) (a :: rest)
        omega
      have q := go (fun s => !decide (1 ≤ c s ∧ c s ≤ m)) (by simp; omega) hz m ⟨c, fun i h1 h2 => ?_⟩
      · omega
      · obtain ⟨⟨s, hs, hc⟩, q⟩ := h i h1 h2
        refine ⟨⟨s, List.mem_filter.mpr ⟨hs, by simp; omega⟩, hc⟩, ?_⟩
        rw [← q]
        unfold fib
        rw [List.filter_filter]
        refine congrArg (tot f) (List.filter_congr fun s _ => ?_)
        by_cases z2 : c s = i
        · rw [decide_eq_true z2, decide_eq_true (show 1 ≤ c s ∧ c s ≤ m by omega)]; rfl
        · rw [decide_eq_false z2]; rfl
/-- no lot of the most can be parted -/
theorem ML_tight {f : α → Int} {n : Nat} {ns : List α} (hn : ns.Nodup) (hl : ns.length ≤ n) (h0 : tot f ns = 0) {lot : List α} (h : lot ∈ ML f n ns) {p q : List α} (e : lot = p ++ q) (hp : p ≠ []) (hq : q ≠ []) : tot f p ≠ 0 := by
  intro z
  have P := ML_part f n ns hn hl h0
  obtain ⟨X, Y, hXY⟩ := List.append_of_mem h
  have t := (P.ok lot h).2
  have ef : (X ++ p :: q :: Y).flatten = (ML f n ns).flatten := by rw [hXY, e]; simp
  have hL : (X ++ p :: q :: Y).flatten.Nodup := by rw [ef]; exact P.pm.nodup_iff.mpr hn
  have := ML_max f n ns hn hl h0 _ (HasF.of_lots hn hL (fun s hs => P.pm.mem_iff.mp (by rw [← ef]; exact hs)) fun l hl => by
    rcases List.mem_append.mp hl with h1 | h1
    · exact P.ok l (by rw [hXY]; exact List.mem_append_left _ h1)
    · rcases List.mem_cons.mp h1 with h1 | h1
      · rw [h1]; exact ⟨hp, z⟩
      · rcases List.mem_cons.mp h1 with h1 | h1
        · rw [h1]
          refine ⟨hq, ?_⟩
          rw [e, tot_app] at t
          omega
        · exact P.ok l (by rw [hXY]; exact List.mem_append_right _ (List.mem_cons_of_mem _ h1)))
  rw [hXY] at this
  simp only [List.length_append, List.length_cons] at this
  omega
theorem flat_count : ∀ (L : List (List α)), (∀ lot ∈ L, lot ≠ []) → (L.map fun lot => lot.length - 1).sum + L.length = L.flatten.length
  | [], _ => rfl
  | lot :: L, h => by
    have ih := flat_count L fun l hl => h l (List.mem_cons_of_mem _ hl)
    have : 0 < lot.length := Nat.pos_of_ne_zero fun z => h lot List.mem_cons_self (List.length_eq_zero_iff.mp z)
    rw [List.map_cons, List.sum_cons, List.length_cons, List.flatten_cons, List.length_append]
    omega
end
end Mm
namespace Mm
open PySem PySem.Spec L2
set_option autoImplicit false
abbrev Pay := Str × Str × Int
def rowP (a b : Str) (l : Int) : List Pay := if 0 < l then [(b, a, l)] else if l < 0 then [(a, b, -l)] else []
def rowsP (f : Str → Int) : Int → List Str → List Pay
  | left, a :: b :: r => rowP a b (left + f a) ++ rowsP f (left + f a) (b :: r)
  | _, _ => []
def addB (b : Str → Int) (s : Str) (v : Int) : Str → Int := fun x => if x = s then v else b x
def app1 (b : Str → Int) (p : Pay) : Str → Int := addB (addB b p.1 (b p.1 + p.2.2)) p.2.1 (addB b p.1 (b p.1 + p.2.2) p.2.1 - p.2.2)
def appR (b : Str → Int) (rows : List Pay) : Str → Int := rows.foldl app1 b
section
variable {f : Str → Int}
theorem rowsP_len : ∀ (l : List Str) (left : Int), (∀ p q, l = p ++ q → p ≠ [] → q ≠ [] → left + tot f p ≠ 0) → (rowsP f left l).length = l.length - 1
  | [], _, _ => rfl
  | [_], _, _ => rfl
  | a :: b :: r, left, h => by
    have h1 : left + f a ≠ 0 := by
      have := h [a] (b :: r) rfl (by simp) (by simp)
      rwa [tot_cons, tot_nil, Int.add_zero] at this
    have ih := rowsP_len (b :: r) (left + f a) fun p q e hp hq => by
      have := h (a :: p) q (by rw [e]; rfl) (by simp) hq
      rw [tot_cons] at this
      omega
    have h2 : (rowP a b (left + f a)).length = 1 := by
      unfold rowP
      split
      · rfl
      · split
        · rfl
        · omega
    unfold rowsP
    rw [List.length_append, ih, h2]
    simp only [List.length_cons]
    omega
def rowsL (f : Str → Int) (L : List (List Str)) : List Pay := L.flatMap (rowsP f 0)
theorem rowsL_cons {lot : List Str} {L : List (List Str)} : rowsL f (lot :: L) = rowsP f 0 lot ++ rowsL f L := by simp [rowsL]
/-- what each payment is -/
def PayOk (ns : List Str) (B : Int) (p : Pay) : Prop := p.1 ∈ ns ∧ p.2.1 ∈ ns ∧ p.1 ≠ p.2.1 ∧ 1 ≤ p.2.2 ∧ p.2.2 ≤ B
theorem rowsP_ok {B : Int} (hB : 0 ≤ B) : ∀ (l : List Str) (left K : Int), l.Nodup → (∀ s ∈ l, -B ≤ f s ∧ f s ≤ B) → -K ≤ left → left ≤ K → ∀ p ∈ rowsP f left l, PayOk l (K + B * l.length) p
  | [], _, _, _, _, _, _, p, h => by cases h
  | [_], _, _, _, _, _, _, p, h => by cases h
  | a :: b :: r, left, K, hn, hf, h1, h2, p, h => by
    have ne : a ≠ b := fun e => (List.nodup_cons.mp hn).1 (by rw [e]; exact List.mem_cons_self)
    have hfa := hf a List.mem_cons_self
    have hlen : (((a :: b :: r).length : Nat) : Int) = ((b :: r).length : Nat) + 1 := by simp only [List.length_cons]; omega
    have hmul : B * (((b :: r).length : Nat) + 1 : Int) = B * ((b :: r).length : Nat) + B := by rw [Int.mul_add, Int.mul_one]
    have h0 : 0 ≤ B * (((b :: r).length : Nat) : Int) := Int.mul_nonneg hB (by omega)
    unfold rowsP at h
    rcases List.mem_append.mp h with h | h
    · unfold rowP at h
      split at h
      · rw [List.mem_singleton.mp h]
        refine ⟨List.mem_cons_of_mem _ List.mem_cons_self, List.mem_cons_self, fun e => ne e.symm, ?_, ?_⟩
        · show 1 ≤ left + f a; omega
        · show left + f a ≤ _; rw [hlen, hmul]; omega
      · split at h
        · rw [List.mem_singleton.mp h]
          refine ⟨List.mem_cons_self, List.mem_cons_of_mem _ List.mem_cons_self, ne, ?_, ?_⟩
          · show 1 ≤ -(left + f a); omega
          · show -(left + f a) ≤ _; rw [hlen, hmul]; omega
        · cases h
    · obtain ⟨p1, p2, p3, p4, p5⟩ := rowsP_ok hB (b :: r) (left + f a) (K + B) (List.nodup_cons.mp hn).2 (fun s hs => hf s (List.mem_cons_of_mem _ hs)) (by omega) (by omega) p h
      exact ⟨List.mem_cons_of_mem _ p1, List.mem_cons_of_mem _ p2, p3, p4, by rw [hlen, hmul]; omega⟩
theorem rowsL_ok {B : Int} (hB : 0 ≤ B) {ns : List Str} {L : List (List Str)} (hn : L.flatten.Nodup) (hs : ∀ s ∈ L.flatten, s ∈ ns) (hf : ∀ s ∈ ns, -B ≤ f s ∧ f s ≤ B) {m : Nat} (hl : L.flatten.length ≤ m) : ∀ p ∈ rowsL f L, PayOk ns (B * m) p := by
  intro p hp
  unfold rowsL at hp
  obtain ⟨lot, hlot, hp⟩ := List.mem_flatMap.mp hp
  have hsub := List.sublist_flatten_of_mem hlot
  have hin : ∀ s ∈ lot, s ∈ ns := fun s z => hs s (hsub.subset z)
  obtain ⟨p1, p2, p3, p4, p5⟩ := rowsP_ok hB lot 0 0 (hsub.nodup hn) (fun s z => hf s (hin s z)) (by omega) (by omega) p hp
  refine ⟨hin _ p1, hin _ p2, p3, p4, Int.le_trans p5 ?_⟩
  rw [Int.zero_add]
  exact Int.mul_le_mul_of_nonneg_left (by have := hsub.length_le; omega) hB
/-- how many payments settle what is told -/
theorem rowsL_count {n : Nat} {ns : List Str} (hn : ns.Nodup) (hl : ns.length ≤ n) (h0 : tot f ns = 0) : (rowsL f (ML f n ns)).length + (ML f n ns).length = ns.length := by
  have P := ML_part f n ns hn hl h0
  rw [← P.pm.length_eq, ← flat_count (ML f n ns) fun lot h => (P.ok lot h).1]
  unfold rowsL
  rw [List.length_flatMap]
  congr 2
  refine List.map_congr_left fun lot h => ?_
  exact rowsP_len lot 0 fun p q e hp hq => by
    have := ML_tight hn hl h0 h e hp hq
    omega
end
end Mm
namespace Mm
open PySem PySem.Spec L2
set_option autoImplicit false
def tS (l : List Str) : PD := .tuple (l.map PyData.str)
def LD (L : List (List Str)) : PD := .list (L.map tS)
theorem compD_all {α : Type} {g : α → PD} {xs : List α} : compD (fun _ => true) g xs = xs.map g := by
  unfold compD
  rw [List.filter_eq_self.mpr fun _ _ => rfl]
theorem c1_lots {s : List (List Str)} {x : Str} {a0 x3 : Option SV} (hs : s.length ≤ 100000) (hl : ∀ l ∈ s, l.length ≤ 1000) : c1_lots_of [a0, some (fz (LD s)), some (fzS x), x3] = some (rL ((s.map (· ++ [x])).map tS)) := by
  have big : 200000 < sizeLine := by decide
  unfold c1_lots_of
  rw [pComp_def, show iP (pVar 1) [a0, some (fz (LD s)), some (fzS x), x3] = some (s.map tS) from rfl, Option.bind_some, if_pos (by rw [List.length_map]; omega)]
  rw [loopP_ok (enc := tS) (tt := fun _ => true) (gg := fun l => tS (l ++ [x])) s fun l hl' => ⟨[a0, some (fz (LD s)), some (fzS x), some (fz (tS l))], rfl, rfl, fun _ => ?_⟩]
  · rw [compD_all, List.map_map]; rfl
  · unfold tS
    simp only [q0, q4, q6, q7, q8, q9, qf, qj, qm, qn, qp, qu, qw, qx, qy, qz, qA, qB, qC, qD, qE, qF, qG, qH, qI, qJ, qK, qL, qM, qN, qO, qP, qQ, qR, qS, qT, qU, qV, qW, qX, qY, qZ, w6, w7, wa, wb, wc, wd, we, wg, wh, wj, wl, wm, wn, wo, wp, wq, wr, wt, wu, wv, ww, wx, wy, wz, wA, wB, wC, wD, wE, wF, wG, wH, wI, wJ, wK, wM, wN, wO, wQ, wS, wT, wU, wV, wW, wX, wY, wZ, xa, xb, xc, xf, xg, xh, xi, xj, xk, xl, xm, xn, xo, xq, xr, xt, xu, xv, xw, xx, xy, xz, xA, xB, xC, xE, xG, xH, xI, xJ, xK, xL, xM, xN, xO, xP, xQ, xR, xS, xT, xU, xV, xW, List.map_cons, List.map_nil, List.length_cons, List.length_nil, List.cons_append, List.nil_append, List.set_cons_zero, List.set_cons_succ, List.getElem?_cons_zero, List.getElem?_cons_succ, Option.bind_some, Option.map_some, List.replicate_succ, xX, xY, xZ, y0, y1, y2, ya, yb, yc, yd, ye, yf, yg, yh, yi, yj, yk, ym, Nat.reduceSub, Nat.reduceAdd, if_true, if_false, decide_eq_true_eq]
    rw [fAdd_tt (by rw [List.length_map]; have := hl l hl'; simp only [List.length_singleton]; omega), List.map_append]; rfl
theorem lots_ok {ns : List Str} (hn : ns.length ≤ 12) : φ_lots_of [fz (tS ns)] = .ok (rD (LD (lotsL ns)), [some (fz (tS ns))]) := by
  have big : 200000 < sizeLine := by decide
  obtain ⟨ρ', k1, ⟨x2, x3, rfl, q1, q2⟩⟩ := for_fold (b := bName 2) (g := l2_lots_of) (enc := PyData.str) (fun (found : List (List Str)) x => found ++ found.map (· ++ [x])) (fun j s ρ => ∃ x2 x3, ρ = [some (fz (tS ns)), some (fz (LD s)), x2, x3] ∧ s.length = 2 ^ j ∧ ∀ l ∈ s, l.length ≤ j) ns 0 [[]] [some (fz (tS ns)), some (fz (LD [[]])), none, none]
    (fun x hx j s ρ hj ⟨x2, x3, e, q1, q2⟩ => by
      subst e
      have hp : 2 ^ j ≤ 2 ^ 12 := Nat.pow_le_pow_right (by omega) (by omega)
      have h12 : 2 ^ 12 = 4096 := by decide
      have c := c1_lots (a0 := some (fz (tS ns))) (x := x) (x3 := x3) (s := s) (by omega) (fun l hl => by have := q2 l hl; omega)
      refine ⟨[some (fz (tS ns)), some (fz (LD s)), some (fzS x), x3], [some (fz (tS ns)), some (fz (LD (s ++ s.map (· ++ [x])))), some (fzS x), x3], rfl, ?_, some (fzS x), x3, rfl, ?_, ?_⟩
      · unfold l2_lots_of
        unfold LD at c ⊢
        have fa : fAdd (.frz (.list (s.map tS))) (.lst ((s.map (· ++ [x])).map tS)) = some (rL (s.map tS ++ (s.map (· ++ [x])).map tS)) := by
          show (if _ then _ else _) = _
          rw [if_pos (by rw [List.length_map, List.length_map, List.length_map]; omega)]
        simp only [q0, q4, q6, q7, q8, q9, qf, qj, qm, qn, qp, qu, qw, qx, qy, qz, qA, qB, qC, qD, qE, qF, qG, qH, qI, qJ, qK, qL, qM, qN, qO, qP, qQ, qR, qS, qT, qU, qV, qW, qX, qY, qZ, w6, w7, wa, wb, wc, wd, we, wg, wh, wj, wl, wm, wn, wo, wp, wq, wr, wt, wu, wv, ww, wx, wy, wz, wA, wB, wC, wD, wE, wF, wG, wH, wI, wJ, wK, wM, wN, wO, wQ, wS, wT, wU, wV, wW, wX, wY, wZ, xa, xb, xc, xf, xg, xh, xi, xj, xk, xl, xm, xn, xo, xq, xr, xt, xu, xv, xw, xx, xy, xz, xA, xB, xC, xE, xG, xH, xI, xJ, xK, xL, xM, xN, xO, xP, xQ, xR, xS, xT, xU, xV, xW, List.map_cons, List.map_nil, List.length_cons, List.length_nil, List.cons_append, List.nil_append, List.set_cons_zero, List.set_cons_succ, List.getElem?_cons_zero, List.getElem?_cons_succ, Option.bind_some, Option.map_some, List.replicate_succ, xX, xY, xZ, y0, y1, y2, ya, yb, yc, yd, ye, yf, yg, yh, yi, yj, yk, ym, Nat.reduceSub, Nat.reduceAdd, if_true, if_false, decide_eq_true_eq, c, fa]
        rw [List.map_append]
      · rw [List.length_append, List.length_map, q1, Nat.pow_succ]; omega
      · intro l hl
        rcases List.mem_append.mp hl with h | h
        · have := q2 l h; omega
        · obtain ⟨l', h1, rfl⟩ := List.mem_map.mp h
          have := q2 l' h1
          rw [List.length_append]; simp only [List.length_singleton]; omega) ⟨none, none, rfl, rfl, fun l hl => by rw [List.mem_singleton.mp hl]; exact Nat.le_refl _⟩
  have k1 : loopFor (bName 2) l2_lots_of (ns.map PyData.str) [some (fz (tS ns)), some (fz (.list [.tuple []])), none, none] = _ := k1
  unfold φ_lots_of m_lots_of tS at *
  have sq : seqD (.tuple (ns.map PyData.str)) = some (ns.map PyData.str) := rfl
  simp only [q0, q4, q6, q7, q8, q9, qf, qj, qm, qn, qp, qu, qw, qx, qy, qz, qA, qB, qC, qD, qE, qF, qG, qH, qI, qJ, qK, qL, qM, qN, qO, qP, qQ, qR, qS, qT, qU, qV, qW, qX, qY, qZ, w6, w7, wa, wb, wc, wd, we, wg, wh, wj, wl, wm, wn, wo, wp, wq, wr, wt, wu, wv, ww, wx, wy, wz, wA, wB, wC, wD, wE, wF, wG, wH, wI, wJ, wK, wM, wN, wO, wQ, wS, wT, wU, wV, wW, wX, wY, wZ, xa, xb, xc, xf, xg, xh, xi, xj, xk, xl, xm, xn, xo, xq, xr, xt, xu, xv, xw, xx, xy, xz, xA, xB, xC, xE, xG, xH, xI, xJ, xK, xL, xM, xN, xO, xP, xQ, xR, xS, xT, xU, xV, xW, List.map_cons, List.map_nil, List.length_cons, List.length_nil, List.cons_append, List.nil_append, List.set_cons_zero, List.set_cons_succ, List.getElem?_cons_zero, List.getElem?_cons_succ, Option.bind_some, Option.map_some, List.replicate_succ, xX, xY, xZ, y0, y1, y2, ya, yb, yc, yd, ye, yf, yg, yh, yi, yj, yk, ym, Nat.reduceSub, Nat.reduceAdd, if_true, if_false, decide_eq_true_eq, sq, k1]
  rfl
def balD (ns : List Str) (f : Str → Int) : List (Key × PD) := ns.map fun s => (Sum.inr s, PyData.int (f s))
theorem valD_bal {f : Str → Int} {s : Str} : ∀ {ns : List Str}, s ∈ ns → valD (balD ns f) (.inr s) = some (.int (f s))
  | x :: ns, h => by
    show valD ((Sum.inr x, PyData.int (f x)) :: balD ns f) (.inr s) = _
    rw [valD_cons]
    by_cases e : x = s
    · subst e; rw [if_pos rfl]
    · rw [if_neg fun z => e (Sum.inr.inj z)]
      exact valD_bal ((List.mem_cons.mp h).resolve_left fun z => e z.symm)
theorem valD_bal_no {f : Str → Int} {s : Str} : ∀ {ns : List Str}, s ∉ ns → valD (balD ns f) (.inr s) = none
  | [], _ => rfl
  | x :: ns, h => by
    show valD ((Sum.inr x, PyData.int (f x)) :: balD ns f) (.inr s) = _
    rw [valD_cons, if_neg fun z => h (by rw [Sum.inr.inj z]; exact List.mem_cons_self)]
    exact valD_bal_no fun z => h (List.mem_cons_of_mem _ z)
def kS (ns : List Str) : List Key := ns.map Sum.inr
theorem kS_inj {a b : List Str} (h : kS a = kS b) : a = b := by
  unfold kS at h
  exact (List.map_inj_right fun x y e => Sum.inr.inj e).mp h
theorem keysOf_strs : ∀ ns : List Str, keysOf (ns.map PyData.str) = some (kS ns)
  | [] => rfl
  | x :: ns => by
    show ((keyOf (.str x)).bind fun k => (keysOf (ns.map PyData.str)).map (k :: ·)) = _
    rw [keysOf_strs ns]; rfl
theorem look_tS {K : List (List Key × PD)} {ns : List Str} : (S1.dT K).look (tS ns) = some (valD K (kS ns)) := by
  show (tkeyOf (tS ns)).map (valD K) = _
  rw [show tkeyOf (tS ns) = some (kS ns) from keysOf_strs ns]; rfl
theorem fIn_tS {K : List (List Key × PD)} {ns : List Str} {neg : Bool} : fIn neg (.frz (tS ns)) (.dT K) = some (rB (neg.xor (valD K (kS ns)).isSome)) := by
  show (((S1.dT K).look (tS ns)).map fun o => rB (neg.xor o.isSome)) = _
  rw [look_tS]; rfl
theorem fIx_tS {K : List (List Key × PD)} {ns : List Str} : fIx (.dT K) (.frz (tS ns)) = (valD K (kS ns)).map rD := by
  show (((S1.dT K).look (tS ns)).bind fun o => o.map rD) = _
  rw [look_tS]; rfl
theorem put_tS {K : List (List Key × PD)} {ns : List Str} {v : PD} (h : K.length < sizeLine) : (S1.dT K).put (tS ns) v = some (.dT (putD K (kS ns) v)) := by
  show ((tkeyOf (tS ns)).bind fun k => if K.length < sizeLine then some (S1.dT (putD K k v)) else none) = _
  rw [show tkeyOf (tS ns) = some (kS ns) from keysOf_strs ns, Option.bind_some, if_pos h]
theorem eqv_tnil {xs : List PD} : PyData.eqv (.tuple xs) (.tuple []) = xs.isEmpty := by
  cases xs with
  | nil => simp [PyData.eqv, PyData.eqvAll]
  | cons x xs => simp [PyData.eqv, PyData.eqvAll]
theorem fEq_tnil {xs : List PD} (hp : PyData.plainAll xs = true) : fEq (.frz (.tuple xs)) (.frz (.tuple [])) = some (rB xs.isEmpty) := by
  unfold fEq fEqN
  have h : eqOk (.tuple xs) (.tuple []) = true := by
    unfold eqOk
    rw [show (PyData.tuple xs).plain = true by rw [PyData.plain]; exact hp]
    have : min (PyData.tuple xs).depth (PyData.tuple []).depth ≤ 60 := Nat.le_trans (Nat.min_le_right _ _) (by simp [PyData.depth, PyData.depthAll])
    simp only [Bool.true_and, this, decide_true, Bool.and_true]
    rfl
  show (if eqOk (.tuple xs) (.tuple []) = true then some (rB (false.xor (PyData.eqv (.tuple xs) (.tuple [])))) else none) = _
  rw [if_pos h, eqv_tnil, Bool.false_xor]
end Mm
namespace Mm
open PySem PySem.Spec L2
set_option autoImplicit false
theorem intsOf_map {α : Type} (g : α → Int) : ∀ xs : List α, intsOf (xs.map fun x => PyData.int (g x)) = some (xs.map g)
  | [] => rfl
  | x :: xs => by
    rw [List.map_cons]
    show (intsOf (xs.map fun x => PyData.int (g x))).map (g x :: ·) = _
    rw [intsOf_map g xs]; rfl
theorem fSum_map {α : Type} (g : α → Int) (xs : List α) : fSum (.lst (xs.map fun x => PyData.int (g x))) = some (rInt (xs.map g).sum) := by
  show ((intsOf (xs.map fun x => PyData.int (g x))).map fun ns => rInt ns.sum) = _
  rw [intsOf_map]; rfl
theorem fAdd_ol {xs ys : List PD} (h : xs.length + ys.length ≤ sizeLine) : fAdd (.lst xs) (.frz (.list ys)) = some (rL (xs ++ ys)) := by
  show (if xs.length + ys.length ≤ sizeLine then some (rL (xs ++ ys)) else none) = _
  rw [if_pos h]
theorem ML_len (f : Str → Int) : ∀ (n : Nat) (ns : List Str), (ML f n ns).length ≤ n
  | 0, _ => Nat.le_refl _
  | n + 1, [] => Nat.zero_le _
  | n + 1, a :: rest => foldM_of f (ML f n) (a :: rest) a (fun b => b.length ≤ n + 1) (lotsL rest) [] (Nat.zero_le _) fun lot _ _ => by
    rw [List.length_cons]
    have := ML_len f n (remL (a :: rest) (a :: lot))
    omega
/-- what is known is so -/
structure KI (f : Str → Int) (top : List Str) (K : List (List Key × PD)) : Prop where
  nd : (K.map (·.1)).Nodup
  ok : ∀ kv ∈ K, ∃ ns : List Str, ns.Sublist top ∧ kv.1 = kS ns ∧ kv.2 = LD (ML f ns.length ns)
theorem KI.nil {f : Str → Int} {top : List Str} : KI f top [] := ⟨List.nodup_nil, fun kv h => by cases h⟩
theorem KI.len {f : Str → Int} {top : List Str} {K : List (List Key × PD)} (h : KI f top K) : K.length ≤ 2 ^ top.length := by
  have := nodup_len' (ys := (lotsL top).map kS) h.nd fun x hx => by
    obtain ⟨kv, hk, rfl⟩ := List.mem_map.mp hx
    obtain ⟨ns, h1, h2, _⟩ := h.ok kv hk
    rw [h2]
    exact List.mem_map.mpr ⟨ns, mem_lotsL.mpr h1, rfl⟩
  rw [List.length_map, List.length_map, lotsL_len] at this
  exact this
theorem KI.put {f : Str → Int} {top : List Str} {K : List (List Key × PD)} (h : KI f top K) {ns : List Str} (hs : ns.Sublist top) : KI f top (putD K (kS ns) (LD (ML f ns.length ns))) := by
  refine ⟨putD_nd h.nd, fun kv hk => ?_⟩
  unfold putD at hk
  split at hk
  · obtain ⟨kv', h1, h2⟩ := List.mem_map.mp hk
    split at h2
    · rename_i e
      rw [← h2]
      exact ⟨ns, hs, e, rfl⟩
    · rw [← h2]; exact h.ok kv' h1
  · rcases List.mem_append.mp hk with q | q
    · exact h.ok kv q
    · rw [List.mem_singleton.mp q]
      exact ⟨ns, hs, rfl, rfl⟩
theorem KI.val {f : Str → Int} {top : List Str} {K : List (List Key × PD)} (h : KI f top K) {ns : List Str} {v : PD} (e : valD K (kS ns) = some v) : v = LD (ML f ns.length ns) := by
  unfold valD at e
  rw [Option.map_eq_some_iff] at e
  obtain ⟨kv, h1, rfl⟩ := e
  have hm := List.mem_of_find?_eq_some h1
  have hk := List.find?_some h1
  obtain ⟨ns', _, q1, q2⟩ := h.ok kv hm
  have hk : kv.1 = kS ns := by simpa using hk
  rw [q1] at hk
  rw [q2, kS_inj hk]
def mlE (all : List Str) (f : Str → Int) (ns : List Str) (K : List (List Key × PD)) (x3 x4 x5 x6 x7 : Option SV) : Env := [some (.one (.dK (balD all f))), some (fz (tS ns)), some (.one (.dT K)), x3, x4, x5, x6, x7]
section
variable {all top ns : List Str} {f : Str → Int} {K : List (List Key × PD)} {x3 x4 x5 x6 x7 : Option SV}
theorem c1ml {rec : List SV → Out (Res × Env)} {mine : List Str} (hm : ∀ s ∈ mine, s ∈ all) (hl : mine.length ≤ 1000) : c1_most_lots rec (mlE all f ns K x3 x4 (some (fz (tS mine))) x6 x7) = some (rL (mine.map fun s => PyData.int (f s))) := by
  have big : 200000 < sizeLine := by decide
  unfold c1_most_lots mlE
  rw [pComp_def, show iP (pVar 5) [some (.one (.dK (balD all f))), some (fz (tS ns)), some (.one (.dT K)), x3, x4, some (fz (tS mine)), x6, x7] = some (mine.map PyData.str) from rfl, Option.bind_some, if_pos (by rw [List.length_map]; omega)]
  rw [loopP_ok (enc := PyData.str) (tt := fun _ => true) (gg := fun s => PyData.int (f s)) mine fun s hs => ⟨[some (.one (.dK (balD all f))), some (fz (tS ns)), some (.one (.dT K)), x3, x4, some (fz (tS mine)), x6, some (fzS s)], rfl, rfl, fun _ => ?_⟩]
  · rw [compD_all]; rfl
  · simp only [q0, q4, q6, q7, q8, q9, qf, qj, qm, qn, qp, qu, qw, qx, qy, qz, qA, qB, qC, qD, qE, qF, qG, qH, qI, qJ, qK, qL, qM, qN, qO, qP, qQ, qR, qS, qT, qU, qV, qW, qX, qY, qZ, w6, w7, wa, wb, wc, wd, we, wg, wh, wj, wl, wm, wn, wo, wp, wq, wr, wt, wu, wv, ww, wx, wy, wz, wA, wB, wC, wD, wE, wF, wG, wH, wI, wJ, wK, wM, wN, wO, wQ, wS, wT, wU, wV, wW, wX, wY, wZ, xa, xb, xc, xf, xg, xh, xi, xj, xk, xl, xm, xn, xo, xq, xr, xt, xu, xv, xw, xx, xy, xz, xA, xB, xC, xE, xG, xH, xI, xJ, xK, xL, xM, xN, xO, xP, xQ, xR, xS, xT, xU, xV, xW, List.map_cons, List.map_nil, List.length_cons, List.length_nil, List.cons_append, List.nil_append, List.set_cons_zero, List.set_cons_succ, List.getElem?_cons_zero, List.getElem?_cons_succ, Option.bind_some, Option.map_some, List.replicate_succ, xX, xY, xZ, y0, y1, y2, ya, yb, yc, yd, ye, yf, yg, yh, yi, yj, yk, ym, Nat.reduceSub, Nat.reduceAdd, if_true, if_false, decide_eq_true_eq, fIx_dK, valD_bal (hm s hs)]
theorem c2ml {rec : List SV → Out (Res × Env)} {mine : List Str} (hl : ns.length ≤ 1000) : c2_most_lots rec (mlE all f ns K x3 x4 (some (fz (tS mine))) x6 x7) = some (rL ((remL ns mine).map PyData.str)) := by
  have big : 200000 < sizeLine := by decide
  unfold c2_most_lots mlE
  rw [pComp_def, show iP (pVar 1) [some (.one (.dK (balD all f))), some (fz (tS ns)), some (.one (.dT K)), x3, x4, some (fz (tS mine)), x6, x7] = some (ns.map PyData.str) from rfl, Option.bind_some, if_pos (by rw [List.length_map]; omega)]
  rw [loopP_ok (enc := PyData.str) (tt := fun s => decide (s ∉ mine)) (gg := PyData.str) ns fun s hs => ⟨[some (.one (.dK (balD all f))), some (fz (tS ns)), some (.one (.dT K)), x3, x4, some (fz (tS mine)), x6, some (fzS s)], rfl, ?_, fun _ => rfl⟩]
  · rfl
  · unfold tS
    simp only [q0, q4, q6, q7, q8, q9, qf, qj, qm, qn, qp, qu, qw, qx, qy, qz, qA, qB, qC, qD, qE, qF, qG, qH, qI, qJ, qK, qL, qM, qN, qO, qP, qQ, qR, qS, qT, qU, qV, qW, qX, qY, qZ, w6, w7, wa, wb, wc, wd, we, wg, wh, wj, wl, wm, wn, wo, wp, wq, wr, wt, wu, wv, ww, wx, wy, wz, wA, wB, wC, wD, wE, wF, wG, wH, wI, wJ, wK, wM, wN, wO, wQ, wS, wT, wU, wV, wW, wX, wY, wZ, xa, xb, xc, xf, xg, xh, xi, xj, xk, xl, xm, xn, xo, xq, xr, xt, xu, xv, xw, xx, xy, xz, xA, xB, xC, xE, xG, xH, xI, xJ, xK, xL, xM, xN, xO, xP, xQ, xR, xS, xT, xU, xV, xW, List.map_cons, List.map_nil, List.length_cons, List.length_nil, List.cons_append, List.nil_append, List.set_cons_zero, List.set_cons_succ, List.getElem?_cons_zero, List.getElem?_cons_succ, Option.bind_some, Option.map_some, List.replicate_succ, xX, xY, xZ, y0, y1, y2, ya, yb, yc, yd, ye, yf, yg, yh, yi, yj, yk, ym, Nat.reduceSub, Nat.reduceAdd, if_true, if_false, decide_eq_true_eq, fIn_strs]
    by_cases z : s ∈ mine <;> simp [z]
theorem con_02 : [0, 2].contains 0 = true := by decide
theorem con_22 : [0, 2].contains 2 = true := by decide
theorem nodup_02 : [0, 2].Nodup := by decide
theorem pu_ml {v0 v2 : SV} {x : PD} {a1 r0 r1 r2 r3 r4 r5 r6 r7 : Option SV} : putOuts [.slot 0, .val x, .slot 2] [some v0, a1, some v2] [r0, r1, r2, r3, r4, r5, r6, r7] = [some v0, r1, some v2, r3, r4, r5, r6, r7] := rfl
theorem l3ml {rec : List SV → Out (Res × Env)} {a : Str} {rest lot : List Str} {best : List (List Str)} {n : Nat} (hall : ∀ s ∈ a :: rest, s ∈ all) (hl : (a :: rest).length ≤ 12) (hn : rest.length ≤ n) (hlot : lot.Sublist rest) (hn2 : n ≤ 100)
    (htop : (a :: rest).Sublist top) (I : KI f top K)
    (hrec : ∀ (ns : List Str) (K : List (List Key × PD)), ns.Sublist top → ns.length ≤ n → KI f top K → ∃ R K', rec [.one (.dK (balD all f)), fz (tS ns), .one (.dT K)] = .ok (R, [some (.one (.dK (balD all f))), some (fz (tS ns)), some (.one (.dT K'))]) ∧ R.s1.bind S1.pd = some (LD (ML f ns.length ns)) ∧ KI f top K') :
    ∃ K' y5 y6, l3_most_lots rec (mlE all f (a :: rest) K (some (fz (LD best))) (some (fz (tS lot))) x5 x6 x7) = .ok (.nx, mlE all f (a :: rest) K' (some (fz (LD (stepM f (ML f n) (a :: rest) a best lot)))) (some (fz (tS lot))) y5 y6 x7) ∧ KI f top K' := by
  have big : 200000 < sizeLine := by decide
  have hll := hlot.length_le
  rw [List.length_cons] at hl
  have hin : ∀ s ∈ a :: lot, s ∈ all := fun s hs => hall s ((hlot.cons_cons a).subset hs)
  have fa : fAdd (.frz (.tuple [.str a])) (.frz (tS lot)) = some (rD (tS (a :: lot))) := by
    unfold tS
    rw [fAdd_tt (by rw [List.length_map]; simp only [List.length_singleton]; omega)]; rfl
  have c1 := c1ml (rec := rec) (K := K) (f := f) (ns := a :: rest) (x3 := some (fz (LD best))) (x4 := some (fz (tS lot))) (x6 := x6) (x7 := x7) hin (by rw [List.length_cons]; omega)
  have i0 : fIx (.frz (tS (a :: rest))) (.frz (.int 0)) = some (rS a) := by
    show (atI (PyData.str a :: rest.map PyData.str) 0).map rD = _
    rw [xN]; rfl
  have hsum : fSum (.lst (PyData.int (f a) :: lot.map fun s => PyData.int (f s))) = some (rInt (tot f (a :: lot))) := fSum_map f (a :: lot)
  unfold l3_most_lots
  by_cases z : tot f (a :: lot) = 0
  · obtain ⟨R, K', e1, e2, I'⟩ := hrec (remL (a :: rest) (a :: lot)) K (List.filter_sublist.trans htop) (Nat.le_trans rem_len hn) I
    have c2 := c2ml (rec := rec) (all := all) (K := K) (f := f) (ns := a :: rest) (mine := a :: lot) (x3 := some (fz (LD best))) (x4 := some (fz (tS lot))) (x6 := x6) (x7 := x7) (by rw [List.length_cons]; omega)
    have e1 : rec [.one (.dK (balD all f)), fz (.tuple ((remL (a :: rest) (a :: lot)).map PyData.str)), .one (.dT K)] = _ := e1
    have eM : ML f (remL (a :: rest) (a :: lot)).length (remL (a :: rest) (a :: lot)) = ML f n (remL (a :: rest) (a :: lot)) := ML_stable f _ _ _ (Nat.le_refl _) (Nat.le_trans rem_len hn)
    have hM' := ML_len f n (remL (a :: rest) (a :: lot))
    rw [eM] at e2
    refine ⟨K', some (fz (tS (a :: lot))), some (fz (LD (ML f n (remL (a :: rest) (a :: lot))))), ?_, I'⟩
    have fl1 : fLen (.frz (LD (ML f n (remL (a :: rest) (a :: lot))))) = some (rInt ((ML f n (remL (a :: rest) (a :: lot))).length : Nat)) := by show some (rInt _) = _; rw [List.length_map]
    have fl2 : fLen (.frz (LD best)) = some (rInt (best.length : Nat)) := by show some (rInt _) = _; rw [List.length_map]
    unfold mlE at c1 c2 ⊢
    simp only [q0, q4, q6, q7, q8, q9, qf, qj, qm, qn, qp, qu, qw, qx, qy, qz, qA, qB, qC, qD, qE, qF, qG, qH, qI, qJ, qK, qL, qM, qN, qO, qP, qQ, qR, qS, qT, qU, qV, qW, qX, qY, qZ, w6, w7, wa, wb, wc, wd, we, wg, wh, wj, wl, wm, wn, wo, wp, wq, wr, wt, wu, wv, ww, wx, wy, wz, wA, wB, wC, wD, wE, wF, wG, wH, wI, wJ, wK, wM, wN, wO, wQ, wS, wT, wU, wV, wW, wX, wY, wZ, xa, xb, xc, xf, xg, xh, xi, xj, xk, xl, xm, xn, xo, xq, xr, xt, xu, xv, xw, xx, xy, xz, xA, xB, xC, xE, xG, xH, xI, xJ, xK, xL, xM, xN, xO, xP, xQ, xR, xS, xT, xU, xV, xW, List.map_cons, List.map_nil, List.length_cons, List.length_nil, List.cons_append, List.nil_append, List.set_cons_zero, List.set_cons_succ, List.getElem?_cons_zero, List.getElem?_cons_succ, Option.bind_some, Option.map_some, List.replicate_succ, xX, xY, xZ, y0, y1, y2, ya, yb, yc, yd, ye, yf, yg, yh, yi, yj, yk, ym, Nat.reduceSub, Nat.reduceAdd, if_true, if_false, decide_eq_true_eq, i0, fa, c1, hsum, z, fEq_i, decide_true, c2, fTuple_o, nodup_02, e1, pu_ml, e2, fl1, fl2]
    unfold stepM
    rw [if_pos z]
    by_cases g : best.length < (ML f n (remL (a :: rest) (a :: lot))).length + 1
    · rw [if_pos (show ((best.length : Nat) : Int) < ((ML f n (remL (a :: rest) (a :: lot))).length : Nat) + 1 by omega), if_pos g]
      have fa2 : fAdd (.lst [tS (a :: lot)]) (.frz (LD (ML f n (remL (a :: rest) (a :: lot))))) = some (rL (((a :: lot) :: ML f n (remL (a :: rest) (a :: lot))).map tS)) := by
        unfold LD
        rw [fAdd_ol (by rw [List.length_map]; simp only [List.length_singleton]; omega)]; rfl
      simp only [q0, q4, q6, q7, q8, q9, qf, qj, qm, qn, qp, qu, qw, qx, qy, qz, qA, qB, qC, qD, qE, qF, qG, qH, qI, qJ, qK, qL, qM, qN, qO, qP, qQ, qR, qS, qT, qU, qV, qW, qX, qY, qZ, w6, w7, wa, wb, wc, wd, we, wg, wh, wj, wl, wm, wn, wo, wp, wq, wr, wt, wu, wv, ww, wx, wy, wz, wA, wB, wC, wD, wE, wF, wG, wH, wI, wJ, wK, wM, wN, wO, wQ, wS, wT, wU, wV, wW, wX, wY, wZ, xa, xb, xc, xf, xg, xh, xi, xj, xk, xl, xm, xn, xo, xq, xr, xt, xu, xv, xw, xx, xy, xz, xA, xB, xC, xE, xG, xH, xI, xJ, xK, xL, xM, xN, xO, xP, xQ, xR, xS, xT, xU, xV, xW, List.map_cons, List.map_nil, List.length_cons, List.length_nil, List.cons_append, List.nil_append, List.set_cons_zero, List.set_cons_succ, List.getElem?_cons_zero, List.getElem?_cons_succ, Option.bind_some, Option.map_some, List.replicate_succ, xX, xY, xZ, y0, y1, y2, ya, yb, yc, yd, ye, yf, yg, yh, yi, yj, yk, ym, Nat.reduceSub, Nat.reduceAdd, if_true, if_false, decide_eq_true_eq, fa2]
      rfl
    · rw [if_neg (show ¬ ((best.length : Nat) : Int) < ((ML f n (remL (a :: rest) (a :: lot))).length : Nat) + 1 by omega), if_neg g]
  · refine ⟨K, some (fz (tS (a :: lot))), x6, ?_, I⟩
    unfold mlE at c1 ⊢
    simp only [q0, q4, q6, q7, q8, q9, qf, qj, qm, qn, qp, qu, qw, qx, qy, qz, qA, qB, qC, qD, qE, qF, qG, qH, qI, qJ, qK, qL, qM, qN, qO, qP, qQ, qR, qS, qT, qU, qV, qW, qX, qY, qZ, w6, w7, wa, wb, wc, wd, we, wg, wh, wj, wl, wm, wn, wo, wp, wq, wr, wt, wu, wv, ww, wx, wy, wz, wA, wB, wC, wD, wE, wF, wG, wH, wI, wJ, wK, wM, wN, wO, wQ, wS, wT, wU, wV, wW, wX, wY, wZ, xa, xb, xc, xf, xg, xh, xi, xj, xk, xl, xm, xn, xo, xq, xr, xt, xu, xv, xw, xx, xy, xz, xA, xB, xC, xE, xG, xH, xI, xJ, xK, xL, xM, xN, xO, xP, xQ, xR, xS, xT, xU, xV, xW, List.map_cons, List.map_nil, List.length_cons, List.length_nil, List.cons_append, List.nil_append, List.set_cons_zero, List.set_cons_succ, List.getElem?_cons_zero, List.getElem?_cons_succ, Option.bind_some, Option.map_some, List.replicate_succ, xX, xY, xZ, y0, y1, y2, ya, yb, yc, yd, ye, yf, yg, yh, yi, yj, yk, ym, Nat.reduceSub, Nat.reduceAdd, if_true, if_false, decide_eq_true_eq, i0, fa, c1, hsum, fEq_i, decide_eq_false z, Bool.false_eq_true]
    unfold stepM
    rw [if_neg z]
theorem plain_tS (ns : List Str) : PyData.plainAll (ns.map PyData.str) = true := plain_strs ns
theorem loop_ml {rec : List SV → Out (Res × Env)} {a : Str} {rest : List Str} {n : Nat} (hall : ∀ s ∈ a :: rest, s ∈ all) (hl : (a :: rest).length ≤ 12) (hn : rest.length ≤ n) (hn2 : n ≤ 100)
    (htop : (a :: rest).Sublist top)
    (hrec : ∀ (ns : List Str) (K : List (List Key × PD)), ns.Sublist top → ns.length ≤ n → KI f top K → ∃ R K', rec [.one (.dK (balD all f)), fz (tS ns), .one (.dT K)] = .ok (R, [some (.one (.dK (balD all f))), some (fz (tS ns)), some (.one (.dT K'))]) ∧ R.s1.bind S1.pd = some (LD (ML f ns.length ns)) ∧ KI f top K') :
    ∀ (lots : List (List Str)) (K : List (List Key × PD)) (best : List (List Str)) (x4 x5 x6 : Option SV), (∀ lot ∈ lots, lot.Sublist rest) → KI f top K → ∃ K' y4 y5 y6, loopFor (bName 4) (l3_most_lots rec) (lots.map tS) (mlE all f (a :: rest) K (some (fz (LD best))) x4 x5 x6 x7) = .ok (.nx, mlE all f (a :: rest) K' (some (fz (LD (lots.foldl (stepM f (ML f n) (a :: rest) a) best)))) y4 y5 y6 x7) ∧ KI f top K'
  | [], K, best, x4, x5, x6, _, I => ⟨K, x4, x5, x6, rfl, I⟩
  | lot :: lots, K, best, x4, x5, x6, hs, I => by
    obtain ⟨K1, y5, y6, e1, I1⟩ := l3ml (x5 := x5) (x6 := x6) (x7 := x7) (best := best) hall hl hn (hs lot List.mem_cons_self) hn2 htop I hrec
    obtain ⟨K2, z4, z5, z6, e2, I2⟩ := loop_ml hall hl hn hn2 htop hrec lots K1 (stepM f (ML f n) (a :: rest) a best lot) (some (fz (tS lot))) y5 y6 (fun l h => hs l (List.mem_cons_of_mem _ h)) I1
    refine ⟨K2, z4, z5, z6, ?_, I2⟩
    rw [List.map_cons, lf_cons (ρ1 := mlE all f (a :: rest) K (some (fz (LD best))) (some (fz (tS lot))) x5 x6 x7) rfl e1, List.foldl_cons]
    exact e2
theorem ml_some {rec : List SV → Out (Res × Env)} {a : Str} {rest : List Str} {K1 : List (List Key × PD)} {best : List (List Str)} {ρ2 : Env} (hl : (a :: rest).length ≤ 12) (hK : K1.length < sizeLine) (hv : valD K (kS (a :: rest)) = none)
    (e : loopFor (bName 4) (l3_most_lots rec) ((lotsL rest).map tS) (mlE all f (a :: rest) K (some (fz (LD []))) none none none none) = .ok (.nx, mlE all f (a :: rest) K1 (some (fz (LD best))) x4 x5 x6 x7)) :
    runF [0, 2] 8 (m_most_lots rec) [.one (.dK (balD all f)), fz (tS (a :: rest)), .one (.dT K)] = .ok (rD (LD best), [some (.one (.dK (balD all f))), some (fz (tS (a :: rest))), some (.one (.dT (putD K1 (kS (a :: rest)) (LD best))))]) := by
  have hi : ∀ ρ, pInt (pK (.int 1)) ρ = some (some 1) := fun _ => rfl
  have h0 : fEq (.frz (tS (a :: rest))) (.frz (.tuple [])) = some (rB false) := fEq_tnil (xs := (a :: rest).map PyData.str) (plain_tS _)
  have hc : fCut (.frz (tS (a :: rest))) (some 1) none = some (rD (tS rest)) := by
    unfold tS
    rw [fCut_t, cutD_1, List.map_cons, List.drop_succ_cons, List.drop_zero]
  have hl2 : rest.length ≤ 12 := by rw [List.length_cons] at hl; omega
  have p1 : pCall φ_lots_of (vsCons (pVal (pCut (pVar 1) (pInt (pK (.int 1))) (fun _ => some none))) vsNil) (mlE all f (a :: rest) K (some (fz (LD []))) none none none none) = some (rD (LD (lotsL rest))) := by
    refine pCall_1 (d := tS rest) ?_ (lots_ok hl2)
    unfold mlE
    simp only [pCut_def, hi, q0, q4, q6, q7, q8, q9, qf, qj, qm, qn, qp, qu, qw, qx, qy, qz, qA, qB, qC, qD, qE, qF, qG, qH, qI, qJ, qK, qL, qM, qN, qO, qP, qQ, qR, qS, qT, qU, qV, qW, qX, qY, qZ, w6, w7, wa, wb, wc, wd, we, wg, wh, wj, wl, wm, wn, wo, wp, wq, wr, wt, wu, wv, ww, wx, wy, wz, wA, wB, wC, wD, wE, wF, wG, wH, wI, wJ, wK, wM, wN, wO, wQ, wS, wT, wU, wV, wW, wX, wY, wZ, xa, xb, xc, xf, xg, xh, xi, xj, xk, xl, xm, xn, xo, xq, xr, xt, xu, xv, xw, xx, xy, xz, xA, xB, xC, xE, xG, xH, xI, xJ, xK, xL, xM, xN, xO, xP, xQ, xR, xS, xT, xU, xV, xW, List.map_cons, List.map_nil, List.length_cons, List.length_nil, List.cons_append, List.nil_append, List.set_cons_zero, List.set_cons_succ, List.getElem?_cons_zero, List.getElem?_cons_succ, Option.bind_some, Option.map_some, List.replicate_succ, xX, xY, xZ, y0, y1, y2, ya, yb, yc, yd, ye, yf, yg, yh, yi, yj, yk, ym, Nat.reduceSub, Nat.reduceAdd, if_true, if_false, decide_eq_true_eq, hc]
  have sq : seqD (LD (lotsL rest)) = some ((lotsL rest).map tS) := rfl
  have hp := put_tS (ns := a :: rest) (v := LD best) hK
  have hx : valD (putD K1 (kS (a :: rest)) (LD best)) (kS (a :: rest)) = some (LD best) := by rw [valD_put, if_pos rfl]
  unfold m_most_lots
  unfold mlE at p1 e
  have e0 : (LD []) = .list [] := rfl
  rw [e0] at p1 e
  simp only [q0, q4, q6, q7, q8, q9, qf, qj, qm, qn, qp, qu, qw, qx, qy, qz, qA, qB, qC, qD, qE, qF, qG, qH, qI, qJ, qK, qL, qM, qN, qO, qP, qQ, qR, qS, qT, qU, qV, qW, qX, qY, qZ, w6, w7, wa, wb, wc, wd, we, wg, wh, wj, wl, wm, wn, wo, wp, wq, wr, wt, wu, wv, ww, wx, wy, wz, wA, wB, wC, wD, wE, wF, wG, wH, wI, wJ, wK, wM, wN, wO, wQ, wS, wT, wU, wV, wW, wX, wY, wZ, xa, xb, xc, xf, xg, xh, xi, xj, xk, xl, xm, xn, xo, xq, xr, xt, xu, xv, xw, xx, xy, xz, xA, xB, xC, xE, xG, xH, xI, xJ, xK, xL, xM, xN, xO, xP, xQ, xR, xS, xT, xU, xV, xW, List.map_cons, List.map_nil, List.length_cons, List.length_nil, List.cons_append, List.nil_append, List.set_cons_zero, List.set_cons_succ, List.getElem?_cons_zero, List.getElem?_cons_succ, Option.bind_some, Option.map_some, List.replicate_succ, xX, xY, xZ, y0, y1, y2, ya, yb, yc, yd, ye, yf, yg, yh, yi, yj, yk, ym, Nat.reduceSub, Nat.reduceAdd, if_true, if_false, decide_eq_true_eq, h0, Bool.false_eq_true, fIn_tS, hv, Option.isSome_none, Bool.xor_false, Bool.not_false, p1, sq, e, hp, fIx_tS, hx, con_02, con_22]
theorem most_ok (htop : top.length ≤ 12) (hall : ∀ s ∈ top, s ∈ all) : ∀ (n : Nat), n ≤ 100 → ∀ (ns : List Str) (K : List (List Key × PD)), ns.Sublist top → ns.length ≤ n → KI f top K →
    ∃ R K', φ_most_lots (n + 1) [.one (.dK (balD all f)), fz (tS ns), .one (.dT K)] = .ok (R, [some (.one (.dK (balD all f))), some (fz (tS ns)), some (.one (.dT K'))]) ∧ R.s1.bind S1.pd = some (LD (ML f ns.length ns)) ∧ KI f top K' := by
  intro n hn
  induction n with
  | zero =>
    intro ns K hs hl I
    have e : ns = [] := List.length_eq_zero_iff.mp (by omega)
    subst e
    refine ⟨rL [], K, ?_, rfl, I⟩
    have h0 : fEq (.frz (tS [])) (.frz (.tuple [])) = some (rB true) := fEq_tnil (xs := []) rfl
    unfold φ_most_lots m_most_lots
    simp only [q0, q4, q6, q7, q8, q9, qf, qj, qm, qn, qp, qu, qw, qx, qy, qz, qA, qB, qC, qD, qE, qF, qG, qH, qI, qJ, qK, qL, qM, qN, qO, qP, qQ, qR, qS, qT, qU, qV, qW, qX, qY, qZ, w6, w7, wa, wb, wc, wd, we, wg, wh, wj, wl, wm, wn, wo, wp, wq, wr, wt, wu, wv, ww, wx, wy, wz, wA, wB, wC, wD, wE, wF, wG, wH, wI, wJ, wK, wM, wN, wO, wQ, wS, wT, wU, wV, wW, wX, wY, wZ, xa, xb, xc, xf, xg, xh, xi, xj, xk, xl, xm, xn, xo, xq, xr, xt, xu, xv, xw, xx, xy, xz, xA, xB, xC, xE, xG, xH, xI, xJ, xK, xL, xM, xN, xO, xP, xQ, xR, xS, xT, xU, xV, xW, List.map_cons, List.map_nil, List.length_cons, List.length_nil, List.cons_append, List.nil_append, List.set_cons_zero, List.set_cons_succ, List.getElem?_cons_zero, List.getElem?_cons_succ, Option.bind_some, Option.map_some, List.replicate_succ, xX, xY, xZ, y0, y1, y2, ya, yb, yc, yd, ye, yf, yg, yh, yi, yj, yk, ym, Nat.reduceSub, Nat.reduceAdd, if_true, if_false, decide_eq_true_eq, h0]
    rfl
  | succ n ih =>
    intro ns K hs hl I
    cases ns with
    | nil =>
      refine ⟨rL [], K, ?_, rfl, I⟩
      have h0 : fEq (.frz (tS [])) (.frz (.tuple [])) = some (rB true) := fEq_tnil (xs := []) rfl
      unfold φ_most_lots m_most_lots
      simp only [q0, q4, q6, q7, q8, q9, qf, qj, qm, qn, qp, qu, qw, qx, qy, qz, qA, qB, qC, qD, qE, qF, qG, qH, qI, qJ, qK, qL, qM, qN, qO, qP, qQ, qR, qS, qT, qU, qV, qW, qX, qY, qZ, w6, w7, wa, wb, wc, wd, we, wg, wh, wj, wl, wm, wn, wo, wp, wq, wr, wt, wu, wv, ww, wx, wy, wz, wA, wB, wC, wD, wE, wF, wG, wH, wI, wJ, wK, wM, wN, wO, wQ, wS, wT, wU, wV, wW, wX, wY, wZ, xa, xb, xc, xf, xg, xh, xi, xj, xk, xl, xm, xn, xo, xq, xr, xt, xu, xv, xw, xx, xy, xz, xA, xB, xC, xE, xG, xH, xI, xJ, xK, xL, xM, xN, xO, xP, xQ, xR, xS, xT, xU, xV, xW, List.map_cons, List.map_nil, List.length_cons, List.length_nil, List.cons_append, List.nil_append, List.set_cons_zero, List.set_cons_succ, List.getElem?_cons_zero, List.getElem?_cons_succ, Option.bind_some, Option.map_some, List.replicate_succ, xX, xY, xZ, y0, y1, y2, ya, yb, yc, yd, ye, yf, yg, yh, yi, yj, yk, ym, Nat.reduceSub, Nat.reduceAdd, if_true, if_false, decide_eq_true_eq, h0]
      rfl
    | cons a rest =>
      rw [List.length_cons] at hl
      have hlen : (a :: rest).length ≤ 12 := Nat.le_trans hs.length_le htop
      have hin : ∀ s ∈ a :: rest, s ∈ all := fun s h => hall s (hs.subset h)
      have eM : ML f (a :: rest).length (a :: rest) = (lotsL rest).foldl (stepM f (ML f n) (a :: rest) a) [] := ML_stable f (a :: rest).length (n + 1) (a :: rest) (Nat.le_refl _) (by rw [List.length_cons]; omega)
      cases hv : valD K (kS (a :: rest)) with
      | some v =>
        have ev := I.val hv
        subst ev
        refine ⟨rD (LD (ML f (a :: rest).length (a :: rest))), K, ?_, rfl, I⟩
        have h0 : fEq (.frz (tS (a :: rest))) (.frz (.tuple [])) = some (rB false) := fEq_tnil (xs := (a :: rest).map PyData.str) (plain_tS _)
        unfold φ_most_lots m_most_lots
        simp only [q0, q4, q6, q7, q8, q9, qf, qj, qm, qn, qp, qu, qw, qx, qy, qz, qA, qB, qC, qD, qE, qF, qG, qH, qI, qJ, qK, qL, qM, qN, qO, qP, qQ, qR, qS, qT, qU, qV, qW, qX, qY, qZ, w6, w7, wa, wb, wc, wd, we, wg, wh, wj, wl, wm, wn, wo, wp, wq, wr, wt, wu, wv, ww, wx, wy, wz, wA, wB, wC, wD, wE, wF, wG, wH, wI, wJ, wK, wM, wN, wO, wQ, wS, wT, wU, wV, wW, wX, wY, wZ, xa, xb, xc, xf, xg, xh, xi, xj, xk, xl, xm, xn, xo, xq, xr, xt, xu, xv, xw, xx, xy, xz, xA, xB, xC, xE, xG, xH, xI, xJ, xK, xL, xM, xN, xO, xP, xQ, xR, xS, xT, xU, xV, xW, List.map_cons, List.map_nil, List.length_cons, List.length_nil, List.cons_append, List.nil_append, List.set_cons_zero, List.set_cons_succ, List.getElem?_cons_zero, List.getElem?_cons_succ, Option.bind_some, Option.map_some, List.replicate_succ, xX, xY, xZ, y0, y1, y2, ya, yb, yc, yd, ye, yf, yg, yh, yi, yj, yk, ym, Nat.reduceSub, Nat.reduceAdd, if_true, if_false, decide_eq_true_eq, h0, Bool.false_eq_true, fIn_tS, hv, Option.isSome_some, Bool.xor_true, Bool.true_xor, Bool.not_true, fIx_tS]
        rfl
      | none =>
        obtain ⟨K1, y4, y5, y6, e, I1⟩ := loop_ml (x7 := none) hin hlen (show rest.length ≤ n by omega) (by omega) hs (ih (by omega)) (lotsL rest) K [] none none none (fun lot h => mem_lotsL.mp h) I
        have hK : K1.length < sizeLine := by
          have h1 := I1.len
          have h2 : 2 ^ top.length ≤ 2 ^ 12 := Nat.pow_le_pow_right (by omega) htop
          have h3 : 2 ^ 12 < sizeLine := by decide
          omega
        rw [← eM] at e
        refine ⟨_, _, ml_some (ρ2 := []) hlen hK hv e, rfl, I1.put hs⟩
end
end Mm
namespace Mm
open PySem PySem.Spec L2
set_option autoImplicit false
def payD (p : Pay) : PD := .tuple [.str p.1, .str p.2.1, .int p.2.2]
def prS (p : Str × Str) : PD := .tuple [.str p.1, .str p.2]
theorem mAug_at {i : Nat} {op : Int → Int → Int} {g : Env → Out (PD × Env)} {ρ : Env} {a j : Int} (h : ρ[i]? = some (some (fzI a))) (e : g ρ = .ok (.int j, ρ)) : mAug i op g ρ = .ok (.nx, ρ.set i (some (fzI (op a j)))) := by
  unfold mAug
  rw [h]
  show (g ρ).bind _ = _
  rw [e]
  rfl
section
variable {all : List Str} {f : Str → Int} {lot : PD}
def piE (all : List Str) (f : Str → Int) (lot : PD) (acc : List Pay) (left : Int) (x4 x5 : Option SV) : Env := [some (.one (.dK (balD all f))), some (fz lot), some (.one (.lst (acc.map payD))), some (fzI left), x4, x5]
theorem l1pi {a b : Str} {left : Int} {acc : List Pay} (ha : a ∈ all) (hacc : acc.length ≤ 1000) : l1_paid_in (piE all f lot acc left (some (fzS a)) (some (fzS b))) = .ok (.nx, piE all f lot (acc ++ rowP a b (left + f a)) (left + f a) (some (fzS a)) (some (fzS b))) := by
  have big : 200000 < sizeLine := by decide
  have e1 : mAug 3 (fun i j => i + j) (gPV (pVal (p2 fIx (pVar 0) (pVar 4)))) (piE all f lot acc left (some (fzS a)) (some (fzS b))) = .ok (.nx, piE all f lot acc (left + f a) (some (fzS a)) (some (fzS b))) := by
    refine mAug_at (a := left) (j := f a) rfl ?_
    unfold piE
    simp only [q0, q4, q6, q7, q8, q9, qf, qj, qm, qn, qp, qu, qw, qx, qy, qz, qA, qB, qC, qD, qE, qF, qG, qH, qI, qJ, qK, qL, qM, qN, qO, qP, qQ, qR, qS, qT, qU, qV, qW, qX, qY, qZ, w6, w7, wa, wb, wc, wd, we, wg, wh, wj, wl, wm, wn, wo, wp, wq, wr, wt, wu, wv, ww, wx, wy, wz, wA, wB, wC, wD, wE, wF, wG, wH, wI, wJ, wK, wM, wN, wO, wQ, wS, wT, wU, wV, wW, wX, wY, wZ, xa, xb, xc, xf, xg, xh, xi, xj, xk, xl, xm, xn, xo, xq, xr, xt, xu, xv, xw, xx, xy, xz, xA, xB, xC, xE, xG, xH, xI, xJ, xK, xL, xM, xN, xO, xP, xQ, xR, xS, xT, xU, xV, xW, List.map_cons, List.map_nil, List.length_cons, List.length_nil, List.cons_append, List.nil_append, List.set_cons_zero, List.set_cons_succ, List.getElem?_cons_zero, List.getElem?_cons_succ, Option.bind_some, Option.map_some, List.replicate_succ, xX, xY, xZ, y0, y1, y2, ya, yb, yc, yd, ye, yf, yg, yh, yi, yj, yk, ym, Nat.reduceSub, Nat.reduceAdd, if_true, if_false, decide_eq_true_eq, fIx_dK, valD_bal ha]
  have hz : (acc.map payD).length < sizeLine := by rw [List.length_map]; omega
  unfold l1_paid_in
  rw [wJ, e1, q8]
  unfold piE rowP
  by_cases h1 : 0 < left + f a
  · rw [if_pos h1]
    simp only [q0, q4, q6, q7, q8, q9, qf, qj, qm, qn, qp, qu, qw, qx, qy, qz, qA, qB, qC, qD, qE, qF, qG, qH, qI, qJ, qK, qL, qM, qN, qO, qP, qQ, qR, qS, qT, qU, qV, qW, qX, qY, qZ, w6, w7, wa, wb, wc, wd, we, wg, wh, wj, wl, wm, wn, wo, wp, wq, wr, wt, wu, wv, ww, wx, wy, wz, wA, wB, wC, wD, wE, wF, wG, wH, wI, wJ, wK, wM, wN, wO, wQ, wS, wT, wU, wV, wW, wX, wY, wZ, xa, xb, xc, xf, xg, xh, xi, xj, xk, xl, xm, xn, xo, xq, xr, xt, xu, xv, xw, xx, xy, xz, xA, xB, xC, xE, xG, xH, xI, xJ, xK, xL, xM, xN, xO, xP, xQ, xR, xS, xT, xU, xV, xW, List.map_cons, List.map_nil, List.length_cons, List.length_nil, List.cons_append, List.nil_append, List.set_cons_zero, List.set_cons_succ, List.getElem?_cons_zero, List.getElem?_cons_succ, Option.bind_some, Option.map_some, List.replicate_succ, xX, xY, xZ, y0, y1, y2, ya, yb, yc, yd, ye, yf, yg, yh, yi, yj, yk, ym, Nat.reduceSub, Nat.reduceAdd, if_true, if_false, decide_eq_true_eq, h1, mAppend_def, hz, ↓reduceIte, List.map_append]
    rfl
  · rw [if_neg h1]
    by_cases h2 : left + f a < 0
    · rw [if_pos h2]
      simp only [q0, q4, q6, q7, q8, q9, qf, qj, qm, qn, qp, qu, qw, qx, qy, qz, qA, qB, qC, qD, qE, qF, qG, qH, qI, qJ, qK, qL, qM, qN, qO, qP, qQ, qR, qS, qT, qU, qV, qW, qX, qY, qZ, w6, w7, wa, wb, wc, wd, we, wg, wh, wj, wl, wm, wn, wo, wp, wq, wr, wt, wu, wv, ww, wx, wy, wz, wA, wB, wC, wD, wE, wF, wG, wH, wI, wJ, wK, wM, wN, wO, wQ, wS, wT, wU, wV, wW, wX, wY, wZ, xa, xb, xc, xf, xg, xh, xi, xj, xk, xl, xm, xn, xo, xq, xr, xt, xu, xv, xw, xx, xy, xz, xA, xB, xC, xE, xG, xH, xI, xJ, xK, xL, xM, xN, xO, xP, xQ, xR, xS, xT, xU, xV, xW, List.map_cons, List.map_nil, List.length_cons, List.length_nil, List.cons_append, List.nil_append, List.set_cons_zero, List.set_cons_succ, List.getElem?_cons_zero, List.getElem?_cons_succ, Option.bind_some, Option.map_some, List.replicate_succ, xX, xY, xZ, y0, y1, y2, ya, yb, yc, yd, ye, yf, yg, yh, yi, yj, yk, ym, Nat.reduceSub, Nat.reduceAdd, if_true, if_false, decide_eq_true_eq, h1, h2, mAppend_def, hz, ↓reduceIte, List.map_append]
      rfl
    · rw [if_neg h2]
      simp only [q0, q4, q6, q7, q8, q9, qf, qj, qm, qn, qp, qu, qw, qx, qy, qz, qA, qB, qC, qD, qE, qF, qG, qH, qI, qJ, qK, qL, qM, qN, qO, qP, qQ, qR, qS, qT, qU, qV, qW, qX, qY, qZ, w6, w7, wa, wb, wc, wd, we, wg, wh, wj, wl, wm, wn, wo, wp, wq, wr, wt, wu, wv, ww, wx, wy, wz, wA, wB, wC, wD, wE, wF, wG, wH, wI, wJ, wK, wM, wN, wO, wQ, wS, wT, wU, wV, wW, wX, wY, wZ, xa, xb, xc, xf, xg, xh, xi, xj, xk, xl, xm, xn, xo, xq, xr, xt, xu, xv, xw, xx, xy, xz, xA, xB, xC, xE, xG, xH, xI, xJ, xK, xL, xM, xN, xO, xP, xQ, xR, xS, xT, xU, xV, xW, List.map_cons, List.map_nil, List.length_cons, List.length_nil, List.cons_append, List.nil_append, List.set_cons_zero, List.set_cons_succ, List.getElem?_cons_zero, List.getElem?_cons_succ, Option.bind_some, Option.map_some, List.replicate_succ, xX, xY, xZ, y0, y1, y2, ya, yb, yc, yd, ye, yf, yg, yh, yi, yj, yk, ym, Nat.reduceSub, Nat.reduceAdd, if_true, if_false, decide_eq_true_eq, h1, h2, List.append_nil, ↓reduceIte]
theorem rowP_len {a b : Str} {l : Int} : (rowP a b l).length ≤ 1 := by
  unfold rowP
  split
  · exact Nat.le_refl _
  · split
    · exact Nat.le_refl _
    · exact Nat.zero_le _
theorem loop_pi : ∀ (r : List Str) (a : Str) (left : Int) (acc : List Pay) (x4 x5 : Option SV), (∀ s ∈ a :: r, s ∈ all) → acc.length + r.length ≤ 1000 → ∃ left' y4 y5, loopFor (bTup 2 (bCons (bName 4) (bCons (bName 5) bNil))) l1_paid_in (((a :: r).zip r).map prS) (piE all f lot acc left x4 x5) = .ok (.nx, piE all f lot (acc ++ rowsP f left (a :: r)) left' y4 y5)
  | [], a, left, acc, x4, x5, _, _ => ⟨left, x4, x5, by rw [show rowsP f left [a] = [] from rfl, List.append_nil]; rfl⟩
  | b :: r, a, left, acc, x4, x5, hin, hl => by
    rw [List.length_cons] at hl
    have hr := rowP_len (a := a) (b := b) (l := left + f a)
    obtain ⟨l', y4, y5, e⟩ := loop_pi r b (left + f a) (acc ++ rowP a b (left + f a)) (some (fzS a)) (some (fzS b)) (fun s hs => hin s (List.mem_cons_of_mem _ hs)) (by rw [List.length_append]; omega)
    refine ⟨l', y4, y5, ?_⟩
    have e2 : rowsP f left (a :: b :: r) = rowP a b (left + f a) ++ rowsP f (left + f a) (b :: r) := rfl
    rw [List.zip_cons_cons, List.map_cons, lf_cons (ρ1 := piE all f lot acc left (some (fzS a)) (some (fzS b))) rfl (l1pi (hin a List.mem_cons_self) (by omega)), e2, ← List.append_assoc]
    exact e
theorem paid_ok {l : List Str} (hin : ∀ s ∈ l, s ∈ all) (hl : l.length ≤ 900) : φ_paid_in [.one (.dK (balD all f)), fz (tS l)] = .ok (.new (.one (.lst ((rowsP f 0 l).map payD))), [some (.one (.dK (balD all f))), some (fz (tS l))]) := by
  have hi : ∀ ρ, pInt (pK (.int 1)) ρ = some (some 1) := fun _ => rfl
  have hz : ∀ x4 x5 : Option SV, iZV (vsCons (pVal (pVar 1)) (vsCons (pVal (pCut (pVar 1) (pInt (pK (.int 1))) (fun _ => some none))) vsNil)) (piE all f (tS l) [] 0 x4 x5) = some ((l.zip (l.drop 1)).map prS) := fun x4 x5 => by
    have : (l.zip (l.drop 1)).map prS = zipD (l.map PyData.str) ((l.drop 1).map PyData.str) := by rw [zipD_map]; rfl
    rw [this]
    unfold iZV piE tS
    simp only [pCut_def, hi, q0, q4, q6, q7, q8, q9, qf, qj, qm, qn, qp, qu, qw, qx, qy, qz, qA, qB, qC, qD, qE, qF, qG, qH, qI, qJ, qK, qL, qM, qN, qO, qP, qQ, qR, qS, qT, qU, qV, qW, qX, qY, qZ, w6, w7, wa, wb, wc, wd, we, wg, wh, wj, wl, wm, wn, wo, wp, wq, wr, wt, wu, wv, ww, wx, wy, wz, wA, wB, wC, wD, wE, wF, wG, wH, wI, wJ, wK, wM, wN, wO, wQ, wS, wT, wU, wV, wW, wX, wY, wZ, xa, xb, xc, xf, xg, xh, xi, xj, xk, xl, xm, xn, xo, xq, xr, xt, xu, xv, xw, xx, xy, xz, xA, xB, xC, xE, xG, xH, xI, xJ, xK, xL, xM, xN, xO, xP, xQ, xR, xS, xT, xU, xV, xW, List.map_cons, List.map_nil, List.length_cons, List.length_nil, List.cons_append, List.nil_append, List.set_cons_zero, List.set_cons_succ, List.getElem?_cons_zero, List.getElem?_cons_succ, Option.bind_some, Option.map_some, List.replicate_succ, xX, xY, xZ, y0, y1, y2, ya, yb, yc, yd, ye, yf, yg, yh, yi, yj, yk, ym, Nat.reduceSub, Nat.reduceAdd, if_true, if_false, decide_eq_true_eq, fCut_t, cutD_1, List.map_drop]
  have hloop : ∃ left' y4 y5, loopFor (bTup 2 (bCons (bName 4) (bCons (bName 5) bNil))) l1_paid_in ((l.zip (l.drop 1)).map prS) (piE all f (tS l) [] 0 none none) = .ok (.nx, piE all f (tS l) (rowsP f 0 l) left' y4 y5) := by
    cases l with
    | nil => exact ⟨0, none, none, rfl⟩
    | cons a r =>
      rw [List.length_cons] at hl
      obtain ⟨l', y4, y5, e⟩ := loop_pi (all := all) (f := f) (lot := tS (a :: r)) r a 0 [] none none hin (by simp only [List.length_nil]; omega)
      exact ⟨l', y4, y5, e⟩
  obtain ⟨l', y4, y5, e⟩ := hloop
  have hz := hz none none
  unfold φ_paid_in m_paid_in
  unfold piE at e hz
  rw [show ([] : List Pay).map payD = [] from rfl] at e hz
  simp only [q0, q4, q6, q7, q8, q9, qf, qj, qm, qn, qp, qu, qw, qx, qy, qz, qA, qB, qC, qD, qE, qF, qG, qH, qI, qJ, qK, qL, qM, qN, qO, qP, qQ, qR, qS, qT, qU, qV, qW, qX, qY, qZ, w6, w7, wa, wb, wc, wd, we, wg, wh, wj, wl, wm, wn, wo, wp, wq, wr, wt, wu, wv, ww, wx, wy, wz, wA, wB, wC, wD, wE, wF, wG, wH, wI, wJ, wK, wM, wN, wO, wQ, wS, wT, wU, wV, wW, wX, wY, wZ, xa, xb, xc, xf, xg, xh, xi, xj, xk, xl, xm, xn, xo, xq, xr, xt, xu, xv, xw, xx, xy, xz, xA, xB, xC, xE, xG, xH, xI, xJ, xK, xL, xM, xN, xO, xP, xQ, xR, xS, xT, xU, xV, xW, List.map_cons, List.map_nil, List.length_cons, List.length_nil, List.cons_append, List.nil_append, List.set_cons_zero, List.set_cons_succ, List.getElem?_cons_zero, List.getElem?_cons_succ, Option.bind_some, Option.map_some, List.replicate_succ, xX, xY, xZ, y0, y1, y2, ya, yb, yc, yd, ye, yf, yg, yh, yi, yj, yk, ym, Nat.reduceSub, Nat.reduceAdd, if_true, if_false, decide_eq_true_eq, hz, e, mRetOwn_def]
theorem copy_loop {vs : List Nat} {k : Nat} (hk : vs.contains k = true) : ∀ (xs acc : List PD) (ρ : Env), k < ρ.length → acc.length + xs.length ≤ sizeLine → ∃ ρ', loopC vs (bName k) tTrue (gPV (pVal (pVar k))) xs acc ρ = some (acc ++ xs, ρ') ∧ wipeE ρ' vs = wipeE ρ vs ∧ ρ'.length = ρ.length
  | [], acc, ρ, _, _ => ⟨ρ, by rw [List.append_nil]; rfl, rfl, rfl⟩
  | x :: xs, acc, ρ, hl, hz => by
    rw [List.length_cons] at hz
    have hw : (wipeE ρ vs).length = ρ.length := by unfold wipeE; rw [List.length_mapIdx]
    have hv : gPV (pVal (pVar k)) ((wipeE ρ vs).set k (some (fz x))) = .ok (x, (wipeE ρ vs).set k (some (fz x))) := by
      rw [wg, qN]
      have : pVar k ((wipeE ρ vs).set k (some (fz x))) = some (rD x) := by
        unfold pVar
        rw [List.getElem?_set_self (by rw [hw]; exact hl)]
      rw [this]
      rfl
    obtain ⟨ρ', e, h1, h2⟩ := copy_loop hk xs (acc ++ [x]) ((wipeE ρ vs).set k (some (fz x))) (by rw [List.length_set, hw]; exact hl) (by rw [List.length_append, List.length_singleton]; omega)
    refine ⟨ρ', ?_, h1.trans ?_, by rw [h2, List.length_set, hw]⟩
    · unfold loopC
      rw [wW, Option.bind_some]
      show (match gPV (pVal (pVar k)) ((wipeE ρ vs).set k (some (fz x))) with | .ok (d, ρ3) => if acc.length < sizeLine then loopC vs (bName k) tTrue (gPV (pVal (pVar k))) xs (acc ++ [d]) ρ3 else none | _ => none) = _
      rw [hv]
      show (if acc.length < sizeLine then _ else none) = _
      rw [if_pos (by omega), e, List.append_assoc]; rfl
    · unfold wipeE
      apply List.ext_getElem?
      intro i
      rw [List.getElem?_mapIdx, List.getElem?_mapIdx]
      by_cases hi : i = k
      · subst hi
        rw [List.getElem?_set_self (by rw [List.length_mapIdx]; exact hl), List.getElem?_eq_getElem hl, Option.map_some, Option.map_some, if_pos hk, if_pos hk]
      · rw [List.getElem?_set_ne (fun z => hi z.symm), List.getElem?_mapIdx]
        cases ρ[i]? with
        | none => rfl
        | some y =>
          rw [Option.map_some, Option.map_some]
          by_cases hc : vs.contains i = true
          · rw [if_pos hc, if_pos hc]
          · rw [if_neg hc, if_neg hc]
abbrev it1P : Env → Out (List PD × Env) := iSq (vGx (gCall φ_paid_in (aSlot 1 (aVal (gPV (pVal (pVar 5))) aNil))))
def pyE (ds : List PD) (all : List Str) (f : Str → Int) (nz : List Str) (x3 x4 x5 x6 : Option SV) : Env := [some (.pt ds), some (.one (.dK (balD all f))), some (fz (tS nz)), x3, x4, x5, x6]
theorem it1_ok {ds : List PD} {nz l : List Str} {x3 x4 x6 : Option SV} (hin : ∀ s ∈ l, s ∈ all) (hl : l.length ≤ 900) : it1P (pyE ds all f nz x3 x4 (some (fz (tS l))) x6) = .ok ((rowsP f 0 l).map payD, pyE ds all f nz x3 x4 (some (fz (tS l))) x6) := by
  have e := paid_ok (f := f) hin hl
  have sq : seqD (.list ((rowsP f 0 l).map payD)) = some ((rowsP f 0 l).map payD) := rfl
  unfold it1P pyE
  simp only [q0, q4, q6, q7, q8, q9, qf, qj, qm, qn, qp, qu, qw, qx, qy, qz, qA, qB, qC, qD, qE, qF, qG, qH, qI, qJ, qK, qL, qM, qN, qO, qP, qQ, qR, qS, qT, qU, qV, qW, qX, qY, qZ, w6, w7, wa, wb, wc, wd, we, wg, wh, wj, wl, wm, wn, wo, wp, wq, wr, wt, wu, wv, ww, wx, wy, wz, wA, wB, wC, wD, wE, wF, wG, wH, wI, wJ, wK, wM, wN, wO, wQ, wS, wT, wU, wV, wW, wX, wY, wZ, xa, xb, xc, xf, xg, xh, xi, xj, xk, xl, xm, xn, xo, xq, xr, xt, xu, xv, xw, xx, xy, xz, xA, xB, xC, xE, xG, xH, xI, xJ, xK, xL, xM, xN, xO, xP, xQ, xR, xS, xT, xU, xV, xW, List.map_cons, List.map_nil, List.length_cons, List.length_nil, List.cons_append, List.nil_append, List.set_cons_zero, List.set_cons_succ, List.getElem?_cons_zero, List.getElem?_cons_succ, Option.bind_some, Option.map_some, List.replicate_succ, xX, xY, xZ, y0, y1, y2, ya, yb, yc, yd, ye, yf, yg, yh, yi, yj, yk, ym, Nat.reduceSub, Nat.reduceAdd, if_true, if_false, decide_eq_true_eq, e, sq]
theorem loop2_py {ds : List PD} {nz : List Str} {x3 x4 : Option SV} : ∀ (lots : List (List Str)) (acc : List PD) (x5 x6 : Option SV), (∀ lot ∈ lots, (∀ s ∈ lot, s ∈ all) ∧ lot.length ≤ 900) → acc.length + (rowsL f lots).length ≤ 1000 →
    ∃ y5 y6, loopC2 [5, 6] (bName 5) tTrue it1P [6] (bName 6) tTrue (gPV (pVal (pVar 6))) (lots.map tS) acc (pyE ds all f nz x3 x4 x5 x6) = some (acc ++ (rowsL f lots).map payD, pyE ds all f nz x3 x4 y5 y6)
  | [], acc, x5, x6, _, _ => ⟨x5, x6, by
    show some (acc, _) = some (acc ++ [], _)
    rw [List.append_nil]⟩
  | lot :: lots, acc, x5, x6, hin, hl => by
    have big : 200000 < sizeLine := by decide
    rw [rowsL_cons, List.length_append] at hl
    obtain ⟨h1, h2⟩ := hin lot List.mem_cons_self
    have e1 := it1_ok (ds := ds) (f := f) (nz := nz) (x3 := x3) (x4 := x4) (x6 := none) h1 h2
    obtain ⟨ρ', e2, w, hlen⟩ := copy_loop (vs := [6]) (k := 6) rfl ((rowsP f 0 lot).map payD) acc (pyE ds all f nz x3 x4 (some (fz (tS lot))) none) (show 6 < 7 by omega) (by rw [List.length_map]; omega)
    obtain ⟨y6, rfl⟩ : ∃ y6, ρ' = pyE ds all f nz x3 x4 (some (fz (tS lot))) y6 := by
      match ρ', hlen with
      | [a0, a1, a2, a3, a4, a5, a6], _ =>
        refine ⟨a6, ?_⟩
        rw [wipeE_def, wipeE_def] at w
        have w : [a0, a1, a2, a3, a4, a5, none] = [some (.pt ds), some (.one (.dK (balD all f))), some (fz (tS nz)), x3, x4, some (fz (tS lot)), none] := w
        injection w with w0 w; injection w with w1 w; injection w with w2 w; injection w with w3 w; injection w with w4 w; injection w with w5 w
        subst w0 w1 w2 w3 w4 w5
        rfl
    obtain ⟨z5, z6, e3⟩ := loop2_py lots (acc ++ (rowsP f 0 lot).map payD) (some (fz (tS lot))) y6 (fun l hl => hin l (List.mem_cons_of_mem _ hl)) (by rw [List.length_append, List.length_map]; omega)
    refine ⟨z5, z6, ?_⟩
    rw [List.map_cons]
    unfold loopC2
    rw [show bName 5 (tS lot) (wipeE (pyE ds all f nz x3 x4 x5 x6) [5, 6]) = some (pyE ds all f nz x3 x4 (some (fz (tS lot))) none) by rw [wipeE_def]; rfl, Option.bind_some]
    show (match it1P (pyE ds all f nz x3 x4 (some (fz (tS lot))) none) with | .ok (ys, ρ3) => _ | _ => none) = _
    rw [e1]
    show ((loopC [6] (bName 6) tTrue (gPV (pVal (pVar 6))) ((rowsP f 0 lot).map payD) acc (pyE ds all f nz x3 x4 (some (fz (tS lot))) none)).bind _) = _
    rw [e2, Option.bind_some, rowsL_cons, List.map_append, ← List.append_assoc]
    exact e3
def accsD (ns : List Str) (f : Str → Int) : List PD := ns.map fun s => .tuple [.str s, .int (f s)]
theorem dpairs_accs {f : Str → Int} : ∀ ns : List Str, dpairs (accsD ns f) = some (balD ns f)
  | [] => rfl
  | x :: ns => by
    show ((keyOf (.str x)).bind fun k => (dpairs (accsD ns f)).map ((k, PyData.int (f x)) :: ·)) = _
    rw [dpairs_accs ns]; rfl
theorem merge_bal {f : Str → Int} : ∀ (ns ms : List Str), (ms ++ ns).Nodup → mergeD (balD ms f) (balD ns f) = balD (ms ++ ns) f
  | [], ms, _ => by rw [List.append_nil]; rfl
  | x :: ns, ms, h => by
    have e : putD (balD ms f) (.inr x) (.int (f x)) = balD (ms ++ [x]) f := by
      unfold putD
      rw [if_neg]
      · unfold balD; rw [List.map_append]; rfl
      · rw [List.any_eq_true]
        rintro ⟨kv, hk, e⟩
        obtain ⟨s, hs, rfl⟩ := List.mem_map.mp hk
        have e : (Sum.inr s : Key) = Sum.inr x := by simpa using e
        rw [List.nodup_append] at h
        exact h.2.2 s hs x List.mem_cons_self (Sum.inr.inj e)
    show mergeD (putD (balD ms f) (.inr x) (.int (f x))) (balD ns f) = _
    rw [e, merge_bal ns (ms ++ [x]) (by rw [List.append_assoc]; exact h), List.append_assoc]; rfl
theorem pVarP_0 {ds : List PD} {ρ : Env} : pVarP 0 (some (.pt ds) :: ρ) = some (rP ds) := rfl
theorem dictP_ok {p : Env → Option Res} {ns : List Str} {f : Str → Int} {ρ : Env} (hn : ns.Nodup) (hp : p ρ = some (rP (accsD ns f))) : pDictP p ρ = some (.new (.one (.dK (balD ns f)))) := by
  unfold pDictP
  rw [hp, Option.bind_some]
  show ((dpairs (accsD ns f)).map fun kvs => Res.new (.one (.dK (mergeD [] kvs)))) = _
  rw [dpairs_accs]
  show some (Res.new (.one (.dK (mergeD (balD [] f) (balD ns f))))) = _
  rw [merge_bal ns [] hn]; rfl
def nzL (ns : List Str) (f : Str → Int) : List Str := ns.filter fun s => decide (f s ≠ 0)
def payL (ns : List Str) (f : Str → Int) : List Pay := rowsL f (ML f (nzL ns f).length (nzL ns f))
theorem c1py {ns : List Str} {f : Str → Int} {x1 x2 x3 x4 x5 x6 : Option SV} (hl : ns.length ≤ 1000) : c1_payments [some (.pt (accsD ns f)), x1, x2, x3, x4, x5, x6] = some (rL ((nzL ns f).map PyData.str)) := by
  have big : 200000 < sizeLine := by decide
  unfold c1_payments
  rw [pComp_def, show iPP (pVarP 0) [some (.pt (accsD ns f)), x1, x2, x3, x4, x5, x6] = some (accsD ns f) from rfl, Option.bind_some, if_pos (by unfold accsD; rw [List.length_map]; omega)]
  unfold accsD
  rw [loopP_ok (enc := fun s => .tuple [.str s, .int (f s)]) (tt := fun s => decide (f s ≠ 0)) (gg := PyData.str) ns fun s hs => ⟨[some (.pt (accsD ns f)), x1, x2, some (fzS s), some (fzI (f s)), x5, x6], rfl, ?_, fun _ => rfl⟩]
  · rfl
  · simp only [q0, q4, q6, q7, q8, q9, qf, qj, qm, qn, qp, qu, qw, qx, qy, qz, qA, qB, qC, qD, qE, qF, qG, qH, qI, qJ, qK, qL, qM, qN, qO, qP, qQ, qR, qS, qT, qU, qV, qW, qX, qY, qZ, w6, w7, wa, wb, wc, wd, we, wg, wh, wj, wl, wm, wn, wo, wp, wq, wr, wt, wu, wv, ww, wx, wy, wz, wA, wB, wC, wD, wE, wF, wG, wH, wI, wJ, wK, wM, wN, wO, wQ, wS, wT, wU, wV, wW, wX, wY, wZ, xa, xb, xc, xf, xg, xh, xi, xj, xk, xl, xm, xn, xo, xq, xr, xt, xu, xv, xw, xx, xy, xz, xA, xB, xC, xE, xG, xH, xI, xJ, xK, xL, xM, xN, xO, xP, xQ, xR, xS, xT, xU, xV, xW, List.map_cons, List.map_nil, List.length_cons, List.length_nil, List.cons_append, List.nil_append, List.set_cons_zero, List.set_cons_succ, List.getElem?_cons_zero, List.getElem?_cons_succ, Option.bind_some, Option.map_some, List.replicate_succ, xX, xY, xZ, y0, y1, y2, ya, yb, yc, yd, ye, yf, yg, yh, yi, yj, yk, ym, Nat.reduceSub, Nat.reduceAdd, if_true, if_false, decide_eq_true_eq, fNe_i]
    by_cases z : f s = 0 <;> simp [z]
theorem callN_py {ds : List PD} {all nz : List Str} {f : Str → Int} {x3 x4 x5 x6 : Option SV} {R : Res} {K' : List (List Key × PD)} {v : PD} (e : φ_most_lots 12 [.one (.dK (balD all f)), fz (tS nz), .one (.dT [])] = .ok (R, [some (.one (.dK (balD all f))), some (fz (tS nz)), some (.one (.dT K'))])) (hv : R.s1.bind S1.pd = some v) :
    vGx (gCallN (φ_most_lots nR_most_lots) (aSlot 1 (aVal (gPV (pVal (pVar 2))) aNil))) (pyE ds all f nz x3 x4 x5 x6) = .ok (v, pyE ds all f nz x3 x4 x5 x6) := by
  rw [wm]
  have : gCallN (φ_most_lots nR_most_lots) (aSlot 1 (aVal (gPV (pVal (pVar 2))) aNil)) (pyE ds all f nz x3 x4 x5 x6) = .ok (R, pyE ds all f nz x3 x4 x5 x6) := by
    unfold gCallN
    have ea : (aSlot 1 (aVal (gPV (pVal (pVar 2))) aNil)) (pyE ds all f nz x3 x4 x5 x6) = .ok ([.slot 1, .val (tS nz)], pyE ds all f nz x3 x4 x5 x6) := rfl
    rw [ea, q4]
    show (if (slotsOf ([AR.slot 1, AR.val (tS nz)] ++ [AR.slot 7])).Nodup then (match φ_most_lots 12 [.one (.dK (balD all f)), fz (tS nz), .one (.dT [])] with
      | .ok (r, outs) => Out.ok (r, (putOuts ([AR.slot 1, AR.val (tS nz)] ++ [AR.slot 7]) outs (pyE ds all f nz x3 x4 x5 x6 ++ [some (SV.one (.dT []))])).take 7)
      | .exc x outs => .exc x ((putOuts ([AR.slot 1, AR.val (tS nz)] ++ [AR.slot 7]) outs (pyE ds all f nz x3 x4 x5 x6 ++ [some (SV.one (.dT []))])).take 7)
      | .stuck => .stuck) else .stuck) = _
    have hnd : (slotsOf ([AR.slot 1, AR.val (tS nz)] ++ [AR.slot 7])).Nodup := (show [1, 7].Nodup by decide)
    rw [e, if_pos hnd]
    rfl
  rw [this, q4, hv]
  rfl
theorem py_end {c1 : Env → Option Res} {c2 : Env → Out (Res × Env)} {ds : List PD} {all nz : List Str} {f : Str → Int} {rows : List PD} {ρ2 : Env} (h1 : pDictP (pVarP 0) [some (.pt ds), none, none, none, none, none, none] = some (.new (.one (.dK (balD all f))))) (h2 : c1 [some (.pt ds), some (.one (.dK (balD all f))), none, none, none, none, none] = some (rL (nz.map PyData.str)))
    (h3 : c2 (pyE ds all f nz none none none none) = .ok (rL rows, ρ2)) : ∃ outs, runF [] 7 (mSeq (mSet 1 (gPx (pDictP (pVarP 0)))) (mSeq (mSet 2 (gVx (gPV (pVal (pN (f1 fTuple) (psCons c1 psNil)))))) (mRet c2))) [.pt ds] = .ok (rL rows, outs) := by
  unfold pyE tS at h3
  refine ⟨outsOf [] [.pt ds] ρ2, ?_⟩
  rw [xi]
  simp only [wJ, wM, we, List.map_cons, List.map_nil, List.length_cons, List.length_nil, Nat.zero_add, Nat.reduceSub, List.replicate_succ, xX, List.cons_append, List.nil_append, h1, wd, q4, wI, q0, List.set_cons_succ, List.set_cons_zero, q8, wl, wg, qN, qI, qK, qJ, h2, Option.bind_some, qB, qO, fTuple_o, qy, wH, wO, h3, xj]
theorem payments_ok {ns : List Str} {f : Str → Int} (hn : ns.Nodup) (hl : ns.length ≤ 11) (h0 : tot f ns = 0) : ∃ outs, φ_payments [.pt (accsD ns f)] = .ok (rL ((payL ns f).map payD), outs) := by
  have big : 200000 < sizeLine := by decide
  have hsub : (nzL ns f).Sublist ns := List.filter_sublist
  have hz : (nzL ns f).Nodup := hsub.nodup hn
  have hzl : (nzL ns f).length ≤ 11 := Nat.le_trans hsub.length_le hl
  have t0 : tot f (nzL ns f) = 0 := by
    have := tot_split (f := f) (fun s => decide (f s ≠ 0)) ns
    have z : tot f (ns.filter fun x => !decide (f x ≠ 0)) = 0 := by
      have : ∀ l : List Str, (∀ s ∈ l, f s = 0) → tot f l = 0 := fun l => by
        induction l with
        | nil => intro _; rfl
        | cons x l ih => intro h; rw [tot_cons, h x List.mem_cons_self, ih fun s hs => h s (List.mem_cons_of_mem _ hs)]; rfl
      exact this _ fun s hs => by simpa using (List.mem_filter.mp hs).2
    rw [h0, z] at this
    exact (by rw [Int.add_zero] at this; exact this.symm)
  obtain ⟨R, K', e1, e2, _⟩ := most_ok (f := f) (all := ns) (top := nzL ns f) (by omega) (fun s hs => hsub.subset hs) 11 (by omega) (nzL ns f) [] (List.Sublist.refl _) (by omega) KI.nil
  have P := ML_part f _ _ hz (Nat.le_refl _) t0
  have cnt := rowsL_count (f := f) hz (Nat.le_refl _) t0
  have hlots : ∀ lot ∈ ML f (nzL ns f).length (nzL ns f), (∀ s ∈ lot, s ∈ ns) ∧ lot.length ≤ 900 := fun lot h => by
    have hs := List.sublist_flatten_of_mem h
    refine ⟨fun s z => hsub.subset (P.pm.mem_iff.mp (hs.subset z)), ?_⟩
    have := hs.length_le
    rw [P.pm.length_eq] at this
    omega
  obtain ⟨y5, y6, e3⟩ := loop2_py (f := f) (ds := accsD ns f) (nz := nzL ns f) (x3 := none) (x4 := none) (ML f (nzL ns f).length (nzL ns f)) [] none none hlots (by simp only [List.length_nil]; omega)
  have c2 : c2_payments (pyE (accsD ns f) ns f (nzL ns f) none none none none) = .ok (rL ((payL ns f).map payD), unwipe [5, 6] (pyE (accsD ns f) ns f (nzL ns f) none none none none) (pyE (accsD ns f) ns f (nzL ns f) none none y5 y6)) := by
    unfold c2_payments gComp2
    have ei : iSq (vGx (gCallN (φ_most_lots nR_most_lots) (aSlot 1 (aVal (gPV (pVal (pVar 2))) aNil)))) (pyE (accsD ns f) ns f (nzL ns f) none none none none) = .ok ((ML f (nzL ns f).length (nzL ns f)).map tS, pyE (accsD ns f) ns f (nzL ns f) none none none none) := by
      rw [wG, callN_py e1 e2]; rfl
    rw [ei, q4]
    show (match loopC2 [5, 6] (bName 5) tTrue it1P [6] (bName 6) tTrue (gPV (pVal (pVar 6))) ((ML f (nzL ns f).length (nzL ns f)).map tS) [] (pyE (accsD ns f) ns f (nzL ns f) none none none none) with | some (acc, ρ') => _ | none => _) = _
    rw [e3]
    rfl
  exact py_end (dictP_ok hn rfl) (c1py (by omega)) c2
end
end Mm
namespace Mm
open PySem PySem.Spec L2
set_option autoImplicit false
def payB (ns : List Str) (w : PD → Bool) : PD → Bool
  | .tuple [x, y, c] => w c && (match x, y with
    | .str a, .str b => decide (a ∈ ns) && (decide (b ∈ ns) && !decide (a = b))
    | _, _ => false)
  | _ => false
def payOf : PD → Pay
  | .tuple [.str a, .str b, .int v] => (a, b, v)
  | _ => ("", "", 0)
def sIn (ns : List Str) : PD → Bool
  | .str a => decide (a ∈ ns)
  | _ => false
theorem payB_len {ns : List Str} {w : PD → Bool} {xs : List PD} (h : ¬ (xs.length : Int) = 3) : payB ns w (.tuple xs) = false := by
  unfold payB
  split
  · rename_i e
    cases e
    exact absurd rfl h
  · rfl
theorem payB_w {ns : List Str} {w : PD → Bool} {x y c : PD} (h : w c = false) : payB ns w (.tuple [x, y, c]) = false := by
  show (w c && _) = false
  rw [h]; rfl
theorem payB_1 {ns : List Str} {w : PD → Bool} {x y c : PD} (h : sIn ns x = false) : payB ns w (.tuple [x, y, c]) = false := by
  show (w c && _) = false
  split
  · rename_i a b
    have h : decide (a ∈ ns) = false := h
    rw [h, Bool.false_and, Bool.and_false]
  · rw [Bool.and_false]
theorem payB_2 {ns : List Str} {w : PD → Bool} {x y c : PD} (h : sIn ns y = false) : payB ns w (.tuple [x, y, c]) = false := by
  show (w c && _) = false
  split
  · rename_i a b
    have h : decide (b ∈ ns) = false := h
    rw [h, Bool.false_and, Bool.and_false, Bool.and_false]
  · rw [Bool.and_false]
theorem sIn_of {ns : List Str} {x : PD} (h : sIn ns x = true) : ∃ a, x = .str a ∧ a ∈ ns := by
  cases x <;> first | exact ⟨_, rfl, by simpa using (show decide _ = true from h)⟩ | cases h
theorem payB_iff {ns : List Str} {w : PD → Bool} (hw : ∀ c, w c = true → ∃ v, c = .int v) {d : PD} (h : payB ns w d = true) : ∃ p : Pay, d = payD p ∧ p.1 ∈ ns ∧ p.2.1 ∈ ns ∧ p.1 ≠ p.2.1 ∧ w (.int p.2.2) = true := by
  unfold payB at h
  split at h
  · rename_i x y c
    rw [Bool.and_eq_true] at h
    obtain ⟨h1, h2⟩ := h
    obtain ⟨v, rfl⟩ := hw c h1
    split at h2
    · rename_i a b
      simp only [Bool.and_eq_true, decide_eq_true_eq, Bool.not_eq_true', decide_eq_false_iff_not] at h2
      exact ⟨(a, b, v), rfl, h2.1, h2.2.1, h2.2.2, h1⟩
    · cases h2
  · cases h
abbrev wP : PD → Bool := withinB 1 1000000000000
def wL : PD → Bool
  | .int v => decide (1 ≤ v)
  | _ => false
theorem wP_int (c : PD) (h : wP c = true) : ∃ v, c = .int v := by cases c <;> first | exact ⟨_, rfl⟩ | cases h
theorem valD_bal_some {ns : List Str} {f : Str → Int} {a : Str} : (valD (balD ns f) (.inr a)).isSome = decide (a ∈ ns) := by
  by_cases h : a ∈ ns
  · rw [valD_bal h, decide_eq_true h]; rfl
  · rw [valD_bal_no h, decide_eq_false h]; rfl
theorem fIn_bal {ns : List Str} {f : Str → Int} {a : Str} {neg : Bool} : fIn neg (.frz (.str a)) (.dK (balD ns f)) = some (rB (neg.xor (decide (a ∈ ns)))) := by
  rw [← valD_bal_some (f := f)]; rfl
section
variable {ns : List Str} {f : Str → Int} {L n : Nat}
theorem elt_ip {x : PD} {x1 : Option SV} (h : Gd L n x) : pVal (pAnd (pIsi "str" (pVar 2)) (p2 (fIn false) (pVar 2) (pVar 0))) [some (.one (.dK (balD ns f))), x1, some (fz x)] = some (.bool (sIn ns x)) := by
  have e := isi_strB h
  cases hs : strB x with
  | false =>
    rw [hs] at e
    have : sIn ns x = false := by cases x <;> first | rfl | cases hs
    rw [this]
    simp only [q0, q4, q6, q7, q8, q9, qf, qj, qm, qn, qp, qu, qw, qx, qy, qz, qA, qB, qC, qD, qE, qF, qG, qH, qI, qJ, qK, qL, qM, qN, qO, qP, qQ, qR, qS, qT, qU, qV, qW, qX, qY, qZ, w6, w7, wa, wb, wc, wd, we, wg, wh, wj, wl, wm, wn, wo, wp, wq, wr, wt, wu, wv, ww, wx, wy, wz, wA, wB, wC, wD, wE, wF, wG, wH, wI, wJ, wK, wM, wN, wO, wQ, wS, wT, wU, wV, wW, wX, wY, wZ, xa, xb, xc, xf, xg, xh, xi, xj, xk, xl, xm, xn, xo, xq, xr, xt, xu, xv, xw, xx, xy, xz, xA, xB, xC, xE, xG, xH, xI, xJ, xK, xL, xM, xN, xO, xP, xQ, xR, xS, xT, xU, xV, xW, List.map_cons, List.map_nil, List.length_cons, List.length_nil, List.cons_append, List.nil_append, List.set_cons_zero, List.set_cons_succ, List.getElem?_cons_zero, List.getElem?_cons_succ, Option.bind_some, Option.map_some, List.replicate_succ, xX, xY, xZ, y0, y1, y2, ya, yb, yc, yd, ye, yf, yg, yh, yi, yj, yk, ym, Nat.reduceSub, Nat.reduceAdd, if_true, if_false, decide_eq_true_eq, pIsi_def, e, Bool.false_eq_true, ↓reduceIte]
  | true =>
    obtain ⟨a, rfl⟩ : ∃ a, x = .str a := by cases x <;> first | exact ⟨_, rfl⟩ | cases hs
    rw [hs] at e
    simp only [q0, q4, q6, q7, q8, q9, qf, qj, qm, qn, qp, qu, qw, qx, qy, qz, qA, qB, qC, qD, qE, qF, qG, qH, qI, qJ, qK, qL, qM, qN, qO, qP, qQ, qR, qS, qT, qU, qV, qW, qX, qY, qZ, w6, w7, wa, wb, wc, wd, we, wg, wh, wj, wl, wm, wn, wo, wp, wq, wr, wt, wu, wv, ww, wx, wy, wz, wA, wB, wC, wD, wE, wF, wG, wH, wI, wJ, wK, wM, wN, wO, wQ, wS, wT, wU, wV, wW, wX, wY, wZ, xa, xb, xc, xf, xg, xh, xi, xj, xk, xl, xm, xn, xo, xq, xr, xt, xu, xv, xw, xx, xy, xz, xA, xB, xC, xE, xG, xH, xI, xJ, xK, xL, xM, xN, xO, xP, xQ, xR, xS, xT, xU, xV, xW, List.map_cons, List.map_nil, List.length_cons, List.length_nil, List.cons_append, List.nil_append, List.set_cons_zero, List.set_cons_succ, List.getElem?_cons_zero, List.getElem?_cons_succ, Option.bind_some, Option.map_some, List.replicate_succ, xX, xY, xZ, y0, y1, y2, ya, yb, yc, yd, ye, yf, yg, yh, yi, yj, yk, ym, Nat.reduceSub, Nat.reduceAdd, if_true, if_false, decide_eq_true_eq, pIsi_def, e, fIn_bal, Bool.false_xor]
    rfl
theorem c1ip {x y c : PD} (hx : Gd L n x) (hy : Gd L n y) : c1_is_payment [some (.one (.dK (balD ns f))), some (fz (.tuple [x, y, c])), none] = some (rL [.bool (sIn ns x), .bool (sIn ns y)]) := by
  have hi : ∀ ρ, pInt (pK (.int 2)) ρ = some (some 2) := fun _ => rfl
  have hc : cutD [x, y, c] none (some 2) = [x, y] := cutD_to [x, y, c] 2
  unfold c1_is_payment
  have e : iP (pCut (pVar 1) (fun _ => some none) (pInt (pK (.int 2)))) [some (.one (.dK (balD ns f))), some (fz (.tuple [x, y, c])), none] = some ([x, y].map id) := by
    simp only [iP_def, pCut_def, hi, q0, q4, q6, q7, q8, q9, qf, qj, qm, qn, qp, qu, qw, qx, qy, qz, qA, qB, qC, qD, qE, qF, qG, qH, qI, qJ, qK, qL, qM, qN, qO, qP, qQ, qR, qS, qT, qU, qV, qW, qX, qY, qZ, w6, w7, wa, wb, wc, wd, we, wg, wh, wj, wl, wm, wn, wo, wp, wq, wr, wt, wu, wv, ww, wx, wy, wz, wA, wB, wC, wD, wE, wF, wG, wH, wI, wJ, wK, wM, wN, wO, wQ, wS, wT, wU, wV, wW, wX, wY, wZ, xa, xb, xc, xf, xg, xh, xi, xj, xk, xl, xm, xn, xo, xq, xr, xt, xu, xv, xw, xx, xy, xz, xA, xB, xC, xE, xG, xH, xI, xJ, xK, xL, xM, xN, xO, xP, xQ, xR, xS, xT, xU, xV, xW, List.map_cons, List.map_nil, List.length_cons, List.length_nil, List.cons_append, List.nil_append, List.set_cons_zero, List.set_cons_succ, List.getElem?_cons_zero, List.getElem?_cons_succ, Option.bind_some, Option.map_some, List.replicate_succ, xX, xY, xZ, y0, y1, y2, ya, yb, yc, yd, ye, yf, yg, yh, yi, yj, yk, ym, Nat.reduceSub, Nat.reduceAdd, if_true, if_false, decide_eq_true_eq, fCut_t, hc]
    rfl
  rw [pComp_def, e, Option.bind_some, if_pos (by show 2 ≤ sizeLine; decide)]
  rw [loopP_ok (enc := id) (tt := fun _ => true) (gg := fun x => .bool (sIn ns x)) [x, y] fun z hz => ⟨[some (.one (.dK (balD ns f))), some (fz (.tuple [x, y, c])), some (fz z)], rfl, rfl, fun _ => by
    simp only [List.mem_cons, List.not_mem_nil, or_false] at hz
    rcases hz with e | e <;> rw [e]
    · exact elt_ip hx
    · exact elt_ip hy⟩]
  rfl
theorem fAll_2 {a b : Bool} : fAll (.lst [.bool a, .bool b]) = some (rB (a && b)) := by
  show some (rB (a && (b && true))) = _
  rw [Bool.and_true]
theorem is_payment_ok {d : PD} (h : Gd L n d) : φ_is_payment [.one (.dK (balD ns f)), fz d] = .ok (rB (payB ns wP d), [some (.one (.dK (balD ns f))), some (fz d)]) := by
  unfold φ_is_payment m_is_payment
  cases d with
  | tuple xs =>
    obtain ⟨m, hel⟩ : ∃ m, ∀ x ∈ xs, Gd L m x := by cases n with
      | zero => exact absurd h id
      | succ m => exact ⟨m, h.2⟩
    by_cases h3 : (xs.length : Int) = 3
    · obtain ⟨x, y, c, rfl⟩ : ∃ x y c, xs = [x, y, c] := by
        have : xs.length = 3 := by omega
        match xs, this with
        | [x, y, c], _ => exact ⟨x, y, c, rfl⟩
      have ew := pCall_3 (ρ := [some (.one (.dK (balD ns f))), some (fz (.tuple [x, y, c])), none]) (q1 := pVal (p2 fIx (pVar 1) (pK (.int 2)))) (q2 := pVal (pK (.int 1))) (q3 := pVal (p2 fPow (pK (.int 10)) (pK (.int 12)))) (by rw [qN, qG]; simp only [q0, q4, q6, q7, q8, q9, qf, qj, qm, qn, qp, qu, qw, qx, qy, qz, qA, qB, qC, qD, qE, qF, qG, qH, qI, qJ, qK, qL, qM, qN, qO, qP, qQ, qR, qS, qT, qU, qV, qW, qX, qY, qZ, w6, w7, wa, wb, wc, wd, we, wg, wh, wj, wl, wm, wn, wo, wp, wq, wr, wt, wu, wv, ww, wx, wy, wz, wA, wB, wC, wD, wE, wF, wG, wH, wI, wJ, wK, wM, wN, wO, wQ, wS, wT, wU, wV, wW, wX, wY, wZ, xa, xb, xc, xf, xg, xh, xi, xj, xk, xl, xm, xn, xo, xq, xr, xt, xu, xv, xw, xx, xy, xz, xA, xB, xC, xE, xG, xH, xI, xJ, xK, xL, xM, xN, xO, xP, xQ, xR, xS, xT, xU, xV, xW, List.map_cons, List.map_nil, List.length_cons, List.length_nil, List.cons_append, List.nil_append, List.set_cons_zero, List.set_cons_succ, List.getElem?_cons_zero, List.getElem?_cons_succ, Option.bind_some, Option.map_some, List.replicate_succ, xX, xY, xZ, y0, y1, y2, ya, yb, yc, yd, ye, yf, yg, yh, yi, yj, yk, ym, Nat.reduceSub, Nat.reduceAdd, if_true, if_false, decide_eq_true_eq, at_2]) rfl (by rw [qN, qG]; simp only [q0, q4, q6, q7, q8, q9, qf, qj, qm, qn, qp, qu, qw, qx, qy, qz, qA, qB, qC, qD, qE, qF, qG, qH, qI, qJ, qK, qL, qM, qN, qO, qP, qQ, qR, qS, qT, qU, qV, qW, qX, qY, qZ, w6, w7, wa, wb, wc, wd, we, wg, wh, wj, wl, wm, wn, wo, wp, wq, wr, wt, wu, wv, ww, wx, wy, wz, wA, wB, wC, wD, wE, wF, wG, wH, wI, wJ, wK, wM, wN, wO, wQ, wS, wT, wU, wV, wW, wX, wY, wZ, xa, xb, xc, xf, xg, xh, xi, xj, xk, xl, xm, xn, xo, xq, xr, xt, xu, xv, xw, xx, xy, xz, xA, xB, xC, xE, xG, xH, xI, xJ, xK, xL, xM, xN, xO, xP, xQ, xR, xS, xT, xU, xV, xW, List.map_cons, List.map_nil, List.length_cons, List.length_nil, List.cons_append, List.nil_append, List.set_cons_zero, List.set_cons_succ, List.getElem?_cons_zero, List.getElem?_cons_succ, Option.bind_some, Option.map_some, List.replicate_succ, xX, xY, xZ, y0, y1, y2, ya, yb, yc, yd, ye, yf, yg, yh, yi, yj, yk, ym, Nat.reduceSub, Nat.reduceAdd, if_true, if_false, decide_eq_true_eq, fPow_i cp_c, e10_12]) (within_ok (lo := 1) (hi := 1000000000000) (hel c (by simp)))
      have ec := c1ip (ns := ns) (f := f) (c := c) (hel x (by simp)) (hel y (by simp))
      cases hw : withinB 1 1000000000000 c with
      | false =>
        rw [hw] at ew
        rw [payB_w hw]
        simp only [q0, q4, q6, q7, q8, q9, qf, qj, qm, qn, qp, qu, qw, qx, qy, qz, qA, qB, qC, qD, qE, qF, qG, qH, qI, qJ, qK, qL, qM, qN, qO, qP, qQ, qR, qS, qT, qU, qV, qW, qX, qY, qZ, w6, w7, wa, wb, wc, wd, we, wg, wh, wj, wl, wm, wn, wo, wp, wq, wr, wt, wu, wv, ww, wx, wy, wz, wA, wB, wC, wD, wE, wF, wG, wH, wI, wJ, wK, wM, wN, wO, wQ, wS, wT, wU, wV, wW, wX, wY, wZ, xa, xb, xc, xf, xg, xh, xi, xj, xk, xl, xm, xn, xo, xq, xr, xt, xu, xv, xw, xx, xy, xz, xA, xB, xC, xE, xG, xH, xI, xJ, xK, xL, xM, xN, xO, xP, xQ, xR, xS, xT, xU, xV, xW, List.map_cons, List.map_nil, List.length_cons, List.length_nil, List.cons_append, List.nil_append, List.set_cons_zero, List.set_cons_succ, List.getElem?_cons_zero, List.getElem?_cons_succ, Option.bind_some, Option.map_some, List.replicate_succ, xX, xY, xZ, y0, y1, y2, ya, yb, yc, yd, ye, yf, yg, yh, yi, yj, yk, ym, Nat.reduceSub, Nat.reduceAdd, if_true, if_false, decide_eq_true_eq, pIsi_def, isi_t, k_tt, fLen3, n33, ew, Bool.false_eq_true, ↓reduceIte, Bool.not_true, Bool.not_false]
      | true =>
        rw [hw] at ew
        cases hx : sIn ns x with
        | false =>
          rw [payB_1 hx]
          rw [hx] at ec
          simp only [q0, q4, q6, q7, q8, q9, qf, qj, qm, qn, qp, qu, qw, qx, qy, qz, qA, qB, qC, qD, qE, qF, qG, qH, qI, qJ, qK, qL, qM, qN, qO, qP, qQ, qR, qS, qT, qU, qV, qW, qX, qY, qZ, w6, w7, wa, wb, wc, wd, we, wg, wh, wj, wl, wm, wn, wo, wp, wq, wr, wt, wu, wv, ww, wx, wy, wz, wA, wB, wC, wD, wE, wF, wG, wH, wI, wJ, wK, wM, wN, wO, wQ, wS, wT, wU, wV, wW, wX, wY, wZ, xa, xb, xc, xf, xg, xh, xi, xj, xk, xl, xm, xn, xo, xq, xr, xt, xu, xv, xw, xx, xy, xz, xA, xB, xC, xE, xG, xH, xI, xJ, xK, xL, xM, xN, xO, xP, xQ, xR, xS, xT, xU, xV, xW, List.map_cons, List.map_nil, List.length_cons, List.length_nil, List.cons_append, List.nil_append, List.set_cons_zero, List.set_cons_succ, List.getElem?_cons_zero, List.getElem?_cons_succ, Option.bind_some, Option.map_some, List.replicate_succ, xX, xY, xZ, y0, y1, y2, ya, yb, yc, yd, ye, yf, yg, yh, yi, yj, yk, ym, Nat.reduceSub, Nat.reduceAdd, if_true, if_false, decide_eq_true_eq, pIsi_def, isi_t, k_tt, fLen3, n33, ew, ec, fAll_2, Bool.false_and, Bool.false_eq_true, ↓reduceIte, Bool.not_true, Bool.not_false]
        | true =>
          cases hy : sIn ns y with
          | false =>
            rw [payB_2 hy]
            rw [hx, hy] at ec
            simp only [q0, q4, q6, q7, q8, q9, qf, qj, qm, qn, qp, qu, qw, qx, qy, qz, qA, qB, qC, qD, qE, qF, qG, qH, qI, qJ, qK, qL, qM, qN, qO, qP, qQ, qR, qS, qT, qU, qV, qW, qX, qY, qZ, w6, w7, wa, wb, wc, wd, we, wg, wh, wj, wl, wm, wn, wo, wp, wq, wr, wt, wu, wv, ww, wx, wy, wz, wA, wB, wC, wD, wE, wF, wG, wH, wI, wJ, wK, wM, wN, wO, wQ, wS, wT, wU, wV, wW, wX, wY, wZ, xa, xb, xc, xf, xg, xh, xi, xj, xk, xl, xm, xn, xo, xq, xr, xt, xu, xv, xw, xx, xy, xz, xA, xB, xC, xE, xG, xH, xI, xJ, xK, xL, xM, xN, xO, xP, xQ, xR, xS, xT, xU, xV, xW, List.map_cons, List.map_nil, List.length_cons, List.length_nil, List.cons_append, List.nil_append, List.set_cons_zero, List.set_cons_succ, List.getElem?_cons_zero, List.getElem?_cons_succ, Option.bind_some, Option.map_some, List.replicate_succ, xX, xY, xZ, y0, y1, y2, ya, yb, yc, yd, ye, yf, yg, yh, yi, yj, yk, ym, Nat.reduceSub, Nat.reduceAdd, if_true, if_false, decide_eq_true_eq, pIsi_def, isi_t, k_tt, fLen3, n33, ew, ec, fAll_2, Bool.and_false, Bool.false_eq_true, ↓reduceIte, Bool.not_true, Bool.not_false]
          | true =>
            obtain ⟨a, rfl, ha⟩ := sIn_of hx
            obtain ⟨b, rfl, hb⟩ := sIn_of hy
            rw [hx, hy] at ec
            have e : payB ns wP (.tuple [.str a, .str b, c]) = !decide (a = b) := by
              show (wP c && (decide (a ∈ ns) && (decide (b ∈ ns) && !decide (a = b)))) = _
              rw [show wP c = true from hw, decide_eq_true ha, decide_eq_true hb]; rfl
            rw [e]
            simp only [q0, q4, q6, q7, q8, q9, qf, qj, qm, qn, qp, qu, qw, qx, qy, qz, qA, qB, qC, qD, qE, qF, qG, qH, qI, qJ, qK, qL, qM, qN, qO, qP, qQ, qR, qS, qT, qU, qV, qW, qX, qY, qZ, w6, w7, wa, wb, wc, wd, we, wg, wh, wj, wl, wm, wn, wo, wp, wq, wr, wt, wu, wv, ww, wx, wy, wz, wA, wB, wC, wD, wE, wF, wG, wH, wI, wJ, wK, wM, wN, wO, wQ, wS, wT, wU, wV, wW, wX, wY, wZ, xa, xb, xc, xf, xg, xh, xi, xj, xk, xl, xm, xn, xo, xq, xr, xt, xu, xv, xw, xx, xy, xz, xA, xB, xC, xE, xG, xH, xI, xJ, xK, xL, xM, xN, xO, xP, xQ, xR, xS, xT, xU, xV, xW, List.map_cons, List.map_nil, List.length_cons, List.length_nil, List.cons_append, List.nil_append, List.set_cons_zero, List.set_cons_succ, List.getElem?_cons_zero, List.getElem?_cons_succ, Option.bind_some, Option.map_some, List.replicate_succ, xX, xY, xZ, y0, y1, y2, ya, yb, yc, yd, ye, yf, yg, yh, yi, yj, yk, ym, Nat.reduceSub, Nat.reduceAdd, if_true, if_false, decide_eq_true_eq, pIsi_def, isi_t, k_tt, fLen3, n33, ew, ec, fAll_2, at_0, at_1, fNe_s, Bool.and_true, Bool.false_eq_true, ↓reduceIte, Bool.not_true, Bool.not_false]
    · rw [payB_len h3]
      simp only [q0, q4, q6, q7, q8, q9, qf, qj, qm, qn, qp, qu, qw, qx, qy, qz, qA, qB, qC, qD, qE, qF, qG, qH, qI, qJ, qK, qL, qM, qN, qO, qP, qQ, qR, qS, qT, qU, qV, qW, qX, qY, qZ, w6, w7, wa, wb, wc, wd, we, wg, wh, wj, wl, wm, wn, wo, wp, wq, wr, wt, wu, wv, ww, wx, wy, wz, wA, wB, wC, wD, wE, wF, wG, wH, wI, wJ, wK, wM, wN, wO, wQ, wS, wT, wU, wV, wW, wX, wY, wZ, xa, xb, xc, xf, xg, xh, xi, xj, xk, xl, xm, xn, xo, xq, xr, xt, xu, xv, xw, xx, xy, xz, xA, xB, xC, xE, xG, xH, xI, xJ, xK, xL, xM, xN, xO, xP, xQ, xR, xS, xT, xU, xV, xW, List.map_cons, List.map_nil, List.length_cons, List.length_nil, List.cons_append, List.nil_append, List.set_cons_zero, List.set_cons_succ, List.getElem?_cons_zero, List.getElem?_cons_succ, Option.bind_some, Option.map_some, List.replicate_succ, xX, xY, xZ, y0, y1, y2, ya, yb, yc, yd, ye, yf, yg, yh, yi, yj, yk, ym, Nat.reduceSub, Nat.reduceAdd, if_true, if_false, decide_eq_true_eq, pIsi_def, isi_t, k_tt, fLen_t5, fNe_i, h3, decide_false, Bool.false_eq_true, ↓reduceIte, Bool.not_true, Bool.not_false]
  | dict _ => exfalso; revert h; cases n <;> exact id
  | _ => rfl
def stE (ds : List PD) (d : PD) (ns : List Str) (u : Str → Int) (x3 x4 x5 x6 : Option SV) : Env := [some (.pt ds), some (fz d), some (.one (.dK (balD ns u))), x3, x4, x5, x6]
theorem loop_c1st {ds : List PD} {d : PD} {x3 x4 x5 : Option SV} : ∀ (xs acc : List PD) (x6 : Option SV), (∀ x ∈ xs, Gd L n x) → acc.length + xs.length ≤ sizeLine →
    ∃ y6, loopC [6] (bName 6) tTrue (vGx (gCall φ_is_payment (aSlot 2 (aVal (gPV (pVal (pVar 6))) aNil)))) xs acc (stE ds d ns f x3 x4 x5 x6) = some (acc ++ xs.map (fun x => PyData.bool (payB ns wP x)), stE ds d ns f x3 x4 x5 y6)
  | [], acc, x6, _, _ => ⟨x6, by
    show some (acc, _) = some (acc ++ [], _)
    rw [List.append_nil]⟩
  | x :: xs, acc, x6, hx, hz => by
    rw [List.length_cons] at hz
    have e := is_payment_ok (ns := ns) (f := f) (hx x List.mem_cons_self)
    have ev : vGx (gCall φ_is_payment (aSlot 2 (aVal (gPV (pVal (pVar 6))) aNil))) (stE ds d ns f x3 x4 x5 (some (fz x))) = .ok (.bool (payB ns wP x), stE ds d ns f x3 x4 x5 (some (fz x))) := by
      unfold stE
      simp only [q0, q4, q6, q7, q8, q9, qf, qj, qm, qn, qp, qu, qw, qx, qy, qz, qA, qB, qC, qD, qE, qF, qG, qH, qI, qJ, qK, qL, qM, qN, qO, qP, qQ, qR, qS, qT, qU, qV, qW, qX, qY, qZ, w6, w7, wa, wb, wc, wd, we, wg, wh, wj, wl, wm, wn, wo, wp, wq, wr, wt, wu, wv, ww, wx, wy, wz, wA, wB, wC, wD, wE, wF, wG, wH, wI, wJ, wK, wM, wN, wO, wQ, wS, wT, wU, wV, wW, wX, wY, wZ, xa, xb, xc, xf, xg, xh, xi, xj, xk, xl, xm, xn, xo, xq, xr, xt, xu, xv, xw, xx, xy, xz, xA, xB, xC, xE, xG, xH, xI, xJ, xK, xL, xM, xN, xO, xP, xQ, xR, xS, xT, xU, xV, xW, List.map_cons, List.map_nil, List.length_cons, List.length_nil, List.cons_append, List.nil_append, List.set_cons_zero, List.set_cons_succ, List.getElem?_cons_zero, List.getElem?_cons_succ, Option.bind_some, Option.map_some, List.replicate_succ, xX, xY, xZ, y0, y1, y2, ya, yb, yc, yd, ye, yf, yg, yh, yi, yj, yk, ym, Nat.reduceSub, Nat.reduceAdd, if_true, if_false, decide_eq_true_eq, e]
    obtain ⟨y6, e2⟩ := loop_c1st xs (acc ++ [.bool (payB ns wP x)]) (some (fz x)) (fun y hy => hx y (List.mem_cons_of_mem _ hy)) (by rw [List.length_append, List.length_singleton]; omega)
    refine ⟨y6, ?_⟩
    unfold loopC
    rw [show bName 6 x (wipeE (stE ds d ns f x3 x4 x5 x6) [6]) = some (stE ds d ns f x3 x4 x5 (some (fz x))) by rw [wipeE_def]; rfl, Option.bind_some]
    show (match vGx (gCall φ_is_payment (aSlot 2 (aVal (gPV (pVal (pVar 6))) aNil))) (stE ds d ns f x3 x4 x5 (some (fz x))) with | .ok (d, ρ3) => _ | _ => none) = _
    rw [ev]
    show (if acc.length < sizeLine then _ else none) = _
    rw [if_pos (by omega), e2, List.append_assoc]; rfl
theorem put_bal {u : Str → Int} {a : Str} {v : Int} (h : a ∈ ns) : putD (balD ns u) (.inr a) (.int v) = balD ns (addB u a v) := by
  have hany : ((balD ns u).any fun kv => decide (kv.1 = Sum.inr a)) = true := List.any_eq_true.mpr ⟨(.inr a, .int (u a)), List.mem_map.mpr ⟨a, h, rfl⟩, by simp⟩
  unfold putD
  rw [if_pos hany]
  unfold balD
  rw [List.map_map]
  refine List.map_congr_left fun s _ => ?_
  show (if (Sum.inr s : Key) = Sum.inr a then ((Sum.inr s : Key), PyData.int v) else (Sum.inr s, .int (u s))) = (Sum.inr s, .int (addB u a v s))
  unfold addB
  by_cases e : s = a
  · rw [if_pos (congrArg Sum.inr e), if_pos e]
  · rw [if_neg fun z => e (Sum.inr.inj z), if_neg e]
theorem bal_len {u : Str → Int} : (balD ns u).length = ns.length := by unfold balD; rw [List.length_map]
theorem augD_at {ρ : Env} {op : Int → Int → Int} {qk qv : Env → Option PD} {u : Str → Int} {a : Str} {v : Int} {i : Nat} (hl : ns.length ≤ 1000) (hi : getS i ρ = some (.dK (balD ns u))) (ha : a ∈ ns) (hk : qk ρ = some (.str a)) (hv : qv ρ = some (.int v)) : mAugD i op qk qv ρ = .ok (.nx, upSlot i (.dK (balD ns (addB u a (op (u a) v)))) ρ) := by
  have big : 200000 < sizeLine := by decide
  have hp := put_dK (F := balD ns u) (t := a) (v := .int (op (u a) v)) (by rw [bal_len]; omega)
  rw [put_bal ha] at hp
  unfold mAugD
  rw [hi, Option.bind_some, hk, Option.bind_some, look_dK, Option.bind_some, valD_bal ha, Option.bind_some, hv, Option.bind_some]
  show (match ((S1.dK (balD ns u)).put (.str a) (.int (op (u a) v))) with | some s => _ | none => _) = _
  rw [hp]
theorem l2st {ds : List PD} {d : PD} {u : Str → Int} {p : Pay} {x6 : Option SV} (hl : ns.length ≤ 1000) (h1 : p.1 ∈ ns) (h2 : p.2.1 ∈ ns) : l2_settles (stE ds d ns u (some (fzS p.1)) (some (fzS p.2.1)) (some (fzI p.2.2)) x6) = .ok (.nx, stE ds d ns (app1 u p) (some (fzS p.1)) (some (fzS p.2.1)) (some (fzI p.2.2)) x6) := by
  have e1 := augD_at (ns := ns) (u := u) (i := 2) (op := fun i j => i + j) (qk := pVal (pVar 3)) (qv := pVal (pVar 5)) (ρ := stE ds d ns u (some (fzS p.1)) (some (fzS p.2.1)) (some (fzI p.2.2)) x6) hl rfl h1 rfl rfl
  have e2 := augD_at (ns := ns) (u := addB u p.1 (u p.1 + p.2.2)) (i := 2) (op := fun i j => i - j) (qk := pVal (pVar 4)) (qv := pVal (pVar 5)) (ρ := stE ds d ns (addB u p.1 (u p.1 + p.2.2)) (some (fzS p.1)) (some (fzS p.2.1)) (some (fzI p.2.2)) x6) hl rfl h2 rfl rfl
  unfold l2_settles
  rw [wJ, e1, q8]
  exact e2
theorem loop_st {ds : List PD} {d : PD} {x6 : Option SV} (hl : ns.length ≤ 1000) : ∀ (rows : List Pay) (u : Str → Int) (x3 x4 x5 : Option SV), (∀ p ∈ rows, p.1 ∈ ns ∧ p.2.1 ∈ ns) → ∃ y3 y4 y5, loopFor (bTup 3 (bCons (bName 3) (bCons (bName 4) (bCons (bName 5) bNil)))) l2_settles (rows.map payD) (stE ds d ns u x3 x4 x5 x6) = .ok (.nx, stE ds d ns (appR u rows) y3 y4 y5 x6)
  | [], u, x3, x4, x5, _ => ⟨x3, x4, x5, rfl⟩
  | p :: rows, u, x3, x4, x5, h => by
    obtain ⟨h1, h2⟩ := h p List.mem_cons_self
    obtain ⟨y3, y4, y5, e⟩ := loop_st hl rows (app1 u p) (some (fzS p.1)) (some (fzS p.2.1)) (some (fzI p.2.2)) fun q hq => h q (List.mem_cons_of_mem _ hq)
    refine ⟨y3, y4, y5, ?_⟩
    rw [List.map_cons, lf_cons (ρ1 := stE ds d ns u (some (fzS p.1)) (some (fzS p.2.1)) (some (fzI p.2.2)) x6) rfl (l2st hl h1 h2)]
    exact e
theorem c3st {ds : List PD} {d : PD} {u : Str → Int} {x3 x4 x5 x6 : Option SV} (hl : ns.length ≤ 1000) : c3_settles (stE ds d ns u x3 x4 x5 x6) = some (rL (ns.map fun s => PyData.bool (decide (u s = 0)))) := by
  have big : 200000 < sizeLine := by decide
  unfold c3_settles
  show pComp [5] (itLv 2) (bName 5) tYesP (pVal (p2 fEq (pVar 5) (pK (.int 0)))) [some (.pt ds), some (fz d), some (.lk (.dK (balD ns u))), x3, x4, x5, x6] = _
  have e : itLv 2 [some (.pt ds), some (fz d), some (.lk (.dK (balD ns u))), x3, x4, x5, x6] = some (ns.map fun s => .int (u s)) := by
    show some ((balD ns u).map (·.2)) = _
    unfold balD
    rw [List.map_map]; rfl
  rw [pComp_def, e, Option.bind_some, if_pos (by rw [List.length_map]; omega)]
  rw [loopP_ok (enc := fun s => .int (u s)) (tt := fun _ => true) (gg := fun s => PyData.bool (decide (u s = 0))) ns fun s hs => ⟨[some (.pt ds), some (fz d), some (.lk (.dK (balD ns u))), x3, x4, some (fzI (u s)), x6], rfl, rfl, fun _ => by simp only [q0, q4, q6, q7, q8, q9, qf, qj, qm, qn, qp, qu, qw, qx, qy, qz, qA, qB, qC, qD, qE, qF, qG, qH, qI, qJ, qK, qL, qM, qN, qO, qP, qQ, qR, qS, qT, qU, qV, qW, qX, qY, qZ, w6, w7, wa, wb, wc, wd, we, wg, wh, wj, wl, wm, wn, wo, wp, wq, wr, wt, wu, wv, ww, wx, wy, wz, wA, wB, wC, wD, wE, wF, wG, wH, wI, wJ, wK, wM, wN, wO, wQ, wS, wT, wU, wV, wW, wX, wY, wZ, xa, xb, xc, xf, xg, xh, xi, xj, xk, xl, xm, xn, xo, xq, xr, xt, xu, xv, xw, xx, xy, xz, xA, xB, xC, xE, xG, xH, xI, xJ, xK, xL, xM, xN, xO, xP, xQ, xR, xS, xT, xU, xV, xW, List.map_cons, List.map_nil, List.length_cons, List.length_nil, List.cons_append, List.nil_append, List.set_cons_zero, List.set_cons_succ, List.getElem?_cons_zero, List.getElem?_cons_succ, Option.bind_some, Option.map_some, List.replicate_succ, xX, xY, xZ, y0, y1, y2, ya, yb, yc, yd, ye, yf, yg, yh, yi, yj, yk, ym, Nat.reduceSub, Nat.reduceAdd, if_true, if_false, decide_eq_true_eq, fEq_i]⟩]
  rw [compD_all]; rfl
def zeroB (ns : List Str) (u : Str → Int) : Bool := ns.all fun s => decide (u s = 0)
def setB (ns : List Str) (f : Str → Int) (w : PD → Bool) : PD → Bool
  | .list xs => xs.all (payB ns w) && zeroB ns (appR f (xs.map payOf))
  | _ => false
theorem rows_of {w : PD → Bool} (hw : ∀ c, w c = true → ∃ v, c = .int v) {xs : List PD} (h : xs.all (payB ns w) = true) : xs = (xs.map payOf).map payD ∧ ∀ p ∈ xs.map payOf, p.1 ∈ ns ∧ p.2.1 ∈ ns := by
  rw [List.all_eq_true] at h
  refine ⟨?_, fun p hp => ?_⟩
  · rw [List.map_map]
    conv => lhs; rw [← List.map_id xs]
    refine List.map_congr_left fun x hx => ?_
    obtain ⟨p, rfl, _⟩ := payB_iff hw (h x hx)
    rfl
  · obtain ⟨x, hx, rfl⟩ := List.mem_map.mp hp
    obtain ⟨p, rfl, h1, h2, _⟩ := payB_iff hw (h x hx)
    exact ⟨h1, h2⟩
theorem st_end {c3 : Env → Option Res} {l2 : Env → Out (Fl × Env)} {c1 : Env → Out (Res × Env)} {ds xs bs : List PD} {a b : Bool} {ρ2 : Env} (h1 : pDictP (pVarP 0) [some (.pt ds), some (fz (.list xs)), none, none, none, none, none] = some (.new (.one (.dK (balD ns f)))))
    (h2 : c1 (stE ds (.list xs) ns f none none none none) = .ok (rL bs, stE ds (.list xs) ns f none none none none)) (h3 : fAll (.frz (.list bs)) = some (rB a))
    (h4 : a = true → loopFor (bTup 3 (bCons (bName 3) (bCons (bName 4) (bCons (bName 5) bNil)))) l2 xs (stE ds (.list xs) ns f none none none none) = .ok (.nx, ρ2)) (h5 : a = true → ∃ zs, c3 ρ2 = some (rL zs) ∧ fAll (.lst zs) = some (rB b)) :
    ∃ outs, runF [] 7 (mSeq (mSet 2 (gPx (pDictP (pVarP 0)))) (mSeq (mIf (tOrM (gT (tNot (tB (pIsi "list" (pVar 1))))) (tNotM (fun ρ => tOf ((gN (f1 fAll) (aVal (vGx c1) aNil)) ρ)))) (mRet (gPx (pK (.bool false)))) mNop) (mSeq (mFor (iSq (gPV (pVal (pVar 1)))) (bTup 3 (bCons (bName 3) (bCons (bName 4) (bCons (bName 5) bNil)))) l2) (mRet (gPx (pN (f1 fAll) (psCons c3 psNil))))))) [.pt ds, fz (.list xs)] = .ok (rB (a && b), outs) := by
  have il : fIsi "list" (.frz (.list xs)) = some (rB true) := rfl
  have sq : seqD (.list xs) = some xs := rfl
  unfold stE at h2 h4
  rw [xi]
  simp only [wJ, wM, we, List.map_cons, List.map_nil, List.length_cons, List.length_nil, Nat.zero_add, Nat.reduceAdd, Nat.reduceSub, List.replicate_succ, xX, List.cons_append, List.nil_append, h1, wd, q4, wI, q0, List.set_cons_succ, List.set_cons_zero, q8]
  cases ha : a with
  | false =>
    rw [ha] at h3
    refine ⟨outsOf [] [.pt ds, fz (.list xs)] (stE ds (.list xs) ns f none none none none), ?_⟩
    unfold stE
    simp only [q0, q4, q6, q7, q8, q9, qf, qj, qm, qn, qp, qu, qw, qx, qy, qz, qA, qB, qC, qD, qE, qF, qG, qH, qI, qJ, qK, qL, qM, qN, qO, qP, qQ, qR, qS, qT, qU, qV, qW, qX, qY, qZ, w6, w7, wa, wb, wc, wd, we, wg, wh, wj, wl, wm, wn, wo, wp, wq, wr, wt, wu, wv, ww, wx, wy, wz, wA, wB, wC, wD, wE, wF, wG, wH, wI, wJ, wK, wM, wN, wO, wQ, wS, wT, wU, wV, wW, wX, wY, wZ, xa, xb, xc, xf, xg, xh, xi, xj, xk, xl, xm, xn, xo, xq, xr, xt, xu, xv, xw, xx, xy, xz, xA, xB, xC, xE, xG, xH, xI, xJ, xK, xL, xM, xN, xO, xP, xQ, xR, xS, xT, xU, xV, xW, List.map_cons, List.map_nil, List.length_cons, List.length_nil, List.cons_append, List.nil_append, List.set_cons_zero, List.set_cons_succ, List.getElem?_cons_zero, List.getElem?_cons_succ, Option.bind_some, Option.map_some, List.replicate_succ, xX, xY, xZ, y0, y1, y2, ya, yb, yc, yd, ye, yf, yg, yh, yi, yj, yk, ym, Nat.reduceSub, Nat.reduceAdd, if_true, if_false, decide_eq_true_eq, pIsi_def, il, h2, h3, Bool.not_true, Bool.false_eq_true, ↓reduceIte, Bool.not_false, Bool.false_and]
  | true =>
    rw [ha] at h3
    obtain ⟨zs, g1, g2⟩ := h5 ha
    have h4 := h4 ha
    refine ⟨outsOf [] [.pt ds, fz (.list xs)] ρ2, ?_⟩
    rw [wS, show (tOrM (gT (tNot (tB (pIsi "list" (pVar 1))))) (tNotM (fun ρ => tOf ((gN (f1 fAll) (aVal (vGx c1) aNil)) ρ)))) [some (.pt ds), some (fz (.list xs)), some (.one (.dK (balD ns f))), none, none, none, none] = .ok (false, [some (.pt ds), some (fz (.list xs)), some (.one (.dK (balD ns f))), none, none, none, none]) by simp only [q0, q4, q6, q7, q8, q9, qf, qj, qm, qn, qp, qu, qw, qx, qy, qz, qA, qB, qC, qD, qE, qF, qG, qH, qI, qJ, qK, qL, qM, qN, qO, qP, qQ, qR, qS, qT, qU, qV, qW, qX, qY, qZ, w6, w7, wa, wb, wc, wd, we, wg, wh, wj, wl, wm, wn, wo, wp, wq, wr, wt, wu, wv, ww, wx, wy, wz, wA, wB, wC, wD, wE, wF, wG, wH, wI, wJ, wK, wM, wN, wO, wQ, wS, wT, wU, wV, wW, wX, wY, wZ, xa, xb, xc, xf, xg, xh, xi, xj, xk, xl, xm, xn, xo, xq, xr, xt, xu, xv, xw, xx, xy, xz, xA, xB, xC, xE, xG, xH, xI, xJ, xK, xL, xM, xN, xO, xP, xQ, xR, xS, xT, xU, xV, xW, List.map_cons, List.map_nil, List.length_cons, List.length_nil, List.cons_append, List.nil_append, List.set_cons_zero, List.set_cons_succ, List.getElem?_cons_zero, List.getElem?_cons_succ, Option.bind_some, Option.map_some, List.replicate_succ, xX, xY, xZ, y0, y1, y2, ya, yb, yc, yd, ye, yf, yg, yh, yi, yj, yk, ym, Nat.reduceSub, Nat.reduceAdd, if_true, if_false, decide_eq_true_eq, pIsi_def, il, h2, h3, Bool.not_true, Bool.false_eq_true, ↓reduceIte], q4]
    rw [if_neg (by simp), wK, q8]
    dsimp only
    rw [wJ, wU, show iSq (gPV (pVal (pVar 1))) [some (.pt ds), some (fz (.list xs)), some (.one (.dK (balD ns f))), none, none, none, none] = .ok (xs, [some (.pt ds), some (fz (.list xs)), some (.one (.dK (balD ns f))), none, none, none, none]) from rfl, q4]
    dsimp only
    rw [h4, q8, wO, we, qI, qK, g1, Option.bind_some, qB, Option.bind_some, qJ, Option.bind_some, Option.bind_some, qO, g2, wc, q4, xj, Bool.true_and]
theorem st_no {d : PD} (hn : ns.Nodup) (h : fIsi "list" (.frz d) = some (rB false)) : ∃ outs, φ_settles [.pt (accsD ns f), fz d] = .ok (rB false, outs) := by
  refine ⟨outsOf [] [.pt (accsD ns f), fz d] (stE (accsD ns f) d ns f none none none none), ?_⟩
  unfold φ_settles m_settles stE
  rw [xi]
  simp only [wJ, wM, we, List.map_cons, List.map_nil, List.length_cons, List.length_nil, Nat.zero_add, Nat.reduceAdd, Nat.reduceSub, List.replicate_succ, xX, List.cons_append, List.nil_append, dictP_ok (p := pVarP 0) (f := f) hn pVarP_0, wd, q4, wI, q0, List.set_cons_succ, List.set_cons_zero, q8]
  simp only [q0, q4, q6, q7, q8, q9, qf, qj, qm, qn, qp, qu, qw, qx, qy, qz, qA, qB, qC, qD, qE, qF, qG, qH, qI, qJ, qK, qL, qM, qN, qO, qP, qQ, qR, qS, qT, qU, qV, qW, qX, qY, qZ, w6, w7, wa, wb, wc, wd, we, wg, wh, wj, wl, wm, wn, wo, wp, wq, wr, wt, wu, wv, ww, wx, wy, wz, wA, wB, wC, wD, wE, wF, wG, wH, wI, wJ, wK, wM, wN, wO, wQ, wS, wT, wU, wV, wW, wX, wY, wZ, xa, xb, xc, xf, xg, xh, xi, xj, xk, xl, xm, xn, xo, xq, xr, xt, xu, xv, xw, xx, xy, xz, xA, xB, xC, xE, xG, xH, xI, xJ, xK, xL, xM, xN, xO, xP, xQ, xR, xS, xT, xU, xV, xW, List.map_cons, List.map_nil, List.length_cons, List.length_nil, List.cons_append, List.nil_append, List.set_cons_zero, List.set_cons_succ, List.getElem?_cons_zero, List.getElem?_cons_succ, Option.bind_some, Option.map_some, List.replicate_succ, xX, xY, xZ, y0, y1, y2, ya, yb, yc, yd, ye, yf, yg, yh, yi, yj, yk, ym, Nat.reduceSub, Nat.reduceAdd, if_true, if_false, decide_eq_true_eq, pIsi_def, h, Bool.not_false, ↓reduceIte]
theorem settles_ok {d : PD} (hn : ns.Nodup) (hl : ns.length ≤ 1000) (h : Gd L n d) (hL : L ≤ 100000) : ∃ outs, φ_settles [.pt (accsD ns f), fz d] = .ok (rB (setB ns f wP d), outs) := by
  have big : 200000 < sizeLine := by decide
  cases d with
  | list xs =>
    obtain ⟨m, hlx, hel⟩ : ∃ m, xs.length ≤ L ∧ ∀ x ∈ xs, Gd L m x := by cases n with
      | zero => exact absurd h id
      | succ m => exact ⟨m, h.1, h.2⟩
    obtain ⟨y6, e1⟩ := loop_c1st (ns := ns) (f := f) (ds := accsD ns f) (d := .list xs) (x3 := none) (x4 := none) (x5 := none) xs [] none hel (by simp only [List.length_nil]; omega)
    have c1 : c1_settles (stE (accsD ns f) (.list xs) ns f none none none none) = .ok (rL (xs.map fun x => PyData.bool (payB ns wP x)), stE (accsD ns f) (.list xs) ns f none none none none) := by
      unfold c1_settles
      rw [gComp_def, show iSq (gPV (pVal (pVar 1))) (stE (accsD ns f) (.list xs) ns f none none none none) = .ok (xs, stE (accsD ns f) (.list xs) ns f none none none none) from rfl, q4]
      dsimp only
      rw [e1]
      rfl
    have fa : fAll (.frz (.list (xs.map fun x => PyData.bool (payB ns wP x)))) = some (rB (xs.all (payB ns wP))) := by
      have := fAll_map (payB ns wP) xs
      exact this
    by_cases ha : xs.all (payB ns wP) = true
    · obtain ⟨q1, q2⟩ := rows_of wP_int ha
      obtain ⟨y3, y4, y5, e2⟩ := loop_st (ds := accsD ns f) (d := .list xs) (x6 := none) hl (xs.map payOf) f none none none q2
      rw [← q1] at e2
      have e3 := c3st (ds := accsD ns f) (d := .list xs) (u := appR f (xs.map payOf)) (x3 := y3) (x4 := y4) (x5 := y5) (x6 := none) hl
      exact st_end (dictP_ok hn rfl) c1 fa (fun _ => e2) fun _ => ⟨_, e3, fAll_map (fun s => decide (appR f (xs.map payOf) s = 0)) ns⟩
    · exact st_end (ρ2 := []) (b := zeroB ns (appR f (xs.map payOf))) (dictP_ok hn rfl) c1 fa (fun z => absurd z ha) fun z => absurd z ha
  | dict _ => exfalso; revert h; cases n <;> exact id
  | _ => exact st_no hn rfl
end
end Mm
namespace Mm
open PySem PySem.Spec L2
set_option autoImplicit false
section
variable {ns : List Str} {f : Str → Int}
def Mx (ns : List Str) (f : Str → Int) : Nat := (ML f (nzL ns f).length (nzL ns f)).length
theorem tot_zeros {l : List Str} (h : ∀ s ∈ l, f s = 0) : tot f l = 0 := by
  induction l with
  | nil => rfl
  | cons x l ih => rw [tot_cons, h x List.mem_cons_self, ih fun s hs => h s (List.mem_cons_of_mem _ hs)]; rfl
theorem mem_nz {s : Str} : s ∈ nzL ns f ↔ s ∈ ns ∧ f s ≠ 0 := by unfold nzL; simp
theorem tot_nz (h0 : tot f ns = 0) : tot f (nzL ns f) = 0 := by
  have := tot_split (f := f) (fun s => decide (f s ≠ 0)) ns
  have z : tot f (ns.filter fun x => !decide (f x ≠ 0)) = 0 := tot_zeros fun s hs => by simpa using (List.mem_filter.mp hs).2
  rw [h0, z, Int.add_zero] at this
  exact this.symm
theorem nz_nodup (hn : ns.Nodup) : (nzL ns f).Nodup := nodup_filter hn _
theorem nz_len : (nzL ns f).length ≤ ns.length := List.length_filter_le _ _
theorem pay_len (hn : ns.Nodup) (h0 : tot f ns = 0) : (payL ns f).length + Mx ns f = (nzL ns f).length := rowsL_count (nz_nodup hn) (Nat.le_refl _) (tot_nz h0)
theorem pay_good {B : Int} (hB : 0 ≤ B) (hn : ns.Nodup) (hl : ns.length ≤ 12) (h0 : tot f ns = 0) (hf : ∀ s ∈ ns, -B ≤ f s ∧ f s ≤ B) : ∀ p ∈ payL ns f, PayOk ns (B * 12) p := by
  have P := ML_part f _ _ (nz_nodup (f := f) hn) (Nat.le_refl _) (tot_nz h0)
  exact rowsL_ok hB (P.pm.nodup_iff.mpr (nz_nodup hn)) (fun s hs => (mem_nz.mp (P.pm.mem_iff.mp hs)).1) hf (m := 12) (by rw [P.pm.length_eq]; exact Nat.le_trans nz_len hl)
theorem put_none {as : List AR} {outs ρ : Env} (h : ∀ i, argIx i as = none) : putOuts as outs ρ = ρ := by
  unfold putOuts
  apply List.ext_getElem?
  intro i
  rw [List.getElem?_mapIdx, h i]
  cases ρ[i]? <;> rfl
theorem gpay {p : Env → Option Res} {ρ : Env} (hp : p ρ = some (rP (accsD ns f))) (hn : ns.Nodup) (hl : ns.length ≤ 11) (h0 : tot f ns = 0) : vGx (gCall φ_payments (aPt p aNil)) ρ = .ok (.list ((payL ns f).map payD), ρ) := by
  obtain ⟨outs, e⟩ := payments_ok hn hl h0
  have ea : aPt p aNil ρ = .ok ([.pt (accsD ns f)], ρ) := by
    unfold aPt
    rw [hp]; rfl
  rw [wm, xl, ea, q4]
  show ((oB (some [SV.pt (accsD ns f)]) fun as => if (slotsOf [AR.pt (accsD ns f)]).Nodup then callK [AR.pt (accsD ns f)] ρ (φ_payments as) else .stuck).bind _) = _
  rw [q0, if_pos (show (slotsOf [AR.pt (accsD ns f)]).Nodup from List.nodup_nil), e, xm, put_none fun i => rfl]
  rfl
theorem gset {p : Env → Option Res} {v : Env → Out (PD × Env)} {ρ : Env} {d : PD} {L n : Nat} (hp : p ρ = some (rP (accsD ns f))) (hv : v ρ = .ok (d, ρ)) (hn : ns.Nodup) (hl : ns.length ≤ 1000) (hd : Gd L n d) (hL : L ≤ 100000) : vGx (gCall φ_settles (aPt p (aVal v aNil))) ρ = .ok (.bool (setB ns f wP d), ρ) := by
  obtain ⟨outs, e⟩ := settles_ok (f := f) hn hl hd hL
  have ea : aPt p (aVal v aNil) ρ = .ok ([.pt (accsD ns f), .val d], ρ) := by
    unfold aPt
    rw [hp]
    show (aVal v aNil ρ).bind _ = _
    rw [wu, hv]; rfl
  rw [wm, xl, ea, q4]
  show ((oB (some [SV.pt (accsD ns f), fz d]) fun as => if (slotsOf [AR.pt (accsD ns f), AR.val d]).Nodup then callK [AR.pt (accsD ns f), AR.val d] ρ (φ_settles as) else .stuck).bind _) = _
  rw [q0, if_pos (show (slotsOf [AR.pt (accsD ns f), AR.val d]).Nodup from List.nodup_nil), e, xm, put_none fun i => rfl]
  rfl
end
theorem cutD_last (xs : List PD) : cutD xs none (some (-1)) = xs.dropLast := by
  unfold cutD
  have h1 : HT.sIx xs.length 0 none = 0 := rfl
  have h2 : HT.sIx xs.length xs.length (some (-1)) = xs.length - 1 := by
    show (if (-1 : Int) < 0 then ((-1 : Int) + (xs.length : Int)).toNat else min (-1 : Int).toNat xs.length) = _
    rw [if_pos (by omega)]
    omega
  rw [h1, h2, List.drop_zero, Nat.sub_zero, List.dropLast_eq_take]
end Mm
namespace Mm
open PySem PySem.Spec L2
set_option autoImplicit false
theorem gFz_new {g : Env → Out (Res × Env)} {ρ ρ' : Env} {xs : List PD} (h : g ρ = .ok (rL xs, ρ')) : gFz g ρ = .ok (rD (.list xs), ρ') := by
  show gVx (vGx g) ρ = _
  rw [wl, wm, h]
  rfl
section
variable {n1 n2 : List Str} {F : Str → Int}
theorem accs_len : (accsD n1 F).length = n1.length := by unfold accsD; rw [List.length_map]
end
section
variable {n1 n2 : List Str} {F : Str → Int} {s : SV} {x2 x5 x6 x7 x8 x9 x10 x11 : Option SV}
theorem pl_len {ns : List Str} (hn : ns.Nodup) (t : tot F ns = 0) : (payL ns F).length ≤ ns.length := by
  have := pay_len hn t
  have := nz_len (ns := ns) (f := F)
  omega
end
end Mm
namespace Mm
open PySem PySem.Spec L2
set_option autoImplicit false
end Mm
namespace Mm
open PySem PySem.Spec L2
set_option autoImplicit false
end Mm
namespace Mm
open PySem PySem.Spec L2
set_option autoImplicit false
section
variable {ns : List Str} {f : Str → Int} {L n : Nat}
def lsE (ds : List PD) (d : PD) (ns : List Str) (u : Str → Int) (x3 x4 : Option SV) : Env := [some (.pt ds), some (fz d), some (.one (.dK (balD ns u))), x3, x4]
theorem isi_sS {a : Str} : fIsi "str" (.frz (.str a)) = some (rB true) := rfl
theorem l1_ls {ds : List PD} {d x : PD} {u : Str → Int} {x4 : Option SV} (hl : ns.length ≤ 1000) (h : Gd L n x) : l1_law_settles (lsE ds d ns u (some (fz x)) x4) = if payB ns wL x = true then .ok (.nx, lsE ds d ns (app1 u (payOf x)) (some (fz x)) x4) else .ok (.rt (rB false), lsE ds d ns u (some (fz x)) x4) := by
  have big : 200000 < sizeLine := by decide
  unfold l1_law_settles
  cases x with
  | tuple xs =>
    obtain ⟨m, hel⟩ : ∃ m, ∀ x ∈ xs, Gd L m x := by cases n with
      | zero => exact absurd h id
      | succ m => exact ⟨m, h.2⟩
    by_cases h3 : (xs.length : Int) = 3
    · obtain ⟨x, y, c, rfl⟩ : ∃ x y c, xs = [x, y, c] := by
        have : xs.length = 3 := by omega
        match xs, this with
        | [x, y, c], _ => exact ⟨x, y, c, rfl⟩
      have ew := pCall_1 (ρ := lsE ds d ns u (some (fz (.tuple [x, y, c]))) x4) (q := pVal (p2 fIx (pVar 3) (pK (.int 2)))) (by unfold lsE; rw [qN, qG]; simp only [q0, q4, q6, q7, q8, q9, qf, qj, qm, qn, qp, qu, qw, qx, qy, qz, qA, qB, qC, qD, qE, qF, qG, qH, qI, qJ, qK, qL, qM, qN, qO, qP, qQ, qR, qS, qT, qU, qV, qW, qX, qY, qZ, w6, w7, wa, wb, wc, wd, we, wg, wh, wj, wl, wm, wn, wo, wp, wq, wr, wt, wu, wv, ww, wx, wy, wz, wA, wB, wC, wD, wE, wF, wG, wH, wI, wJ, wK, wM, wN, wO, wQ, wS, wT, wU, wV, wW, wX, wY, wZ, xa, xb, xc, xf, xg, xh, xi, xj, xk, xl, xm, xn, xo, xq, xr, xt, xu, xv, xw, xx, xy, xz, xA, xB, xC, xE, xG, xH, xI, xJ, xK, xL, xM, xN, xO, xP, xQ, xR, xS, xT, xU, xV, xW, List.map_cons, List.map_nil, List.length_cons, List.length_nil, List.cons_append, List.nil_append, List.set_cons_zero, List.set_cons_succ, List.getElem?_cons_zero, List.getElem?_cons_succ, Option.bind_some, Option.map_some, List.replicate_succ, xX, xY, xZ, y0, y1, y2, ya, yb, yc, yd, ye, yf, yg, yh, yi, yj, yk, ym, Nat.reduceSub, Nat.reduceAdd, if_true, if_false, decide_eq_true_eq, at_2]) (law_whole_ok (hel c (by simp)))
      have ex := isi_strB (hel x (by simp))
      have ey := isi_strB (hel y (by simp))
      unfold lsE at ew
      cases hw : wholeB c with
      | false =>
        rw [hw] at ew
        rw [if_neg (by rw [payB_w (by cases c <;> first | rfl | cases hw)]; exact Bool.false_ne_true)]
        unfold lsE
        simp only [q0, q4, q6, q7, q8, q9, qf, qj, qm, qn, qp, qu, qw, qx, qy, qz, qA, qB, qC, qD, qE, qF, qG, qH, qI, qJ, qK, qL, qM, qN, qO, qP, qQ, qR, qS, qT, qU, qV, qW, qX, qY, qZ, w6, w7, wa, wb, wc, wd, we, wg, wh, wj, wl, wm, wn, wo, wp, wq, wr, wt, wu, wv, ww, wx, wy, wz, wA, wB, wC, wD, wE, wF, wG, wH, wI, wJ, wK, wM, wN, wO, wQ, wS, wT, wU, wV, wW, wX, wY, wZ, xa, xb, xc, xf, xg, xh, xi, xj, xk, xl, xm, xn, xo, xq, xr, xt, xu, xv, xw, xx, xy, xz, xA, xB, xC, xE, xG, xH, xI, xJ, xK, xL, xM, xN, xO, xP, xQ, xR, xS, xT, xU, xV, xW, List.map_cons, List.map_nil, List.length_cons, List.length_nil, List.cons_append, List.nil_append, List.set_cons_zero, List.set_cons_succ, List.getElem?_cons_zero, List.getElem?_cons_succ, Option.bind_some, Option.map_some, List.replicate_succ, xX, xY, xZ, y0, y1, y2, ya, yb, yc, yd, ye, yf, yg, yh, yi, yj, yk, ym, Nat.reduceSub, Nat.reduceAdd, if_true, if_false, decide_eq_true_eq, pIsi_def, isi_t, k_tt, fLen3, n33, ew, Bool.false_eq_true, ↓reduceIte, Bool.not_true, Bool.not_false]
      | true =>
        rw [hw] at ew
        obtain ⟨v, rfl⟩ : ∃ v, c = .int v := by cases c <;> first | exact ⟨_, rfl⟩ | cases hw
        by_cases hv : v < 1
        · rw [if_neg (by rw [payB_w (show wL (.int v) = false from decide_eq_false (by omega))]; exact Bool.false_ne_true)]
          unfold lsE
          simp only [q0, q4, q6, q7, q8, q9, qf, qj, qm, qn, qp, qu, qw, qx, qy, qz, qA, qB, qC, qD, qE, qF, qG, qH, qI, qJ, qK, qL, qM, qN, qO, qP, qQ, qR, qS, qT, qU, qV, qW, qX, qY, qZ, w6, w7, wa, wb, wc, wd, we, wg, wh, wj, wl, wm, wn, wo, wp, wq, wr, wt, wu, wv, ww, wx, wy, wz, wA, wB, wC, wD, wE, wF, wG, wH, wI, wJ, wK, wM, wN, wO, wQ, wS, wT, wU, wV, wW, wX, wY, wZ, xa, xb, xc, xf, xg, xh, xi, xj, xk, xl, xm, xn, xo, xq, xr, xt, xu, xv, xw, xx, xy, xz, xA, xB, xC, xE, xG, xH, xI, xJ, xK, xL, xM, xN, xO, xP, xQ, xR, xS, xT, xU, xV, xW, List.map_cons, List.map_nil, List.length_cons, List.length_nil, List.cons_append, List.nil_append, List.set_cons_zero, List.set_cons_succ, List.getElem?_cons_zero, List.getElem?_cons_succ, Option.bind_some, Option.map_some, List.replicate_succ, xX, xY, xZ, y0, y1, y2, ya, yb, yc, yd, ye, yf, yg, yh, yi, yj, yk, ym, Nat.reduceSub, Nat.reduceAdd, if_true, if_false, decide_eq_true_eq, pIsi_def, isi_t, k_tt, fLen3, n33, ew, at_2, hv, Bool.false_eq_true, ↓reduceIte, Bool.not_true, Bool.not_false]
        · cases hx : strB x with
          | false =>
            rw [hx] at ex
            rw [if_neg (by rw [payB_1 (by cases x <;> first | rfl | cases hx)]; exact Bool.false_ne_true)]
            unfold lsE
            simp only [q0, q4, q6, q7, q8, q9, qf, qj, qm, qn, qp, qu, qw, qx, qy, qz, qA, qB, qC, qD, qE, qF, qG, qH, qI, qJ, qK, qL, qM, qN, qO, qP, qQ, qR, qS, qT, qU, qV, qW, qX, qY, qZ, w6, w7, wa, wb, wc, wd, we, wg, wh, wj, wl, wm, wn, wo, wp, wq, wr, wt, wu, wv, ww, wx, wy, wz, wA, wB, wC, wD, wE, wF, wG, wH, wI, wJ, wK, wM, wN, wO, wQ, wS, wT, wU, wV, wW, wX, wY, wZ, xa, xb, xc, xf, xg, xh, xi, xj, xk, xl, xm, xn, xo, xq, xr, xt, xu, xv, xw, xx, xy, xz, xA, xB, xC, xE, xG, xH, xI, xJ, xK, xL, xM, xN, xO, xP, xQ, xR, xS, xT, xU, xV, xW, List.map_cons, List.map_nil, List.length_cons, List.length_nil, List.cons_append, List.nil_append, List.set_cons_zero, List.set_cons_succ, List.getElem?_cons_zero, List.getElem?_cons_succ, Option.bind_some, Option.map_some, List.replicate_succ, xX, xY, xZ, y0, y1, y2, ya, yb, yc, yd, ye, yf, yg, yh, yi, yj, yk, ym, Nat.reduceSub, Nat.reduceAdd, if_true, if_false, decide_eq_true_eq, pIsi_def, isi_t, k_tt, fLen3, n33, ew, at_0, at_2, hv, ex, Bool.false_eq_true, ↓reduceIte, Bool.not_true, Bool.not_false]
          | true =>
            cases hy : strB y with
            | false =>
              rw [hx] at ex
              rw [hy] at ey
              rw [if_neg (by rw [payB_2 (by cases y <;> first | rfl | cases hy)]; exact Bool.false_ne_true)]
              unfold lsE
              simp only [q0, q4, q6, q7, q8, q9, qf, qj, qm, qn, qp, qu, qw, qx, qy, qz, qA, qB, qC, qD, qE, qF, qG, qH, qI, qJ, qK, qL, qM, qN, qO, qP, qQ, qR, qS, qT, qU, qV, qW, qX, qY, qZ, w6, w7, wa, wb, wc, wd, we, wg, wh, wj, wl, wm, wn, wo, wp, wq, wr, wt, wu, wv, ww, wx, wy, wz, wA, wB, wC, wD, wE, wF, wG, wH, wI, wJ, wK, wM, wN, wO, wQ, wS, wT, wU, wV, wW, wX, wY, wZ, xa, xb, xc, xf, xg, xh, xi, xj, xk, xl, xm, xn, xo, xq, xr, xt, xu, xv, xw, xx, xy, xz, xA, xB, xC, xE, xG, xH, xI, xJ, xK, xL, xM, xN, xO, xP, xQ, xR, xS, xT, xU, xV, xW, List.map_cons, List.map_nil, List.length_cons, List.length_nil, List.cons_append, List.nil_append, List.set_cons_zero, List.set_cons_succ, List.getElem?_cons_zero, List.getElem?_cons_succ, Option.bind_some, Option.map_some, List.replicate_succ, xX, xY, xZ, y0, y1, y2, ya, yb, yc, yd, ye, yf, yg, yh, yi, yj, yk, ym, Nat.reduceSub, Nat.reduceAdd, if_true, if_false, decide_eq_true_eq, pIsi_def, isi_t, k_tt, fLen3, n33, ew, at_0, at_1, at_2, hv, ex, ey, Bool.false_eq_true, ↓reduceIte, Bool.not_true, Bool.not_false]
            | true =>
              obtain ⟨a, rfl⟩ : ∃ a, x = .str a := by cases x <;> first | exact ⟨_, rfl⟩ | cases hx
              obtain ⟨b, rfl⟩ : ∃ b, y = .str b := by cases y <;> first | exact ⟨_, rfl⟩ | cases hy
              have e : payB ns wL (.tuple [.str a, .str b, .int v]) = (decide (a ∈ ns) && (decide (b ∈ ns) && !decide (a = b))) := by
                show (decide (1 ≤ v) && (decide (a ∈ ns) && (decide (b ∈ ns) && !decide (a = b)))) = _
                rw [decide_eq_true (show 1 ≤ v by omega), Bool.true_and]
              rw [e]
              by_cases ha : a ∈ ns
              · by_cases hb : b ∈ ns
                · by_cases hab : a = b
                  · subst hab
                    rw [decide_eq_true ha, decide_eq_true rfl, if_neg (by simp)]
                    unfold lsE
                    simp only [q0, q4, q6, q7, q8, q9, qf, qj, qm, qn, qp, qu, qw, qx, qy, qz, qA, qB, qC, qD, qE, qF, qG, qH, qI, qJ, qK, qL, qM, qN, qO, qP, qQ, qR, qS, qT, qU, qV, qW, qX, qY, qZ, w6, w7, wa, wb, wc, wd, we, wg, wh, wj, wl, wm, wn, wo, wp, wq, wr, wt, wu, wv, ww, wx, wy, wz, wA, wB, wC, wD, wE, wF, wG, wH, wI, wJ, wK, wM, wN, wO, wQ, wS, wT, wU, wV, wW, wX, wY, wZ, xa, xb, xc, xf, xg, xh, xi, xj, xk, xl, xm, xn, xo, xq, xr, xt, xu, xv, xw, xx, xy, xz, xA, xB, xC, xE, xG, xH, xI, xJ, xK, xL, xM, xN, xO, xP, xQ, xR, xS, xT, xU, xV, xW, List.map_cons, List.map_nil, List.length_cons, List.length_nil, List.cons_append, List.nil_append, List.set_cons_zero, List.set_cons_succ, List.getElem?_cons_zero, List.getElem?_cons_succ, Option.bind_some, Option.map_some, List.replicate_succ, xX, xY, xZ, y0, y1, y2, ya, yb, yc, yd, ye, yf, yg, yh, yi, yj, yk, ym, Nat.reduceSub, Nat.reduceAdd, if_true, if_false, decide_eq_true_eq, pIsi_def, isi_t, k_tt, fLen3, n33, ew, at_0, at_1, at_2, hv, isi_sS, fIn_bal, ha, fEq_s, decide_true, Bool.true_xor, Bool.xor_true, Bool.false_eq_true, ↓reduceIte, Bool.not_true, Bool.not_false]
                  · rw [decide_eq_true ha, decide_eq_true hb, decide_eq_false hab, if_pos (by rfl)]
                    have p1 := put_dK (F := balD ns u) (t := a) (v := .int (u a + v)) (by rw [bal_len]; omega)
                    rw [put_bal ha] at p1
                    have p2' := put_dK (F := balD ns (addB u a (u a + v))) (t := b) (v := .int (addB u a (u a + v) b - v)) (by rw [bal_len]; omega)
                    rw [put_bal hb] at p2'
                    have v1 := valD_bal (f := u) ha
                    have v2 := valD_bal (f := addB u a (u a + v)) hb
                    unfold lsE
                    simp only [q0, q4, q6, q7, q8, q9, qf, qj, qm, qn, qp, qu, qw, qx, qy, qz, qA, qB, qC, qD, qE, qF, qG, qH, qI, qJ, qK, qL, qM, qN, qO, qP, qQ, qR, qS, qT, qU, qV, qW, qX, qY, qZ, w6, w7, wa, wb, wc, wd, we, wg, wh, wj, wl, wm, wn, wo, wp, wq, wr, wt, wu, wv, ww, wx, wy, wz, wA, wB, wC, wD, wE, wF, wG, wH, wI, wJ, wK, wM, wN, wO, wQ, wS, wT, wU, wV, wW, wX, wY, wZ, xa, xb, xc, xf, xg, xh, xi, xj, xk, xl, xm, xn, xo, xq, xr, xt, xu, xv, xw, xx, xy, xz, xA, xB, xC, xE, xG, xH, xI, xJ, xK, xL, xM, xN, xO, xP, xQ, xR, xS, xT, xU, xV, xW, List.map_cons, List.map_nil, List.length_cons, List.length_nil, List.cons_append, List.nil_append, List.set_cons_zero, List.set_cons_succ, List.getElem?_cons_zero, List.getElem?_cons_succ, Option.bind_some, Option.map_some, List.replicate_succ, xX, xY, xZ, y0, y1, y2, ya, yb, yc, yd, ye, yf, yg, yh, yi, yj, yk, ym, Nat.reduceSub, Nat.reduceAdd, if_true, if_false, decide_eq_true_eq, pIsi_def, isi_t, k_tt, fLen3, n33, ew, at_0, at_1, at_2, hv, isi_sS, fIn_bal, ha, hb, hab, fEq_s, decide_true, decide_false, Bool.true_xor, Bool.xor_true, Bool.false_eq_true, ↓reduceIte, Bool.not_true, Bool.not_false, fIx_dK, v1, v2, p1, p2']
                    rfl
                · rw [decide_eq_true ha, decide_eq_false hb, if_neg (by simp)]
                  unfold lsE
                  simp only [q0, q4, q6, q7, q8, q9, qf, qj, qm, qn, qp, qu, qw, qx, qy, qz, qA, qB, qC, qD, qE, qF, qG, qH, qI, qJ, qK, qL, qM, qN, qO, qP, qQ, qR, qS, qT, qU, qV, qW, qX, qY, qZ, w6, w7, wa, wb, wc, wd, we, wg, wh, wj, wl, wm, wn, wo, wp, wq, wr, wt, wu, wv, ww, wx, wy, wz, wA, wB, wC, wD, wE, wF, wG, wH, wI, wJ, wK, wM, wN, wO, wQ, wS, wT, wU, wV, wW, wX, wY, wZ, xa, xb, xc, xf, xg, xh, xi, xj, xk, xl, xm, xn, xo, xq, xr, xt, xu, xv, xw, xx, xy, xz, xA, xB, xC, xE, xG, xH, xI, xJ, xK, xL, xM, xN, xO, xP, xQ, xR, xS, xT, xU, xV, xW, List.map_cons, List.map_nil, List.length_cons, List.length_nil, List.cons_append, List.nil_append, List.set_cons_zero, List.set_cons_succ, List.getElem?_cons_zero, List.getElem?_cons_succ, Option.bind_some, Option.map_some, List.replicate_succ, xX, xY, xZ, y0, y1, y2, ya, yb, yc, yd, ye, yf, yg, yh, yi, yj, yk, ym, Nat.reduceSub, Nat.reduceAdd, if_true, if_false, decide_eq_true_eq, pIsi_def, isi_t, k_tt, fLen3, n33, ew, at_0, at_1, at_2, hv, isi_sS, fIn_bal, ha, hb, decide_true, decide_false, Bool.true_xor, Bool.xor_true, Bool.false_eq_true, ↓reduceIte, Bool.not_true, Bool.not_false]
              · rw [decide_eq_false ha, if_neg (by simp)]
                unfold lsE
                simp only [q0, q4, q6, q7, q8, q9, qf, qj, qm, qn, qp, qu, qw, qx, qy, qz, qA, qB, qC, qD, qE, qF, qG, qH, qI, qJ, qK, qL, qM, qN, qO, qP, qQ, qR, qS, qT, qU, qV, qW, qX, qY, qZ, w6, w7, wa, wb, wc, wd, we, wg, wh, wj, wl, wm, wn, wo, wp, wq, wr, wt, wu, wv, ww, wx, wy, wz, wA, wB, wC, wD, wE, wF, wG, wH, wI, wJ, wK, wM, wN, wO, wQ, wS, wT, wU, wV, wW, wX, wY, wZ, xa, xb, xc, xf, xg, xh, xi, xj, xk, xl, xm, xn, xo, xq, xr, xt, xu, xv, xw, xx, xy, xz, xA, xB, xC, xE, xG, xH, xI, xJ, xK, xL, xM, xN, xO, xP, xQ, xR, xS, xT, xU, xV, xW, List.map_cons, List.map_nil, List.length_cons, List.length_nil, List.cons_append, List.nil_append, List.set_cons_zero, List.set_cons_succ, List.getElem?_cons_zero, List.getElem?_cons_succ, Option.bind_some, Option.map_some, List.replicate_succ, xX, xY, xZ, y0, y1, y2, ya, yb, yc, yd, ye, yf, yg, yh, yi, yj, yk, ym, Nat.reduceSub, Nat.reduceAdd, if_true, if_false, decide_eq_true_eq, pIsi_def, isi_t, k_tt, fLen3, n33, ew, at_0, at_1, at_2, hv, isi_sS, fIn_bal, ha, decide_true, decide_false, Bool.true_xor, Bool.xor_true, Bool.false_eq_true, ↓reduceIte, Bool.not_true, Bool.not_false]
    · rw [if_neg (by rw [payB_len h3]; exact Bool.false_ne_true)]
      unfold lsE
      simp only [q0, q4, q6, q7, q8, q9, qf, qj, qm, qn, qp, qu, qw, qx, qy, qz, qA, qB, qC, qD, qE, qF, qG, qH, qI, qJ, qK, qL, qM, qN, qO, qP, qQ, qR, qS, qT, qU, qV, qW, qX, qY, qZ, w6, w7, wa, wb, wc, wd, we, wg, wh, wj, wl, wm, wn, wo, wp, wq, wr, wt, wu, wv, ww, wx, wy, wz, wA, wB, wC, wD, wE, wF, wG, wH, wI, wJ, wK, wM, wN, wO, wQ, wS, wT, wU, wV, wW, wX, wY, wZ, xa, xb, xc, xf, xg, xh, xi, xj, xk, xl, xm, xn, xo, xq, xr, xt, xu, xv, xw, xx, xy, xz, xA, xB, xC, xE, xG, xH, xI, xJ, xK, xL, xM, xN, xO, xP, xQ, xR, xS, xT, xU, xV, xW, List.map_cons, List.map_nil, List.length_cons, List.length_nil, List.cons_append, List.nil_append, List.set_cons_zero, List.set_cons_succ, List.getElem?_cons_zero, List.getElem?_cons_succ, Option.bind_some, Option.map_some, List.replicate_succ, xX, xY, xZ, y0, y1, y2, ya, yb, yc, yd, ye, yf, yg, yh, yi, yj, yk, ym, Nat.reduceSub, Nat.reduceAdd, if_true, if_false, decide_eq_true_eq, pIsi_def, isi_t, k_tt, fLen_t5, fNe_i, h3, decide_false, Bool.false_eq_true, ↓reduceIte, Bool.not_true, Bool.not_false]
  | dict _ => exfalso; revert h; cases n <;> exact id
  | _ => rfl
theorem loop_ls {ds : List PD} {d : PD} {x4 : Option SV} (hl : ns.length ≤ 1000) : ∀ (xs : List PD) (u : Str → Int) (x3 : Option SV), (∀ x ∈ xs, Gd L n x) → if xs.all (payB ns wL) = true then ∃ y3, loopFor (bName 3) l1_law_settles xs (lsE ds d ns u x3 x4) = .ok (.nx, lsE ds d ns (appR u (xs.map payOf)) y3 x4) else ∃ ρ', loopFor (bName 3) l1_law_settles xs (lsE ds d ns u x3 x4) = .ok (.rt (rB false), ρ')
  | [], u, x3, _ => by
    rw [if_pos (show [].all (payB ns wL) = true from rfl)]
    exact ⟨x3, rfl⟩
  | x :: xs, u, x3, h => by
    have e := l1_ls (ds := ds) (d := d) (u := u) (x4 := x4) hl (h x List.mem_cons_self)
    cases hp : payB ns wL x with
    | true =>
      rw [hp, if_pos rfl] at e
      have ih := loop_ls (ds := ds) (d := d) (x4 := x4) hl xs (app1 u (payOf x)) (some (fz x)) fun y hy => h y (List.mem_cons_of_mem _ hy)
      rw [List.all_cons, hp, Bool.true_and, lf_cons (ρ1 := lsE ds d ns u (some (fz x)) x4) rfl e]
      exact ih
    | false =>
      rw [hp, if_neg Bool.false_ne_true] at e
      rw [List.all_cons, hp, Bool.false_and, if_neg Bool.false_ne_true]
      refine ⟨lsE ds d ns u (some (fz x)) x4, ?_⟩
      unfold loopFor
      show (match l1_law_settles (lsE ds d ns u (some (fz x)) x4) with | .ok (.nx, ρ') => _ | .ok (.ct, ρ') => _ | .ok (.bk, ρ') => _ | o => o) = _
      rw [e]
theorem c2ls {ds : List PD} {d : PD} {u : Str → Int} {x3 x4 : Option SV} (hl : ns.length ≤ 1000) : c2_law_settles (lsE ds d ns u x3 x4) = some (rL ((ns.filter fun s => decide (u s ≠ 0)).map PyData.str)) := by
  have big : 200000 < sizeLine := by decide
  unfold c2_law_settles
  show pComp [4] (itLk 2) (bName 4) (tB (p2 fNe (pIxL 2 (pVal (pVar 4))) (pK (.int 0)))) (pVal (pVar 4)) [some (.pt ds), some (fz d), some (.lk (.dK (balD ns u))), x3, x4] = _
  have e : itLk 2 [some (.pt ds), some (fz d), some (.lk (.dK (balD ns u))), x3, x4] = some (ns.map PyData.str) := by
    show some ((balD ns u).map fun kv => kPD kv.1) = _
    unfold balD
    rw [List.map_map]; rfl
  rw [pComp_def, e, Option.bind_some, if_pos (by rw [List.length_map]; omega)]
  rw [loopP_ok (enc := PyData.str) (tt := fun s => decide (u s ≠ 0)) (gg := PyData.str) ns fun s hs => ⟨[some (.pt ds), some (fz d), some (.lk (.dK (balD ns u))), x3, some (fzS s)], rfl, ?_, fun _ => rfl⟩]
  · rfl
  · have hix : pIxL 2 (pVal (pVar 4)) [some (.pt ds), some (fz d), some (.lk (.dK (balD ns u))), x3, some (fzS s)] = some (rInt (u s)) := by
      show (((S1.dK (balD ns u)).look (.str s)).bind fun o => o.map rD) = _
      rw [look_dK, valD_bal hs]; rfl
    rw [qP, qG, hix]
    simp only [q0, q4, q6, q7, q8, q9, qf, qj, qm, qn, qp, qu, qw, qx, qy, qz, qA, qB, qC, qD, qE, qF, qG, qH, qI, qJ, qK, qL, qM, qN, qO, qP, qQ, qR, qS, qT, qU, qV, qW, qX, qY, qZ, w6, w7, wa, wb, wc, wd, we, wg, wh, wj, wl, wm, wn, wo, wp, wq, wr, wt, wu, wv, ww, wx, wy, wz, wA, wB, wC, wD, wE, wF, wG, wH, wI, wJ, wK, wM, wN, wO, wQ, wS, wT, wU, wV, wW, wX, wY, wZ, xa, xb, xc, xf, xg, xh, xi, xj, xk, xl, xm, xn, xo, xq, xr, xt, xu, xv, xw, xx, xy, xz, xA, xB, xC, xE, xG, xH, xI, xJ, xK, xL, xM, xN, xO, xP, xQ, xR, xS, xT, xU, xV, xW, List.map_cons, List.map_nil, List.length_cons, List.length_nil, List.cons_append, List.nil_append, List.set_cons_zero, List.set_cons_succ, List.getElem?_cons_zero, List.getElem?_cons_succ, Option.bind_some, Option.map_some, List.replicate_succ, xX, xY, xZ, y0, y1, y2, ya, yb, yc, yd, ye, yf, yg, yh, yi, yj, yk, ym, Nat.reduceSub, Nat.reduceAdd, if_true, if_false, decide_eq_true_eq, fNe_i]
    by_cases z : u s = 0 <;> simp [z]
theorem ls_end {l1 : Env → Out (Fl × Env)} {c2 : Env → Option Res} {ds xs : List PD} {o : Out (Fl × Env)} {b : Bool} (h1 : pDictP (pVarP 0) [some (.pt ds), some (fz (.list xs)), none, none, none] = some (.new (.one (.dK (balD ns f)))))
    (h2 : loopFor (bName 3) l1 xs (lsE ds (.list xs) ns f none none) = o) (h3 : (∃ ρ', o = .ok (.rt (rB b), ρ')) ∨ ∃ ρ', o = .ok (.nx, ρ') ∧ p2 fEq c2 (pLst vsNil) ρ' = some (rB b)) :
    ∃ outs, runF [] 5 (mSeq (mSet 2 (gPx (pDictP (pVarP 0)))) (mSeq (mIf (gT (tNot (tB (pIsi "list" (pVar 1))))) (mRet (gPx (pK (.bool false)))) mNop) (mSeq (mFor (iSq (gPV (pVal (pVar 1)))) (bName 3) l1) (mRet (gPx (p2 fEq c2 (pLst vsNil))))))) [.pt ds, fz (.list xs)] = .ok (rB b, outs) := by
  have il : fIsi "list" (.frz (.list xs)) = some (rB true) := rfl
  unfold lsE at h2
  rw [xi]
  simp only [wJ, wM, we, List.map_cons, List.map_nil, List.length_cons, List.length_nil, Nat.zero_add, Nat.reduceAdd, Nat.reduceSub, List.replicate_succ, xX, List.cons_append, List.nil_append, h1, wd, q4, wI, q0, List.set_cons_succ, List.set_cons_zero, q8]
  rw [wS, show (gT (tNot (tB (pIsi "list" (pVar 1))))) [some (.pt ds), some (fz (.list xs)), some (.one (.dK (balD ns f))), none, none] = .ok (false, [some (.pt ds), some (fz (.list xs)), some (.one (.dK (balD ns f))), none, none]) from rfl, q4, if_neg (by simp), wK, q8]
  dsimp only
  rw [wJ, wU, show iSq (gPV (pVal (pVar 1))) [some (.pt ds), some (fz (.list xs)), some (.one (.dK (balD ns f))), none, none] = .ok (xs, [some (.pt ds), some (fz (.list xs)), some (.one (.dK (balD ns f))), none, none]) from rfl, q4]
  dsimp only
  rw [h2]
  rcases h3 with ⟨ρ', rfl⟩ | ⟨ρ', rfl, e⟩
  · exact ⟨_, rfl⟩
  · refine ⟨outsOf [] [.pt ds, fz (.list xs)] ρ', ?_⟩
    rw [q8, wO, we, e, wc, q4, xj]
theorem ls_no {d : PD} (hn : ns.Nodup) (h : fIsi "list" (.frz d) = some (rB false)) : ∃ outs, φ_law_settles [.pt (accsD ns f), fz d] = .ok (rB false, outs) := by
  refine ⟨outsOf [] [.pt (accsD ns f), fz d] (lsE (accsD ns f) d ns f none none), ?_⟩
  unfold φ_law_settles m_law_settles lsE
  rw [xi]
  simp only [wJ, wM, we, List.map_cons, List.map_nil, List.length_cons, List.length_nil, Nat.zero_add, Nat.reduceAdd, Nat.reduceSub, List.replicate_succ, xX, List.cons_append, List.nil_append, dictP_ok (p := pVarP 0) (f := f) hn pVarP_0, wd, q4, wI, q0, List.set_cons_succ, List.set_cons_zero, q8]
  simp only [q0, q4, q6, q7, q8, q9, qf, qj, qm, qn, qp, qu, qw, qx, qy, qz, qA, qB, qC, qD, qE, qF, qG, qH, qI, qJ, qK, qL, qM, qN, qO, qP, qQ, qR, qS, qT, qU, qV, qW, qX, qY, qZ, w6, w7, wa, wb, wc, wd, we, wg, wh, wj, wl, wm, wn, wo, wp, wq, wr, wt, wu, wv, ww, wx, wy, wz, wA, wB, wC, wD, wE, wF, wG, wH, wI, wJ, wK, wM, wN, wO, wQ, wS, wT, wU, wV, wW, wX, wY, wZ, xa, xb, xc, xf, xg, xh, xi, xj, xk, xl, xm, xn, xo, xq, xr, xt, xu, xv, xw, xx, xy, xz, xA, xB, xC, xE, xG, xH, xI, xJ, xK, xL, xM, xN, xO, xP, xQ, xR, xS, xT, xU, xV, xW, List.map_cons, List.map_nil, List.length_cons, List.length_nil, List.cons_append, List.nil_append, List.set_cons_zero, List.set_cons_succ, List.getElem?_cons_zero, List.getElem?_cons_succ, Option.bind_some, Option.map_some, List.replicate_succ, xX, xY, xZ, y0, y1, y2, ya, yb, yc, yd, ye, yf, yg, yh, yi, yj, yk, ym, Nat.reduceSub, Nat.reduceAdd, if_true, if_false, decide_eq_true_eq, pIsi_def, h, Bool.not_false, ↓reduceIte]
theorem zero_filter {u : Str → Int} : (ns.filter fun s => decide (u s ≠ 0)).isEmpty = zeroB ns u := by
  unfold zeroB
  induction ns with
  | nil => rfl
  | cons x l ih =>
    by_cases z : u x = 0
    · rw [List.filter_cons_of_neg (by simp [z]), List.all_cons, decide_eq_true z, Bool.true_and]; exact ih
    · rw [List.filter_cons_of_pos (by simp [z]), List.all_cons, decide_eq_false z, Bool.false_and]; rfl
theorem law_settles_ok {d : PD} (hn : ns.Nodup) (hl : ns.length ≤ 1000) (h : Gd L n d) : ∃ outs, φ_law_settles [.pt (accsD ns f), fz d] = .ok (rB (setB ns f wL d), outs) := by
  have big : 200000 < sizeLine := by decide
  cases d with
  | list xs =>
    obtain ⟨m, hel⟩ : ∃ m, ∀ x ∈ xs, Gd L m x := by cases n with
      | zero => exact absurd h id
      | succ m => exact ⟨m, h.2⟩
    have lp := loop_ls (ds := accsD ns f) (d := .list xs) (x4 := none) hl xs f none hel
    refine ls_end (dictP_ok hn rfl) rfl ?_
    by_cases ha : xs.all (payB ns wL) = true
    · rw [if_pos ha] at lp
      obtain ⟨y3, e⟩ := lp
      refine .inr ⟨_, e, ?_⟩
      have c2 := c2ls (ds := accsD ns f) (d := .list xs) (u := appR f (xs.map payOf)) (x3 := y3) (x4 := none) hl
      have fe := fEq_nil (xs := (ns.filter fun s => decide (appR f (xs.map payOf) s ≠ 0)).map PyData.str) (plain_strs _)
      rw [qG, c2]
      show fEq (.lst _) (.lst []) = _
      rw [fe]
      rw [List.isEmpty_map, zero_filter]
      show some (rB (zeroB ns (appR f (xs.map payOf)))) = some (rB (xs.all (payB ns wL) && zeroB ns (appR f (xs.map payOf))))
      rw [ha, Bool.true_and]
    · rw [if_neg ha] at lp
      obtain ⟨ρ', e⟩ := lp
      refine .inl ⟨ρ', ?_⟩
      rw [e]
      have : setB ns f wL (.list xs) = false := by
        show (xs.all (payB ns wL) && _) = false
        rw [Bool.eq_false_iff.mpr ha, Bool.false_and]
      rw [this]
  | dict _ => exfalso; revert h; cases n <;> exact id
  | _ => exact ls_no hn rfl
theorem glset {p : Env → Option Res} {v : Env → Out (PD × Env)} {ρ : Env} {d : PD} (hp : p ρ = some (rP (accsD ns f))) (hv : v ρ = .ok (d, ρ)) (hn : ns.Nodup) (hl : ns.length ≤ 1000) (hd : Gd L n d) : gCall φ_law_settles (aPt p (aVal v aNil)) ρ = .ok (rB (setB ns f wL d), ρ) := by
  obtain ⟨outs, e⟩ := law_settles_ok (f := f) hn hl hd
  have ea : aPt p (aVal v aNil) ρ = .ok ([.pt (accsD ns f), .val d], ρ) := by
    unfold aPt
    rw [hp]
    show (aVal v aNil ρ).bind _ = _
    rw [wu, hv]; rfl
  rw [xl, ea, q4]
  show (oB (some [SV.pt (accsD ns f), fz d]) fun as => if (slotsOf [AR.pt (accsD ns f), AR.val d]).Nodup then callK [AR.pt (accsD ns f), AR.val d] ρ (φ_law_settles as) else .stuck) = _
  rw [q0, if_pos (show (slotsOf [AR.pt (accsD ns f), AR.val d]).Nodup from List.nodup_nil), e, xm, put_none fun i => rfl]
end
end Mm
namespace Mm
open PySem PySem.Spec L2
set_option autoImplicit false
theorem fun_of : ∀ (ns : List Str) (vs : List Int), ns.Nodup → vs.length = ns.length → ∃ f : Str → Int, ns.map f = vs
  | [], [], _, _ => ⟨fun _ => 0, rfl⟩
  | [], _ :: _, _, h => absurd h (by simp)
  | _ :: _, [], _, h => absurd h (by simp)
  | x :: ns, v :: vs, hn, h => by
    obtain ⟨f, hf⟩ := fun_of ns vs (List.nodup_cons.mp hn).2 (by simpa using h)
    refine ⟨addB f x v, ?_⟩
    rw [List.map_cons]
    congr 1
    · unfold addB; rw [if_pos rfl]
    · rw [← hf]
      refine List.map_congr_left fun s hs => ?_
      unfold addB
      rw [if_neg fun e => (List.nodup_cons.mp hn).1 (by rw [← e]; exact hs)]
theorem zip_accs {f : Str → Int} : ∀ ns : List Str, zipD (ns.map PyData.str) ((ns.map f).map PyData.int) = accsD ns f
  | [] => rfl
  | x :: ns => by
    have ih := zip_accs (f := f) ns
    unfold zipD at ih ⊢
    rw [List.map_cons, List.map_cons, List.map_cons, List.zipWith_cons_cons, ih]; rfl
theorem set_last {α : Type} {w : α} : ∀ l : List α, l ≠ [] → l.set (l.length - 1) w = l.dropLast ++ [w]
  | [], h => absurd rfl h
  | [x], _ => rfl
  | x :: y :: l, _ => by
    have ih := set_last (w := w) (y :: l) (by simp)
    rw [List.dropLast_cons_cons, List.cons_append, ← ih]
    rfl
theorem sum_bound {B : Int} (hB : 0 ≤ B) : ∀ l : List Int, (∀ x ∈ l, -B ≤ x ∧ x ≤ B) → -(B * l.length) ≤ l.sum ∧ l.sum ≤ B * l.length
  | [], _ => by simp
  | x :: l, h => by
    obtain ⟨h1, h2⟩ := sum_bound hB l fun y hy => h y (List.mem_cons_of_mem _ hy)
    have hx := h x List.mem_cons_self
    rw [List.sum_cons, List.length_cons, Int.natCast_add, Int.mul_add]
    simp only [Int.natCast_one, Int.mul_one]
    omega
theorem ix6 {a b c d e g : PD} {r : Int} (h0 : 0 ≤ r) (h1 : r < 6) : ∃ z, atI [a, b, c, d, e, g] r = some z ∧ (z = a ∨ z = b ∨ z = c ∨ z = d ∨ z = e ∨ z = g) := by
  obtain ⟨z, hz, q⟩ := ixs (ds := [a, b, c, d, e, g]) h0 (by simp only [List.length_cons, List.length_nil]; omega)
  exact ⟨z, q, by simpa using hz⟩
/-- one amount -/
def amtE : Env → Out (PD × Env) := (vGx (g2 fIx (vGx (gLst (aVal (gPV (pVal (pK (.int 0)))) (aVal (gPV (pVal (pK (.int 1)))) (aVal (gPV (pVal (p1 fNeg (pK (.int 1))))) (aVal (gPV (pVal (pK (.int 2)))) (aVal (gPV (pVal (p1 fNeg (pK (.int 2))))) (aVal (vGx (g2 fSub (vGx (gCall φ_law_draw (aSlot 0 (aVal (gPV (pVal (pK (.int 40)))) aNil)))) (gPV (pVal (pK (.int 20)))))) aNil)))))))) (vGx (gCall φ_law_draw (aSlot 0 (aVal (gPV (pVal (pK (.int 6)))) aNil))))))
theorem amt_ok {s : SV} {ρ : Env} (t : Tp s) : ∃ v s', amtE (some s :: ρ) = .ok (.int v, some s' :: ρ) ∧ Tp s' ∧ -20 ≤ v ∧ v ≤ 20 := by
  obtain ⟨r1, s1, e1, a0, a1, t1⟩ := draw_ok t (m := 40) (by decide) (by decide)
  obtain ⟨r2, s2, e2, b0, b1, t2⟩ := draw_ok t1 (m := 6) (by decide) (by decide)
  obtain ⟨e, e3, e4⟩ := ix6 (a := .int 0) (b := .int 1) (c := .int (-1)) (d := .int 2) (e := .int (-2)) (g := .int (r1 - 20)) b0 b1
  obtain ⟨w, rfl, h1, h2⟩ : ∃ w, e = .int w ∧ -20 ≤ w ∧ w ≤ 20 := by
    rcases e4 with e | e | e | e | e | e <;> exact ⟨_, e, by omega, by omega⟩
  refine ⟨w, s2, ?_, t2, h1, h2⟩
  unfold amtE
  simp only [q0, q4, q6, q7, q8, q9, qf, qj, qm, qn, qp, qu, qw, qx, qy, qz, qA, qB, qC, qD, qE, qF, qG, qH, qI, qJ, qK, qL, qM, qN, qO, qP, qQ, qR, qS, qT, qU, qV, qW, qX, qY, qZ, w6, w7, wa, wb, wc, wd, we, wg, wh, wj, wl, wm, wn, wo, wp, wq, wr, wt, wu, wv, ww, wx, wy, wz, wA, wB, wC, wD, wE, wF, wG, wH, wI, wJ, wK, wM, wN, wO, wQ, wS, wT, wU, wV, wW, wX, wY, wZ, xa, xb, xc, xf, xg, xh, xi, xj, xk, xl, xm, xn, xo, xq, xr, xt, xu, xv, xw, xx, xy, xz, xA, xB, xC, xE, xG, xH, xI, xJ, xK, xL, xM, xN, xO, xP, xQ, xR, xS, xT, xU, xV, xW, List.map_cons, List.map_nil, List.length_cons, List.length_nil, List.cons_append, List.nil_append, List.set_cons_zero, List.set_cons_succ, List.getElem?_cons_zero, List.getElem?_cons_succ, Option.bind_some, Option.map_some, List.replicate_succ, xX, xY, xZ, y0, y1, y2, ya, yb, yc, yd, ye, yf, yg, yh, yi, yj, yk, ym, Nat.reduceSub, Nat.reduceAdd, if_true, if_false, decide_eq_true_eq, e1, e2, e3]
theorem accounts_ok {s : SV} (t : Tp s) {m : Int} (h0 : 0 < m) (h1 : m ≤ 8) : ∃ (ns : List Str) (f : Str → Int) (s' : SV), φ_law_accounts [s, fzI m] = .ok (rP (accsD ns f), [some s', some (fzI m)]) ∧ Tp s' ∧ ns.Nodup ∧ (ns.length : Int) ≤ m ∧ 0 < ns.length ∧ tot f ns = 0 ∧ (∀ x ∈ ns, -200 ≤ f x ∧ f x ≤ 200) ∧ ∀ x ∈ ns, x.length ≤ 8 := by
  have big : 200000 < sizeLine := by decide
  obtain ⟨r, s1, e1, a0, a1, t1⟩ := draw_ok t (m := m) h0 (log2_small (by omega) (by
    have : (8 : Int) < 2 ^ 9000 := by
      have h3 : (8 : Int) = 2 ^ 3 := by decide
      rw [h3]
      exact_mod_cast (Nat.pow_lt_pow_right (by omega) (by omega) : 2 ^ 3 < 2 ^ 9000)
    omega))
  obtain ⟨ns, s2, e2, t2, nd, hl, hp, h8⟩ := names_ok t1 (n := 1 + r) (by omega) (by omega)
  have hpos : 0 < ns.length := hp (by omega)
  have hlen : (ns.length : Int) ≤ m := by omega
  -- the amounts
  obtain ⟨ds, ρ', k1, k2, ⟨s3, x4, rfl, t3⟩⟩ := loopC_all (vs := [4]) (b := bName 4) (g := amtE) (fun ρ => ∃ s3 x4, ρ = [some s3, some (fzI m), some (fz (.list (ns.map PyData.str))), none, x4, none] ∧ Tp s3) (fun _ d => ∃ v, d = .int v ∧ -20 ≤ v ∧ v ≤ 20) (ns.map PyData.str) [] (by rw [List.length_nil, List.length_map]; omega)
    (fun x _ ρ ⟨s3, x4, e, t3⟩ => by
      subst e
      obtain ⟨v, s4, e4, t4, b1, b2⟩ := amt_ok (ρ := [some (fzI m), some (fz (.list (ns.map PyData.str))), none, some (fz x), none]) t3
      exact ⟨[some s3, some (fzI m), some (fz (.list (ns.map PyData.str))), none, some (fz x), none], .int v, [some s4, some (fzI m), some (fz (.list (ns.map PyData.str))), none, some (fz x), none], rfl, e4, ⟨v, rfl, b1, b2⟩, ⟨s4, _, rfl, t4⟩⟩) [some s2, some (fzI m), some (fz (.list (ns.map PyData.str))), none, none, none] ⟨s2, none, rfl, t2⟩
  obtain ⟨cs, rfl, q⟩ := All2.lift (f := PyData.int) (Q := fun _ v => -20 ≤ v ∧ v ≤ 20) (fun a b ⟨v, e, h⟩ => ⟨v, e, h⟩) k2
  have hcl : cs.length = ns.length := by rw [← q.length, List.length_map]
  have hcb : ∀ v ∈ cs, -20 ≤ v ∧ v ≤ 20 := fun v hv => by
    obtain ⟨a, _, h⟩ := q.right v hv
    exact h
  have hc : c1_law_accounts [some s2, some (fzI m), some (fz (.list (ns.map PyData.str))), none, none, none] = .ok (rL (cs.map PyData.int), [some s3, some (fzI m), some (fz (.list (ns.map PyData.str))), none, none, none]) := by
    unfold c1_law_accounts
    show gComp [4] (iSq (gPV (pVal (pVar 2)))) (bName 4) tTrue amtE _ = _
    rw [gComp_def, show iSq (gPV (pVal (pVar 2))) [some s2, some (fzI m), some (fz (.list (ns.map PyData.str))), none, none, none] = .ok (ns.map PyData.str, [some s2, some (fzI m), some (fz (.list (ns.map PyData.str))), none, none, none]) from rfl, q4]
    dsimp only
    rw [k1]
    rfl
  have hne : cs ≠ [] := fun e => by rw [e] at hcl; simp at hcl; omega
  let w : Int := 0 - cs.dropLast.sum
  obtain ⟨f, hf⟩ := fun_of ns (cs.dropLast ++ [w]) nd (by rw [List.length_append, List.length_dropLast, List.length_singleton, hcl]; omega)
  have hw : w = 0 - cs.dropLast.sum := rfl
  clear_value w
  have hdl : (cs.dropLast.length : Int) ≤ 7 := by rw [List.length_dropLast]; omega
  have sb := sum_bound (B := 20) (by omega) cs.dropLast fun x hx => hcb x (List.dropLast_subset _ hx)
  refine ⟨ns, f, s3, ?_, t3, nd, hlen, hpos, ?_, fun x hx => ?_, h8⟩
  · have hi : ∀ ρ, pInt (p1 fNeg (pK (.int 1))) ρ = some (some (-1)) := fun _ => rfl
    have hcut : fCut (.lst (cs.map PyData.int)) none (some (-1)) = some (rL (cs.dropLast.map PyData.int)) := by
      show some (rL (cutD (cs.map PyData.int) none (some (-1)))) = _
      rw [cutD_last, List.map_dropLast]
    have fs : fSum (.lst (cs.dropLast.map PyData.int)) = some (rInt cs.dropLast.sum) := by
      have := fSum_map (fun x : Int => x) cs.dropLast
      rw [List.map_id'] at this
      exact this
    have hput : (S1.lst (cs.map PyData.int)).put (.int (-1)) (.int w) = some (.lst ((ns.map f).map PyData.int)) := by
      show (ixN (cs.map PyData.int).length (-1)).map _ = _
      have : ixN (cs.map PyData.int).length (-1) = some ((cs.map PyData.int).length - 1) := by
        have hcpos : 0 < cs.length := by omega
        unfold ixN
        rw [if_neg (by omega), if_pos (by rw [List.length_map]; omega)]
        congr 1
        rw [List.length_map]
        omega
      rw [this, Option.map_some, set_last _ (fun e => hne (List.map_eq_nil_iff.mp e)), hf, List.map_append, List.map_dropLast]; rfl
    have hc2 : c2_law_accounts [some s3, some (fzI m), some (fz (.list (ns.map PyData.str))), some (.one (.lst ((ns.map f).map PyData.int))), none, none] = some (rL (accsD ns f)) := by
      unfold c2_law_accounts
      have ez : iZ (psCons (pVar 2) (psCons (pVar 3) psNil)) [some s3, some (fzI m), some (fz (.list (ns.map PyData.str))), some (.one (.lst ((ns.map f).map PyData.int))), none, none] = some (accsD ns f) := by
        rw [← zip_accs]; rfl
      rw [pComp_def, ez, Option.bind_some, if_pos (by rw [accs_len]; omega)]
      unfold accsD
      rw [loopP_ok (enc := fun s => .tuple [.str s, .int (f s)]) (tt := fun _ => true) (gg := fun s => .tuple [.str s, .int (f s)]) ns fun y hy => ⟨[some s3, some (fzI m), some (fz (.list (ns.map PyData.str))), some (.one (.lst ((ns.map f).map PyData.int))), some (fzS y), some (fzI (f y))], rfl, rfl, fun _ => by simp only [q0, q4, q6, q7, q8, q9, qf, qj, qm, qn, qp, qu, qw, qx, qy, qz, qA, qB, qC, qD, qE, qF, qG, qH, qI, qJ, qK, qL, qM, qN, qO, qP, qQ, qR, qS, qT, qU, qV, qW, qX, qY, qZ, w6, w7, wa, wb, wc, wd, we, wg, wh, wj, wl, wm, wn, wo, wp, wq, wr, wt, wu, wv, ww, wx, wy, wz, wA, wB, wC, wD, wE, wF, wG, wH, wI, wJ, wK, wM, wN, wO, wQ, wS, wT, wU, wV, wW, wX, wY, wZ, xa, xb, xc, xf, xg, xh, xi, xj, xk, xl, xm, xn, xo, xq, xr, xt, xu, xv, xw, xx, xy, xz, xA, xB, xC, xE, xG, xH, xI, xJ, xK, xL, xM, xN, xO, xP, xQ, xR, xS, xT, xU, xV, xW, List.map_cons, List.map_nil, List.length_cons, List.length_nil, List.cons_append, List.nil_append, List.set_cons_zero, List.set_cons_succ, List.getElem?_cons_zero, List.getElem?_cons_succ, Option.bind_some, Option.map_some, List.replicate_succ, xX, xY, xZ, y0, y1, y2, ya, yb, yc, yd, ye, yf, yg, yh, yi, yj, yk, ym, Nat.reduceSub, Nat.reduceAdd, if_true, if_false, decide_eq_true_eq]⟩]
      rw [compD_all]; rfl
    have ft : ∀ xs, fTupleP (.lst xs) = some (rP xs) := fun _ => rfl
    unfold φ_law_accounts m_law_accounts
    rw [hw] at hput
    generalize (ns.map f).map PyData.int = FV at hput hc2
    generalize ns.map PyData.str = NM at *
    generalize cs.map PyData.int = CM at *
    generalize cs.dropLast.map PyData.int = CD at *
    generalize cs.dropLast.sum = sm at *
    generalize accsD ns f = AC at *
    simp only [q0, q4, q6, q7, q8, q9, qf, qj, qm, qn, qp, qu, qw, qx, qy, qz, qA, qB, qC, qD, qE, qF, qG, qH, qI, qJ, qK, qL, qM, qN, qO, qP, qQ, qR, qS, qT, qU, qV, qW, qX, qY, qZ, w6, w7, wa, wb, wc, wd, we, wg, wh, wj, wl, wm, wn, wo, wp, wq, wr, wt, wu, wv, ww, wx, wy, wz, wA, wB, wC, wD, wE, wF, wG, wH, wI, wJ, wK, wM, wN, wO, wQ, wS, wT, wU, wV, wW, wX, wY, wZ, xa, xb, xc, xf, xg, xh, xi, xj, xk, xl, xm, xn, xo, xq, xr, xt, xu, xv, xw, xx, xy, xz, xA, xB, xC, xE, xG, xH, xI, xJ, xK, xL, xM, xN, xO, xP, xQ, xR, xS, xT, xU, xV, xW, List.map_cons, List.map_nil, List.length_cons, List.length_nil, List.cons_append, List.nil_append, List.set_cons_zero, List.set_cons_succ, List.getElem?_cons_zero, List.getElem?_cons_succ, Option.bind_some, Option.map_some, List.replicate_succ, xX, xY, xZ, y0, y1, y2, ya, yb, yc, yd, ye, yf, yg, yh, yi, yj, yk, ym, Nat.reduceSub, Nat.reduceAdd, if_true, if_false, decide_eq_true_eq, e1, e2, hc, pCut_def, hi, hcut, fs, hput, hc2, ft, outR_tp t]
  · show (ns.map f).sum = 0
    rw [hf, List.sum_append, List.sum_cons, List.sum_nil, hw]; omega
  · have hx : f x ∈ ns.map f := List.mem_map.mpr ⟨x, hx, rfl⟩
    rw [hf] at hx
    rcases List.mem_append.mp hx with h | h
    · have := hcb _ (List.dropLast_subset _ h); omega
    · rw [List.mem_singleton.mp h]
      omega
end Mm
namespace Mm
open PySem PySem.Spec L2
set_option autoImplicit false
end Mm
namespace Mm
open PySem PySem.Spec L2
set_option autoImplicit false
def iB (L : Nat) : Int := if L < 30 then 999999998000 else 1000000000000
theorem iB_le {L L' : Nat} (h : L ≤ L') : iB L ≤ iB L' := by
  unfold iB
  split <;> split <;> omega
def Gi (L : Nat) : Nat → PD → Prop
  | _, .str x => x.length ≤ L
  | _, .int i => i ≤ iB L
  | _, .bool _ => True
  | _, .none => True
  | n + 1, .list xs => xs.length ≤ L ∧ ∀ x ∈ xs, Gi L n x
  | n + 1, .tuple xs => xs.length ≤ L ∧ ∀ x ∈ xs, Gi L n x
  | _, _ => False
theorem Gi.gd {L : Nat} : ∀ {n : Nat} {d : PD}, Gi L n d → Gd L n d := by
  intro n
  induction n with
  | zero =>
    intro d h
    cases d <;> first | exact absurd h id | trivial | exact h
  | succ n ih =>
    intro d h
    cases d with
    | list xs => exact ⟨h.1, fun x hx => ih (h.2 x hx)⟩
    | tuple xs => exact ⟨h.1, fun x hx => ih (h.2 x hx)⟩
    | str x => exact h
    | int _ => trivial
    | bool _ => trivial
    | none => trivial
    | _ => exact absurd h id
theorem Gi.mono {L L' : Nat} (hL : L ≤ L') : ∀ {n n' : Nat} {d : PD}, n ≤ n' → Gi L n d → Gi L' n' d := by
  intro n
  induction n with
  | zero =>
    intro n' d _ h
    cases d <;> first | exact absurd h id | (cases n' <;> first | trivial | exact Nat.le_trans h hL | exact Int.le_trans h (iB_le hL))
  | succ n ih =>
    intro n' d hn h
    cases n' with
    | zero => omega
    | succ n' =>
      cases d with
      | list xs => exact ⟨Nat.le_trans h.1 hL, fun x hx => ih (by omega) (h.2 x hx)⟩
      | tuple xs => exact ⟨Nat.le_trans h.1 hL, fun x hx => ih (by omega) (h.2 x hx)⟩
      | str x => exact Nat.le_trans h hL
      | int _ => exact Int.le_trans h (iB_le hL)
      | bool _ => trivial
      | none => trivial
      | _ => exact absurd h id
theorem Gi.int {L n : Nat} {i : Int} (h : i ≤ iB L) : Gi L n (.int i) := by cases n <;> exact h
theorem Gi.bool {L n : Nat} {i : Bool} : Gi L n (.bool i) := by cases n <;> trivial
theorem Gi.none {L n : Nat} : Gi L n .none := by cases n <;> trivial
theorem Gi.str {L n : Nat} {x : Str} (h : x.length ≤ L) : Gi L n (.str x) := by cases n <;> exact h
theorem Gi.lst {L n : Nat} {xs : List PD} (h : xs.length ≤ L) (h2 : ∀ x ∈ xs, Gi L n x) : Gi L (n + 1) (.list xs) := ⟨h, h2⟩
theorem Gi.tup {L n : Nat} {xs : List PD} (h : xs.length ≤ L) (h2 : ∀ x ∈ xs, Gi L n x) : Gi L (n + 1) (.tuple xs) := ⟨h, h2⟩
theorem Gi.items {L n : Nat} {d : PD} (h : Gi L n d) (hs : seqK d = true) : (itemsK d).length ≤ L ∧ ∃ m, n = m + 1 ∧ ∀ x ∈ itemsK d, Gi L m x := by
  cases n with
  | zero => cases d <;> first | exact ff_ hs | exact absurd h id
  | succ m => cases d <;> first | exact ff_ hs | exact ⟨h.1, m, rfl, h.2⟩
theorem iB30 : iB 30 = 1000000000000 := rfl
theorem someStr_okI : ∀ d ∈ someStr, Gi 30 1 d := by
  intro d hd
  simp only [someStr, List.mem_cons, List.not_mem_nil, or_false] at hd
  rcases hd with h | h | h | h | h | h | h | h | h | h | h | h | h | h | h <;> subst h <;> exact Gi.str (by decide)
theorem anyR_okI {s : SV} {a : PD} {r : Int} (h : Tp s) (h0 : 0 ≤ r) (h1 : r < 13) : ∃ d s' x3, anyR [some s, some (fz a), some (fzI r), none, none] = .ok (.rt (rD d), [some s', some (fz a), some (fzI r), x3, none]) ∧ Gi 30 1 d ∧ Tp s' := by
  unfold anyR
  by_cases h8 : r < 8
  · obtain ⟨r1, s1, e1, a0, a1, t1⟩ := draw_ok h (m := 9) (by decide) (by decide)
    obtain ⟨r2, s2, e2, b0, b1, t2⟩ := draw_ok t1 (m := 1000000000000) (by decide) log_12
    obtain ⟨d, hd, hx⟩ := ixs (ds := [.int (r1 - 2), .int r2, .int 0, .int 61]) (r := if r - 4 > 0 then r - 4 else 0) (by split <;> omega) (by split <;> (simp only [List.length_cons, List.length_nil]; omega))
    refine ⟨d, s2, none, ?_, ?_, t2⟩
    · simp only [q0, q4, q6, q7, q8, q9, qf, qj, qm, qn, qp, qu, qw, qx, qy, qz, qA, qB, qC, qD, qE, qF, qG, qH, qI, qJ, qK, qL, qM, qN, qO, qP, qQ, qR, qS, qT, qU, qV, qW, qX, qY, qZ, w6, w7, wa, wb, wc, wd, we, wg, wh, wj, wl, wm, wn, wo, wp, wq, wr, wt, wu, wv, ww, wx, wy, wz, wA, wB, wC, wD, wE, wF, wG, wH, wI, wJ, wK, wM, wN, wO, wQ, wS, wT, wU, wV, wW, wX, wY, wZ, xa, xb, xc, xf, xg, xh, xi, xj, xk, xl, xm, xn, xo, xq, xr, xt, xu, xv, xw, xx, xy, xz, xA, xB, xC, xE, xG, xH, xI, xJ, xK, xL, xM, xN, xO, xP, xQ, xR, xS, xT, xU, xV, xW, List.map_cons, List.map_nil, List.length_cons, List.length_nil, List.cons_append, List.nil_append, List.set_cons_zero, List.set_cons_succ, List.getElem?_cons_zero, List.getElem?_cons_succ, Option.bind_some, Option.map_some, List.replicate_succ, xX, xY, xZ, y0, y1, y2, ya, yb, yc, yd, ye, yf, yg, yh, yi, yj, yk, ym, Nat.reduceSub, Nat.reduceAdd, if_true, if_false, decide_eq_true_eq, h8, e1, e2, fPow_i cp_c, e10_12, fMax2_i, hx]
    · simp only [List.mem_cons, List.not_mem_nil, or_false] at hd
      rcases hd with e | e | e | e <;> rw [e] <;> exact Gi.int (by rw [iB30]; omega)
  · obtain ⟨r1, s1, e1, a0, a1, t1⟩ := draw_ok h (m := 15) (by decide) (by decide)
    obtain ⟨d, hd, hx⟩ := ixs (ds := someStr) (r := r1) a0 (by show r1 < 15; exact a1)
    obtain ⟨d2, hd2, hx2⟩ := ixs (ds := [.bool true, .bool false, .none, d, .tuple [.int 1, .int 2]]) (r := r - 8) (by omega) (by simp only [List.length_cons, List.length_nil]; omega)
    refine ⟨d2, s1, some (fz (.list someStr)), ?_, ?_, t1⟩
    · unfold someStr at hx
      simp only [q0, q4, q6, q7, q8, q9, qf, qj, qm, qn, qp, qu, qw, qx, qy, qz, qA, qB, qC, qD, qE, qF, qG, qH, qI, qJ, qK, qL, qM, qN, qO, qP, qQ, qR, qS, qT, qU, qV, qW, qX, qY, qZ, w6, w7, wa, wb, wc, wd, we, wg, wh, wj, wl, wm, wn, wo, wp, wq, wr, wt, wu, wv, ww, wx, wy, wz, wA, wB, wC, wD, wE, wF, wG, wH, wI, wJ, wK, wM, wN, wO, wQ, wS, wT, wU, wV, wW, wX, wY, wZ, xa, xb, xc, xf, xg, xh, xi, xj, xk, xl, xm, xn, xo, xq, xr, xt, xu, xv, xw, xx, xy, xz, xA, xB, xC, xE, xG, xH, xI, xJ, xK, xL, xM, xN, xO, xP, xQ, xR, xS, xT, xU, xV, xW, List.map_cons, List.map_nil, List.length_cons, List.length_nil, List.cons_append, List.nil_append, List.set_cons_zero, List.set_cons_succ, List.getElem?_cons_zero, List.getElem?_cons_succ, Option.bind_some, Option.map_some, List.replicate_succ, xX, xY, xZ, y0, y1, y2, ya, yb, yc, yd, ye, yf, yg, yh, yi, yj, yk, ym, Nat.reduceSub, Nat.reduceAdd, if_true, if_false, decide_eq_true_eq, h8, e1, hx, hx2]
      rfl
    · simp only [List.mem_cons, List.not_mem_nil, or_false] at hd2
      rcases hd2 with e | e | e | e | e <;> rw [e]
      · exact Gi.bool
      · exact Gi.bool
      · exact Gi.none
      · exact someStr_okI d hd
      · exact Gi.tup (by decide) (by
          intro x hx
          simp only [List.mem_cons, List.not_mem_nil, or_false] at hx
          rcases hx with e | e <;> rw [e] <;> exact Gi.int (by rw [iB30]; omega))
theorem any_okI : ∀ (n k : Nat) {s : SV}, n ≤ k → Tp s → ∃ d s', φ_law_any (k + 1) [s, fzI (n : Int)] = .ok (rD d, [some s', some (fzI (n : Int))]) ∧ Gi 30 (n + 1) d ∧ Tp s' := by
  intro n
  induction n with
  | zero =>
    intro k s _ h
    obtain ⟨r, s1, e1, h0, h1, t1⟩ := draw_ok h (m := 13) (by decide) (by decide)
    obtain ⟨d, s2, x3, e2, g, t2⟩ := anyR_okI (a := .int ((0 : Nat) : Int)) t1 h0 h1
    refine ⟨d, s2, ?_, g, t2⟩
    show runF [0] 5 (m_law_any (φ_law_any k)) _ = _
    refine run0_any h (ρ := [some (fz (.int ((0 : Nat) : Int))), some (fzI r), x3, none]) ?_
    rw [any_eq, wJ, any0_ok e1, q8, wJ, anyA_no (fun _ => by decide), q8, e2]
  | succ n ih =>
    intro k s hk h
    obtain ⟨k', rfl⟩ : ∃ k', k = k' + 1 := ⟨k - 1, by omega⟩
    obtain ⟨r, s1, e1, h0, h1, t1⟩ := draw_ok h (m := 13) (by decide) (by decide)
    by_cases h4 : r < 4
    · obtain ⟨r2, s2, e2, a0, a1, t2⟩ := draw_ok t1 (m := 4) (by decide) (by decide)
      have en : ((n + 1 : Nat) : Int) - 1 = (n : Int) := by omega
      obtain ⟨ds, ρ', k1, k2, ⟨s3, x4, rfl, t3⟩⟩ := loopC_all (vs := [4]) (b := bName 4) (g := vGx (gCall (φ_law_any (k' + 1)) (aSlot 0 (aVal (gPV (pVal (p2 fSub (pVar 1) (pK (.int 1))))) aNil))))
        (fun ρ => ∃ s3 x4, ρ = [some s3, some (fzI ((n + 1 : Nat) : Int)), some (fzI r), none, x4] ∧ Tp s3) (fun _ d => Gi 30 (n + 1) d) (rngD 0 r2.toNat) [] (by rw [List.length_nil, rngD_len]; exact Nat.le_trans (by omega) (show 4 ≤ sizeLine by decide))
        (fun x _ ρ ⟨s3, x4, e, t3⟩ => by
          subst e
          obtain ⟨d, s4, e4, g4, t4⟩ := ih k' (by omega) t3
          refine ⟨[some s3, some (fzI ((n + 1 : Nat) : Int)), some (fzI r), none, some (fz x)], d, [some s4, some (fzI ((n + 1 : Nat) : Int)), some (fzI r), none, some (fz x)], rfl, ?_, g4, ⟨s4, _, rfl, t4⟩⟩
          simp only [q0, q4, q6, q7, q8, q9, qf, qj, qm, qn, qp, qu, qw, qx, qy, qz, qA, qB, qC, qD, qE, qF, qG, qH, qI, qJ, qK, qL, qM, qN, qO, qP, qQ, qR, qS, qT, qU, qV, qW, qX, qY, qZ, w6, w7, wa, wb, wc, wd, we, wg, wh, wj, wl, wm, wn, wo, wp, wq, wr, wt, wu, wv, ww, wx, wy, wz, wA, wB, wC, wD, wE, wF, wG, wH, wI, wJ, wK, wM, wN, wO, wQ, wS, wT, wU, wV, wW, wX, wY, wZ, xa, xb, xc, xf, xg, xh, xi, xj, xk, xl, xm, xn, xo, xq, xr, xt, xu, xv, xw, xx, xy, xz, xA, xB, xC, xE, xG, xH, xI, xJ, xK, xL, xM, xN, xO, xP, xQ, xR, xS, xT, xU, xV, xW, List.map_cons, List.map_nil, List.length_cons, List.length_nil, List.cons_append, List.nil_append, List.set_cons_zero, List.set_cons_succ, List.getElem?_cons_zero, List.getElem?_cons_succ, Option.bind_some, Option.map_some, List.replicate_succ, xX, xY, xZ, y0, y1, y2, ya, yb, yc, yd, ye, yf, yg, yh, yi, yj, yk, ym, Nat.reduceSub, Nat.reduceAdd, if_true, if_false, decide_eq_true_eq, en, e4]) [some s2, some (fzI ((n + 1 : Nat) : Int)), some (fzI r), none, none] ⟨s2, none, rfl, t2⟩
      have hc : c1_law_any (φ_law_any (k' + 1)) [some s1, some (fzI ((n + 1 : Nat) : Int)), some (fzI r), none, none] = .ok (rL ds, [some s3, some (fzI ((n + 1 : Nat) : Int)), some (fzI r), none, none]) := by
        unfold c1_law_any
        rw [List.nil_append] at k1
        rw [gComp_def, show iRng1 = iArgs rngOf1 from rfl, iArgs_def]
        simp only [q0, q4, q6, q7, q8, q9, qf, qj, qm, qn, qp, qu, qw, qx, qy, qz, qA, qB, qC, qD, qE, qF, qG, qH, qI, qJ, qK, qL, qM, qN, qO, qP, qQ, qR, qS, qT, qU, qV, qW, qX, qY, qZ, w6, w7, wa, wb, wc, wd, we, wg, wh, wj, wl, wm, wn, wo, wp, wq, wr, wt, wu, wv, ww, wx, wy, wz, wA, wB, wC, wD, wE, wF, wG, wH, wI, wJ, wK, wM, wN, wO, wQ, wS, wT, wU, wV, wW, wX, wY, wZ, xa, xb, xc, xf, xg, xh, xi, xj, xk, xl, xm, xn, xo, xq, xr, xt, xu, xv, xw, xx, xy, xz, xA, xB, xC, xE, xG, xH, xI, xJ, xK, xL, xM, xN, xO, xP, xQ, xR, xS, xT, xU, xV, xW, List.map_cons, List.map_nil, List.length_cons, List.length_nil, List.cons_append, List.nil_append, List.set_cons_zero, List.set_cons_succ, List.getElem?_cons_zero, List.getElem?_cons_succ, Option.bind_some, Option.map_some, List.replicate_succ, xX, xY, xZ, y0, y1, y2, ya, yb, yc, yd, ye, yf, yg, yh, yi, yj, yk, ym, Nat.reduceSub, Nat.reduceAdd, if_true, if_false, decide_eq_true_eq, e2, rngOf1_s a0 (show r2 ≤ 1000000 by omega), k1]
        rfl
      have hl := k2.length
      rw [rngD_len] at hl
      have hg : ∀ d ∈ ds, Gi 30 (n + 1) d := fun d hd => by
        obtain ⟨_, _, q⟩ := k2.right d hd
        exact q
      obtain ⟨d, hd, hx⟩ := ixs (ds := [.list ds, .tuple ds, .tuple ds, .tuple ds]) h0 (by simp only [List.length_cons, List.length_nil]; omega)
      refine ⟨d, s3, ?_, ?_, t3⟩
      · show runF [0] 5 (m_law_any (φ_law_any (k' + 1))) _ = _
        refine run0_any h (ρ := [some (fz (.int ((n + 1 : Nat) : Int))), some (fzI r), some (fz (.list ds)), none]) ?_
        rw [any_eq, wJ, any0_ok e1, q8, wJ, anyA_yes h4 (by omega) hc hx, q9]
      · simp only [List.mem_cons, List.not_mem_nil, or_false] at hd
        rcases hd with e | e | e | e <;> rw [e]
        · exact Gi.lst (by omega) hg
        · exact Gi.tup (by omega) hg
        · exact Gi.tup (by omega) hg
        · exact Gi.tup (by omega) hg
    · obtain ⟨d, s2, x3, e2, g, t2⟩ := anyR_okI (a := .int ((n + 1 : Nat) : Int)) t1 h0 h1
      refine ⟨d, s2, ?_, Gi.mono (Nat.le_refl _) (by omega) g, t2⟩
      show runF [0] 5 (m_law_any (φ_law_any (k' + 1))) _ = _
      refine run0_any h (ρ := [some (fz (.int ((n + 1 : Nat) : Int))), some (fzI r), x3, none]) ?_
      rw [any_eq, wJ, any0_ok e1, q8, wJ, anyA_no (fun q => absurd q h4), q8, e2]
theorem any_atI (n : Nat) (hn : n ≤ 11) {s : SV} (h : Tp s) : ∃ d s', φ_law_any nR_law_any [s, fzI (n : Int)] = .ok (rD d, [some s', some (fzI (n : Int))]) ∧ Gi 30 (n + 1) d ∧ Tp s' := any_okI n 11 hn h
theorem gd_setI {L n : Nat} {xs : List PD} {x : PD} {j : Nat} (h : ∀ y ∈ xs, Gi L n y) (hx : Gi L n x) : ∀ y ∈ xs.set j x, Gi L n y := fun y hy => by
  rcases List.mem_or_eq_of_mem_set hy with q | q
  · exact h y q
  · rw [q]; exact hx
theorem gd_insI {L n : Nat} {xs : List PD} {x : PD} {j : Nat} (h : ∀ y ∈ xs, Gi L n y) (hx : Gi L n x) : ∀ y ∈ xs.take j ++ [x] ++ xs.drop j, Gi L n y := fun y hy => by
  rw [List.mem_append, List.mem_append, List.mem_singleton] at hy
  rcases hy with (q | q) | q
  · exact h y (List.mem_of_mem_take q)
  · rw [q]; exact hx
  · exact h y (List.mem_of_mem_drop q)
section
variable {s : SV} {d : PD} {L m k : Nat} {w : Int} {xs : List PD} {rec : List SV → Out (Res × Env)}
theorem spW_okI {dr an : List SV → Out (Res × Env)} (hd : ∀ {s : SV}, Tp s → ∀ m : Int, 0 < m → m ≤ 1000000 → ∃ r s', dr [s, fzI m] = .ok (rInt r, [some s', some (fzI m)]) ∧ 0 ≤ r ∧ r < m ∧ Tp s') (ha : ∀ {s : SV}, Tp s → ∃ d s', an [s, fz (.int 1)] = .ok (rD d, [some s', some (fz (.int 1))]) ∧ Gi 30 2 d ∧ Tp s') (h15 : 15 ≤ L) (hL : L ≤ 1000) (h : Tp s) (hk : k < xs.length) (hx : xs.length ≤ L) (hg : ∀ x ∈ xs, Gi L m x) (ih : ∀ x ∈ xs, ∀ {s : SV}, Tp s → ∃ d' r s', rec [s, fz x] = .ok (r, [some s', some (fz x)]) ∧ r.s1.bind S1.pd = some d' ∧ Gi (2 * L + 8) (m + 3) d' ∧ Tp s') :
    ∃ xs' s', spW rec dr an (spE_ s d k xs w) = .ok (.nx, spE_ s' d k xs' w) ∧ xs'.length ≤ xs.length + 1 ∧ (∀ x ∈ xs', Gi (2 * L + 8) (m + 3) x) ∧ Tp s' := by
  have up : ∀ x ∈ xs, Gi (2 * L + 8) (m + 3) x := fun x hx => Gi.mono (by omega) (by omega) (hg x hx)
  have h0 : xs[k]? = some xs[k] := List.getElem?_eq_getElem hk
  have c8 : gT (tB (p2 fLt (pVar 4) (pK (.int 8)))) (spE_ s d k xs w) = .ok (decide (w < 8), spE_ s d k xs w) := by
    unfold spE_; simp only [q0, q4, q6, q7, q8, q9, qf, qj, qm, qn, qp, qu, qw, qx, qy, qz, qA, qB, qC, qD, qE, qF, qG, qH, qI, qJ, qK, qL, qM, qN, qO, qP, qQ, qR, qS, qT, qU, qV, qW, qX, qY, qZ, w6, w7, wa, wb, wc, wd, we, wg, wh, wj, wl, wm, wn, wo, wp, wq, wr, wt, wu, wv, ww, wx, wy, wz, wA, wB, wC, wD, wE, wF, wG, wH, wI, wJ, wK, wM, wN, wO, wQ, wS, wT, wU, wV, wW, wX, wY, wZ, xa, xb, xc, xf, xg, xh, xi, xj, xk, xl, xm, xn, xo, xq, xr, xt, xu, xv, xw, xx, xy, xz, xA, xB, xC, xE, xG, xH, xI, xJ, xK, xL, xM, xN, xO, xP, xQ, xR, xS, xT, xU, xV, xW, List.map_cons, List.map_nil, List.length_cons, List.length_nil, List.cons_append, List.nil_append, List.set_cons_zero, List.set_cons_succ, List.getElem?_cons_zero, List.getElem?_cons_succ, Option.bind_some, Option.map_some, List.replicate_succ, xX, xY, xZ, y0, y1, y2, ya, yb, yc, yd, ye, yf, yg, yh, yi, yj, yk, ym, Nat.reduceSub, Nat.reduceAdd, if_true, if_false, decide_eq_true_eq]
  have d8 : gT (tB (p2 fEq (pVar 4) (pK (.int 8)))) (spE_ s d k xs w) = .ok (decide (w = 8), spE_ s d k xs w) := by
    unfold spE_; simp only [q0, q4, q6, q7, q8, q9, qf, qj, qm, qn, qp, qu, qw, qx, qy, qz, qA, qB, qC, qD, qE, qF, qG, qH, qI, qJ, qK, qL, qM, qN, qO, qP, qQ, qR, qS, qT, qU, qV, qW, qX, qY, qZ, w6, w7, wa, wb, wc, wd, we, wg, wh, wj, wl, wm, wn, wo, wp, wq, wr, wt, wu, wv, ww, wx, wy, wz, wA, wB, wC, wD, wE, wF, wG, wH, wI, wJ, wK, wM, wN, wO, wQ, wS, wT, wU, wV, wW, wX, wY, wZ, xa, xb, xc, xf, xg, xh, xi, xj, xk, xl, xm, xn, xo, xq, xr, xt, xu, xv, xw, xx, xy, xz, xA, xB, xC, xE, xG, xH, xI, xJ, xK, xL, xM, xN, xO, xP, xQ, xR, xS, xT, xU, xV, xW, List.map_cons, List.map_nil, List.length_cons, List.length_nil, List.cons_append, List.nil_append, List.set_cons_zero, List.set_cons_succ, List.getElem?_cons_zero, List.getElem?_cons_succ, Option.bind_some, Option.map_some, List.replicate_succ, xX, xY, xZ, y0, y1, y2, ya, yb, yc, yd, ye, yf, yg, yh, yi, yj, yk, ym, Nat.reduceSub, Nat.reduceAdd, if_true, if_false, decide_eq_true_eq, fEq_i]
  have d9 : gT (tB (p2 fEq (pVar 4) (pK (.int 9)))) (spE_ s d k xs w) = .ok (decide (w = 9), spE_ s d k xs w) := by
    unfold spE_; simp only [q0, q4, q6, q7, q8, q9, qf, qj, qm, qn, qp, qu, qw, qx, qy, qz, qA, qB, qC, qD, qE, qF, qG, qH, qI, qJ, qK, qL, qM, qN, qO, qP, qQ, qR, qS, qT, qU, qV, qW, qX, qY, qZ, w6, w7, wa, wb, wc, wd, we, wg, wh, wj, wl, wm, wn, wo, wp, wq, wr, wt, wu, wv, ww, wx, wy, wz, wA, wB, wC, wD, wE, wF, wG, wH, wI, wJ, wK, wM, wN, wO, wQ, wS, wT, wU, wV, wW, wX, wY, wZ, xa, xb, xc, xf, xg, xh, xi, xj, xk, xl, xm, xn, xo, xq, xr, xt, xu, xv, xw, xx, xy, xz, xA, xB, xC, xE, xG, xH, xI, xJ, xK, xL, xM, xN, xO, xP, xQ, xR, xS, xT, xU, xV, xW, List.map_cons, List.map_nil, List.length_cons, List.length_nil, List.cons_append, List.nil_append, List.set_cons_zero, List.set_cons_succ, List.getElem?_cons_zero, List.getElem?_cons_succ, Option.bind_some, Option.map_some, List.replicate_succ, xX, xY, xZ, y0, y1, y2, ya, yb, yc, yd, ye, yf, yg, yh, yi, yj, yk, ym, Nat.reduceSub, Nat.reduceAdd, if_true, if_false, decide_eq_true_eq, fEq_i]
  have d10 : gT (tB (p2 fEq (pVar 4) (pK (.int 10)))) (spE_ s d k xs w) = .ok (decide (w = 10), spE_ s d k xs w) := by
    unfold spE_; simp only [q0, q4, q6, q7, q8, q9, qf, qj, qm, qn, qp, qu, qw, qx, qy, qz, qA, qB, qC, qD, qE, qF, qG, qH, qI, qJ, qK, qL, qM, qN, qO, qP, qQ, qR, qS, qT, qU, qV, qW, qX, qY, qZ, w6, w7, wa, wb, wc, wd, we, wg, wh, wj, wl, wm, wn, wo, wp, wq, wr, wt, wu, wv, ww, wx, wy, wz, wA, wB, wC, wD, wE, wF, wG, wH, wI, wJ, wK, wM, wN, wO, wQ, wS, wT, wU, wV, wW, wX, wY, wZ, xa, xb, xc, xf, xg, xh, xi, xj, xk, xl, xm, xn, xo, xq, xr, xt, xu, xv, xw, xx, xy, xz, xA, xB, xC, xE, xG, xH, xI, xJ, xK, xL, xM, xN, xO, xP, xQ, xR, xS, xT, xU, xV, xW, List.map_cons, List.map_nil, List.length_cons, List.length_nil, List.cons_append, List.nil_append, List.set_cons_zero, List.set_cons_succ, List.getElem?_cons_zero, List.getElem?_cons_succ, Option.bind_some, Option.map_some, List.replicate_succ, xX, xY, xZ, y0, y1, y2, ya, yb, yc, yd, ye, yf, yg, yh, yi, yj, yk, ym, Nat.reduceSub, Nat.reduceAdd, if_true, if_false, decide_eq_true_eq, fEq_i]
  unfold spW
  by_cases w8 : w < 8
  · obtain ⟨d', r, s', e1, e2, e3, e4⟩ := ih xs[k] (List.getElem_mem hk) h
    refine ⟨xs.set k d', s', ?_, by rw [List.length_set]; omega, gd_setI up e3, e4⟩
    rw [mIf_t (c8.trans (by rw [decide_eq_true w8]))]
    unfold spE_
    simp only [q0, q4, q6, q7, q8, q9, qf, qj, qm, qn, qp, qu, qw, qx, qy, qz, qA, qB, qC, qD, qE, qF, qG, qH, qI, qJ, qK, qL, qM, qN, qO, qP, qQ, qR, qS, qT, qU, qV, qW, qX, qY, qZ, w6, w7, wa, wb, wc, wd, we, wg, wh, wj, wl, wm, wn, wo, wp, wq, wr, wt, wu, wv, ww, wx, wy, wz, wA, wB, wC, wD, wE, wF, wG, wH, wI, wJ, wK, wM, wN, wO, wQ, wS, wT, wU, wV, wW, wX, wY, wZ, xa, xb, xc, xf, xg, xh, xi, xj, xk, xl, xm, xn, xo, xq, xr, xt, xu, xv, xw, xx, xy, xz, xA, xB, xC, xE, xG, xH, xI, xJ, xK, xL, xM, xN, xO, xP, xQ, xR, xS, xT, xU, xV, xW, List.map_cons, List.map_nil, List.length_cons, List.length_nil, List.cons_append, List.nil_append, List.set_cons_zero, List.set_cons_succ, List.getElem?_cons_zero, List.getElem?_cons_succ, Option.bind_some, Option.map_some, List.replicate_succ, xX, xY, xZ, y0, y1, y2, ya, yb, yc, yd, ye, yf, yg, yh, yi, yj, yk, ym, Nat.reduceSub, Nat.reduceAdd, if_true, if_false, decide_eq_true_eq, fIx_at h0, e1, e2, put_lst hk]
  · rw [mIf_f (c8.trans (by rw [decide_eq_false w8]))]
    by_cases w8' : w = 8
    · rw [mIf_t (d8.trans (by rw [decide_eq_true w8']))]
      obtain ⟨d', e1, e2⟩ := popAt_ok (i := 3) (g := gPV (pVal (pVar 2))) (ρ := spE_ s d k xs w) (xs := xs) (j := k) rfl rfl rfl hk (by omega)
      refine ⟨xs.eraseIdx k, s, ?_, by rw [List.length_eraseIdx]; split <;> omega, fun x hx => up x (List.mem_of_mem_eraseIdx hx), h⟩
      exact mDrop_ok e1
    · rw [mIf_f (d8.trans (by rw [decide_eq_false w8']))]
      by_cases w9 : w = 9
      · rw [mIf_t (d9.trans (by rw [decide_eq_true w9]))]
        obtain ⟨r1, s1, e1, a0, a1, t1⟩ := hd h (xs.length : Int) (by omega) (by omega)
        obtain ⟨j, rfl⟩ := Int.eq_ofNat_of_zero_le a0
        have hj : j < xs.length := by omega
        have hj0 : xs[j]? = some xs[j] := List.getElem?_eq_getElem hj
        have e3 := ixS_ok (i := 3) (g := vGx (gCall dr (aSlot 0 (aVal (gPV (pVal (pN (f1 fLen) (psCons (pVar 3) psNil)))) aNil)))) (ρ := spE_ s d k xs w) (ρ' := spE_ s1 d k xs w) (s0 := .lst xs) (s := .lst xs) (d := .int (j : Int)) rfl (by unfold spE_; simp only [q0, q4, q6, q7, q8, q9, qf, qj, qm, qn, qp, qu, qw, qx, qy, qz, qA, qB, qC, qD, qE, qF, qG, qH, qI, qJ, qK, qL, qM, qN, qO, qP, qQ, qR, qS, qT, qU, qV, qW, qX, qY, qZ, w6, w7, wa, wb, wc, wd, we, wg, wh, wj, wl, wm, wn, wo, wp, wq, wr, wt, wu, wv, ww, wx, wy, wz, wA, wB, wC, wD, wE, wF, wG, wH, wI, wJ, wK, wM, wN, wO, wQ, wS, wT, wU, wV, wW, wX, wY, wZ, xa, xb, xc, xf, xg, xh, xi, xj, xk, xl, xm, xn, xo, xq, xr, xt, xu, xv, xw, xx, xy, xz, xA, xB, xC, xE, xG, xH, xI, xJ, xK, xL, xM, xN, xO, xP, xQ, xR, xS, xT, xU, xV, xW, List.map_cons, List.map_nil, List.length_cons, List.length_nil, List.cons_append, List.nil_append, List.set_cons_zero, List.set_cons_succ, List.getElem?_cons_zero, List.getElem?_cons_succ, Option.bind_some, Option.map_some, List.replicate_succ, xX, xY, xZ, y0, y1, y2, ya, yb, yc, yd, ye, yf, yg, yh, yi, yj, yk, ym, Nat.reduceSub, Nat.reduceAdd, if_true, if_false, decide_eq_true_eq, e1]) rfl (fIx_at hj0)
        have e2 := insert_ok (i := 3) (gk := gPV (pVal (pVar 2))) (gv := vGx (gIxS 3 (vGx (gCall dr (aSlot 0 (aVal (gPV (pVal (pN (f1 fLen) (psCons (pVar 3) psNil)))) aNil)))))) (ρ := spE_ s d k xs w) (xs := xs) (j := k) (ρ2 := spE_ s1 d k xs w) (d := xs[j]) rfl rfl (by rw [wm, e3]; rfl) rfl (by omega) (by omega)
        exact ⟨_, s1, e2, by rw [len_ins]; omega, gd_insI (j := k) up (up xs[j] (List.getElem_mem hj)), t1⟩
      · rw [mIf_f (d9.trans (by rw [decide_eq_false w9]))]
        by_cases w10 : w = 10
        · rw [mIf_t (d10.trans (by rw [decide_eq_true w10]))]
          refine ⟨xs.reverse, s, ?_, by rw [List.length_reverse]; omega, fun x hx => up x (List.mem_reverse.1 hx), h⟩
          unfold spE_
          simp only [q0, q4, q6, q7, q8, q9, qf, qj, qm, qn, qp, qu, qw, qx, qy, qz, qA, qB, qC, qD, qE, qF, qG, qH, qI, qJ, qK, qL, qM, qN, qO, qP, qQ, qR, qS, qT, qU, qV, qW, qX, qY, qZ, w6, w7, wa, wb, wc, wd, we, wg, wh, wj, wl, wm, wn, wo, wp, wq, wr, wt, wu, wv, ww, wx, wy, wz, wA, wB, wC, wD, wE, wF, wG, wH, wI, wJ, wK, wM, wN, wO, wQ, wS, wT, wU, wV, wW, wX, wY, wZ, xa, xb, xc, xf, xg, xh, xi, xj, xk, xl, xm, xn, xo, xq, xr, xt, xu, xv, xw, xx, xy, xz, xA, xB, xC, xE, xG, xH, xI, xJ, xK, xL, xM, xN, xO, xP, xQ, xR, xS, xT, xU, xV, xW, List.map_cons, List.map_nil, List.length_cons, List.length_nil, List.cons_append, List.nil_append, List.set_cons_zero, List.set_cons_succ, List.getElem?_cons_zero, List.getElem?_cons_succ, Option.bind_some, Option.map_some, List.replicate_succ, xX, xY, xZ, y0, y1, y2, ya, yb, yc, yd, ye, yf, yg, yh, yi, yj, yk, ym, Nat.reduceSub, Nat.reduceAdd, if_true, if_false, decide_eq_true_eq, fRev_o]
        · rw [mIf_f (d10.trans (by rw [decide_eq_false w10]))]
          obtain ⟨d', s1, e1', g1, t1⟩ := ha h
          have e2 := insert_ok (i := 3) (gk := gPV (pVal (pVar 2))) (gv := vGx (gCall an (aSlot 0 (aVal (gPV (pVal (pK (.int 1)))) aNil)))) (ρ := spE_ s d k xs w) (xs := xs) (j := k) (ρ2 := spE_ s1 d k xs w) (d := d') rfl rfl (by unfold spE_; simp only [q0, q4, q6, q7, q8, q9, qf, qj, qm, qn, qp, qu, qw, qx, qy, qz, qA, qB, qC, qD, qE, qF, qG, qH, qI, qJ, qK, qL, qM, qN, qO, qP, qQ, qR, qS, qT, qU, qV, qW, qX, qY, qZ, w6, w7, wa, wb, wc, wd, we, wg, wh, wj, wl, wm, wn, wo, wp, wq, wr, wt, wu, wv, ww, wx, wy, wz, wA, wB, wC, wD, wE, wF, wG, wH, wI, wJ, wK, wM, wN, wO, wQ, wS, wT, wU, wV, wW, wX, wY, wZ, xa, xb, xc, xf, xg, xh, xi, xj, xk, xl, xm, xn, xo, xq, xr, xt, xu, xv, xw, xx, xy, xz, xA, xB, xC, xE, xG, xH, xI, xJ, xK, xL, xM, xN, xO, xP, xQ, xR, xS, xT, xU, xV, xW, List.map_cons, List.map_nil, List.length_cons, List.length_nil, List.cons_append, List.nil_append, List.set_cons_zero, List.set_cons_succ, List.getElem?_cons_zero, List.getElem?_cons_succ, Option.bind_some, Option.map_some, List.replicate_succ, xX, xY, xZ, y0, y1, y2, ya, yb, yc, yd, ye, yf, yg, yh, yi, yj, yk, ym, Nat.reduceSub, Nat.reduceAdd, if_true, if_false, decide_eq_true_eq, e1']) rfl (by omega) (by omega)
          exact ⟨_, s1, e2, by rw [len_ins]; omega, gd_insI (j := k) up (Gi.mono (by omega) (by omega) g1), t1⟩
theorem spA_okI {wf : Env → Out (Fl × Env)} (h15 : 15 ≤ L) (hL : L ≤ 1000) (h : Tp s) (hs : seqK d = true) (hG : Gi L (m + 1) d)
    (hw : ∀ (s : SV) (k : Nat) (w : Int), Tp s → k < (itemsK d).length → ∃ xs' s', wf (spE_ s d k (itemsK d) w) = .ok (.nx, spE_ s' d k xs' w) ∧ xs'.length ≤ (itemsK d).length + 1 ∧ (∀ x ∈ xs', Gi (2 * L + 8) (m + 3) x) ∧ Tp s') :
    (∃ s', spA wf [some s, some (fz d), none, none, none, none] = .ok (.nx, [some s', some (fz d), none, none, none, none]) ∧ Tp s') ∨
    ∃ r d' s' x2 x3 x4, spA wf [some s, some (fz d), none, none, none, none] = .ok (.rt r, [some s', some (fz d), x2, x3, x4, none]) ∧ r.s1.bind S1.pd = some d' ∧ Gi (2 * L + 8) (m + 4) d' ∧ Tp s' := by
  have i2 := isi_tupA hs
  have hl := len_K hs
  have hLen := (hG.items hs).1
  by_cases hz : (0 : Int) < ((itemsK d).length : Nat)
  · obtain ⟨r, s1, e1, a0, a1, t1⟩ := draw_ok h (m := 7) (by decide) (by decide)
    by_cases hr : 0 < r
    · obtain ⟨r2, s2, e2, b0, b1, t2⟩ := draw_ok t1 (m := (((itemsK d).length : Nat) : Int)) hz (small_log (by omega) (by omega))
      obtain ⟨r3, s3, e3, c0, c1, t3⟩ := draw_ok t2 (m := 12) (by decide) (by decide)
      obtain ⟨k, rfl⟩ := Int.eq_ofNat_of_zero_le b0
      obtain ⟨xs', s4, e4, f1, f2, t4⟩ := hw s3 k r3 t3 (by omega)
      unfold spE_ at e4
      have hlist : fList (.frz d) = some (rL (itemsK d)) := by cases d <;> first | exact ff_ hs | rfl
      have it := isi_tupK hG.gd
      cases ht : tupK d with
      | true =>
        rw [ht] at it
        refine .inr ⟨rD (.tuple xs'), .tuple xs', s4, some (fzI (k : Int)), some (.one (.lst xs')), some (fzI r3), ?_, rfl, Gi.tup (by omega) f2, t4⟩
        · unfold spA
          simp only [q0, q4, q6, q7, q8, q9, qf, qj, qm, qn, qp, qu, qw, qx, qy, qz, qA, qB, qC, qD, qE, qF, qG, qH, qI, qJ, qK, qL, qM, qN, qO, qP, qQ, qR, qS, qT, qU, qV, qW, qX, qY, qZ, w6, w7, wa, wb, wc, wd, we, wg, wh, wj, wl, wm, wn, wo, wp, wq, wr, wt, wu, wv, ww, wx, wy, wz, wA, wB, wC, wD, wE, wF, wG, wH, wI, wJ, wK, wM, wN, wO, wQ, wS, wT, wU, wV, wW, wX, wY, wZ, xa, xb, xc, xf, xg, xh, xi, xj, xk, xl, xm, xn, xo, xq, xr, xt, xu, xv, xw, xx, xy, xz, xA, xB, xC, xE, xG, xH, xI, xJ, xK, xL, xM, xN, xO, xP, xQ, xR, xS, xT, xU, xV, xW, List.map_cons, List.map_nil, List.length_cons, List.length_nil, List.cons_append, List.nil_append, List.set_cons_zero, List.set_cons_succ, List.getElem?_cons_zero, List.getElem?_cons_succ, Option.bind_some, Option.map_some, List.replicate_succ, xX, xY, xZ, y0, y1, y2, ya, yb, yc, yd, ye, yf, yg, yh, yi, yj, yk, ym, Nat.reduceSub, Nat.reduceAdd, if_true, if_false, decide_eq_true_eq, pIsi_def, pIsi2_def, i2, hl, hz, e1, hr, e2, hlist, e3, e4, it, fTuple_o, decide_true]
      | false =>
        rw [ht] at it
        refine .inr ⟨.new (.one (.lst xs')), .list xs', s4, some (fzI (k : Int)), none, some (fzI r3), ?_, rfl, Gi.lst (by omega) f2, t4⟩
        · unfold spA
          simp only [q0, q4, q6, q7, q8, q9, qf, qj, qm, qn, qp, qu, qw, qx, qy, qz, qA, qB, qC, qD, qE, qF, qG, qH, qI, qJ, qK, qL, qM, qN, qO, qP, qQ, qR, qS, qT, qU, qV, qW, qX, qY, qZ, w6, w7, wa, wb, wc, wd, we, wg, wh, wj, wl, wm, wn, wo, wp, wq, wr, wt, wu, wv, ww, wx, wy, wz, wA, wB, wC, wD, wE, wF, wG, wH, wI, wJ, wK, wM, wN, wO, wQ, wS, wT, wU, wV, wW, wX, wY, wZ, xa, xb, xc, xf, xg, xh, xi, xj, xk, xl, xm, xn, xo, xq, xr, xt, xu, xv, xw, xx, xy, xz, xA, xB, xC, xE, xG, xH, xI, xJ, xK, xL, xM, xN, xO, xP, xQ, xR, xS, xT, xU, xV, xW, List.map_cons, List.map_nil, List.length_cons, List.length_nil, List.cons_append, List.nil_append, List.set_cons_zero, List.set_cons_succ, List.getElem?_cons_zero, List.getElem?_cons_succ, Option.bind_some, Option.map_some, List.replicate_succ, xX, xY, xZ, y0, y1, y2, ya, yb, yc, yd, ye, yf, yg, yh, yi, yj, yk, ym, Nat.reduceSub, Nat.reduceAdd, if_true, if_false, decide_eq_true_eq, pIsi_def, pIsi2_def, i2, hl, hz, e1, hr, e2, hlist, e3, e4, it, mRetOwn_def, decide_true, Bool.false_eq_true, ↓reduceIte]
    · refine .inl ⟨s1, ?_, t1⟩
      unfold spA
      simp only [q0, q4, q6, q7, q8, q9, qf, qj, qm, qn, qp, qu, qw, qx, qy, qz, qA, qB, qC, qD, qE, qF, qG, qH, qI, qJ, qK, qL, qM, qN, qO, qP, qQ, qR, qS, qT, qU, qV, qW, qX, qY, qZ, w6, w7, wa, wb, wc, wd, we, wg, wh, wj, wl, wm, wn, wo, wp, wq, wr, wt, wu, wv, ww, wx, wy, wz, wA, wB, wC, wD, wE, wF, wG, wH, wI, wJ, wK, wM, wN, wO, wQ, wS, wT, wU, wV, wW, wX, wY, wZ, xa, xb, xc, xf, xg, xh, xi, xj, xk, xl, xm, xn, xo, xq, xr, xt, xu, xv, xw, xx, xy, xz, xA, xB, xC, xE, xG, xH, xI, xJ, xK, xL, xM, xN, xO, xP, xQ, xR, xS, xT, xU, xV, xW, List.map_cons, List.map_nil, List.length_cons, List.length_nil, List.cons_append, List.nil_append, List.set_cons_zero, List.set_cons_succ, List.getElem?_cons_zero, List.getElem?_cons_succ, Option.bind_some, Option.map_some, List.replicate_succ, xX, xY, xZ, y0, y1, y2, ya, yb, yc, yd, ye, yf, yg, yh, yi, yj, yk, ym, Nat.reduceSub, Nat.reduceAdd, if_true, if_false, decide_eq_true_eq, pIsi2_def, i2, hl, hz, e1, hr, decide_true, decide_false, Bool.false_eq_true, ↓reduceIte]
  · refine .inl ⟨s, ?_, h⟩
    unfold spA
    simp only [q0, q4, q6, q7, q8, q9, qf, qj, qm, qn, qp, qu, qw, qx, qy, qz, qA, qB, qC, qD, qE, qF, qG, qH, qI, qJ, qK, qL, qM, qN, qO, qP, qQ, qR, qS, qT, qU, qV, qW, qX, qY, qZ, w6, w7, wa, wb, wc, wd, we, wg, wh, wj, wl, wm, wn, wo, wp, wq, wr, wt, wu, wv, ww, wx, wy, wz, wA, wB, wC, wD, wE, wF, wG, wH, wI, wJ, wK, wM, wN, wO, wQ, wS, wT, wU, wV, wW, wX, wY, wZ, xa, xb, xc, xf, xg, xh, xi, xj, xk, xl, xm, xn, xo, xq, xr, xt, xu, xv, xw, xx, xy, xz, xA, xB, xC, xE, xG, xH, xI, xJ, xK, xL, xM, xN, xO, xP, xQ, xR, xS, xT, xU, xV, xW, List.map_cons, List.map_nil, List.length_cons, List.length_nil, List.cons_append, List.nil_append, List.set_cons_zero, List.set_cons_succ, List.getElem?_cons_zero, List.getElem?_cons_succ, Option.bind_some, Option.map_some, List.replicate_succ, xX, xY, xZ, y0, y1, y2, ya, yb, yc, yd, ye, yf, yg, yh, yi, yj, yk, ym, Nat.reduceSub, Nat.reduceAdd, if_true, if_false, decide_eq_true_eq, pIsi2_def, i2, hl, hz, decide_true, decide_false, Bool.false_eq_true, ↓reduceIte]
theorem spE_okI (h15 : 15 ≤ L) (h : Tp s) : ∃ d' s', spE [some s, some (fz d), none, none, none, none] = .ok (.rt (rD d'), [some s', some (fz d), none, none, none, none]) ∧ Gi (2 * L + 8) (m + 3) d' ∧ Tp s' := by
  obtain ⟨d', s1, e1, g1, t1⟩ := any_atI 2 (by decide) h
  have e1' : φ_law_any nR_law_any [s, fz (.int 2)] = .ok (rD d', [some s1, some (fz (.int 2))]) := e1
  refine ⟨d', s1, ?_, Gi.mono (by omega) (by omega) g1, t1⟩
  unfold spE
  simp only [q0, q4, q6, q7, q8, q9, qf, qj, qm, qn, qp, qu, qw, qx, qy, qz, qA, qB, qC, qD, qE, qF, qG, qH, qI, qJ, qK, qL, qM, qN, qO, qP, qQ, qR, qS, qT, qU, qV, qW, qX, qY, qZ, w6, w7, wa, wb, wc, wd, we, wg, wh, wj, wl, wm, wn, wo, wp, wq, wr, wt, wu, wv, ww, wx, wy, wz, wA, wB, wC, wD, wE, wF, wG, wH, wI, wJ, wK, wM, wN, wO, wQ, wS, wT, wU, wV, wW, wX, wY, wZ, xa, xb, xc, xf, xg, xh, xi, xj, xk, xl, xm, xn, xo, xq, xr, xt, xu, xv, xw, xx, xy, xz, xA, xB, xC, xE, xG, xH, xI, xJ, xK, xL, xM, xN, xO, xP, xQ, xR, xS, xT, xU, xV, xW, List.map_cons, List.map_nil, List.length_cons, List.length_nil, List.cons_append, List.nil_append, List.set_cons_zero, List.set_cons_succ, List.getElem?_cons_zero, List.getElem?_cons_succ, Option.bind_some, Option.map_some, List.replicate_succ, xX, xY, xZ, y0, y1, y2, ya, yb, yc, yd, ye, yf, yg, yh, yi, yj, yk, ym, Nat.reduceSub, Nat.reduceAdd, if_true, if_false, decide_eq_true_eq, e1']
theorem spD_okI (h : Tp s) (hs : seqK d = true) (hG : Gi L (m + 1) d) : (∃ s', spD [some s, some (fz d), none, none, none, none] = .ok (.nx, [some s', some (fz d), none, none, none, none]) ∧ Tp s') ∨
    ∃ r d' s', spD [some s, some (fz d), none, none, none, none] = .ok (.rt r, [some s', some (fz d), none, none, none, none]) ∧ r.s1.bind S1.pd = some d' ∧ Gi (2 * L + 8) (m + 4) d' ∧ Tp s' := by
  have i2 := isi_tupA hs
  obtain ⟨r, s1, e1, a0, a1, t1⟩ := draw_ok h (m := 2) (by decide) (by decide)
  by_cases hr : r = 0
  · have it := isi_tupK hG.gd
    cases d with
    | list xs =>
      have it : fIsi "tuple" (.frz (.list xs)) = some (rB false) := it
      refine .inr ⟨rD (.tuple xs), .tuple xs, s1, ?_, rfl, Gi.mono (by omega) (by omega) (show Gi L (m + 1) (.tuple xs) from hG), t1⟩
      unfold spD
      simp only [q0, q4, q6, q7, q8, q9, qf, qj, qm, qn, qp, qu, qw, qx, qy, qz, qA, qB, qC, qD, qE, qF, qG, qH, qI, qJ, qK, qL, qM, qN, qO, qP, qQ, qR, qS, qT, qU, qV, qW, qX, qY, qZ, w6, w7, wa, wb, wc, wd, we, wg, wh, wj, wl, wm, wn, wo, wp, wq, wr, wt, wu, wv, ww, wx, wy, wz, wA, wB, wC, wD, wE, wF, wG, wH, wI, wJ, wK, wM, wN, wO, wQ, wS, wT, wU, wV, wW, wX, wY, wZ, xa, xb, xc, xf, xg, xh, xi, xj, xk, xl, xm, xn, xo, xq, xr, xt, xu, xv, xw, xx, xy, xz, xA, xB, xC, xE, xG, xH, xI, xJ, xK, xL, xM, xN, xO, xP, xQ, xR, xS, xT, xU, xV, xW, List.map_cons, List.map_nil, List.length_cons, List.length_nil, List.cons_append, List.nil_append, List.set_cons_zero, List.set_cons_succ, List.getElem?_cons_zero, List.getElem?_cons_succ, Option.bind_some, Option.map_some, List.replicate_succ, xX, xY, xZ, y0, y1, y2, ya, yb, yc, yd, ye, yf, yg, yh, yi, yj, yk, ym, Nat.reduceSub, Nat.reduceAdd, if_true, if_false, decide_eq_true_eq, pIsi_def, pIsi2_def, i2, e1, hr, it, fEq_i, fTuple_l, decide_true, Bool.false_eq_true, ↓reduceIte]
    | tuple xs =>
      have it : fIsi "tuple" (.frz (.tuple xs)) = some (rB true) := it
      have hlist : fList (.frz (.tuple xs)) = some (rL xs) := rfl
      refine .inr ⟨rL xs, .list xs, s1, ?_, rfl, Gi.mono (by omega) (by omega) (show Gi L (m + 1) (.list xs) from hG), t1⟩
      unfold spD
      simp only [q0, q4, q6, q7, q8, q9, qf, qj, qm, qn, qp, qu, qw, qx, qy, qz, qA, qB, qC, qD, qE, qF, qG, qH, qI, qJ, qK, qL, qM, qN, qO, qP, qQ, qR, qS, qT, qU, qV, qW, qX, qY, qZ, w6, w7, wa, wb, wc, wd, we, wg, wh, wj, wl, wm, wn, wo, wp, wq, wr, wt, wu, wv, ww, wx, wy, wz, wA, wB, wC, wD, wE, wF, wG, wH, wI, wJ, wK, wM, wN, wO, wQ, wS, wT, wU, wV, wW, wX, wY, wZ, xa, xb, xc, xf, xg, xh, xi, xj, xk, xl, xm, xn, xo, xq, xr, xt, xu, xv, xw, xx, xy, xz, xA, xB, xC, xE, xG, xH, xI, xJ, xK, xL, xM, xN, xO, xP, xQ, xR, xS, xT, xU, xV, xW, List.map_cons, List.map_nil, List.length_cons, List.length_nil, List.cons_append, List.nil_append, List.set_cons_zero, List.set_cons_succ, List.getElem?_cons_zero, List.getElem?_cons_succ, Option.bind_some, Option.map_some, List.replicate_succ, xX, xY, xZ, y0, y1, y2, ya, yb, yc, yd, ye, yf, yg, yh, yi, yj, yk, ym, Nat.reduceSub, Nat.reduceAdd, if_true, if_false, decide_eq_true_eq, pIsi_def, pIsi2_def, i2, e1, hr, it, fEq_i, hlist, decide_true, Bool.false_eq_true, ↓reduceIte]
    | _ => exact ff_ hs
  · refine .inl ⟨s1, ?_, t1⟩
    unfold spD
    simp only [q0, q4, q6, q7, q8, q9, qf, qj, qm, qn, qp, qu, qw, qx, qy, qz, qA, qB, qC, qD, qE, qF, qG, qH, qI, qJ, qK, qL, qM, qN, qO, qP, qQ, qR, qS, qT, qU, qV, qW, qX, qY, qZ, w6, w7, wa, wb, wc, wd, we, wg, wh, wj, wl, wm, wn, wo, wp, wq, wr, wt, wu, wv, ww, wx, wy, wz, wA, wB, wC, wD, wE, wF, wG, wH, wI, wJ, wK, wM, wN, wO, wQ, wS, wT, wU, wV, wW, wX, wY, wZ, xa, xb, xc, xf, xg, xh, xi, xj, xk, xl, xm, xn, xo, xq, xr, xt, xu, xv, xw, xx, xy, xz, xA, xB, xC, xE, xG, xH, xI, xJ, xK, xL, xM, xN, xO, xP, xQ, xR, xS, xT, xU, xV, xW, List.map_cons, List.map_nil, List.length_cons, List.length_nil, List.cons_append, List.nil_append, List.set_cons_zero, List.set_cons_succ, List.getElem?_cons_zero, List.getElem?_cons_succ, Option.bind_some, Option.map_some, List.replicate_succ, xX, xY, xZ, y0, y1, y2, ya, yb, yc, yd, ye, yf, yg, yh, yi, yj, yk, ym, Nat.reduceSub, Nat.reduceAdd, if_true, if_false, decide_eq_true_eq, pIsi2_def, i2, e1, fEq_i, hr, decide_false, Bool.false_eq_true, ↓reduceIte]
theorem spB_okI {i : Int} (h : Tp s) : (∃ s', spB [some s, some (fzI i), none, none, none, none] = .ok (.nx, [some s', some (fzI i), none, none, none, none]) ∧ Tp s') ∨
    ∃ j s', spB [some s, some (fzI i), none, none, none, none] = .ok (.rt (rInt j), [some s', some (fzI i), none, none, none, none]) ∧ Tp s' ∧ j ≤ i + 1000 := by
  have e := pCall_1 (ρ := [some s, some (fzI i), none, none, none, none]) (q := pVal (pVar 1)) (d := .int i) rfl (law_whole_ok (L := 0) (n := 0) trivial)
  have e : pCall φ_law_whole (vsCons (pVal (pVar 1)) vsNil) [some s, some (fzI i), none, none, none, none] = some (rB true) := e
  obtain ⟨r, s1, e1, a0, a1, t1⟩ := draw_ok h (m := 6) (by decide) (by decide)
  by_cases hr : 0 < r
  · obtain ⟨r2, s2, e2, b0, b1, t2⟩ := draw_ok t1 (m := 6) (by decide) (by decide)
    obtain ⟨d, hd, hx⟩ := ixs (ds := [.int 1, .int (-1), .int 2, .int (-2), .int 9, .int 1000]) b0 b1
    obtain ⟨j, rfl, hj⟩ : ∃ j, d = .int j ∧ j ≤ 1000 := by
      simp only [List.mem_cons, List.not_mem_nil, or_false] at hd
      rcases hd with q | q | q | q | q | q <;> exact ⟨_, q, by omega⟩
    refine .inr ⟨i + j, s2, ?_, t2, by omega⟩
    unfold spB
    simp only [q0, q4, q6, q7, q8, q9, qf, qj, qm, qn, qp, qu, qw, qx, qy, qz, qA, qB, qC, qD, qE, qF, qG, qH, qI, qJ, qK, qL, qM, qN, qO, qP, qQ, qR, qS, qT, qU, qV, qW, qX, qY, qZ, w6, w7, wa, wb, wc, wd, we, wg, wh, wj, wl, wm, wn, wo, wp, wq, wr, wt, wu, wv, ww, wx, wy, wz, wA, wB, wC, wD, wE, wF, wG, wH, wI, wJ, wK, wM, wN, wO, wQ, wS, wT, wU, wV, wW, wX, wY, wZ, xa, xb, xc, xf, xg, xh, xi, xj, xk, xl, xm, xn, xo, xq, xr, xt, xu, xv, xw, xx, xy, xz, xA, xB, xC, xE, xG, xH, xI, xJ, xK, xL, xM, xN, xO, xP, xQ, xR, xS, xT, xU, xV, xW, List.map_cons, List.map_nil, List.length_cons, List.length_nil, List.cons_append, List.nil_append, List.set_cons_zero, List.set_cons_succ, List.getElem?_cons_zero, List.getElem?_cons_succ, Option.bind_some, Option.map_some, List.replicate_succ, xX, xY, xZ, y0, y1, y2, ya, yb, yc, yd, ye, yf, yg, yh, yi, yj, yk, ym, Nat.reduceSub, Nat.reduceAdd, if_true, if_false, decide_eq_true_eq, e, e1, hr, e2, hx, decide_true]
  · refine .inl ⟨s1, ?_, t1⟩
    unfold spB
    simp only [q0, q4, q6, q7, q8, q9, qf, qj, qm, qn, qp, qu, qw, qx, qy, qz, qA, qB, qC, qD, qE, qF, qG, qH, qI, qJ, qK, qL, qM, qN, qO, qP, qQ, qR, qS, qT, qU, qV, qW, qX, qY, qZ, w6, w7, wa, wb, wc, wd, we, wg, wh, wj, wl, wm, wn, wo, wp, wq, wr, wt, wu, wv, ww, wx, wy, wz, wA, wB, wC, wD, wE, wF, wG, wH, wI, wJ, wK, wM, wN, wO, wQ, wS, wT, wU, wV, wW, wX, wY, wZ, xa, xb, xc, xf, xg, xh, xi, xj, xk, xl, xm, xn, xo, xq, xr, xt, xu, xv, xw, xx, xy, xz, xA, xB, xC, xE, xG, xH, xI, xJ, xK, xL, xM, xN, xO, xP, xQ, xR, xS, xT, xU, xV, xW, List.map_cons, List.map_nil, List.length_cons, List.length_nil, List.cons_append, List.nil_append, List.set_cons_zero, List.set_cons_succ, List.getElem?_cons_zero, List.getElem?_cons_succ, Option.bind_some, Option.map_some, List.replicate_succ, xX, xY, xZ, y0, y1, y2, ya, yb, yc, yd, ye, yf, yg, yh, yi, yj, yk, ym, Nat.reduceSub, Nat.reduceAdd, if_true, if_false, decide_eq_true_eq, e, e1, hr, decide_true, decide_false, Bool.false_eq_true, ↓reduceIte]
end
theorem spoilt_atI {L n k : Nat} {s : SV} {d : PD} (h15 : 15 ≤ L) (hL : L ≤ 29) (h : Tp s) (hG : Gi L n d) (i2 : fIsi2 "tuple" "list" (.frz d) = some (rB false)) : ∃ d' r s', φ_law_spoilt (k + 1) [s, fz d] = .ok (r, [some s', some (fz d)]) ∧ r.s1.bind S1.pd = some d' ∧ Gi (2 * L + 8) (n + 3) d' ∧ Tp s' := by
  have fin : ∀ (s1 : SV), Tp s1 → (mSeq (spA (spW (φ_law_spoilt k) φ_law_draw (φ_law_any nR_law_any))) (mSeq spB (mSeq spC (mSeq spD spE)))) [some s, some (fz d), none, none, none, none] = spE [some s1, some (fz d), none, none, none, none] → ∃ d' r s', φ_law_spoilt (k + 1) [s, fz d] = .ok (r, [some s', some (fz d)]) ∧ r.s1.bind S1.pd = some d' ∧ Gi (2 * L + 8) (n + 3) d' ∧ Tp s' := fun s1 t1 e => by
    obtain ⟨d', s3, e3, g3, t3⟩ := spE_okI (d := d) (L := L) (m := n) h15 t1
    refine ⟨d', rD d', s3, ?_, rfl, g3, t3⟩
    show runF [0] 6 (m_law_spoilt (φ_law_spoilt k)) _ = _
    refine run0_sp h (ρ := [some (fz d), none, none, none, none]) ?_
    rw [sp_eq, e, e3]
  have rest : ∀ (s1 : SV), wholeB d = false → strB d = false → (mSeq (spA (spW (φ_law_spoilt k) φ_law_draw (φ_law_any nR_law_any))) (mSeq spB (mSeq spC (mSeq spD spE)))) [some s1, some (fz d), none, none, none, none] = spE [some s1, some (fz d), none, none, none, none] := fun s1 hw ht => by
    rw [wJ, spA_no i2, q8, wJ, spB_no hG.gd hw, q8, wJ, spC_no hG.gd ht, q8, wJ, spD_no i2, q8]
  cases hw : wholeB d with
  | true =>
    obtain ⟨i, rfl⟩ : ∃ i, d = .int i := by cases d <;> first | exact ⟨_, rfl⟩ | cases hw
    rcases spB_okI (i := i) h with ⟨s1, e1, t1⟩ | ⟨j, s1, e1, t1, hj⟩
    · refine fin s1 t1 ?_
      rw [wJ, spA_no i2, q8, wJ, e1, q8, wJ, spC_no hG.gd rfl, q8, wJ, spD_no i2, q8]
    · refine ⟨.int j, rInt j, s1, ?_, rfl, Gi.int (by
        have hi : i ≤ iB L := by cases n <;> exact hG
        unfold iB at hi ⊢
        rw [if_pos (by omega)] at hi
        rw [if_neg (by omega)]
        omega), t1⟩
      show runF [0] 6 (m_law_spoilt (φ_law_spoilt k)) _ = _
      refine run0_sp h (ρ := [some (fzI i), none, none, none, none]) ?_
      rw [sp_eq, wJ, spA_no i2, q8, wJ, e1, q9]
  | false =>
    cases ht : strB d with
    | true =>
      obtain ⟨x, rfl⟩ : ∃ x, d = .str x := by cases d <;> first | exact ⟨_, rfl⟩ | cases ht
      have hx : x.length ≤ L := by cases n <;> exact hG
      rcases spC_ok hx (by omega) h with ⟨s1, e1, t1⟩ | ⟨y, s1, x5, e1, hy, t1⟩
      · refine fin s1 t1 ?_
        rw [wJ, spA_no i2, q8, wJ, spB_no hG.gd hw, q8, wJ, e1, q8, wJ, spD_no i2, q8]
      · refine ⟨.str y, rS y, s1, ?_, rfl, Gi.str hy, t1⟩
        show runF [0] 6 (m_law_spoilt (φ_law_spoilt k)) _ = _
        refine run0_sp h (ρ := [some (fzS x), none, none, none, x5]) ?_
        rw [sp_eq, wJ, spA_no i2, q8, wJ, spB_no hG.gd hw, q8, wJ, e1, q9]
    | false => exact fin s h (rest s hw ht)
theorem spoilt_okI {L : Nat} (h15 : 15 ≤ L) (hL : L ≤ 29) : ∀ (k n : Nat) (d : PD) {s : SV}, n ≤ k → Tp s → Gi L n d → ∃ d' r s', φ_law_spoilt (k + 1) [s, fz d] = .ok (r, [some s', some (fz d)]) ∧ r.s1.bind S1.pd = some d' ∧ Gi (2 * L + 8) (n + 3) d' ∧ Tp s' := by
  intro k
  induction k with
  | zero =>
    intro n d s hn h hG
    obtain rfl : n = 0 := by omega
    have hs : seqK d = false := by cases d <;> first | rfl | exact absurd hG id
    have i2 := isi2_seq' hG.gd
    rw [hs] at i2
    exact spoilt_atI h15 hL h hG i2
  | succ k ih =>
    intro n d s hn h hG
    have i2 := isi2_seq' hG.gd
    cases hs : seqK d with
    | false =>
      rw [hs] at i2
      exact spoilt_atI h15 hL h hG i2
    | true =>
      obtain ⟨hl, m, rfl, hit⟩ := hG.items hs
      have hw : wholeB d = false := by cases d <;> first | exact ff_ hs | rfl
      have ht : strB d = false := by cases d <;> first | exact ff_ hs | rfl
      have rc : ∀ x ∈ itemsK d, ∀ {s : SV}, Tp s → ∃ d' r s', φ_law_spoilt (k + 1) [s, fz x] = .ok (r, [some s', some (fz x)]) ∧ r.s1.bind S1.pd = some d' ∧ Gi (2 * L + 8) (m + 3) d' ∧ Tp s' := fun x hx s hs => ih m x (by omega) hs (hit x hx)
      rcases spA_okI (wf := spW (φ_law_spoilt (k + 1)) φ_law_draw (φ_law_any nR_law_any)) h15 (by omega) h hs hG (fun s k w t hk => spW_okI (fun {s} hs m h0 h1 => draw_ok hs h0 (small_log2 (by omega) h1)) (fun {s} hs => any_atI 1 (by decide) hs) h15 (by omega) t hk hl hit rc) with ⟨s1, e1, t1⟩ | ⟨r, d', s1, x2, x3, x4, e1, q1, g1, t1⟩
      · rcases spD_okI t1 hs hG with ⟨s2, e2, t2⟩ | ⟨r, d', s2, e2, q2, g2, t2⟩
        · obtain ⟨d', s3, e3, g3, t3⟩ := spE_okI (d := d) (L := L) (m := m + 1) h15 t2
          refine ⟨d', rD d', s3, ?_, rfl, g3, t3⟩
          show runF [0] 6 (m_law_spoilt (φ_law_spoilt (k + 1))) _ = _
          refine run0_sp h (ρ := [some (fz d), none, none, none, none]) ?_
          rw [sp_eq, wJ, e1, q8, wJ, spB_no hG.gd hw, q8, wJ, spC_no hG.gd ht, q8, wJ, e2, q8, e3]
        · refine ⟨d', r, s2, ?_, q2, g2, t2⟩
          show runF [0] 6 (m_law_spoilt (φ_law_spoilt (k + 1))) _ = _
          refine run0_sp h (ρ := [some (fz d), none, none, none, none]) ?_
          rw [sp_eq, wJ, e1, q8, wJ, spB_no hG.gd hw, q8, wJ, spC_no hG.gd ht, q8, wJ, e2, q9]
      · refine ⟨d', r, s1, ?_, q1, g1, t1⟩
        show runF [0] 6 (m_law_spoilt (φ_law_spoilt (k + 1))) _ = _
        refine run0_sp h (ρ := [some (fz d), x2, x3, x4, none]) ?_
        rw [sp_eq, wJ, e1, q9]
end Mm
namespace Mm
open PySem PySem.Spec L2
set_option autoImplicit false
def kE07 (s : SV) (ds : List PD) (x2 x4 x5 x6 x7 x8 x9 x10 x11 x12 : Option SV) : Env := [none, some s, x2, some (.pt ds), x4, x5, x6, x7, x8, x9, x10, x11, x12]
section
variable {ns : List Str} {f : Str → Int} {s : SV} {ds : List PD} {x2 x3 x4 x5 x6 x7 x8 x9 x10 x11 x12 : Option SV} {rows : List Pay} {L n : Nat}
theorem payB_congr {x : PD} (h : Gi L n x) (hL : iB L ≤ 1000000000000) : payB ns wP x = payB ns wL x := by
  cases x with
  | tuple xs =>
    by_cases h3 : (xs.length : Int) = 3
    · obtain ⟨x, y, c, rfl⟩ : ∃ x y c, xs = [x, y, c] := by
        have : xs.length = 3 := by omega
        match xs, this with
        | [x, y, c], _ => exact ⟨x, y, c, rfl⟩
      have e : wP c = wL c := by
        cases c with
        | int v =>
          have hv : v ≤ iB L := by
            cases n with
            | zero => exact absurd h id
            | succ n =>
              have := h.2 (.int v) (by simp)
              cases n <;> exact this
          show decide (1 ≤ v ∧ v ≤ 1000000000000) = decide (1 ≤ v)
          exact decide_eq_decide.mpr ⟨fun z => z.1, fun z => ⟨z, by omega⟩⟩
        | _ => rfl
      show (wP c && _) = (wL c && _)
      rw [e]
    · rw [payB_len h3, payB_len h3]
  | _ => rfl
theorem setB_congr {d : PD} (h : Gi L n d) (hL : iB L ≤ 1000000000000) : setB ns f wP d = setB ns f wL d := by
  cases d with
  | list xs =>
    obtain ⟨m, hel⟩ : ∃ m, ∀ x ∈ xs, Gi L m x := by cases n with
      | zero => exact absurd h id
      | succ m => exact ⟨m, h.2⟩
    have : xs.all (payB ns wP) = xs.all (payB ns wL) := by
      rw [Bool.eq_iff_iff, List.all_eq_true, List.all_eq_true]
      exact ⟨fun k x hx => by rw [← payB_congr (hel x hx) hL]; exact k x hx, fun k x hx => by rw [payB_congr (hel x hx) hL]; exact k x hx⟩
    show (xs.all (payB ns wP) && _) = (xs.all (payB ns wL) && _)
    rw [this]
  | _ => rfl
/-- one thing is judged -/
theorem judge07 {ρ : Env} {v1 v2 : Env → Out (PD × Env)} {b : Bool} (e1 : v1 ρ = .ok (.bool b, ρ)) (e2 : v2 ρ = .ok (.bool b, ρ)) : mIf (tNotM (fun ρ => tOf ((gCall (φ_law_like nR_law_like) (aVal v1 (aVal v2 aNil))) ρ))) (mRet (gPx (pK (.bool false)))) mNop ρ = .ok (.nx, ρ) := by
  have k := like_self (L := 0) (n := 0) (d := .bool b) (by omega) trivial (by omega)
  have g : gCall (φ_law_like nR_law_like) (aVal v1 (aVal v2 aNil)) ρ = .ok (rB true, ρ) := by
    have ea : aVal v1 (aVal v2 aNil) ρ = .ok ([.val (.bool b), .val (.bool b)], ρ) := by
      rw [wu, e1, q4, wu]
      dsimp only
      rw [e2]; rfl
    rw [xl, ea, q4]
    show (oB (some [fz (.bool b), fz (.bool b)]) fun as => if (slotsOf [AR.val (.bool b), AR.val (.bool b)]).Nodup then callK [AR.val (.bool b), AR.val (.bool b)] ρ (φ_law_like nR_law_like as) else .stuck) = _
    rw [q0, if_pos (show (slotsOf [AR.val (.bool b), AR.val (.bool b)]).Nodup from List.nodup_nil), k, xm, put_none fun i => rfl]
  generalize gCall (φ_law_like nR_law_like) (aVal v1 (aVal v2 aNil)) = w at g ⊢
  simp only [q0, q4, q6, q7, q8, q9, qf, qj, qm, qn, qp, qu, qw, qx, qy, qz, qA, qB, qC, qD, qE, qF, qG, qH, qI, qJ, qK, qL, qM, qN, qO, qP, qQ, qR, qS, qT, qU, qV, qW, qX, qY, qZ, w6, w7, wa, wb, wc, wd, we, wg, wh, wj, wl, wm, wn, wo, wp, wq, wr, wt, wu, wv, ww, wx, wy, wz, wA, wB, wC, wD, wE, wF, wG, wH, wI, wJ, wK, wM, wN, wO, wQ, wS, wT, wU, wV, wW, wX, wY, wZ, xa, xb, xc, xf, xg, xh, xi, xj, xk, xl, xm, xn, xo, xq, xr, xt, xu, xv, xw, xx, xy, xz, xA, xB, xC, xE, xG, xH, xI, xJ, xK, xL, xM, xN, xO, xP, xQ, xR, xS, xT, xU, xV, xW, List.map_cons, List.map_nil, List.length_cons, List.length_nil, List.cons_append, List.nil_append, List.set_cons_zero, List.set_cons_succ, List.getElem?_cons_zero, List.getElem?_cons_succ, Option.bind_some, Option.map_some, List.replicate_succ, xX, xY, xZ, y0, y1, y2, ya, yb, yc, yd, ye, yf, yg, yh, yi, yj, yk, ym, Nat.reduceSub, Nat.reduceAdd, if_true, if_false, decide_eq_true_eq, g, Bool.not_true, Bool.false_eq_true, ↓reduceIte]
theorem l5_07 {d : PD} (hn : ns.Nodup) (hl : ns.length ≤ 100) (h : Gi 60 n d) : l5_law_k07 (kE07 s (accsD ns f) x2 x4 x5 x6 x7 x8 x9 (some (fz d)) x11 x12) = .ok (.nx, kE07 s (accsD ns f) x2 x4 x5 x6 x7 x8 x9 (some (fz d)) x11 x12) := by
  have q1 := gset (f := f) (p := pVarP 3) (v := gPV (pVal (pVar 10))) (ρ := kE07 s (accsD ns f) x2 x4 x5 x6 x7 x8 x9 (some (fz d)) x11 x12) rfl rfl hn (by omega) h.gd (by omega)
  have q2 := glset (f := f) (p := pVarP 3) (v := gPV (pVal (pVar 10))) (ρ := kE07 s (accsD ns f) x2 x4 x5 x6 x7 x8 x9 (some (fz d)) x11 x12) rfl rfl hn (by omega) h.gd
  have q2' : vGx (gCall φ_law_settles (aPt (pVarP 3) (aVal (gPV (pVal (pVar 10))) aNil))) (kE07 s (accsD ns f) x2 x4 x5 x6 x7 x8 x9 (some (fz d)) x11 x12) = .ok (.bool (setB ns f wL d), kE07 s (accsD ns f) x2 x4 x5 x6 x7 x8 x9 (some (fz d)) x11 x12) := by
    rw [wm, q2]; rfl
  rw [setB_congr h (by decide)] at q1
  unfold l5_law_k07
  exact judge07 q1 q2'
theorem c1_07 (hl : ns.length ≤ 100) : c1_law_k07 (kE07 s (accsD ns f) x2 x4 x5 x6 x7 x8 x9 x10 x11 x12) = some (rL (ns.map PyData.str)) := by
  have big : 200000 < sizeLine := by decide
  unfold c1_law_k07
  rw [pComp_def, show iPP (pVarP 3) (kE07 s (accsD ns f) x2 x4 x5 x6 x7 x8 x9 x10 x11 x12) = some (accsD ns f) from rfl, Option.bind_some, if_pos (by rw [accs_len]; omega)]
  unfold accsD
  rw [loopP_ok (enc := fun s => .tuple [.str s, .int (f s)]) (tt := fun _ => true) (gg := PyData.str) ns fun y hy => ⟨[none, some s, x2, some (.pt (ns.map fun s => .tuple [.str s, .int (f s)])), x4, x5, x6, x7, x8, x9, x10, some (fz (.tuple [.str y, .int (f y)])), x12], rfl, rfl, fun _ => by simp only [q0, q4, q6, q7, q8, q9, qf, qj, qm, qn, qp, qu, qw, qx, qy, qz, qA, qB, qC, qD, qE, qF, qG, qH, qI, qJ, qK, qL, qM, qN, qO, qP, qQ, qR, qS, qT, qU, qV, qW, qX, qY, qZ, w6, w7, wa, wb, wc, wd, we, wg, wh, wj, wl, wm, wn, wo, wp, wq, wr, wt, wu, wv, ww, wx, wy, wz, wA, wB, wC, wD, wE, wF, wG, wH, wI, wJ, wK, wM, wN, wO, wQ, wS, wT, wU, wV, wW, wX, wY, wZ, xa, xb, xc, xf, xg, xh, xi, xj, xk, xl, xm, xn, xo, xq, xr, xt, xu, xv, xw, xx, xy, xz, xA, xB, xC, xE, xG, xH, xI, xJ, xK, xL, xM, xN, xO, xP, xQ, xR, xS, xT, xU, xV, xW, List.map_cons, List.map_nil, List.length_cons, List.length_nil, List.cons_append, List.nil_append, List.set_cons_zero, List.set_cons_succ, List.getElem?_cons_zero, List.getElem?_cons_succ, Option.bind_some, Option.map_some, List.replicate_succ, xX, xY, xZ, y0, y1, y2, ya, yb, yc, yd, ye, yf, yg, yh, yi, yj, yk, ym, Nat.reduceSub, Nat.reduceAdd, if_true, if_false, decide_eq_true_eq]⟩]
  rw [compD_all]; rfl
def turnD (p : Pay) : PD := .tuple [.str p.2.1, .str p.1, .int p.2.2]
def zeroD (p : Pay) : PD := .tuple [.str p.1, .str p.2.1, .int 0]
theorem c2_07 (hl : rows.length ≤ 100) : c2_law_k07 (kE07 s ds x2 (some (fz (.list (rows.map payD)))) x5 x6 x7 x8 x9 x10 x11 x12) = some (rL (rows.map turnD)) := by
  have big : 200000 < sizeLine := by decide
  unfold c2_law_k07
  rw [pComp_def, show iP (pVar 4) (kE07 s ds x2 (some (fz (.list (rows.map payD)))) x5 x6 x7 x8 x9 x10 x11 x12) = some (rows.map payD) from rfl, Option.bind_some, if_pos (by rw [List.length_map]; omega)]
  rw [loopP_ok (enc := payD) (tt := fun _ => true) (gg := turnD) rows fun y hy => ⟨kE07 s ds x2 (some (fz (.list (rows.map payD)))) x5 x6 x7 x8 x9 x10 (some (fz (payD y))) x12, rfl, rfl, fun _ => by
    unfold kE07 payD
    simp only [q0, q4, q6, q7, q8, q9, qf, qj, qm, qn, qp, qu, qw, qx, qy, qz, qA, qB, qC, qD, qE, qF, qG, qH, qI, qJ, qK, qL, qM, qN, qO, qP, qQ, qR, qS, qT, qU, qV, qW, qX, qY, qZ, w6, w7, wa, wb, wc, wd, we, wg, wh, wj, wl, wm, wn, wo, wp, wq, wr, wt, wu, wv, ww, wx, wy, wz, wA, wB, wC, wD, wE, wF, wG, wH, wI, wJ, wK, wM, wN, wO, wQ, wS, wT, wU, wV, wW, wX, wY, wZ, xa, xb, xc, xf, xg, xh, xi, xj, xk, xl, xm, xn, xo, xq, xr, xt, xu, xv, xw, xx, xy, xz, xA, xB, xC, xE, xG, xH, xI, xJ, xK, xL, xM, xN, xO, xP, xQ, xR, xS, xT, xU, xV, xW, List.map_cons, List.map_nil, List.length_cons, List.length_nil, List.cons_append, List.nil_append, List.set_cons_zero, List.set_cons_succ, List.getElem?_cons_zero, List.getElem?_cons_succ, Option.bind_some, Option.map_some, List.replicate_succ, xX, xY, xZ, y0, y1, y2, ya, yb, yc, yd, ye, yf, yg, yh, yi, yj, yk, ym, Nat.reduceSub, Nat.reduceAdd, if_true, if_false, decide_eq_true_eq, at_0, at_1, at_2]
    rfl⟩]
  rw [compD_all]; rfl
theorem c3_07 (hl : rows.length ≤ 100) : c3_law_k07 (kE07 s ds x2 (some (fz (.list (rows.map payD)))) x5 x6 x7 x8 x9 x10 x11 x12) = some (rL (rows.map zeroD)) := by
  have big : 200000 < sizeLine := by decide
  have hi : ∀ ρ, pInt (pK (.int 2)) ρ = some (some 2) := fun _ => rfl
  have hc : ∀ x y z : PD, cutD [x, y, z] none (some 2) = [x, y] := fun x y z => cutD_to [x, y, z] 2
  unfold c3_law_k07
  rw [pComp_def, show iP (pVar 4) (kE07 s ds x2 (some (fz (.list (rows.map payD)))) x5 x6 x7 x8 x9 x10 x11 x12) = some (rows.map payD) from rfl, Option.bind_some, if_pos (by rw [List.length_map]; omega)]
  rw [loopP_ok (enc := payD) (tt := fun _ => true) (gg := zeroD) rows fun y hy => ⟨kE07 s ds x2 (some (fz (.list (rows.map payD)))) x5 x6 x7 x8 x9 x10 (some (fz (payD y))) x12, rfl, rfl, fun _ => by
    unfold kE07 payD
    simp only [q0, q4, q6, q7, q8, q9, qf, qj, qm, qn, qp, qu, qw, qx, qy, qz, qA, qB, qC, qD, qE, qF, qG, qH, qI, qJ, qK, qL, qM, qN, qO, qP, qQ, qR, qS, qT, qU, qV, qW, qX, qY, qZ, w6, w7, wa, wb, wc, wd, we, wg, wh, wj, wl, wm, wn, wo, wp, wq, wr, wt, wu, wv, ww, wx, wy, wz, wA, wB, wC, wD, wE, wF, wG, wH, wI, wJ, wK, wM, wN, wO, wQ, wS, wT, wU, wV, wW, wX, wY, wZ, xa, xb, xc, xf, xg, xh, xi, xj, xk, xl, xm, xn, xo, xq, xr, xt, xu, xv, xw, xx, xy, xz, xA, xB, xC, xE, xG, xH, xI, xJ, xK, xL, xM, xN, xO, xP, xQ, xR, xS, xT, xU, xV, xW, List.map_cons, List.map_nil, List.length_cons, List.length_nil, List.cons_append, List.nil_append, List.set_cons_zero, List.set_cons_succ, List.getElem?_cons_zero, List.getElem?_cons_succ, Option.bind_some, Option.map_some, List.replicate_succ, xX, xY, xZ, y0, y1, y2, ya, yb, yc, yd, ye, yf, yg, yh, yi, yj, yk, ym, Nat.reduceSub, Nat.reduceAdd, if_true, if_false, decide_eq_true_eq, pCut_def, hi, fCut_t, hc]
    rw [fAdd_tt (by show 2 + 1 ≤ sizeLine; omega)]
    rfl⟩]
  rw [compD_all]; rfl
theorem c4_07 (t : Tp s) {told : PD} (h : Gi 26 2 told) : ∃ s' ts, c4_law_k07 (kE07 s ds x2 (some (fz told)) x5 x6 x7 x8 x9 x10 x11 none) = .ok (rL ts, kE07 s' ds x2 (some (fz told)) x5 x6 x7 x8 x9 x10 x11 none) ∧ Tp s' ∧ ts.length = 8 ∧ ∀ d ∈ ts, Gi 60 5 d := by
  obtain ⟨ts, ρ', k1, k2, ⟨s3, y, rfl, t3⟩⟩ := loopC_all (vs := [12]) (b := bName 12) (g := vGx (gCall (φ_law_spoilt nR_law_spoilt) (aSlot 1 (aVal (gPV (pVal (pVar 4))) aNil)))) (fun ρ => ∃ s3 y, ρ = kE07 s3 ds x2 (some (fz told)) x5 x6 x7 x8 x9 x10 x11 y ∧ Tp s3) (fun _ d => Gi 60 5 d) (rngD 0 8) [] (by rw [List.length_nil, rngD_len]; decide)
    (fun x _ ρ ⟨s3, y, e, t3⟩ => by
      subst e
      obtain ⟨d', r, s4, e1, e2, g, t4⟩ := spoilt_okI (L := 26) (by omega) (by omega) 11 2 told (by omega) t3 h
      have e1 : φ_law_spoilt nR_law_spoilt [s3, fz told] = .ok (r, [some s4, some (fz told)]) := e1
      refine ⟨kE07 s3 ds x2 (some (fz told)) x5 x6 x7 x8 x9 x10 x11 (some (fz x)), d', kE07 s4 ds x2 (some (fz told)) x5 x6 x7 x8 x9 x10 x11 (some (fz x)), rfl, ?_, g, ⟨s4, _, rfl, t4⟩⟩
      unfold kE07
      simp only [q0, q4, q6, q7, q8, q9, qf, qj, qm, qn, qp, qu, qw, qx, qy, qz, qA, qB, qC, qD, qE, qF, qG, qH, qI, qJ, qK, qL, qM, qN, qO, qP, qQ, qR, qS, qT, qU, qV, qW, qX, qY, qZ, w6, w7, wa, wb, wc, wd, we, wg, wh, wj, wl, wm, wn, wo, wp, wq, wr, wt, wu, wv, ww, wx, wy, wz, wA, wB, wC, wD, wE, wF, wG, wH, wI, wJ, wK, wM, wN, wO, wQ, wS, wT, wU, wV, wW, wX, wY, wZ, xa, xb, xc, xf, xg, xh, xi, xj, xk, xl, xm, xn, xo, xq, xr, xt, xu, xv, xw, xx, xy, xz, xA, xB, xC, xE, xG, xH, xI, xJ, xK, xL, xM, xN, xO, xP, xQ, xR, xS, xT, xU, xV, xW, List.map_cons, List.map_nil, List.length_cons, List.length_nil, List.cons_append, List.nil_append, List.set_cons_zero, List.set_cons_succ, List.getElem?_cons_zero, List.getElem?_cons_succ, Option.bind_some, Option.map_some, List.replicate_succ, xX, xY, xZ, y0, y1, y2, ya, yb, yc, yd, ye, yf, yg, yh, yi, yj, yk, ym, Nat.reduceSub, Nat.reduceAdd, if_true, if_false, decide_eq_true_eq, e1, e2]) (kE07 s ds x2 (some (fz told)) x5 x6 x7 x8 x9 x10 x11 none) ⟨s, none, rfl, t⟩
  refine ⟨s3, ts, ?_, t3, ?_, fun d hd => ?_⟩
  · unfold c4_law_k07
    rw [gComp_def, show gI (iA rng1 (vsCons (pVal (pK (.int 8))) vsNil)) (kE07 s ds x2 (some (fz told)) x5 x6 x7 x8 x9 x10 x11 none) = .ok (rngD 0 8, kE07 s ds x2 (some (fz told)) x5 x6 x7 x8 x9 x10 x11 none) from rfl, q4]
    dsimp only
    rw [k1]
    rfl
  · rw [← k2.length, rngD_len]
  · obtain ⟨_, _, q⟩ := k2.right d hd
    exact q
/-- a name of those there are -/
def nameE : Env → Out (PD × Env) := (vGx (g2 fIx (gPV (pVal (pVar 5))) (vGx (gCall φ_law_draw (aSlot 1 (aVal (gPV (pVal (pN (f1 fLen) (psCons (pVar 5) psNil)))) aNil))))))
theorem nameE_ok (t : Tp s) (hp : 0 < ns.length) (hl : ns.length ≤ 100) : ∃ a s', nameE (kE07 s ds x2 x4 (some (fz (.list (ns.map PyData.str)))) x6 x7 x8 x9 x10 x11 x12) = .ok (.str a, kE07 s' ds x2 x4 (some (fz (.list (ns.map PyData.str)))) x6 x7 x8 x9 x10 x11 x12) ∧ a ∈ ns ∧ Tp s' := by
  obtain ⟨r, s1, e1, a0, a1, t1⟩ := draw_ok t (m := ((ns.length : Nat) : Int)) (by omega) (small_log (by omega) (by omega))
  obtain ⟨d, hd, hx⟩ := ixs (ds := ns.map PyData.str) a0 (by rw [List.length_map]; exact a1)
  obtain ⟨a, ha, rfl⟩ := List.mem_map.mp hd
  refine ⟨a, s1, ?_, ha, t1⟩
  have hl : fLen (.frz (.list (ns.map PyData.str))) = some (rInt (ns.length : Nat)) := by show some (rInt _) = _; rw [List.length_map]
  have hix : fIx (.frz (.list (ns.map PyData.str))) (.frz (.int r)) = some (rS a) := by
    show (atI (ns.map PyData.str) r).map rD = _
    rw [hx]; rfl
  unfold nameE kE07
  generalize PyData.list (ns.map PyData.str) = NL at *
  simp only [q0, q4, q6, q7, q8, q9, qf, qj, qm, qn, qp, qu, qw, qx, qy, qz, qA, qB, qC, qD, qE, qF, qG, qH, qI, qJ, qK, qL, qM, qN, qO, qP, qQ, qR, qS, qT, qU, qV, qW, qX, qY, qZ, w6, w7, wa, wb, wc, wd, we, wg, wh, wj, wl, wm, wn, wo, wp, wq, wr, wt, wu, wv, ww, wx, wy, wz, wA, wB, wC, wD, wE, wF, wG, wH, wI, wJ, wK, wM, wN, wO, wQ, wS, wT, wU, wV, wW, wX, wY, wZ, xa, xb, xc, xf, xg, xh, xi, xj, xk, xl, xm, xn, xo, xq, xr, xt, xu, xv, xw, xx, xy, xz, xA, xB, xC, xE, xG, xH, xI, xJ, xK, xL, xM, xN, xO, xP, xQ, xR, xS, xT, xU, xV, xW, List.map_cons, List.map_nil, List.length_cons, List.length_nil, List.cons_append, List.nil_append, List.set_cons_zero, List.set_cons_succ, List.getElem?_cons_zero, List.getElem?_cons_succ, Option.bind_some, Option.map_some, List.replicate_succ, xX, xY, xZ, y0, y1, y2, ya, yb, yc, yd, ye, yf, yg, yh, yi, yj, yk, ym, Nat.reduceSub, Nat.reduceAdd, if_true, if_false, decide_eq_true_eq, hl, e1, hix]
theorem gi_pay {p : Pay} (h1 : p.1.length ≤ 26) (h2 : p.2.1.length ≤ 26) (h3 : p.2.2 ≤ 100000) {x y : Str} {v : Int} (hx : x = p.1 ∨ x = p.2.1 ∨ x = "nobody") (hy : y = p.1 ∨ y = p.2.1) (hv : v ≤ 100000) {m : Nat} : Gi 26 (m + 1) (.tuple [.str x, .str y, .int v]) := Gi.tup (by simp only [List.length_cons, List.length_nil]; omega) (by
  intro z hz
  simp only [List.mem_cons, List.not_mem_nil, or_false] at hz
  rcases hz with e | e | e <;> rw [e]
  · refine Gi.str ?_
    rcases hx with e | e | e <;> rw [e]
    · exact h1
    · exact h2
    · decide
  · refine Gi.str ?_
    rcases hy with e | e <;> rw [e]
    · exact h1
    · exact h2
  · exact Gi.int (by show v ≤ 999999998000; omega))
theorem fRev_f {xs : List PD} : fRev (.frz (.list xs)) = some (rL xs.reverse) := rfl
def six07 : Env → Out (Fl × Env) := (mSet 9 (gVx (gPV (pVal (pLst (vsCons (pVal (pVar 4)) (vsCons (pVal (p1 fRev (pVar 4))) (vsCons (pVal (pVar 8)) (vsCons (pVal (pCut (pVar 4) (pInt (pK (.int 1))) (fun _ => some none))) (vsCons (pVal (p2 fAdd (pVar 4) (pLst (vsCons (pVal (pTup (vsCons (pVal (pVar 6)) (vsCons (pVal (pVar 7)) (vsCons (pVal (pK (.int 3))) vsNil))))) (vsCons (pVal (pTup (vsCons (pVal (pVar 7)) (vsCons (pVal (pVar 6)) (vsCons (pVal (pK (.int 3))) vsNil))))) vsNil))))) (vsCons (pVal (pN (f1 fTuple) (psCons (pVar 4) psNil))) (vsCons (pVal (pLst vsNil)) vsNil))))))))))))
theorem six07_ok {R T : List PD} {a b : Str} (hR : R.length ≤ 100) : six07 (kE07 s ds x2 (some (fz (.list R))) x5 (some (fzS a)) (some (fzS b)) (some (fz (.list T))) x9 x10 x11 x12) = .ok (.nx, kE07 s ds x2 (some (fz (.list R))) x5 (some (fzS a)) (some (fzS b)) (some (fz (.list T))) (some (fz (.list [.list R, .list R.reverse, .list T, .list (R.drop 1), .list (R ++ [.tuple [.str a, .str b, .int 3], .tuple [.str b, .str a, .int 3]]), .tuple R, .list []]))) x10 x11 x12) := by
  have big : 200000 < sizeLine := by decide
  have hi : ∀ ρ, pInt (pK (.int 1)) ρ = some (some 1) := fun _ => rfl
  have fa : fAdd (.frz (.list R)) (.lst [.tuple [.str a, .str b, .int 3], .tuple [.str b, .str a, .int 3]]) = some (rL (R ++ [.tuple [.str a, .str b, .int 3], .tuple [.str b, .str a, .int 3]])) := fAdd_lo (by simp only [List.length_cons, List.length_nil]; omega)
  unfold six07 kE07
  simp only [q0, q4, q6, q7, q8, q9, qf, qj, qm, qn, qp, qu, qw, qx, qy, qz, qA, qB, qC, qD, qE, qF, qG, qH, qI, qJ, qK, qL, qM, qN, qO, qP, qQ, qR, qS, qT, qU, qV, qW, qX, qY, qZ, w6, w7, wa, wb, wc, wd, we, wg, wh, wj, wl, wm, wn, wo, wp, wq, wr, wt, wu, wv, ww, wx, wy, wz, wA, wB, wC, wD, wE, wF, wG, wH, wI, wJ, wK, wM, wN, wO, wQ, wS, wT, wU, wV, wW, wX, wY, wZ, xa, xb, xc, xf, xg, xh, xi, xj, xk, xl, xm, xn, xo, xq, xr, xt, xu, xv, xw, xx, xy, xz, xA, xB, xC, xE, xG, xH, xI, xJ, xK, xL, xM, xN, xO, xP, xQ, xR, xS, xT, xU, xV, xW, List.map_cons, List.map_nil, List.length_cons, List.length_nil, List.cons_append, List.nil_append, List.set_cons_zero, List.set_cons_succ, List.getElem?_cons_zero, List.getElem?_cons_succ, Option.bind_some, Option.map_some, List.replicate_succ, xX, xY, xZ, y0, y1, y2, ya, yb, yc, yd, ye, yf, yg, yh, yi, yj, yk, ym, Nat.reduceSub, Nat.reduceAdd, if_true, if_false, decide_eq_true_eq, fRev_f, pCut_def, hi, fCut_l, cutD_1, fa, fTuple_l]
def sev07 (an : List SV → Out (Res × Env)) (c3 : Env → Option Res) : Env → Out (Fl × Env) := (mSet 9 (gVx (vGx (g2 fAdd (gPV (pVal (pVar 9))) (vGx (gLst (aVal (gPV (pVal c3)) (aVal (vGx (gCall an (aSlot 1 (aVal (gPV (pVal (pK (.int 2)))) aNil)))) (aVal (gPV (pVal (p2 fAdd (pVar 4) (pLst (vsCons (pVal (pTup (vsCons (pVal (pK (.str "nobody"))) (vsCons (pVal (pVar 6)) (vsCons (pVal (pK (.int 1))) vsNil))))) vsNil))))) aNil)))))))))
theorem sev07_ok {an : List SV → Out (Res × Env)} {c3 : Env → Option Res} {s' : SV} {R Z W : List PD} {d : PD} {a : Str} (hR : R.length ≤ 100) (hW : W.length ≤ 100) (e1 : an [s, fz (.int 2)] = .ok (rD d, [some s', some (fz (.int 2))])) (hc : c3 (kE07 s ds x2 (some (fz (.list R))) x5 (some (fzS a)) x7 x8 (some (fz (.list W))) x10 x11 x12) = some (rL Z)) :
    sev07 an c3 (kE07 s ds x2 (some (fz (.list R))) x5 (some (fzS a)) x7 x8 (some (fz (.list W))) x10 x11 x12) = .ok (.nx, kE07 s' ds x2 (some (fz (.list R))) x5 (some (fzS a)) x7 x8 (some (fz (.list (W ++ [.list Z, d, .list (R ++ [.tuple [.str "nobody", .str a, .int 1]])])))) x10 x11 x12) := by
  have big : 200000 < sizeLine := by decide
  have fa : fAdd (.frz (.list R)) (.lst [.tuple [.str "nobody", .str a, .int 1]]) = some (rL (R ++ [.tuple [.str "nobody", .str a, .int 1]])) := fAdd_lo (by simp only [List.length_cons, List.length_nil]; omega)
  have fb : fAdd (.frz (.list W)) (.frz (.list [.list Z, d, .list (R ++ [.tuple [.str "nobody", .str a, .int 1]])])) = some (rL (W ++ [.list Z, d, .list (R ++ [.tuple [.str "nobody", .str a, .int 1]])])) := fAdd_ll (by simp only [List.length_cons, List.length_nil]; omega)
  unfold kE07 at hc
  unfold sev07 kE07
  simp only [q0, q4, q6, q7, q8, q9, qf, qj, qm, qn, qp, qu, qw, qx, qy, qz, qA, qB, qC, qD, qE, qF, qG, qH, qI, qJ, qK, qL, qM, qN, qO, qP, qQ, qR, qS, qT, qU, qV, qW, qX, qY, qZ, w6, w7, wa, wb, wc, wd, we, wg, wh, wj, wl, wm, wn, wo, wp, wq, wr, wt, wu, wv, ww, wx, wy, wz, wA, wB, wC, wD, wE, wF, wG, wH, wI, wJ, wK, wM, wN, wO, wQ, wS, wT, wU, wV, wW, wX, wY, wZ, xa, xb, xc, xf, xg, xh, xi, xj, xk, xl, xm, xn, xo, xq, xr, xt, xu, xv, xw, xx, xy, xz, xA, xB, xC, xE, xG, xH, xI, xJ, xK, xL, xM, xN, xO, xP, xQ, xR, xS, xT, xU, xV, xW, List.map_cons, List.map_nil, List.length_cons, List.length_nil, List.cons_append, List.nil_append, List.set_cons_zero, List.set_cons_succ, List.getElem?_cons_zero, List.getElem?_cons_succ, Option.bind_some, Option.map_some, List.replicate_succ, xX, xY, xZ, y0, y1, y2, ya, yb, yc, yd, ye, yf, yg, yh, yi, yj, yk, ym, Nat.reduceSub, Nat.reduceAdd, if_true, if_false, decide_eq_true_eq, hc, e1, fa, fb]
theorem eig07_ok {c4 : Env → Out (Res × Env)} {s' : SV} {W T : List PD} (hW : W.length ≤ 100) (hT : T.length ≤ 100) (hc : c4 (kE07 s ds x2 x4 x5 x6 x7 x8 (some (fz (.list W))) x10 x11 x12) = .ok (rL T, kE07 s' ds x2 x4 x5 x6 x7 x8 (some (fz (.list W))) x10 x11 x12)) :
    (mSet 9 (gVx (vGx (g2 fAdd (gPV (pVal (pVar 9))) (vGx c4))))) (kE07 s ds x2 x4 x5 x6 x7 x8 (some (fz (.list W))) x10 x11 x12) = .ok (.nx, kE07 s' ds x2 x4 x5 x6 x7 x8 (some (fz (.list (W ++ T)))) x10 x11 x12) := by
  have big : 200000 < sizeLine := by decide
  have fb : fAdd (.frz (.list W)) (.frz (.list T)) = some (rL (W ++ T)) := fAdd_ll (by omega)
  unfold kE07 at hc ⊢
  simp only [q0, q4, q6, q7, q8, q9, qf, qj, qm, qn, qp, qu, qw, qx, qy, qz, qA, qB, qC, qD, qE, qF, qG, qH, qI, qJ, qK, qL, qM, qN, qO, qP, qQ, qR, qS, qT, qU, qV, qW, qX, qY, qZ, w6, w7, wa, wb, wc, wd, we, wg, wh, wj, wl, wm, wn, wo, wp, wq, wr, wt, wu, wv, ww, wx, wy, wz, wA, wB, wC, wD, wE, wF, wG, wH, wI, wJ, wK, wM, wN, wO, wQ, wS, wT, wU, wV, wW, wX, wY, wZ, xa, xb, xc, xf, xg, xh, xi, xj, xk, xl, xm, xn, xo, xq, xr, xt, xu, xv, xw, xx, xy, xz, xA, xB, xC, xE, xG, xH, xI, xJ, xK, xL, xM, xN, xO, xP, xQ, xR, xS, xT, xU, xV, xW, List.map_cons, List.map_nil, List.length_cons, List.length_nil, List.cons_append, List.nil_append, List.set_cons_zero, List.set_cons_succ, List.getElem?_cons_zero, List.getElem?_cons_succ, Option.bind_some, Option.map_some, List.replicate_succ, xX, xY, xZ, y0, y1, y2, ya, yb, yc, yd, ye, yf, yg, yh, yi, yj, yk, ym, Nat.reduceSub, Nat.reduceAdd, if_true, if_false, decide_eq_true_eq, hc, fb]
theorem acc07 {s' : SV} {m : Int} (e : φ_law_accounts [s, fzI m] = .ok (rP ds, [some s', some (fzI m)])) : mSet 3 (gCall φ_law_accounts (aSlot 1 (aVal (gPV (pVal (pK (.int m)))) aNil))) [none, some s, x2, x3, x4, x5, x6, x7, x8, x9, x10, x11, x12] = .ok (.nx, kE07 s' ds x2 x4 x5 x6 x7 x8 x9 x10 x11 x12) := by
  unfold kE07
  simp only [q0, q4, q6, q7, q8, q9, qf, qj, qm, qn, qp, qu, qw, qx, qy, qz, qA, qB, qC, qD, qE, qF, qG, qH, qI, qJ, qK, qL, qM, qN, qO, qP, qQ, qR, qS, qT, qU, qV, qW, qX, qY, qZ, w6, w7, wa, wb, wc, wd, we, wg, wh, wj, wl, wm, wn, wo, wp, wq, wr, wt, wu, wv, ww, wx, wy, wz, wA, wB, wC, wD, wE, wF, wG, wH, wI, wJ, wK, wM, wN, wO, wQ, wS, wT, wU, wV, wW, wX, wY, wZ, xa, xb, xc, xf, xg, xh, xi, xj, xk, xl, xm, xn, xo, xq, xr, xt, xu, xv, xw, xx, xy, xz, xA, xB, xC, xE, xG, xH, xI, xJ, xK, xL, xM, xN, xO, xP, xQ, xR, xS, xT, xU, xV, xW, List.map_cons, List.map_nil, List.length_cons, List.length_nil, List.cons_append, List.nil_append, List.set_cons_zero, List.set_cons_succ, List.getElem?_cons_zero, List.getElem?_cons_succ, Option.bind_some, Option.map_some, List.replicate_succ, xX, xY, xZ, y0, y1, y2, ya, yb, yc, yd, ye, yf, yg, yh, yi, yj, yk, ym, Nat.reduceSub, Nat.reduceAdd, if_true, if_false, decide_eq_true_eq, e]
theorem set07 {v : Env → Out (PD × Env)} {d : PD} (e : v (kE07 s ds x2 x4 x5 x6 x7 x8 x9 x10 x11 x12) = .ok (d, kE07 s ds x2 x4 x5 x6 x7 x8 x9 x10 x11 x12)) : mSet 4 (gVx v) (kE07 s ds x2 x4 x5 x6 x7 x8 x9 x10 x11 x12) = .ok (.nx, kE07 s ds x2 (some (fz d)) x5 x6 x7 x8 x9 x10 x11 x12) := by
  rw [wM, wl, e]; rfl
theorem par07 {v w : Env → Out (PD × Env)} {d e : PD} {s1 s2 : SV} (h1 : v (kE07 s ds x2 x4 x5 x6 x7 x8 x9 x10 x11 x12) = .ok (d, kE07 s1 ds x2 x4 x5 x6 x7 x8 x9 x10 x11 x12)) (h2 : w (kE07 s1 ds x2 x4 x5 x6 x7 x8 x9 x10 x11 x12) = .ok (e, kE07 s2 ds x2 x4 x5 x6 x7 x8 x9 x10 x11 x12)) : mPar 6 7 v w (kE07 s ds x2 x4 x5 x6 x7 x8 x9 x10 x11 x12) = .ok (.nx, kE07 s2 ds x2 x4 x5 (some (fz d)) (some (fz e)) x8 x9 x10 x11 x12) := by
  unfold mPar
  rw [h1, q4]
  dsimp only
  rw [h2]; rfl
end
theorem turn07 {s : SV} (t : Tp s) (x2 x3 x4 x5 x6 x7 x8 x9 x10 x11 : Option SV) : ∃ s' y3 y4 y5 y6 y7 y8 y9 y10 y11, l6_law_k07 [none, some s, x2, x3, x4, x5, x6, x7, x8, x9, x10, x11, none] = .ok (.nx, [none, some s', x2, y3, y4, y5, y6, y7, y8, y9, y10, y11, none]) ∧ Tp s' := by
  obtain ⟨ns, f, s1, e1, t1, nd, hl, hp, h0, hb, h8⟩ := accounts_ok t (m := 5) (by decide) (by decide)
  have hl5 : ns.length ≤ 5 := by omega
  have A1 := acc07 (x2 := x2) (x3 := x3) (x4 := x4) (x5 := x5) (x6 := x6) (x7 := x7) (x8 := x8) (x9 := x9) (x10 := x10) (x11 := x11) (x12 := none) e1
  have A2 := set07 (v := vGx (gCall φ_payments (aPt (pVarP 3) aNil))) (gpay (f := f) (p := pVarP 3) (ρ := kE07 s1 (accsD ns f) x2 x4 x5 x6 x7 x8 x9 x10 x11 none) rfl nd (by omega) h0)
  have g := pay_good (f := f) (B := 200) (by omega) nd (by omega) h0 hb
  have pl := pl_len (F := f) nd h0
  generalize payL ns f = rows at A2 g pl
  have A3 := gFz_new (g := gPx c1_law_k07) (ρ := kE07 s1 (accsD ns f) x2 (some (fz (.list (rows.map payD)))) x5 x6 x7 x8 x9 x10 x11 none) (by rw [we, c1_07 (by omega)]; rfl)
  have B3 : mSet 5 (gFz (gPx c1_law_k07)) (kE07 s1 (accsD ns f) x2 (some (fz (.list (rows.map payD)))) x5 x6 x7 x8 x9 x10 x11 none) = .ok (.nx, kE07 s1 (accsD ns f) x2 (some (fz (.list (rows.map payD)))) (some (fz (.list (ns.map PyData.str)))) x6 x7 x8 x9 x10 x11 none) := by
    rw [wM, A3]; rfl
  obtain ⟨a, s2, n1, ha, t2⟩ := nameE_ok (ns := ns) (ds := accsD ns f) (x2 := x2) (x4 := some (fz (.list (rows.map payD)))) (x6 := x6) (x7 := x7) (x8 := x8) (x9 := x9) (x10 := x10) (x11 := x11) (x12 := none) t1 hp (by omega)
  obtain ⟨b, s3, n2, hb', t3⟩ := nameE_ok (ns := ns) (ds := accsD ns f) (x2 := x2) (x4 := some (fz (.list (rows.map payD)))) (x6 := x6) (x7 := x7) (x8 := x8) (x9 := x9) (x10 := x10) (x11 := x11) (x12 := none) t2 hp (by omega)
  have A4 := par07 n1 n2
  have A5 := gFz_new (g := gPx c2_law_k07) (ρ := kE07 s3 (accsD ns f) x2 (some (fz (.list (rows.map payD)))) (some (fz (.list (ns.map PyData.str)))) (some (fzS a)) (some (fzS b)) x8 x9 x10 x11 none) (by rw [we, c2_07 (by omega)]; rfl)
  have B5 : mSet 8 (gFz (gPx c2_law_k07)) (kE07 s3 (accsD ns f) x2 (some (fz (.list (rows.map payD)))) (some (fz (.list (ns.map PyData.str)))) (some (fzS a)) (some (fzS b)) x8 x9 x10 x11 none) = .ok (.nx, kE07 s3 (accsD ns f) x2 (some (fz (.list (rows.map payD)))) (some (fz (.list (ns.map PyData.str)))) (some (fzS a)) (some (fzS b)) (some (fz (.list (rows.map turnD)))) x9 x10 x11 none) := by
    rw [wM, A5]; rfl
  have A6 := six07_ok (s := s3) (ds := accsD ns f) (x2 := x2) (x5 := some (fz (.list (ns.map PyData.str)))) (x9 := x9) (x10 := x10) (x11 := x11) (x12 := none) (R := rows.map payD) (T := rows.map turnD) (a := a) (b := b) (by rw [List.length_map]; omega)
  obtain ⟨d, s4, e4, g4, t4⟩ := any_atI 2 (by decide) t3
  have e4 : φ_law_any nR_law_any [s3, fz (.int 2)] = .ok (rD d, [some s4, some (fz (.int 2))]) := e4
  have A7 := sev07_ok (s := s3) (ds := accsD ns f) (x2 := x2) (x5 := some (fz (.list (ns.map PyData.str)))) (x7 := some (fzS b)) (x8 := some (fz (.list (rows.map turnD)))) (x10 := x10) (x11 := x11) (x12 := none) (R := rows.map payD) (W := [.list (rows.map payD), .list (rows.map payD).reverse, .list (rows.map turnD), .list ((rows.map payD).drop 1), .list (rows.map payD ++ [.tuple [.str a, .str b, .int 3], .tuple [.str b, .str a, .int 3]]), .tuple (rows.map payD), .list []]) (a := a) (by rw [List.length_map]; omega) (by simp only [List.length_cons, List.length_nil]; omega) e4 (c3_07 (by omega))
  -- what they are
  have hr8 : ∀ p ∈ rows, p.1.length ≤ 26 ∧ p.2.1.length ≤ 26 ∧ p.2.2 ≤ 100000 := fun p hp => by
    obtain ⟨q1, q2, _, _, q5⟩ := g p hp
    exact ⟨Nat.le_trans (h8 _ q1) (by omega), Nat.le_trans (h8 _ q2) (by omega), by omega⟩
  have ha8 : a.length ≤ 26 := Nat.le_trans (h8 _ ha) (by omega)
  have hb8 : b.length ≤ 26 := Nat.le_trans (h8 _ hb') (by omega)
  have el1 : ∀ x ∈ rows.map payD, Gi 26 1 x := fun x hx => by
    obtain ⟨p, hp, rfl⟩ := List.mem_map.mp hx
    obtain ⟨q1, q2, q3⟩ := hr8 p hp
    exact gi_pay q1 q2 q3 (.inl rfl) (.inr rfl) q3
  have el2 : ∀ x ∈ rows.map turnD, Gi 26 1 x := fun x hx => by
    obtain ⟨p, hp, rfl⟩ := List.mem_map.mp hx
    obtain ⟨q1, q2, q3⟩ := hr8 p hp
    exact gi_pay q1 q2 q3 (.inr (.inl rfl)) (.inl rfl) q3
  have el3 : ∀ x ∈ rows.map zeroD, Gi 26 1 x := fun x hx => by
    obtain ⟨p, hp, rfl⟩ := List.mem_map.mp hx
    obtain ⟨q1, q2, q3⟩ := hr8 p hp
    exact gi_pay q1 q2 q3 (.inl rfl) (.inr rfl) (by omega)
  have lst : ∀ xs : List PD, xs.length ≤ 26 → (∀ x ∈ xs, Gi 26 1 x) → Gi 60 5 (.list xs) := fun xs h1 h2 => Gi.mono (by omega) (by omega) (Gi.lst h1 h2)
  have ab : ∀ x ∈ ([.tuple [.str a, .str b, .int 3], .tuple [.str b, .str a, .int 3]] : List PD), Gi 26 1 x := fun x hx => by
    simp only [List.mem_cons, List.not_mem_nil, or_false] at hx
    rcases hx with e | e <;> rw [e]
    · exact gi_pay (p := (a, b, 3)) ha8 hb8 (by show (3 : Int) ≤ 100000; omega) (.inl rfl) (.inr rfl) (by omega)
    · exact gi_pay (p := (a, b, 3)) ha8 hb8 (by show (3 : Int) ≤ 100000; omega) (.inr (.inl rfl)) (.inl rfl) (by omega)
  have nb : Gi 26 1 (.tuple [.str "nobody", .str a, .int 1]) := gi_pay (p := (a, b, 3)) ha8 hb8 (by show (3 : Int) ≤ 100000; omega) (.inr (.inr rfl)) (.inl rfl) (by omega)
  have hlen : (rows.map payD).length ≤ 5 := by rw [List.length_map]; omega
  have hlen2 : (rows.map turnD).length ≤ 5 := by rw [List.length_map]; omega
  have hlen3 : (rows.map zeroD).length ≤ 5 := by rw [List.length_map]; omega
  have told : Gi 26 2 (.list (rows.map payD)) := Gi.lst (by omega) el1
  generalize rows.map payD = R at *
  generalize rows.map turnD = T at *
  generalize rows.map zeroD = Z at *
  have G1 : ∀ x ∈ [.list R, .list R.reverse, .list T, .list (R.drop 1), .list (R ++ [.tuple [.str a, .str b, .int 3], .tuple [.str b, .str a, .int 3]]), .tuple R, .list []] ++ [.list Z, d, .list (R ++ [.tuple [.str "nobody", .str a, .int 1]])], Gi 60 5 x := fun x hx => by
    simp only [List.cons_append, List.nil_append, List.mem_cons, List.not_mem_nil, or_false] at hx
    rcases hx with e | e | e | e | e | e | e | e | e | e <;> rw [e]
    · exact lst R (by omega) el1
    · exact lst _ (by rw [List.length_reverse]; omega) fun x hx => el1 x (List.mem_reverse.mp hx)
    · exact lst T (by omega) el2
    · exact lst _ (by rw [List.length_drop]; omega) fun x hx => el1 x (List.mem_of_mem_drop hx)
    · exact lst _ (by rw [List.length_append]; simp only [List.length_cons, List.length_nil]; omega) fun x hx => (List.mem_append.mp hx).elim (el1 x) (ab x)
    · exact Gi.mono (L := 26) (n := 2) (by omega) (by omega) (Gi.tup (by omega) el1)
    · exact lst [] (by decide) fun x hx => by cases hx
    · exact lst Z (by omega) el3
    · exact Gi.mono (by omega) (by omega) g4
    · exact lst _ (by rw [List.length_append, List.length_singleton]; omega) fun x hx => (List.mem_append.mp hx).elim (el1 x) fun h => by rw [List.mem_singleton.mp h]; exact nb
  have hW : ([.list R, .list R.reverse, .list T, .list (R.drop 1), .list (R ++ [.tuple [.str a, .str b, .int 3], .tuple [.str b, .str a, .int 3]]), .tuple R, .list []] ++ [.list Z, d, .list (R ++ [.tuple [.str "nobody", .str a, .int 1]])] : List PD).length ≤ 100 := by
    simp only [List.cons_append, List.nil_append, List.length_cons, List.length_nil]; omega
  generalize ([.list R, .list R.reverse, .list T, .list (R.drop 1), .list (R ++ [.tuple [.str a, .str b, .int 3], .tuple [.str b, .str a, .int 3]]), .tuple R, .list []] : List PD) = W0 at *
  generalize W0 ++ [.list Z, d, .list (R ++ [.tuple [.str "nobody", .str a, .int 1]])] = W at *
  obtain ⟨s5, ts, c4, t5, h8t, g5⟩ := c4_07 (ds := accsD ns f) (x2 := x2) (x5 := some (fz (.list (ns.map PyData.str)))) (x6 := some (fzS a)) (x7 := some (fzS b)) (x8 := some (fz (.list T))) (x9 := some (fz (.list W))) (x10 := x10) (x11 := x11) t4 told
  have A8 := eig07_ok hW (by omega) c4
  have G2 : ∀ x ∈ W ++ ts, Gi 60 5 x := fun x hx => (List.mem_append.mp hx).elim (G1 x) (g5 x)
  obtain ⟨ρ', k9, ⟨y10, rfl⟩⟩ := for_inv (b := bName 10) (g := l5_law_k07) (fun ρ => ∃ x10, ρ = kE07 s5 (accsD ns f) x2 (some (fz (.list R))) (some (fz (.list (ns.map PyData.str)))) (some (fzS a)) (some (fzS b)) (some (fz (.list T))) (some (fz (.list (W ++ ts)))) x10 x11 none) (W ++ ts)
    (fun x hx ρ ⟨x10, e⟩ => by
      subst e
      exact ⟨_, _, rfl, l5_07 (f := f) nd (by omega) (G2 x hx), ⟨some (fz x), rfl⟩⟩) _ ⟨x10, rfl⟩
  have A9 : mFor (iSq (gPV (pVal (pVar 9)))) (bName 10) l5_law_k07 (kE07 s5 (accsD ns f) x2 (some (fz (.list R))) (some (fz (.list (ns.map PyData.str)))) (some (fzS a)) (some (fzS b)) (some (fz (.list T))) (some (fz (.list (W ++ ts)))) x10 x11 none) = _ := k9
  refine ⟨s5, some (.pt (accsD ns f)), some (fz (.list R)), some (fz (.list (ns.map PyData.str))), some (fzS a), some (fzS b), some (fz (.list T)), some (fz (.list (W ++ ts))), y10, x11, ?_, t5⟩
  rw [show l6_law_k07 = mSeq (mSet 3 (gCall φ_law_accounts (aSlot 1 (aVal (gPV (pVal (pK (.int 5)))) aNil)))) (mSeq (mSet 4 (gVx (vGx (gCall φ_payments (aPt (pVarP 3) aNil))))) (mSeq (mSet 5 (gFz (gPx c1_law_k07))) (mSeq (mPar 6 7 nameE nameE) (mSeq (mSet 8 (gFz (gPx c2_law_k07))) (mSeq six07 (mSeq (sev07 (φ_law_any nR_law_any) c3_law_k07) (mSeq (mSet 9 (gVx (vGx (g2 fAdd (gPV (pVal (pVar 9))) (vGx c4_law_k07))))) (mFor (iSq (gPV (pVal (pVar 9)))) (bName 10) l5_law_k07)))))))) from rfl]
  rw [wJ, A1, q8, wJ, A2, q8, wJ, B3, q8, wJ, A4, q8, wJ, B5, q8, wJ, A6, q8, wJ, A7, q8, wJ, A8, q8, A9]
  rfl
theorem law_holds_k07 (ns : List Int) (hn : ns.length ≤ 63) : ∃ ρ', m_law_k07 (lawEnv 13 ns) = .ok (.rt (rB true), ρ') := by
  have t0 : Tp (.one (.lst [.list (ns.map .int), .int 0, .int 0])) := ⟨ns, 0, 0, Int.le_refl 0, hn, rfl⟩
  obtain ⟨ρ', k1, ⟨s1, x2, x3, x4, x5, x6, x7, x8, x9, x10, x11, rfl, t1⟩⟩ := for_inv (b := bName 2) (g := l6_law_k07) (fun ρ => ∃ s1 x2 x3 x4 x5 x6 x7 x8 x9 x10 x11, ρ = [none, some s1, x2, x3, x4, x5, x6, x7, x8, x9, x10, x11, none] ∧ Tp s1) (rngD 0 4)
    (fun x hx ρ ⟨s1, x2, x3, x4, x5, x6, x7, x8, x9, x10, x11, e, t1⟩ => by
      subst e
      obtain ⟨s2, y3, y4, y5, y6, y7, y8, y9, y10, y11, k, t2⟩ := turn07 t1 (some (fz x)) x3 x4 x5 x6 x7 x8 x9 x10 x11
      exact ⟨_, _, rfl, k, ⟨_, _, _, _, _, _, _, _, _, _, _, rfl, t2⟩⟩) (lawEnv 13 ns) ⟨_, _, _, _, _, _, _, _, _, _, _, rfl, t0⟩
  refine ⟨[none, some s1, x2, x3, x4, x5, x6, x7, x8, x9, x10, x11, none], ?_⟩
  unfold m_law_k07
  rw [wJ, wU, show ∀ ρ, gI (iA rng1 (vsCons (pVal (pK (.int 4))) vsNil)) ρ = .ok (rngD 0 4, ρ) from fun _ => rfl, q4]
  dsimp only
  rw [k1, q8]
  rfl
end Mm

namespace Mm.Lk07
open PySem PySem.Spec L2
set_option autoImplicit false
def topS (i : Nat) : Stmt := PySem.Challenge.pw_shelfunion_k07_payments_judged.main.body.getD i (.Pass ⟨0, 0, 0, 0⟩)
structure Z (mg : Str → Option Value) : Prop where
  all : mg "all" = none
  bool : mg "bool" = none
  dict : mg "dict" = none
  int : mg "int" = none
  isinstance : mg "isinstance" = none
  len : mg "len" = none
  list : mg "list" = none
  max : mg "max" = none
  range : mg "range" = none
  sorted : mg "sorted" = none
  str : mg "str" = none
  sum : mg "sum" = none
  tuple : mg "tuple" = none
  zip : mg "zip" = none
section
variable {P : Program} {w : World} {K : PySem.W.Frag} {mg : Str → Option Value} {base : Heap}
abbrev s_is_whole : Stmt := topS 1
theorem sc_is_whole : FnScope ["thing"] ["thing"] (defScope s_is_whole) := ⟨rfl, rfl, rfl, by decide +kernel, rfl, by decide +kernel, by decide +kernel⟩
theorem cal_is_whole {f : Addr} {fd : FuncData} (F : Fun K "is_whole" "is_whole" s_is_whole f fd) (hm : mg "is_whole" = some (.ref f)) (hb : Binds K fd ["thing"] []) (z : Z mg) : Cal P w K mg base 1 "is_whole" 1 φ_is_whole :=
  cal_mk (N := ["thing"]) (S := []) (k := 0) F hm hb sc_is_whole (fun as => rfl) (fun cdv A outer s H E hr => by
    have sc := sc_is_whole
    have u65 := Room.u65 hr
    have u64 := Room.u64 hr
    have u1 := Room.u1 hr
    exact (ms_one (ms_ret (gx_px (px_and (px_isi rfl z.isinstance rfl z.int bt_int isT_int (px_var (i := 0))) (px_one (px_not (px_isi rfl z.isinstance rfl z.bool bt_bool isT_bool (px_var (i := 0))))))))))
abbrev s_lots_of : Stmt := topS 4
theorem sc_lots_of : FnScope ["names", "found", "name", "lot"] ["names"] (defScope s_lots_of) := ⟨rfl, rfl, rfl, by decide +kernel, rfl, by decide +kernel, by decide +kernel⟩
theorem cal_lots_of {f : Addr} {fd : FuncData} (F : Fun K "lots_of" "lots_of" s_lots_of f fd) (hm : mg "lots_of" = some (.ref f)) (hb : Binds K fd ["names"] []) (z : Z mg) : Cal P w K mg base 1 "lots_of" 1 φ_lots_of :=
  cal_mk (N := ["names", "found", "name", "lot"]) (S := []) (k := 0) F hm hb sc_lots_of (fun as => rfl) (fun cdv A outer s H E hr => by
    have sc := sc_lots_of
    have u65 := Room.u65 hr
    have u64 := Room.u64 hr
    have u1 := Room.u1 hr
    exact (ms_cons (ms_set sc.nd (gx_vx (vx_pv (pv_px (px_lst (vs_cons (pv_px (px_tup vs_nil)) vs_nil))))) (i := 1))
    (ms_cons (ms_for PassesOwn.never rfl (ix_seq (vx_pv (pv_px (px_var (i := 0))))) (mg_name sc.nd (i := 2))
    (ms_one (ms_set sc.nd (gx_vx (vx_pv (pv_px (px_op op_addM f_add (px_var (i := 1)) (px_comp rfl sc.nd [("lot", 3)] (by kernel_rfl) (pix_seq (px_var (i := 1))) (fun s_ H_ C_ cl_ fp_ => (mg_name sc.nd (i := 3))) (fun s_ H_ C_ cl_ fp_ => cp_nil) (fun s_ H_ C_ cl_ fp_ => (pv_px (px_op op_addM f_add (px_var (i := 3)) (px_tup (vs_cons (pv_px (px_var (i := 2))) vs_nil)))))))))) (i := 1))))
    (ms_one (ms_ret (gx_px (px_var (i := 1))))))))
abbrev s_paid_in : Stmt := topS 6
theorem sc_paid_in : FnScope ["amounts", "lot", "found", "left", "name", "other"] ["amounts", "lot"] (defScope s_paid_in) := ⟨rfl, rfl, rfl, by decide +kernel, rfl, by decide +kernel, by decide +kernel⟩
theorem cal_paid_in {f : Addr} {fd : FuncData} (F : Fun K "paid_in" "paid_in" s_paid_in f fd) (hm : mg "paid_in" = some (.ref f)) (hb : Binds K fd ["amounts", "lot"] []) (z : Z mg) : Cal P w K mg base 1 "paid_in" 2 φ_paid_in :=
  cal_mk (N := ["amounts", "lot", "found", "left", "name", "other"]) (S := [0]) (k := 0) F hm hb sc_paid_in (fun as => rfl) (fun cdv A outer s H E hr => by
    have sc := sc_paid_in
    have u65 := Room.u65 hr
    have u64 := Room.u64 hr
    have u1 := Room.u1 hr
    exact (ms_cons (ms_set sc.nd (gx_px (px_lst vs_nil)) (i := 2))
    (ms_cons (ms_set sc.nd (gx_vx (vx_pv (pv_px px_int))) (i := 3))
    (ms_cons (ms_for PassesOwn.never rfl (ix_s (pis_zip rfl z.zip (vs_cons (pv_px (px_var (i := 1))) (vs_cons (pv_px (px_cut (px_var (i := 1)) (pp_some px_int) pp_none)) vs_nil)))) (mg_tup rfl (mgs_cons (mg_name sc.nd (i := 4)) (mgs_cons (mg_name sc.nd (i := 5)) mgs_nil)))
    (ms_cons (ms_aug sc.nd ip_add (vx_pv (pv_px (px_ix u1 (px_var (i := 0)) (px_var (i := 4))))) (i := 3))
    (ms_one (ms_if (tx_tp (tp_cmp op_gt f_gt (px_var (i := 3)) px_int))
    (ms_one (ms_append (i := 2) (vx_pv (pv_px (px_tup (vs_cons (pv_px (px_var (i := 5))) (vs_cons (pv_px (px_var (i := 4))) (vs_cons (pv_px (px_var (i := 3))) vs_nil)))))) (h := fun t pe => ps_expr (pe_bm PySem.F.plainAttrs_list PySem.F.slot_list_append PySem.F.type_list_append mt_append (pe_var rfl (by first | exact Or.inl rfl | exact Or.inr (Or.inl rfl) | exact Or.inr (Or.inr rfl))) (pa_cons pe pa_nil)))))
    (ms_one (ms_if (tx_tp (tp_cmp (op_ltM u64) f_lt (px_var (i := 3)) px_int))
    (ms_one (ms_append (i := 2) (vx_pv (pv_px (px_tup (vs_cons (pv_px (px_var (i := 4))) (vs_cons (pv_px (px_var (i := 5))) (vs_cons (pv_px (px_neg (px_var (i := 3)))) vs_nil)))))) (h := fun t pe => ps_expr (pe_bm PySem.F.plainAttrs_list PySem.F.slot_list_append PySem.F.type_list_append mt_append (pe_var rfl (by first | exact Or.inl rfl | exact Or.inr (Or.inl rfl) | exact Or.inr (Or.inr rfl))) (pa_cons pe pa_nil)))))
    ms_nil))))))
    (ms_one (ms_retOwn (i := 2)))))))
abbrev s_law_draw : Stmt := topS 11
theorem sc_law_draw : FnScope ["tape", "many", "prime", "cell", "found"] ["tape", "many"] (defScope s_law_draw) := ⟨rfl, rfl, rfl, by decide +kernel, rfl, by decide +kernel, by decide +kernel⟩
theorem cal_law_draw {f : Addr} {fd : FuncData} (F : Fun K "_law_draw" "_law_draw" s_law_draw f fd) (hm : mg "_law_draw" = some (.ref f)) (hb : Binds K fd ["tape", "many"] []) (z : Z mg) : Cal P w K mg base 1 "_law_draw" 2 φ_law_draw :=
  cal_mk (N := ["tape", "many", "prime", "cell", "found"]) (S := [0]) (k := 0) F hm hb sc_law_draw (fun as => rfl) (fun cdv A outer s H E hr => by
    have sc := sc_law_draw
    have u65 := Room.u65 hr
    have u64 := Room.u64 hr
    have u1 := Room.u1 hr
    exact (ms_cons (ms_set sc.nd (gx_vx (vx_pv (pv_px px_int))) (i := 2))
    (ms_cons (ms_if (tx_tp (tp_cmp (op_ltM u64) f_lt (px_ix u1 (px_var (i := 0)) px_int) (px_var (i := 1))))
    (ms_cons (ms_set sc.nd (gx_vx (vx_pv (pv_px px_int))) (i := 3))
    (ms_cons (ms_if (tx_tp (tp_cmp op_gt f_gt (px_b_len rfl z.len  (xs_cons (px_ix u1 (px_var (i := 0)) px_int) xs_nil)) px_int))
    (ms_one (ms_set sc.nd (gx_vx (vx_pv (pv_px (px_ix u1 (px_ix u1 (px_var (i := 0)) px_int) (px_op op_mod f_mod (px_ix u1 (px_var (i := 0)) px_int) (px_b_len rfl z.len  (xs_cons (px_ix u1 (px_var (i := 0)) px_int) xs_nil))))))) (i := 3)))
    ms_nil)
    (ms_cons (ms_if (tx_tp (tp_w (wp_or (tp_cmp op_ge f_ge (px_ix u1 (px_var (i := 0)) px_int) (px_b_len rfl z.len  (xs_cons (px_ix u1 (px_var (i := 0)) px_int) xs_nil))) (wp_or1 (tp_cmp (op_ltM u64) f_lt (px_var (i := 3)) (px_op op_pow f_pow px_int px_int))))))
    (ms_cons (ms_set sc.nd (gx_vx (vx_pv (pv_px (px_op op_mod f_mod (px_op op_addM f_add (px_var (i := 3)) (px_op op_mulM f_mul px_int (px_ix u1 (px_var (i := 0)) px_int))) (px_var (i := 2)))))) (i := 3))
    (ms_cons (ms_set sc.nd (gx_vx (vx_pv (pv_px (px_op op_mod f_mod (px_op op_addM f_add (px_op op_addM f_add (px_op op_mulM f_mul (px_var (i := 3)) (px_var (i := 3))) (px_op op_mulM f_mul px_int (px_var (i := 3)))) px_int) (px_var (i := 2)))))) (i := 3))
    (ms_one (ms_set sc.nd (gx_vx (vx_pv (pv_px (px_op op_mod f_mod (px_op op_addM f_add (px_op op_mulM f_mul (px_var (i := 3)) (px_var (i := 3))) px_int) (px_var (i := 2)))))) (i := 3)))))
    ms_nil)
    (ms_cons (ms_put (i := 0) u1 (vx_pv (pv_px (px_op op_addM f_add (px_ix u1 (px_var (i := 0)) px_int) px_int))) (vx_pv (pv_px px_int)))
    (ms_one (ms_put (i := 0) u1 (vx_pv (pv_px (px_var (i := 3)))) (vx_pv (pv_px px_int))))))))
    ms_nil)
    (ms_cons (ms_set sc.nd (gx_vx (vx_pv (pv_px (px_op op_mod f_mod (px_ix u1 (px_var (i := 0)) px_int) (px_var (i := 1)))))) (i := 4))
    (ms_cons (ms_put (i := 0) u1 (vx_pv (pv_px (px_op op_fdivW f_div (px_ix u1 (px_var (i := 0)) px_int) (px_var (i := 1))))) (vx_pv (pv_px px_int)))
    (ms_one (ms_ret (gx_px (px_var (i := 4))))))))))
abbrev s_law_whole : Stmt := topS 12
theorem sc_law_whole : FnScope ["item"] ["item"] (defScope s_law_whole) := ⟨rfl, rfl, rfl, by decide +kernel, rfl, by decide +kernel, by decide +kernel⟩
theorem cal_law_whole {f : Addr} {fd : FuncData} (F : Fun K "_law_whole" "_law_whole" s_law_whole f fd) (hm : mg "_law_whole" = some (.ref f)) (hb : Binds K fd ["item"] []) (z : Z mg) : Cal P w K mg base 1 "_law_whole" 1 φ_law_whole :=
  cal_mk (N := ["item"]) (S := []) (k := 0) F hm hb sc_law_whole (fun as => rfl) (fun cdv A outer s H E hr => by
    have sc := sc_law_whole
    have u65 := Room.u65 hr
    have u64 := Room.u64 hr
    have u1 := Room.u1 hr
    exact (ms_one (ms_ret (gx_px (px_and (px_isi rfl z.isinstance rfl z.int bt_int isT_int (px_var (i := 0))) (px_one (px_not (px_isi rfl z.isinstance rfl z.bool bt_bool isT_bool (px_var (i := 0))))))))))
abbrev s_law_like : Stmt := topS 13
theorem sc_law_like : FnScope ["one", "two", "k"] ["one", "two"] (defScope s_law_like) := ⟨rfl, rfl, rfl, by decide +kernel, rfl, by decide +kernel, by decide +kernel⟩
theorem cal_law_like {f : Addr} {fd : FuncData} (F : Fun K "_law_like" "_law_like" s_law_like f fd) (hm : mg "_law_like" = some (.ref f)) (hb : Binds K fd ["one", "two"] []) (z : Z mg) : ∀ n : Nat, Cal P w K mg base (1 + n) "_law_like" 2 (φ_law_like n)
  | 0 => cal_zero (k := 0) F hm hb sc_law_like
  | n + 1 => cal_mk (N := ["one", "two", "k"]) (S := []) (k := 1 + n) F hm hb sc_law_like (fun as => rfl) (fun cdv A outer s H E hr => by
    have C_rec := cal_law_like F hm hb z n
    have sc := sc_law_like
    have u65 := Room.u65 hr
    have u64 := Room.u64 hr
    have u1 := Room.u1 hr
    exact (ms_cons (ms_if (tx_tp (tp_val (px_isi2 rfl z.isinstance rfl z.list rfl z.tuple bt_list bt_tuple isT_list isT_tuple (px_var (i := 0)))))
    (ms_cons (ms_if (tx_tp (tp_w (wp_or (tp_cmp (op_neM u65) f_ne (px_isi rfl z.isinstance rfl z.list bt_list isT_list (px_var (i := 0))) (px_isi rfl z.isinstance rfl z.list bt_list isT_list (px_var (i := 1)))) (wp_or1 (tp_cmp (op_neM u65) f_ne (px_isi rfl z.isinstance rfl z.tuple bt_tuple isT_tuple (px_var (i := 0))) (px_isi rfl z.isinstance rfl z.tuple bt_tuple isT_tuple (px_var (i := 1))))))))
    (ms_one (ms_ret (gx_px px_bl)))
    ms_nil)
    (ms_cons (ms_if (tx_tp (tp_cmp (op_neM u65) f_ne (px_b_len rfl z.len  (xs_cons (px_var (i := 0)) xs_nil)) (px_b_len rfl z.len  (xs_cons (px_var (i := 1)) xs_nil))))
    (ms_one (ms_ret (gx_px px_bl)))
    ms_nil)
    (ms_one (ms_ret (gx_px (px_cmp (op_eqM u65) f_eq (px_comp rfl sc.nd [("k", 2)] (by kernel_rfl) (pix_s (pis_rng1 rfl z.range (vs_cons (pv_px (px_b_len rfl z.len  (xs_cons (px_var (i := 0)) xs_nil))) vs_nil))) (fun s_ H_ C_ cl_ fp_ => (mg_name sc.nd (i := 2))) (fun s_ H_ C_ cl_ fp_ => (cp_one (tp_not (tp_val (px_cal C_rec hr (Nat.le_refl _) (vs_cons (pv_px (px_ix u1 (px_var (i := 0)) (px_var (i := 2)))) (vs_cons (pv_px (px_ix u1 (px_var (i := 1)) (px_var (i := 2)))) vs_nil)) (vl_cons (vl_cons vl_nil))))))) (fun s_ H_ C_ cl_ fp_ => (pv_px (px_var (i := 2))))) (px_lst vs_nil)))))))
    ms_nil)
    (ms_cons (ms_if (tx_tp (tp_val (px_isi2 rfl z.isinstance rfl z.list rfl z.tuple bt_list bt_tuple isT_list isT_tuple (px_var (i := 1)))))
    (ms_one (ms_ret (gx_px px_bl)))
    ms_nil)
    (ms_one (ms_ret (gx_px (px_and (px_cmp (op_eqM u65) f_eq (px_isi rfl z.isinstance rfl z.bool bt_bool isT_bool (px_var (i := 0))) (px_isi rfl z.isinstance rfl z.bool bt_bool isT_bool (px_var (i := 1)))) (px_one (px_cmp (op_eqM u65) f_eq (px_var (i := 0)) (px_var (i := 1)))))))))))
abbrev s_law_fewest : Stmt := topS 19
theorem sc_law_fewest : FnScope ["amounts", "best", "many", "sums", "mask", "some", "k"] ["amounts"] (defScope s_law_fewest) := ⟨rfl, rfl, rfl, by decide +kernel, rfl, by decide +kernel, by decide +kernel⟩
theorem cal_law_fewest {f : Addr} {fd : FuncData} (F : Fun K "_law_fewest" "_law_fewest" s_law_fewest f fd) (hm : mg "_law_fewest" = some (.ref f)) (hb : Binds K fd ["amounts"] []) (z : Z mg) : Cal P w K mg base 1 "_law_fewest" 1 φ_law_fewest :=
  cal_mk (N := ["amounts", "best", "many", "sums", "mask", "some", "k"]) (S := []) (k := 0) F hm hb sc_law_fewest (fun as => rfl) (fun cdv A outer s H E hr => by
    have sc := sc_law_fewest
    have u65 := Room.u65 hr
    have u64 := Room.u64 hr
    have u1 := Room.u1 hr
    exact (ms_cons (ms_set sc.nd (gx_px (px_disp (pq_cons (pv_px px_int) (pv_px px_int) pq_nil) (by simp) (by decide))) (i := 1))
    (ms_cons (ms_set sc.nd (gx_vx (vx_pv (pv_px (px_b_len rfl z.len  (xs_cons (px_var (i := 0)) xs_nil))))) (i := 2))
    (ms_cons (ms_compPF (i := 3) rfl sc.nd [("mask", 4)] (by kernel_rfl) (pix_s (pis_rng1 rfl z.range (vs_cons (pv_px (px_op op_shl f_shl px_int (px_var (i := 2)))) vs_nil))) (fun s_ H_ C_ cl_ fp_ => (mg_name sc.nd (i := 4))) (fun s_ H_ C_ cl_ fp_ => cp_nil) (fun s_ H_ C_ cl_ fp_ => (pv_px (px_b_sum rfl z.sum rfl (xs_cons (px_comp rfl sc.nd [("k", 6)] (by kernel_rfl) (pix_s (pis_rng1 rfl z.range (vs_cons (pv_px (px_var (i := 2))) vs_nil))) (fun s_ H_ C_ cl_ fp_ => (mg_name sc.nd (i := 6))) (fun s_ H_ C_ cl_ fp_ => (cp_one (tp_cmp (op_eqM u65) f_eq (px_op op_and f_and (px_op op_shr f_shr (px_var (i := 4)) (px_var (i := 6))) px_int) px_int))) (fun s_ H_ C_ cl_ fp_ => (pv_px (px_ix u1 (px_var (i := 0)) (px_var (i := 6)))))) xs_nil)))) (sw_true rfl rfl rfl rfl))
    (ms_cons (ms_for PassesOwn.never rfl (ix_s (pis_rng2 rfl z.range (vs_cons (pv_px px_int) (vs_cons (pv_px (px_op op_shl f_shl px_int (px_var (i := 2)))) vs_nil)))) (mg_name sc.nd (i := 4))
    (ms_cons (ms_compPF (i := 5) rfl sc.nd [("k", 6)] (by kernel_rfl) (pix_s (pis_rng1 rfl z.range (vs_cons (pv_px (px_var (i := 2))) vs_nil))) (fun s_ H_ C_ cl_ fp_ => (mg_name sc.nd (i := 6))) (fun s_ H_ C_ cl_ fp_ => (cp_one (tp_cmp (op_eqM u65) f_eq (px_op op_and f_and (px_op op_shr f_shr (px_var (i := 4)) (px_var (i := 6))) px_int) px_int))) (fun s_ H_ C_ cl_ fp_ => (pv_px (px_ix u1 (px_var (i := 1)) (px_op op_sub f_sub (px_var (i := 4)) (px_op op_shl f_shl px_int (px_var (i := 6))))))) (sw_true rfl rfl rfl rfl))
    (ms_one (ms_put (i := 1) u1 (vx_pv (pv_px (px_op op_addM f_add (px_b_max rfl z.max rfl u64 (xs_cons (px_var (i := 5)) xs_nil)) (px_b_int rfl z.int  (xs_cons (px_cmp (op_eqM u65) f_eq (px_ix u1 (px_var (i := 3)) (px_var (i := 4))) px_int) xs_nil))))) (vx_pv (pv_px (px_var (i := 4))))))))
    (ms_one (ms_ret (gx_px (px_op op_sub f_sub (px_var (i := 2)) (px_ix u1 (px_var (i := 1)) (px_op op_sub f_sub (px_op op_shl f_shl px_int (px_var (i := 2))) px_int)))))))))))
abbrev s_is_within : Stmt := topS 2
theorem sc_is_within : FnScope ["thing", "low", "high"] ["thing", "low", "high"] (defScope s_is_within) := ⟨rfl, rfl, rfl, by decide +kernel, rfl, by decide +kernel, by decide +kernel⟩
theorem cal_is_within {f : Addr} {fd : FuncData} (F : Fun K "is_within" "is_within" s_is_within f fd) (hm : mg "is_within" = some (.ref f)) (hb : Binds K fd ["thing", "low", "high"] []) (z : Z mg) (C_is_whole : Cal P w K mg base 1 "is_whole" 1 φ_is_whole) : Cal P w K mg base 2 "is_within" 3 φ_is_within :=
  cal_mk (N := ["thing", "low", "high"]) (S := []) (k := 1) F hm hb sc_is_within (fun as => rfl) (fun cdv A outer s H E hr => by
    have sc := sc_is_within
    have u65 := Room.u65 hr
    have u64 := Room.u64 hr
    have u1 := Room.u1 hr
    exact (ms_one (ms_ret (gx_px (px_and (px_cal C_is_whole hr (by decide) (vs_cons (pv_px (px_var (i := 0))) vs_nil) (vl_cons vl_nil)) (px_one (px_chain op_le f_le op_le f_le (px_var (i := 1)) (px_var (i := 0)) (px_var (i := 2)))))))))
abbrev s_most_lots : Stmt := topS 5
theorem sc_most_lots : FnScope ["amounts", "names", "known", "best", "lot", "mine", "rest", "name"] ["amounts", "names", "known"] (defScope s_most_lots) := ⟨rfl, rfl, rfl, by decide +kernel, rfl, by decide +kernel, by decide +kernel⟩
theorem cal_most_lots {f : Addr} {fd : FuncData} (F : Fun K "most_lots" "most_lots" s_most_lots f fd) (hm : mg "most_lots" = some (.ref f)) (hb : Binds K fd ["amounts", "names", "known"] []) (z : Z mg) (C_lots_of : Cal P w K mg base 1 "lots_of" 1 φ_lots_of) : ∀ n : Nat, Cal P w K mg base (2 + n) "most_lots" 3 (φ_most_lots n)
  | 0 => cal_zero (k := 1) F hm hb sc_most_lots
  | n + 1 => cal_mk (N := ["amounts", "names", "known", "best", "lot", "mine", "rest", "name"]) (S := [0, 2]) (k := 2 + n) F hm hb sc_most_lots (fun as => rfl) (fun cdv A outer s H E hr => by
    have C_rec := cal_most_lots F hm hb z C_lots_of n
    have sc := sc_most_lots
    have u65 := Room.u65 hr
    have u64 := Room.u64 hr
    have u1 := Room.u1 hr
    exact (ms_cons (ms_if (tx_tp (tp_cmp (op_eqM u65) f_eq (px_var (i := 1)) (px_tup vs_nil)))
    (ms_one (ms_ret (gx_px (px_lst vs_nil))))
    ms_nil)
    (ms_cons (ms_if (tx_tp (tp_cmp (op_notInM u65) f_notIn (px_var (i := 1)) (px_var (i := 2))))
    (ms_cons (ms_set sc.nd (gx_vx (vx_pv (pv_px (px_lst vs_nil)))) (i := 3))
    (ms_cons (ms_for PassesOwn.never rfl (ix_seq (vx_pv (pv_px (px_cal C_lots_of hr (by omega) (vs_cons (pv_px (px_cut (px_var (i := 1)) (pp_some px_int) pp_none)) vs_nil) (vl_cons vl_nil))))) (mg_name sc.nd (i := 4))
    (ms_cons (ms_set sc.nd (gx_vx (vx_pv (pv_px (px_op op_addM f_add (px_tup (vs_cons (pv_px (px_ix u1 (px_var (i := 1)) px_int)) vs_nil)) (px_var (i := 4)))))) (i := 5))
    (ms_one (ms_if (tx_tp (tp_cmp (op_eqM u65) f_eq (px_b_sum rfl z.sum rfl (xs_cons (px_comp rfl sc.nd [("name", 7)] (by kernel_rfl) (pix_seq (px_var (i := 5))) (fun s_ H_ C_ cl_ fp_ => (mg_name sc.nd (i := 7))) (fun s_ H_ C_ cl_ fp_ => cp_nil) (fun s_ H_ C_ cl_ fp_ => (pv_px (px_ix u1 (px_var (i := 0)) (px_var (i := 7)))))) xs_nil)) px_int))
    (ms_cons (ms_set sc.nd (gx_vx (vx_gx (gx_cal C_rec hr (Nat.le_refl _) (ma_slot (i := 0) (ma_val (vx_pv (pv_px (px_b_tuple rfl z.tuple  (xs_cons (px_comp rfl sc.nd [("name", 7)] (by kernel_rfl) (pix_seq (px_var (i := 1))) (fun s_ H_ C_ cl_ fp_ => (mg_name sc.nd (i := 7))) (fun s_ H_ C_ cl_ fp_ => (cp_one (tp_cmp (op_notInM u65) f_notIn (px_var (i := 7)) (px_var (i := 5))))) (fun s_ H_ C_ cl_ fp_ => (pv_px (px_var (i := 7))))) xs_nil)))) (ma_slot (i := 2) ma_nil))) (al_slot (al_val (al_slot al_nil)))))) (i := 6))
    (ms_one (ms_if (tx_tp (tp_cmp op_gt f_gt (px_op op_addM f_add (px_b_len rfl z.len  (xs_cons (px_var (i := 6)) xs_nil)) px_int) (px_b_len rfl z.len  (xs_cons (px_var (i := 3)) xs_nil))))
    (ms_one (ms_set sc.nd (gx_vx (vx_pv (pv_px (px_op op_addM f_add (px_lst (vs_cons (pv_px (px_var (i := 5))) vs_nil)) (px_var (i := 6)))))) (i := 3)))
    ms_nil)))
    ms_nil))))
    (ms_one (ms_put (i := 2) u1 (vx_pv (pv_px (px_var (i := 3)))) (vx_pv (pv_px (px_var (i := 1))))))))
    ms_nil)
    (ms_one (ms_ret (gx_px (px_ix u1 (px_var (i := 2)) (px_var (i := 1)))))))))
abbrev s_law_any : Stmt := topS 14
theorem sc_law_any : FnScope ["tape", "deep", "way", "some", "k"] ["tape", "deep"] (defScope s_law_any) := ⟨rfl, rfl, rfl, by decide +kernel, rfl, by decide +kernel, by decide +kernel⟩
theorem cal_law_any {f : Addr} {fd : FuncData} (F : Fun K "_law_any" "_law_any" s_law_any f fd) (hm : mg "_law_any" = some (.ref f)) (hb : Binds K fd ["tape", "deep"] []) (z : Z mg) (C_law_draw : Cal P w K mg base 1 "_law_draw" 2 φ_law_draw) : ∀ n : Nat, Cal P w K mg base (2 + n) "_law_any" 2 (φ_law_any n)
  | 0 => cal_zero (k := 1) F hm hb sc_law_any
  | n + 1 => cal_mk (N := ["tape", "deep", "way", "some", "k"]) (S := [0]) (k := 2 + n) F hm hb sc_law_any (fun as => rfl) (fun cdv A outer s H E hr => by
    have C_rec := cal_law_any F hm hb z C_law_draw n
    have sc := sc_law_any
    have u65 := Room.u65 hr
    have u64 := Room.u64 hr
    have u1 := Room.u1 hr
    exact (ms_cons (ms_set sc.nd (gx_vx (vx_gx (gx_cal C_law_draw hr (by omega) (ma_slot (i := 0) (ma_val (vx_pv (pv_px px_int)) ma_nil)) (al_slot (al_val al_nil))))) (i := 2))
    (ms_cons (ms_if (tx_tp (tp_w (wp_and (tp_cmp (op_ltM u64) f_lt (px_var (i := 2)) px_int) (wp_and1 (tp_cmp op_gt f_gt (px_var (i := 1)) px_int)))))
    (ms_cons (ms_compF (i := 3) rfl sc.nd [("k", 4)] (by kernel_rfl) (ix_rng1 rfl z.range (ma_val (vx_gx (gx_cal C_law_draw hr (by omega) (ma_slot (i := 0) (ma_val (vx_pv (pv_px px_int)) ma_nil)) (al_slot (al_val al_nil)))) ma_nil)) (fun s_ H_ C_ cl_ fp_ => (mg_name sc.nd (i := 4))) (fun s_ H_ C_ cl_ fp_ => cx_nil) (fun s_ H_ C_ cl_ fp_ => (vx_gx (gx_cal C_rec hr (Nat.le_refl _) (ma_slot (i := 0) (ma_val (vx_pv (pv_px (px_op op_sub f_sub (px_var (i := 1)) px_int))) ma_nil)) (al_slot (al_val al_nil))))) (sw_true rfl rfl rfl rfl))
    (ms_one (ms_ret (gx_px (px_ix u1 (px_lst (vs_cons (pv_px (px_var (i := 3))) (vs_cons (pv_px (px_b_tuple rfl z.tuple  (xs_cons (px_var (i := 3)) xs_nil))) (vs_cons (pv_px (px_b_tuple rfl z.tuple  (xs_cons (px_var (i := 3)) xs_nil))) (vs_cons (pv_px (px_b_tuple rfl z.tuple  (xs_cons (px_var (i := 3)) xs_nil))) vs_nil))))) (px_var (i := 2)))))))
    ms_nil)
    (ms_cons (ms_if (tx_tp (tp_cmp (op_ltM u64) f_lt (px_var (i := 2)) px_int))
    (ms_one (ms_ret (gx_ix u1 (vx_gx (gx_lst (ma_val (vx_gx (gx_op op_sub f_sub (vx_gx (gx_cal C_law_draw hr (by omega) (ma_slot (i := 0) (ma_val (vx_pv (pv_px px_int)) ma_nil)) (al_slot (al_val al_nil)))) (vx_pv (pv_px px_int)))) (ma_val (vx_gx (gx_cal C_law_draw hr (by omega) (ma_slot (i := 0) (ma_val (vx_pv (pv_px (px_op op_pow f_pow px_int px_int))) ma_nil)) (al_slot (al_val al_nil)))) (ma_val (vx_pv (pv_px px_int)) (ma_val (vx_pv (pv_px px_int)) ma_nil)))))) (vx_pv (pv_px (px_b_max2 rfl z.max rfl (xs_cons px_int (xs_cons (px_op op_sub f_sub (px_var (i := 2)) px_int) xs_nil))))))))
    ms_nil)
    (ms_cons (ms_set sc.nd (gx_vx (vx_pv (pv_px (px_lst (vs_cons (pv_px px_str) (vs_cons (pv_px px_str) (vs_cons (pv_px px_str) (vs_cons (pv_px px_str) (vs_cons (pv_px px_str) (vs_cons (pv_px px_str) (vs_cons (pv_px px_str) (vs_cons (pv_px px_str) (vs_cons (pv_px px_str) (vs_cons (pv_px px_str) (vs_cons (pv_px px_str) (vs_cons (pv_px px_str) (vs_cons (pv_px px_str) (vs_cons (pv_px px_str) (vs_cons (pv_px px_str) vs_nil))))))))))))))))))) (i := 3))
    (ms_one (ms_ret (gx_ix u1 (vx_gx (gx_lst (ma_val (vx_pv (pv_px px_bl)) (ma_val (vx_pv (pv_px px_bl)) (ma_val (vx_pv (pv_px px_non)) (ma_val (vx_gx (gx_ix u1 (vx_pv (pv_px (px_var (i := 3)))) (vx_gx (gx_cal C_law_draw hr (by omega) (ma_slot (i := 0) (ma_val (vx_pv (pv_px px_int)) ma_nil)) (al_slot (al_val al_nil)))))) (ma_val (vx_pv (pv_px (px_tup (vs_cons (pv_px px_int) (vs_cons (pv_px px_int) vs_nil))))) ma_nil))))))) (vx_pv (pv_px (px_op op_sub f_sub (px_var (i := 2)) px_int)))))))))))
abbrev s_law_name : Stmt := topS 16
theorem sc_law_name : FnScope ["tape", "way", "letters", "many", "k"] ["tape"] (defScope s_law_name) := ⟨rfl, rfl, rfl, by decide +kernel, rfl, by decide +kernel, by decide +kernel⟩
theorem cal_law_name {f : Addr} {fd : FuncData} (F : Fun K "_law_name" "_law_name" s_law_name f fd) (hm : mg "_law_name" = some (.ref f)) (hb : Binds K fd ["tape"] []) (z : Z mg) (C_law_draw : Cal P w K mg base 1 "_law_draw" 2 φ_law_draw) : Cal P w K mg base 2 "_law_name" 1 φ_law_name :=
  cal_mk (N := ["tape", "way", "letters", "many", "k"]) (S := [0]) (k := 1) F hm hb sc_law_name (fun as => rfl) (fun cdv A outer s H E hr => by
    have sc := sc_law_name
    have u65 := Room.u65 hr
    have u64 := Room.u64 hr
    have u1 := Room.u1 hr
    exact (ms_cons (ms_set sc.nd (gx_vx (vx_gx (gx_cal C_law_draw hr (by decide) (ma_slot (i := 0) (ma_val (vx_pv (pv_px px_int)) ma_nil)) (al_slot (al_val al_nil))))) (i := 1))
    (ms_cons (ms_if (tx_tp (tp_cmp (op_ltM u64) f_lt (px_var (i := 1)) px_int))
    (ms_one (ms_ret (gx_px (px_ix u1 (px_lst (vs_cons (pv_px px_str) (vs_cons (pv_px px_str) (vs_cons (pv_px px_str) (vs_cons (pv_px px_str) (vs_cons (pv_px px_str) (vs_cons (pv_px px_str) vs_nil))))))) (px_var (i := 1))))))
    ms_nil)
    (ms_cons (ms_set sc.nd (gx_vx (vx_pv (pv_px px_str))) (i := 2))
    (ms_cons (ms_set sc.nd (gx_vx (vx_gx (gx_ix u1 (vx_pv (pv_px (px_lst (vs_cons (pv_px px_int) (vs_cons (pv_px px_int) (vs_cons (pv_px px_int) vs_nil)))))) (vx_gx (gx_cal C_law_draw hr (by decide) (ma_slot (i := 0) (ma_val (vx_pv (pv_px px_int)) ma_nil)) (al_slot (al_val al_nil))))))) (i := 3))
    (ms_one (ms_ret (gx_join (vx_pv (pv_px px_str)) (vx_gx (gx_comp rfl sc.nd [("k", 4)] (by kernel_rfl) (ix_s (pis_rng1 rfl z.range (vs_cons (pv_px (px_var (i := 3))) vs_nil))) (fun s_ H_ C_ cl_ fp_ => (mg_name sc.nd (i := 4))) (fun s_ H_ C_ cl_ fp_ => cx_nil) (fun s_ H_ C_ cl_ fp_ => (vx_gx (gx_ix u1 (vx_pv (pv_px (px_var (i := 2)))) (vx_gx (gx_cal C_law_draw hr (by decide) (ma_slot (i := 0) (ma_val (vx_pv (pv_px px_int)) ma_nil)) (al_slot (al_val al_nil)))))))))))))))))
abbrev s_law_settles : Stmt := topS 20
theorem sc_law_settles : FnScope ["accounts", "item", "left", "row", "name"] ["accounts", "item"] (defScope s_law_settles) := ⟨rfl, rfl, rfl, by decide +kernel, rfl, by decide +kernel, by decide +kernel⟩
theorem cal_law_settles {f : Addr} {fd : FuncData} (F : Fun K "_law_settles" "_law_settles" s_law_settles f fd) (hm : mg "_law_settles" = some (.ref f)) (hb : Binds K fd ["accounts", "item"] []) (z : Z mg) (C_law_whole : Cal P w K mg base 1 "_law_whole" 1 φ_law_whole) : Cal P w K mg base 2 "_law_settles" 2 φ_law_settles :=
  cal_mk (N := ["accounts", "item", "left", "row", "name"]) (S := []) (k := 1) F hm hb sc_law_settles (fun as => rfl) (fun cdv A outer s H E hr => by
    have sc := sc_law_settles
    have u65 := Room.u65 hr
    have u64 := Room.u64 hr
    have u1 := Room.u1 hr
    exact (ms_cons (ms_set sc.nd (gx_px (px_dictP rfl z.dict rfl (px_varP (i := 0)))) (i := 2))
    (ms_cons (ms_if (tx_tp (tp_not (tp_val (px_isi rfl z.isinstance rfl z.list bt_list isT_list (px_var (i := 1))))))
    (ms_one (ms_ret (gx_px px_bl)))
    ms_nil)
    (ms_cons (ms_for PassesOwn.never rfl (ix_seq (vx_pv (pv_px (px_var (i := 1))))) (mg_name sc.nd (i := 3))
    (ms_cons (ms_if (tx_tp (tp_w (wp_or (tp_not (tp_val (px_isi rfl z.isinstance rfl z.tuple bt_tuple isT_tuple (px_var (i := 3))))) (wp_or (tp_cmp (op_neM u65) f_ne (px_b_len rfl z.len  (xs_cons (px_var (i := 3)) xs_nil)) px_int) (wp_or (tp_not (tp_val (px_cal C_law_whole hr (by decide) (vs_cons (pv_px (px_ix u1 (px_var (i := 3)) px_int)) vs_nil) (vl_cons vl_nil)))) (wp_or1 (tp_cmp (op_ltM u64) f_lt (px_ix u1 (px_var (i := 3)) px_int) px_int)))))))
    (ms_one (ms_ret (gx_px px_bl)))
    ms_nil)
    (ms_cons (ms_if (tx_tp (tp_w (wp_or (tp_not (tp_val (px_isi rfl z.isinstance rfl z.str bt_str isT_str (px_ix u1 (px_var (i := 3)) px_int)))) (wp_or (tp_not (tp_val (px_isi rfl z.isinstance rfl z.str bt_str isT_str (px_ix u1 (px_var (i := 3)) px_int)))) (wp_or (tp_cmp (op_notInM u65) f_notIn (px_ix u1 (px_var (i := 3)) px_int) (px_var (i := 2))) (wp_or1 (tp_cmp (op_notInM u65) f_notIn (px_ix u1 (px_var (i := 3)) px_int) (px_var (i := 2)))))))))
    (ms_one (ms_ret (gx_px px_bl)))
    ms_nil)
    (ms_cons (ms_if (tx_tp (tp_cmp (op_eqM u65) f_eq (px_ix u1 (px_var (i := 3)) px_int) (px_ix u1 (px_var (i := 3)) px_int)))
    (ms_one (ms_ret (gx_px px_bl)))
    ms_nil)
    (ms_cons (ms_put (i := 2) u1 (vx_pv (pv_px (px_op op_addM f_add (px_ix u1 (px_var (i := 2)) (px_ix u1 (px_var (i := 3)) px_int)) (px_ix u1 (px_var (i := 3)) px_int)))) (vx_pv (pv_px (px_ix u1 (px_var (i := 3)) px_int))))
    (ms_one (ms_put (i := 2) u1 (vx_pv (pv_px (px_op op_sub f_sub (px_ix u1 (px_var (i := 2)) (px_ix u1 (px_var (i := 3)) px_int)) (px_ix u1 (px_var (i := 3)) px_int)))) (vx_pv (pv_px (px_ix u1 (px_var (i := 3)) px_int))))))))))
    (ms_one (ms_ret (gx_px (px_cmp (op_eqM u65) f_eq (px_compD (i := 2) rfl sc.nd [("name", 4)] (by kernel_rfl) (fun s_ H_ C_ cl_ fp_ => (mg_name sc.nd (i := 4))) (fun s_ H_ C_ cl_ fp_ => (cp_one (tp_cmp (op_neM u65) f_ne (px_ixL (i := 2) u1 (pv_px (px_var (i := 4)))) px_int))) (fun s_ H_ C_ cl_ fp_ => (pv_px (px_var (i := 4))))) (px_lst vs_nil)))))))))
abbrev s_is_payment : Stmt := topS 8
theorem sc_is_payment : FnScope ["names", "thing", "name"] ["names", "thing"] (defScope s_is_payment) := ⟨rfl, rfl, rfl, by decide +kernel, rfl, by decide +kernel, by decide +kernel⟩
theorem cal_is_payment {f : Addr} {fd : FuncData} (F : Fun K "is_payment" "is_payment" s_is_payment f fd) (hm : mg "is_payment" = some (.ref f)) (hb : Binds K fd ["names", "thing"] []) (z : Z mg) (C_is_within : Cal P w K mg base 2 "is_within" 3 φ_is_within) : Cal P w K mg base 3 "is_payment" 2 φ_is_payment :=
  cal_mk (N := ["names", "thing", "name"]) (S := [0]) (k := 2) F hm hb sc_is_payment (fun as => rfl) (fun cdv A outer s H E hr => by
    have sc := sc_is_payment
    have u65 := Room.u65 hr
    have u64 := Room.u64 hr
    have u1 := Room.u1 hr
    exact (ms_cons (ms_if (tx_tp (tp_w (wp_or (tp_not (tp_val (px_isi rfl z.isinstance rfl z.tuple bt_tuple isT_tuple (px_var (i := 1))))) (wp_or (tp_cmp (op_neM u65) f_ne (px_b_len rfl z.len  (xs_cons (px_var (i := 1)) xs_nil)) px_int) (wp_or1 (tp_not (tp_val (px_cal C_is_within hr (by decide) (vs_cons (pv_px (px_ix u1 (px_var (i := 1)) px_int)) (vs_cons (pv_px px_int) (vs_cons (pv_px (px_op op_pow f_pow px_int px_int)) vs_nil))) (vl_cons (vl_cons (vl_cons vl_nil)))))))))))
    (ms_one (ms_ret (gx_px px_bl)))
    ms_nil)
    (ms_one (ms_ret (gx_px (px_and (px_b_all rfl z.all rfl (xs_cons (px_comp rfl sc.nd [("name", 2)] (by kernel_rfl) (pix_seq (px_cut (px_var (i := 1)) pp_none (pp_some px_int))) (fun s_ H_ C_ cl_ fp_ => (mg_name sc.nd (i := 2))) (fun s_ H_ C_ cl_ fp_ => cp_nil) (fun s_ H_ C_ cl_ fp_ => (pv_px (px_and (px_isi rfl z.isinstance rfl z.str bt_str isT_str (px_var (i := 2))) (px_one (px_cmp (op_inM u65) f_in (px_var (i := 2)) (px_var (i := 0)))))))) xs_nil)) (px_one (px_cmp (op_neM u65) f_ne (px_ix u1 (px_var (i := 1)) px_int) (px_ix u1 (px_var (i := 1)) px_int)))))))))
abbrev s_law_names : Stmt := topS 17
theorem sc_law_names : FnScope ["tape", "many", "found", "k"] ["tape", "many"] (defScope s_law_names) := ⟨rfl, rfl, rfl, by decide +kernel, rfl, by decide +kernel, by decide +kernel⟩
theorem cal_law_names {f : Addr} {fd : FuncData} (F : Fun K "_law_names" "_law_names" s_law_names f fd) (hm : mg "_law_names" = some (.ref f)) (hb : Binds K fd ["tape", "many"] []) (z : Z mg) (C_law_name : Cal P w K mg base 2 "_law_name" 1 φ_law_name) : Cal P w K mg base 3 "_law_names" 2 φ_law_names :=
  cal_mk (N := ["tape", "many", "found", "k"]) (S := [0]) (k := 2) F hm hb sc_law_names (fun as => rfl) (fun cdv A outer s H E hr => by
    have sc := sc_law_names
    have u65 := Room.u65 hr
    have u64 := Room.u64 hr
    have u1 := Room.u1 hr
    exact (ms_cons (ms_set sc.nd (gx_px px_dnewK) (i := 2))
    (ms_cons (ms_for PassesOwn.never rfl (ix_s (pis_rng1 rfl z.range (vs_cons (pv_px (px_var (i := 1))) vs_nil))) (mg_name sc.nd (i := 3))
    (ms_one (ms_put (i := 2) u1 (vx_pv (pv_px px_bl)) (vx_gx (gx_cal C_law_name hr (by decide) (ma_slot (i := 0) ma_nil) (al_slot al_nil))))))
    (ms_one (ms_ret (gx_px (px_b_sorted rfl z.sorted rfl u64 (xs_cons (px_var (i := 2)) xs_nil))))))))
abbrev s_settles : Stmt := topS 9
theorem sc_settles : FnScope ["accounts", "thing", "left", "payer", "paid", "amount", "row"] ["accounts", "thing"] (defScope s_settles) := ⟨rfl, rfl, rfl, by decide +kernel, rfl, by decide +kernel, by decide +kernel⟩
theorem cal_settles {f : Addr} {fd : FuncData} (F : Fun K "settles" "settles" s_settles f fd) (hm : mg "settles" = some (.ref f)) (hb : Binds K fd ["accounts", "thing"] []) (z : Z mg) (C_is_payment : Cal P w K mg base 3 "is_payment" 2 φ_is_payment) : Cal P w K mg base 4 "settles" 2 φ_settles :=
  cal_mk (N := ["accounts", "thing", "left", "payer", "paid", "amount", "row"]) (S := []) (k := 3) F hm hb sc_settles (fun as => rfl) (fun cdv A outer s H E hr => by
    have sc := sc_settles
    have u65 := Room.u65 hr
    have u64 := Room.u64 hr
    have u1 := Room.u1 hr
    exact (ms_cons (ms_set sc.nd (gx_px (px_dictP rfl z.dict rfl (px_varP (i := 0)))) (i := 2))
    (ms_cons (ms_if (tx_w (wx_or (tx_tp (tp_not (tp_val (px_isi rfl z.isinstance rfl z.list bt_list isT_list (px_var (i := 1)))))) (wx_or1 (tx_not (tx_val (gx_b_all rfl z.all rfl (ma_val (vx_gx (gx_comp rfl sc.nd [("row", 6)] (by kernel_rfl) (ix_seq (vx_pv (pv_px (px_var (i := 1))))) (fun s_ H_ C_ cl_ fp_ => (mg_name sc.nd (i := 6))) (fun s_ H_ C_ cl_ fp_ => cx_nil) (fun s_ H_ C_ cl_ fp_ => (vx_gx (gx_cal C_is_payment hr (by decide) (ma_slot (i := 2) (ma_val (vx_pv (pv_px (px_var (i := 6)))) ma_nil)) (al_slot (al_val al_nil))))))) ma_nil)))))))
    (ms_one (ms_ret (gx_px px_bl)))
    ms_nil)
    (ms_cons (ms_for PassesOwn.never rfl (ix_seq (vx_pv (pv_px (px_var (i := 1))))) (mg_tup rfl (mgs_cons (mg_name sc.nd (i := 3)) (mgs_cons (mg_name sc.nd (i := 4)) (mgs_cons (mg_name sc.nd (i := 5)) mgs_nil))))
    (ms_cons (ms_augD (i := 2) in_add (fun i j H Q q => ⟨i, j, rfl, rfl, q⟩) u1 (pv_px (px_var (i := 3))) (pv_px (px_var (i := 5))))
    (ms_one (ms_augD (i := 2) in_sub (fun i j H Q q => ⟨i, j, rfl, rfl, q⟩) u1 (pv_px (px_var (i := 4))) (pv_px (px_var (i := 5)))))))
    (ms_one (ms_ret (gx_px (px_b_all rfl z.all rfl (xs_cons (px_compV (i := 2) rfl sc.nd [("amount", 5)] (by kernel_rfl) (fun s_ H_ C_ cl_ fp_ => (mg_name sc.nd (i := 5))) (fun s_ H_ C_ cl_ fp_ => cp_nil) (fun s_ H_ C_ cl_ fp_ => (pv_px (px_cmp (op_eqM u65) f_eq (px_var (i := 5)) px_int)))) xs_nil)))))))))
abbrev s_law_accounts : Stmt := topS 18
theorem sc_law_accounts : FnScope ["tape", "most", "names", "amounts", "name", "amount"] ["tape", "most"] (defScope s_law_accounts) := ⟨rfl, rfl, rfl, by decide +kernel, rfl, by decide +kernel, by decide +kernel⟩
theorem cal_law_accounts {f : Addr} {fd : FuncData} (F : Fun K "_law_accounts" "_law_accounts" s_law_accounts f fd) (hm : mg "_law_accounts" = some (.ref f)) (hb : Binds K fd ["tape", "most"] []) (z : Z mg) (C_law_names : Cal P w K mg base 3 "_law_names" 2 φ_law_names) (C_law_draw : Cal P w K mg base 1 "_law_draw" 2 φ_law_draw) : Cal P w K mg base 4 "_law_accounts" 2 φ_law_accounts :=
  cal_mk (N := ["tape", "most", "names", "amounts", "name", "amount"]) (S := [0]) (k := 3) F hm hb sc_law_accounts (fun as => rfl) (fun cdv A outer s H E hr => by
    have sc := sc_law_accounts
    have u65 := Room.u65 hr
    have u64 := Room.u64 hr
    have u1 := Room.u1 hr
    exact (ms_cons (ms_set sc.nd (gx_vx (vx_gx (gx_cal C_law_names hr (by decide) (ma_slot (i := 0) (ma_val (vx_gx (gx_op op_addM f_add (vx_pv (pv_px px_int)) (vx_gx (gx_cal C_law_draw hr (by decide) (ma_slot (i := 0) (ma_val (vx_pv (pv_px (px_var (i := 1)))) ma_nil)) (al_slot (al_val al_nil)))))) ma_nil)) (al_slot (al_val al_nil))))) (i := 2))
    (ms_cons (ms_comp (i := 3) rfl sc.nd [("name", 4)] (by kernel_rfl) (ix_seq (vx_pv (pv_px (px_var (i := 2))))) (fun s_ H_ C_ cl_ fp_ => (mg_name sc.nd (i := 4))) (fun s_ H_ C_ cl_ fp_ => cx_nil) (fun s_ H_ C_ cl_ fp_ => (vx_gx (gx_ix u1 (vx_gx (gx_lst (ma_val (vx_pv (pv_px px_int)) (ma_val (vx_pv (pv_px px_int)) (ma_val (vx_pv (pv_px (px_neg px_int))) (ma_val (vx_pv (pv_px px_int)) (ma_val (vx_pv (pv_px (px_neg px_int))) (ma_val (vx_gx (gx_op op_sub f_sub (vx_gx (gx_cal C_law_draw hr (by decide) (ma_slot (i := 0) (ma_val (vx_pv (pv_px px_int)) ma_nil)) (al_slot (al_val al_nil)))) (vx_pv (pv_px px_int)))) ma_nil)))))))) (vx_gx (gx_cal C_law_draw hr (by decide) (ma_slot (i := 0) (ma_val (vx_pv (pv_px px_int)) ma_nil)) (al_slot (al_val al_nil))))))) (sw_true rfl rfl rfl rfl))
    (ms_cons (ms_put (i := 3) u1 (vx_pv (pv_px (px_op op_sub f_sub px_int (px_b_sum rfl z.sum rfl (xs_cons (px_cut (px_var (i := 3)) pp_none (pp_some (px_neg px_int))) xs_nil))))) (vx_pv (pv_px (px_neg px_int))))
    (ms_one (ms_ret (gx_px (px_b_tupleP rfl z.tuple (xs_cons (px_comp rfl sc.nd [("name", 4), ("amount", 5)] (by kernel_rfl) (pix_zip rfl z.zip (xs_cons (px_var (i := 2)) (xs_cons (px_var (i := 3)) xs_nil))) (fun s_ H_ C_ cl_ fp_ => (mg_tup rfl (mgs_cons (mg_name sc.nd (i := 4)) (mgs_cons (mg_name sc.nd (i := 5)) mgs_nil)))) (fun s_ H_ C_ cl_ fp_ => cp_nil) (fun s_ H_ C_ cl_ fp_ => (pv_px (px_tup (vs_cons (pv_px (px_var (i := 4))) (vs_cons (pv_px (px_var (i := 5))) vs_nil)))))) xs_nil)))))))))
abbrev s_payments : Stmt := topS 7
theorem sc_payments : FnScope ["accounts", "amounts", "names", "name", "amount", "lot", "row"] ["accounts"] (defScope s_payments) := ⟨rfl, rfl, rfl, by decide +kernel, rfl, by decide +kernel, by decide +kernel⟩
theorem cal_payments {f : Addr} {fd : FuncData} (F : Fun K "payments" "payments" s_payments f fd) (hm : mg "payments" = some (.ref f)) (hb : Binds K fd ["accounts"] []) (z : Z mg) (C_most_lots : Cal P w K mg base 14 "most_lots" 3 (φ_most_lots nR_most_lots)) (C_paid_in : Cal P w K mg base 1 "paid_in" 2 φ_paid_in) : Cal P w K mg base 15 "payments" 1 φ_payments :=
  cal_mk (N := ["accounts", "amounts", "names", "name", "amount", "lot", "row"]) (S := []) (k := 14) F hm hb sc_payments (fun as => rfl) (fun cdv A outer s H E hr => by
    have sc := sc_payments
    have u65 := Room.u65 hr
    have u64 := Room.u64 hr
    have u1 := Room.u1 hr
    exact (ms_cons (ms_set sc.nd (gx_px (px_dictP rfl z.dict rfl (px_varP (i := 0)))) (i := 1))
    (ms_cons (ms_set sc.nd (gx_vx (vx_pv (pv_px (px_b_tuple rfl z.tuple  (xs_cons (px_comp rfl sc.nd [("name", 3), ("amount", 4)] (by kernel_rfl) (pix_pt (px_varP (i := 0))) (fun s_ H_ C_ cl_ fp_ => (mg_tup rfl (mgs_cons (mg_name sc.nd (i := 3)) (mgs_cons (mg_name sc.nd (i := 4)) mgs_nil)))) (fun s_ H_ C_ cl_ fp_ => (cp_one (tp_cmp (op_neM u65) f_ne (px_var (i := 4)) px_int))) (fun s_ H_ C_ cl_ fp_ => (pv_px (px_var (i := 3))))) xs_nil))))) (i := 2))
    (ms_one (ms_ret (gx_comp2 rfl sc.nd [("lot", 5), ("row", 6)] [6] (by kernel_rfl) (ix_seq (vx_gx (gx_calN C_most_lots hr (by decide) (man_slot (i := 1) (man_val (vx_pv (pv_px (px_var (i := 2)))) man_last)) (al_slot (al_val al_nil))))) (fun s_ H_ C_ cl_ fp_ => (mg_name sc.nd (i := 5))) (fun s_ H_ C_ cl_ fp_ => cx_nil) (fun s_ H_ C_ cl_ fp_ => (ix_seq (vx_gx (gx_cal C_paid_in hr (by decide) (ma_slot (i := 1) (ma_val (vx_pv (pv_px (px_var (i := 5)))) ma_nil)) (al_slot (al_val al_nil)))))) (fun s_ H_ C_ cl_ fp_ => (mg_name sc.nd (i := 6))) (fun s_ H_ C_ cl_ fp_ => cx_nil) (fun s_ H_ C_ cl_ fp_ => (vx_pv (pv_px (px_var (i := 6)))))))))))
abbrev s_law_spoilt : Stmt := topS 15
theorem sc_law_spoilt : FnScope ["tape", "item", "k", "rest", "way", "at"] ["tape", "item"] (defScope s_law_spoilt) := ⟨rfl, rfl, rfl, by decide +kernel, rfl, by decide +kernel, by decide +kernel⟩
theorem cal_law_spoilt {f : Addr} {fd : FuncData} (F : Fun K "_law_spoilt" "_law_spoilt" s_law_spoilt f fd) (hm : mg "_law_spoilt" = some (.ref f)) (hb : Binds K fd ["tape", "item"] []) (z : Z mg) (C_law_any : Cal P w K mg base 14 "_law_any" 2 (φ_law_any nR_law_any)) (C_law_draw : Cal P w K mg base 1 "_law_draw" 2 φ_law_draw) (C_law_whole : Cal P w K mg base 1 "_law_whole" 1 φ_law_whole) : ∀ n : Nat, Cal P w K mg base (15 + n) "_law_spoilt" 2 (φ_law_spoilt n)
  | 0 => cal_zero (k := 14) F hm hb sc_law_spoilt
  | n + 1 => cal_mk (N := ["tape", "item", "k", "rest", "way", "at"]) (S := [0]) (k := 15 + n) F hm hb sc_law_spoilt (fun as => rfl) (fun cdv A outer s H E hr => by
    have C_rec := cal_law_spoilt F hm hb z C_law_any C_law_draw C_law_whole n
    have sc := sc_law_spoilt
    have u65 := Room.u65 hr
    have u64 := Room.u64 hr
    have u1 := Room.u1 hr
    exact (ms_cons (ms_if (tx_w (wx_and (tx_tp (tp_val (px_isi2 rfl z.isinstance rfl z.tuple rfl z.list bt_tuple bt_list isT_tuple isT_list (px_var (i := 1))))) (wx_and (tx_tp (tp_cmp op_gt f_gt (px_b_len rfl z.len  (xs_cons (px_var (i := 1)) xs_nil)) px_int)) (wx_and1 (tx_gcmp op_gt f_gt (vx_gx (gx_cal C_law_draw hr (by omega) (ma_slot (i := 0) (ma_val (vx_pv (pv_px px_int)) ma_nil)) (al_slot (al_val al_nil)))) (vx_pv (pv_px px_int)))))))
    (ms_cons (ms_set sc.nd (gx_vx (vx_gx (gx_cal C_law_draw hr (by omega) (ma_slot (i := 0) (ma_val (vx_pv (pv_px (px_b_len rfl z.len  (xs_cons (px_var (i := 1)) xs_nil)))) ma_nil)) (al_slot (al_val al_nil))))) (i := 2))
    (ms_cons (ms_set sc.nd (gx_px (px_b_list rfl z.list rfl (xs_cons (px_var (i := 1)) xs_nil))) (i := 3))
    (ms_cons (ms_set sc.nd (gx_vx (vx_gx (gx_cal C_law_draw hr (by omega) (ma_slot (i := 0) (ma_val (vx_pv (pv_px px_int)) ma_nil)) (al_slot (al_val al_nil))))) (i := 4))
    (ms_cons (ms_if (tx_tp (tp_cmp (op_ltM u64) f_lt (px_var (i := 4)) px_int))
    (ms_one (ms_put (i := 3) u1 (vx_gx (gx_cal C_rec hr (Nat.le_refl _) (ma_slot (i := 0) (ma_val (vx_pv (pv_px (px_ix u1 (px_var (i := 3)) (px_var (i := 2))))) ma_nil)) (al_slot (al_val al_nil)))) (vx_pv (pv_px (px_var (i := 2))))))
    (ms_one (ms_if (tx_tp (tp_cmp (op_eqM u65) f_eq (px_var (i := 4)) px_int))
    (ms_one (ms_expr (gx_popAt (i := 3) (vx_pv (pv_px (px_var (i := 2)))) (h := fun t pe => pe_bm PySem.F.plainAttrs_list PySem.F.slot_list_pop PySem.F.type_list_pop mt_popAt (pe_var rfl (by first | exact Or.inl rfl | exact Or.inr (Or.inl rfl) | exact Or.inr (Or.inr rfl))) (pa_cons pe pa_nil)))))
    (ms_one (ms_if (tx_tp (tp_cmp (op_eqM u65) f_eq (px_var (i := 4)) px_int))
    (ms_one (ms_insert (i := 3) (vx_pv (pv_px (px_var (i := 2)))) (vx_gx (gx_ixS (i := 3) u1 (vx_gx (gx_cal C_law_draw hr (by omega) (ma_slot (i := 0) (ma_val (vx_pv (pv_px (px_b_len rfl z.len  (xs_cons (px_var (i := 3)) xs_nil)))) ma_nil)) (al_slot (al_val al_nil)))))) (h := fun t t2 pe pe2 => ps_expr (pe_bm PySem.F.plainAttrs_list PySem.F.slot_list_insert PySem.F.type_list_insert mt_insertM (pe_var rfl (by first | exact Or.inl rfl | exact Or.inr (Or.inl rfl) | exact Or.inr (Or.inr rfl))) (pa_cons pe (pa_cons pe2 pa_nil))))))
    (ms_one (ms_if (tx_tp (tp_cmp (op_eqM u65) f_eq (px_var (i := 4)) px_int))
    (ms_one (ms_set sc.nd (gx_px (px_rev (px_var (i := 3)))) (i := 3)))
    (ms_one (ms_insert (i := 3) (vx_pv (pv_px (px_var (i := 2)))) (vx_gx (gx_cal C_law_any hr (by omega) (ma_slot (i := 0) (ma_val (vx_pv (pv_px px_int)) ma_nil)) (al_slot (al_val al_nil)))) (h := fun t t2 pe pe2 => ps_expr (pe_bm PySem.F.plainAttrs_list PySem.F.slot_list_insert PySem.F.type_list_insert mt_insertM (pe_var rfl (by first | exact Or.inl rfl | exact Or.inr (Or.inl rfl) | exact Or.inr (Or.inr rfl))) (pa_cons pe (pa_cons pe2 pa_nil)))))))))))))
    (ms_one (ms_rx (rx_if (tx_tp (tp_val (px_isi rfl z.isinstance rfl z.tuple bt_tuple isT_tuple (px_var (i := 1))))) (rx_gx (gx_px (px_b_tuple rfl z.tuple  (xs_cons (px_var (i := 3)) xs_nil)))) (rx_own (i := 3)))))))))
    ms_nil)
    (ms_cons (ms_if (tx_w (wx_and (tx_tp (tp_val (px_cal C_law_whole hr (by omega) (vs_cons (pv_px (px_var (i := 1))) vs_nil) (vl_cons vl_nil)))) (wx_and1 (tx_gcmp op_gt f_gt (vx_gx (gx_cal C_law_draw hr (by omega) (ma_slot (i := 0) (ma_val (vx_pv (pv_px px_int)) ma_nil)) (al_slot (al_val al_nil)))) (vx_pv (pv_px px_int))))))
    (ms_one (ms_ret (gx_op op_addM f_add (vx_pv (pv_px (px_var (i := 1)))) (vx_gx (gx_ix u1 (vx_pv (pv_px (px_lst (vs_cons (pv_px px_int) (vs_cons (pv_px (px_neg px_int)) (vs_cons (pv_px px_int) (vs_cons (pv_px (px_neg px_int)) (vs_cons (pv_px px_int) (vs_cons (pv_px px_int) vs_nil))))))))) (vx_gx (gx_cal C_law_draw hr (by omega) (ma_slot (i := 0) (ma_val (vx_pv (pv_px px_int)) ma_nil)) (al_slot (al_val al_nil)))))))))
    ms_nil)
    (ms_cons (ms_if (tx_w (wx_and (tx_tp (tp_val (px_isi rfl z.isinstance rfl z.str bt_str isT_str (px_var (i := 1))))) (wx_and1 (tx_gcmp op_gt f_gt (vx_gx (gx_cal C_law_draw hr (by omega) (ma_slot (i := 0) (ma_val (vx_pv (pv_px px_int)) ma_nil)) (al_slot (al_val al_nil)))) (vx_pv (pv_px px_int))))))
    (ms_cons (ms_set sc.nd (gx_vx (vx_gx (gx_cal C_law_draw hr (by omega) (ma_slot (i := 0) (ma_val (vx_pv (pv_px (px_op op_addM f_add (px_b_len rfl z.len  (xs_cons (px_var (i := 1)) xs_nil)) px_int))) ma_nil)) (al_slot (al_val al_nil))))) (i := 5))
    (ms_one (ms_ret (gx_op op_addM f_add (vx_gx (gx_op op_addM f_add (vx_pv (pv_px (px_cut (px_var (i := 1)) pp_none (pp_some (px_var (i := 5)))))) (vx_gx (gx_ix u1 (vx_pv (pv_px (px_lst (vs_cons (pv_px px_str) (vs_cons (pv_px px_str) (vs_cons (pv_px px_str) (vs_cons (pv_px px_str) (vs_cons (pv_px px_str) (vs_cons (pv_px px_str) vs_nil))))))))) (vx_gx (gx_cal C_law_draw hr (by omega) (ma_slot (i := 0) (ma_val (vx_pv (pv_px px_int)) ma_nil)) (al_slot (al_val al_nil)))))))) (vx_pv (pv_px (px_cut (px_var (i := 1)) (pp_some (px_var (i := 5))) pp_none)))))))
    ms_nil)
    (ms_cons (ms_if (tx_w (wx_and (tx_tp (tp_val (px_isi2 rfl z.isinstance rfl z.tuple rfl z.list bt_tuple bt_list isT_tuple isT_list (px_var (i := 1))))) (wx_and1 (tx_gcmp (op_eqM u65) f_eq (vx_gx (gx_cal C_law_draw hr (by omega) (ma_slot (i := 0) (ma_val (vx_pv (pv_px px_int)) ma_nil)) (al_slot (al_val al_nil)))) (vx_pv (pv_px px_int))))))
    (ms_one (ms_ret (gx_px (px_if (tp_val (px_isi rfl z.isinstance rfl z.tuple bt_tuple isT_tuple (px_var (i := 1)))) (px_b_list rfl z.list rfl (xs_cons (px_var (i := 1)) xs_nil)) (px_b_tuple rfl z.tuple  (xs_cons (px_var (i := 1)) xs_nil))))))
    ms_nil)
    (ms_one (ms_ret (gx_cal C_law_any hr (by omega) (ma_slot (i := 0) (ma_val (vx_pv (pv_px px_int)) ma_nil)) (al_slot (al_val al_nil))))))))))
abbrev s_law_k07 : Stmt := topS 21
theorem sc_law_k07 : FnScope ["script", "tape", "turn", "accounts", "told", "names", "one", "other", "turned", "things", "thing", "row", "k"] ["script"] (defScope s_law_k07) := ⟨rfl, rfl, rfl, by decide +kernel, rfl, by decide +kernel, by decide +kernel⟩
theorem ok_law_k07 {f : Addr} {fd : FuncData} (F : Fun K "law" "law" s_law_k07 f fd) (z : Z mg) (C_law_accounts : Cal P w K mg base 4 "_law_accounts" 2 φ_law_accounts) (C_payments : Cal P w K mg base 15 "payments" 1 φ_payments) (C_law_draw : Cal P w K mg base 1 "_law_draw" 2 φ_law_draw) (C_law_any : Cal P w K mg base 14 "_law_any" 2 (φ_law_any nR_law_any)) (C_law_spoilt : Cal P w K mg base 27 "_law_spoilt" 2 (φ_law_spoilt nR_law_spoilt)) (C_law_like : Cal P w K mg base 13 "_law_like" 2 (φ_law_like nR_law_like)) (C_settles : Cal P w K mg base 4 "settles" 2 φ_settles) (C_law_settles : Cal P w K mg base 2 "_law_settles" 2 φ_law_settles) (hok : ∀ ns : List Int, ns.length ≤ 63 → ∃ ρ', m_law_k07 (lawEnv 13 ns) = .ok (.rt (rB true), ρ')) : FnOk P w K mg base CX0 28 f fd ["script"] (spLaw K 63) :=
  law_ok (m := 63) (k := 27) F sc_law_k07 rfl rfl (by first | exact Or.inl rfl | exact Or.inr rfl) (by first | exact Or.inl rfl | exact Or.inr (Or.inl rfl)) rfl z.list (fun cdv A outer s H E hr => by
    have sc := sc_law_k07
    have u65 := Room.u65 hr
    have u64 := Room.u64 hr
    have u1 := Room.u1 hr
    exact (ms_cons (ms_for PassesOwn.never rfl (ix_s (pis_rng1 rfl z.range (vs_cons (pv_px px_int) vs_nil))) (mg_name sc.nd (i := 2))
    (ms_cons (ms_set sc.nd (gx_cal C_law_accounts hr (by decide) (ma_slot (i := 1) (ma_val (vx_pv (pv_px px_int)) ma_nil)) (al_slot (al_val al_nil))) (i := 3))
    (ms_cons (ms_set sc.nd (gx_vx (vx_gx (gx_cal C_payments hr (by decide) (ma_pt (px_varP (i := 3)) ma_nil) (al_pt al_nil)))) (i := 4))
    (ms_cons (ms_compPF (i := 5) rfl sc.nd [("row", 11)] (by kernel_rfl) (pix_pt (px_varP (i := 3))) (fun s_ H_ C_ cl_ fp_ => (mg_name sc.nd (i := 11))) (fun s_ H_ C_ cl_ fp_ => cp_nil) (fun s_ H_ C_ cl_ fp_ => (pv_px (px_ix u1 (px_var (i := 11)) px_int))) (sw_true rfl rfl rfl rfl))
    (ms_cons (ms_par (i := 6) (j := 7) sc.nd rfl (vx_gx (gx_ix u1 (vx_pv (pv_px (px_var (i := 5)))) (vx_gx (gx_cal C_law_draw hr (by decide) (ma_slot (i := 1) (ma_val (vx_pv (pv_px (px_b_len rfl z.len  (xs_cons (px_var (i := 5)) xs_nil)))) ma_nil)) (al_slot (al_val al_nil)))))) (vx_gx (gx_ix u1 (vx_pv (pv_px (px_var (i := 5)))) (vx_gx (gx_cal C_law_draw hr (by decide) (ma_slot (i := 1) (ma_val (vx_pv (pv_px (px_b_len rfl z.len  (xs_cons (px_var (i := 5)) xs_nil)))) ma_nil)) (al_slot (al_val al_nil)))))))
    (ms_cons (ms_compPF (i := 8) rfl sc.nd [("row", 11)] (by kernel_rfl) (pix_seq (px_var (i := 4))) (fun s_ H_ C_ cl_ fp_ => (mg_name sc.nd (i := 11))) (fun s_ H_ C_ cl_ fp_ => cp_nil) (fun s_ H_ C_ cl_ fp_ => (pv_px (px_tup (vs_cons (pv_px (px_ix u1 (px_var (i := 11)) px_int)) (vs_cons (pv_px (px_ix u1 (px_var (i := 11)) px_int)) (vs_cons (pv_px (px_ix u1 (px_var (i := 11)) px_int)) vs_nil)))))) (sw_true rfl rfl rfl rfl))
    (ms_cons (ms_set sc.nd (gx_vx (vx_pv (pv_px (px_lst (vs_cons (pv_px (px_var (i := 4))) (vs_cons (pv_px (px_rev (px_var (i := 4)))) (vs_cons (pv_px (px_var (i := 8))) (vs_cons (pv_px (px_cut (px_var (i := 4)) (pp_some px_int) pp_none)) (vs_cons (pv_px (px_op op_addM f_add (px_var (i := 4)) (px_lst (vs_cons (pv_px (px_tup (vs_cons (pv_px (px_var (i := 6))) (vs_cons (pv_px (px_var (i := 7))) (vs_cons (pv_px px_int) vs_nil))))) (vs_cons (pv_px (px_tup (vs_cons (pv_px (px_var (i := 7))) (vs_cons (pv_px (px_var (i := 6))) (vs_cons (pv_px px_int) vs_nil))))) vs_nil))))) (vs_cons (pv_px (px_b_tuple rfl z.tuple  (xs_cons (px_var (i := 4)) xs_nil))) (vs_cons (pv_px (px_lst vs_nil)) vs_nil))))))))))) (i := 9))
    (ms_cons (ms_set sc.nd (gx_vx (vx_gx (gx_op op_addM f_add (vx_pv (pv_px (px_var (i := 9)))) (vx_gx (gx_lst (ma_val (vx_pv (pv_px (px_comp rfl sc.nd [("row", 11)] (by kernel_rfl) (pix_seq (px_var (i := 4))) (fun s_ H_ C_ cl_ fp_ => (mg_name sc.nd (i := 11))) (fun s_ H_ C_ cl_ fp_ => cp_nil) (fun s_ H_ C_ cl_ fp_ => (pv_px (px_op op_addM f_add (px_cut (px_var (i := 11)) pp_none (pp_some px_int)) (px_tup (vs_cons (pv_px px_int) vs_nil)))))))) (ma_val (vx_gx (gx_cal C_law_any hr (by decide) (ma_slot (i := 1) (ma_val (vx_pv (pv_px px_int)) ma_nil)) (al_slot (al_val al_nil)))) (ma_val (vx_pv (pv_px (px_op op_addM f_add (px_var (i := 4)) (px_lst (vs_cons (pv_px (px_tup (vs_cons (pv_px px_str) (vs_cons (pv_px (px_var (i := 6))) (vs_cons (pv_px px_int) vs_nil))))) vs_nil))))) ma_nil)))))))) (i := 9))
    (ms_cons (ms_set sc.nd (gx_vx (vx_gx (gx_op op_addM f_add (vx_pv (pv_px (px_var (i := 9)))) (vx_gx (gx_comp rfl sc.nd [("k", 12)] (by kernel_rfl) (ix_s (pis_rng1 rfl z.range (vs_cons (pv_px px_int) vs_nil))) (fun s_ H_ C_ cl_ fp_ => (mg_name sc.nd (i := 12))) (fun s_ H_ C_ cl_ fp_ => cx_nil) (fun s_ H_ C_ cl_ fp_ => (vx_gx (gx_cal C_law_spoilt hr (by decide) (ma_slot (i := 1) (ma_val (vx_pv (pv_px (px_var (i := 4)))) ma_nil)) (al_slot (al_val al_nil)))))))))) (i := 9))
    (ms_one (ms_for PassesOwn.never rfl (ix_seq (vx_pv (pv_px (px_var (i := 9))))) (mg_name sc.nd (i := 10))
    (ms_one (ms_if (tx_not (tx_val (gx_cal C_law_like hr (by decide) (ma_val (vx_gx (gx_cal C_settles hr (by decide) (ma_pt (px_varP (i := 3)) (ma_val (vx_pv (pv_px (px_var (i := 10)))) ma_nil)) (al_pt (al_val al_nil)))) (ma_val (vx_gx (gx_cal C_law_settles hr (by decide) (ma_pt (px_varP (i := 3)) (ma_val (vx_pv (pv_px (px_var (i := 10)))) ma_nil)) (al_pt (al_val al_nil)))) ma_nil)) (al_val (al_val al_nil)))))
    (ms_one (ms_ret (gx_px px_bl)))
    ms_nil)))))))))))))
    (ms_one (ms_ret (gx_px px_bl))))) hok
end
theorem law_holds : ∀ ns : List Int, ns.length ≤ 63 → ∃ ρ', m_law_k07 (lawEnv 13 ns) = .ok (.rt (rB true), ρ') := law_holds_k07
theorem all_mk {l : PySem.W.OpenLaw} {w : World} {K : PySem.W.Frag} {h : Heap} {mg : Str → Option Value} {fa : Addr} (X : K.In h) (G : h.Ns mainGlobals mg) (hfa : mg "law" = some (.ref fa))
    {f1 : Addr} {od1 an1 : Option Addr} {sl1 : Array (Option Value)} {oc1 kV1 dc1 pm1 cd1 ct1 : Value}
    {f2 : Addr} {od2 an2 : Option Addr} {sl2 : Array (Option Value)} {oc2 kV2 dc2 pm2 cd2 ct2 : Value}
    {f3 : Addr} {od3 an3 : Option Addr} {sl3 : Array (Option Value)} {oc3 kV3 dc3 pm3 cd3 ct3 : Value}
    {f4 : Addr} {od4 an4 : Option Addr} {sl4 : Array (Option Value)} {oc4 kV4 dc4 pm4 cd4 ct4 : Value}
    {f5 : Addr} {od5 an5 : Option Addr} {sl5 : Array (Option Value)} {oc5 kV5 dc5 pm5 cd5 ct5 : Value}
    {f6 : Addr} {od6 an6 : Option Addr} {sl6 : Array (Option Value)} {oc6 kV6 dc6 pm6 cd6 ct6 : Value}
    {f7 : Addr} {od7 an7 : Option Addr} {sl7 : Array (Option Value)} {oc7 kV7 dc7 pm7 cd7 ct7 : Value}
    {f8 : Addr} {od8 an8 : Option Addr} {sl8 : Array (Option Value)} {oc8 kV8 dc8 pm8 cd8 ct8 : Value}
    {f9 : Addr} {od9 an9 : Option Addr} {sl9 : Array (Option Value)} {oc9 kV9 dc9 pm9 cd9 ct9 : Value}
    {f10 : Addr} {od10 an10 : Option Addr} {sl10 : Array (Option Value)} {oc10 kV10 dc10 pm10 cd10 ct10 : Value}
    {f11 : Addr} {od11 an11 : Option Addr} {sl11 : Array (Option Value)} {oc11 kV11 dc11 pm11 cd11 ct11 : Value}
    {f12 : Addr} {od12 an12 : Option Addr} {sl12 : Array (Option Value)} {oc12 kV12 dc12 pm12 cd12 ct12 : Value}
    {f13 : Addr} {od13 an13 : Option Addr} {sl13 : Array (Option Value)} {oc13 kV13 dc13 pm13 cd13 ct13 : Value}
    {f14 : Addr} {od14 an14 : Option Addr} {sl14 : Array (Option Value)} {oc14 kV14 dc14 pm14 cd14 ct14 : Value}
    {f15 : Addr} {od15 an15 : Option Addr} {sl15 : Array (Option Value)} {oc15 kV15 dc15 pm15 cd15 ct15 : Value}
    {f16 : Addr} {od16 an16 : Option Addr} {sl16 : Array (Option Value)} {oc16 kV16 dc16 pm16 cd16 ct16 : Value}
    {f17 : Addr} {od17 an17 : Option Addr} {sl17 : Array (Option Value)} {oc17 kV17 dc17 pm17 cd17 ct17 : Value}
    {f18 : Addr} {od18 an18 : Option Addr} {sl18 : Array (Option Value)} {oc18 kV18 dc18 pm18 cd18 ct18 : Value}
    {f19 : Addr} {od19 an19 : Option Addr} {sl19 : Array (Option Value)} {oc19 kV19 dc19 pm19 cd19 ct19 : Value}
    (a1 : PySem.W.nsIn K mainGlobals "is_whole" = some (some (.ref f1))) (l1 : K.lookup f1 = some ⟨oc1, od1, .func (PySem.W.fnOf "is_whole" "is_whole" (defArgs s_is_whole) (defBody s_is_whole) (defScope s_is_whole) .none kV1 dc1 pm1 an1 cd1 ct1), sl1⟩) (c1 : PySem.W.codeIn K cd1 "is_whole" = true) (k1 : PySem.W.keepIn K (.ref f1) = true)
    (a2 : PySem.W.nsIn K mainGlobals "lots_of" = some (some (.ref f2))) (l2 : K.lookup f2 = some ⟨oc2, od2, .func (PySem.W.fnOf "lots_of" "lots_of" (defArgs s_lots_of) (defBody s_lots_of) (defScope s_lots_of) .none kV2 dc2 pm2 an2 cd2 ct2), sl2⟩) (c2 : PySem.W.codeIn K cd2 "lots_of" = true) (k2 : PySem.W.keepIn K (.ref f2) = true)
    (a3 : PySem.W.nsIn K mainGlobals "paid_in" = some (some (.ref f3))) (l3 : K.lookup f3 = some ⟨oc3, od3, .func (PySem.W.fnOf "paid_in" "paid_in" (defArgs s_paid_in) (defBody s_paid_in) (defScope s_paid_in) .none kV3 dc3 pm3 an3 cd3 ct3), sl3⟩) (c3 : PySem.W.codeIn K cd3 "paid_in" = true) (k3 : PySem.W.keepIn K (.ref f3) = true)
    (a4 : PySem.W.nsIn K mainGlobals "_law_draw" = some (some (.ref f4))) (l4 : K.lookup f4 = some ⟨oc4, od4, .func (PySem.W.fnOf "_law_draw" "_law_draw" (defArgs s_law_draw) (defBody s_law_draw) (defScope s_law_draw) .none kV4 dc4 pm4 an4 cd4 ct4), sl4⟩) (c4 : PySem.W.codeIn K cd4 "_law_draw" = true) (k4 : PySem.W.keepIn K (.ref f4) = true)
    (a5 : PySem.W.nsIn K mainGlobals "_law_whole" = some (some (.ref f5))) (l5 : K.lookup f5 = some ⟨oc5, od5, .func (PySem.W.fnOf "_law_whole" "_law_whole" (defArgs s_law_whole) (defBody s_law_whole) (defScope s_law_whole) .none kV5 dc5 pm5 an5 cd5 ct5), sl5⟩) (c5 : PySem.W.codeIn K cd5 "_law_whole" = true) (k5 : PySem.W.keepIn K (.ref f5) = true)
    (a6 : PySem.W.nsIn K mainGlobals "_law_like" = some (some (.ref f6))) (l6 : K.lookup f6 = some ⟨oc6, od6, .func (PySem.W.fnOf "_law_like" "_law_like" (defArgs s_law_like) (defBody s_law_like) (defScope s_law_like) .none kV6 dc6 pm6 an6 cd6 ct6), sl6⟩) (c6 : PySem.W.codeIn K cd6 "_law_like" = true) (k6 : PySem.W.keepIn K (.ref f6) = true)
    (a7 : PySem.W.nsIn K mainGlobals "_law_fewest" = some (some (.ref f7))) (l7 : K.lookup f7 = some ⟨oc7, od7, .func (PySem.W.fnOf "_law_fewest" "_law_fewest" (defArgs s_law_fewest) (defBody s_law_fewest) (defScope s_law_fewest) .none kV7 dc7 pm7 an7 cd7 ct7), sl7⟩) (c7 : PySem.W.codeIn K cd7 "_law_fewest" = true) (k7 : PySem.W.keepIn K (.ref f7) = true)
    (a8 : PySem.W.nsIn K mainGlobals "is_within" = some (some (.ref f8))) (l8 : K.lookup f8 = some ⟨oc8, od8, .func (PySem.W.fnOf "is_within" "is_within" (defArgs s_is_within) (defBody s_is_within) (defScope s_is_within) .none kV8 dc8 pm8 an8 cd8 ct8), sl8⟩) (c8 : PySem.W.codeIn K cd8 "is_within" = true) (k8 : PySem.W.keepIn K (.ref f8) = true)
    (a9 : PySem.W.nsIn K mainGlobals "most_lots" = some (some (.ref f9))) (l9 : K.lookup f9 = some ⟨oc9, od9, .func (PySem.W.fnOf "most_lots" "most_lots" (defArgs s_most_lots) (defBody s_most_lots) (defScope s_most_lots) .none kV9 dc9 pm9 an9 cd9 ct9), sl9⟩) (c9 : PySem.W.codeIn K cd9 "most_lots" = true) (k9 : PySem.W.keepIn K (.ref f9) = true)
    (a10 : PySem.W.nsIn K mainGlobals "_law_any" = some (some (.ref f10))) (l10 : K.lookup f10 = some ⟨oc10, od10, .func (PySem.W.fnOf "_law_any" "_law_any" (defArgs s_law_any) (defBody s_law_any) (defScope s_law_any) .none kV10 dc10 pm10 an10 cd10 ct10), sl10⟩) (c10 : PySem.W.codeIn K cd10 "_law_any" = true) (k10 : PySem.W.keepIn K (.ref f10) = true)
    (a11 : PySem.W.nsIn K mainGlobals "_law_name" = some (some (.ref f11))) (l11 : K.lookup f11 = some ⟨oc11, od11, .func (PySem.W.fnOf "_law_name" "_law_name" (defArgs s_law_name) (defBody s_law_name) (defScope s_law_name) .none kV11 dc11 pm11 an11 cd11 ct11), sl11⟩) (c11 : PySem.W.codeIn K cd11 "_law_name" = true) (k11 : PySem.W.keepIn K (.ref f11) = true)
    (a12 : PySem.W.nsIn K mainGlobals "_law_settles" = some (some (.ref f12))) (l12 : K.lookup f12 = some ⟨oc12, od12, .func (PySem.W.fnOf "_law_settles" "_law_settles" (defArgs s_law_settles) (defBody s_law_settles) (defScope s_law_settles) .none kV12 dc12 pm12 an12 cd12 ct12), sl12⟩) (c12 : PySem.W.codeIn K cd12 "_law_settles" = true) (k12 : PySem.W.keepIn K (.ref f12) = true)
    (a13 : PySem.W.nsIn K mainGlobals "is_payment" = some (some (.ref f13))) (l13 : K.lookup f13 = some ⟨oc13, od13, .func (PySem.W.fnOf "is_payment" "is_payment" (defArgs s_is_payment) (defBody s_is_payment) (defScope s_is_payment) .none kV13 dc13 pm13 an13 cd13 ct13), sl13⟩) (c13 : PySem.W.codeIn K cd13 "is_payment" = true) (k13 : PySem.W.keepIn K (.ref f13) = true)
    (a14 : PySem.W.nsIn K mainGlobals "_law_names" = some (some (.ref f14))) (l14 : K.lookup f14 = some ⟨oc14, od14, .func (PySem.W.fnOf "_law_names" "_law_names" (defArgs s_law_names) (defBody s_law_names) (defScope s_law_names) .none kV14 dc14 pm14 an14 cd14 ct14), sl14⟩) (c14 : PySem.W.codeIn K cd14 "_law_names" = true) (k14 : PySem.W.keepIn K (.ref f14) = true)
    (a15 : PySem.W.nsIn K mainGlobals "settles" = some (some (.ref f15))) (l15 : K.lookup f15 = some ⟨oc15, od15, .func (PySem.W.fnOf "settles" "settles" (defArgs s_settles) (defBody s_settles) (defScope s_settles) .none kV15 dc15 pm15 an15 cd15 ct15), sl15⟩) (c15 : PySem.W.codeIn K cd15 "settles" = true) (k15 : PySem.W.keepIn K (.ref f15) = true)
    (a16 : PySem.W.nsIn K mainGlobals "_law_accounts" = some (some (.ref f16))) (l16 : K.lookup f16 = some ⟨oc16, od16, .func (PySem.W.fnOf "_law_accounts" "_law_accounts" (defArgs s_law_accounts) (defBody s_law_accounts) (defScope s_law_accounts) .none kV16 dc16 pm16 an16 cd16 ct16), sl16⟩) (c16 : PySem.W.codeIn K cd16 "_law_accounts" = true) (k16 : PySem.W.keepIn K (.ref f16) = true)
    (a17 : PySem.W.nsIn K mainGlobals "payments" = some (some (.ref f17))) (l17 : K.lookup f17 = some ⟨oc17, od17, .func (PySem.W.fnOf "payments" "payments" (defArgs s_payments) (defBody s_payments) (defScope s_payments) .none kV17 dc17 pm17 an17 cd17 ct17), sl17⟩) (c17 : PySem.W.codeIn K cd17 "payments" = true) (k17 : PySem.W.keepIn K (.ref f17) = true)
    (a18 : PySem.W.nsIn K mainGlobals "_law_spoilt" = some (some (.ref f18))) (l18 : K.lookup f18 = some ⟨oc18, od18, .func (PySem.W.fnOf "_law_spoilt" "_law_spoilt" (defArgs s_law_spoilt) (defBody s_law_spoilt) (defScope s_law_spoilt) .none kV18 dc18 pm18 an18 cd18 ct18), sl18⟩) (c18 : PySem.W.codeIn K cd18 "_law_spoilt" = true) (k18 : PySem.W.keepIn K (.ref f18) = true)
    (a19 : PySem.W.nsIn K mainGlobals "law" = some (some (.ref f19))) (l19 : K.lookup f19 = some ⟨oc19, od19, .func (PySem.W.fnOf "law" "law" (defArgs s_law_k07) (defBody s_law_k07) (defScope s_law_k07) .none kV19 dc19 pm19 an19 cd19 ct19), sl19⟩) (c19 : PySem.W.codeIn K cd19 "law" = true) (k19 : PySem.W.keepIn K (.ref f19) = true)
    (z0 : PySem.W.nsIn K mainGlobals "all" = some none) (z1 : PySem.W.nsIn K mainGlobals "bool" = some none) (z2 : PySem.W.nsIn K mainGlobals "dict" = some none) (z3 : PySem.W.nsIn K mainGlobals "int" = some none) (z4 : PySem.W.nsIn K mainGlobals "isinstance" = some none) (z5 : PySem.W.nsIn K mainGlobals "len" = some none) (z6 : PySem.W.nsIn K mainGlobals "list" = some none) (z7 : PySem.W.nsIn K mainGlobals "max" = some none) (z8 : PySem.W.nsIn K mainGlobals "range" = some none) (z9 : PySem.W.nsIn K mainGlobals "sorted" = some none) (z10 : PySem.W.nsIn K mainGlobals "str" = some none) (z11 : PySem.W.nsIn K mainGlobals "sum" = some none) (z12 : PySem.W.nsIn K mainGlobals "tuple" = some none) (z13 : PySem.W.nsIn K mainGlobals "zip" = some none) :
    ∃ fd : FuncData, (∀ (s : Shared) (v : Value), BindsTo s fd ⟨[v], []⟩ [("script", v)]) ∧ ∀ base : Heap, K.In base → base.Ns mainGlobals mg → FnOk l.prog w K mg base CX0 28 fa fd ["script"] (spLaw K 63) := by
  have e := hfa.symm.trans (PySem.W.mg_of X G a19)
  cases e
  have z : Z mg := ⟨PySem.W.mg_none_of X G z0, PySem.W.mg_none_of X G z1, PySem.W.mg_none_of X G z2, PySem.W.mg_none_of X G z3, PySem.W.mg_none_of X G z4, PySem.W.mg_none_of X G z5, PySem.W.mg_none_of X G z6, PySem.W.mg_none_of X G z7, PySem.W.mg_none_of X G z8, PySem.W.mg_none_of X G z9, PySem.W.mg_none_of X G z10, PySem.W.mg_none_of X G z11, PySem.W.mg_none_of X G z12, PySem.W.mg_none_of X G z13⟩
  have F1 := fun_mk (st := s_is_whole) l1 c1 k1
  have b1 := F1.binds (ps := ["thing"]) fun _ _ _ _ _ _ us hl => match us, hl with | [_], _ => rfl
  have F2 := fun_mk (st := s_lots_of) l2 c2 k2
  have b2 := F2.binds (ps := ["names"]) fun _ _ _ _ _ _ us hl => match us, hl with | [_], _ => rfl
  have F3 := fun_mk (st := s_paid_in) l3 c3 k3
  have b3 := F3.binds (ps := ["amounts", "lot"]) fun _ _ _ _ _ _ us hl => match us, hl with | [_, _], _ => rfl
  have F4 := fun_mk (st := s_law_draw) l4 c4 k4
  have b4 := F4.binds (ps := ["tape", "many"]) fun _ _ _ _ _ _ us hl => match us, hl with | [_, _], _ => rfl
  have F5 := fun_mk (st := s_law_whole) l5 c5 k5
  have b5 := F5.binds (ps := ["item"]) fun _ _ _ _ _ _ us hl => match us, hl with | [_], _ => rfl
  have F6 := fun_mk (st := s_law_like) l6 c6 k6
  have b6 := F6.binds (ps := ["one", "two"]) fun _ _ _ _ _ _ us hl => match us, hl with | [_, _], _ => rfl
  have F7 := fun_mk (st := s_law_fewest) l7 c7 k7
  have b7 := F7.binds (ps := ["amounts"]) fun _ _ _ _ _ _ us hl => match us, hl with | [_], _ => rfl
  have F8 := fun_mk (st := s_is_within) l8 c8 k8
  have b8 := F8.binds (ps := ["thing", "low", "high"]) fun _ _ _ _ _ _ us hl => match us, hl with | [_, _, _], _ => rfl
  have F9 := fun_mk (st := s_most_lots) l9 c9 k9
  have b9 := F9.binds (ps := ["amounts", "names", "known"]) fun _ _ _ _ _ _ us hl => match us, hl with | [_, _, _], _ => rfl
  have F10 := fun_mk (st := s_law_any) l10 c10 k10
  have b10 := F10.binds (ps := ["tape", "deep"]) fun _ _ _ _ _ _ us hl => match us, hl with | [_, _], _ => rfl
  have F11 := fun_mk (st := s_law_name) l11 c11 k11
  have b11 := F11.binds (ps := ["tape"]) fun _ _ _ _ _ _ us hl => match us, hl with | [_], _ => rfl
  have F12 := fun_mk (st := s_law_settles) l12 c12 k12
  have b12 := F12.binds (ps := ["accounts", "item"]) fun _ _ _ _ _ _ us hl => match us, hl with | [_, _], _ => rfl
  have F13 := fun_mk (st := s_is_payment) l13 c13 k13
  have b13 := F13.binds (ps := ["names", "thing"]) fun _ _ _ _ _ _ us hl => match us, hl with | [_, _], _ => rfl
  have F14 := fun_mk (st := s_law_names) l14 c14 k14
  have b14 := F14.binds (ps := ["tape", "many"]) fun _ _ _ _ _ _ us hl => match us, hl with | [_, _], _ => rfl
  have F15 := fun_mk (st := s_settles) l15 c15 k15
  have b15 := F15.binds (ps := ["accounts", "thing"]) fun _ _ _ _ _ _ us hl => match us, hl with | [_, _], _ => rfl
  have F16 := fun_mk (st := s_law_accounts) l16 c16 k16
  have b16 := F16.binds (ps := ["tape", "most"]) fun _ _ _ _ _ _ us hl => match us, hl with | [_, _], _ => rfl
  have F17 := fun_mk (st := s_payments) l17 c17 k17
  have b17 := F17.binds (ps := ["accounts"]) fun _ _ _ _ _ _ us hl => match us, hl with | [_], _ => rfl
  have F18 := fun_mk (st := s_law_spoilt) l18 c18 k18
  have b18 := F18.binds (ps := ["tape", "item"]) fun _ _ _ _ _ _ us hl => match us, hl with | [_, _], _ => rfl
  have F19 := fun_mk (st := s_law_k07) l19 c19 k19
  refine ⟨PySem.W.fnOf "law" "law" (defArgs s_law_k07) (defBody s_law_k07) (defScope s_law_k07) .none kV19 dc19 pm19 an19 cd19 ct19, fun s v => .of_eq rfl, fun base _ _ => ?_⟩
  have C_is_whole := cal_is_whole (P := l.prog) (w := w) (base := base) F1 (PySem.W.mg_of X G a1) b1 z
  have C_lots_of := cal_lots_of (P := l.prog) (w := w) (base := base) F2 (PySem.W.mg_of X G a2) b2 z
  have C_paid_in := cal_paid_in (P := l.prog) (w := w) (base := base) F3 (PySem.W.mg_of X G a3) b3 z
  have C_law_draw := cal_law_draw (P := l.prog) (w := w) (base := base) F4 (PySem.W.mg_of X G a4) b4 z
  have C_law_whole := cal_law_whole (P := l.prog) (w := w) (base := base) F5 (PySem.W.mg_of X G a5) b5 z
  have C_law_like := (cal_law_like (P := l.prog) (w := w) (base := base) F6 (PySem.W.mg_of X G a6) b6 z nR_law_like)
  have C_law_fewest := cal_law_fewest (P := l.prog) (w := w) (base := base) F7 (PySem.W.mg_of X G a7) b7 z
  have C_is_within := cal_is_within (P := l.prog) (w := w) (base := base) F8 (PySem.W.mg_of X G a8) b8 z C_is_whole
  have C_most_lots := (cal_most_lots (P := l.prog) (w := w) (base := base) F9 (PySem.W.mg_of X G a9) b9 z C_lots_of nR_most_lots)
  have C_law_any := (cal_law_any (P := l.prog) (w := w) (base := base) F10 (PySem.W.mg_of X G a10) b10 z C_law_draw nR_law_any)
  have C_law_name := cal_law_name (P := l.prog) (w := w) (base := base) F11 (PySem.W.mg_of X G a11) b11 z C_law_draw
  have C_law_settles := cal_law_settles (P := l.prog) (w := w) (base := base) F12 (PySem.W.mg_of X G a12) b12 z C_law_whole
  have C_is_payment := cal_is_payment (P := l.prog) (w := w) (base := base) F13 (PySem.W.mg_of X G a13) b13 z C_is_within
  have C_law_names := cal_law_names (P := l.prog) (w := w) (base := base) F14 (PySem.W.mg_of X G a14) b14 z C_law_name
  have C_settles := cal_settles (P := l.prog) (w := w) (base := base) F15 (PySem.W.mg_of X G a15) b15 z C_is_payment
  have C_law_accounts := cal_law_accounts (P := l.prog) (w := w) (base := base) F16 (PySem.W.mg_of X G a16) b16 z C_law_names C_law_draw
  have C_payments := cal_payments (P := l.prog) (w := w) (base := base) F17 (PySem.W.mg_of X G a17) b17 z C_most_lots C_paid_in
  have C_law_spoilt := (cal_law_spoilt (P := l.prog) (w := w) (base := base) F18 (PySem.W.mg_of X G a18) b18 z C_law_any C_law_draw C_law_whole nR_law_spoilt)
  exact ok_law_k07 F19 z C_law_accounts C_payments C_law_draw C_law_any C_law_spoilt C_law_like C_settles C_law_settles law_holds
end Mm.Lk07
open PySem PySem.W PyProof.Rows
set_option maxHeartbeats 0 in
theorem PySem.Challenge.cw_shelfunion_k07_payments_judged_holds : PySem.Challenge.rw_shelfunion_k07_payments_judged.Holds := by
  w_on; o_law; k_head; (case hw => w_witness2)
  k_fill
  refine L2.walk_of (l := PySem.Challenge.rw_shelfunion_k07_payments_judged) (n := 63) (k := 28) (x := "script") (CX := fun _ => L2.CX0) (sp := fun w => Mm.spLaw _ 63) rfl (by decide) rfl ⟨rfl, by decide, by decide⟩ (fun w h Y => PySem.W.kIn_of Y) ?F (fun _ _ a ns hl _ hS => ⟨a, ns, rfl, hl, hS, fun _ => rfl⟩) (fun _ _ _ _ _ h => h)
  case F =>
    intro w mg fa h KX G hmg
    refine' Mm.Lk07.all_mk KX G hmg ?a1 ?l1 ?c1 ?k1 ?a2 ?l2 ?c2 ?k2 ?a3 ?l3 ?c3 ?k3 ?a4 ?l4 ?c4 ?k4 ?a5 ?l5 ?c5 ?k5 ?a6 ?l6 ?c6 ?k6 ?a7 ?l7 ?c7 ?k7 ?a8 ?l8 ?c8 ?k8 ?a9 ?l9 ?c9 ?k9 ?a10 ?l10 ?c10 ?k10 ?a11 ?l11 ?c11 ?k11 ?a12 ?l12 ?c12 ?k12 ?a13 ?l13 ?c13 ?k13 ?a14 ?l14 ?c14 ?k14 ?a15 ?l15 ?c15 ?k15 ?a16 ?l16 ?c16 ?k16 ?a17 ?l17 ?c17 ?k17 ?a18 ?l18 ?c18 ?k18 ?a19 ?l19 ?c19 ?k19 ?z0 ?z1 ?z2 ?z3 ?z4 ?z5 ?z6 ?z7 ?z8 ?z9 ?z10 ?z11 ?z12 ?z13
    (case a1 => k_is); (case l1 => k_is); (case c1 => k_is); (case k1 => k_is); (case a2 => k_is); (case l2 => k_is); (case c2 => k_is); (case k2 => k_is); (case a3 => k_is); (case l3 => k_is); (case c3 => k_is); (case k3 => k_is); (case a4 => k_is); (case l4 => k_is); (case c4 => k_is); (case k4 => k_is); (case a5 => k_is); (case l5 => k_is); (case c5 => k_is); (case k5 => k_is); (case a6 => k_is); (case l6 => k_is); (case c6 => k_is); (case k6 => k_is); (case a7 => k_is); (case l7 => k_is); (case c7 => k_is); (case k7 => k_is); (case a8 => k_is); (case l8 => k_is); (case c8 => k_is); (case k8 => k_is); (case a9 => k_is); (case l9 => k_is); (case c9 => k_is); (case k9 => k_is); (case a10 => k_is); (case l10 => k_is); (case c10 => k_is); (case k10 => k_is); (case a11 => k_is); (case l11 => k_is); (case c11 => k_is); (case k11 => k_is); (case a12 => k_is); (case l12 => k_is); (case c12 => k_is); (case k12 => k_is); (case a13 => k_is); (case l13 => k_is); (case c13 => k_is); (case k13 => k_is); (case a14 => k_is); (case l14 => k_is); (case c14 => k_is); (case k14 => k_is); (case a15 => k_is); (case l15 => k_is); (case c15 => k_is); (case k15 => k_is); (case a16 => k_is); (case l16 => k_is); (case c16 => k_is); (case k16 => k_is); (case a17 => k_is); (case l17 => k_is); (case c17 => k_is); (case k17 => k_is); (case a18 => k_is); (case l18 => k_is); (case c18 => k_is); (case k18 => k_is); (case a19 => k_is); (case l19 => k_is); (case c19 => k_is); (case k19 => k_is)
    (case z0 => k_is); (case z1 => k_is); (case z2 => k_is); (case z3 => k_is); (case z4 => k_is); (case z5 => k_is); (case z6 => k_is); (case z7 => k_is); (case z8 => k_is); (case z9 => k_is); (case z10 => k_is); (case z11 => k_is); (case z12 => k_is); (case z13 => k_is)

