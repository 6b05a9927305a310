import PyProof.Rows.All
import Wide.All
import OpenK.AllK
import Wide.FinOn
import HandS.ForMost
import HandS.Style
import HandS.TupAny
import HandS.TupMul
import HandS.Wide
import HandS.IsInst
import HandS.Flow
import HandS.Deep
import KE.KTupSum
import HandS.Head0
import HandS.Head1
import HandS.Head2
import HandS.HeadEnd
import HandS.HeadHook1
import HandS.HeadHook2
import HandS.Defaults
import HandS.Text
import KE.KRevSl
import HandS.Conv
import PyProof.P3In
import HandS.SortInts
import HandS.SortKw
import KE.GoesMore
import HandS.Zip
import KE.DataMinMax
import KE.SortData
import PyProof.Rows.RowBridgeK
import HandS.SetFor
import HandS.Strs
import PySem.Challenge.RW_toldbysums_k28_whole_rows_of_switches
set_option Elab.async false
set_option linter.all false
set_option maxRecDepth 100000
set_option maxHeartbeats 4000000
/-! the data layer: values without a heap, frozen ones and lists that change -/
namespace DL
open PySem PySem.Spec PyProof.Rows L2

inductive F where
  | non | bl (b : Bool) | int (i : Int) | str (x : Str) | tup (l : List F) | lst (l : List F) | rol (l : List F) | loc (a : Addr)

mutual
inductive Den (K : PySem.W.Frag) (Z : Hp) : V → F → Prop
  | non : Den K Z .non .non
  | bl (b : Bool) : Den K Z (.bl b) (.bl b)
  | int (i : Int) : Den K Z (.int i) (.int i)
  | str (x : Str) : Den K Z (.str x) (.str x)
  | tup {a : Addr} {vs : List V} {fs : List F} : SqT K Z a vs → Dens K Z vs fs → Den K Z (.ref a) (.tup fs)
  | lst {a : Addr} {vs : List V} {fs : List F} : Z a = some (.lst vs) → Dens K Z vs fs → Den K Z (.ref a) (.lst fs)
  | rol {a : Addr} {vs : List V} {fs : List F} : SqL K Z a vs → Dens K Z vs fs → Den K Z (.ref a) (.rol fs)
  | loc (a : Addr) : Den K Z (.ref a) (.loc a)
inductive Dens (K : PySem.W.Frag) (Z : Hp) : List V → List F → Prop
  | nil : Dens K Z [] []
  | cons {v : V} {vs : List V} {f : F} {fs : List F} : Den K Z v f → Dens K Z vs fs → Dens K Z (v :: vs) (f :: fs)
end

abbrev Sto := Addr → Option (List F)
abbrev Slots := List (Option F)
abbrev Sig := List (Option V)
def updS (S : Sto) (a : Addr) (l : List F) : Sto := fun b => if b = a then some l else S b
def delS (S : Sto) (a : Addr) : Sto := fun b => if b = a then none else S b
theorem updS_same {S : Sto} {a : Addr} {l : List F} : updS S a l a = some l := by unfold updS; rw [if_pos rfl]
theorem updS_ne {S : Sto} {a b : Addr} {l : List F} (h : b ≠ a) : updS S a l b = S b := by unfold updS; rw [if_neg h]
theorem delS_same {S : Sto} {a : Addr} : delS S a a = none := by unfold delS; rw [if_pos rfl]
theorem delS_ne {S : Sto} {a b : Addr} (h : b ≠ a) : delS S a b = S b := by unfold delS; rw [if_neg h]

structure RelS (K : PySem.W.Frag) (Z : Hp) (S : Sto) (H : Hp) : Prop where
  z : ∀ a o, Z a = some o → H a = some o ∧ S a = none
  s : ∀ a fs, S a = some fs → ∃ vs, H a = some (.lst vs) ∧ Dens K Z vs fs
structure Ext (Z : Hp) (S : Sto) (H : Hp) (Z' : Hp) (S' : Sto) (H' : Hp) : Prop where
  z : ∀ a o, Z a = some o → Z' a = some o
  h : ∀ a o, H a = some o → S a = none → H' a = some o ∧ S' a = none ∧ Z' a = Z a
  d : ∀ a, H' a = none → H a = none
structure REnv (K : PySem.W.Frag) (Z : Hp) (ρ : Slots) (σ : Sig) : Prop where
  len : ρ.length = σ.length
  at_ : ∀ (i : Nat) (f : F), ρ[i]? = some (some f) → ∃ v, σ[i]? = some (some v) ∧ Den K Z v f

section
variable {K : PySem.W.Frag} {Z Z' Z1 Z2 H H' H1 H2 : Hp} {S S' S1 S2 : Sto} {ρ : Slots} {σ : Sig} {v : V} {f : F} {vs : List V} {fs : List F} {a p : Addr}
theorem Ext.refl : Ext Z S H Z S H := ⟨fun _ _ h => h, fun _ _ h hs => ⟨h, hs, rfl⟩, fun _ h => h⟩
theorem upd_none {o : HO} (h : upd H p o a = none) : H a = none := by
  by_cases e : a = p
  · subst e
    rw [upd_same] at h
    cases h
  · rwa [upd_ne e] at h
theorem Ext.trans (x : Ext Z S H Z1 S1 H1) (y : Ext Z1 S1 H1 Z2 S2 H2) : Ext Z S H Z2 S2 H2 :=
  ⟨fun a o h => y.z a o (x.z a o h), fun a o h hs => by
    obtain ⟨h1, h2, h3⟩ := x.h a o h hs
    obtain ⟨q1, q2, q3⟩ := y.h a o h1 h2
    exact ⟨q1, q2, q3.trans h3⟩, fun a h => x.d a (y.d a h)⟩
theorem Rd_ext {u : HO} (z : ∀ a o, Z a = some o → Z' a = some o) (h : Rd Z a u) : Rd Z' a u := h.elim (fun h => .inl (z _ _ h)) fun ⟨o, h⟩ => .inr ⟨o, z _ _ h⟩
theorem SqT_ext (z : ∀ a o, Z a = some o → Z' a = some o) (h : SqT K Z a vs) : SqT K Z' a vs := h.elim (fun h => .inl (Rd_ext z h)) .inr
theorem SqL_ext (z : ∀ a o, Z a = some o → Z' a = some o) (h : SqL K Z a vs) : SqL K Z' a vs := h.elim (fun h => .inl (Rd_ext z h)) .inr
mutual
theorem Den.ext (z : ∀ a o, Z a = some o → Z' a = some o) : ∀ {f : F} {v : V}, Den K Z v f → Den K Z' v f
  | .non, _, h => by cases h; exact .non
  | .bl _, _, h => by cases h; exact .bl _
  | .int _, _, h => by cases h; exact .int _
  | .str _, _, h => by cases h; exact .str _
  | .tup fs, _, h => by
    cases h with
    | tup h1 h2 => exact .tup (SqT_ext z h1) (Dens.ext z h2)
  | .lst fs, _, h => by
    cases h with
    | lst h1 h2 => exact .lst (z _ _ h1) (Dens.ext z h2)
  | .rol fs, _, h => by
    cases h with
    | rol h1 h2 => exact .rol (SqL_ext z h1) (Dens.ext z h2)
  | .loc _, _, h => by cases h; exact .loc _
theorem Dens.ext (z : ∀ a o, Z a = some o → Z' a = some o) : ∀ {fs : List F} {vs : List V}, Dens K Z vs fs → Dens K Z' vs fs
  | [], _, h => by cases h; exact .nil
  | f :: fs, _, h => by
    cases h with
    | cons h1 h2 => exact .cons (Den.ext z h1) (Dens.ext z h2)
end
theorem Dens.length : ∀ {fs : List F} {vs : List V}, Dens K Z vs fs → vs.length = fs.length
  | [], _, h => by cases h; rfl
  | f :: fs, _, h => by
    cases h with
    | cons h1 h2 => rw [List.length_cons, List.length_cons, Dens.length h2]
theorem Dens.get : ∀ {fs : List F} {vs : List V} {i : Nat} {f : F}, Dens K Z vs fs → fs[i]? = some f → ∃ v, vs[i]? = some v ∧ Den K Z v f
  | [], _, _, _, _, e => by simp at e
  | g :: fs, _, 0, f, h, e => by
    cases h with
    | cons h1 h2 =>
      simp at e
      subst e
      exact ⟨_, rfl, h1⟩
  | g :: fs, _, i + 1, f, h, e => by
    cases h with
    | cons h1 h2 => exact Dens.get (i := i) h2 (by simpa using e)
theorem Dens.append : ∀ {fs gs : List F} {vs us : List V}, Dens K Z vs fs → Dens K Z us gs → Dens K Z (vs ++ us) (fs ++ gs)
  | [], _, _, _, h, q => by cases h; exact q
  | f :: fs, _, _, _, h, q => by
    cases h with
    | cons h1 h2 => exact .cons h1 (Dens.append h2 q)
theorem Dens.take : ∀ {fs : List F} {vs : List V} (n : Nat), Dens K Z vs fs → Dens K Z (vs.take n) (fs.take n)
  | _, _, 0, _ => .nil
  | [], _, n + 1, h => by cases h; exact .nil
  | f :: fs, _, n + 1, h => by
    cases h with
    | cons h1 h2 => exact .cons h1 (Dens.take n h2)
theorem Dens.drop : ∀ {fs : List F} {vs : List V} (n : Nat), Dens K Z vs fs → Dens K Z (vs.drop n) (fs.drop n)
  | _, _, 0, h => h
  | [], _, n + 1, h => by cases h; exact .nil
  | f :: fs, _, n + 1, h => by
    cases h with
    | cons h1 h2 => exact Dens.drop n h2
theorem Dens.set : ∀ {fs : List F} {vs : List V} (n : Nat) {v : V} {f : F}, Den K Z v f → Dens K Z vs fs → Dens K Z (vs.set n v) (fs.set n f)
  | [], _, _, _, _, _, h => by cases h; exact .nil
  | f :: fs, _, 0, _, _, d, h => by
    cases h with
    | cons h1 h2 => exact .cons d h2
  | f :: fs, _, n + 1, _, _, d, h => by
    cases h with
    | cons h1 h2 => exact .cons h1 (Dens.set n d h2)
theorem Dens.eraseIdx : ∀ {fs : List F} {vs : List V} (n : Nat), Dens K Z vs fs → Dens K Z (vs.eraseIdx n) (fs.eraseIdx n)
  | [], _, _, h => by cases h; exact .nil
  | f :: fs, _, 0, h => by
    cases h with
    | cons h1 h2 => exact h2
  | f :: fs, _, n + 1, h => by
    cases h with
    | cons h1 h2 => exact .cons h1 (Dens.eraseIdx n h2)
theorem Dens.reverse {fs : List F} {vs : List V} (h : Dens K Z vs fs) : Dens K Z vs.reverse fs.reverse := by
  induction fs generalizing vs with
  | nil => cases h; exact .nil
  | cons f fs ih =>
    cases h with
    | cons h1 h2 =>
      rw [List.reverse_cons, List.reverse_cons]
      exact (ih h2).append (.cons h1 .nil)
theorem Dens.rep {fs : List F} {vs : List V} (h : Dens K Z vs fs) : ∀ k : Nat, Dens K Z (List.replicate k vs).flatten (List.replicate k fs).flatten
  | 0 => .nil
  | k + 1 => by
    rw [List.replicate_succ, List.replicate_succ, List.flatten_cons, List.flatten_cons]
    exact h.append (h.rep k)
theorem Dens.nil_iff (h : Dens K Z vs fs) : vs = [] ↔ fs = [] := by
  have e := h.length
  constructor <;> intro q <;> subst q <;> simp at e
  · exact List.eq_nil_of_length_eq_zero e.symm
  · exact e
/-- ints, bools, texts -/
theorem Dens.ints : ∀ {ns : List Int} {vs : List V}, Dens K Z vs (ns.map F.int) → vs = ns.map V.int
  | [], _, h => by cases h; rfl
  | n :: ns, _, h => by
    cases h with
    | cons h1 h2 => cases h1; rw [Dens.ints h2]; rfl
theorem Dens.bls : ∀ {ns : List Bool} {vs : List V}, Dens K Z vs (ns.map F.bl) → vs = ns.map V.bl
  | [], _, h => by cases h; rfl
  | n :: ns, _, h => by
    cases h with
    | cons h1 h2 => cases h1; rw [Dens.bls h2]; rfl
theorem Dens.strs : ∀ {ns : List Str} {vs : List V}, Dens K Z vs (ns.map F.str) → vs = ns.map V.str
  | [], _, h => by cases h; rfl
  | n :: ns, _, h => by
    cases h with
    | cons h1 h2 => cases h1; rw [Dens.strs h2]; rfl
theorem dens_ints : ∀ (ns : List Int), Dens K Z (ns.map V.int) (ns.map F.int)
  | [] => .nil
  | n :: ns => .cons (.int n) (dens_ints ns)

theorem REnv.ext (r : REnv K Z ρ σ) (z : ∀ a o, Z a = some o → Z' a = some o) : REnv K Z' ρ σ := ⟨r.len, fun i f e => by
  obtain ⟨v, h1, h2⟩ := r.at_ i f e
  exact ⟨v, h1, h2.ext z⟩⟩
theorem REnv.set (r : REnv K Z ρ σ) (i : Nat) (d : Den K Z v f) : REnv K Z (ρ.set i (some f)) (σ.set i (some v)) := by
  refine ⟨by rw [List.length_set, List.length_set, r.len], fun j g e => ?_⟩
  by_cases hij : i = j
  · subst hij
    by_cases hl : i < ρ.length
    · rw [List.getElem?_set_self hl] at e
      cases e
      exact ⟨v, List.getElem?_set_self (by rw [← r.len]; exact hl), d⟩
    · rw [List.getElem?_eq_none (by rw [List.length_set]; omega)] at e
      cases e
  · rw [List.getElem?_set_ne hij] at e
    rw [List.getElem?_set_ne hij]
    exact r.at_ j g e
theorem RelS.nz (r : RelS K Z S H) (h : H p = none) : Z p = none := by
  cases q : Z p with
  | none => rfl
  | some o =>
    have := (r.z _ _ q).1
    rw [h] at this
    cases this
theorem RelS.ns (r : RelS K Z S H) (h : H p = none) : S p = none := by
  cases q : S p with
  | none => rfl
  | some o =>
    obtain ⟨vs, e, _⟩ := r.s _ _ q
    rw [h] at e
    cases e
/-- a new object, kept frozen -/
theorem RelS.newZ (r : RelS K Z S H) (h : H p = none) (o : HO) : RelS K (upd Z p o) S (upd H p o) ∧ Ext Z S H (upd Z p o) S (upd H p o) := by
  have hz := r.nz h
  have hs := r.ns h
  have hx : ∀ a u, Z a = some u → upd Z p o a = some u := fun a u q => by rw [upd_ne (ne_of_none q hz)]; exact q
  refine ⟨⟨fun a u q => ?_, fun a fs q => ?_⟩, ⟨hx, fun a u q hq => ?_, fun a q => upd_none q⟩⟩
  · by_cases ha : a = p
    · subst ha
      rw [upd_same] at q ⊢
      exact ⟨q, hs⟩
    · rw [upd_ne ha] at q ⊢
      exact r.z a u q
  · obtain ⟨vs, e, d⟩ := r.s a fs q
    exact ⟨vs, by rw [upd_ne (ne_of_none e h)]; exact e, d.ext hx⟩
  · have ha : a ≠ p := ne_of_none q h
    rw [upd_ne ha, upd_ne ha]
    exact ⟨q, hq, rfl⟩
/-- a new object, that nobody holds yet -/
theorem RelS.new (r : RelS K Z S H) (h : H p = none) (o : HO) : RelS K Z S (upd H p o) ∧ Ext Z S H Z S (upd H p o) := by
  have hz := r.nz h
  refine ⟨⟨fun a u q => ?_, fun a fs q => ?_⟩, ⟨fun _ _ q => q, fun a u q hq => ?_, fun a q => upd_none q⟩⟩
  · rw [upd_ne (ne_of_none q hz)]
    exact r.z a u q
  · obtain ⟨vs, e, d⟩ := r.s a fs q
    exact ⟨vs, by rw [upd_ne (ne_of_none e h)]; exact e, d⟩
  · have ha : a ≠ p := ne_of_none q h
    rw [upd_ne ha]
    exact ⟨q, hq, rfl⟩
/-- a list that nobody holds is frozen; is kept as one that changes -/
theorem RelS.freeze (r : RelS K Z S H) (h : H p = some (.lst vs)) (hz : Z p = none) (hs : S p = none) : RelS K (upd Z p (.lst vs)) S H := by
  have hx : ∀ a u, Z a = some u → upd Z p (.lst vs) a = some u := fun a u q => by rw [upd_ne (ne_of_none q hz)]; exact q
  refine ⟨fun a u q => ?_, fun a fs q => ?_⟩
  · by_cases ha : a = p
    · subst ha
      rw [upd_same] at q
      exact ⟨h.trans q, hs⟩
    · rw [upd_ne ha] at q
      exact r.z a u q
  · obtain ⟨us, e, d⟩ := r.s a fs q
    exact ⟨us, e, d.ext hx⟩
theorem upd_ext {o : HO} (hz : Z p = none) : ∀ a u, Z a = some u → upd Z p o a = some u := fun a u q => by rw [upd_ne (ne_of_none q hz)]; exact q
theorem RelS.own (r : RelS K Z S H) (h : H p = some (.lst vs)) (hz : Z p = none) (d : Dens K Z vs fs) : RelS K Z (updS S p fs) H := by
  refine ⟨fun a u q => ?_, fun a gs q => ?_⟩
  · have ha : a ≠ p := ne_of_none q hz
    rw [updS_ne ha]
    exact r.z a u q
  · by_cases ha : a = p
    · subst ha
      rw [updS_same] at q
      cases q
      exact ⟨vs, h, d⟩
    · rw [updS_ne ha] at q
      exact r.s a gs q
/-- a list that changes is changed -/
theorem RelS.write (r : RelS K Z S H) {gs : List F} {us : List V} (h : S p = some fs) (d : Dens K Z us gs) : RelS K Z (updS S p gs) (upd H p (.lst us)) ∧ Ext Z S H Z (updS S p gs) (upd H p (.lst us)) := by
  refine ⟨⟨fun a u q => ?_, fun a gs q => ?_⟩, ⟨fun _ _ q => q, fun a u q hq => ?_, fun a q => upd_none q⟩⟩
  · obtain ⟨q1, q2⟩ := r.z a u q
    have ha : a ≠ p := fun e => by subst e; rw [h] at q2; cases q2
    rw [updS_ne ha, upd_ne ha]
    exact ⟨q1, q2⟩
  · by_cases ha : a = p
    · subst ha
      rw [updS_same] at q
      cases q
      exact ⟨us, upd_same, d⟩
    · rw [updS_ne ha] at q
      obtain ⟨ws, e, d⟩ := r.s a gs q
      exact ⟨ws, by rw [upd_ne ha]; exact e, d⟩
  · have ha : a ≠ p := fun e => by subst e; rw [h] at hq; cases hq
    rw [updS_ne ha, upd_ne ha]
    exact ⟨q, hq, rfl⟩
/-- a list that changes is frozen -/
theorem RelS.freezeS (r : RelS K Z S H) (h : S p = some fs) : ∃ vs, H p = some (.lst vs) ∧ RelS K (upd Z p (.lst vs)) (delS S p) H ∧ Ext Z S H (upd Z p (.lst vs)) (delS S p) H ∧ Den K (upd Z p (.lst vs)) (.ref p) (.lst fs) := by
  obtain ⟨vs, e, d⟩ := r.s p fs h
  have hz : Z p = none := by
    cases q : Z p with
    | none => rfl
    | some o =>
      have := (r.z _ _ q).2
      rw [h] at this
      cases this
  refine ⟨vs, e, ⟨fun a u q => ?_, fun a gs q => ?_⟩, ⟨upd_ext hz, fun a u q hq => ?_, fun a q => q⟩, .lst upd_same (d.ext (upd_ext hz))⟩
  · by_cases ha : a = p
    · subst ha
      rw [upd_same] at q
      exact ⟨e.trans q, delS_same⟩
    · rw [upd_ne ha] at q
      rw [delS_ne ha]
      exact r.z a u q
  · by_cases ha : a = p
    · subst ha
      rw [delS_same] at q
      cases q
    · rw [delS_ne ha] at q
      obtain ⟨us, e, d⟩ := r.s a gs q
      exact ⟨us, e, d.ext (upd_ext hz)⟩
  · have ha : a ≠ p := fun e => by subst e; rw [h] at hq; cases hq
    rw [delS_ne ha, upd_ne ha]
    exact ⟨q, hq, rfl⟩
theorem RelS.sqT (r : RelS K Z S H) (h : SqT K Z a vs) : SqT K H a vs := SqT_ext (fun a o q => (r.z a o q).1) h
theorem RelS.sqL (r : RelS K Z S H) (h : SqL K Z a vs) : SqL K H a vs := SqL_ext (fun a o q => (r.z a o q).1) h
/-- nothing else of the store than what was there -/
def restr (S S' : Sto) : Sto := fun a => if (S a).isSome = true then S' a else none
theorem RelS.restr (r : RelS K Z' S' H') (S : Sto) : RelS K Z' (restr S S') H' := by
  refine ⟨fun a u q => ⟨(r.z a u q).1, ?_⟩, fun a fs q => ?_⟩
  · unfold DL.restr
    split
    · exact (r.z a u q).2
    · rfl
  · unfold DL.restr at q
    split at q
    · exact r.s a fs q
    · cases q
theorem Ext.restr (x : Ext Z S H Z' S' H') : Ext Z S H Z' (restr S S') H' := ⟨x.z, fun a o h hs => by
  obtain ⟨h1, h2, h3⟩ := x.h a o h hs
  refine ⟨h1, ?_, h3⟩
  unfold DL.restr
  rw [hs]
  rfl, x.d⟩
theorem restr_self : restr S S = S := by
  funext a
  unfold DL.restr
  cases S a <;> rfl
end
end DL

set_option maxHeartbeats 4000000
namespace DL
open PySem PySem.Spec PyProof.Rows L2

abbrev W (α : Type) := Slots → Sto → (α → Sto → Prop) → Prop
def Mono {α : Type} (m : W α) : Prop := ∀ ρ S (Q Q' : α → Sto → Prop), (∀ d S', Q d S' → Q' d S') → m ρ S Q → m ρ S Q'
abbrev DFin (K : PySem.W.Frag) (Z : Hp) (S : Sto) (H : Hp) (Q : VK) (d : F) (S' : Sto) : Prop := ∀ v Z' H', Ext Z S H Z' S' H' → RelS K Z' S' H' → Den K Z' v d → Q v H'
abbrev DsFin (K : PySem.W.Frag) (Z : Hp) (S : Sto) (H : Hp) (Q : List V → Hp → Prop) (d : List F) (S' : Sto) : Prop := ∀ v Z' H', Ext Z S H Z' S' H' → RelS K Z' S' H' → Dens K Z' v d → Q v H'
abbrev BFin (K : PySem.W.Frag) (Z : Hp) (S : Sto) (H : Hp) (Q : Bool → Hp → Prop) (d : Bool) (S' : Sto) : Prop := ∀ Z' H', Ext Z S H Z' S' H' → RelS K Z' S' H' → Q d H'
/-- a new list at p, held by nobody -/
abbrev LFin (K : PySem.W.Frag) (Z : Hp) (S : Sto) (H : Hp) (Q : VK) (d : List F) (S' : Sto) : Prop := ∀ p vs Z' H', Ext Z S H Z' S' H' → RelS K Z' S' H' → H p = none → H' p = some (.lst vs) → Z' p = none → S' p = none → Dens K Z' vs d → Q (.ref p) H'
def tD (K : PySem.W.Frag) (m : W F) : TE := fun σ H Q => ∃ ρ S Z, REnv K Z ρ σ ∧ RelS K Z S H ∧ m ρ S (DFin K Z S H Q)
def tDs (K : PySem.W.Frag) (m : W (List F)) : TA := fun σ H Q => ∃ ρ S Z, REnv K Z ρ σ ∧ RelS K Z S H ∧ m ρ S (DsFin K Z S H Q)
def tB2 (K : PySem.W.Frag) (m : W Bool) : TT := fun σ H Q => ∃ ρ S Z, REnv K Z ρ σ ∧ RelS K Z S H ∧ m ρ S (BFin K Z S H Q)
def tL (K : PySem.W.Frag) (m : W (List F)) : TE := fun σ H Q => ∃ ρ S Z, REnv K Z ρ σ ∧ RelS K Z S H ∧ m ρ S (LFin K Z S H Q)
structure PD (X : Cx) (e : Expr) (m : W F) : Prop where
  mono : Mono m
  run : PE X e (tD X.K m)
structure PL (X : Cx) (e : Expr) (m : W (List F)) : Prop where
  mono : Mono m
  run : PE X e (tL X.K m)
structure PDs (X : Cx) (es : List Expr) (m : W (List F)) : Prop where
  mono : Mono m
  run : PA X es (tDs X.K m)
structure PB (X : Cx) (e : Expr) (m : W Bool) : Prop where
  mono : Mono m
  run : PT X e (tB2 X.K m)
structure PBW (X : Cx) (e : Expr) (m : W Bool) : Prop where
  mono : Mono m
  run : PW X e (tB2 X.K m)

theorem weakE {X : Cx} {e : Expr} {t t' : TE} (h : PE X e t) (k : ∀ σ H Q, t' σ H Q → t σ H Q) : PE X e t' := ⟨fun pins s σ H Q I q => h.run pins s σ H Q I (k σ H Q q)⟩
theorem weakT {X : Cx} {e : Expr} {t t' : TT} (h : PT X e t) (k : ∀ σ H Q, t' σ H Q → t σ H Q) : PT X e t' := ⟨fun pins s σ H Q I q => h.run pins s σ H Q I (k σ H Q q)⟩
theorem weakW {X : Cx} {e : Expr} {t t' : TT} (h : PW X e t) (k : ∀ σ H Q, t' σ H Q → t σ H Q) : PW X e t' := ⟨fun w pins s σ H Q I q => h.run w pins s σ H Q I (k σ H Q q)⟩
theorem weakA {X : Cx} {e : List Expr} {t t' : TA} (h : PA X e t) (k : ∀ σ H Q, t' σ H Q → t σ H Q) : PA X e t' := ⟨fun p pins s σ H Q I q => h.run p pins s σ H Q I (k σ H Q q)⟩

section
variable {K : PySem.W.Frag} {Z Z' H H' : Hp} {S S' : Sto} {ρ : Slots} {σ : Sig}
theorem tD_in {m : W F} (hm : Mono m) {P : F → Sto → Prop} {Q : VK} (r : REnv K Z ρ σ) (R : RelS K Z S H) (h : m ρ S P) (k : ∀ x S1 v Z1 H1, P x S1 → Ext Z S H Z1 S1 H1 → RelS K Z1 S1 H1 → Den K Z1 v x → Q v H1) : tD K m σ H Q :=
  ⟨ρ, S, Z, r, R, hm _ _ _ _ (fun x S1 p v Z1 H1 e R1 d => k x S1 v Z1 H1 p e R1 d) h⟩
theorem tDs_in {m : W (List F)} (hm : Mono m) {P : List F → Sto → Prop} {Q : List V → Hp → Prop} (r : REnv K Z ρ σ) (R : RelS K Z S H) (h : m ρ S P) (k : ∀ x S1 v Z1 H1, P x S1 → Ext Z S H Z1 S1 H1 → RelS K Z1 S1 H1 → Dens K Z1 v x → Q v H1) : tDs K m σ H Q :=
  ⟨ρ, S, Z, r, R, hm _ _ _ _ (fun x S1 p v Z1 H1 e R1 d => k x S1 v Z1 H1 p e R1 d) h⟩
theorem tB_in {m : W Bool} (hm : Mono m) {P : Bool → Sto → Prop} {Q : Bool → Hp → Prop} (r : REnv K Z ρ σ) (R : RelS K Z S H) (h : m ρ S P) (k : ∀ x S1 Z1 H1, P x S1 → Ext Z S H Z1 S1 H1 → RelS K Z1 S1 H1 → Q x H1) : tB2 K m σ H Q :=
  ⟨ρ, S, Z, r, R, hm _ _ _ _ (fun x S1 p Z1 H1 e R1 => k x S1 Z1 H1 p e R1) h⟩
theorem tL_in {m : W (List F)} (hm : Mono m) {P : List F → Sto → Prop} {Q : VK} (r : REnv K Z ρ σ) (R : RelS K Z S H) (h : m ρ S P) (k : ∀ x S1 p vs Z1 H1, P x S1 → Ext Z S H Z1 S1 H1 → RelS K Z1 S1 H1 → H p = none → H1 p = some (.lst vs) → Z1 p = none → S1 p = none → Dens K Z1 vs x → Q (.ref p) H1) : tL K m σ H Q :=
  ⟨ρ, S, Z, r, R, hm _ _ _ _ (fun x S1 q p vs Z1 H1 e R1 n1 n2 n3 n4 d => k x S1 p vs Z1 H1 q e R1 n1 n2 n3 n4 d) h⟩
end

/-! ### names, constants -/
def wVar (i : Nat) : W F := fun ρ S Q => match ρ[i]? with | some (some f) => Q f S | _ => False
def wC (f : F) : W F := fun _ S Q => Q f S
theorem mono_wVar {i : Nat} : Mono (wVar i) := fun ρ S Q Q' k h => by
  unfold wVar at h ⊢
  split at h
  · exact k _ _ h
  · exact h.elim
theorem mono_wC {f : F} : Mono (wC f) := fun ρ S Q Q' k h => k _ _ h
theorem wVar_of {ρ : Slots} {S : Sto} {Q : F → Sto → Prop} {i : Nat} (h : wVar i ρ S Q) : ∃ f, ρ[i]? = some (some f) ∧ Q f S := by
  unfold wVar at h
  split at h
  · exact ⟨_, by assumption, h⟩
  · exact h.elim
section
variable {X : Cx} {a b c e : Expr} {pos : Pos} {m ma mb mc : W F}
theorem pd_var {i : Nat} (h : PE X e (tVar i)) : PD X e (wVar i) := ⟨mono_wVar, weakE h fun σ H Q ⟨ρ, S, Z, r, R, h⟩ => by
  obtain ⟨f, e1, q⟩ := wVar_of h
  obtain ⟨v, e2, d⟩ := r.at_ i f e1
  exact ⟨v, e2, q v Z H .refl R d⟩⟩
theorem pd_const {v : V} {f : F} (h : PE X e (tC v)) (d : ∀ Z, Den X.K Z v f) : PD X e (wC f) := ⟨mono_wC, weakE h fun σ H Q ⟨ρ, S, Z, r, R, h⟩ => h v Z H .refl R (d Z)⟩
theorem pd_int {i j} : PD X (.Constant (.int i) j pos) (wC (.int i)) := pd_const pe_int fun _ => .int _
theorem pd_bl {i j} : PD X (.Constant (.bool i) j pos) (wC (.bl i)) := pd_const pe_bl fun _ => .bl _
theorem pd_non {j} : PD X (.Constant .none j pos) (wC .non) := pd_const pe_non fun _ => .non
theorem pd_str {i j} : PD X (.Constant (.str i) j pos) (wC (.str i)) := pd_const pe_str fun _ => .str _

/-! ### operators -/
abbrev DOp := F → F → Sto → (F → Sto → Prop) → Prop
def rD (K : PySem.W.Frag) (o : DOp) : R2 := fun x y H Q => ∃ d e S Z, Den K Z x d ∧ Den K Z y e ∧ RelS K Z S H ∧ o d e S (DFin K Z S H Q)
def MonoO (o : DOp) : Prop := ∀ x y S (Q Q' : F → Sto → Prop), (∀ d S', Q d S' → Q' d S') → o x y S Q → o x y S Q'
structure OpD (X : Cx) (f : Value → Value → Sem Value) (o : DOp) : Prop where
  mono : MonoO o
  run : OpR X f (rD X.K o)
structure IxD (X : Cx) (o : DOp) : Prop where
  mono : MonoO o
  run : IxR X (rD X.K o)
def wOp (o : DOp) (ma mb : W F) : W F := fun ρ S Q => ma ρ S fun x S1 => mb ρ S1 fun y S2 => o x y S2 Q
theorem mono_wOp {o : DOp} (ho : MonoO o) (ha : Mono ma) (hb : Mono mb) : Mono (wOp o ma mb) := fun ρ S Q Q' k h => ha _ _ _ _ (fun x S1 h => hb _ _ _ _ (fun y S2 h => ho _ _ _ _ _ k h) h) h
theorem tOp_in {o : DOp} (ho : MonoO o) (ha : Mono ma) (hb : Mono mb) {K : PySem.W.Frag} {σ : Sig} {H : Hp} {Q : VK} (h : tD K (wOp o ma mb) σ H Q) : tOp (rD K o) (tD K ma) (tD K mb) σ H Q := by
  obtain ⟨ρ, S, Z, r, R, h⟩ := h
  refine tD_in ha r R h fun x S1 v1 Z1 H1 p e1 R1 d1 => ?_
  refine tD_in hb (r.ext e1.z) R1 p fun y S2 v2 Z2 H2 p2 e2 R2 d2 => ?_
  exact ⟨x, y, S2, Z2, d1.ext e2.z, d2, R2, ho _ _ _ _ _ (fun z S3 q v Z' H' e3 R3 d3 => q v Z' H' ((e1.trans e2).trans e3) R3 d3) p2⟩
theorem pd_op {op : Operator} {o : DOp} (ho : OpD X (binaryOp op) o) (ha : PD X a ma) (hb : PD X b mb) : PD X (.BinOp a op b pos) (wOp o ma mb) :=
  ⟨mono_wOp ho.mono ha.mono hb.mono, weakE (pe_op ho.run ha.run hb.run) fun _ _ _ h => tOp_in ho.mono ha.mono hb.mono h⟩
theorem pd_cmp {op : CmpOp} {o : DOp} (ho : OpD X (compareOp op) o) (ha : PD X a ma) (hb : PD X b mb) (hm : behindInMarks op b = false) : PD X (.Compare a [op] [b] pos) (wOp o ma mb) :=
  ⟨mono_wOp ho.mono ha.mono hb.mono, weakE (pe_cmpR ho.run ha.run hb.run hm) fun _ _ _ h => tOp_in ho.mono ha.mono hb.mono h⟩
theorem pd_ix {o : DOp} (ho : IxD X o) (ha : PD X a ma) (hb : PD X b mb) (hs : PlainIx b) : PD X (.Subscript a b pos) (wOp o ma mb) :=
  ⟨mono_wOp ho.mono ha.mono hb.mono, weakE (pe_ix ho.run ha.run hb.run hs) fun _ _ _ h => tOp_in ho.mono ha.mono hb.mono h⟩
/-- the answer as a test -/
def asB (Q : Bool → Sto → Prop) : F → Sto → Prop := fun x S => match x with | .bl c => Q c S | _ => False
def wTst (m : W F) : W Bool := fun ρ S Q => m ρ S (asB Q)
theorem mono_asB {Q Q' : Bool → Sto → Prop} (k : ∀ d S', Q d S' → Q' d S') : ∀ d S', asB Q d S' → asB Q' d S' := fun d S' h => by
  cases d with
  | bl c => exact k _ _ h
  | _ => exact h.elim
theorem mono_wTst (h : Mono m) : Mono (wTst m) := fun ρ S Q Q' k q => h _ _ _ _ (mono_asB k) q
theorem asB_of {Q : Bool → Sto → Prop} {d : F} {S : Sto} (h : asB Q d S) : ∃ c, d = .bl c ∧ Q c S := by
  cases d with
  | bl c => exact ⟨c, rfl, h⟩
  | _ => exact h.elim
theorem den_bl {K : PySem.W.Frag} {Z : Hp} {v : V} {c : Bool} (h : Den K Z v (.bl c)) : v = .bl c := by cases h; rfl
theorem den_int {K : PySem.W.Frag} {Z : Hp} {v : V} {c : Int} (h : Den K Z v (.int c)) : v = .int c := by cases h; rfl
theorem den_str {K : PySem.W.Frag} {Z : Hp} {v : V} {c : Str} (h : Den K Z v (.str c)) : v = .str c := by cases h; rfl
theorem den_non {K : PySem.W.Frag} {Z : Hp} {v : V} (h : Den K Z v .non) : v = .non := by cases h; rfl
theorem tst_in {K : PySem.W.Frag} {σ : Sig} {H : Hp} {Q : Bool → Hp → Prop} (hm : Mono m) (h : tB2 K (wTst m) σ H Q) : tB (tD K m) σ H Q := by
  obtain ⟨ρ, S, Z, r, R, h⟩ := h
  refine tD_in hm r R h fun x S1 v1 Z1 H1 p e1 R1 d1 => ?_
  obtain ⟨c, rfl, q⟩ := asB_of p
  exact ⟨c, den_bl d1, q Z1 H1 e1 R1⟩
theorem pb_cmp {op : CmpOp} {o : DOp} (ho : OpD X (compareOp op) o) (ha : PD X a ma) (hb : PD X b mb) (hm : behindInMarks op b = false) : PB X (.Compare a [op] [b] pos) (wTst (wOp o ma mb)) :=
  ⟨mono_wTst (mono_wOp ho.mono ha.mono hb.mono), weakT (pt_cmpR ho.run ha.run hb.run hm) fun σ H Q h => by
    have h2 := tst_in (mono_wOp ho.mono ha.mono hb.mono) h
    exact tOp_in ho.mono ha.mono hb.mono h2⟩
theorem pb_val (h : PD X e m) (he : ∀ whole, isTrue e X.env whole = (do let v ← whole; standAt e.pos; holding [v] (truthy v)) := by intro _; rfl) : PB X e (wTst m) :=
  ⟨mono_wTst h.mono, weakT (pt_val h.run he) fun _ _ _ q => tst_in h.mono q⟩
/-- a chain -/
def wChain (o o' : DOp) (ma mb mc : W F) : W F := fun ρ S Q => ma ρ S fun x S1 => mb ρ S1 fun y S2 => o x y S2 (asB fun k S3 => if k = true then mc ρ S3 fun z S4 => o' y z S4 Q else Q (.bl false) S3)
theorem mono_wChain {o o' : DOp} (ho : MonoO o) (ho' : MonoO o') (ha : Mono ma) (hb : Mono mb) (hc : Mono mc) : Mono (wChain o o' ma mb mc) := fun ρ S Q Q' k h =>
  ha _ _ _ _ (fun x S1 h => hb _ _ _ _ (fun y S2 h => ho _ _ _ _ _ (mono_asB fun c S3 h => by
    cases c with
    | true => exact hc _ _ _ _ (fun z S4 h => ho' _ _ _ _ _ k h) h
    | false => exact k _ _ h) h) h) h
theorem chain_in {o o' : DOp} (ho : MonoO o) (ho' : MonoO o') (ha : Mono ma) (hb : Mono mb) (hc : Mono mc) {K : PySem.W.Frag} {σ : Sig} {H : Hp} {Q : VK} (h : tD K (wChain o o' ma mb mc) σ H Q) : tChain (rD K o) (rD K o') (tD K ma) (tD K mb) (tD K mc) σ H Q := by
  obtain ⟨ρ, S, Z, r, R, h⟩ := h
  refine tD_in ha r R h fun x S1 v1 Z1 H1 p e1 R1 d1 => ?_
  refine tD_in hb (r.ext e1.z) R1 p fun y S2 v2 Z2 H2 p2 e2 R2 d2 => ?_
  refine ⟨x, y, S2, Z2, d1.ext e2.z, d2, R2, ho _ _ _ _ _ (fun z S3 q0 v Z' H' e3 R3 d3 => ?_) p2⟩
  obtain ⟨c, rfl, q⟩ := asB_of q0
  refine ⟨c, den_bl d3, ?_⟩
  cases c with
  | true =>
    rw [if_pos rfl] at q ⊢
    refine tD_in hc ((r.ext e1.z).ext (e2.trans e3).z) R3 q fun z S4 v4 Z4 H4 p4 e4 R4 d4 => ?_
    exact ⟨y, z, S4, Z4, d2.ext (e3.trans e4).z, d4, R4, ho' _ _ _ _ _ (fun z S5 q v Z' H' e5 R5 d5 => q v Z' H' ((e1.trans e2).trans (e3.trans (e4.trans e5))) R5 d5) p4⟩
  | false =>
    rw [if_neg Bool.false_ne_true] at q ⊢
    exact q _ Z' H' ((e1.trans e2).trans e3) R3 (.bl false)
theorem pd_chain {op op' : CmpOp} {o o' : DOp} (ho : OpD X (compareOp op) o) (ho' : OpD X (compareOp op') o') (ha : PD X a ma) (hb : PD X b mb) (hc : PD X c mc)
    (hm : lastMarks [op, op'] [b, c] = false := by with_unfolding_all rfl) : PD X (.Compare a [op, op'] [b, c] pos) (wChain o o' ma mb mc) :=
  ⟨mono_wChain ho.mono ho'.mono ha.mono hb.mono hc.mono, weakE (pe_chain ho.run ho'.run ha.run hb.run hc.run hm) fun _ _ _ h => chain_in ho.mono ho'.mono ha.mono hb.mono hc.mono h⟩
theorem pb_chain {op op' : CmpOp} {o o' : DOp} (ho : OpD X (compareOp op) o) (ho' : OpD X (compareOp op') o') (ha : PD X a ma) (hb : PD X b mb) (hc : PD X c mc)
    (hm : lastMarks [op, op'] [b, c] = false := by with_unfolding_all rfl) : PB X (.Compare a [op, op'] [b, c] pos) (wTst (wChain o o' ma mb mc)) :=
  ⟨mono_wTst (mono_wChain ho.mono ho'.mono ha.mono hb.mono hc.mono), weakT (pt_chain ho.run ho'.run ha.run hb.run hc.run hm) fun _ _ _ h => chain_in ho.mono ho'.mono ha.mono hb.mono hc.mono (tst_in (mono_wChain ho.mono ho'.mono ha.mono hb.mono hc.mono) h)⟩

/-! ### and, or, not, if -/
def wAnd (ma mb : W F) : W F := fun ρ S Q => ma ρ S (asB fun k S1 => if k = true then mb ρ S1 Q else Q (.bl false) S1)
def wOr (ma mb : W F) : W F := fun ρ S Q => ma ρ S (asB fun k S1 => if k = true then Q (.bl true) S1 else mb ρ S1 Q)
def wNot (ma : W F) : W F := fun ρ S Q => ma ρ S (asB fun k S1 => Q (.bl (!k)) S1)
theorem mono_wAnd (ha : Mono ma) (hb : Mono mb) : Mono (wAnd ma mb) := fun ρ S Q Q' k h => ha _ _ _ _ (mono_asB fun c S1 h => by
  cases c with
  | true => exact hb _ _ _ _ k h
  | false => exact k _ _ h) h
theorem mono_wOr (ha : Mono ma) (hb : Mono mb) : Mono (wOr ma mb) := fun ρ S Q Q' k h => ha _ _ _ _ (mono_asB fun c S1 h => by
  cases c with
  | false => exact hb _ _ _ _ k h
  | true => exact k _ _ h) h
theorem mono_wNot (ha : Mono ma) : Mono (wNot ma) := fun ρ S Q Q' k h => ha _ _ _ _ (mono_asB fun c S1 h => k _ _ h) h
theorem pd_one {op} (h : PD X a ma) : PD X (.BoolOp op [a] pos) ma := ⟨h.mono, pe_one h.run⟩
theorem pd_and {rest : List Expr} (ha : PD X a ma) (hb : PD X (.BoolOp .And (b :: rest) pos) mb) : PD X (.BoolOp .And (a :: b :: rest) pos) (wAnd ma mb) :=
  ⟨mono_wAnd ha.mono hb.mono, weakE (pe_and ha.run hb.run) fun σ H Q ⟨ρ, S, Z, r, R, h⟩ => by
    refine tD_in ha.mono r R h fun x S1 v1 Z1 H1 p e1 R1 d1 => ?_
    obtain ⟨c, rfl, q⟩ := asB_of p
    refine ⟨c, den_bl d1, ?_⟩
    cases c with
    | true =>
      rw [if_pos rfl] at q ⊢
      exact tD_in hb.mono (r.ext e1.z) R1 q fun y S2 v2 Z2 H2 p2 e2 R2 d2 => p2 _ _ _ (e1.trans e2) R2 d2
    | false =>
      rw [if_neg Bool.false_ne_true] at q ⊢
      exact q _ Z1 H1 e1 R1 (.bl false)⟩
theorem pd_or {rest : List Expr} (ha : PD X a ma) (hb : PD X (.BoolOp .Or (b :: rest) pos) mb) : PD X (.BoolOp .Or (a :: b :: rest) pos) (wOr ma mb) :=
  ⟨mono_wOr ha.mono hb.mono, weakE (pe_or ha.run hb.run) fun σ H Q ⟨ρ, S, Z, r, R, h⟩ => by
    refine tD_in ha.mono r R h fun x S1 v1 Z1 H1 p e1 R1 d1 => ?_
    obtain ⟨c, rfl, q⟩ := asB_of p
    refine ⟨c, den_bl d1, ?_⟩
    cases c with
    | false =>
      rw [if_neg Bool.false_ne_true] at q ⊢
      exact tD_in hb.mono (r.ext e1.z) R1 q fun y S2 v2 Z2 H2 p2 e2 R2 d2 => p2 _ _ _ (e1.trans e2) R2 d2
    | true =>
      rw [if_pos rfl] at q ⊢
      exact q _ Z1 H1 e1 R1 (.bl true)⟩
theorem pd_not (ha : PD X a ma) : PD X (.UnaryOp .Not a pos) (wNot ma) :=
  ⟨mono_wNot ha.mono, weakE (pe_not ha.run) fun σ H Q ⟨ρ, S, Z, r, R, h⟩ => by
    refine tD_in ha.mono r R h fun x S1 v1 Z1 H1 p e1 R1 d1 => ?_
    obtain ⟨c, rfl, q⟩ := asB_of p
    exact ⟨c, den_bl d1, q _ Z1 H1 e1 R1 (.bl _)⟩⟩
def bAnd (ma mb : W Bool) : W Bool := fun ρ S Q => ma ρ S fun k S1 => if k = true then mb ρ S1 Q else Q false S1
def bOr (ma mb : W Bool) : W Bool := fun ρ S Q => ma ρ S fun k S1 => if k = true then Q true S1 else mb ρ S1 Q
def bNot (ma : W Bool) : W Bool := fun ρ S Q => ma ρ S fun k S1 => Q (!k) S1
section
variable {ta tb tc : W Bool}
theorem mono_bAnd (ha : Mono ta) (hb : Mono tb) : Mono (bAnd ta tb) := fun ρ S Q Q' k h => ha _ _ _ _ (fun c S1 h => by
  cases c with
  | true => exact hb _ _ _ _ k h
  | false => exact k _ _ h) h
theorem mono_bOr (ha : Mono ta) (hb : Mono tb) : Mono (bOr ta tb) := fun ρ S Q Q' k h => ha _ _ _ _ (fun c S1 h => by
  cases c with
  | false => exact hb _ _ _ _ k h
  | true => exact k _ _ h) h
theorem mono_bNot (ha : Mono ta) : Mono (bNot ta) := fun ρ S Q Q' k h => ha _ _ _ _ (fun c S1 h => k _ _ h) h
theorem PBW.pb (h : PBW X e ta) : PB X e ta := ⟨h.mono, h.run.pt⟩
theorem pb_and1 (h : PB X a ta) : PBW X (.BoolOp .And [a] pos) ta := ⟨h.mono, pw_and1 h.run⟩
theorem pb_or1 (h : PB X a ta) : PBW X (.BoolOp .Or [a] pos) ta := ⟨h.mono, pw_or1 h.run⟩
theorem pb_and {rest : List Expr} (ha : PB X a ta) (hb : PBW X (.BoolOp .And (b :: rest) pos) tb) : PBW X (.BoolOp .And (a :: b :: rest) pos) (bAnd ta tb) :=
  ⟨mono_bAnd ha.mono hb.mono, weakW (pw_and ha.run hb.run) fun σ H Q ⟨ρ, S, Z, r, R, h⟩ => by
    refine tB_in ha.mono r R h fun c S1 Z1 H1 q e1 R1 => ?_
    cases c with
    | true =>
      rw [if_pos rfl] at q ⊢
      exact tB_in hb.mono (r.ext e1.z) R1 q fun y S2 Z2 H2 p2 e2 R2 => p2 _ _ (e1.trans e2) R2
    | false =>
      rw [if_neg Bool.false_ne_true] at q ⊢
      exact q Z1 H1 e1 R1⟩
theorem pb_or {rest : List Expr} (ha : PB X a ta) (hb : PBW X (.BoolOp .Or (b :: rest) pos) tb) : PBW X (.BoolOp .Or (a :: b :: rest) pos) (bOr ta tb) :=
  ⟨mono_bOr ha.mono hb.mono, weakW (pw_or ha.run hb.run) fun σ H Q ⟨ρ, S, Z, r, R, h⟩ => by
    refine tB_in ha.mono r R h fun c S1 Z1 H1 q e1 R1 => ?_
    cases c with
    | false =>
      rw [if_neg Bool.false_ne_true] at q ⊢
      exact tB_in hb.mono (r.ext e1.z) R1 q fun y S2 Z2 H2 p2 e2 R2 => p2 _ _ (e1.trans e2) R2
    | true =>
      rw [if_pos rfl] at q ⊢
      exact q Z1 H1 e1 R1⟩
theorem pb_not (ha : PB X a ta) : PB X (.UnaryOp .Not a pos) (bNot ta) :=
  ⟨mono_bNot ha.mono, weakT (pt_not ha.run) fun σ H Q ⟨ρ, S, Z, r, R, h⟩ => tB_in ha.mono r R h fun c S1 Z1 H1 q e1 R1 => q Z1 H1 e1 R1⟩
def wIf (mt : W Bool) (ma mb : W F) : W F := fun ρ S Q => mt ρ S fun k S1 => if k = true then ma ρ S1 Q else mb ρ S1 Q
theorem mono_wIf (ht : Mono ta) (ha : Mono ma) (hb : Mono mb) : Mono (wIf ta ma mb) := fun ρ S Q Q' k h => ht _ _ _ _ (fun c S1 h => by
  cases c with
  | true => exact ha _ _ _ _ k h
  | false => exact hb _ _ _ _ k h) h
theorem pd_if (hc : PB X c ta) (ha : PD X a ma) (hb : PD X b mb) : PD X (.IfExp c a b pos) (wIf ta ma mb) :=
  ⟨mono_wIf hc.mono ha.mono hb.mono, weakE (pe_ifExp hc.run ha.run hb.run) fun σ H Q ⟨ρ, S, Z, r, R, h⟩ => by
    refine tB_in hc.mono r R h fun c S1 Z1 H1 q e1 R1 => ?_
    cases c with
    | true =>
      rw [if_pos rfl] at q ⊢
      exact tD_in ha.mono (r.ext e1.z) R1 q fun y S2 v2 Z2 H2 p2 e2 R2 d2 => p2 _ _ _ (e1.trans e2) R2 d2
    | false =>
      rw [if_neg Bool.false_ne_true] at q ⊢
      exact tD_in hb.mono (r.ext e1.z) R1 q fun y S2 v2 Z2 H2 p2 e2 R2 d2 => p2 _ _ _ (e1.trans e2) R2 d2⟩
end

/-! ### argument lists, displays, calls -/
def wNil : W (List F) := fun _ S Q => Q [] S
def wCons (ma : W F) (mr : W (List F)) : W (List F) := fun ρ S Q => ma ρ S fun x S1 => mr ρ S1 fun xs S2 => Q (x :: xs) S2
theorem pds_nil : PDs X [] wNil := ⟨fun _ _ _ _ k h => k _ _ h, weakA pa_nil fun σ H Q ⟨ρ, S, Z, r, R, h⟩ => h [] Z H .refl R .nil⟩
theorem pds_cons {es : List Expr} {mr : W (List F)} (ha : PD X e ma) (hr : PDs X es mr) (hs : starEach (e :: es) X.env = (false, eval e X.env) :: starEach es X.env := by rfl) : PDs X (e :: es) (wCons ma mr) :=
  ⟨fun _ _ _ _ k h => ha.mono _ _ _ _ (fun x S1 h => hr.mono _ _ _ _ (fun xs S2 h => k _ _ h) h) h, weakA (pa_cons ha.run hr.run hs) fun σ H Q ⟨ρ, S, Z, r, R, h⟩ => by
    refine tD_in ha.mono r R h fun x S1 v1 Z1 H1 p e1 R1 d1 => ?_
    exact tDs_in hr.mono (r.ext e1.z) R1 p fun xs S2 v2 Z2 H2 p e2 R2 d2 => p _ _ _ (e1.trans e2) R2 (.cons (d1.ext e2.z) d2)⟩
def wTup (mr : W (List F)) : W F := fun ρ S Q => mr ρ S fun xs S1 => xs.length ≤ sizeLine ∧ Q (.tup xs) S1
def wLst (mr : W (List F)) : W (List F) := fun ρ S Q => mr ρ S fun xs S1 => xs.length ≤ sizeLine ∧ Q xs S1
theorem den_newTup {K : PySem.W.Frag} {Z : Hp} {p : Addr} {vs : List V} {fs : List F} (hz : Z p = none) (d : Dens K Z vs fs) : Den K (upd Z p (.tup vs)) (.ref p) (.tup fs) := .tup (.inl (.inl upd_same)) (d.ext (upd_ext hz))
theorem den_newLst {K : PySem.W.Frag} {Z : Hp} {p : Addr} {vs : List V} {fs : List F} (hz : Z p = none) (d : Dens K Z vs fs) : Den K (upd Z p (.lst vs)) (.ref p) (.lst fs) := .lst upd_same (d.ext (upd_ext hz))
theorem pd_tup {es : List Expr} {mr : W (List F)} {x1} (h : PDs X es mr) : PD X (.Tuple es x1 pos) (wTup mr) :=
  ⟨fun _ _ _ _ k q => h.mono _ _ _ _ (fun xs S1 q => ⟨q.1, k _ _ q.2⟩) q, weakE (pe_tup h.run) fun σ H Q ⟨ρ, S, Z, r, R, q⟩ => by
    refine tDs_in h.mono r R q fun xs S1 vs Z1 H1 p e1 R1 d1 => ?_
    refine ⟨by rw [d1.length]; exact p.1, fun t nt => ?_⟩
    obtain ⟨R2, e2⟩ := R1.newZ nt (.tup vs)
    exact p.2 _ _ _ (e1.trans e2) R2 (den_newTup (R1.nz nt) d1)⟩
/-- a fresh list at the end -/
theorem lfin_new {K : PySem.W.Frag} {Z Z1 H H1 : Hp} {S S1 : Sto} {Q : VK} {fs : List F} {vs : List V} {p : Addr} (e1 : Ext Z S H Z1 S1 H1) (R1 : RelS K Z1 S1 H1) (n : H1 p = none) (d : Dens K Z1 vs fs) (q : LFin K Z S H Q fs S1) : Q (.ref p) (upd H1 p (.lst vs)) := by
  obtain ⟨R2, e2⟩ := R1.new n (.lst vs)
  exact q p vs Z1 _ (e1.trans e2) R2 (e1.d p n) upd_same (R1.nz n) (R1.ns n) d
theorem pl_lst {es : List Expr} {mr : W (List F)} (h : PDs X es mr) : PL X (.List es pos) (wLst mr) :=
  ⟨fun _ _ _ _ k q => h.mono _ _ _ _ (fun xs S1 q => ⟨q.1, k _ _ q.2⟩) q, weakE (pe_lst h.run) fun σ H Q ⟨ρ, S, Z, r, R, q⟩ => by
    refine tDs_in h.mono r R q fun xs S1 vs Z1 H1 p e1 R1 d1 => ?_
    refine ⟨by rw [d1.length]; exact p.1, fun t nt => ?_⟩
    exact lfin_new e1 R1 nt d1 p.2⟩
/-- a new list kept as it is -/
def wFrz (m : W (List F)) : W F := fun ρ S Q => m ρ S fun xs S1 => Q (.lst xs) S1
theorem pd_frz {n : W (List F)} (h : PL X e n) : PD X e (wFrz n) :=
  ⟨fun _ _ _ _ k q => h.mono _ _ _ _ (fun xs S1 q => k _ _ q) q, weakE h.run fun σ H Q ⟨ρ, S, Z, r, R, q⟩ =>
    tL_in h.mono r R q fun xs S1 p vs Z1 H1 q e1 R1 n1 n2 n3 n4 d => by
      refine q _ (upd Z1 p (.lst vs)) H1 ?_ (R1.freeze n2 n3 n4) (den_newLst n3 d)
      refine ⟨fun a o h => upd_ext n3 a o (e1.z a o h), fun a o h hs => ?_, e1.d⟩
      obtain ⟨q1, q2, q3⟩ := e1.h a o h hs
      exact ⟨q1, q2, by rw [upd_ne (ne_of_none h n1)]; exact q3⟩⟩
/-- a new list that will change -/
def wOwn (m : W (List F)) : W F := fun ρ S Q => m ρ S fun xs S1 => ∀ p, S1 p = none → Q (.loc p) (updS S1 p xs)
theorem pd_own {n : W (List F)} (h : PL X e n) : PD X e (wOwn n) :=
  ⟨fun _ _ _ _ k q => h.mono _ _ _ _ (fun xs S1 q p hp => k _ _ (q p hp)) q, weakE h.run fun σ H Q ⟨ρ, S, Z, r, R, q⟩ =>
    tL_in h.mono r R q fun xs S1 p vs Z1 H1 q e1 R1 n1 n2 n3 n4 d => by
      refine q p n4 _ Z1 H1 ?_ (R1.own n2 n3 d) (.loc p)
      refine ⟨e1.z, fun a o h hs => ?_, e1.d⟩
      obtain ⟨q1, q2, q3⟩ := e1.h a o h hs
      exact ⟨q1, by rw [updS_ne (ne_of_none h n1)]; exact q2, q3⟩⟩
/-- a name whose list changes no more -/
def wVarFrz (i : Nat) : W F := fun ρ S Q => match ρ[i]? with | some (some (.loc a)) => (match S a with | some fs => Q (.lst fs) (delS S a) | none => False) | _ => False
theorem pd_varFrz {i : Nat} (h : PE X e (tVar i)) : PD X e (wVarFrz i) := by
  refine ⟨fun ρ S Q Q' k q => ?_, weakE h fun σ H Q ⟨ρ, S, Z, r, R, h⟩ => ?_⟩
  · unfold wVarFrz at q ⊢
    split at q
    · split at q
      · exact k _ _ q
      · exact q
    · exact q
  · unfold wVarFrz at h
    split at h
    · rename_i a e0
      split at h
      · rename_i fs e1
        obtain ⟨v, e2, d⟩ := r.at_ i _ e0
        cases d
        obtain ⟨vs, h1, R', e', d'⟩ := R.freezeS e1
        exact ⟨.ref a, e2, h _ _ H e' R' d'⟩
      · exact h.elim
    · exact h.elim
end
end DL

set_option maxHeartbeats 4000000
namespace DL
open PySem PySem.Spec PyProof.Rows L2

/-! ### what is a list, a tuple, by the store -/
def listW (S : Sto) : F → Option (List F) | .lst xs => some xs | .loc a => S a | _ => none
def listR (S : Sto) : F → Option (List F) | .lst xs => some xs | .rol xs => some xs | .loc a => S a | _ => none
section
variable {K : PySem.W.Frag} {Z Z' H H' : Hp} {S S' : Sto} {v : V} {d : F} {fs : List F}
theorem listW_of (R : RelS K Z S H) (h : Den K Z v d) (e : listW S d = some fs) : ∃ a vs, v = .ref a ∧ H a = some (.lst vs) ∧ Dens K Z vs fs := by
  cases h with
  | lst h1 h2 => cases e; exact ⟨_, _, rfl, (R.z _ _ h1).1, h2⟩
  | loc a =>
    obtain ⟨vs, h1, h2⟩ := R.s a fs e
    exact ⟨_, _, rfl, h1, h2⟩
  | _ => cases e
theorem listR_of (R : RelS K Z S H) (h : Den K Z v d) (e : listR S d = some fs) : ∃ a vs, v = .ref a ∧ SqL K H a vs ∧ Dens K Z vs fs := by
  cases h with
  | lst h1 h2 => cases e; exact ⟨_, _, rfl, SqL.of (R.z _ _ h1).1, h2⟩
  | rol h1 h2 => cases e; exact ⟨_, _, rfl, R.sqL h1, h2⟩
  | loc a =>
    obtain ⟨vs, h1, h2⟩ := R.s a fs e
    exact ⟨_, _, rfl, SqL.of h1, h2⟩
  | _ => cases e
theorem tup_of (R : RelS K Z S H) (h : Den K Z v (.tup fs)) : ∃ a vs, v = .ref a ∧ SqT K H a vs ∧ Dens K Z vs fs := by
  cases h with
  | tup h1 h2 => exact ⟨_, _, rfl, R.sqT h1, h2⟩
/-- the end of a rule that makes a new tuple, a new list -/
theorem fin_tup {Q : VK} {p : Addr} {vs : List V} (R : RelS K Z S H) (n : H p = none) (d : Dens K Z vs fs) (q : DFin K Z S H Q (.tup fs) S) : Q (.ref p) (upd H p (.tup vs)) := by
  obtain ⟨R2, e2⟩ := R.newZ n (.tup vs)
  exact q _ _ _ e2 R2 (den_newTup (R.nz n) d)
theorem fin_lst {Q : VK} {p : Addr} {vs : List V} (R : RelS K Z S H) (n : H p = none) (d : Dens K Z vs fs) (q : DFin K Z S H Q (.lst fs) S) : Q (.ref p) (upd H p (.lst vs)) := by
  obtain ⟨R2, e2⟩ := R.newZ n (.lst vs)
  exact q _ _ _ e2 R2 (den_newLst (R.nz n) d)
theorem fin_same {Q : VK} (R : RelS K Z S H) (h : Den K Z v d) (q : DFin K Z S H Q d S) : Q v H := q v Z H .refl R h
end
theorem opWeak {X : Cx} {f : Value → Value → Sem Value} {r r' : R2} (h : OpR X f r) (k : ∀ x y H Q, r' x y H Q → r x y H Q) : OpR X f r' := fun pins s σ H x y v u Q I rx ry q => h pins s σ H x y v u Q I rx ry (k _ _ _ _ q)
theorem ixWeak {X : Cx} {r r' : R2} (h : IxR X r) (k : ∀ x y H Q, r' x y H Q → r x y H Q) : IxR X r' := fun a b pins s σ H x y v u Q I rx ry q => h a b pins s σ H x y v u Q I rx ry (k _ _ _ _ q)

section
variable {X : Cx}
/-! ### + -/
def oAdd : DOp := fun x y S Q => match x, y with
  | .int i, .int j => Q (.int (i + j)) S
  | .str i, .str j => i.length + j.length ≤ sizeLine ∧ Q (.str (i ++ j)) S
  | .tup xs, .tup ys => xs.length + ys.length ≤ sizeLine ∧ Q (.tup (xs ++ ys)) S
  | x, y => match listW S x, listW S y with
    | some xs, some ys => xs.length + ys.length ≤ sizeLine ∧ Q (.lst (xs ++ ys)) S
    | _, _ => False
theorem mono_oAdd : MonoO oAdd := fun x y S Q Q' k h => by
  unfold oAdd at h ⊢
  split at h
  · exact k _ _ h
  · exact ⟨h.1, k _ _ h.2⟩
  · exact ⟨h.1, k _ _ h.2⟩
  · split at h
    · rename_i e1 e2
      exact ⟨h.1, k _ _ h.2⟩
    · exact h.elim
theorem o_add : OpD X (binaryOp .Add) oAdd := by
  refine ⟨mono_oAdd, opWeak (OpR.or op_add (OpR.or op_add_str (OpR.or op_catA op_cat))) fun x y H Q ⟨d, e, S, Z, dx, dy, R, h⟩ => ?_⟩
  unfold oAdd at h
  split at h
  · exact .inl ⟨_, _, den_int dx, den_int dy, fin_same R (.int _) h⟩
  · exact .inr (.inl ⟨_, _, den_str dx, den_str dy, h.1, fin_same R (.str _) h.2⟩)
  · obtain ⟨a, vs, rfl, h1, h2⟩ := tup_of R dx
    obtain ⟨b, us, rfl, h3, h4⟩ := tup_of R dy
    have l1 := h2.length
    have l2 := h4.length
    obtain ⟨hz, h⟩ := h
    rename_i fs gs _h0
    refine .inr (.inr (.inl ⟨a, b, vs, us, rfl, rfl, h1, h3, by omega, ?_⟩))
    refine ⟨fun e0 => ?_, fun e0 e1 => ?_, fun e0 e1 p np => fin_tup R np (h2.append h4) h⟩
    · have : fs = [] := h2.nil_iff.mp e0
      subst this
      exact fin_same R dy h
    · have : gs = [] := h4.nil_iff.mp e1
      subst this
      exact fin_same R dx (by rwa [List.append_nil] at h)
  · split at h
    · rename_i e1 e2
      obtain ⟨a, vs, rfl, h1, h2⟩ := listW_of R dx e1
      obtain ⟨b, us, rfl, h3, h4⟩ := listW_of R dy e2
      have l1 := h2.length
      have l2 := h4.length
      exact .inr (.inr (.inr ⟨a, b, vs, us, rfl, rfl, h1, h3, by omega, fun p np => fin_lst R np (h2.append h4) h.2⟩))
    · exact h.elim
/-! ### -, *, //, % -/
def oSub : DOp := fun x y S Q => match x, y with | .int i, .int j => Q (.int (i - j)) S | _, _ => False
def mulOk (i j : Int) : Prop := CMul i j ∨ CMulW i j
def oMul : DOp := fun x y S Q => match x, y with
  | .int i, .int j => mulOk i j ∧ Q (.int (i * j)) S
  | .tup xs, .int k => (-(2 ^ 63) ≤ k ∧ k < 2 ^ 63 ∧ xs.length * k.toNat ≤ sizeLine) ∧ Q (.tup (List.replicate k.toNat xs).flatten) S
  | x, .int k => match listW S x with
    | some xs => (-(2 ^ 63) ≤ k ∧ k < 2 ^ 63 ∧ xs.length * k.toNat ≤ sizeLine) ∧ Q (.lst (List.replicate k.toNat xs).flatten) S
    | _ => False
  | _, _ => False
def oDiv : DOp := fun x y S Q => match x, y with | .int i, .int j => CDivW i j ∧ Q (.int (i / j)) S | _, _ => False
def oMod : DOp := fun x y S Q => match x, y with | .int i, .int j => 0 < j ∧ Q (.int (i % j)) S | _, _ => False
def oPow : DOp := fun x y S Q => match x, y with | .int i, .int j => CPow i j ∧ Q (.int (i ^ j.toNat)) S | _, _ => False
theorem o_sub : OpD X (binaryOp .Sub) oSub := by
  refine ⟨fun x y S Q Q' k h => ?_, opWeak op_sub fun x y H Q ⟨d, e, S, Z, dx, dy, R, h⟩ => ?_⟩
  · unfold oSub at h ⊢
    split at h
    · exact k _ _ h
    · exact h.elim
  · unfold oSub at h
    split at h
    · exact ⟨_, _, den_int dx, den_int dy, fin_same R (.int _) h⟩
    · exact h.elim
theorem o_div : OpD X (binaryOp .FloorDiv) oDiv := by
  refine ⟨fun x y S Q Q' k h => ?_, opWeak op_fdivW fun x y H Q ⟨d, e, S, Z, dx, dy, R, h⟩ => ?_⟩
  · unfold oDiv at h ⊢
    split at h
    · exact ⟨h.1, k _ _ h.2⟩
    · exact h.elim
  · unfold oDiv at h
    split at h
    · exact ⟨_, _, den_int dx, den_int dy, h.1, fin_same R (.int _) h.2⟩
    · exact h.elim
theorem o_mod : OpD X (binaryOp .Mod) oMod := by
  refine ⟨fun x y S Q Q' k h => ?_, opWeak op_mod fun x y H Q ⟨d, e, S, Z, dx, dy, R, h⟩ => ?_⟩
  · unfold oMod at h ⊢
    split at h
    · exact ⟨h.1, k _ _ h.2⟩
    · exact h.elim
  · unfold oMod at h
    split at h
    · exact ⟨_, _, den_int dx, den_int dy, h.1, fin_same R (.int _) h.2⟩
    · exact h.elim
theorem o_pow : OpD X (binaryOp .Pow) oPow := by
  refine ⟨fun x y S Q Q' k h => ?_, opWeak op_pow fun x y H Q ⟨d, e, S, Z, dx, dy, R, h⟩ => ?_⟩
  · unfold oPow at h ⊢
    split at h
    · exact ⟨h.1, k _ _ h.2⟩
    · exact h.elim
  · unfold oPow at h
    split at h
    · exact ⟨_, _, den_int dx, den_int dy, h.1, fin_same R (.int _) h.2⟩
    · exact h.elim
end
end DL
namespace L2
open PySem PySem.Spec PyProof.Rows

theorem tuple_mulS (l : Addr) (items : Array Value) (n : Nat) (dd : Option Addr) (sl : Array (Option Value)) (x : Int) (u : Tok) (c0 : (decide (x < -(2 ^ 63)) || decide (x ≥ 2 ^ 63)) = false) (c1 : (items.isEmpty || x == 1) = true) :
    Meets (Builtin.«tuple.__mul__» ⟨[.ref l, .int x u], []⟩) (fun _ R s => s.heap.get? l = some { cls := .type "tuple", dict := dd, data := .seq items n, slots := sl } ∧
      R (.ok (.ret (Value.ref l))) s) :=
  .of_wp fun prog w A R s h => by
    obtain ⟨hp, g, d, tk, os⟩ := s
    obtain ⟨hl, h⟩ := h
    have f1 := AutoSeq1.idx_int
    wp_walk using wpAny_loadPart' hl
    repeat (first
      | (refine wpAny_ite_false (decide_eq_false (by rw [c0]; exact Bool.false_ne_true)) ?_; wp_walk using wpAny_loadPart' hl)
      | (refine wpAny_ite_true (decide_eq_true c1) ?_; wp_walk using wpAny_loadPart' hl))
    exact ⟨_, rfl, h⟩
theorem tuple_mul0 (l : Addr) (items : Array Value) (n : Nat) (dd : Option Addr) (sl : Array (Option Value)) (x : Int) (u : Tok) (c0 : (decide (x < -(2 ^ 63)) || decide (x ≥ 2 ^ 63)) = false) (c1 : (items.isEmpty || x == 1) = false) (c2 : (decide (x ≤ 0) || items.isEmpty) = true) :
    Meets (Builtin.«tuple.__mul__» ⟨[.ref l, .int x u], []⟩) (fun _ R s => s.heap.get? l = some { cls := .type "tuple", dict := dd, data := .seq items n, slots := sl } ∧
      R (.ok (.ret (Value.ref s.heap.objs.size))) { s with heap := s.heap.push { cls := Value.type "tuple", data := Data.seq #[] }, toks := s.toks }) :=
  .of_wp fun prog w A R s h => by
    obtain ⟨hp, g, d, tk, os⟩ := s
    obtain ⟨hl, h⟩ := h
    have f1 := AutoSeq1.idx_int
    wp_walk using wpAny_loadPart' hl
    repeat (first
      | (refine wpAny_ite_false (decide_eq_false (by rw [c0]; exact Bool.false_ne_true)) ?_; wp_walk using wpAny_loadPart' hl)
      | (refine wpAny_ite_false (decide_eq_false (by rw [c1]; exact Bool.false_ne_true)) ?_; wp_walk using wpAny_loadPart' hl)
      | (refine wpAny_ite_true (decide_eq_true c2) ?_; wp_walk using wpAny_loadPart' hl))
    exact ⟨_, rfl, h⟩


/-- a tuple times an int, any -/
def rRepA (K : PySem.W.Frag) : R2 := fun x y H Q => ∃ l k xs, x = .ref l ∧ y = .int k ∧ SqT K H l xs ∧ -(2 ^ 63) ≤ k ∧ k < 2 ^ 63 ∧ xs.length * k.toNat ≤ sizeLine ∧
  (xs = [] ∨ k = 1 → Q (.ref l) H) ∧ (xs ≠ [] → k ≠ 1 → ∀ p, H p = none → Q (.ref p) (upd H p (.tup (List.replicate k.toNat xs).flatten)))
theorem op_repA {X : Cx} : OpR X (binaryOp .Mult) (rRepA X.K) := by
  intro pins s σ H x y v u Q I rx ry h
  obtain ⟨l, k, xs, rfl, rfl, hT, h1, h2, hz, q1, q2⟩ := h
  cases rx
  obtain ⟨t, rfl⟩ := ry
  obtain ⟨its, r, ⟨⟨cls, dd, data, sl⟩, ho, hc, n, hd⟩, hs⟩ := I.tuple hT
  simp only at hc hd
  subst hc hd
  have hle : its.length = xs.length := r.length.symm
  have hsz0 : its.toArray.size = xs.length := by rw [List.size_toArray, hle]
  have c0 : (decide (k < -(2 ^ 63)) || decide (k ≥ 2 ^ 63)) = false := by
    rw [decide_eq_false (by omega), decide_eq_false (by omega)] <;> rfl
  by_cases hsame : xs = [] ∨ k = 1
  · have c1 : (its.toArray.isEmpty || k == 1) = true := by
      rcases hsame with e | e
      · subst e
        have : its = [] := List.eq_nil_of_length_eq_zero hle
        subst this
        rfl
      · subst e
        simp
    exact wpAny_binaryOp_repeat_ref (T := "tuple") (U := "int") (by decide) ⟨_, ho, rfl⟩ (fun s' => typeIs_int s' k t) noFill_tuple_mul F.fills_int_mul F.slot_int_rmul repeat_tuple F.slot_int_index.lookup
      (call_meets F.slot_int_rmul (typeIs_int s k t) F.entry_int_rmul (F.args_int_rmul_2 _ _) (int_rmul_tuple k t l its.toArray n dd sl)
        ⟨ho, rfl, ⟨_, ho, rfl⟩, call_meets F.slot_tuple_mul ⟨_, ho, rfl⟩ F.entry_tuple_mul (F.args_tuple_mul_2 _ _) (tuple_mulS l its.toArray n dd sl k t c0 c1) ⟨ho, ⟨.ref l, H, I, rfl, q1 hsame⟩⟩⟩)
  · have hne : xs ≠ [] := fun e => hsame (.inl e)
    have hk1 : k ≠ 1 := fun e => hsame (.inr e)
    have hn : its ≠ [] := fun e => hne (by
      rw [e] at hle
      exact List.eq_nil_of_length_eq_zero hle.symm)
    have hi : its.toArray.isEmpty = false := by
      cases its with
      | nil => exact absurd rfl hn
      | cons a b => rfl
    have c1 : (its.toArray.isEmpty || k == 1) = false := by
      rw [hi, Bool.false_or]
      exact beq_eq_false_iff_ne.mpr hk1
    by_cases hk0 : k ≤ 0
    · have c2 : (decide (k ≤ 0) || its.toArray.isEmpty) = true := by rw [decide_eq_true hk0, Bool.true_or]
      have hk : k.toNat = 0 := by omega
      refine wpAny_binaryOp_repeat_ref (T := "tuple") (U := "int") (by decide) ⟨_, ho, rfl⟩ (fun s' => typeIs_int s' k t) noFill_tuple_mul F.fills_int_mul F.slot_int_rmul repeat_tuple F.slot_int_index.lookup
        (call_meets F.slot_int_rmul (typeIs_int s k t) F.entry_int_rmul (F.args_int_rmul_2 _ _) (int_rmul_tuple k t l its.toArray n dd sl)
          ⟨ho, rfl, ⟨_, ho, rfl⟩, call_meets F.slot_tuple_mul ⟨_, ho, rfl⟩ F.entry_tuple_mul (F.args_tuple_mul_2 _ _) (tuple_mul0 l its.toArray n dd sl k t c0 c1 c2) ⟨ho, ?_⟩⟩)
      have q := q2 hne hk1
      rw [hk] at q
      refine ⟨.ref s.heap.objs.size, _, I.laid (t' := s.toks) (o := .tup []) (fun b ob q => Heap.get?_push_of_some _ q) (Nat.le_refl _) ?_, rfl, q _ (I.hok.fresh (Nat.le_refl _))⟩
      exact ⟨Nat.zero_le _, [], .nil, IsTup.new _ _⟩
    · have flen : (List.replicate k.toNat its).flatten.length ≤ sizeLine := by
        rw [PyProof.Rows.lm_len_rep_flat, hle, Nat.mul_comm]
        exact hz
      have hm : ((its.toArray.size : Nat) : Int) * k ≤ (sizeLine : Nat) := by
        rw [hsz0]
        have e : k = (k.toNat : Int) := by omega
        rw [e]
        exact_mod_cast hz
      have c2 : (decide (k ≤ 0) || its.toArray.isEmpty) = false := by
        rw [hi, Bool.or_false]
        exact decide_eq_false hk0
      have hl := sizeLine_eq
      have c4 : Builtin.Tuple.tupleTooMany (((its.toArray.size : Nat) : Int) * k) = false := by
        unfold Builtin.Tuple.tupleTooMany
        exact decide_eq_false (by omega)
      refine wpAny_binaryOp_repeat_ref (T := "tuple") (U := "int") (by decide) ⟨_, ho, rfl⟩ (fun s' => typeIs_int s' k t) noFill_tuple_mul F.fills_int_mul F.slot_int_rmul repeat_tuple F.slot_int_index.lookup
        (call_meets F.slot_int_rmul (typeIs_int s k t) F.entry_int_rmul (F.args_int_rmul_2 _ _) (int_rmul_tuple k t l its.toArray n dd sl)
          ⟨ho, rfl, ⟨_, ho, rfl⟩, call_meets F.slot_tuple_mul ⟨_, ho, rfl⟩ F.entry_tuple_mul (F.args_tuple_mul_2 _ _) (tuple_mulW l its.toArray n dd sl k t c0 c1 c2 (by omega) c4 (by rw [size_rep, List.size_toArray]; exact flen)) ⟨ho, ?_⟩⟩)
      rw [size_rep]
      refine ⟨.ref s.heap.objs.size, _, I.laid (t' := s.toks) (o := .tup (List.replicate k.toNat xs).flatten) (fun b ob q => Heap.get?_push_of_some _ q) (Nat.le_refl _) ?_, rfl, q2 hne hk1 _ (I.hok.fresh (Nat.le_refl _))⟩
      exact ⟨by rw [PyProof.Rows.lm_len_rep_flat, Nat.mul_comm]; exact hz, _, r.rep k.toNat, IsTup.new _ _⟩
end L2
namespace DL
open PySem PySem.Spec PyProof.Rows L2
section
variable {X : Cx}
theorem flat_rep1 {α : Type} (xs : List α) : (List.replicate 1 xs).flatten = xs := by simp
theorem flat_rep_nil {α : Type} (k : Nat) : (List.replicate k ([] : List α)).flatten = [] := by
  induction k with
  | zero => rfl
  | succ k ih => rw [List.replicate_succ, List.flatten_cons, ih]; rfl
theorem o_mul : OpD X (binaryOp .Mult) oMul := by
  refine ⟨fun x y S Q Q' k h => ?_, opWeak (OpR.or op_mul (OpR.or op_mulW (OpR.or op_repA op_rep))) fun x y H Q ⟨d, e, S, Z, dx, dy, R, h⟩ => ?_⟩
  · unfold oMul at h ⊢
    split at h
    · exact ⟨h.1, k _ _ h.2⟩
    · exact ⟨h.1, k _ _ h.2⟩
    · split at h
      · exact ⟨h.1, k _ _ h.2⟩
      · exact h.elim
    · exact h.elim
  · unfold oMul at h
    split at h
    · rcases h with ⟨h | h, q⟩
      · exact .inl ⟨_, _, den_int dx, den_int dy, h, fin_same R (.int _) q⟩
      · exact .inr (.inl ⟨_, _, den_int dx, den_int dy, h, fin_same R (.int _) q⟩)
    · obtain ⟨⟨h1, h2, hz⟩, q⟩ := h
      obtain ⟨a, vs, rfl, ha, hd⟩ := tup_of R dx
      have l1 := hd.length
      rename_i fs k _h0
      refine .inr (.inr (.inl ⟨a, k, vs, rfl, den_int dy, ha, h1, h2, by rw [l1]; exact hz, fun e => ?_, fun _ _ p np => fin_tup R np (hd.rep k.toNat) q⟩))
      rcases e with e | e
      · have : fs = [] := hd.nil_iff.mp e
        subst this
        rw [flat_rep_nil] at q
        exact fin_same R dx q
      · subst e
        rw [show (1 : Int).toNat = 1 from rfl, flat_rep1] at q
        exact fin_same R dx q
    · split at h
      · rename_i fs e1
        obtain ⟨⟨h1, h2, hz⟩, q⟩ := h
        obtain ⟨a, vs, rfl, ha, hd⟩ := listW_of R dx e1
        have l1 := hd.length
        exact .inr (.inr (.inr ⟨a, _, vs, rfl, den_int dy, ha, h1, h2, by rw [l1]; exact hz, fun p np => fin_lst R np (hd.rep _) q⟩))
      · exact h.elim
    · exact h.elim

/-! ### comparisons -/
def oLt : DOp := fun x y S Q => match x, y with | .int i, .int j => Q (.bl (decide (i < j))) S | _, _ => False
def oLe : DOp := fun x y S Q => match x, y with | .int i, .int j => Q (.bl (decide (i ≤ j))) S | _, _ => False
def oGt : DOp := fun x y S Q => match x, y with | .int i, .int j => Q (.bl (decide (j < i))) S | _, _ => False
def oGe : DOp := fun x y S Q => match x, y with | .int i, .int j => Q (.bl (decide (j ≤ i))) S | _, _ => False
theorem o_lt : OpD X (compareOp .Lt) oLt := by
  refine ⟨fun x y S Q Q' k h => ?_, opWeak op_lt fun x y H Q ⟨d, e, S, Z, dx, dy, R, h⟩ => ?_⟩
  · unfold oLt at h ⊢
    split at h
    · exact k _ _ h
    · exact h.elim
  · unfold oLt at h
    split at h
    · exact ⟨_, _, den_int dx, den_int dy, fin_same R (.bl _) h⟩
    · exact h.elim
theorem o_le : OpD X (compareOp .LtE) oLe := by
  refine ⟨fun x y S Q Q' k h => ?_, opWeak op_le fun x y H Q ⟨d, e, S, Z, dx, dy, R, h⟩ => ?_⟩
  · unfold oLe at h ⊢
    split at h
    · exact k _ _ h
    · exact h.elim
  · unfold oLe at h
    split at h
    · exact ⟨_, _, den_int dx, den_int dy, fin_same R (.bl _) h⟩
    · exact h.elim
theorem o_gt : OpD X (compareOp .Gt) oGt := by
  refine ⟨fun x y S Q Q' k h => ?_, opWeak op_gt fun x y H Q ⟨d, e, S, Z, dx, dy, R, h⟩ => ?_⟩
  · unfold oGt at h ⊢
    split at h
    · exact k _ _ h
    · exact h.elim
  · unfold oGt at h
    split at h
    · exact ⟨_, _, den_int dx, den_int dy, fin_same R (.bl _) h⟩
    · exact h.elim
theorem o_ge : OpD X (compareOp .GtE) oGe := by
  refine ⟨fun x y S Q Q' k h => ?_, opWeak op_ge fun x y H Q ⟨d, e, S, Z, dx, dy, R, h⟩ => ?_⟩
  · unfold oGe at h ⊢
    split at h
    · exact k _ _ h
    · exact h.elim
  · unfold oGe at h
    split at h
    · exact ⟨_, _, den_int dx, den_int dy, fin_same R (.bl _) h⟩
    · exact h.elim
def isNon : F → Bool | .non => true | _ => false
/-- None and bools alone -/
def oIs : DOp := fun x y S Q => match y with
  | .non => Q (.bl (isNon x)) S
  | .bl b => (match x with | .bl a => Q (.bl (decide (a = b))) S | _ => False)
  | _ => False
def oIsNot : DOp := fun x y S Q => match y with
  | .non => Q (.bl (!isNon x)) S
  | .bl b => (match x with | .bl a => Q (.bl (!decide (a = b))) S | _ => False)
  | _ => False
theorem den_isNon {K : PySem.W.Frag} {Z : Hp} {v : V} {d : F} (h : Den K Z v d) : decide (v = V.non) = isNon d := by
  cases h <;> simp [isNon]
theorem o_is : OpD X (compareOp .Is) oIs := by
  refine ⟨fun x y S Q Q' k h => ?_, opWeak (OpR.or op_isN op_isBl) fun x y H Q ⟨d, e, S, Z, dx, dy, R, h⟩ => ?_⟩
  · unfold oIs at h ⊢
    split at h
    · exact k _ _ h
    · split at h
      · exact k _ _ h
      · exact h.elim
    · exact h.elim
  · unfold oIs at h
    split at h
    · refine .inl ⟨den_non dy, ?_⟩
      rw [den_isNon dx]
      exact fin_same R (.bl _) h
    · split at h
      · exact .inr ⟨_, _, den_bl dx, den_bl dy, fin_same R (.bl _) h⟩
      · exact h.elim
    · exact h.elim
theorem o_isnot : OpD X (compareOp .IsNot) oIsNot := by
  refine ⟨fun x y S Q Q' k h => ?_, opWeak (OpR.or op_notN op_notBl) fun x y H Q ⟨d, e, S, Z, dx, dy, R, h⟩ => ?_⟩
  · unfold oIsNot at h ⊢
    split at h
    · exact k _ _ h
    · split at h
      · exact k _ _ h
      · exact h.elim
    · exact h.elim
  · unfold oIsNot at h
    split at h
    · refine .inl ⟨den_non dy, ?_⟩
      rw [den_isNon dx]
      exact fin_same R (.bl _) h
    · split at h
      · exact .inr ⟨_, _, den_bl dx, den_bl dy, fin_same R (.bl _) h⟩
      · exact h.elim
    · exact h.elim
end
/-! as the library's data -/
mutual
def py : F → PyData
  | .non => .none
  | .bl b => .bool b
  | .int i => .int i
  | .str x => .str x
  | .tup l => .tuple (pyL l)
  | .lst l => .list (pyL l)
  | .rol l => .list (pyL l)
  | .loc _ => .dict []
def pyL : List F → List PyData
  | [] => []
  | x :: r => py x :: pyL r
end
mutual
theorem Den.dp {K : PySem.W.Frag} {Z H : Hp} {S : Sto} (R : RelS K Z S H) : ∀ {f : F} {v : V}, Den K Z v f → (py f).canLay0 = true → Dp K H v (py f)
  | .non, _, h, _ => by cases h; exact .non
  | .bl _, _, h, _ => by cases h; exact .bl _
  | .int _, _, h, _ => by cases h; exact .int _
  | .str _, _, h, _ => by cases h; exact .str _
  | .tup fs, _, h, c => by
    cases h with
    | tup h1 h2 => exact .tup (R.sqT h1) (Dens.dp R h2 c)
  | .lst fs, _, h, c => by
    cases h with
    | lst h1 h2 => exact .lst (SqL.of (R.z _ _ h1).1) (Dens.dp R h2 c)
  | .rol fs, _, h, c => by
    cases h with
    | rol h1 h2 => exact .lst (R.sqL h1) (Dens.dp R h2 c)
  | .loc _, _, h, c => by cases c
theorem Dens.dp {K : PySem.W.Frag} {Z H : Hp} {S : Sto} (R : RelS K Z S H) : ∀ {fs : List F} {vs : List V}, Dens K Z vs fs → PyData.canLayAll0 (pyL fs) = true → DpAll K H vs (pyL fs)
  | [], _, h, _ => by cases h; exact .nil
  | f :: fs, _, h, c => by
    have c' : ((py f).canLay0 && PyData.canLayAll0 (pyL fs)) = true := c
    rw [Bool.and_eq_true] at c'
    cases h with
    | cons h1 h2 => exact .cons (Den.dp R h1 c'.1) (Dens.dp R h2 c'.2)
end
def okF (x : F) : Bool := SeqAt.shaped (py x)
def eqF (x y : F) : Bool := PyData.eqv (py x) (py y)
def oEq : DOp := fun x y S Q => okF x = true ∧ okF y = true ∧ Q (.bl (eqF x y)) S
def oNe : DOp := fun x y S Q => okF x = true ∧ okF y = true ∧ Q (.bl (!eqF x y)) S
section
variable {X : Cx}
theorem o_eq (hu : X.A.units + 64 < cLine) : OpD X (compareOp .Eq) oEq :=
  ⟨fun x y S Q Q' k h => ⟨h.1, h.2.1, k _ _ h.2.2⟩, opWeak (op_eqD hu) fun x y H Q ⟨d, e, S, Z, dx, dy, R, h1, h2, h⟩ =>
    ⟨_, _, dx.dp R (SeqAt.canLay_of_shaped h1), dy.dp R (SeqAt.canLay_of_shaped h2), h1, h2, fin_same R (.bl _) h⟩⟩
theorem o_ne (hu : X.A.units + 64 < cLine) : OpD X (compareOp .NotEq) oNe :=
  ⟨fun x y S Q Q' k h => ⟨h.1, h.2.1, k _ _ h.2.2⟩, opWeak (op_neD hu) fun x y H Q ⟨d, e, S, Z, dx, dy, R, h1, h2, h⟩ =>
    ⟨_, _, dx.dp R (SeqAt.canLay_of_shaped h1), dy.dp R (SeqAt.canLay_of_shaped h2), h1, h2, fin_same R (.bl _) h⟩⟩
/-! ### places -/
def oIx : DOp := fun x y S Q => match y with
  | .int i => (match x with
    | .tup xs => (match atI xs i with | some z => Q z S | none => False)
    | .str z => z.length ≤ sizeLine ∧ (match atI z.cps.toList i with | some c => Q (.str ⟨#[c]⟩) S | none => False)
    | x => (match listR S x with
      | some xs => (match atI xs i with | some z => Q z S | none => False)
      | none => False))
  | _ => False
theorem atI_den {K : PySem.W.Frag} {Z : Hp} {vs : List V} {fs : List F} {i : Int} {f : F} (d : Dens K Z vs fs) (h : atI fs i = some f) : ∃ v, atI vs i = some v ∧ Den K Z v f := by
  unfold atI at h ⊢
  rw [d.length]
  cases e : ixN fs.length i with
  | none => rw [e] at h; cases h
  | some j =>
    rw [e] at h
    exact d.get h
theorem ix_all : IxD X oIx := by
  refine ⟨fun x y S Q Q' k h => ?_, ixWeak ix_seq fun x y H Q ⟨d, e, S, Z, dx, dy, R, h⟩ => ?_⟩
  · unfold oIx at h ⊢
    split at h
    · split at h
      · split at h
        · exact k _ _ h
        · exact h.elim
      · refine ⟨h.1, ?_⟩
        have h := h.2
        split at h
        · exact k _ _ h
        · exact h.elim
      · split at h
        · split at h
          · exact k _ _ h
          · exact h.elim
        · exact h.elim
    · exact h.elim
  · unfold oIx at h
    split at h
    · split at h
      · split at h
        · rename_i e1
          obtain ⟨a, vs, rfl, h1, h2⟩ := tup_of R dx
          obtain ⟨w, e2, dw⟩ := atI_den h2 e1
          exact .inr (.inl ⟨a, vs, _, w, rfl, den_int dy, h1, e2, fin_same R dw h⟩)
        · exact h.elim
      · obtain ⟨hz, h⟩ := h
        split at h
        · rename_i e1
          exact .inr (.inr ⟨_, _, _, den_str dx, den_int dy, hz, e1, fin_same R (.str _) h⟩)
        · exact h.elim
      · split at h
        · rename_i e0
          split at h
          · rename_i e1
            obtain ⟨a, vs, rfl, h1, h2⟩ := listR_of R dx e0
            obtain ⟨w, e2, dw⟩ := atI_den h2 e1
            exact .inl ⟨a, vs, _, w, rfl, den_int dy, h1, e2, fin_same R dw h⟩
          · exact h.elim
        · exact h.elim
    · exact h.elim
end
end DL

set_option maxHeartbeats 4000000
namespace DL
open PySem PySem.Spec PyProof.Rows L2

/-! ### slices -/
def tP (K : PySem.W.Frag) (m : W (Option Int)) : TO := fun σ H Q => ∃ ρ S Z, REnv K Z ρ σ ∧ RelS K Z S H ∧ m ρ S (fun o S' => ∀ Z' H', Ext Z S H Z' S' H' → RelS K Z' S' H' → Q o H')
structure PP (X : Cx) (e : Option Expr) (m : W (Option Int)) : Prop where
  mono : Mono m
  run : PO X e (tP X.K m)
def wNoPart : W (Option Int) := fun _ S Q => Q none S
def asI (Q : Int → Sto → Prop) : F → Sto → Prop := fun x S => match x with | .int c => Q c S | _ => False
theorem mono_asI {Q Q' : Int → Sto → Prop} (k : ∀ d S', Q d S' → Q' d S') : ∀ d S', asI Q d S' → asI Q' d S' := fun d S' h => by
  cases d with
  | int c => exact k _ _ h
  | _ => exact h.elim
theorem asI_of {Q : Int → Sto → Prop} {d : F} {S : Sto} (h : asI Q d S) : ∃ c, d = .int c ∧ Q c S := by
  cases d with
  | int c => exact ⟨c, rfl, h⟩
  | _ => exact h.elim
def wPart (m : W F) : W (Option Int) := fun ρ S Q => m ρ S (asI fun i S1 => Q (some i) S1)
section
variable {X : Cx} {a b c e : Expr} {pos : Pos} {m ma mb mc : W F}
theorem weakO {e : Option Expr} {t t' : TO} (h : PO X e t) (k : ∀ σ H Q, t' σ H Q → t σ H Q) : PO X e t' := ⟨fun pins s σ H Q I q => h.run pins s σ H Q I (k σ H Q q)⟩
theorem pp_none : PP X none wNoPart := ⟨fun _ _ _ _ k h => k _ _ h, weakO po_none fun σ H Q ⟨ρ, S, Z, r, R, h⟩ => h Z H .refl R⟩
theorem pp_some (h : PD X e m) : PP X (some e) (wPart m) := ⟨fun _ _ _ _ k q => h.mono _ _ _ _ (mono_asI fun _ _ q => k _ _ q) q, weakO (po_some h.run) fun σ H Q ⟨ρ, S, Z, r, R, q⟩ => by
  refine tD_in h.mono r R q fun x S1 v1 Z1 H1 p e1 R1 d1 => ?_
  obtain ⟨c, rfl, q⟩ := asI_of p
  exact ⟨c, den_int d1, q Z1 H1 e1 R1⟩⟩
/-- the items of xs[lo:hi] -/
def cut {α : Type} (xs : List α) (lo hi : Option Int) : List α := (xs.drop (HT.sIx xs.length 0 lo)).take (HT.sIx xs.length xs.length hi - HT.sIx xs.length 0 lo)
theorem cut_whole {α : Type} {xs : List α} {lo hi : Option Int} (h : HT.sIx xs.length 0 lo = 0 ∧ HT.sIx xs.length xs.length hi = xs.length) : cut xs lo hi = xs := by
  unfold cut
  rw [h.1, h.2]
  simp
theorem Dens.cut {K : PySem.W.Frag} {Z : Hp} {vs : List V} {fs : List F} (d : Dens K Z vs fs) (lo hi : Option Int) : Dens K Z (cutV vs lo hi) (DL.cut fs lo hi) := by
  unfold cutV DL.cut
  rw [d.length]
  exact (d.drop _).take _
abbrev DSl := F → Option Int → Option Int → Sto → (F → Sto → Prop) → Prop
def oSl : DSl := fun x lo hi S Q => match x with
  | .tup xs => Q (.tup (cut xs lo hi)) S
  | .str z => z.length ≤ sizeLine ∧ Q (.str (cutS z lo hi)) S
  | x => match listR S x with
    | some xs => Q (.lst (cut xs lo hi)) S
    | none => False
def wSl (me : W F) (ml mh : W (Option Int)) : W F := fun ρ S Q => me ρ S fun x S1 => ml ρ S1 fun l S2 => mh ρ S2 fun u S3 => oSl x l u S3 Q
theorem mono_oSl {x l u} {S : Sto} {Q Q' : F → Sto → Prop} (k : ∀ d S', Q d S' → Q' d S') (h : oSl x l u S Q) : oSl x l u S Q' := by
  unfold oSl at h ⊢
  split at h
  · exact k _ _ h
  · exact ⟨h.1, k _ _ h.2⟩
  · split at h
    · exact k _ _ h
    · exact h.elim
theorem slWeak {r r' : V → Option Int → Option Int → Hp → VK → Prop} (h : SlR X r) (k : ∀ x l u H Q, r' x l u H Q → r x l u H Q) : SlR X r' := fun pins s σ H x v vl vu lo hi sl Q I rx hs pl pu q => h pins s σ H x v vl vu lo hi sl Q I rx hs pl pu (k _ _ _ _ _ q)
theorem sl_in {K : PySem.W.Frag} {x : V} {lo hi : Option Int} {H : Hp} {Q : VK} {d : F} {S : Sto} {Z : Hp} (dx : Den K Z x d) (R : RelS K Z S H) (h : oSl d lo hi S (DFin K Z S H Q)) : rSlA K x lo hi H Q ∨ rSlS x lo hi H Q ∨ rSlL K x lo hi H Q := by
  unfold oSl at h
  split at h
  · rename_i fs
    obtain ⟨a, vs, rfl, h1, h2⟩ := tup_of R dx
    have hl := h2.length
    refine .inl ⟨a, vs, rfl, h1, fun hw => ?_, fun hw p np => fin_tup R np (h2.cut lo hi) h⟩
    rw [hl] at hw
    rw [cut_whole hw] at h
    exact fin_same R dx h
  · exact .inr (.inl ⟨_, den_str dx, h.1, fin_same R (.str _) h.2⟩)
  · split at h
    · rename_i fs e1
      obtain ⟨a, vs, rfl, h1, h2⟩ := listR_of R dx e1
      exact .inr (.inr ⟨a, vs, rfl, h1, fun p np => fin_lst R np (h2.cut lo hi) h⟩)
    · exact h.elim
theorem pd_slice {lo hi : Option Expr} {ml mh : W (Option Int)} {p2 : Pos} (he : PD X e m) (hl : PP X lo ml) (hh : PP X hi mh) : PD X (.Subscript e (.Slice lo hi none p2) pos) (wSl m ml mh) :=
  ⟨fun _ _ _ _ k q => he.mono _ _ _ _ (fun _ _ q => hl.mono _ _ _ _ (fun _ _ q => hh.mono _ _ _ _ (fun _ _ q => mono_oSl k q) q) q) q,
   weakE (pe_slice (SlR.or sl_tupA (SlR.or sl_str sl_list)) he.run hl.run hh.run) fun σ H Q ⟨ρ, S, Z, r, R, q⟩ => by
    refine tD_in he.mono r R q fun x S1 v1 Z1 H1 p e1 R1 d1 => ?_
    refine ⟨ρ, S1, Z1, r.ext e1.z, R1, hl.mono _ _ _ _ (fun l S2 p Z2 H2 e2 R2 => ?_) p⟩
    refine ⟨ρ, S2, Z2, (r.ext e1.z).ext e2.z, R2, hh.mono _ _ _ _ (fun u S3 p Z3 H3 e3 R3 => ?_) p⟩
    exact sl_in (d1.ext (e2.trans e3).z) R3 (mono_oSl (fun z S4 q v Z' H' e4 R4 d4 => q v Z' H' ((e1.trans e2).trans (e3.trans e4)) R4 d4) p)⟩
/-- a new list from a slice -/
def oSlL (x : F) (lo hi : Option Int) (S : Sto) (Q : List F → Sto → Prop) : Prop := match listR S x with | some xs => Q (cut xs lo hi) S | none => False
def wSlL (me : W F) (ml mh : W (Option Int)) : W (List F) := fun ρ S Q => me ρ S fun x S1 => ml ρ S1 fun l S2 => mh ρ S2 fun u S3 => oSlL x l u S3 Q
theorem mono_oSlL {x l u} {S : Sto} {Q Q' : List F → Sto → Prop} (k : ∀ d S', Q d S' → Q' d S') (h : oSlL x l u S Q) : oSlL x l u S Q' := by
  unfold oSlL at h ⊢
  split at h
  · exact k _ _ h
  · exact h.elim
theorem pl_slice {lo hi : Option Expr} {ml mh : W (Option Int)} {p2 : Pos} (he : PD X e m) (hl : PP X lo ml) (hh : PP X hi mh) : PL X (.Subscript e (.Slice lo hi none p2) pos) (wSlL m ml mh) :=
  ⟨fun _ _ _ _ k q => he.mono _ _ _ _ (fun _ _ q => hl.mono _ _ _ _ (fun _ _ q => hh.mono _ _ _ _ (fun _ _ q => mono_oSlL k q) q) q) q,
   weakE (pe_slice sl_list he.run hl.run hh.run) fun σ H Q ⟨ρ, S, Z, r, R, q⟩ => by
    refine tD_in he.mono r R q fun x S1 v1 Z1 H1 p e1 R1 d1 => ?_
    refine ⟨ρ, S1, Z1, r.ext e1.z, R1, hl.mono _ _ _ _ (fun l S2 p Z2 H2 e2 R2 => ?_) p⟩
    refine ⟨ρ, S2, Z2, (r.ext e1.z).ext e2.z, R2, hh.mono _ _ _ _ (fun u S3 p Z3 H3 e3 R3 => ?_) p⟩
    unfold oSlL at p
    split at p
    · rename_i fs e0
      obtain ⟨a, vs, rfl, h1, h2⟩ := listR_of R3 (d1.ext (e2.trans e3).z) e0
      exact ⟨a, vs, rfl, h1, fun q nq => lfin_new ((e1.trans e2).trans e3) R3 nq (h2.cut l u) p⟩
    · exact p.elim⟩

/-! ### calls of built-ins -/
abbrev DCall := List F → Sto → (F → Sto → Prop) → Prop
abbrev DCallL := List F → Sto → (List F → Sto → Prop) → Prop
def rC (K : PySem.W.Frag) (c : DCall) : List V → Hp → VK → Prop := fun vs H Q => ∃ ds S Z, Dens K Z vs ds ∧ RelS K Z S H ∧ c ds S (DFin K Z S H Q)
def rCL (K : PySem.W.Frag) (c : DCallL) : List V → Hp → VK → Prop := fun vs H Q => ∃ ds S Z, Dens K Z vs ds ∧ RelS K Z S H ∧ c ds S (LFin K Z S H Q)
def MonoC {α : Type} (c : List F → Sto → (α → Sto → Prop) → Prop) : Prop := ∀ xs S (Q Q' : α → Sto → Prop), (∀ d S', Q d S' → Q' d S') → c xs S Q → c xs S Q'
structure CallD (X : Cx) (f : Value) (c : DCall) : Prop where
  mono : MonoC c
  run : CallR X f (rC X.K c)
structure CallL (X : Cx) (f : Value) (c : DCallL) : Prop where
  mono : MonoC c
  run : CallR X f (rCL X.K c)
def wCall {α : Type} (c : List F → Sto → (α → Sto → Prop) → Prop) (ms : W (List F)) : W α := fun ρ S Q => ms ρ S fun xs S1 => c xs S1 Q
theorem mono_wCall {α : Type} {c : List F → Sto → (α → Sto → Prop) → Prop} {ms : W (List F)} (hc : MonoC c) (hm : Mono ms) : Mono (wCall c ms) := fun _ _ _ _ k q => hm _ _ _ _ (fun _ _ q => hc _ _ _ _ k q) q
theorem call_in {K : PySem.W.Frag} {c : DCall} {ms : W (List F)} (hc : MonoC c) (hm : Mono ms) {σ : Sig} {H : Hp} {Q : VK} (h : tD K (wCall c ms) σ H Q) : tCB (rC K c) (tDs K ms) σ H Q := by
  obtain ⟨ρ, S, Z, r, R, h⟩ := h
  refine tDs_in hm r R h fun xs S1 vs Z1 H1 p e1 R1 d1 => ?_
  exact ⟨xs, S1, Z1, d1, R1, hc _ _ _ _ (fun z S2 q v Z' H' e2 R2 d2 => q v Z' H' (e1.trans e2) R2 d2) p⟩
theorem callL_in {K : PySem.W.Frag} {c : DCallL} {ms : W (List F)} (hc : MonoC c) (hm : Mono ms) {σ : Sig} {H : Hp} {Q : VK} (h : tL K (wCall c ms) σ H Q) : tCB (rCL K c) (tDs K ms) σ H Q := by
  obtain ⟨ρ, S, Z, r, R, h⟩ := h
  refine tDs_in hm r R h fun xs S1 vs Z1 H1 p e1 R1 d1 => ?_
  exact ⟨xs, S1, Z1, d1, R1, hc _ _ _ _ (fun z S2 q p vs Z' H' e2 R2 n1 n2 n3 n4 d2 => q p vs Z' H' (e1.trans e2) R2 (e1.d p n1) n2 n3 n4 d2) p⟩
variable {es : List Expr} {ms : W (List F)} {x : Str} {p : Pos} {T id : String}
theorem pd_callB {c : DCall} (hc : CallD X (.builtin id) c) (hg : Gl X x) (hm : X.mg x = none) (hv : bootBuiltins x = some (.builtin id)) (ha : PDs X (e :: es) ms) (hn : x ≠ "__name__" := by decide) (hdb : (x == ("__debug__" : Str)) = false := by decide)
    (hs : starEach (e :: es) X.env = (false, eval e X.env) :: starEach es X.env := by rfl) (hplain : (backTo pos (starEach es X.env)).any (·.1) = false := by rfl) : PD X (.Call (.Name x p) (e :: es) [] pos) (wCall c ms) :=
  ⟨mono_wCall hc.mono ha.mono, weakE (pe_callB hc.run hg hm hv ha.run hn hdb hs hplain) fun _ _ _ h => call_in hc.mono ha.mono h⟩
theorem pd_callTy {c : DCall} (hc : CallD X (.type T) c) (hg : Gl X x) (hm : X.mg x = none) (hv : bootBuiltins x = some (.type T)) (ha : PDs X (e :: es) ms) (hn : x ≠ "__name__" := by decide) (hdb : (x == ("__debug__" : Str)) = false := by decide)
    (hs : starEach (e :: es) X.env = (false, eval e X.env) :: starEach es X.env := by rfl) (hplain : (backTo pos (starEach es X.env)).any (·.1) = false := by rfl) : PD X (.Call (.Name x p) (e :: es) [] pos) (wCall c ms) :=
  ⟨mono_wCall hc.mono ha.mono, weakE (pe_callTy hc.run hg hm hv ha.run hn hdb hs hplain) fun _ _ _ h => call_in hc.mono ha.mono h⟩
theorem pl_callTy {c : DCallL} (hc : CallL X (.type T) c) (hg : Gl X x) (hm : X.mg x = none) (hv : bootBuiltins x = some (.type T)) (ha : PDs X (e :: es) ms) (hn : x ≠ "__name__" := by decide) (hdb : (x == ("__debug__" : Str)) = false := by decide)
    (hs : starEach (e :: es) X.env = (false, eval e X.env) :: starEach es X.env := by rfl) (hplain : (backTo pos (starEach es X.env)).any (·.1) = false := by rfl) : PL X (.Call (.Name x p) (e :: es) [] pos) (wCall c ms) :=
  ⟨mono_wCall hc.mono ha.mono, weakE (pe_callTy hc.run hg hm hv ha.run hn hdb hs hplain) fun _ _ _ h => callL_in hc.mono ha.mono h⟩
theorem pl_callB {c : DCallL} (hc : CallL X (.builtin id) c) (hg : Gl X x) (hm : X.mg x = none) (hv : bootBuiltins x = some (.builtin id)) (ha : PDs X (e :: es) ms) (hn : x ≠ "__name__" := by decide) (hdb : (x == ("__debug__" : Str)) = false := by decide)
    (hs : starEach (e :: es) X.env = (false, eval e X.env) :: starEach es X.env := by rfl) (hplain : (backTo pos (starEach es X.env)).any (·.1) = false := by rfl) : PL X (.Call (.Name x p) (e :: es) [] pos) (wCall c ms) :=
  ⟨mono_wCall hc.mono ha.mono, weakE (pe_callB hc.run hg hm hv ha.run hn hdb hs hplain) fun _ _ _ h => callL_in hc.mono ha.mono h⟩
theorem callWeak {f : Value} {r r' : List V → Hp → VK → Prop} (h : CallR X f r) (k : ∀ xs H Q, r' xs H Q → r xs H Q) : CallR X f r' := fun pins s σ H xs us Q I rs q => h pins s σ H xs us Q I rs (k _ _ _ q)
theorem dens1 {K : PySem.W.Frag} {Z : Hp} {vs : List V} {d : F} (h : Dens K Z vs [d]) : ∃ v, vs = [v] ∧ Den K Z v d := by
  cases h with
  | cons h1 h2 => cases h2; exact ⟨_, rfl, h1⟩
theorem dens2 {K : PySem.W.Frag} {Z : Hp} {vs : List V} {d e : F} (h : Dens K Z vs [d, e]) : ∃ v w, vs = [v, w] ∧ Den K Z v d ∧ Den K Z w e := by
  cases h with
  | cons h1 h2 =>
    obtain ⟨w, rfl, h3⟩ := dens1 h2
    exact ⟨_, _, rfl, h1, h3⟩
/-- what has a length, items -/
def seqR (S : Sto) : F → Option (List F) | .tup xs => some xs | x => listR S x
theorem seqR_of {K : PySem.W.Frag} {Z H : Hp} {S : Sto} {v : V} {d : F} {fs : List F} (R : RelS K Z S H) (h : Den K Z v d) (e : seqR S d = some fs) : ∃ a vs, v = .ref a ∧ (SqL K H a vs ∨ SqT K H a vs) ∧ Dens K Z vs fs := by
  unfold seqR at e
  split at e
  · cases e
    obtain ⟨a, vs, h1, h2, h3⟩ := tup_of R h
    exact ⟨a, vs, h1, .inr h2, h3⟩
  · obtain ⟨a, vs, h1, h2, h3⟩ := listR_of R h e
    exact ⟨a, vs, h1, .inl h2, h3⟩
def cLen : DCall := fun xs S Q => match xs with
  | [.str z] => z.length ≤ sizeLine ∧ Q (.int z.length) S
  | [x] => (match seqR S x with | some fs => Q (.int fs.length) S | none => False)
  | _ => False
theorem c_len : CallD X (.builtin "len") cLen := by
  refine ⟨fun xs S Q Q' k h => ?_, callWeak (CallR.or call_len_seq call_len_str) fun vs H Q ⟨ds, S, Z, dv, R, h⟩ => ?_⟩
  · unfold cLen at h ⊢
    split at h
    · exact ⟨h.1, k _ _ h.2⟩
    · split at h
      · exact k _ _ h
      · exact h.elim
    · exact h.elim
  · unfold cLen at h
    split at h
    · obtain ⟨v, rfl, d⟩ := dens1 dv
      exact .inr ⟨_, by rw [den_str d], h.1, fin_same R (.int _) h.2⟩
    · obtain ⟨v, rfl, d⟩ := dens1 dv
      split at h
      · rename_i fs e0
        obtain ⟨a, us, rfl, h1, h2⟩ := seqR_of R d e0
        exact .inl ⟨a, us, rfl, h1, fin_same R (.int _) (by rw [h2.length]; exact h)⟩
      · exact h.elim
    · exact h.elim
def cTuple : DCall := fun xs S Q => match xs with
  | [.tup fs] => Q (.tup fs) S
  | [x] => (match listR S x with | some fs => Q (.tup fs) S | none => False)
  | _ => False
theorem c_tuple : CallD X (.type "tuple") cTuple := by
  refine ⟨fun xs S Q Q' k h => ?_, callWeak call_tuple_of fun vs H Q ⟨ds, S, Z, dv, R, h⟩ => ?_⟩
  · unfold cTuple at h ⊢
    split at h
    · exact k _ _ h
    · split at h
      · exact k _ _ h
      · exact h.elim
    · exact h.elim
  · unfold cTuple at h
    split at h
    · obtain ⟨v, rfl, d⟩ := dens1 dv
      obtain ⟨a, us, rfl, h1, h2⟩ := tup_of R d
      exact ⟨a, us, rfl, .inr ⟨h1, fin_same R d h⟩⟩
    · obtain ⟨v, rfl, d⟩ := dens1 dv
      split at h
      · rename_i fs e0
        obtain ⟨a, us, rfl, h1, h2⟩ := listR_of R d e0
        exact ⟨a, us, rfl, .inl ⟨h1, fun p np => fin_tup R np h2 h⟩⟩
      · exact h.elim
    · exact h.elim
def cList : DCallL := fun xs S Q => match xs with
  | [x] => (match seqR S x with | some fs => Q fs S | none => False)
  | _ => False
theorem c_list : CallL X (.type "list") cList := by
  refine ⟨fun xs S Q Q' k h => ?_, callWeak call_list_of fun vs H Q ⟨ds, S, Z, dv, R, h⟩ => ?_⟩
  · unfold cList at h ⊢
    split at h
    · split at h
      · exact k _ _ h
      · exact h.elim
    · exact h.elim
  · unfold cList at h
    split at h
    · obtain ⟨v, rfl, d⟩ := dens1 dv
      split at h
      · rename_i fs e0
        obtain ⟨a, us, rfl, h1, h2⟩ := seqR_of R d e0
        exact ⟨a, us, rfl, h1, fun p np => lfin_new .refl R np h2 h⟩
      · exact h.elim
    · exact h.elim
def cInt : DCall := fun xs S Q => match xs with
  | [.int i] => Q (.int i) S
  | [.bl b] => Q (.int (if b = true then 1 else 0)) S
  | _ => False
theorem c_int : CallD X (.type "int") cInt := by
  refine ⟨fun xs S Q Q' k h => ?_, callWeak call_int1 fun vs H Q ⟨ds, S, Z, dv, R, h⟩ => ?_⟩
  · unfold cInt at h ⊢
    split at h
    · exact k _ _ h
    · exact k _ _ h
    · exact h.elim
  · unfold cInt at h
    split at h
    · obtain ⟨v, rfl, d⟩ := dens1 dv
      exact .inl ⟨_, by rw [den_int d], fin_same R (.int _) h⟩
    · obtain ⟨v, rfl, d⟩ := dens1 dv
      exact .inr ⟨_, by rw [den_bl d], fin_same R (.int _) h⟩
    · exact h.elim
def cSum : DCall := fun xs S Q => match xs with
  | [x] => (match seqR S x with | some fs => ∃ ns : List Int, fs = ns.map F.int ∧ Q (.int ns.sum) S | none => False)
  | _ => False
def rSumT (K : PySem.W.Frag) : List V → Hp → VK → Prop := fun vs H Q => ∃ (a : Addr) (ns : List Int), vs = [V.ref a] ∧ SqT K H a (ns.map V.int) ∧ Q (.int ns.sum) H
theorem cr_sumT (hc : X.calm = true) : CallR X (.builtin "sum") (rSumT X.K) := by
  intro pins s σ H vs us Q I r h
  obtain ⟨a, ns, rfl, hs, q⟩ := h
  obtain ⟨its, rv, hl, _⟩ := I.tuple hs
  rw [Vals.ref1 r]
  have hi := rv.ints
  obtain ⟨xs, e⟩ := hi.allInts.items
  have hn : numsOf (intItems xs).toList = ns := by rw [← e]; exact hi.numsOf
  rw [nums_intItems] at hn
  rw [e] at hl
  refine PySem.W.ktm_sumG (I.ok.hd hc) hl fun h' tk t' hk => ?_
  rw [preSum_eq, List.take_of_length_le (by simp), hn]
  exact ⟨.int _, H, I.kept hk, ⟨_, rfl⟩, q⟩
theorem c_sum (hc : X.calm = true) : CallD X (.builtin "sum") cSum := by
  refine ⟨fun xs S Q Q' k h => ?_, callWeak (CallR.or (cr_sum hc) (cr_sumT hc)) fun vs H Q ⟨ds, S, Z, dv, R, h⟩ => ?_⟩
  · unfold cSum at h ⊢
    split at h
    · split at h
      · obtain ⟨ns, e, q⟩ := h
        exact ⟨ns, e, k _ _ q⟩
      · exact h.elim
    · exact h.elim
  · unfold cSum at h
    split at h
    · obtain ⟨v, rfl, d⟩ := dens1 dv
      split at h
      · rename_i fs e0
        obtain ⟨ns, rfl, q⟩ := h
        obtain ⟨a, us, rfl, h1, h2⟩ := seqR_of R d e0
        have := h2.ints
        subst this
        rcases h1 with h1 | h1
        · exact .inl ⟨a, ns, rfl, h1, fin_same R (.int _) q⟩
        · exact .inr ⟨a, ns, rfl, h1, fin_same R (.int _) q⟩
      · exact h.elim
    · exact h.elim
def cAll : DCall := fun xs S Q => match xs with
  | [x] => (match listR S x with | some fs => ∃ bs : List Bool, fs = bs.map F.bl ∧ Q (.bl (bs.all _root_.id)) S | none => False)
  | _ => False
def cAny : DCall := fun xs S Q => match xs with
  | [x] => (match listR S x with | some fs => ∃ bs : List Bool, fs = bs.map F.bl ∧ Q (.bl (bs.any _root_.id)) S | none => False)
  | _ => False
theorem c_all (hc : X.calm = true) : CallD X (.builtin "all") cAll := by
  refine ⟨fun xs S Q Q' k h => ?_, callWeak (cr_all hc) fun vs H Q ⟨ds, S, Z, dv, R, h⟩ => ?_⟩
  · unfold cAll at h ⊢
    split at h
    · split at h
      · obtain ⟨ns, e, q⟩ := h
        exact ⟨ns, e, k _ _ q⟩
      · exact h.elim
    · exact h.elim
  · unfold cAll at h
    split at h
    · obtain ⟨v, rfl, d⟩ := dens1 dv
      split at h
      · rename_i fs e0
        obtain ⟨ns, rfl, q⟩ := h
        obtain ⟨a, us, rfl, h1, h2⟩ := listR_of R d e0
        have := h2.bls
        subst this
        exact ⟨a, ns, rfl, h1, fin_same R (.bl _) q⟩
      · exact h.elim
    · exact h.elim
theorem c_any (hc : X.calm = true) : CallD X (.builtin "any") cAny := by
  refine ⟨fun xs S Q Q' k h => ?_, callWeak (cr_any hc) fun vs H Q ⟨ds, S, Z, dv, R, h⟩ => ?_⟩
  · unfold cAny at h ⊢
    split at h
    · split at h
      · obtain ⟨ns, e, q⟩ := h
        exact ⟨ns, e, k _ _ q⟩
      · exact h.elim
    · exact h.elim
  · unfold cAny at h
    split at h
    · obtain ⟨v, rfl, d⟩ := dens1 dv
      split at h
      · rename_i fs e0
        obtain ⟨ns, rfl, q⟩ := h
        obtain ⟨a, us, rfl, h1, h2⟩ := listR_of R d e0
        have := h2.bls
        subst this
        exact ⟨a, ns, rfl, h1, fin_same R (.bl _) q⟩
      · exact h.elim
    · exact h.elim
/-- isinstance(e, T) -/
def tyOf : F → String
  | .non => "NoneType" | .bl _ => "bool" | .int _ => "int" | .str _ => "str" | .tup _ => "tuple" | .lst _ => "list" | .rol _ => "list" | .loc _ => "list"
def isTy (T : String) (x : F) : Bool := match x with
  | .non => T == "NoneType" | .bl _ => T == "bool" || T == "int" | .int _ => T == "int" | .str _ => T == "str" | .tup _ => T == "tuple" | .lst _ => T == "list" | .rol _ => T == "list" | .loc _ => T == "list"
def isiOk (S : Sto) : F → Prop | .loc a => (S a).isSome = true | _ => True
def wIsi (T : String) (ma : W F) : W F := fun ρ S Q => ma ρ S fun x S1 => isiOk S1 x ∧ Q (.bl (isTy T x)) S1
def kitAll (T : String) : Bool := [("NoneType", F.non), ("bool", .bl true), ("int", .int 0), ("str", .str ⟨#[]⟩), ("tuple", .tup []), ("list", .lst [])].all fun p => decide (kitB p.1 T = some (isTy T p.2))
theorem kitAll_of {T : String} (h : kitAll T = true) (x : F) : kitB (tyOf x) T = some (isTy T x) := by
  simp only [kitAll, List.all_cons, List.all_nil, Bool.and_true, Bool.and_eq_true, decide_eq_true_eq] at h
  obtain ⟨h1, h2, h3, h4, h5, h6⟩ := h
  cases x with
  | non => exact h1
  | bl b => exact h2
  | int i => exact h3
  | str s => exact h4
  | tup l => exact h5
  | lst l => exact h6
  | rol l => exact h6
  | loc a => exact h6
theorem tyX_of {K : PySem.W.Frag} {Z H : Hp} {S : Sto} {v : V} {d : F} (R : RelS K Z S H) (h : Den K Z v d) (hl : isiOk S d) : TyX K H v (.type (tyOf d)) := by
  cases h with
  | non => exact .base .non
  | bl b => exact .base (.bl b)
  | int i => exact .base (.int i)
  | str x => exact .base (.str x)
  | tup h1 h2 =>
    rcases R.sqT h1 with (h | ⟨o, h⟩) | ⟨o, its, n, h, hc, _⟩
    · exact .base (.tup h)
    · exact .fTuple h
    · exact .kTuple h hc
  | lst h1 h2 => exact .base (.lst (R.z _ _ h1).1)
  | rol h1 h2 =>
    rcases R.sqL h1 with (h | ⟨o, h⟩) | ⟨o, its, n, h, hc, _⟩
    · exact .base (.lst h)
    · exact .base (.frz h)
    · exact .kList h hc
  | loc a =>
    cases e : S a with
    | none =>
      have hl : (S a).isSome = true := hl
      rw [e] at hl
      cases hl
    | some fs =>
      obtain ⟨vs, h, _⟩ := R.s a fs e
      exact .base (.lst h)
theorem pd_isi {T : String} {y : Str} {p q pos : Pos} (hk : kitAll T = true) (hg : Gl X "isinstance") (hm : X.mg "isinstance" = none) (hg2 : Gl X y) (hm2 : X.mg y = none) (hv : bootBuiltins y = some (.type T)) (ha : PD X a ma)
    (hn : y ≠ "__name__" := by decide) (hd : (y == ("__debug__" : Str)) = false := by decide)
    (hs : starEach [a, .Name y q] X.env = (false, eval a X.env) :: starEach [.Name y q] X.env := by rfl) (hs2 : starEach [.Name y q] X.env = (false, eval (.Name y q) X.env) :: starEach [] X.env := by rfl) (hplain : (backTo pos (starEach [.Name y q] X.env)).any (·.1) = false := by rfl) :
    PD X (.Call (.Name "isinstance" p) [a, .Name y q] [] pos) (wIsi T ma) :=
  ⟨fun _ _ _ _ k h => ha.mono _ _ _ _ (fun _ _ h => ⟨h.1, k _ _ h.2⟩) h,
   weakE (pe_callB call_isi hg hm (by decide +kernel) (pa_cons ha.run (pa_cons (pe_bltn (v := .ty T) hg2 hm2 hv rfl hn hd) pa_nil hs2) hs) (by decide) (by decide) hs hplain) fun σ H Q ⟨ρ, S, Z, r, R, h⟩ => by
    refine tD_in ha.mono r R h fun x S1 v1 Z1 H1 p e1 R1 d1 => ?_
    exact ⟨v1, .ty T, .type (tyOf x), .type T, isTy T x, rfl, .ty T, tyX_of R1 d1 p.1, kit_ty (kitAll_of hk x), p.2 _ _ _ e1 R1 (.bl _)⟩⟩

/-! ### methods -/
abbrev DMt := F → List F → Sto → (F → Sto → Prop) → Prop
def rM (K : PySem.W.Frag) (c : DMt) : V → List V → Hp → VK → Prop := fun v vs H Q => ∃ d ds S Z, Den K Z v d ∧ Dens K Z vs ds ∧ RelS K Z S H ∧ c d ds S (DFin K Z S H Q)
def MonoM (c : DMt) : Prop := ∀ d xs S (Q Q' : F → Sto → Prop), (∀ d S', Q d S' → Q' d S') → c d xs S Q → c d xs S Q'
structure MtD (X : Cx) (id : String) (c : DMt) : Prop where
  mono : MonoM c
  run : MtR X id (rM X.K c)
theorem mtWeak {id : String} {r r' : V → List V → Hp → VK → Prop} (h : MtR X id r) (k : ∀ x xs H Q, r' x xs H Q → r x xs H Q) : MtR X id r' := fun pins s σ H x xs v us Q I rx rs q => h pins s σ H x xs v us Q I rx rs (k _ _ _ _ q)
def wMt (c : DMt) (mo : W F) (ms : W (List F)) : W F := fun ρ S Q => mo ρ S fun x S1 => (listR S1 x).isSome = true ∧ ms ρ S1 fun xs S2 => c x xs S2 Q
def wMt0 (c : DMt) (mo : W F) : W F := fun ρ S Q => mo ρ S fun x S1 => (listR S1 x).isSome = true ∧ c x [] S1 Q
theorem ty_list {K : PySem.W.Frag} {Z H : Hp} {S : Sto} {v : V} {d : F} (R : RelS K Z S H) (h : Den K Z v d) (hl : (listR S d).isSome = true) : tyV K "list" v H := by
  cases e : listR S d with
  | none => rw [e] at hl; cases hl
  | some fs =>
    obtain ⟨a, vs, rfl, h1, _⟩ := listR_of R h e
    exact .inl ⟨rfl, vs, h1⟩
variable {o : Expr} {mo : W F} {name : Str} {apos cpos : Pos}
theorem pd_mt {c : DMt} (slot : Slot "list" name id) (hty : typeOf (.builtin id) = pure (.type "method_descriptor")) (hm : MtD X id c) (ho : PD X o mo) (ha : PDs X (e :: es) ms)
    (hbase : attributeBase o name X.env (eval o X.env) = eval o X.env := by rfl)
    (hfew : ((backTo cpos (starEach (e :: es) X.env)).all (fun x => !x.1) && (backToKw cpos (keywordEach [] X.env)).all (fun x => x.1.isSome)
      && decide ((e :: es).length + ([] : List Keyword).length + (if ([] : List Keyword).isEmpty then 0 else 1) < 30)) = true := by rfl)
    (hline : (apos.endLine == cpos.line) = true := by rfl) (hs : starEach (e :: es) X.env = (false, eval e X.env) :: starEach es X.env := by rfl) (hplain : (backTo cpos (starEach es X.env)).any (·.1) = false := by rfl) :
    PD X (.Call (.Attribute o name apos) (e :: es) [] cpos) (wMt c mo ms) :=
  ⟨fun _ _ _ _ k h => ho.mono _ _ _ _ (fun _ _ h => ⟨h.1, ha.mono _ _ _ _ (fun _ _ h => hm.mono _ _ _ _ _ k h) h.2⟩) h,
   weakE (pe_bm PySem.F.plainAttrs_list slot hty hm.run ho.run ha.run hbase hfew hline hs hplain) fun σ H Q ⟨ρ, S, Z, r, R, h⟩ => by
    refine tD_in ho.mono r R h fun x S1 v1 Z1 H1 p e1 R1 d1 => ⟨ty_list R1 d1 p.1, ?_⟩
    refine tDs_in ha.mono (r.ext e1.z) R1 p.2 fun xs S2 vs Z2 H2 p2 e2 R2 d2 => ?_
    exact ⟨x, xs, S2, Z2, d1.ext e2.z, d2, R2, hm.mono _ _ _ _ _ (fun z S3 q v Z' H' e3 R3 d3 => q v Z' H' ((e1.trans e2).trans e3) R3 d3) p2⟩⟩
theorem pd_mt0 {c : DMt} (slot : Slot "list" name id) (hty : typeOf (.builtin id) = pure (.type "method_descriptor")) (hm : MtD X id c) (ho : PD X o mo)
    (hbase : attributeBase o name X.env (eval o X.env) = eval o X.env := by rfl) (hline : (apos.endLine == cpos.line) = true := by rfl) :
    PD X (.Call (.Attribute o name apos) [] [] cpos) (wMt0 c mo) :=
  ⟨fun _ _ _ _ k h => ho.mono _ _ _ _ (fun _ _ h => ⟨h.1, hm.mono _ _ _ _ _ k h.2⟩) h,
   weakE (pe_bm0 PySem.F.plainAttrs_list slot hty hm.run ho.run hbase hline) fun σ H Q ⟨ρ, S, Z, r, R, h⟩ => by
    refine tD_in ho.mono r R h fun x S1 v1 Z1 H1 p e1 R1 d1 => ⟨ty_list R1 d1 p.1, ?_⟩
    exact ⟨x, [], S1, Z1, d1, .nil, R1, hm.mono _ _ _ _ _ (fun z S3 q v Z' H' e3 R3 d3 => q v Z' H' (e1.trans e3) R3 d3) p.2⟩⟩
/-- the end of a rule that changes a list -/
theorem fin_write {K : PySem.W.Frag} {Z H : Hp} {S : Sto} {a : Addr} {fs gs : List F} {vs us : List V} {Q : VK} {d : F} {v : V} (R : RelS K Z S H) (e : S a = some fs) (du : Dens K Z us gs) (dd : Den K Z v d) (q : DFin K Z S H Q d (updS S a gs)) : Q v (upd H a (.lst us)) := by
  obtain ⟨R2, e2⟩ := R.write e du
  exact q v Z _ e2 R2 dd
def mAppend : DMt := fun x xs S Q => match x, xs with
  | .loc a, [y] => (match S a with | some fs => fs.length < sizeLine ∧ Q .non (updS S a (fs ++ [y])) | none => False)
  | _, _ => False
theorem m_append : MtD X "list.append" mAppend := by
  refine ⟨fun d xs S Q Q' k h => ?_, mtWeak mt_append fun v vs H Q ⟨d, ds, S, Z, dv, dvs, R, h⟩ => ?_⟩
  · unfold mAppend at h ⊢
    split at h
    · split at h
      · exact ⟨h.1, k _ _ h.2⟩
      · exact h.elim
    · exact h.elim
  · unfold mAppend at h
    split at h
    · split at h
      · rename_i e0
        obtain ⟨w, rfl, dw⟩ := dens1 dvs
        cases dv
        obtain ⟨us, h1, h2⟩ := R.s _ _ e0
        exact ⟨_, us, w, rfl, rfl, h1, by rw [h2.length]; exact h.1, fin_write (vs := us) R e0 (h2.append (.cons dw .nil)) .non h.2⟩
      · exact h.elim
    · exact h.elim
/-- xs.pop(i) -/
def mPopAt : DMt := fun x xs S Q => match x, xs with
  | .loc a, [.int i] => (match S a with
    | some fs => (-(2 ^ 63) ≤ i ∧ i < 2 ^ 63) ∧ (match ixN fs.length i with
      | some j => (match fs[j]? with | some y => Q y (updS S a (fs.eraseIdx j)) | none => False)
      | none => False)
    | none => False)
  | _, _ => False
theorem m_popAt : MtD X "list.pop" mPopAt := by
  refine ⟨fun d xs S Q Q' k h => ?_, mtWeak mt_popAt fun v vs H Q ⟨d, ds, S, Z, dv, dvs, R, h⟩ => ?_⟩
  · unfold mPopAt at h ⊢
    split at h
    · split at h
      · refine ⟨h.1, ?_⟩
        have h := h.2
        split at h
        · split at h
          · exact k _ _ h
          · exact h.elim
        · exact h.elim
      · exact h.elim
    · exact h.elim
  · unfold mPopAt at h
    split at h
    · split at h
      · rename_i e0
        obtain ⟨⟨i1, i2⟩, h⟩ := h
        obtain ⟨w, rfl, dw⟩ := dens1 dvs
        cases dv
        obtain ⟨us, h1, h2⟩ := R.s _ _ e0
        split at h
        · rename_i ej
          split at h
          · rename_i ey
            obtain ⟨w2, e2, d2⟩ := h2.get ey
            obtain ⟨s1, _⟩ := ixN_seq ej
            exact ⟨_, us, _, _, w2, rfl, by rw [den_int dw], h1, i1, i2, by rw [h2.length]; exact s1, e2, fin_write (vs := us) R e0 (h2.eraseIdx _) d2 h⟩
          · exact h.elim
        · exact h.elim
      · exact h.elim
    · exact h.elim
/-- xs.pop() -/
def mPop : DMt := fun x xs S Q => match x, xs with
  | .loc a, [] => (match S a with
    | some fs => (match fs[fs.length - 1]? with | some y => Q y (updS S a fs.dropLast) | none => False)
    | none => False)
  | _, _ => False
theorem Dens.dropLast {K : PySem.W.Frag} {Z : Hp} {vs : List V} {fs : List F} (d : Dens K Z vs fs) : Dens K Z vs.dropLast fs.dropLast := by
  rw [List.dropLast_eq_take, List.dropLast_eq_take, d.length]
  exact d.take _
theorem m_pop : MtD X "list.pop" mPop := by
  refine ⟨fun d xs S Q Q' k h => ?_, mtWeak mt_pop fun v vs H Q ⟨d, ds, S, Z, dv, dvs, R, h⟩ => ?_⟩
  · unfold mPop at h ⊢
    split at h
    · split at h
      · split at h
        · exact k _ _ h
        · exact h.elim
      · exact h.elim
    · exact h.elim
  · unfold mPop at h
    split at h
    · split at h
      · rename_i e0
        cases dvs
        cases dv
        obtain ⟨us, h1, h2⟩ := R.s _ _ e0
        split at h
        · rename_i ey
          obtain ⟨w2, e2, d2⟩ := h2.get ey
          exact ⟨_, us, w2, rfl, rfl, h1, by rw [h2.length]; exact e2, fin_write (vs := us) R e0 h2.dropLast d2 h⟩
        · exact h.elim
      · exact h.elim
    · exact h.elim
end
end DL

set_option maxHeartbeats 4000000
namespace DL
open PySem PySem.Spec PyProof.Rows L2

/-! ### what is walked -/
structure ItD where
  items : List F
  gd : Sto → Prop
structure Wk (K : PySem.W.Frag) (Z0 : Hp) (J : It) (it : ItD) : Prop where
  go : ∀ Z S H (i : Nat) f, (∀ a o, Z0 a = some o → Z a = some o) → RelS K Z S H → it.gd S → it.items[i]? = some f → J.go i H ∧ ∀ x H', J.yld i H x H' → ∃ Z', Ext Z S H Z' S H' ∧ RelS K Z' S H' ∧ Den K Z' x f
  stop : ∀ Z S H (i : Nat), (∀ a o, Z0 a = some o → Z a = some o) → RelS K Z S H → it.gd S → it.items.length ≤ i → J.stop i H
theorem Wk.ext {K : PySem.W.Frag} {Z0 Z1 : Hp} {J : It} {it : ItD} (h : Wk K Z0 J it) (z : ∀ a o, Z0 a = some o → Z1 a = some o) : Wk K Z1 J it :=
  ⟨fun Z S H i f k => h.go Z S H i f fun a o q => k a o (z a o q), fun Z S H i k => h.stop Z S H i fun a o q => k a o (z a o q)⟩
def tI (K : PySem.W.Frag) (m : W ItD) : TI := fun σ H R => ∃ ρ S Z, REnv K Z ρ σ ∧ RelS K Z S H ∧ m ρ S (fun it S' => ∀ J Z' H', Ext Z S H Z' S' H' → RelS K Z' S' H' → Wk K Z' J it → R J H')
structure PID (X : Cx) (tg iter : Expr) (m : W ItD) : Prop where
  mono : Mono m
  run : PI X tg iter (tI X.K m)
section
variable {X : Cx} {tg e e2 : Expr} {m m2 : W F} {p pos : Pos}
theorem weakI {iter : Expr} {t t' : TI} (h : PI X tg iter t) (k : ∀ σ H R, t' σ H R → t σ H R) : PI X tg iter t' := ⟨fun pins s σ H R I q => h.run pins s σ H R I (k σ H R q)⟩
def iSeq (K : PySem.W.Frag) (tl : TE) : TI := fun σ H R => tl σ H fun x H1 => (∃ a, x = .ref a ∧ (∃ xs, SqL K H1 a xs) ∧ R (Itl K a) H1) ∨ (∃ a, x = .ref a ∧ (∃ xs, SqT K H1 a xs) ∧ R (Itt K a) H1) ∨ ∃ z, x = .str z ∧ R (Its z) H1
theorem pi_seq {l : Expr} {tl : TE} (hl : PE X l tl) : PI X tg l (iSeq X.K tl) := by
  refine ⟨fun pins s σ H R I h => ?_⟩
  refine thn (hl.run pins s σ H _ I h) fun v s1 ⟨x, H1, I1, r1, q1⟩ => ?_
  rcases q1 with ⟨a, e, ⟨xs, hq⟩, q⟩ | ⟨a, e, ⟨xs, hq⟩, q⟩ | ⟨z, e, q⟩
  · subst e
    cases r1
    obtain ⟨its, rv, p, hz⟩ := I1.list hq
    refine wpAny_pyIter_list p.isList ?_
    refine ⟨s1.heap.objs.size, [s1.heap.objs.size], _, _, H1, rfl, I1.kept (t' := s1.toks) fun b o e => Heap.get?_push_of_some _ e, turn_list a _, ⟨_, Heap.get?_push_size _ rfl, rfl, rfl⟩, fun b hb => ?_, q⟩
    have e : b = s1.heap.objs.size := by simpa using hb
    subst e
    exact I1.fpOk (Nat.le_refl _) (I1.hok.fresh (Nat.le_refl _))
  · subst e
    cases r1
    obtain ⟨its, rv, p, hz⟩ := I1.tuple hq
    refine wpAny_pyIter_tuple (show s1.heap.IsTuple a its.toArray from p) ?_
    refine ⟨s1.heap.objs.size, [s1.heap.objs.size], _, _, H1, rfl, I1.kept (t' := s1.toks) fun b o e => Heap.get?_push_of_some _ e, turn_tuple a _, ⟨_, Heap.get?_push_size _ rfl, rfl, rfl⟩, fun b hb => ?_, q⟩
    have e : b = s1.heap.objs.size := by simpa using hb
    subst e
    exact I1.fpOk (Nat.le_refl _) (I1.hok.fresh (Nat.le_refl _))
  · subst e
    obtain ⟨t, rfl⟩ := r1
    cases ha : z.cps.all (· < 128)
    · exact wpAny_pyIter_wide ha (pi_one (tk := s1.toks) I1 _ (turn_str _ z t "str_iterator" (.inr rfl)) ⟨_, Heap.get?_push_size _ rfl, rfl, rfl⟩ q)
    · exact wpAny_pyIter_ascii ha (pi_one (tk := s1.toks) I1 _ (turn_str _ z t "str_ascii_iterator" (.inl rfl)) ⟨_, Heap.get?_push_size _ rfl, rfl, rfl⟩ q)
/-- the items of a value, and what must stay while they are walked -/
def itOf (S : Sto) : F → Option ItD
  | .tup xs => some ⟨xs, fun _ => True⟩
  | .lst xs => some ⟨xs, fun _ => True⟩
  | .rol xs => some ⟨xs, fun _ => True⟩
  | .str z => some ⟨z.cps.toList.map fun c => .str ⟨#[c]⟩, fun _ => True⟩
  | .loc a => (S a).map fun xs => ⟨xs, fun S => S a = some xs⟩
  | _ => none
def onIt (S : Sto) (x : F) (Q : ItD → Sto → Prop) : Prop := match itOf S x with | some it => Q it S | none => False
theorem onIt_of {S : Sto} {x : F} {Q : ItD → Sto → Prop} (h : onIt S x Q) : ∃ it, itOf S x = some it ∧ Q it S := by
  unfold onIt at h
  split at h
  · exact ⟨_, by assumption, h⟩
  · exact h.elim
theorem mono_onIt {S : Sto} {x : F} {Q Q' : ItD → Sto → Prop} (k : ∀ d S', Q d S' → Q' d S') (h : onIt S x Q) : onIt S x Q' := by
  obtain ⟨it, e, q⟩ := onIt_of h
  unfold onIt
  rw [e]
  exact k _ _ q
theorem den_get {K : PySem.W.Frag} {Z : Hp} {vs : List V} {fs : List F} (d : Dens K Z vs fs) {i : Nat} {f : F} {x : V} (e : fs[i]? = some f) (h : vs[i]? = some x) : Den K Z x f := by
  obtain ⟨v, e1, dv⟩ := d.get e
  rw [h] at e1
  cases e1
  exact dv
theorem seq_in {K : PySem.W.Frag} {v : V} {d : F} {Z H : Hp} {S : Sto} {R : It → Hp → Prop} (D : Den K Z v d) (Rs : RelS K Z S H) (h : onIt S d (fun it S' => ∀ J Z' H', Ext Z S H Z' S' H' → RelS K Z' S' H' → Wk K Z' J it → R J H')) :
    (∃ a, v = .ref a ∧ (∃ xs, SqL K H a xs) ∧ R (Itl K a) H) ∨ (∃ a, v = .ref a ∧ (∃ xs, SqT K H a xs) ∧ R (Itt K a) H) ∨ ∃ z, v = .str z ∧ R (Its z) H := by
  obtain ⟨it, e, q⟩ := onIt_of h
  cases D with
  | tup h1 h2 =>
    cases e
    rename_i a vs fs
    refine .inr (.inl ⟨a, rfl, ⟨vs, Rs.sqT h1⟩, q _ Z H .refl Rs ⟨fun Z1 S1 H1 i f z R1 _ e => ⟨?_, fun x H' y => ?_⟩, fun Z1 S1 H1 i z R1 _ hl => ?_⟩⟩)
    · obtain ⟨v, e1, _⟩ := h2.get e
      exact ⟨vs, v, R1.sqT (SqT_ext z h1), e1⟩
    · obtain ⟨rfl, y⟩ := y
      exact ⟨Z1, .refl, R1, (den_get h2 e (y vs (R1.sqT (SqT_ext z h1)))).ext z⟩
    · exact ⟨vs, R1.sqT (SqT_ext z h1), by rw [h2.length]; exact hl⟩
  | lst h1 h2 =>
    cases e
    rename_i a vs fs
    have h1 : SqL K Z a vs := SqL.of h1
    refine .inl ⟨a, rfl, ⟨vs, Rs.sqL h1⟩, q _ Z H .refl Rs ⟨fun Z1 S1 H1 i f z R1 _ e => ⟨?_, fun x H' y => ?_⟩, fun Z1 S1 H1 i z R1 _ hl => ?_⟩⟩
    · obtain ⟨v, e1, _⟩ := h2.get e
      exact ⟨vs, v, R1.sqL (SqL_ext z h1), e1⟩
    · obtain ⟨rfl, y⟩ := y
      exact ⟨Z1, .refl, R1, (den_get h2 e (y vs (R1.sqL (SqL_ext z h1)))).ext z⟩
    · exact ⟨vs, R1.sqL (SqL_ext z h1), by rw [h2.length]; exact hl⟩
  | rol h1 h2 =>
    cases e
    rename_i a vs fs
    refine .inl ⟨a, rfl, ⟨vs, Rs.sqL h1⟩, q _ Z H .refl Rs ⟨fun Z1 S1 H1 i f z R1 _ e => ⟨?_, fun x H' y => ?_⟩, fun Z1 S1 H1 i z R1 _ hl => ?_⟩⟩
    · obtain ⟨v, e1, _⟩ := h2.get e
      exact ⟨vs, v, R1.sqL (SqL_ext z h1), e1⟩
    · obtain ⟨rfl, y⟩ := y
      exact ⟨Z1, .refl, R1, (den_get h2 e (y vs (R1.sqL (SqL_ext z h1)))).ext z⟩
    · exact ⟨vs, R1.sqL (SqL_ext z h1), by rw [h2.length]; exact hl⟩
  | str z =>
    cases e
    refine .inr (.inr ⟨z, rfl, q _ Z H .refl Rs ⟨fun Z1 S1 H1 i f zz R1 _ e => ⟨?_, fun x H' y => ?_⟩, fun Z1 S1 H1 i zz R1 _ hl => ?_⟩⟩)
    · have e : (z.cps.toList.map fun c => F.str ⟨#[c]⟩)[i]? = some f := e
      rw [List.getElem?_map] at e
      cases q : z.cps.toList[i]? with
      | none => rw [q] at e; cases e
      | some c =>
        obtain ⟨hi, _⟩ := List.getElem?_eq_some_iff.mp q
        show i < z.cps.size
        simpa using hi
    · obtain ⟨rfl, c, hc, rfl⟩ := y
      have e : (z.cps.toList.map fun c => F.str ⟨#[c]⟩)[i]? = some f := e
      rw [List.getElem?_map, show z.cps.toList[i]? = some c by simpa using hc] at e
      cases e
      exact ⟨Z1, .refl, R1, .str _⟩
    · show z.cps.size ≤ i
      simpa using hl
  | loc a =>
    cases e0 : S a with
    | none =>
      have e : (S a).map (fun xs => (⟨xs, fun S => S a = some xs⟩ : ItD)) = some it := e
      rw [e0] at e
      cases e
    | some fs =>
      have e : (S a).map (fun xs => (⟨xs, fun S => S a = some xs⟩ : ItD)) = some it := e
      rw [e0] at e
      cases e
      obtain ⟨vs0, h1, _⟩ := Rs.s a fs e0
      refine .inl ⟨a, rfl, ⟨vs0, SqL.of h1⟩, q _ Z H .refl Rs ⟨fun Z1 S1 H1 i f z R1 g e => ?_, fun Z1 S1 H1 i z R1 g hl => ?_⟩⟩
      · obtain ⟨vs, h1, h2⟩ := R1.s a fs g
        refine ⟨?_, fun x H' y => ?_⟩
        · obtain ⟨v, e1, _⟩ := h2.get e
          exact ⟨vs, v, SqL.of h1, e1⟩
        · obtain ⟨rfl, y⟩ := y
          exact ⟨Z1, .refl, R1, den_get h2 e (y vs (SqL.of h1))⟩
      · obtain ⟨vs, h1, h2⟩ := R1.s a fs g
        exact ⟨vs, SqL.of h1, by rw [h2.length]; exact hl⟩
  | _ => cases e
def wIt (m : W F) : W ItD := fun ρ S Q => m ρ S fun x S1 => onIt S1 x Q
theorem pid_seq (h : PD X e m) : PID X tg e (wIt m) := ⟨fun _ _ _ _ k q => h.mono _ _ _ _ (fun _ _ q => mono_onIt k q) q, weakI (pi_seq h.run) fun σ H R ⟨ρ, S, Z, r, Rs, q⟩ => by
  refine tD_in h.mono r Rs q fun x S1 v1 Z1 H1 p e1 R1 d1 => ?_
  exact seq_in d1 R1 (mono_onIt (fun it S2 q J Z' H' e2 R2 w => q J Z' H' (e1.trans e2) R2 w) p)⟩
/-- lo, lo + 1, .. -/
def rngL (lo : Int) (n : Nat) : List F := (List.range n).map fun i => F.int (lo + (i : Nat))
theorem wk_range {K : PySem.W.Frag} {Z : Hp} (lo : Int) (n : Nat) : Wk K Z (Itr lo n) ⟨rngL lo n, fun _ => True⟩ :=
  ⟨fun Z1 S1 H1 i f z R1 _ e => by
    have e : ((List.range n).map fun i => F.int (lo + (i : Nat)))[i]? = some f := e
    rw [List.getElem?_map] at e
    by_cases hi : i < n
    · rw [List.getElem?_range hi] at e
      cases e
      exact ⟨hi, fun x H' y => by obtain ⟨rfl, rfl⟩ := y; exact ⟨Z1, .refl, R1, .int _⟩⟩
    · rw [List.getElem?_eq_none (by simpa using hi)] at e
      exact absurd e (by intro q; cases q),
   fun Z1 S1 H1 i z R1 _ hl => by
    have hl : ((List.range n).map fun i => F.int (lo + (i : Nat))).length ≤ i := hl
    rw [List.length_map, List.length_range] at hl
    exact hl⟩
def wRange1 (ms : W (List F)) : W ItD := fun ρ S Q => ms ρ S fun xs S1 => match xs with
  | [.int j] => (-(2 ^ 62) ≤ j ∧ j < 2 ^ 62) ∧ Q ⟨rngL 0 j.toNat, fun _ => True⟩ S1
  | _ => False
def wRange2 (ms : W (List F)) : W ItD := fun ρ S Q => ms ρ S fun xs S1 => match xs with
  | [.int i, .int j] => (-(2 ^ 62) ≤ i ∧ i < 2 ^ 62 ∧ -(2 ^ 62) ≤ j ∧ j < 2 ^ 62) ∧ Q ⟨rngL i (j - i).toNat, fun _ => True⟩ S1
  | _ => False
theorem pid_range1 {ms : W (List F)} (hg : Gl X "range") (hm : X.mg "range" = none) (ha : PDs X [e] ms) (hs : starEach [e] X.env = [(false, eval e X.env)] := by rfl) : PID X tg (.Call (.Name "range" p) [e] [] pos) (wRange1 ms) :=
  ⟨fun _ _ _ _ k q => ha.mono _ _ _ _ (fun xs S1 q => by
    split at q
    · exact ⟨q.1, k _ _ q.2⟩
    · exact q.elim) q, weakI (pi_range1 hg hm ha.run hs) fun σ H R ⟨ρ, S, Z, r, Rs, q⟩ => by
    refine tDs_in ha.mono r Rs q fun xs S1 vs Z1 H1 p e1 R1 d1 => ?_
    split at p
    · obtain ⟨v, rfl, d⟩ := dens1 d1
      exact ⟨_, by rw [den_int d], p.1.1, p.1.2, p.2 _ Z1 H1 e1 R1 (wk_range 0 _)⟩
    · exact p.elim⟩
theorem pid_range2 {a b : Expr} {ms : W (List F)} (hg : Gl X "range") (hm : X.mg "range" = none) (ha : PDs X [a, b] ms) (hs : starEach [a, b] X.env = [(false, eval a X.env), (false, eval b X.env)] := by rfl) (hs2 : starEach [b] X.env = [(false, eval b X.env)] := by rfl) :
    PID X tg (.Call (.Name "range" p) [a, b] [] pos) (wRange2 ms) :=
  ⟨fun _ _ _ _ k q => ha.mono _ _ _ _ (fun xs S1 q => by
    split at q
    · exact ⟨q.1, k _ _ q.2⟩
    · exact q.elim) q, weakI (pi_range2 hg hm ha.run hs hs2) fun σ H R ⟨ρ, S, Z, r, Rs, q⟩ => by
    refine tDs_in ha.mono r Rs q fun xs S1 vs Z1 H1 p e1 R1 d1 => ?_
    split at p
    · obtain ⟨v, w, rfl, d, d2⟩ := dens2 d1
      exact ⟨_, _, by rw [den_int d, den_int d2], p.1, p.2 _ Z1 H1 e1 R1 (wk_range _ _)⟩
    · exact p.elim⟩

/-! ### targets -/
abbrev DG := F → Slots → Sto → (Slots → Sto → Prop) → Prop
def agree (vs : List Nat) (σ σ' : Sig) : Prop := σ.length = σ'.length ∧ ∀ j, j ∉ vs → σ[j]? = σ'[j]?
def tG (K : PySem.W.Frag) (vs : List Nat) (g : DG) : TG := fun v σ H Q => ∃ f ρ S Z, REnv K Z ρ σ ∧ RelS K Z S H ∧ Den K Z v f ∧ g f ρ S (fun ρ' S' => ∀ σ' Z' H', agree vs σ σ' → Ext Z S H Z' S' H' → REnv K Z' ρ' σ' → RelS K Z' S' H' → Q σ' H')
def MonoG (g : DG) : Prop := ∀ f ρ S (Q Q' : Slots → Sto → Prop), (∀ r s, Q r s → Q' r s) → g f ρ S Q → g f ρ S Q'
structure PGD (X : Cx) (vs : List Nat) (tg : Expr) (g : DG) : Prop where
  mono : MonoG g
  run : PG X tg (tG X.K vs g)
theorem weakG {t t' : TG} (h : PG X tg t) (k : ∀ v σ H Q, t' v σ H Q → t v σ H Q) : PG X tg t' := ⟨fun pins s σ H v u Q I r q => h.run pins s σ H v u Q I r (k _ _ _ _ q)⟩
def gN (i : Nat) : DG := fun f ρ S Q => Q (ρ.set i (some f)) S
theorem agree_set {vs : List Nat} {i : Nat} (hi : i ∈ vs) (σ : Sig) (v : Option V) : agree vs σ (σ.set i v) := ⟨by rw [List.length_set], fun j hj => by
  have : i ≠ j := fun e => hj (e ▸ hi)
  rw [List.getElem?_set_ne this]⟩
theorem agree.trans {vs : List Nat} {σ σ1 σ2 : Sig} (a : agree vs σ σ1) (b : agree vs σ1 σ2) : agree vs σ σ2 := ⟨a.1.trans b.1, fun j hj => (a.2 j hj).trans (b.2 j hj)⟩
theorem agree.refl {vs : List Nat} {σ : Sig} : agree vs σ σ := ⟨rfl, fun _ _ => rfl⟩
theorem pgd_name {i : Nat} {vs : List Nat} (h : PG X tg (gName i)) (hi : i ∈ vs) : PGD X vs tg (gN i) :=
  ⟨fun _ _ _ _ _ k q => k _ _ q, weakG h fun v σ H Q ⟨f, ρ, S, Z, r, R, d, q⟩ => q _ Z H (agree_set hi σ _) .refl (r.set i d) R⟩
abbrev DGs := List F → Slots → Sto → (Slots → Sto → Prop) → Prop
def tGs (K : PySem.W.Frag) (vs : List Nat) (g : DGs) : TGs := fun v σ H Q => ∃ f ρ S Z, REnv K Z ρ σ ∧ RelS K Z S H ∧ Dens K Z v f ∧ g f ρ S (fun ρ' S' => ∀ σ' Z' H', agree vs σ σ' → Ext Z S H Z' S' H' → REnv K Z' ρ' σ' → RelS K Z' S' H' → Q σ' H')
structure PGDs (X : Cx) (vs : List Nat) (tg : List Expr) (g : DGs) : Prop where
  mono : ∀ f ρ S (Q Q' : Slots → Sto → Prop), (∀ r s, Q r s → Q' r s) → g f ρ S Q → g f ρ S Q'
  run : PGs X tg (tGs X.K vs g)
def gNil2 : DGs := fun fs ρ S Q => fs = [] ∧ Q ρ S
def gCons2 (g : DG) (gs : DGs) : DGs := fun fs ρ S Q => match fs with | f :: r => g f ρ S fun ρ1 S1 => gs r ρ1 S1 Q | [] => False
theorem pgds_nil {vs : List Nat} : PGDs X vs [] gNil2 := ⟨fun _ _ _ _ _ k q => ⟨q.1, k _ _ q.2⟩, ⟨fun pins s σ H v u Q I r ⟨f, ρ, S, Z, re, R, d, hf, q⟩ => by
  subst hf
  cases d
  exact pgs_nil.run pins s σ H [] u Q I r ⟨rfl, q σ Z H .refl .refl re R⟩⟩⟩
theorem pgds_cons {vs : List Nat} {es : List Expr} {g : DG} {gs : DGs} (h1 : PGD X vs e g) (h2 : PGDs X vs es gs)
    (hs : (assignEach (e :: es) X.env).map (·.2) = assign e X.env :: (assignEach es X.env).map (·.2) := by rfl) : PGDs X vs (e :: es) (gCons2 g gs) := by
  refine ⟨fun f ρ S Q Q' k q => ?_, ⟨fun pins s σ H v u Q I r ⟨f, ρ, S, Z, re, R, d, q⟩ => ?_⟩⟩
  · unfold gCons2 at q ⊢
    split at q
    · exact h1.mono _ _ _ _ _ (fun _ _ q => h2.mono _ _ _ _ _ k q) q
    · exact q.elim
  · unfold gCons2 at q
    split at q
    · cases d with
      | cons d1 d2 =>
        refine (pgs_cons h1.run h2.run hs).run pins s σ H _ u Q I r ⟨_, _, rfl, _, ρ, S, Z, re, R, d1, h1.mono _ _ _ _ _ (fun ρ1 S1 q σ1 Z1 H1 a1 e1 r1 R1 => ?_) q⟩
        exact ⟨_, ρ1, S1, Z1, r1, R1, d2.ext e1.z, h2.mono _ _ _ _ _ (fun ρ2 S2 q σ2 Z2 H2 a2 e2 r2 R2 => q σ2 Z2 H2 (a1.trans a2) (e1.trans e2) r2 R2) q⟩
    · exact q.elim
def gTup2 (n : Nat) (gs : DGs) : DG := fun f ρ S Q => match f with | .tup fs => fs.length = n ∧ gs fs ρ S Q | _ => False
theorem pgd_tup {vs : List Nat} {es : List Expr} {k : Nat} {gs : DGs} {n : Nat} (hc : X.calm = true) (h : PGDs X vs es gs)
    (hn : (assignEach es X.env).length = n := by rfl) (hst : (assignEach es X.env).findIdx? (·.1) = none := by rfl) : PGD X vs (.Tuple es k pos) (gTup2 n gs) := by
  refine ⟨fun f ρ S Q Q' k q => ?_, weakG (pg_tup hc h.run hn hst) fun v σ H Q ⟨f, ρ, S, Z, r, R, d, q⟩ => ?_⟩
  · unfold gTup2 at q ⊢
    split at q
    · exact ⟨q.1, h.mono _ _ _ _ _ k q.2⟩
    · exact q.elim
  · unfold gTup2 at q
    split at q
    · obtain ⟨a, us, rfl, h1, h2⟩ := tup_of R d
      exact ⟨a, us, rfl, h1, by rw [h2.length]; exact q.1, _, ρ, S, Z, r, R, h2, q.2⟩
    · exact q.elim

/-! ### list comprehensions, one clause -/
def wipeF (ρ : Slots) : List Nat → Slots
  | [] => ρ
  | v :: vs => (wipeF ρ vs).set v none
theorem wipeF_length (ρ : Slots) : ∀ vs : List Nat, (wipeF ρ vs).length = ρ.length
  | [] => rfl
  | v :: vs => by unfold wipeF; rw [List.length_set, wipeF_length ρ vs]
theorem wipe_at {σ : Sig} {j : Nat} : ∀ {vs : List Nat}, j ∉ vs → (wipe σ vs)[j]? = σ[j]?
  | [], _ => rfl
  | v :: vs, h => by
    simp only [List.mem_cons, not_or] at h
    unfold wipe
    rw [List.getElem?_set_ne (Ne.symm h.1)]
    exact wipe_at h.2
theorem wipeF_some {ρ : Slots} {i : Nat} {x : F} : ∀ {vs : List Nat}, (wipeF ρ vs)[i]? = some (some x) → ρ[i]? = some (some x) ∧ i ∉ vs
  | [], h => ⟨h, by simp⟩
  | v :: vs, h => by
    unfold wipeF at h
    by_cases hi : v = i
    · subst hi
      by_cases hv : v < (wipeF ρ vs).length
      · rw [List.getElem?_set_self hv] at h; cases h
      · rw [List.getElem?_eq_none (by simpa using hv)] at h; cases h
    · rw [List.getElem?_set_ne hi] at h
      obtain ⟨h1, h2⟩ := wipeF_some h
      exact ⟨h1, by simp only [List.mem_cons, not_or]; exact ⟨fun e => hi e.symm, h2⟩⟩
theorem REnv.wipe {K : PySem.W.Frag} {Z : Hp} {ρ : Slots} {σ : Sig} (r : REnv K Z ρ σ) (vs : List Nat) : REnv K Z (wipeF ρ vs) (L2.wipe σ vs) :=
  ⟨by rw [wipeF_length, wipe_length, r.len], fun i f e => by
    obtain ⟨h1, h2⟩ := wipeF_some e
    obtain ⟨v, e1, d⟩ := r.at_ i f h1
    exact ⟨v, by rw [wipe_at h2]; exact e1, d⟩⟩
theorem wipe_in {σ : Sig} {j : Nat} : ∀ {vs : List Nat}, j ∈ vs → (L2.wipe σ vs)[j]? = if j < σ.length then some none else none
  | v :: vs, h => by
    unfold L2.wipe
    by_cases hj : v = j
    · subst hj
      split
      · rw [List.getElem?_set_self (by rw [wipe_length]; assumption)]
      · rw [List.getElem?_eq_none (by rw [List.length_set, wipe_length]; omega)]
    · rw [List.getElem?_set_ne hj]
      rcases List.mem_cons.mp h with rfl | h
      · exact absurd rfl hj
      · exact wipe_in h
theorem wipe_agree {vs : List Nat} {σ σ' : Sig} (h : agree vs (L2.wipe σ vs) σ') : L2.wipe σ' vs = L2.wipe σ vs := by
  obtain ⟨hl, h⟩ := h
  have hlen : σ.length = σ'.length := by rw [← hl, wipe_length]
  apply List.ext_getElem?
  intro j
  by_cases hj : j ∈ vs
  · rw [wipe_in hj, wipe_in hj, hlen]
  · rw [wipe_at hj, ← h j hj]
def compL (gd : Sto → Prop) (g : DG) (mt : W Bool) (me : W F) (ρ : Slots) : List F → List F → Sto → (List F → Sto → Prop) → Prop
  | [], acc, S, Q => gd S ∧ Q acc S
  | x :: r, acc, S, Q => gd S ∧ g x ρ S fun ρ2 S2 => mt ρ2 S2 fun b S3 => if b = true then me ρ2 S3 fun y S4 => compL gd g mt me ρ r (acc ++ [y]) S4 Q else compL gd g mt me ρ r acc S3 Q
theorem mono_compL {gd : Sto → Prop} {g : DG} {mt : W Bool} {me : W F} (hg : MonoG g) (ht : Mono mt) (he : Mono me) {ρ : Slots} {Q Q' : List F → Sto → Prop} (k : ∀ d S', Q d S' → Q' d S') : ∀ (xs acc : List F) (S : Sto), compL gd g mt me ρ xs acc S Q → compL gd g mt me ρ xs acc S Q'
  | [], acc, S, h => ⟨h.1, k _ _ h.2⟩
  | x :: r, acc, S, h => ⟨h.1, hg _ _ _ _ _ (fun ρ2 S2 h => ht _ _ _ _ (fun b S3 h => by
    cases b with
    | true => exact he _ _ _ _ (fun y S4 h => mono_compL hg ht he k r _ _ h) h
    | false => exact mono_compL hg ht he k r _ _ h) h) h.2⟩
def wComp (own : List Nat) (mi : W ItD) (g : DG) (mt : W Bool) (me : W F) : W (List F) := fun ρ S Q => mi ρ S fun it S1 => it.items.length ≤ sizeLine ∧ compL it.gd g mt me (wipeF ρ own) it.items [] S1 Q
theorem mono_wComp {own : List Nat} {mi : W ItD} {g : DG} {mt : W Bool} {me : W F} (hi : Mono mi) (hg : MonoG g) (ht : Mono mt) (he : Mono me) : Mono (wComp own mi g mt me) := fun _ _ _ _ k h =>
  hi _ _ _ _ (fun it S1 h => ⟨h.1, mono_compL hg ht he k _ _ _ h.2⟩) h
theorem Ext.build {Z S H Z' S' H'} (e : Ext Z S H Z' S' H') {D : Addr} (h : H D = none) (o : HO) : Ext Z S H Z' S' (upd H' D o) := ⟨e.z, fun a u q hs => by
  rw [upd_ne (ne_of_none q h)]
  exact e.h a u q hs, fun a q => e.d a (upd_none q)⟩
theorem RelS.build {K : PySem.W.Frag} {Z S H} (r : RelS K Z S H) {D : Addr} (hz : Z D = none) (hs : S D = none) (o : HO) : RelS K Z S (upd H D o) := ⟨fun a u q => by
  rw [upd_ne (ne_of_none q hz)]
  exact r.z a u q, fun a fs q => by
  obtain ⟨vs, e, d⟩ := r.s a fs q
  have : a ≠ D := fun z => by subst z; rw [hs] at q; cases q
  exact ⟨vs, by rw [upd_ne this]; exact e, d⟩⟩
/-- the tests of a clause -/
structure PTsD (X : Cx) (ifs : List Expr) (m : W Bool) : Prop where
  mono : Mono m
  run : PTs X ifs (tB2 X.K m)
def wYes : W Bool := fun _ S Q => Q true S
theorem ptsd_nil : PTsD X [] wYes := ⟨fun _ _ _ _ k h => k _ _ h, ⟨fun pins s σ H Q I ⟨ρ, S, Z, r, R, h⟩ => pts_nil.run pins s σ H Q I (h Z H .refl R)⟩⟩
theorem ptsd_one {c : Expr} {mt : W Bool} (h : PB X c mt) : PTsD X [c] mt := ⟨h.mono, pts_one h.run⟩
theorem comp_in {K : PySem.W.Frag} {own : List Nat} {mi : W ItD} {g : DG} {mt : W Bool} {me : W F} (hi : Mono mi) (hg : MonoG g) (ht : Mono mt) (he : Mono me) {σ : Sig} {H : Hp} {Q : VK} (h : tL K (wComp own mi g mt me) σ H Q) :
    tLc (tI K mi) (tG K own g) (tB2 K mt) (tD K me) own σ H Q := by
  obtain ⟨ρ, S, Z, r, R, h⟩ := h
  refine ⟨ρ, S, Z, r, R, hi _ _ _ _ (fun it S1 p J Z1 H1 e1 R1 wk D hD => ?_) h⟩
  obtain ⟨hlen, p⟩ := p
  have hD0 : H D = none := e1.d D hD
  refine ⟨fun i m Hc => ∃ Z2 S2 accV acc, m = it.items.length - i ∧ i ≤ it.items.length ∧ RelS K Z2 S2 Hc ∧ Ext Z S H Z2 S2 Hc ∧ (∀ a o, Z1 a = some o → Z2 a = some o) ∧ Hc D = some (.lst accV) ∧ Z2 D = none ∧ S2 D = none ∧ Dens K Z2 accV acc ∧ acc.length ≤ i ∧
      compL it.gd g mt me (wipeF ρ own) (it.items.drop i) acc S2 (LFin K Z S H Q), ⟨_, Z1, S1, [], [], rfl, Nat.zero_le _, R1.build (R1.nz hD) (R1.ns hD) _, e1.build hD0 _, fun _ _ q => q, upd_same, R1.nz hD, R1.ns hD, .nil, Nat.le_refl _, p⟩, ?_⟩
  rintro i m Hc ⟨Z2, S2, accV, acc, rfl, hi2, R2, e2, z12, hDc, hZ2, hS2, dacc, hal, p⟩
  by_cases hlt : i < it.items.length
  · have hx : it.items[i]? = some it.items[i] := List.getElem?_eq_getElem hlt
    rw [List.drop_eq_getElem_cons hlt] at p
    obtain ⟨gdS, p⟩ := p
    obtain ⟨go, yl⟩ := wk.go Z2 S2 Hc i _ z12 R2 gdS hx
    refine .inr ⟨go, _, fun H' q => q, fun x H3 y => ?_⟩
    obtain ⟨Z3, e3, R3, d3⟩ := yl x H3 y
    refine ⟨_, wipeF ρ own, S2, Z3, ((r.ext (e2.trans e3).z).wipe own), R3, d3, hg _ _ _ _ _ (fun ρ4 S4 p σ4 Z4 H4 a4 e4 r4 R4 => ?_) p⟩
    refine ⟨wipe_agree a4, ρ4, S4, Z4, r4, R4, ht _ _ _ _ (fun b S5 p Z5 H5 e5 R5 => ?_) p⟩
    have keepD : ∀ {Z6 S6 H6}, Ext Z2 S2 Hc Z6 S6 H6 → H6 D = some (.lst accV) ∧ S6 D = none ∧ Z6 D = none := fun e => by
      obtain ⟨q1, q2, q3⟩ := e.h D _ hDc hS2
      exact ⟨q1, q2, q3.trans hZ2⟩
    cases b with
    | true =>
      rw [if_pos rfl] at p
      refine iteT ?_
      refine ⟨ρ4, S5, Z5, r4.ext e5.z, R5, he _ _ _ _ (fun yv S6 p v6 Z6 H6 e6 R6 d6 => ?_) p⟩
      have ee := e3.trans (e4.trans (e5.trans e6))
      obtain ⟨k1, k2, k3⟩ := keepD ee
      have dl := dacc.length
      refine ⟨accV, k1, by omega, it.items.length - (i + 1), by omega, Z6, S6, accV ++ [v6], acc ++ [yv], rfl, by omega, R6.build k3 k2 _, (e2.trans ee).build hD0 _, fun a o q => ee.z a o (z12 a o q), upd_same, k3, k2, (dacc.ext ee.z).append (.cons d6 .nil), by rw [List.length_append]; simp only [List.length_cons, List.length_nil]; omega, p⟩
    | false =>
      rw [if_neg Bool.false_ne_true] at p
      refine iteF ?_
      have ee := e3.trans (e4.trans e5)
      obtain ⟨k1, k2, k3⟩ := keepD ee
      exact ⟨it.items.length - (i + 1), by omega, Z5, S5, accV, acc, rfl, by omega, R5, e2.trans ee, fun a o q => ee.z a o (z12 a o q), k1, k3, k2, dacc.ext ee.z, by omega, p⟩
  · have ei : i = it.items.length := by omega
    subst ei
    rw [List.drop_length] at p
    obtain ⟨gdS, p⟩ := p
    exact .inl ⟨wk.stop Z2 S2 Hc _ z12 R2 gdS (Nat.le_refl _), p D accV Z2 Hc e2 R2 hD0 hDc hZ2 hS2 dacc⟩
variable {elt iter : Expr} {ifs : List Expr} {scope : Scope}
theorem pl_lc {own : List (Str × Nat)} {mi : W ItD} {g : DG} {mt : W Bool} {me : W F} (hc : X.calm = true) (hN : X.N.Nodup) (hi : PID X tg iter mi) (ok : BlkOk X.N X.env.scope scope own)
    (hg : ∀ (s : Shared) (H : Hp) (C : Addr) (cl : List (Str × Addr)) (fp : List Addr), PGD (X.blk s H scope (compEnvC scope cl C X.env) fp) (own.map (·.2)) tg g) (ht : ∀ (s : Shared) (H : Hp) (C : Addr) (cl : List (Str × Addr)) (fp : List Addr), PTsD (X.blk s H scope (compEnvC scope cl C X.env) fp) ifs mt)
    (he : ∀ (s : Shared) (H : Hp) (C : Addr) (cl : List (Str × Addr)) (fp : List Addr), PD (X.blk s H scope (compEnvC scope cl C X.env) fp) elt me) (hs : ∀ x, foldedSetIterable iter X.env x = pure x := by intro _; rfl) :
    PL X (.ListComp elt [⟨tg, iter, ifs, 0⟩] scope pos) (wComp (own.map (·.2)) mi g mt me) :=
  have s0 : Shared := X.s_0
  ⟨mono_wComp hi.mono (hg s0 X.H_0 0 [] []).mono (ht s0 X.H_0 0 [] []).mono (he s0 X.H_0 0 [] []).mono,
   weakE (pe_lc hc hN hi.run ok (fun s H C cl fp => (hg s H C cl fp).run) (fun s H C cl fp => (ht s H C cl fp).run) (fun s H C cl fp => (he s H C cl fp).run) hs)
    fun _ _ _ h => comp_in hi.mono (hg s0 X.H_0 0 [] []).mono (ht s0 X.H_0 0 [] []).mono (he s0 X.H_0 0 [] []).mono h⟩
end
end DL

set_option maxHeartbeats 4000000
namespace DL
open PySem PySem.Spec PyProof.Rows L2

/-! ### calls of defs -/
abbrev Ct := DCall
def spC (K : PySem.W.Frag) (C : Ct) : Sp := fun vs H Q _ => ∃ fs S Z, Dens K Z vs fs ∧ RelS K Z S H ∧ C fs S (DFin K Z S H Q)
structure FnD (P : Program) (w : World) (K : PySem.W.Frag) (mg : Str → Option Value) (base : Heap) (k : Nat) (f : Addr) (fd : FuncData) (ps : List Str) (C : Ct) : Prop where
  mono : MonoC C
  ok : FnOk P w K mg base CX0 k f fd ps (spC K C)
section
variable {X : Cx} {e : Expr} {es : List Expr} {p pos : Pos} {x : Str} {ms : W (List F)} {m : W F}
variable {k : Nat} {f : Addr} {fd : FuncData} {ps : List Str} {C : Ct}
theorem pd_call (G : FnD X.prog X.w X.K X.mg X.base k f fd ps C) (hr : Room k X.A) (hg : Gl X x) (hm : X.mg x = some (.ref f)) (hk : PySem.W.keepIn X.K (.ref f) = true) (hb : Binds X.K fd ps []) (ha : PDs X (e :: es) ms) (hdb : (x == ("__debug__" : Str)) = false := by decide)
    (hs : starEach (e :: es) X.env = (false, eval e X.env) :: starEach es X.env := by rfl) (hplain : (backTo pos (starEach es X.env)).any (·.1) = false := by rfl) : PD X (.Call (.Name x p) (e :: es) [] pos) (wCall C ms) :=
  ⟨mono_wCall G.mono ha.mono, weakE (pe_call G.ok hr hg hm hk hb .nil pass0 ha.run hdb hs hplain) fun σ H Q ⟨ρ, S, Z, r, R, h⟩ => by
    refine tDs_in ha.mono r R h fun xs S1 vs Z1 H1 p e1 R1 d1 => ?_
    refine ⟨xs, S1, Z1, by rw [List.append_nil]; exact d1, R1, G.mono _ _ _ _ (fun z S2 q v Z' H' e2 R2 d2 => q v Z' H' (e1.trans e2) R2 d2) p⟩⟩
theorem FnD.lift {P : Program} {w : World} {K : PySem.W.Frag} {mg : Str → Option Value} {base : Heap} (G : FnD P w K mg base k f fd ps C) {j : Nat} (h : k ≤ j) : FnD P w K mg base j f fd ps C := ⟨G.mono, G.ok.mono h⟩
/-- a weaker contract -/
theorem FnD.imp {P : Program} {w : World} {K : PySem.W.Frag} {mg : Str → Option Value} {base : Heap} {C' : Ct} (G : FnD P w K mg base k f fd ps C) (hm : MonoC C') (h : ∀ fs S Q, C' fs S Q → C fs S Q) : FnD P w K mg base k f fd ps C' :=
  ⟨hm, G.ok.imp fun vs H Q E ⟨fs, S, Z, d, R, q⟩ => ⟨fs, S, Z, d, R, h _ _ _ q⟩⟩

/-! ### statements -/
structure EndsD where
  nx : Slots → Sto → Prop
  rt : F → Sto → Prop
  bk : Slots → Sto → Prop := fun _ _ => False
  ct : Slots → Sto → Prop := fun _ _ => False
structure EndsD.le (D D' : EndsD) : Prop where
  nx : ∀ r s, D.nx r s → D'.nx r s
  rt : ∀ r s, D.rt r s → D'.rt r s
  bk : ∀ r s, D.bk r s → D'.bk r s
  ct : ∀ r s, D.ct r s → D'.ct r s
abbrev WS := EndsD → Slots → Sto → Prop
def MonoS (m : WS) : Prop := ∀ D D' ρ S, m D ρ S → D.le D' → m D' ρ S
abbrev EFin (K : PySem.W.Frag) (Z : Hp) (S : Sto) (H : Hp) (D : Ends) : EndsD where
  nx := fun ρ' S' => ∀ σ' Z' H', Ext Z S H Z' S' H' → REnv K Z' ρ' σ' → RelS K Z' S' H' → D.nx σ' H'
  rt := fun d S' => ∀ v Z' H', Ext Z S H Z' S' H' → RelS K Z' S' H' → Den K Z' v d → D.rt v H'
  bk := fun ρ' S' => ∀ σ' Z' H', Ext Z S H Z' S' H' → REnv K Z' ρ' σ' → RelS K Z' S' H' → D.bk σ' H'
  ct := fun ρ' S' => ∀ σ' Z' H', Ext Z S H Z' S' H' → REnv K Z' ρ' σ' → RelS K Z' S' H' → D.ct σ' H'
def tS (K : PySem.W.Frag) (m : WS) : TS := fun D σ H => ∃ ρ S Z, REnv K Z ρ σ ∧ RelS K Z S H ∧ m (EFin K Z S H D) ρ S
structure PSD (X : Cx) (st : Stmt) (m : WS) : Prop where
  mono : MonoS m
  run : PS X st (tS X.K m)
structure PSsD (X : Cx) (st : List Stmt) (m : WS) : Prop where
  mono : MonoS m
  run : PSs X st (tS X.K m)
theorem weakS {st : Stmt} {t t' : TS} (h : PS X st t) (k : ∀ D σ H, t' D σ H → t D σ H) : PS X st t' := ⟨fun pins s σ H D I q => h.run pins s σ H D I (k D σ H q)⟩
theorem weakSs {st : List Stmt} {t t' : TS} (h : PSs X st t) (k : ∀ D σ H, t' D σ H → t D σ H) : PSs X st t' := ⟨fun pins s σ H D I q => h.run pins s σ H D I (k D σ H q)⟩
/-- the ends as seen from a later world -/
theorem efin_ext {K : PySem.W.Frag} {Z Z1 H H1 : Hp} {S S1 : Sto} {D : Ends} (e1 : Ext Z S H Z1 S1 H1) : (EFin K Z S H D).le (EFin K Z1 S1 H1 D) :=
  ⟨fun r s q σ' Z' H' e => q σ' Z' H' (e1.trans e), fun r s q v Z' H' e => q v Z' H' (e1.trans e), fun r s q σ' Z' H' e => q σ' Z' H' (e1.trans e), fun r s q σ' Z' H' e => q σ' Z' H' (e1.trans e)⟩
def sNext : WS := fun D ρ S => D.nx ρ S
def sSeq (t u : WS) : WS := fun D ρ S => t { D with nx := u D } ρ S
theorem mono_sSeq {t u : WS} (ht : MonoS t) (hu : MonoS u) : MonoS (sSeq t u) := fun D D' ρ S h l => ht _ _ _ _ h ⟨fun r s q => hu _ _ _ _ q l, l.rt, l.bk, l.ct⟩
theorem pssd_nil : PSsD X [] sNext := ⟨fun D D' ρ S h l => l.nx _ _ h, weakSs pss_nil fun D σ H ⟨ρ, S, Z, r, R, h⟩ => h σ Z H .refl r R⟩
theorem sseq_in {K : PySem.W.Frag} {t u : WS} (ht : MonoS t) (hu : MonoS u) {D : Ends} {σ : Sig} {H : Hp} (h : tS K (sSeq t u) D σ H) : tSeq (tS K t) (tS K u) D σ H := by
  obtain ⟨ρ, S, Z, r, R, h⟩ := h
  refine ⟨ρ, S, Z, r, R, ht _ _ _ _ h ⟨fun ρ1 S1 q σ1 Z1 H1 e1 r1 R1 => ?_, fun _ _ q => q, fun _ _ q => q, fun _ _ q => q⟩⟩
  exact ⟨ρ1, S1, Z1, r1, R1, hu _ _ _ _ q (efin_ext e1)⟩
theorem pssd_cons {st : Stmt} {rest : List Stmt} {t u : WS} (h1 : PSD X st t) (h2 : PSsD X rest u) : PSsD X (st :: rest) (sSeq t u) :=
  ⟨mono_sSeq h1.mono h2.mono, weakSs (pss_cons h1.run h2.run) fun D σ H h => sseq_in h1.mono h2.mono h⟩
theorem pssd_one {st : Stmt} {t : WS} (h1 : PSD X st t) : PSsD X [st] t := ⟨h1.mono, pss_one h1.run⟩
def sBreak : WS := fun D ρ S => D.bk ρ S
def sCont : WS := fun D ρ S => D.ct ρ S
theorem psd_pass : PSD X (.Pass pos) sNext := ⟨fun D D' ρ S h l => l.nx _ _ h, weakS ps_pass fun D σ H ⟨ρ, S, Z, r, R, h⟩ => h σ Z H .refl r R⟩
theorem psd_break : PSD X (.Break pos) sBreak := ⟨fun D D' ρ S h l => l.bk _ _ h, weakS ps_break fun D σ H ⟨ρ, S, Z, r, R, h⟩ => h σ Z H .refl r R⟩
theorem psd_continue : PSD X (.Continue pos) sCont := ⟨fun D D' ρ S h l => l.ct _ _ h, weakS ps_continue fun D σ H ⟨ρ, S, Z, r, R, h⟩ => h σ Z H .refl r R⟩
def sExpr (m : W F) : WS := fun D ρ S => m ρ S fun _ S1 => D.nx ρ S1
theorem psd_expr (he : PD X e m) (hs : swapsWith e none pos.line X.env = pure false := by rfl) : PSD X (.Expr e pos) (sExpr m) :=
  ⟨fun D D' ρ S h l => he.mono _ _ _ _ (fun _ _ q => l.nx _ _ q) h, weakS (ps_expr he.run hs) fun D σ H ⟨ρ, S, Z, r, R, h⟩ =>
    tD_in he.mono r R h fun y S1 v1 Z1 H1 q e1 R1 d1 => q σ Z1 H1 e1 (r.ext e1.z) R1⟩
def sRet (m : W F) : WS := fun D ρ S => m ρ S fun d S1 => D.rt d S1
theorem psd_ret (he : PD X e m) : PSD X (.Return (some e) pos) (sRet m) :=
  ⟨fun D D' ρ S h l => he.mono _ _ _ _ (fun _ _ q => l.rt _ _ q) h, weakS (ps_ret he.run) fun D σ H ⟨ρ, S, Z, r, R, h⟩ =>
    tD_in he.mono r R h fun y S1 v1 Z1 H1 q e1 R1 d1 => q v1 Z1 H1 e1 R1 d1⟩
def sRetN : WS := fun D ρ S => D.rt .non S
theorem psd_retN : PSD X (.Return none pos) sRetN := ⟨fun D D' ρ S h l => l.rt _ _ h, weakS ps_retN fun D σ H ⟨ρ, S, Z, r, R, h⟩ => h .non Z H .refl R .non⟩
def sIf (mt : W Bool) (t u : WS) : WS := fun D ρ S => mt ρ S fun b S1 => if b = true then t D ρ S1 else u D ρ S1
theorem psd_if {c : Expr} {a b : List Stmt} {mt : W Bool} {t u : WS} (hc : PB X c mt) (ha : PSsD X a t) (hb : PSsD X b u) : PSD X (.If c a b pos) (sIf mt t u) :=
  ⟨fun D D' ρ S h l => hc.mono _ _ _ _ (fun b S1 q => by
    cases b with
    | true => exact ha.mono _ _ _ _ q l
    | false => exact hb.mono _ _ _ _ q l) h, weakS (ps_if hc.run ha.run hb.run) fun D σ H ⟨ρ, S, Z, r, R, h⟩ => by
    refine tB_in hc.mono r R h fun b S1 Z1 H1 q e1 R1 => ?_
    cases b with
    | true => exact iteT ⟨ρ, S1, Z1, r.ext e1.z, R1, ha.mono _ _ _ _ q (efin_ext e1)⟩
    | false => exact iteF ⟨ρ, S1, Z1, r.ext e1.z, R1, hb.mono _ _ _ _ q (efin_ext e1)⟩⟩
/-- target = value -/
def sAsg (m : W F) (g : DG) : WS := fun D ρ S => m ρ S fun d S1 => g d ρ S1 D.nx
theorem asg_in {K : PySem.W.Frag} {vs : List Nat} {g : DG} {m : W F} (hm : Mono m) (hg : MonoG g) {D : Ends} {σ : Sig} {H : Hp} (h : tS K (sAsg m g) D σ H) : tAsg (tD K m) (tG K vs g) D σ H := by
  obtain ⟨ρ, S, Z, r, R, h⟩ := h
  refine tD_in hm r R h fun y S1 v1 Z1 H1 q e1 R1 d1 => ?_
  exact ⟨y, ρ, S1, Z1, r.ext e1.z, R1, d1, hg _ _ _ _ _ (fun ρ' S' q σ' Z' H' _ e2 r2 R2 => q σ' Z' H' (e1.trans e2) r2 R2) q⟩
theorem mono_sAsg {g : DG} (hm : Mono m) (hg : MonoG g) : MonoS (sAsg m g) := fun D D' ρ S h l => hm _ _ _ _ (fun _ _ q => hg _ _ _ _ _ l.nx q) h
theorem psd_asg {tg : Expr} {vs : List Nat} {g : DG} (he : PD X e m) (hg : PGD X vs tg g) (hs : swapsWithSole [tg] e pos.line X.env = pure false := by rfl) (hw : swappedStores [tg] e X.env = pure none := by rfl)
    (h1 : (assignEach [tg] X.env).map (·.2) = [assign tg X.env] := by rfl) : PSD X (.Assign [tg] e pos) (sAsg m g) :=
  ⟨mono_sAsg he.mono hg.mono, weakS (ps_asg he.run hg.run hs hw h1) fun D σ H h => asg_in he.mono hg.mono h⟩
theorem gName_in {K : PySem.W.Frag} {i : Nat} : ∀ v σ H Q, tG K [i] (gN i) v σ H Q → gName i v σ H Q := fun v σ H Q ⟨f, ρ, S, Z, r, R, d, q⟩ => q _ Z H (agree_set (List.mem_cons_self ..) σ _) .refl (r.set i d) R
theorem mono_gN {i : Nat} : MonoG (gN i) := fun _ _ _ _ _ k q => k _ _ q
theorem psd_set {i : Nat} {pos' : Pos} (hN : X.N.Nodup) (hi : X.N[i]? = some x) (hx : Loc X.env.scope x) (he : PD X e m) (hs : swapsWith e (some (.Name x pos')) pos.line X.env = pure false := by rfl) (hf : X.fn x = true ∨ X.env.scope.names.lookup x = some .local := by first | exact .inl rfl | exact .inr rfl | assumption) :
    PSD X (.Assign [.Name x pos'] e pos) (sAsg m (gN i)) :=
  ⟨mono_sAsg he.mono mono_gN, weakS (ps_set hN hi hx he.run hs hf) fun D σ H ⟨ρ, S, Z, r, R, h⟩ => by
    refine tD_in he.mono r R h fun y S1 v1 Z1 H1 q e1 R1 d1 => ?_
    exact q _ Z1 H1 e1 ((r.ext e1.z).set i d1) R1⟩
/-- a, b = x, y (plain local names) -/
def sPar (is : List Nat) (ms : W (List F)) : WS := fun D ρ S => ms ρ S fun xs S1 => xs.length = is.length ∧ D.nx ((is.zip xs).foldl (fun r p => r.set p.1 (some p.2)) ρ) S1
theorem psd_par {i j : Nat} {x y : Str} {a b : Expr} {px py pt : Pos} {kt k2 pt2} (hc : X.calm = true) (hN : X.N.Nodup) (hi : X.N[i]? = some x) (hj : X.N[j]? = some y) (hij : i ≠ j)
    (hx : X.env.scope.names.lookup x = some .local) (hy : X.env.scope.names.lookup y = some .local) (ha : PDs X [a, b] ms)
    (hw : swappedStores [.Tuple [.Name x px, .Name y py] kt pt] (.Tuple [a, b] k2 pt2) X.env = pure (some [x, y]))
    (hs : swapsWithSole [.Tuple [.Name x px, .Name y py] kt pt] (.Tuple [a, b] k2 pt2) pos.line X.env = pure false := by rfl) :
    PSD X (.Assign [.Tuple [.Name x px, .Name y py] kt pt] (.Tuple [a, b] k2 pt2) pos) (sPar [i, j] ms) :=
  ⟨fun D D' ρ S h l => ha.mono _ _ _ _ (fun _ _ q => ⟨q.1, l.nx _ _ q.2⟩) h, weakS (ps_par hc hN hi hj hij hx hy ha.run hw hs) fun D σ H ⟨ρ, S, Z, r, R, h⟩ => by
    refine tDs_in ha.mono r R h fun xs S1 vs Z1 H1 q e1 R1 d1 => ?_
    match xs, q, d1 with
    | [u, v], q, d1 =>
      obtain ⟨v1, v2, rfl, d1, d2⟩ := dens2 d1
      exact ⟨v1, v2, rfl, q.2 _ Z1 H1 e1 (((r.ext e1.z).set i d1).set j d2) R1⟩⟩
theorem psd_par3 {i j l : Nat} {x y z : Str} {a b c : Expr} {px py pz pt : Pos} {kt k2 pt2} (hc : X.calm = true) (hN : X.N.Nodup) (hi : X.N[i]? = some x) (hj : X.N[j]? = some y) (hl : X.N[l]? = some z) (hij : i ≠ j) (hil : i ≠ l) (hjl : j ≠ l)
    (hx : X.env.scope.names.lookup x = some .local) (hy : X.env.scope.names.lookup y = some .local) (hz : X.env.scope.names.lookup z = some .local) (ha : PDs X [a, b, c] ms)
    (hw : swappedStores [.Tuple [.Name x px, .Name y py, .Name z pz] kt pt] (.Tuple [a, b, c] k2 pt2) X.env = pure (some [x, y, z]))
    (hs : swapsWithSole [.Tuple [.Name x px, .Name y py, .Name z pz] kt pt] (.Tuple [a, b, c] k2 pt2) pos.line X.env = pure false := by rfl) :
    PSD X (.Assign [.Tuple [.Name x px, .Name y py, .Name z pz] kt pt] (.Tuple [a, b, c] k2 pt2) pos) (sPar [i, j, l] ms) :=
  ⟨fun D D' ρ S h l => ha.mono _ _ _ _ (fun _ _ q => ⟨q.1, l.nx _ _ q.2⟩) h, weakS (ps_par3 hc hN hi hj hl hij hil hjl hx hy hz ha.run hw hs) fun D σ H ⟨ρ, S, Z, r, R, h⟩ => by
    refine tDs_in ha.mono r R h fun xs S1 vs Z1 H1 q e1 R1 d1 => ?_
    match xs, q, d1 with
    | [u, v, w], q, d1 =>
      cases d1 with
      | cons d0 d1 =>
        obtain ⟨v1, v2, rfl, d1, d2⟩ := dens2 d1
        exact ⟨_, v1, v2, rfl, q.2 _ Z1 H1 e1 ((((r.ext e1.z).set i d0).set j d1).set l d2) R1⟩⟩
theorem mono_wFrz {n : W (List F)} (h : Mono n) : Mono (wFrz n) := fun _ _ _ _ k q => h _ _ _ _ (fun xs S1 q => k _ _ q) q
theorem mono_wOwn {n : W (List F)} (h : Mono n) : Mono (wOwn n) := fun _ _ _ _ k q => h _ _ _ _ (fun xs S1 q p hp => k _ _ (q p hp)) q
/-- name = [..], the name a local: kept as it is, or as one that changes -/
theorem psd_setLcF {i : Nat} {y : Str} {py : Pos} {elt tg iter : Expr} {ifs : List Expr} {scope : Scope} {own : List (Str × Nat)} {spos : Pos} {mi : W ItD} {g : DG} {mt : W Bool} {me : W F} (hc : X.calm = true) (hN : X.N.Nodup) (hy : X.N[i]? = some y) (hyl : X.env.scope.names.lookup y = some .local)
    (hsw : swapsWith (.ListComp elt [⟨tg, iter, ifs, 0⟩] scope pos) (some (.Name y py)) spos.line X.env = pure true) (hi : PID X tg iter mi) (ok : BlkOk X.N X.env.scope scope own)
    (hg : ∀ (s : Shared) (H : Hp) (C : Addr) (cl : List (Str × Addr)) (fp : List Addr), PGD (X.blk s H scope (compEnvC scope cl C X.env) fp) (own.map (·.2)) tg g) (ht : ∀ (s : Shared) (H : Hp) (C : Addr) (cl : List (Str × Addr)) (fp : List Addr), PTsD (X.blk s H scope (compEnvC scope cl C X.env) fp) ifs mt)
    (he : ∀ (s : Shared) (H : Hp) (C : Addr) (cl : List (Str × Addr)) (fp : List Addr), PD (X.blk s H scope (compEnvC scope cl C X.env) fp) elt me) (hs : ∀ x, foldedSetIterable iter X.env x = pure x := by intro _; rfl) :
    PSD X (.Assign [.Name y py] (.ListComp elt [⟨tg, iter, ifs, 0⟩] scope pos) spos) (sAsg (wFrz (wComp (own.map (·.2)) mi g mt me)) (gN i)) :=
  have s0 : Shared := X.s_0
  have mm := mono_wComp (own := own.map (·.2)) hi.mono (hg s0 X.H_0 0 [] []).mono (ht s0 X.H_0 0 [] []).mono (he s0 X.H_0 0 [] []).mono
  ⟨mono_sAsg (mono_wFrz mm) mono_gN,
   weakS (ps_setLc hc hN hy hyl hsw hi.run ok (fun s H C cl fp => (hg s H C cl fp).run) (fun s H C cl fp => (ht s H C cl fp).run) (fun s H C cl fp => (he s H C cl fp).run) hs)
    fun D σ H ⟨ρ, S, Z, r, R, h⟩ => by
      refine comp_in hi.mono (hg s0 X.H_0 0 [] []).mono (ht s0 X.H_0 0 [] []).mono (he s0 X.H_0 0 [] []).mono (tL_in mm r R h fun xs S1 p vs Z1 H1 q e1 R1 n1 n2 n3 n4 d => ?_)
      refine q (σ.set i (some (.ref p))) (upd Z1 p (.lst vs)) H1 ?_ (((r.ext e1.z).ext (upd_ext n3)).set i (den_newLst n3 d)) (R1.freeze n2 n3 n4)
      refine ⟨fun a o h => upd_ext n3 a o (e1.z a o h), fun a o h hs => ?_, e1.d⟩
      obtain ⟨q1, q2, q3⟩ := e1.h a o h hs
      exact ⟨q1, q2, by rw [upd_ne (ne_of_none h n1)]; exact q3⟩⟩
theorem psd_setLcO {i : Nat} {y : Str} {py : Pos} {elt tg iter : Expr} {ifs : List Expr} {scope : Scope} {own : List (Str × Nat)} {spos : Pos} {mi : W ItD} {g : DG} {mt : W Bool} {me : W F} (hc : X.calm = true) (hN : X.N.Nodup) (hy : X.N[i]? = some y) (hyl : X.env.scope.names.lookup y = some .local)
    (hsw : swapsWith (.ListComp elt [⟨tg, iter, ifs, 0⟩] scope pos) (some (.Name y py)) spos.line X.env = pure true) (hi : PID X tg iter mi) (ok : BlkOk X.N X.env.scope scope own)
    (hg : ∀ (s : Shared) (H : Hp) (C : Addr) (cl : List (Str × Addr)) (fp : List Addr), PGD (X.blk s H scope (compEnvC scope cl C X.env) fp) (own.map (·.2)) tg g) (ht : ∀ (s : Shared) (H : Hp) (C : Addr) (cl : List (Str × Addr)) (fp : List Addr), PTsD (X.blk s H scope (compEnvC scope cl C X.env) fp) ifs mt)
    (he : ∀ (s : Shared) (H : Hp) (C : Addr) (cl : List (Str × Addr)) (fp : List Addr), PD (X.blk s H scope (compEnvC scope cl C X.env) fp) elt me) (hs : ∀ x, foldedSetIterable iter X.env x = pure x := by intro _; rfl) :
    PSD X (.Assign [.Name y py] (.ListComp elt [⟨tg, iter, ifs, 0⟩] scope pos) spos) (sAsg (wOwn (wComp (own.map (·.2)) mi g mt me)) (gN i)) :=
  have s0 : Shared := X.s_0
  have mm := mono_wComp (own := own.map (·.2)) hi.mono (hg s0 X.H_0 0 [] []).mono (ht s0 X.H_0 0 [] []).mono (he s0 X.H_0 0 [] []).mono
  ⟨mono_sAsg (mono_wOwn mm) mono_gN,
   weakS (ps_setLc hc hN hy hyl hsw hi.run ok (fun s H C cl fp => (hg s H C cl fp).run) (fun s H C cl fp => (ht s H C cl fp).run) (fun s H C cl fp => (he s H C cl fp).run) hs)
    fun D σ H ⟨ρ, S, Z, r, R, h⟩ => by
      refine comp_in hi.mono (hg s0 X.H_0 0 [] []).mono (ht s0 X.H_0 0 [] []).mono (he s0 X.H_0 0 [] []).mono (tL_in mm r R h fun xs S1 p vs Z1 H1 q e1 R1 n1 n2 n3 n4 d => ?_)
      refine q p n4 (σ.set i (some (.ref p))) Z1 H1 ?_ ((r.ext e1.z).set i (.loc p)) (R1.own n2 n3 d)
      refine ⟨e1.z, fun a o h hs => ?_, e1.d⟩
      obtain ⟨q1, q2, q3⟩ := e1.h a o h hs
      exact ⟨q1, by rw [updS_ne (ne_of_none h n1)]; exact q2, q3⟩⟩
/-- xs[i] = v, a list that changes -/
def oSetL (o i v : F) (S : Sto) (Q : Sto → Prop) : Prop := match o, i with
  | .loc a, .int k => (match S a with
    | some fs => (match ixN fs.length k with | some j => Q (updS S a (fs.set j v)) | none => False)
    | none => False)
  | _, _ => False
theorem mono_oSetL {o i v : F} {S : Sto} {Q Q' : Sto → Prop} (k : ∀ S', Q S' → Q' S') (h : oSetL o i v S Q) : oSetL o i v S Q' := by
  unfold oSetL at h ⊢
  split at h
  · split at h
    · split at h
      · exact k _ h
      · exact h.elim
    · exact h.elim
  · exact h.elim
def gSubL (mo mi : W F) : DG := fun v ρ S Q => mo ρ S fun o S1 => mi ρ S1 fun i S2 => oSetL o i v S2 fun S3 => Q ρ S3
theorem pgd_sub {o i : Expr} {mo mi : W F} (ho : PD X o mo) (hi : PD X i mi)
    (ha : ∀ v, assign (.Subscript o i pos) X.env v = (do
      let ov ← holding [v] (eval o X.env)
      let iv ← holding [v, ov] (eval i X.env)
      standAt pos
      holding [v, ov, iv] (setItem ov iv v)
      release [v, ov, iv] []) := by intro _; rfl) : PGD X [] (.Subscript o i pos) (gSubL mo mi) :=
  ⟨fun f ρ S Q Q' k q => ho.mono _ _ _ _ (fun _ _ q => hi.mono _ _ _ _ (fun _ _ q => mono_oSetL (k _) q) q) q,
   weakG (pg_sub ho.run hi.run set_list ha) fun v σ H Q ⟨f, ρ, S, Z, r, R, d, q⟩ => by
    refine tD_in ho.mono r R q fun ov S1 v1 Z1 H1 q e1 R1 d1 => ?_
    refine tD_in hi.mono (r.ext e1.z) R1 q fun iv S2 v2 Z2 H2 q e2 R2 d2 => ?_
    unfold oSetL at q
    split at q
    · split at q
      · rename_i fs e0
        split at q
        · rename_i j ej
          have d1 := d1
          cases d1
          obtain ⟨us, h1, h2⟩ := R2.s _ _ e0
          have dv : Den X.K Z2 v f := d.ext (e1.trans e2).z
          obtain ⟨R3, e3⟩ := R2.write e0 (h2.set j dv)
          exact ⟨_, us, _, _, rfl, den_int d2, h1, by rw [h2.length]; exact ej, q σ Z2 _ agree.refl ((e1.trans e2).trans e3) (r.ext (e1.trans e2).z) R3⟩
        · exact q.elim
      · exact q.elim
    · exact q.elim⟩
/-- name op= e -/
abbrev DIp := DOp
structure IpD (X : Cx) (op : Operator) (o : DOp) : Prop where
  mono : MonoO o
  run : PIp X op (rD X.K o)
def sAug (i : Nat) (m : W F) (o : DOp) : WS := fun D ρ S => match ρ[i]? with
  | some (some y) => m ρ S fun z S1 => o y z S1 fun d S2 => D.nx (ρ.set i (some d)) S2
  | _ => False
theorem psd_aug {i : Nat} {op : Operator} {o : DOp} {pos' : Pos} (hN : X.N.Nodup) (hi : X.N[i]? = some x) (hx : Loc X.env.scope x) (he : PD X e m) (ho : IpD X op o) (hf : X.fn x = true ∨ X.env.scope.names.lookup x = some .local := by first | exact .inl rfl | exact .inr rfl | assumption) :
    PSD X (.AugAssign (.Name x pos') op e pos) (sAug i m o) := by
  refine ⟨fun D D' ρ S h l => ?_, weakS (ps_aug hN hi hx he.run ho.run hf) fun D σ H ⟨ρ, S, Z, r, R, h⟩ => ?_⟩
  · unfold sAug at h ⊢
    split at h
    · exact he.mono _ _ _ _ (fun _ _ q => ho.mono _ _ _ _ _ (fun _ _ q => l.nx _ _ q) q) h
    · exact h.elim
  · unfold sAug at h
    split at h
    · rename_i y ey
      obtain ⟨v, ev, dv⟩ := r.at_ i y ey
      refine ⟨v, ev, tD_in he.mono r R h fun z S1 v1 Z1 H1 q e1 R1 d1 => ?_⟩
      exact ⟨y, z, S1, Z1, dv.ext e1.z, d1, R1, ho.mono _ _ _ _ _ (fun d S2 q w Z2 H2 e2 R2 d2 => q _ Z2 H2 (e1.trans e2) ((r.ext (e1.trans e2).z).set i d2) R2) q⟩
    · exact h.elim
def ipAdd : DOp := fun x y S Q => match x, y with | .int i, .int j => Q (.int (i + j)) S | _, _ => False
def ipSub : DOp := fun x y S Q => match x, y with | .int i, .int j => Q (.int (i - j)) S | _, _ => False
theorem ipd_add : IpD X .Add ipAdd := by
  refine ⟨fun x y S Q Q' k h => ?_, fun pins s σ H x y v u Q I rx ry ⟨d, e, S, Z, dx, dy, R, h⟩ => ?_⟩
  · unfold ipAdd at h ⊢
    split at h
    · exact k _ _ h
    · exact h.elim
  · unfold ipAdd at h
    split at h
    · exact ip_add pins s σ H x y v u Q I rx ry ⟨_, _, den_int dx, den_int dy, fin_same R (.int _) h⟩
    · exact h.elim
theorem ipd_sub : IpD X .Sub ipSub := by
  refine ⟨fun x y S Q Q' k h => ?_, fun pins s σ H x y v u Q I rx ry ⟨d, e, S, Z, dx, dy, R, h⟩ => ?_⟩
  · unfold ipSub at h ⊢
    split at h
    · exact k _ _ h
    · exact h.elim
  · unfold ipSub at h
    split at h
    · exact ip_sub pins s σ H x y v u Q I rx ry ⟨_, _, den_int dx, den_int dy, fin_same R (.int _) h⟩
    · exact h.elim

/-! ### for -/
def forL (gd : Sto → Prop) (g : DG) (mb : WS) : List F → WS
  | [], D, ρ, S => gd S ∧ D.nx ρ S
  | x :: r, D, ρ, S => gd S ∧ g x ρ S fun ρ1 S1 => mb { D with nx := forL gd g mb r D, ct := forL gd g mb r D, bk := D.nx } ρ1 S1
theorem mono_forL {gd : Sto → Prop} {g : DG} {mb : WS} (hg : MonoG g) (hb : MonoS mb) : ∀ xs : List F, MonoS (forL gd g mb xs)
  | [] => fun D D' ρ S h l => ⟨h.1, l.nx _ _ h.2⟩
  | x :: r => fun D D' ρ S h l => by
    refine ⟨h.1, hg _ _ _ _ _ (fun ρ1 S1 q => ?_) h.2⟩
    exact hb _ _ _ _ q ⟨fun _ _ q => mono_forL hg hb r _ _ _ _ q l, l.rt, l.nx, fun _ _ q => mono_forL hg hb r _ _ _ _ q l⟩
def sFor (mi : W ItD) (g : DG) (mb : WS) : WS := fun D ρ S => mi ρ S fun it S1 => forL it.gd g mb it.items D ρ S1
theorem psd_for {tg iter : Expr} {body : List Stmt} {mi : W ItD} {g : DG} {vs : List Nat} {mb : WS} (hp : PassesOwn (model X.prog X.w) X.A X.env X.xe) (hc : X.calm = true) (hi : PID X tg iter mi) (hg : PGD X vs tg g) (hb : PSsD X body mb)
    (hs : ∀ x, foldedSetIterable iter X.env x = pure x := by intro _; rfl) : PSD X (.For tg iter body [] pos) (sFor mi g mb) := by
  refine ⟨fun D D' ρ S h l => hi.mono _ _ _ _ (fun it S1 q => mono_forL hg.mono hb.mono _ _ _ _ _ q l) h, weakS (ps_for hp hc hi.run hg.run hb.run hs) fun D σ H ⟨ρ, S, Z, r, R, h⟩ => ?_⟩
  refine ⟨ρ, S, Z, r, R, hi.mono _ _ _ _ (fun it S1 p J Z1 H1 e1 R1 wk => ?_) h⟩
  refine ⟨fun i m σc Hc => ∃ ρ2 Z2 S2, m = it.items.length - i ∧ i ≤ it.items.length ∧ REnv X.K Z2 ρ2 σc ∧ RelS X.K Z2 S2 Hc ∧ Ext Z S H Z2 S2 Hc ∧ (∀ a o, Z1 a = some o → Z2 a = some o) ∧ forL it.gd g mb (it.items.drop i) (EFin X.K Z S H D) ρ2 S2,
    ⟨_, ρ, Z1, S1, rfl, Nat.zero_le _, r.ext e1.z, R1, e1, fun _ _ q => q, p⟩, ?_⟩
  rintro i m σc Hc ⟨ρ2, Z2, S2, rfl, hi2, r2, R2, e2, z12, p⟩
  by_cases hlt : i < it.items.length
  · have hx : it.items[i]? = some it.items[i] := List.getElem?_eq_getElem hlt
    rw [List.drop_eq_getElem_cons hlt] at p
    obtain ⟨gdS, p⟩ := p
    obtain ⟨go, yl⟩ := wk.go Z2 S2 Hc i _ z12 R2 gdS hx
    refine .inr ⟨go, _, fun σ' H' q => q, fun x H3 y => ?_⟩
    obtain ⟨Z3, e3, R3, d3⟩ := yl x H3 y
    refine ⟨_, ρ2, S2, Z3, r2.ext e3.z, R3, d3, hg.mono _ _ _ _ _ (fun ρ4 S4 p σ4 Z4 H4 _ e4 r4 R4 => ?_) p⟩
    have ee := (e2.trans e3).trans e4
    refine ⟨ρ4, S4, Z4, r4, R4, hb.mono _ _ _ _ p ⟨fun ρ5 S5 q σ5 Z5 H5 e5 r5 R5 => ?_, fun d S5 q v Z5 H5 e5 => q v Z5 H5 (ee.trans e5), fun ρ5 S5 q σ5 Z5 H5 e5 => q σ5 Z5 H5 (ee.trans e5), fun ρ5 S5 q σ5 Z5 H5 e5 r5 R5 => ?_⟩⟩
    · exact ⟨it.items.length - (i + 1), by omega, ρ5, Z5, S5, rfl, by omega, r5, R5, ee.trans e5, fun a o q => e5.z a o (e4.z a o (e3.z a o (z12 a o q))), q⟩
    · exact ⟨it.items.length - (i + 1), by omega, ρ5, Z5, S5, rfl, by omega, r5, R5, ee.trans e5, fun a o q => e5.z a o (e4.z a o (e3.z a o (z12 a o q))), q⟩
  · have ei : i = it.items.length := by omega
    subst ei
    rw [List.drop_length] at p
    obtain ⟨gdS, p⟩ := p
    exact .inl ⟨wk.stop Z2 S2 Hc _ z12 R2 gdS (Nat.le_refl _), p σc Z2 Hc e2 r2 R2⟩

/-! ### while: n turns at most -/
def whileN (mt : W Bool) (mb : WS) : Nat → WS
  | 0, _, _, _ => False
  | n + 1, D, ρ, S => mt ρ S fun b S1 => if b = true then mb { D with nx := whileN mt mb n D, ct := whileN mt mb n D, bk := D.nx } ρ S1 else D.nx ρ S1
def sWhile (mt : W Bool) (mb : WS) : WS := fun D ρ S => ∃ n, whileN mt mb n D ρ S
theorem mono_whileN {mt : W Bool} {mb : WS} (ht : Mono mt) (hb : MonoS mb) : ∀ n, MonoS (whileN mt mb n)
  | 0 => fun D D' ρ S h l => h.elim
  | n + 1 => fun D D' ρ S h l => ht _ _ _ _ (fun b S1 q => by
    cases b with
    | true => exact hb _ _ _ _ q ⟨fun _ _ q => mono_whileN ht hb n _ _ _ _ q l, l.rt, l.nx, fun _ _ q => mono_whileN ht hb n _ _ _ _ q l⟩
    | false => exact l.nx _ _ q) h
theorem psd_while {c : Expr} {body : List Stmt} {mt : W Bool} {mb : WS} (hp : PassesOwn (model X.prog X.w) X.A X.env X.xe) (hc : PB X c mt) (hb : PSsD X body mb) : PSD X (.While c body [] pos) (sWhile mt mb) := by
  refine ⟨fun D D' ρ S ⟨n, h⟩ l => ⟨n, mono_whileN hc.mono hb.mono n _ _ _ _ h l⟩, weakS (ps_while hp hc.run hb.run) fun D σ H ⟨ρ, S, Z, r, R, n, h⟩ => ?_⟩
  refine ⟨fun m σc Hc => ∃ ρ2 Z2 S2, REnv X.K Z2 ρ2 σc ∧ RelS X.K Z2 S2 Hc ∧ Ext Z S H Z2 S2 Hc ∧ whileN mt mb m (EFin X.K Z S H D) ρ2 S2, ⟨n, ρ, Z, S, r, R, .refl, h⟩, ?_⟩
  rintro m σc Hc ⟨ρ2, Z2, S2, r2, R2, e2, p⟩
  cases m with
  | zero => exact p.elim
  | succ n =>
    refine tB_in hc.mono r2 R2 p fun b S3 Z3 H3 q e3 R3 => ?_
    have ee := e2.trans e3
    cases b with
    | true =>
      refine iteT ⟨_, fun σ' H' q => q, ρ2, S3, Z3, r2.ext e3.z, R3, hb.mono _ _ _ _ q ⟨fun ρ5 S5 q σ5 Z5 H5 e5 r5 R5 => ?_, fun d S5 q v Z5 H5 e5 => q v Z5 H5 (ee.trans e5), fun ρ5 S5 q σ5 Z5 H5 e5 => q σ5 Z5 H5 (ee.trans e5), fun ρ5 S5 q σ5 Z5 H5 e5 r5 R5 => ?_⟩⟩
      · exact ⟨n, Nat.lt_succ_self n, ρ5, Z5, S5, r5, R5, ee.trans e5, q⟩
      · exact ⟨n, Nat.lt_succ_self n, ρ5, Z5, S5, r5, R5, ee.trans e5, q⟩
    | false => exact iteF (q σc Z3 H3 ee (r2.ext e3.z) R3)
end

/-! ### a def by its body -/
def startF (n : Nat) (fs : List F) : Slots := fs.map some ++ List.replicate (n - fs.length) none
theorem renv_start {K : PySem.W.Frag} {Z : Hp} {vs : List V} {fs : List F} (d : Dens K Z vs fs) (N : List Str) : REnv K Z (startF N.length fs) (L2.start N vs) := by
  have hl := d.length
  refine ⟨by unfold startF L2.start; simp [hl], fun i f e => ?_⟩
  unfold startF at e
  unfold L2.start
  by_cases hi : i < fs.length
  · rw [List.getElem?_append_left (by simpa using hi), List.getElem?_map] at e
    cases q : fs[i]? with
    | none => rw [q] at e; cases e
    | some g =>
      rw [q] at e
      cases e
      obtain ⟨v, e1, dv⟩ := d.get q
      refine ⟨v, ?_, dv⟩
      rw [List.getElem?_append_left (by simpa [hl] using hi), List.getElem?_map, e1]
      rfl
  · rw [List.getElem?_append_right (by simpa using hi)] at e
    have := List.mem_of_getElem? e
    rw [List.mem_replicate] at this
    cases this.2
section
variable {P : Program} {w : World} {K : PySem.W.Frag} {mg : Str → Option Value} {base : Heap}
/-- THE RULE. drop: what the def made is left behind (true), or handed on -/
theorem fnD {x qual : Str} {params : Arguments} {body : List Stmt} {scope : Scope} {f : Addr} {fd : FuncData} {N ps : List Str} {k : Nat} {C : Ct} (drop : Bool) (F : FunD K x qual params body scope [] [] f fd) (S : FnScope N ps scope) (mc : MonoC C) (m : WS)
    (hb : ∀ (cdv : Value) (A : Around) (outer : List Env) (s : Shared) (H : Hp), Room k (A.deeper (envOfC qual scope s.heap.objs.size f cdv)) →
      PSsD (cxOf CX0 P w K mg base N qual scope f cdv A outer s H E0).nox body m)
    (hC : ∀ fs S Q, C fs S Q → fs.length = ps.length ∧ m { nx := fun _ S' => Q .non (if drop = true then restr S S' else S'), rt := fun d S' => Q d (if drop = true then restr S S' else S') } (startF N.length fs) S) : FnD P w K mg base (k + 1) f fd ps C := by
  refine ⟨mc, F.ok S (fun vs H Q E ⟨fs, S, Z, d, R, q⟩ => by rw [d.length]; exact (hC _ _ _ q).1) fun cdv A outer s H vs Q E hr ⟨fs, S, Z, d, R, q⟩ => ?_⟩
  have hB := hb cdv A outer s H hr
  refine ⟨tS K m, PSs.nox ?_, _, S, Z, renv_start d N, R, hB.mono _ _ _ _ (hC _ _ _ q).2 ⟨fun ρ' S' q σ' Z' H' e r' R' => ?_, fun d' S' q v Z' H' e R' d2 => ?_, fun _ _ q => False.elim q, fun _ _ q => False.elim q⟩⟩
  · exact hB.run
  · cases drop with
    | true => exact q .non Z' H' e.restr (R'.restr S) .non
    | false => exact q .non Z' H' e R' .non
  · cases drop with
    | true => exact q v Z' H' e.restr (R'.restr S) d2
    | false => exact q v Z' H' e R' d2
end
end DL

set_option maxHeartbeats 4000000
namespace DL
open PySem PySem.Spec PyProof.Rows L2

/-- a def of the text that may be called by its name, and what it promises -/
structure Cal (P : Program) (w : World) (K : PySem.W.Frag) (mg : Str → Option Value) (base : Heap) (k : Nat) (x : Str) (ps : List Str) (C : Ct) : Prop where
  ex : ∃ f fd, PySem.W.keepIn K (.ref f) = true ∧ mg x = some (.ref f) ∧ L2.Binds K fd ps [] ∧ FnD P w K mg base k f fd ps C
/-- built-ins that the text does not hide -/
structure Bl (mg : Str → Option Value) : Prop where
  len : mg "len" = none
  range : mg "range" = none
  tuple : mg "tuple" = none
  list : mg "list" = none
  all : mg "all" = none
  any : mg "any" = none
  sum : mg "sum" = none
  int : mg "int" = none
  bool : mg "bool" = none
  str : mg "str" = none
  isinstance : mg "isinstance" = none
  min : mg "min" = none
  max : mg "max" = none
  sorted : mg "sorted" = none
  enumerate : mg "enumerate" = none
  zip : mg "zip" = none
  set : mg "set" = none
  dict : mg "dict" = none
  abs : mg "abs" = none
section
variable {X : Cx} {e a : Expr} {es : List Expr} {p pos : Pos} {x : Str} {ms : W (List F)} {m ma : W F} {k j : Nat} {ps : List Str} {C : Ct}
theorem pd_cal (G : Cal X.prog X.w X.K X.mg X.base k x ps C) (hr : Room j X.A) (hg : Gl X x) (ha : PDs X (e :: es) ms) (hl : k ≤ j := by decide) (hdb : (x == ("__debug__" : Str)) = false := by decide)
    (hs : starEach (e :: es) X.env = (false, eval e X.env) :: starEach es X.env := by rfl) (hplain : (backTo pos (starEach es X.env)).any (·.1) = false := by rfl) : PD X (.Call (.Name x p) (e :: es) [] pos) (wCall C ms) := by
  obtain ⟨f, fd, hk, hm, hb, F⟩ := G.ex
  exact pd_call F (hr.mono hl) hg hm hk hb ha hdb hs hplain
theorem pd_gint {i : Int} (h : ∃ t, X.mg x = some (.int i t)) (hg : Gl X x) (hd : (x == ("__debug__" : Str)) = false := by decide) : PD X (.Name x pos) (wC (.int i)) := by
  obtain ⟨t, h⟩ := h
  exact pd_const (pe_glob (v := .int i) hg h ⟨t, rfl⟩ hd) fun _ => .int i
theorem pd_gstr {i : Str} (h : ∃ t, X.mg x = some (.str i t)) (hg : Gl X x) (hd : (x == ("__debug__" : Str)) = false := by decide) : PD X (.Name x pos) (wC (.str i)) := by
  obtain ⟨t, h⟩ := h
  exact pd_const (pe_glob (v := .str i) hg h ⟨t, rfl⟩ hd) fun _ => .str i
/-- a constant of the text, whatever it is -/
theorem pd_gval {a : Addr} {f : F} (h : X.mg x = some (.ref a)) (d : ∀ Z, Den X.K Z (.ref a) f) (hg : Gl X x) (hd : (x == ("__debug__" : Str)) = false := by decide) : PD X (.Name x pos) (wC f) := pd_const (pe_glob (v := .ref a) hg h rfl hd) d
def wNeg (m : W F) : W F := fun ρ S Q => m ρ S (asI fun i S1 => Q (.int (-i)) S1)
theorem pd_neg (h : PD X e m) : PD X (.UnaryOp .USub e pos) (wNeg m) :=
  ⟨fun _ _ _ _ k q => h.mono _ _ _ _ (mono_asI fun _ _ q => k _ _ q) q, weakE (pe_un un_neg h.run) fun σ H Q ⟨ρ, S, Z, r, R, q⟩ => by
    refine tD_in h.mono r R q fun x S1 v1 Z1 H1 p e1 R1 d1 => ?_
    obtain ⟨c, rfl, q⟩ := asI_of p
    exact ⟨c, den_int d1, q _ Z1 H1 e1 R1 (.int _)⟩⟩
end
section
variable {P : Program} {w : World} {K : PySem.W.Frag} {mg : Str → Option Value} {base : Heap}
theorem cal_of {x qual : Str} {params : Arguments} {body : List Stmt} {scope : Scope} {f : Addr} {fd : FuncData} {ps : List Str} {k : Nat} {C : Ct} (F : FunD K x qual params body scope [] [] f fd) (g : mg x = some (.ref f)) (b : L2.Binds K fd ps []) (G : FnD P w K mg base k f fd ps C) : Cal P w K mg base k x ps C := ⟨f, fd, F.kp, g, b, G⟩
end
end DL

set_option maxHeartbeats 4000000
namespace DL
open PySem PySem.Spec PyProof.Rows L2
/-! rows for evaluation -/
section
variable {ρ : Slots} {S : Sto} {Q : F → Sto → Prop} {QL : List F → Sto → Prop} {QB : Bool → Sto → Prop} {QI : ItD → Sto → Prop} {f : F} {o : Option F} {i : Nat} {m ma mb mc me : W F} {ms mr ml : W (List F)} {mt ta tb : W Bool} {D : EndsD} {t u : WS} {x y : F} {xs ys : List F}
@[simp, simp ↓] theorem wVar_0 : wVar 0 (some f :: ρ) S Q = Q f S := (rfl)
@[simp, simp ↓] theorem wVar_s : wVar (i + 1) (o :: ρ) S Q = wVar i ρ S Q := by
  unfold wVar
  rw [List.getElem?_cons_succ]
@[simp, simp ↓] theorem wC_ev : wC f ρ S Q = Q f S := (rfl)
@[simp, simp ↓] theorem asB_ev {c : Bool} : asB QB (.bl c) S = QB c S := (rfl)
@[simp, simp ↓] theorem asI_ev {Q : Int → Sto → Prop} {c : Int} : asI Q (.int c) S = Q c S := (rfl)
@[simp, simp ↓] theorem wOp_ev {op : DOp} : wOp op ma mb ρ S Q = ma ρ S fun x S1 => mb ρ S1 fun y S2 => op x y S2 Q := (rfl)
@[simp, simp ↓] theorem wTst_ev : wTst m ρ S QB = m ρ S (asB QB) := (rfl)
@[simp, simp ↓] theorem wChain_ev {op op' : DOp} : wChain op op' ma mb mc ρ S Q = ma ρ S fun x S1 => mb ρ S1 fun y S2 => op x y S2 (asB fun k S3 => if k = true then mc ρ S3 fun z S4 => op' y z S4 Q else Q (.bl false) S3) := (rfl)
@[simp, simp ↓] theorem wAnd_ev : wAnd ma mb ρ S Q = ma ρ S (asB fun k S1 => if k = true then mb ρ S1 Q else Q (.bl false) S1) := (rfl)
@[simp, simp ↓] theorem wOr_ev : wOr ma mb ρ S Q = ma ρ S (asB fun k S1 => if k = true then Q (.bl true) S1 else mb ρ S1 Q) := (rfl)
@[simp, simp ↓] theorem wNot_ev : wNot ma ρ S Q = ma ρ S (asB fun k S1 => Q (.bl (!k)) S1) := (rfl)
@[simp, simp ↓] theorem bAnd_ev : bAnd ta tb ρ S QB = ta ρ S fun k S1 => if k = true then tb ρ S1 QB else QB false S1 := (rfl)
@[simp, simp ↓] theorem bOr_ev : bOr ta tb ρ S QB = ta ρ S fun k S1 => if k = true then QB true S1 else tb ρ S1 QB := (rfl)
@[simp, simp ↓] theorem bNot_ev : bNot ta ρ S QB = ta ρ S fun k S1 => QB (!k) S1 := (rfl)
@[simp, simp ↓] theorem wIf_ev : wIf mt ma mb ρ S Q = mt ρ S fun k S1 => if k = true then ma ρ S1 Q else mb ρ S1 Q := (rfl)
@[simp, simp ↓] theorem wNil_ev : wNil ρ S QL = QL [] S := (rfl)
@[simp, simp ↓] theorem wCons_ev : wCons ma mr ρ S QL = ma ρ S fun x S1 => mr ρ S1 fun xs S2 => QL (x :: xs) S2 := (rfl)
theorem lit_line {n : Nat} (h : n ≤ 1000) : n ≤ sizeLine := Nat.le_of_lt (small1000 h)
@[simp, simp ↓] theorem wTup_ev : wTup mr ρ S Q = mr ρ S fun xs S1 => xs.length ≤ sizeLine ∧ Q (.tup xs) S1 := (rfl)
@[simp, simp ↓] theorem wLst_ev : wLst mr ρ S QL = mr ρ S fun xs S1 => xs.length ≤ sizeLine ∧ QL xs S1 := (rfl)
@[simp, simp ↓] theorem wFrz_ev : wFrz ml ρ S Q = ml ρ S fun xs S1 => Q (.lst xs) S1 := (rfl)
@[simp, simp ↓] theorem wOwn_ev : wOwn ml ρ S Q = ml ρ S fun xs S1 => ∀ p, S1 p = none → Q (.loc p) (updS S1 p xs) := (rfl)
@[simp, simp ↓] theorem wNoPart_ev {Q : Option Int → Sto → Prop} : wNoPart ρ S Q = Q none S := (rfl)
@[simp, simp ↓] theorem wPart_ev {Q : Option Int → Sto → Prop} : wPart m ρ S Q = m ρ S (asI fun i S1 => Q (some i) S1) := (rfl)
@[simp, simp ↓] theorem wSl_ev {pl ph : W (Option Int)} : wSl me pl ph ρ S Q = me ρ S fun x S1 => pl ρ S1 fun l S2 => ph ρ S2 fun u S3 => oSl x l u S3 Q := (rfl)
@[simp, simp ↓] theorem wSlL_ev {pl ph : W (Option Int)} : wSlL me pl ph ρ S QL = me ρ S fun x S1 => pl ρ S1 fun l S2 => ph ρ S2 fun u S3 => oSlL x l u S3 QL := (rfl)
@[simp, simp ↓] theorem wCall_ev {c : DCall} : wCall c ms ρ S Q = ms ρ S fun xs S1 => c xs S1 Q := (rfl)
@[simp, simp ↓] theorem wCallL_ev {c : DCallL} : wCall c ms ρ S QL = ms ρ S fun xs S1 => c xs S1 QL := (rfl)
@[simp, simp ↓] theorem wNeg_ev : wNeg m ρ S Q = m ρ S (asI fun i S1 => Q (.int (-i)) S1) := (rfl)
@[simp, simp ↓] theorem wIsi_ev {T : String} : wIsi T ma ρ S Q = ma ρ S fun x S1 => isiOk S1 x ∧ Q (.bl (isTy T x)) S1 := (rfl)
@[simp, simp ↓] theorem wMt_ev {c : DMt} : wMt c m ms ρ S Q = m ρ S fun x S1 => (listR S1 x).isSome = true ∧ ms ρ S1 fun xs S2 => c x xs S2 Q := (rfl)
@[simp, simp ↓] theorem wMt0_ev {c : DMt} : wMt0 c m ρ S Q = m ρ S fun x S1 => (listR S1 x).isSome = true ∧ c x [] S1 Q := (rfl)
@[simp, simp ↓] theorem wIt_ev : wIt m ρ S QI = m ρ S fun x S1 => onIt S1 x QI := (rfl)
@[simp, simp ↓] theorem wComp_ev {own : List Nat} {mi : W ItD} {g : DG} : wComp own mi g mt me ρ S QL = mi ρ S fun it S1 => it.items.length ≤ sizeLine ∧ compL it.gd g mt me (wipeF ρ own) it.items [] S1 QL := (rfl)
@[simp, simp ↓] theorem wYes_ev : wYes ρ S QB = QB true S := (rfl)
@[simp, simp ↓] theorem sNext_ev : sNext D ρ S = D.nx ρ S := (rfl)
@[simp, simp ↓] theorem sSeq_ev : sSeq t u D ρ S = t { nx := u D, rt := D.rt, bk := D.bk, ct := D.ct } ρ S := (rfl)
@[simp, simp ↓] theorem sBreak_ev : sBreak D ρ S = D.bk ρ S := (rfl)
@[simp, simp ↓] theorem sCont_ev : sCont D ρ S = D.ct ρ S := (rfl)
@[simp, simp ↓] theorem sExpr_ev : sExpr m D ρ S = m ρ S fun _ S1 => D.nx ρ S1 := (rfl)
@[simp, simp ↓] theorem sRet_ev : sRet m D ρ S = m ρ S fun d S1 => D.rt d S1 := (rfl)
@[simp, simp ↓] theorem sRetN_ev : sRetN D ρ S = D.rt .non S := (rfl)
@[simp, simp ↓] theorem sIf_ev : sIf mt t u D ρ S = mt ρ S fun b S1 => if b = true then t D ρ S1 else u D ρ S1 := (rfl)
@[simp, simp ↓] theorem sAsg_ev {g : DG} : sAsg m g D ρ S = m ρ S fun d S1 => g d ρ S1 D.nx := (rfl)
@[simp, simp ↓] theorem gN_0 {QS : Slots → Sto → Prop} : gN 0 f (o :: ρ) S QS = QS (some f :: ρ) S := (rfl)
@[simp, simp ↓] theorem gN_s {QS : Slots → Sto → Prop} : gN (i + 1) f (o :: ρ) S QS = gN i f ρ S (fun ρ' S' => QS (o :: ρ') S') := (rfl)
theorem gN_ev {QS : Slots → Sto → Prop} : gN i f ρ S QS = QS (ρ.set i (some f)) S := rfl
@[simp, simp ↓] theorem gTup2_ev {n : Nat} {gs : DGs} {QS : Slots → Sto → Prop} : gTup2 n gs (.tup xs) ρ S QS = (xs.length = n ∧ gs xs ρ S QS) := (rfl)
@[simp, simp ↓] theorem gNil2_ev {QS : Slots → Sto → Prop} : gNil2 [] ρ S QS = QS ρ S := by
  unfold gNil2
  simp
@[simp, simp ↓] theorem gCons2_ev {g : DG} {gs : DGs} {QS : Slots → Sto → Prop} : gCons2 g gs (x :: xs) ρ S QS = g x ρ S fun ρ1 S1 => gs xs ρ1 S1 QS := (rfl)
def parL : List Nat → List F → Slots → Sto → (Slots → Sto → Prop) → Prop
  | [], [], ρ, S, K => K ρ S
  | i :: is, x :: xs, ρ, S, K => gN i x ρ S fun ρ' S' => parL is xs ρ' S' K
  | _, _, _, _, _ => False
@[simp, simp ↓] theorem parL_nil {K : Slots → Sto → Prop} : parL [] [] ρ S K = K ρ S := (rfl)
@[simp, simp ↓] theorem parL_cons {is : List Nat} {K : Slots → Sto → Prop} : parL (i :: is) (x :: xs) ρ S K = gN i x ρ S fun ρ' S' => parL is xs ρ' S' K := (rfl)
theorem parL_eq {K : Slots → Sto → Prop} {S : Sto} : ∀ {is : List Nat} {xs : List F} {ρ : Slots}, (xs.length = is.length ∧ K ((is.zip xs).foldl (fun r p => r.set p.1 (some p.2)) ρ) S) = parL is xs ρ S K
  | [], [], ρ => by simp [parL]
  | [], _ :: _, ρ => by simp [parL]
  | _ :: _, [], ρ => by simp [parL]
  | i :: is, x :: xs, ρ => by
    have h := parL_eq (K := K) (S := S) (is := is) (xs := xs) (ρ := ρ.set i (some x))
    rw [parL_cons, gN_ev, ← h]
    simp
@[simp, simp ↓] theorem sPar_ev {is : List Nat} : sPar is ms D ρ S = ms ρ S fun xs S1 => parL is xs ρ S1 D.nx := by
  unfold sPar
  congr
  funext xs S1
  exact parL_eq
@[simp, simp ↓] theorem gSubL_ev {mo mi : W F} {QS : Slots → Sto → Prop} : gSubL mo mi f ρ S QS = mo ρ S fun o S1 => mi ρ S1 fun i S2 => oSetL o i f S2 fun S3 => QS ρ S3 := (rfl)
@[simp, simp ↓] theorem sAug_0 {op : DOp} : sAug 0 m op D (some f :: ρ) S = m (some f :: ρ) S fun z S1 => op f z S1 fun d S2 => D.nx (some d :: ρ) S2 := (rfl)
theorem sAug_ev {op : DOp} (h : ρ[i]? = some (some f)) : sAug i m op D ρ S = m ρ S fun z S1 => op f z S1 fun d S2 => D.nx (ρ.set i (some d)) S2 := by
  unfold sAug
  rw [h]
@[simp, simp ↓] theorem sFor_ev {mi : W ItD} {g : DG} : sFor mi g t D ρ S = mi ρ S fun it S1 => forL it.gd g t it.items D ρ S1 := (rfl)
@[simp, simp ↓] theorem forL_nil {gd : Sto → Prop} {g : DG} : forL gd g t [] D ρ S = (gd S ∧ D.nx ρ S) := (rfl)
@[simp, simp ↓] theorem forL_cons {gd : Sto → Prop} {g : DG} : forL gd g t (x :: xs) D ρ S = (gd S ∧ g x ρ S fun ρ1 S1 => t { nx := forL gd g t xs D, rt := D.rt, bk := D.nx, ct := forL gd g t xs D } ρ1 S1) := (rfl)
@[simp, simp ↓] theorem compL_nil {gd : Sto → Prop} {g : DG} {acc : List F} : compL gd g mt me ρ [] acc S QL = (gd S ∧ QL acc S) := (rfl)
@[simp, simp ↓] theorem compL_cons {gd : Sto → Prop} {g : DG} {acc : List F} : compL gd g mt me ρ (x :: xs) acc S QL = (gd S ∧ g x ρ S fun ρ2 S2 => mt ρ2 S2 fun b S3 => if b = true then me ρ2 S3 fun y S4 => compL gd g mt me ρ xs (acc ++ [y]) S4 QL else compL gd g mt me ρ xs acc S3 QL) := (rfl)
@[simp, simp ↓] theorem wRange1_ev : wRange1 ms ρ S QI = ms ρ S fun xs S1 => match xs with | [.int j] => (-(2 ^ 62) ≤ j ∧ j < 2 ^ 62) ∧ QI ⟨rngL 0 j.toNat, fun _ => True⟩ S1 | _ => False := (rfl)
@[simp, simp ↓] theorem wRange2_ev : wRange2 ms ρ S QI = ms ρ S fun xs S1 => match xs with | [.int i, .int j] => (-(2 ^ 62) ≤ i ∧ i < 2 ^ 62 ∧ -(2 ^ 62) ≤ j ∧ j < 2 ^ 62) ∧ QI ⟨rngL i (j - i).toNat, fun _ => True⟩ S1 | _ => False := (rfl)
@[simp, simp ↓] theorem onIt_tup : onIt S (.tup xs) QI = QI ⟨xs, fun _ => True⟩ S := (rfl)
@[simp, simp ↓] theorem onIt_lst : onIt S (.lst xs) QI = QI ⟨xs, fun _ => True⟩ S := (rfl)
@[simp, simp ↓] theorem onIt_rol : onIt S (.rol xs) QI = QI ⟨xs, fun _ => True⟩ S := (rfl)
/-! operators -/
@[simp, simp ↓] theorem oAdd_ii {i j : Int} : oAdd (.int i) (.int j) S Q = Q (.int (i + j)) S := (rfl)
@[simp, simp ↓] theorem oAdd_tt : oAdd (.tup xs) (.tup ys) S Q = (xs.length + ys.length ≤ sizeLine ∧ Q (.tup (xs ++ ys)) S) := (rfl)
@[simp, simp ↓] theorem oAdd_ll : oAdd (.lst xs) (.lst ys) S Q = (xs.length + ys.length ≤ sizeLine ∧ Q (.lst (xs ++ ys)) S) := (rfl)
@[simp, simp ↓] theorem oAdd_ss {i j : Str} : oAdd (.str i) (.str j) S Q = (i.length + j.length ≤ sizeLine ∧ Q (.str (i ++ j)) S) := (rfl)
@[simp, simp ↓] theorem oSub_ii {i j : Int} : oSub (.int i) (.int j) S Q = Q (.int (i - j)) S := (rfl)
@[simp, simp ↓] theorem oMul_ii {i j : Int} : oMul (.int i) (.int j) S Q = (mulOk i j ∧ Q (.int (i * j)) S) := (rfl)
@[simp, simp ↓] theorem oMul_ti {k : Int} : oMul (.tup xs) (.int k) S Q = ((-(2 ^ 63) ≤ k ∧ k < 2 ^ 63 ∧ xs.length * k.toNat ≤ sizeLine) ∧ Q (.tup (List.replicate k.toNat xs).flatten) S) := (rfl)
@[simp, simp ↓] theorem oDiv_ii {i j : Int} : oDiv (.int i) (.int j) S Q = (CDivW i j ∧ Q (.int (i / j)) S) := (rfl)
@[simp, simp ↓] theorem oMod_ii {i j : Int} : oMod (.int i) (.int j) S Q = (0 < j ∧ Q (.int (i % j)) S) := (rfl)
@[simp, simp ↓] theorem oPow_ii {i j : Int} : oPow (.int i) (.int j) S Q = (CPow i j ∧ Q (.int (i ^ j.toNat)) S) := (rfl)
@[simp, simp ↓] theorem oLt_ii {i j : Int} : oLt (.int i) (.int j) S Q = Q (.bl (decide (i < j))) S := (rfl)
@[simp, simp ↓] theorem oLe_ii {i j : Int} : oLe (.int i) (.int j) S Q = Q (.bl (decide (i ≤ j))) S := (rfl)
@[simp, simp ↓] theorem oGt_ii {i j : Int} : oGt (.int i) (.int j) S Q = Q (.bl (decide (j < i))) S := (rfl)
@[simp, simp ↓] theorem oGe_ii {i j : Int} : oGe (.int i) (.int j) S Q = Q (.bl (decide (j ≤ i))) S := (rfl)
@[simp, simp ↓] theorem oIs_n : oIs x .non S Q = Q (.bl (isNon x)) S := (rfl)
@[simp, simp ↓] theorem oIs_b {a b : Bool} : oIs (.bl a) (.bl b) S Q = Q (.bl (decide (a = b))) S := (rfl)
@[simp, simp ↓] theorem oIsNot_n : oIsNot x .non S Q = Q (.bl (!isNon x)) S := (rfl)
@[simp, simp ↓] theorem oIsNot_b {a b : Bool} : oIsNot (.bl a) (.bl b) S Q = Q (.bl (!decide (a = b))) S := (rfl)
@[simp] theorem isNon_non : isNon .non = true := rfl
@[simp] theorem isNon_bl {b} : isNon (.bl b) = false := rfl
@[simp] theorem isNon_int {b} : isNon (.int b) = false := rfl
@[simp] theorem isNon_str {b} : isNon (.str b) = false := rfl
@[simp] theorem isNon_tup {b} : isNon (.tup b) = false := rfl
@[simp] theorem isNon_lst {b} : isNon (.lst b) = false := rfl
@[simp, simp ↓] theorem oEq_ev : oEq x y S Q = (okF x = true ∧ okF y = true ∧ Q (.bl (eqF x y)) S) := (rfl)
@[simp, simp ↓] theorem oNe_ev : oNe x y S Q = (okF x = true ∧ okF y = true ∧ Q (.bl (!eqF x y)) S) := (rfl)
@[simp] theorem okF_non : okF .non = true := by simp [okF, SeqAt.shaped, py, PyData.canLay0, PyData.depth]
@[simp] theorem okF_bl {b} : okF (.bl b) = true := by simp [okF, SeqAt.shaped, py, PyData.canLay0, PyData.depth]
@[simp] theorem okF_int {i} : okF (.int i) = true := by simp [okF, SeqAt.shaped, py, PyData.canLay0, PyData.depth]
@[simp] theorem eqF_ii {i j : Int} : eqF (.int i) (.int j) = (i == j) := by simp [eqF, py, PyData.eqv]
@[simp] theorem eqF_bb {i j : Bool} : eqF (.bl i) (.bl j) = (i == j) := by simp [eqF, py, PyData.eqv]
@[simp] theorem eqF_ss {i j : Str} : eqF (.str i) (.str j) = (i == j) := by simp [eqF, py, PyData.eqv]
@[simp, simp ↓] theorem oIx_t {i : Int} : oIx (.tup xs) (.int i) S Q = (match atI xs i with | some z => Q z S | none => False) := (rfl)
@[simp, simp ↓] theorem oIx_l {i : Int} : oIx (.lst xs) (.int i) S Q = (match atI xs i with | some z => Q z S | none => False) := (rfl)
@[simp, simp ↓] theorem oIx_r {i : Int} : oIx (.rol xs) (.int i) S Q = (match atI xs i with | some z => Q z S | none => False) := (rfl)
@[simp, simp ↓] theorem oIx_loc {a : Addr} {i : Int} : oIx (.loc a) (.int i) S Q = (match S a with | some xs => (match atI xs i with | some z => Q z S | none => False) | none => False) := (rfl)
@[simp, simp ↓] theorem oSl_t {lo hi : Option Int} : oSl (.tup xs) lo hi S Q = Q (.tup (cut xs lo hi)) S := (rfl)
@[simp, simp ↓] theorem oSl_s {z : Str} {lo hi : Option Int} : oSl (.str z) lo hi S Q = (z.length ≤ sizeLine ∧ Q (.str (cutS z lo hi)) S) := (rfl)
@[simp, simp ↓] theorem oSl_l {lo hi : Option Int} : oSl (.lst xs) lo hi S Q = Q (.lst (cut xs lo hi)) S := (rfl)
@[simp, simp ↓] theorem oSl_r {lo hi : Option Int} : oSl (.rol xs) lo hi S Q = Q (.lst (cut xs lo hi)) S := (rfl)
@[simp, simp ↓] theorem cLen_t : cLen [.tup xs] S Q = Q (.int xs.length) S := (rfl)
@[simp, simp ↓] theorem cLen_l : cLen [.lst xs] S Q = Q (.int xs.length) S := (rfl)
@[simp, simp ↓] theorem cLen_r : cLen [.rol xs] S Q = Q (.int xs.length) S := (rfl)
@[simp, simp ↓] theorem cLen_s {z : Str} : cLen [.str z] S Q = (z.length ≤ sizeLine ∧ Q (.int z.length) S) := (rfl)
@[simp, simp ↓] theorem cLen_loc {a : Addr} : cLen [.loc a] S Q = (match S a with | some fs => Q (.int fs.length) S | none => False) := (rfl)
@[simp, simp ↓] theorem cTuple_t : cTuple [.tup xs] S Q = Q (.tup xs) S := (rfl)
@[simp, simp ↓] theorem cTuple_l : cTuple [.lst xs] S Q = Q (.tup xs) S := (rfl)
@[simp, simp ↓] theorem cTuple_loc {a : Addr} : cTuple [.loc a] S Q = (match S a with | some fs => Q (.tup fs) S | none => False) := (rfl)
@[simp, simp ↓] theorem cList_t : cList [.tup xs] S QL = QL xs S := (rfl)
@[simp, simp ↓] theorem cList_l : cList [.lst xs] S QL = QL xs S := (rfl)
@[simp, simp ↓] theorem cList_r : cList [.rol xs] S QL = QL xs S := (rfl)
@[simp, simp ↓] theorem cInt_i {i : Int} : cInt [.int i] S Q = Q (.int i) S := (rfl)
@[simp, simp ↓] theorem cInt_b {b : Bool} : cInt [.bl b] S Q = Q (.int (if b = true then 1 else 0)) S := (rfl)
theorem map_inj {α β : Type} {g : α → β} (hg : ∀ a b, g a = g b → a = b) : ∀ {as bs : List α}, as.map g = bs.map g → as = bs
  | [], [], _ => rfl
  | [], _ :: _, h => by cases h
  | _ :: _, [], h => by cases h
  | a :: as, b :: bs, h => by
    rw [List.map_cons, List.map_cons, List.cons.injEq] at h
    rw [hg _ _ h.1, map_inj hg h.2]
theorem sum_ev {ns : List Int} : (∃ ks : List Int, ns.map F.int = ks.map F.int ∧ Q (.int ks.sum) S) = Q (.int ns.sum) S := by
  apply propext
  constructor
  · rintro ⟨ks, e, q⟩
    rwa [map_inj (fun a b h => F.int.inj h) e]
  · exact fun q => ⟨ns, rfl, q⟩
@[simp, simp ↓] theorem cSum_t {ns : List Int} : cSum [.tup (ns.map F.int)] S Q = Q (.int ns.sum) S := sum_ev
@[simp, simp ↓] theorem cSum_l {ns : List Int} : cSum [.lst (ns.map F.int)] S Q = Q (.int ns.sum) S := sum_ev
theorem bls_ev {ns : List Bool} {g : List Bool → Bool} : (∃ ks : List Bool, ns.map F.bl = ks.map F.bl ∧ Q (.bl (g ks)) S) = Q (.bl (g ns)) S := by
  apply propext
  constructor
  · rintro ⟨ks, e, q⟩
    rwa [map_inj (fun a b h => F.bl.inj h) e]
  · exact fun q => ⟨ns, rfl, q⟩
@[simp, simp ↓] theorem cAll_l {ns : List Bool} : cAll [.lst (ns.map F.bl)] S Q = Q (.bl (ns.all id)) S := bls_ev (g := fun ks => ks.all id)
@[simp, simp ↓] theorem cAny_l {ns : List Bool} : cAny [.lst (ns.map F.bl)] S Q = Q (.bl (ns.any id)) S := bls_ev (g := fun ks => ks.any id)
@[simp, simp ↓] theorem mAppend_ev {a : Addr} : mAppend (.loc a) [y] S Q = (match S a with | some fs => fs.length < sizeLine ∧ Q .non (updS S a (fs ++ [y])) | none => False) := (rfl)
@[simp, simp ↓] theorem mPopAt_ev {a : Addr} {i : Int} : mPopAt (.loc a) [.int i] S Q = (match S a with
    | some fs => (-(2 ^ 63) ≤ i ∧ i < 2 ^ 63) ∧ (match ixN fs.length i with
      | some j => (match fs[j]? with | some y => Q y (updS S a (fs.eraseIdx j)) | none => False)
      | none => False)
    | none => False) := rfl
@[simp, simp ↓] theorem mPop_ev {a : Addr} : mPop (.loc a) [] S Q = (match S a with
    | some fs => (match fs[fs.length - 1]? with | some y => Q y (updS S a fs.dropLast) | none => False)
    | none => False) := rfl
@[simp, simp ↓] theorem oSetL_ev {a : Addr} {k : Int} {v : F} {QS : Sto → Prop} : oSetL (.loc a) (.int k) v S QS = (match S a with
    | some fs => (match ixN fs.length k with | some j => QS (updS S a (fs.set j v)) | none => False)
    | none => False) := rfl
@[simp, simp ↓] theorem listR_loc {a : Addr} : listR S (.loc a) = S a := (rfl)
@[simp, simp ↓] theorem listR_lst : listR S (.lst xs) = some xs := (rfl)
/-! types -/
@[simp] theorem ty_int_non : isTy "int" .non = false := rfl
@[simp] theorem ty_int_bl {b} : isTy "int" (.bl b) = true := rfl
@[simp] theorem ty_int_int {b} : isTy "int" (.int b) = true := rfl
@[simp] theorem ty_int_str {b} : isTy "int" (.str b) = false := rfl
@[simp] theorem ty_int_tup {b} : isTy "int" (.tup b) = false := rfl
@[simp] theorem ty_int_lst {b} : isTy "int" (.lst b) = false := rfl
@[simp] theorem ty_int_rol {b} : isTy "int" (.rol b) = false := rfl
@[simp] theorem ty_int_loc {b} : isTy "int" (.loc b) = false := rfl
@[simp] theorem ty_bool_non : isTy "bool" .non = false := rfl
@[simp] theorem ty_bool_bl {b} : isTy "bool" (.bl b) = true := rfl
@[simp] theorem ty_bool_int {b} : isTy "bool" (.int b) = false := rfl
@[simp] theorem ty_bool_str {b} : isTy "bool" (.str b) = false := rfl
@[simp] theorem ty_bool_tup {b} : isTy "bool" (.tup b) = false := rfl
@[simp] theorem ty_bool_lst {b} : isTy "bool" (.lst b) = false := rfl
@[simp] theorem ty_bool_rol {b} : isTy "bool" (.rol b) = false := rfl
@[simp] theorem ty_bool_loc {b} : isTy "bool" (.loc b) = false := rfl
@[simp] theorem ty_str_non : isTy "str" .non = false := rfl
@[simp] theorem ty_str_bl {b} : isTy "str" (.bl b) = false := rfl
@[simp] theorem ty_str_int {b} : isTy "str" (.int b) = false := rfl
@[simp] theorem ty_str_str {b} : isTy "str" (.str b) = true := rfl
@[simp] theorem ty_str_tup {b} : isTy "str" (.tup b) = false := rfl
@[simp] theorem ty_str_lst {b} : isTy "str" (.lst b) = false := rfl
@[simp] theorem ty_str_rol {b} : isTy "str" (.rol b) = false := rfl
@[simp] theorem ty_str_loc {b} : isTy "str" (.loc b) = false := rfl
@[simp] theorem ty_tuple_non : isTy "tuple" .non = false := rfl
@[simp] theorem ty_tuple_bl {b} : isTy "tuple" (.bl b) = false := rfl
@[simp] theorem ty_tuple_int {b} : isTy "tuple" (.int b) = false := rfl
@[simp] theorem ty_tuple_str {b} : isTy "tuple" (.str b) = false := rfl
@[simp] theorem ty_tuple_tup {b} : isTy "tuple" (.tup b) = true := rfl
@[simp] theorem ty_tuple_lst {b} : isTy "tuple" (.lst b) = false := rfl
@[simp] theorem ty_tuple_rol {b} : isTy "tuple" (.rol b) = false := rfl
@[simp] theorem ty_tuple_loc {b} : isTy "tuple" (.loc b) = false := rfl
@[simp] theorem ty_list_non : isTy "list" .non = false := rfl
@[simp] theorem ty_list_bl {b} : isTy "list" (.bl b) = false := rfl
@[simp] theorem ty_list_int {b} : isTy "list" (.int b) = false := rfl
@[simp] theorem ty_list_str {b} : isTy "list" (.str b) = false := rfl
@[simp] theorem ty_list_tup {b} : isTy "list" (.tup b) = false := rfl
@[simp] theorem ty_list_lst {b} : isTy "list" (.lst b) = true := rfl
@[simp] theorem ty_list_rol {b} : isTy "list" (.rol b) = true := rfl
@[simp] theorem ty_list_loc {b} : isTy "list" (.loc b) = true := rfl
@[simp] theorem isiOk_non : isiOk S .non := trivial
@[simp] theorem isiOk_bl {b} : isiOk S (.bl b) := trivial
@[simp] theorem isiOk_int {b} : isiOk S (.int b) := trivial
@[simp] theorem isiOk_str {b} : isiOk S (.str b) := trivial
@[simp] theorem isiOk_tup {b} : isiOk S (.tup b) := trivial
@[simp] theorem isiOk_lst {b} : isiOk S (.lst b) := trivial
@[simp] theorem isiOk_rol {b} : isiOk S (.rol b) := trivial
/-! places -/
@[simp] theorem atI_lit {α : Type} {xs : List α} {n : Nat} : atI xs (no_index (OfNat.ofNat n) : Int) = xs[n]? := by
  show atI xs (n : Int) = xs[n]?
  unfold atI ixN
  rw [if_pos (Int.natCast_nonneg n)]
  split
  · rfl
  · rename_i h
    rw [List.getElem?_eq_none (by omega)]
    rfl
@[simp] theorem atI_0 {α : Type} {xs : List α} : atI xs 0 = xs[0]? := atI_lit (n := 0)
@[simp] theorem atI_1 {α : Type} {xs : List α} : atI xs 1 = xs[1]? := atI_lit (n := 1)
theorem atI_cast {α : Type} {xs : List α} {n : Nat} : atI xs ((n : Nat) : Int) = xs[n]? := atI_lit
theorem atI_pos {α : Type} {xs : List α} {i : Int} (h : 0 ≤ i) : atI xs i = xs[i.toNat]? := by
  have e : i = (i.toNat : Int) := by omega
  rw [e]
  exact atI_cast
@[simp] theorem ixN_lit {n k : Nat} : ixN n (no_index (OfNat.ofNat k) : Int) = if k < n then some k else none := by
  show ixN n (k : Int) = _
  unfold ixN
  rw [if_pos (Int.natCast_nonneg k)]
  by_cases h : k < n
  · rw [if_pos h, if_pos (by omega)]
    rfl
  · rw [if_neg h, if_neg (by omega)]
@[simp] theorem ixN_0 {n : Nat} : ixN n 0 = if 0 < n then some 0 else none := ixN_lit (k := 0)
@[simp] theorem ixN_1 {n : Nat} : ixN n 1 = if 1 < n then some 1 else none := ixN_lit (k := 1)
@[simp] theorem upd_same_ev {a : Addr} {l : List F} : updS S a l a = some l := updS_same
end
theorem oIx_mem {xs : List F} {d : Nat} {S : Sto} {Q : F → Sto → Prop} (hd : d < xs.length) (h : ∀ z, z ∈ xs → Q z S) : oIx (.lst xs) (.int (d : Int)) S Q := by
  simp [atI_cast, List.getElem?_eq_getElem hd]
  exact h _ (List.getElem_mem hd)
theorem mulOk_l {i j : Int} (h : -(2 ^ 64) < i ∧ i < 2 ^ 64) : mulOk i j := .inl (.inl h)
theorem mulOk_r {i j : Int} (h : -(2 ^ 64) < j ∧ j < 2 ^ 64) : mulOk i j := .inl (.inr h)
theorem divOk {i j : Int} (h : 0 < j) (h2 : j < 2 ^ 30) : CDivW i j := wide_div (b := 30) h (by omega) (by decide) (by decide)
@[simp] theorem wipeF_nil {ρ : Slots} : wipeF ρ [] = ρ := rfl
@[simp] theorem wipeF_cons {ρ : Slots} {v : Nat} {vs : List Nat} : wipeF ρ (v :: vs) = (wipeF ρ vs).set v none := rfl
@[simp] theorem sl_0 : (0 ≤ sizeLine) = True := eq_true (lit_line (by decide))
@[simp] theorem sl_1 : (1 ≤ sizeLine) = True := eq_true (lit_line (by decide))
@[simp] theorem sl_2 : (2 ≤ sizeLine) = True := eq_true (lit_line (by decide))
@[simp] theorem sl_3 : (3 ≤ sizeLine) = True := eq_true (lit_line (by decide))
@[simp] theorem sl_4 : (4 ≤ sizeLine) = True := eq_true (lit_line (by decide))
@[simp] theorem sl_5 : (5 ≤ sizeLine) = True := eq_true (lit_line (by decide))
@[simp] theorem sl_6 : (6 ≤ sizeLine) = True := eq_true (lit_line (by decide))
@[simp] theorem sl_7 : (7 ≤ sizeLine) = True := eq_true (lit_line (by decide))
@[simp] theorem sl_8 : (8 ≤ sizeLine) = True := eq_true (lit_line (by decide))
@[simp] theorem sl_9 : (9 ≤ sizeLine) = True := eq_true (lit_line (by decide))
@[simp] theorem sl_10 : (10 ≤ sizeLine) = True := eq_true (lit_line (by decide))
@[simp] theorem sl_11 : (11 ≤ sizeLine) = True := eq_true (lit_line (by decide))
@[simp] theorem sl_12 : (12 ≤ sizeLine) = True := eq_true (lit_line (by decide))
@[simp] theorem sl_13 : (13 ≤ sizeLine) = True := eq_true (lit_line (by decide))
@[simp] theorem sl_14 : (14 ≤ sizeLine) = True := eq_true (lit_line (by decide))
@[simp] theorem sl_15 : (15 ≤ sizeLine) = True := eq_true (lit_line (by decide))
@[simp] theorem sl_16 : (16 ≤ sizeLine) = True := eq_true (lit_line (by decide))
@[simp] theorem sl_17 : (17 ≤ sizeLine) = True := eq_true (lit_line (by decide))
@[simp] theorem sl_18 : (18 ≤ sizeLine) = True := eq_true (lit_line (by decide))
@[simp] theorem sl_19 : (19 ≤ sizeLine) = True := eq_true (lit_line (by decide))
@[simp] theorem sl_20 : (20 ≤ sizeLine) = True := eq_true (lit_line (by decide))
@[simp] theorem sl_21 : (21 ≤ sizeLine) = True := eq_true (lit_line (by decide))
@[simp] theorem sl_22 : (22 ≤ sizeLine) = True := eq_true (lit_line (by decide))
@[simp] theorem sl_23 : (23 ≤ sizeLine) = True := eq_true (lit_line (by decide))
@[simp] theorem sl_24 : (24 ≤ sizeLine) = True := eq_true (lit_line (by decide))
@[simp] theorem sl_25 : (25 ≤ sizeLine) = True := eq_true (lit_line (by decide))
@[simp] theorem sl_26 : (26 ≤ sizeLine) = True := eq_true (lit_line (by decide))
@[simp] theorem sl_27 : (27 ≤ sizeLine) = True := eq_true (lit_line (by decide))
@[simp] theorem sl_28 : (28 ≤ sizeLine) = True := eq_true (lit_line (by decide))
@[simp] theorem sl_29 : (29 ≤ sizeLine) = True := eq_true (lit_line (by decide))
@[simp] theorem sl_30 : (30 ≤ sizeLine) = True := eq_true (lit_line (by decide))
@[simp] theorem sl_31 : (31 ≤ sizeLine) = True := eq_true (lit_line (by decide))
@[simp] theorem sl_32 : (32 ≤ sizeLine) = True := eq_true (lit_line (by decide))
@[simp] theorem sl_33 : (33 ≤ sizeLine) = True := eq_true (lit_line (by decide))
@[simp] theorem sl_34 : (34 ≤ sizeLine) = True := eq_true (lit_line (by decide))
@[simp] theorem sl_35 : (35 ≤ sizeLine) = True := eq_true (lit_line (by decide))
@[simp] theorem sl_36 : (36 ≤ sizeLine) = True := eq_true (lit_line (by decide))
@[simp] theorem sl_37 : (37 ≤ sizeLine) = True := eq_true (lit_line (by decide))
@[simp] theorem sl_38 : (38 ≤ sizeLine) = True := eq_true (lit_line (by decide))
@[simp] theorem sl_39 : (39 ≤ sizeLine) = True := eq_true (lit_line (by decide))
@[simp] theorem sl_40 : (40 ≤ sizeLine) = True := eq_true (lit_line (by decide))
@[simp] theorem sl_41 : (41 ≤ sizeLine) = True := eq_true (lit_line (by decide))
@[simp] theorem sl_42 : (42 ≤ sizeLine) = True := eq_true (lit_line (by decide))
@[simp] theorem sl_43 : (43 ≤ sizeLine) = True := eq_true (lit_line (by decide))
@[simp] theorem sl_44 : (44 ≤ sizeLine) = True := eq_true (lit_line (by decide))
@[simp] theorem sl_45 : (45 ≤ sizeLine) = True := eq_true (lit_line (by decide))
@[simp] theorem sl_46 : (46 ≤ sizeLine) = True := eq_true (lit_line (by decide))
@[simp] theorem sl_47 : (47 ≤ sizeLine) = True := eq_true (lit_line (by decide))
@[simp] theorem sl_48 : (48 ≤ sizeLine) = True := eq_true (lit_line (by decide))
@[simp] theorem sl_49 : (49 ≤ sizeLine) = True := eq_true (lit_line (by decide))
@[simp] theorem sl_50 : (50 ≤ sizeLine) = True := eq_true (lit_line (by decide))
@[simp] theorem sl_51 : (51 ≤ sizeLine) = True := eq_true (lit_line (by decide))
@[simp] theorem sl_52 : (52 ≤ sizeLine) = True := eq_true (lit_line (by decide))
@[simp] theorem sl_53 : (53 ≤ sizeLine) = True := eq_true (lit_line (by decide))
@[simp] theorem sl_54 : (54 ≤ sizeLine) = True := eq_true (lit_line (by decide))
@[simp] theorem sl_55 : (55 ≤ sizeLine) = True := eq_true (lit_line (by decide))
@[simp] theorem sl_56 : (56 ≤ sizeLine) = True := eq_true (lit_line (by decide))
@[simp] theorem sl_57 : (57 ≤ sizeLine) = True := eq_true (lit_line (by decide))
@[simp] theorem sl_58 : (58 ≤ sizeLine) = True := eq_true (lit_line (by decide))
@[simp] theorem sl_59 : (59 ≤ sizeLine) = True := eq_true (lit_line (by decide))
@[simp] theorem sl_60 : (60 ≤ sizeLine) = True := eq_true (lit_line (by decide))
@[simp] theorem sl_61 : (61 ≤ sizeLine) = True := eq_true (lit_line (by decide))
@[simp] theorem sl_62 : (62 ≤ sizeLine) = True := eq_true (lit_line (by decide))
@[simp] theorem sl_63 : (63 ≤ sizeLine) = True := eq_true (lit_line (by decide))
@[simp] theorem sl_64 : (64 ≤ sizeLine) = True := eq_true (lit_line (by decide))
/-! data that no list changes in -/
mutual
def fz : F → Bool
  | .loc _ => false
  | .tup l => decide (l.length ≤ 1000000) && fzL l
  | .lst l => decide (l.length ≤ 1000000) && fzL l
  | .rol l => decide (l.length ≤ 1000000) && fzL l
  | .non => true
  | .bl _ => true
  | .int _ => true
  | .str x => PyData.strOk x
def fzL : List F → Bool
  | [] => true
  | x :: r => fz x && fzL r
end
theorem fzL_all : ∀ {l : List F}, fzL l = l.all fz
  | [] => rfl
  | x :: r => by rw [fzL, List.all_cons, fzL_all]
theorem isiOk_fz {S : Sto} {v : F} (h : fz v = true) : isiOk S v := by
  cases v <;> first | trivial | (simp [fz] at h)
end DL

set_option maxHeartbeats 4000000
namespace DL
open PySem PySem.Spec PyProof.Rows L2
/-! ### walks over lists, their turns' worth known -/
section
variable {gd : Sto → Prop} {g : DG} {mt : W Bool} {me : W F} {ρ : Slots}
theorem compL_map (h : F → F) {S : Sto} (hgd : gd S) {QL : List F → Sto → Prop} : ∀ (xs acc : List F), (∀ x, x ∈ xs → ∀ Q : F → Sto → Prop, Q (h x) S → g x ρ S fun ρ2 S2 => me ρ2 S2 Q) → QL (acc ++ xs.map h) S → compL gd g wYes me ρ xs acc S QL
  | [], acc, _, q => ⟨hgd, by simpa using q⟩
  | x :: r, acc, ht, q => by
    refine ⟨hgd, ?_⟩
    simp only [wYes, if_true]
    exact ht x (List.mem_cons_self ..) _ (compL_map h hgd r (acc ++ [h x]) (fun y hy => ht y (List.mem_cons_of_mem _ hy)) (by simpa using q))
/-- with a test that is worth p -/
theorem compL_filter (p : F → Bool) (h : F → F) {S : Sto} (hgd : gd S) {QL : List F → Sto → Prop} : ∀ (xs acc : List F),
    (∀ x, x ∈ xs → ∀ (A : F → Sto → Prop) (N : Sto → Prop), (p x = true → A (h x) S) → (p x = false → N S) → g x ρ S fun ρ2 S2 => mt ρ2 S2 fun b S3 => if b = true then me ρ2 S3 A else N S3) →
    QL (acc ++ (xs.filter p).map h) S → compL gd g mt me ρ xs acc S QL
  | [], acc, _, q => ⟨hgd, by simpa using q⟩
  | x :: r, acc, ht, q => by
    refine ⟨hgd, ?_⟩
    refine ht x (List.mem_cons_self ..) _ _ (fun e => ?_) (fun e => ?_)
    · exact compL_filter p h hgd r (acc ++ [h x]) (fun y hy => ht y (List.mem_cons_of_mem _ hy)) (by simpa [List.filter_cons, e] using q)
    · exact compL_filter p h hgd r acc (fun y hy => ht y (List.mem_cons_of_mem _ hy)) (by simpa [List.filter_cons, e] using q)
/-- turns that change the store: what holds of what is made so far and the store -/
theorem compL_inv (I : List F → Sto → Prop) {QL : List F → Sto → Prop} : ∀ (xs acc : List F) (S : Sto), (∀ acc S, I acc S → gd S) →
    (∀ x, x ∈ xs → ∀ acc S (Q : F → Sto → Prop), I acc S → (∀ y S3, I (acc ++ [y]) S3 → Q y S3) → g x ρ S fun ρ2 S2 => me ρ2 S2 Q) → I acc S →
    (∀ acc' S', I acc' S' → acc'.length = acc.length + xs.length → QL acc' S') → compL gd g wYes me ρ xs acc S QL
  | [], acc, S, hg, ht, hi, q => ⟨hg _ _ hi, q _ _ hi rfl⟩
  | x :: r, acc, S, hg, ht, hi, q => by
    refine ⟨hg _ _ hi, ?_⟩
    simp only [wYes, if_true]
    refine ht x (List.mem_cons_self ..) acc S _ hi fun y S3 h => ?_
    exact compL_inv I r (acc ++ [y]) S3 hg (fun z hz => ht z (List.mem_cons_of_mem _ hz)) h (fun acc' S' h' e => q acc' S' h' (by rw [e, List.length_append, List.length_cons, List.length_cons, List.length_nil]; omega))
/-- items by a function -/
theorem compL_mapT {α : Type} (e h : α → F) {S : Sto} (hgd : gd S) {QL : List F → Sto → Prop} (xs : List α) (acc : List F) (ht : ∀ x, x ∈ xs → ∀ Q : F → Sto → Prop, Q (h x) S → g (e x) ρ S fun ρ2 S2 => me ρ2 S2 Q) (q : QL (acc ++ xs.map h) S) : compL gd g wYes me ρ (xs.map e) acc S QL := by
  induction xs generalizing acc with
  | nil => exact ⟨hgd, by simpa using q⟩
  | cons x r ih =>
    refine ⟨hgd, ?_⟩
    simp only [wYes, if_true]
    exact ht x (List.mem_cons_self ..) _ (ih (acc ++ [h x]) (fun y hy => ht y (List.mem_cons_of_mem _ hy)) (by simpa using q))
theorem compL_filterT {α : Type} (e : α → F) (p : α → Bool) (h : α → F) {S : Sto} (hgd : gd S) {QL : List F → Sto → Prop} (xs : List α) (acc : List F)
    (ht : ∀ x, x ∈ xs → ∀ (A : F → Sto → Prop) (N : Sto → Prop), (p x = true → A (h x) S) → (p x = false → N S) → g (e x) ρ S fun ρ2 S2 => mt ρ2 S2 fun b S3 => if b = true then me ρ2 S3 A else N S3)
    (q : QL (acc ++ (xs.filter p).map h) S) : compL gd g mt me ρ (xs.map e) acc S QL := by
  induction xs generalizing acc with
  | nil => exact ⟨hgd, by simpa using q⟩
  | cons x r ih =>
    refine ⟨hgd, ?_⟩
    refine ht x (List.mem_cons_self ..) _ _ (fun e => ?_) (fun e => ?_)
    · exact ih (acc ++ [h x]) (fun y hy => ht y (List.mem_cons_of_mem _ hy)) (by simpa [List.filter_cons, e] using q)
    · exact ih acc (fun y hy => ht y (List.mem_cons_of_mem _ hy)) (by simpa [List.filter_cons, e] using q)
/-- a for, by what holds of the slots and the store -/
theorem forL_inv {gd : Sto → Prop} {g : DG} {t : WS} {D : EndsD} (I : Slots → Sto → Prop) : ∀ (xs : List F) (ρ : Slots) (S : Sto), I ρ S → (∀ ρ S, I ρ S → gd S) →
    (∀ x, x ∈ xs → ∀ ρ S (N : Slots → Sto → Prop), I ρ S → (∀ ρ' S', I ρ' S' → N ρ' S') → g x ρ S fun ρ1 S1 => t { nx := N, rt := D.rt, bk := D.nx, ct := N } ρ1 S1) → (∀ ρ S, I ρ S → D.nx ρ S) → forL gd g t xs D ρ S
  | [], ρ, S, hi, hg, hs, hf => ⟨hg _ _ hi, hf _ _ hi⟩
  | x :: r, ρ, S, hi, hg, hs, hf => ⟨hg _ _ hi, hs x (List.mem_cons_self ..) ρ S _ hi fun ρ' S' h => forL_inv I r ρ' S' h hg (fun y hy => hs y (List.mem_cons_of_mem _ hy)) hf⟩
theorem rngL_map (lo : Int) (n : Nat) : rngL lo n = (List.range n).map fun i => F.int (lo + (i : Nat)) := rfl
end
/-! ### the law's box and its draws; sameness -/
def W_box : WS :=
  (sRet (wOwn (wLst (wCons (wOwn (wCall cList (wCons (wSl (wVar 0) wNoPart (wPart (wC (.int 63)))) wNil))) (wCons (wC (.int 0)) (wCons (wOp oAdd (wC (.int 4711)) (wCall cLen (wCons (wVar 0) wNil))) wNil))))))
def W_load : WS :=
  (sSeq (sAsg (wOp oIx (wVar 0) (wC (.int 0))) (gN 1))
    (sSeq (sIf (wTst (wOp oGt (wCall cLen (wCons (wVar 1) wNil)) (wC (.int 0)))) (sSeq (sAsg (wCall cInt (wCons (wMt mPopAt (wVar 1) (wCons (wC (.int 0)) wNil)) wNil)) (gN 2))
    (sSeq (sAsg (wIf (wTst (wOp oGe (wVar 2) (wC (.int 0)))) (wOp oMul (wC (.int 2)) (wVar 2)) (wOp oSub (wOp oMul (wNeg (wC (.int 2))) (wVar 2)) (wC (.int 1)))) (gN 3))
    (sSeq (sIf (wTst (wOp oGe (wVar 3) (wC (.int 1000000000000000000)))) (sRet (wVar 3)) sNext)
    (sAsg (wOp oMod (wCall cInt (wCons (wOp oAdd (wOp oAdd (wOp oMul (wOp oIx (wVar 0) (wC (.int 2))) (wC (.int 69621))) (wOp oMul (wVar 3) (wC (.int 48271)))) (wC (.int 11))) wNil)) (wC (.int 2147483647))) (gSubL (wVar 0) (wC (.int 2))))))) sNext)
    (sSeq (sAsg (wOp oMod (wCall cInt (wCons (wOp oAdd (wOp oMul (wOp oIx (wVar 0) (wC (.int 2))) (wC (.int 48271))) (wC (.int 17))) wNil)) (wC (.int 2147483629))) (gN 4))
    (sSeq (sAsg (wOp oMod (wCall cInt (wCons (wOp oAdd (wOp oMul (wVar 4) (wC (.int 69621))) (wC (.int 5))) wNil)) (wC (.int 2147483587))) (gN 5))
    (sSeq (sAsg (wOp oMod (wCall cInt (wCons (wOp oAdd (wOp oMul (wVar 5) (wC (.int 40692))) (wC (.int 3))) wNil)) (wC (.int 2147483563))) (gSubL (wVar 0) (wC (.int 2))))
    (sRet (wOp oAdd (wOp oAdd (wOp oMul (wVar 4) (wC (.int 4611686014132420609))) (wOp oMul (wVar 5) (wC (.int 2147483647)))) (wOp oIx (wVar 0) (wC (.int 2))))))))))
def W_draw (c__law_load : Ct) : WS :=
  (sSeq (sIf (wTst (wOp oLt (wOp oIx (wVar 0) (wC (.int 1))) (wVar 1))) (sAsg (wCall c__law_load (wCons (wVar 0) wNil)) (gSubL (wVar 0) (wC (.int 1)))) sNext)
    (sSeq (sAsg (wOp oMod (wCall cInt (wCons (wOp oIx (wVar 0) (wC (.int 1))) wNil)) (wVar 1)) (gN 2))
    (sSeq (sAsg (wOp oDiv (wOp oIx (wVar 0) (wC (.int 1))) (wVar 1)) (gSubL (wVar 0) (wC (.int 1))))
    (sRet (wVar 2)))))
def W_same (c__law_same : Ct) : WS :=
  (sSeq (sIf (bOr (bAnd (wTst (wIsi "tuple" (wVar 0))) (wTst (wIsi "tuple" (wVar 1)))) (bAnd (wTst (wIsi "list" (wVar 0))) (wTst (wIsi "list" (wVar 1))))) (sRet (wAnd (wOp oEq (wCall cLen (wCons (wVar 0) wNil)) (wCall cLen (wCons (wVar 1) wNil))) (wCall cAll (wCons (wFrz (wComp [2] (wRange1 (wCons (wCall cLen (wCons (wVar 0) wNil)) wNil)) (gN 2) wYes (wCall c__law_same (wCons (wOp oIx (wVar 0) (wVar 2)) (wCons (wOp oIx (wVar 1) (wVar 2)) wNil))))) wNil)))) sNext)
    (sSeq (sIf (bOr (wTst (wIsi "bool" (wVar 0))) (wTst (wIsi "bool" (wVar 1)))) (sRet (wAnd (wIsi "bool" (wVar 0)) (wAnd (wIsi "bool" (wVar 1)) (wOp oEq (wVar 0) (wVar 1))))) sNext)
    (sSeq (sIf (bOr (bAnd (wTst (wIsi "int" (wVar 0))) (wTst (wIsi "int" (wVar 1)))) (bAnd (wTst (wIsi "str" (wVar 0))) (wTst (wIsi "str" (wVar 1))))) (sRet (wOp oEq (wVar 0) (wVar 1))) sNext)
    (sRet (wAnd (wOp oIs (wVar 0) (wC .non)) (wOp oIs (wVar 1) (wC .non)))))))
def BoxAt (S : Sto) (b c : Addr) : Prop := b ≠ c ∧ ∃ (x y : Int) (cells : List Int), S b = some [.loc c, .int x, .int y] ∧ S c = some (cells.map F.int)
/-- all but the box stands -/
def Fr (S S' : Sto) (b c : Addr) : Prop := ∀ a, a ≠ b → a ≠ c → S' a = S a
theorem Fr.refl {S : Sto} {b c : Addr} : Fr S S b c := fun _ _ _ => rfl
theorem Fr.trans {S S1 S2 : Sto} {b c : Addr} (h : Fr S S1 b c) (k : Fr S1 S2 b c) : Fr S S2 b c := fun a x y => (k a x y).trans (h a x y)
theorem BoxAt.b {S : Sto} {b c : Addr} (h : BoxAt S b c) : S b ≠ none := by
  obtain ⟨_, x, y, cs, e, _⟩ := h
  rw [e]
  simp
theorem BoxAt.c {S : Sto} {b c : Addr} (h : BoxAt S b c) : S c ≠ none := by
  obtain ⟨_, x, y, cs, _, e⟩ := h
  rw [e]
  simp
def C_box : Ct := fun xs S Q => ∃ ns : List Int, xs = [.rol (ns.map F.int)] ∧ ns.length ≤ 63 ∧ ∀ b c S', BoxAt S' b c → S b = none → S c = none → Fr S S' b c → Q (.loc b) S'
theorem mono_C_box : MonoC C_box := fun xs S Q Q' k ⟨ns, e, h, q⟩ => ⟨ns, e, h, fun b c S' h1 h2 h3 h4 => k _ _ (q b c S' h1 h2 h3 h4)⟩
theorem cut_map {α β : Type} (f : α → β) (xs : List α) (lo hi : Option Int) : cut (xs.map f) lo hi = (cut xs lo hi).map f := by
  unfold cut
  rw [List.length_map, List.map_take, List.map_drop]
theorem cut_length {α : Type} (xs : List α) (lo hi : Option Int) : (cut xs lo hi).length ≤ xs.length := by
  unfold cut
  rw [List.length_take, List.length_drop]
  omega
theorem sp_box (fs : List F) (S : Sto) (Q) (h : C_box fs S Q) : fs.length = 1 ∧ W_box { nx := fun _ S' => Q .non S', rt := fun d S' => Q d S' } (startF 1 fs) S := by
  obtain ⟨ns, rfl, hl, q⟩ := h
  refine ⟨rfl, ?_⟩
  show W_box _ [some (.rol (ns.map F.int))] S
  simp [W_box]
  refine fun c hc b hb => ?_
  have hbc : b ≠ c := fun e => by
    subst e
    rw [updS_same] at hb
    cases hb
  rw [updS_ne hbc] at hb
  refine q b c _ ⟨hbc, 0, _, cut ns none (some 63), updS_same, ?_⟩ hb hc fun a h1 h2 => ?_
  · rw [updS_ne hbc.symm, updS_same, cut_map]
  · rw [updS_ne h1, updS_ne h2]
def C_load : Ct := fun xs S Q => ∃ b c, xs = [.loc b] ∧ BoxAt S b c ∧ ∀ (d : Int) S', BoxAt S' b c → Fr S S' b c → Q (.int d) S'
theorem mono_C_load : MonoC C_load := fun xs S Q Q' k ⟨b, c, e, h, q⟩ => ⟨b, c, e, h, fun d S' h1 h2 => k _ _ (q d S' h1 h2)⟩
theorem sp_load (fs : List F) (S : Sto) (Q) (h : C_load fs S Q) : fs.length = 1 ∧ W_load { nx := fun _ S' => Q .non S', rt := fun d S' => Q d S' } (startF 6 fs) S := by
  obtain ⟨b, c, rfl, ⟨hbc, x, y, cells, hb, hc⟩, q⟩ := h
  refine ⟨rfl, ?_⟩
  show W_load _ [some (.loc b), none, none, none, none, none] S
  have hcb : c ≠ b := fun e => hbc e.symm
  have fin : ∀ (S1 : Sto) (x1 y1 : Int) (cs : List Int) (d : Int), S1 b = some [.loc c, .int x1, .int y1] → S1 c = some (cs.map F.int) → (∀ a, a ≠ b → a ≠ c → S1 a = S a) → Q (.int d) S1 :=
    fun S1 x1 y1 cs d h1 h2 h3 => q d S1 ⟨hbc, x1, y1, cs, h1, h2⟩ h3
  cases cells with
  | nil =>
    simp [W_load, hb, hc, mulOk, CMul]
    exact fin _ _ _ [] _ updS_same (by rw [updS_ne hcb]; exact hc) fun a h1 h2 => by rw [updS_ne h1]
  | cons z cs =>
    simp [W_load, hb, hc, mulOk, CMul, updS_ne hbc, updS_ne hcb]
    have f1 : ∀ v w : Int, ∀ d, Q (.int d) (updS (updS (updS S c (cs.map F.int)) b [.loc c, .int x, .int v]) b [.loc c, .int x, .int w]) := fun v w d =>
      fin _ _ _ cs _ updS_same (by rw [updS_ne hcb, updS_ne hcb, updS_same]) fun a h1 h2 => by rw [updS_ne h1, updS_ne h1, updS_ne h2]
    have f2 : ∀ d, Q (.int d) (updS S c (cs.map F.int)) := fun d => fin _ x y cs _ (by rw [updS_ne hbc]; exact hb) updS_same fun a h1 h2 => by rw [updS_ne h2]
    split
    · split
      · exact f2 _
      · exact f1 _ _ _
    · split
      · exact f2 _
      · exact f1 _ _ _
def C_draw : Ct := fun xs S Q => ∃ b c many, xs = [.loc b, .int many] ∧ BoxAt S b c ∧ 0 < many ∧ many < 2 ^ 30 ∧ ∀ (d : Nat) S', (d : Int) < many → BoxAt S' b c → Fr S S' b c → Q (.int (d : Int)) S'
theorem mono_C_draw : MonoC C_draw := fun xs S Q Q' k ⟨b, c, m, e, h, m1, m2, q⟩ => ⟨b, c, m, e, h, m1, m2, fun d S' h2 h3 h4 => k _ _ (q d S' h2 h3 h4)⟩
theorem call_draw {S : Sto} {Q : F → Sto → Prop} {b c : Addr} {many : Int} (h : BoxAt S b c) (h1 : 0 < many) (h2 : many < 2 ^ 30) (q : ∀ (d : Nat) S', (d : Int) < many → BoxAt S' b c → Fr S S' b c → Q (.int (d : Int)) S') : C_draw [.loc b, .int many] S Q := ⟨b, c, many, rfl, h, h1, h2, q⟩
theorem sp_draw (fs : List F) (S : Sto) (Q) (h : C_draw fs S Q) : fs.length = 2 ∧ W_draw C_load { nx := fun _ S' => Q .non S', rt := fun d S' => Q d S' } (startF 3 fs) S := by
  obtain ⟨b, c, many, rfl, hbox, m1, m2, q⟩ := h
  refine ⟨rfl, ?_⟩
  show W_draw _ _ [some (.loc b), some (.int many), none] S
  have rest : ∀ S1, BoxAt S1 b c → Fr S S1 b c → (sSeq (sAsg (wOp oMod (wCall cInt (wCons (wOp oIx (wVar 0) (wC (.int 1))) wNil)) (wVar 1)) (gN 2))
    (sSeq (sAsg (wOp oDiv (wOp oIx (wVar 0) (wC (.int 1))) (wVar 1)) (gSubL (wVar 0) (wC (.int 1))))
    (sRet (wVar 2)))) { nx := fun _ S' => Q .non S', rt := fun d S' => Q d S' } [some (.loc b), some (.int many), none] S1 := by
    rintro S1 ⟨hbc, x, y, cells, hb, hc⟩ fr
    simp [hb]
    refine ⟨m1, divOk m1 m2, ?_⟩
    have e0 := Int.emod_nonneg x (show many ≠ 0 by omega)
    have e1 := Int.emod_lt_of_pos x m1
    have e2 : x % many = ((x % many).toNat : Int) := by omega
    rw [e2]
    refine q _ _ (by omega) ⟨hbc, _, y, cells, updS_same, ?_⟩ (fr.trans fun a h1 h2 => updS_ne h1)
    rw [updS_ne hbc.symm]
    exact hc
  have hbox' := hbox
  obtain ⟨hbc, x, y, cells, hb, hc⟩ := hbox'
  unfold W_draw
  rw [sSeq_ev]
  simp only [sIf_ev, wTst_ev, wOp_ev, wVar_0, wC_ev, oIx_loc, hb, atI_1, List.getElem?_cons_succ, List.getElem?_cons_zero, wVar_s, oLt_ii, asB_ev, decide_eq_true_eq]
  split
  · simp only [sAsg_ev, wCall_ev, wCons_ev, wVar_0, wNil_ev]
    refine ⟨b, c, rfl, hbox, fun d S1 h1 fr => ?_⟩
    have h1' := h1
    obtain ⟨_, x1, y1, cells1, hb1, hc1⟩ := h1'
    simp only [gSubL_ev, wVar_0, wC_ev, oSetL_ev, hb1, ixN_1]
    simp
    have := rest _ ⟨hbc, d, y1, cells1, updS_same, by rw [updS_ne hbc.symm]; exact hc1⟩ (fr.trans fun a h1 h2 => updS_ne h1)
    simpa using this
  · exact rest S hbox Fr.refl
mutual
def dep : F → Nat
  | .tup l => depL l + 1
  | .lst l => depL l + 1
  | .rol l => depL l + 1
  | _ => 0
def depL : List F → Nat
  | [] => 0
  | x :: r => max (dep x) (depL r)
end
theorem dep_mem : ∀ {l : List F} {x : F}, x ∈ l → dep x ≤ depL l
  | y :: r, x, h => by
    unfold depL
    rcases List.mem_cons.mp h with e | h
    · rw [e]
      omega
    · have := dep_mem h
      omega
theorem fz_mem {l : List F} {x : F} (h : fzL l = true) (hx : x ∈ l) : fz x = true := by
  rw [fzL_all] at h
  exact List.all_eq_true.mp h x hx
/-- two equal values, of this depth at most -/
def C_same (n : Nat) : Ct := fun xs S Q => ∃ a, xs = [a, a] ∧ fz a = true ∧ dep a ≤ n ∧ Q (.bl true) S
theorem mono_C_same {n : Nat} : MonoC (C_same n) := fun xs S Q Q' k ⟨a, e, h1, h2, q⟩ => ⟨a, e, h1, h2, k _ _ q⟩
theorem call_same {n : Nat} {S : Sto} {Q : F → Sto → Prop} {a b : F} (e : a = b) (h1 : fz a = true) (h2 : dep a ≤ n) (q : Q (.bl true) S) : C_same n [a, b] S Q := by
  subst e
  exact ⟨a, rfl, h1, h2, q⟩
theorem mem_rng {lo : Int} {n : Nat} {x : F} (h : x ∈ rngL lo n) : ∃ k : Nat, k < n ∧ x = .int (lo + k) := by
  unfold rngL at h
  obtain ⟨k, hk, e⟩ := List.mem_map.mp h
  exact ⟨k, List.mem_range.mp hk, e.symm⟩
@[simp] theorem rngL_length {lo : Int} {n : Nat} : (rngL lo n).length = n := by simp [rngL]
theorem fz_tup {l : List F} (h : fz (.tup l) = true) : l.length ≤ 1000000 ∧ fzL l = true := by
  unfold fz at h
  rw [Bool.and_eq_true, decide_eq_true_eq] at h
  exact h
theorem fz_lst {l : List F} (h : fz (.lst l) = true) : l.length ≤ 1000000 ∧ fzL l = true := by
  unfold fz at h
  rw [Bool.and_eq_true, decide_eq_true_eq] at h
  exact h
theorem fz_rol {l : List F} (h : fz (.rol l) = true) : l.length ≤ 1000000 ∧ fzL l = true := by
  unfold fz at h
  rw [Bool.and_eq_true, decide_eq_true_eq] at h
  exact h
theorem mil {n : Nat} (h : n ≤ 1000000) : n ≤ sizeLine := by
  rw [sizeLine_eq]
  omega
theorem all_true {α : Type} (l : List α) : (l.map fun _ => F.bl true) = (l.map fun _ => true).map F.bl := by
  rw [List.map_map]
  rfl
theorem okF_str {x : Str} (h : PyData.strOk x = true) : okF (.str x) = true := by simp [okF, SeqAt.shaped, py, PyData.canLay0, PyData.depth, h]
theorem same_in {S : Sto} {Q : F → Sto → Prop} {n : Nat} {gd : Sto → Prop} (hgd : gd S) {l : List F} {a : F} (hl : fzL l = true) (hd : depL l ≤ n) (ix : ∀ (i : Int) (S : Sto) (Q : F → Sto → Prop), oIx a (.int i) S Q = (match atI l i with | some z => Q z S | none => False)) (q : Q (.bl true) S) :
    compL gd (gN 2) wYes (wCall (C_same n) (wCons (wOp oIx (wVar 0) (wVar 2)) (wCons (wOp oIx (wVar 1) (wVar 2)) wNil))) [some a, some a, none] (rngL 0 l.length) [] S (fun xs S1 => cAll [.lst xs] S1 Q) := by
  refine compL_map (fun _ => .bl true) hgd _ _ (fun x hx Q2 q2 => ?_) ?_
  · obtain ⟨k, hk, rfl⟩ := mem_rng hx
    have e : l[k]? = some l[k] := List.getElem?_eq_getElem hk
    have hm : l[k] ∈ l := List.getElem_mem hk
    simp [ix, atI_cast, e]
    exact call_same rfl (fz_mem hl hm) (Nat.le_trans (dep_mem hm) hd) q2
  · rw [List.nil_append, all_true, cAll_l]
    have : ((rngL 0 l.length).map fun _ => true).all id = true := by simp
    rw [this]
    exact q
theorem sp_same (n : Nat) (fs : List F) (S : Sto) (Q) (h : C_same (n + 1) fs S Q) : fs.length = 2 ∧ W_same (C_same n) { nx := fun _ S' => Q .non S', rt := fun d S' => Q d S' } (startF 3 fs) S := by
  obtain ⟨a, rfl, hz, hd, q⟩ := h
  refine ⟨rfl, ?_⟩
  show W_same _ _ [some a, some a, none] S
  cases a with
  | tup l =>
    obtain ⟨hl, hz⟩ := fz_tup hz
    simp [W_same]
    refine ⟨by omega, mil hl, ?_⟩
    exact same_in trivial hz (by unfold dep at hd; omega) (fun _ _ _ => rfl) q
  | lst l =>
    obtain ⟨hl, hz⟩ := fz_lst hz
    simp [W_same]
    refine ⟨by omega, mil hl, ?_⟩
    exact same_in trivial hz (by unfold dep at hd; omega) (fun _ _ _ => rfl) q
  | rol l =>
    obtain ⟨hl, hz⟩ := fz_rol hz
    simp [W_same]
    refine ⟨by omega, mil hl, ?_⟩
    exact same_in trivial hz (by unfold dep at hd; omega) (fun _ _ _ => rfl) q
  | loc a => simp [fz] at hz
  | str x =>
    unfold fz at hz
    simpa [W_same, okF_str hz] using q
  | _ => simpa [W_same] using q
def C_never : Ct := fun _ _ _ => False
theorem sp_same0 (fs : List F) (S : Sto) (Q) (h : C_same 0 fs S Q) : fs.length = 2 ∧ W_same C_never { nx := fun _ S' => Q .non S', rt := fun d S' => Q d S' } (startF 3 fs) S := by
  obtain ⟨a, rfl, hz, hd, q⟩ := h
  refine ⟨rfl, ?_⟩
  show W_same _ _ [some a, some a, none] S
  cases a with
  | tup l => simp [dep] at hd
  | lst l => simp [dep] at hd
  | rol l => simp [dep] at hd
  | loc a => simp [fz] at hz
  | str x =>
    unfold fz at hz
    simpa [W_same, okF_str hz] using q
  | _ => simpa [W_same] using q
section
variable {P : Program} {w : World} {K : PySem.W.Frag} {mg : Str → Option Value} {base : Heap}
theorem cal_never {x qual : Str} {params : Arguments} {body : List Stmt} {scope : Scope} {f : Addr} {fd : FuncData} {ps : List Str} (F : FunD K x qual params body scope [] [] f fd) (g : mg x = some (.ref f)) (b : L2.Binds K fd ps []) : Cal P w K mg base 0 x ps C_never :=
  ⟨f, fd, F.kp, g, b, fun _ _ _ _ _ h => h.elim, ⟨fun vs H Q E ⟨_, _, _, _, _, h⟩ => h.elim, fun A outer s H args us vs Q E _ _ _ _ ⟨_, _, _, _, _, h⟩ => h.elim⟩⟩
theorem same_cal {params : Arguments} {body : List Stmt} {scope : Scope} {f : Addr} {fd : FuncData}
    (ok : ∀ (lv : Nat) {Crec C : Ct}, Cal P w K mg base lv "_law_same" ["a", "b"] Crec → MonoC C → (∀ fs S Q, C fs S Q → fs.length = 2 ∧ W_same Crec { nx := fun _ S' => Q .non S', rt := fun d S' => Q d S' } (startF 3 fs) S) → FnD P w K mg base (lv + 1) f fd ["a", "b"] C)
    (F : FunD K "_law_same" "_law_same" params body scope [] [] f fd) (g : mg "_law_same" = some (.ref f)) (b : L2.Binds K fd ["a", "b"] []) : ∀ n, Cal P w K mg base (n + 1) "_law_same" ["a", "b"] (C_same n)
  | 0 => cal_of F g b (ok 0 (cal_never F g b) mono_C_same sp_same0)
  | n + 1 => cal_of F g b (ok (n + 1) (same_cal ok F g b n) mono_C_same (sp_same n))
end
end DL

set_option maxHeartbeats 4000000
namespace HT
open PySem PySem.Spec PyProof.Rows L2
section
variable {prog : Program} {w : World} {A : Around} {E : Value → Shared → Prop} {s : Shared}
theorem sliceApplied_rev {sl : Addr} {vl vu vs : Value} {n : Nat} {Q : Int × Int × Nat → Shared → Prop} (hs : s.heap.IsSliceOf sl vl vu vs) (pl : IsPart vl none) (pu : IsPart vu none) (ps : IsPart vs (some (-1)))
    (h : Q ((n : Int) - 1, -1, n) s) : wpAny (model prog w) A (Builtin.Slice.sliceApplied (.ref sl) (pure (n : Int))) Q E s := by
  obtain ⟨os, hos, hcs, hds⟩ := id hs
  unfold Builtin.Slice.sliceApplied Builtin.Slice.sliceFields
  refine wpAny_bind (wpAny_bind (wpAny_field hos hds (x := vl) rfl (wpAny_bind (wpAny_field hos hds (x := vu) rfl (wpAny_bind (wpAny_field hos hds (x := vs) rfl (wpAny_pure ?_)))))))
  refine wpAny_bind (slicePart_ ps ?_)
  show wpAny _ _ (if ((-1 : Int) == 0) = true then _ else _) _ _ s
  rw [if_neg (by decide)]
  refine wpAny_bind (slicePart_ pl (wpAny_bind (slicePart_ pu (wpAny_bind (wpAny_pure ?_)))))
  have e : Builtin.Slice.slicePlaces ((n : Int) - 1) (-1) (-1) = n := by
    unfold Builtin.Slice.slicePlaces
    rw [if_neg (by decide)]
    by_cases h0 : n = 0
    · subst h0
      rfl
    · rw [if_pos (by omega)]
      simp
  show wpAny _ _ (pure ((n : Int) - 1, (-1 : Int), Builtin.Slice.slicePlaces ((n : Int) - 1) (-1) (-1))) _ _ s
  rw [e]
  exact wpAny_pure h
theorem pick_rev (xs : Array Value) : ((List.range xs.size).filterMap fun (m : Nat) => xs[(((xs.size : Nat) : Int) - 1 + (m : Int) * (-1)).toNat]?).toArray = xs.toList.reverse.toArray := by
  have e : (fun (m : Nat) => xs[(((xs.size : Nat) : Int) - 1 + (m : Int) * (-1)).toNat]?) = (fun (k : Nat) => xs[k]?) ∘ fun (m : Nat) => (((xs.size : Nat) : Int) - 1 + (m : Int) * (-1)).toNat := rfl
  rw [e, ← List.filterMap_map]
  have e2 : (List.range xs.size).map (fun m : Nat => (((xs.size : Nat) : Int) - 1 + (m : Int) * (-1)).toNat) = (List.range xs.size).reverse := by
    rw [← PySem.W.krv_range]
    refine List.map_congr_left fun m hm => ?_
    have := List.mem_range.mp hm
    omega
  rw [e2, List.filterMap_reverse, PySem.W.krv_all]
theorem getItem_tuple_rev {t sl : Addr} {items : Array Value} {vl vu vs : Value} {Q : Value → Shared → Prop} (ht : IsTup s.heap t items) (hs : s.heap.IsSliceOf sl vl vu vs) (pl : IsPart vl none) (pu : IsPart vu none) (ps : IsPart vs (some (-1)))
    (h : Q (.ref s.heap.objs.size) { s with heap := s.heap.push { cls := .type "tuple", data := .seq items.toList.reverse.toArray } })
    (hsz : items.size ≤ sizeLine) : wpAny (model prog w) A (getItem (.ref t) (.ref sl)) Q E s := by
  have htake : sizeOk (.seq items.toList.reverse.toArray) := by
    show items.toList.reverse.toArray.size ≤ sizeLine
    rw [List.size_toArray, List.length_reverse, Array.length_toList]
    omega
  obtain ⟨os, hos, hcs, hds⟩ := id hs
  have hTs : s.TypeIs (.ref sl) "slice" := ⟨os, hos, hcs⟩
  unfold getItem
  try with_reducible refine wpAny_holding ?_
  first | refine wpAny_bind (wpAny_pure ?_) | skip
  refine wpAny_bind (wpAny_sequenceKey ht.typeIs (by decide) ?_)
  refine wpAny_bind (wpAny_callSpecial?_slot (name := Str.ofString "__getitem__") ht.typeIs PyProof.Rows.slot_tuple_getitem
    (wpAny_call_entry PyProof.Rows.slot_tuple_getitem ht.typeIs entry_tuple_getitem ?_ (args_tuple_getitem _ _)))
  show wpAny _ _ (Builtin.Tuple.tupleItemsOf (.ref t) >>= _) _ _ s
  refine wpAny_bind (tupleItemsOf_ ht ?_)
  refine wpAny_bind (wpAny_typeOf hTs ?_)
  rw [if_pos (by decide)]
  refine wpAny_bind (sliceApplied_rev hs pl pu ps ?_)
  show wpAny _ _ (if ((((items.size : Nat) : Int) - 1) == 0 && (-1 : Int) == 1 && items.size == items.size) = true then _ else _) _ _ s
  rw [if_neg (by simp), pick_rev]
  first
    | exact wpAny_bind (m := Builtin.Tuple.tupleExact _) (wpAny_newObj_type (wpAny_pure ⟨_, rfl, wpAny_pure h⟩) htake)
    | exact wpAny_bind (m := Builtin.Tuple.tupleExact _) (wpAny_newObj_type (wpAny_bind (wpAny_pure (wpAny_pure ⟨_, rfl, wpAny_pure h⟩))) htake)
    | exact wpAny_bind (wpAny_bind (m := Builtin.Tuple.tupleExact _) (wpAny_newObj_type (wpAny_pure (wpAny_pure ⟨_, rfl, wpAny_pure h⟩)) htake))
    | exact wpAny_bind (wpAny_bind (m := Builtin.Tuple.tupleExact _) (wpAny_newObj_type (wpAny_pure ⟨_, rfl, wpAny_pure h⟩) htake))
end
section
variable {X : Cx}
def tRevT (K : PySem.W.Frag) (te : TE) : TE := fun σ H Q => te σ H fun x H1 => ∃ a xs, x = .ref a ∧ SqT K H1 a xs ∧ ∀ p, H1 p = none → Q (.ref p) (upd H1 p (.tup xs.reverse))
theorem pe_revT {e : Expr} {te : TE} {k : Nat} {p1 p2 p3 pos : Pos} (he : PE X e te) : PE X (.Subscript e (.Slice none none (some (.UnaryOp .USub (.Constant (.int 1) k p1) p2)) p3) pos) (tRevT X.K te) := by
  refine ⟨fun pins s σ H Q I h => ?_⟩
  refine Subscript_ (thn (he.run pins s σ H _ I h) fun v s1 ⟨x, H1, I1, r1, q1⟩ => ?_)
  obtain ⟨a, xs, ex, hx, q⟩ := q1
  subst ex
  cases r1
  have hst : PO X (some (.UnaryOp .USub (.Constant (.int 1) k p1) p2)) (tPart (tUn (rU fun i => .int (-i)) (tC (.int 1)))) := po_some (pe_un un_neg pe_int)
  refine wpAny_Slice (thn (po_none.run pins s1 σ H1 (fun o H2 => o = none ∧ H2 = H1) I1 ⟨rfl, rfl⟩) fun vl s2 ⟨l, H2, I2, pl, el, e2⟩ => ?_)
  subst el e2
  refine thn (po_none.run pins s2 σ H2 (fun o H3 => o = none ∧ H3 = H2) I2 ⟨rfl, rfl⟩) fun vu s3 ⟨u, H3, I3, pu, eu, e3⟩ => ?_
  subst eu e3
  refine thn (hst.run pins s3 σ H3 (fun o H4 => o = some (-1) ∧ H4 = H3) I3 ⟨1, rfl, -1, rfl, rfl, rfl⟩) fun vs s4 ⟨o, H4, I4, ps, eo, e4⟩ => ?_
  subst eo e4
  have I5 : Inv X pins σ H4 { s4 with heap := s4.heap.push { cls := .type "slice", data := .fields #[vl, vu, vs] } } := I4.kept (t' := s4.toks) fun b ob q => Heap.get?_push_of_some _ q
  obtain ⟨its, r, ht, hz⟩ := I5.tuple hx
  have hlen := r.length
  show wpAny (model X.prog X.w) X.A (subscriptTail e (.Slice none none (some (.UnaryOp .USub (.Constant (.int 1) k p1) p2)) p3) (.ref a) (.ref s4.heap.objs.size)) (EP X pins σ Q) X.xe { s4 with heap := s4.heap.push { cls := .type "slice", data := .fields #[vl, vu, vs] } }
  refine tail_any (ops := [.ref a, .ref s4.heap.objs.size]) ht.typeIs PyProof.Rows.slot_tuple_getitem.lookup ?_ (by with_unfolding_all rfl)
  refine getItem_tuple_rev ht (Heap.IsSliceOf.new _ vl vu vs) pl pu ps ?_ (by rw [List.size_toArray]; omega)
  refine ⟨.ref _, _, I5.laid (t' := s4.toks) (o := .tup xs.reverse) (fun b ob q => Heap.get?_push_of_some _ q) (Nat.le_refl _) ?_, rfl, q _ (I5.hok.fresh (Nat.le_refl _))⟩
  exact ⟨by rw [List.length_reverse]; exact hz, _, r.reverse, IsTup.new _ _⟩
end
end HT
namespace DL
open PySem PySem.Spec PyProof.Rows L2
section
variable {X : Cx} {e : Expr} {m : W F} {pos : Pos}
/-- an expression that is never reached -/
def wBad : W F := fun _ _ _ => False
theorem pd_never : PD X e wBad := ⟨fun _ _ _ _ _ h => h.elim, ⟨fun pins s σ H Q I ⟨_, _, _, _, _, h⟩ => h.elim⟩⟩
def asT (Q : List F → Sto → Prop) : F → Sto → Prop := fun x S => match x with | .tup c => Q c S | _ => False
theorem mono_asT {Q Q' : List F → Sto → Prop} (k : ∀ d S', Q d S' → Q' d S') : ∀ d S', asT Q d S' → asT Q' d S' := fun d S' h => by
  cases d with
  | tup c => exact k _ _ h
  | _ => exact h.elim
theorem asT_of {Q : List F → Sto → Prop} {d : F} {S : Sto} (h : asT Q d S) : ∃ c, d = .tup c ∧ Q c S := by
  cases d with
  | tup c => exact ⟨c, rfl, h⟩
  | _ => exact h.elim
/-- t[::-1] -/
def wRev (m : W F) : W F := fun ρ S Q => m ρ S (asT fun xs S1 => Q (.tup xs.reverse) S1)
theorem pd_rev {k : Nat} {p1 p2 p3 : Pos} (h : PD X e m) : PD X (.Subscript e (.Slice none none (some (.UnaryOp .USub (.Constant (.int 1) k p1) p2)) p3) pos) (wRev m) :=
  ⟨fun _ _ _ _ k q => h.mono _ _ _ _ (mono_asT fun _ _ q => k _ _ q) q, weakE (HT.pe_revT h.run) fun σ H Q ⟨ρ, S, Z, r, R, q⟩ => by
    refine tD_in h.mono r R q fun x S1 v1 Z1 H1 p e1 R1 d1 => ?_
    obtain ⟨fs, rfl, q⟩ := asT_of p
    obtain ⟨a, vs, rfl, h1, h2⟩ := tup_of R1 d1
    refine ⟨a, vs, rfl, h1, fun t nt => ?_⟩
    obtain ⟨R2, e2⟩ := R1.newZ nt (.tup vs.reverse)
    exact q _ _ _ (e1.trans e2) R2 (den_newTup (R1.nz nt) h2.reverse)⟩
@[simp, simp ↓] theorem wRev_ev {ρ : Slots} {S : Sto} {Q : F → Sto → Prop} : wRev m ρ S Q = m ρ S (asT fun xs S1 => Q (.tup xs.reverse) S1) := (rfl)
@[simp, simp ↓] theorem asT_ev {S : Sto} {Q : List F → Sto → Prop} {c : List F} : asT Q (.tup c) S = Q c S := (rfl)
def cMax2 : DCall := fun xs S Q => match xs with | [.int i, .int j] => Q (.int (if j > i then j else i)) S | _ => False
def cMin2 : DCall := fun xs S Q => match xs with | [.int i, .int j] => Q (.int (if j < i then j else i)) S | _ => False
theorem c_max2 (hc : X.calm = true) : CallD X (.builtin "max") cMax2 := by
  refine ⟨fun xs S Q Q' k h => ?_, callWeak (call_max2 hc) fun vs H Q ⟨ds, S, Z, dv, R, h⟩ => ?_⟩
  · unfold cMax2 at h ⊢
    split at h
    · exact k _ _ h
    · exact h.elim
  · unfold cMax2 at h
    split at h
    · obtain ⟨v, w, rfl, d, d2⟩ := dens2 dv
      exact ⟨_, _, by rw [den_int d, den_int d2], fin_same R (.int _) h⟩
    · exact h.elim
theorem c_min2 (hc : X.calm = true) : CallD X (.builtin "min") cMin2 := by
  refine ⟨fun xs S Q Q' k h => ?_, callWeak (call_min2 hc) fun vs H Q ⟨ds, S, Z, dv, R, h⟩ => ?_⟩
  · unfold cMin2 at h ⊢
    split at h
    · exact k _ _ h
    · exact h.elim
  · unfold cMin2 at h
    split at h
    · obtain ⟨v, w, rfl, d, d2⟩ := dens2 dv
      exact ⟨_, _, by rw [den_int d, den_int d2], fin_same R (.int _) h⟩
    · exact h.elim
@[simp, simp ↓] theorem cMax2_ev {S : Sto} {Q : F → Sto → Prop} {i j : Int} : cMax2 [.int i, .int j] S Q = Q (.int (if j > i then j else i)) S := (rfl)
@[simp, simp ↓] theorem cMin2_ev {S : Sto} {Q : F → Sto → Prop} {i j : Int} : cMin2 [.int i, .int j] S Q = Q (.int (if j < i then j else i)) S := (rfl)
/-- str(n) -/
def cStr : DCall := fun xs S Q => match xs with | [.int i] => i.natAbs.log2 < 1920 ∧ Q (.str (toString i)) S | _ => False
theorem c_str : CallD X (.type "str") cStr := by
  refine ⟨fun xs S Q Q' k h => ?_, callWeak call_str_int fun vs H Q ⟨ds, S, Z, dv, R, h⟩ => ?_⟩
  · unfold cStr at h ⊢
    split at h
    · exact ⟨h.1, k _ _ h.2⟩
    · exact h.elim
  · unfold cStr at h
    split at h
    · obtain ⟨v, rfl, d⟩ := dens1 dv
      exact ⟨_, by rw [den_int d], h.1, fin_same R (.str _) h.2⟩
    · exact h.elim
@[simp, simp ↓] theorem cStr_ev {S : Sto} {Q : F → Sto → Prop} {i : Int} : cStr [.int i] S Q = (i.natAbs.log2 < 1920 ∧ Q (.str (toString i)) S) := (rfl)
theorem strOk_of (s : String) : PyData.strOk (Str.ofString s) = true := by
  unfold PyData.strOk
  rw [Str.ofString_eq_toList]
  have key : ∀ ch : Char, ch.toNat < 1114112 := fun ch => by
    rcases ch.valid with h | ⟨_, h⟩
    · have h : ch.val.toNat < 0xd800 := h
      show ch.val.toNat < 0x110000
      omega
    · exact h
  simp
  intro c _
  exact key c
end
/-! ### upper -/
def wUpper (m : W F) : W F := fun ρ S Q => m ρ S fun x S1 => match x with | .str z => z.length ≤ 5592405 ∧ Q (.str (Txt.upper z)) S1 | _ => False
theorem pd_upper {X : Cx} {o : Expr} {m : W F} {apos pos : Pos} (ho : PD X o m) (hbase : attributeBase o "upper" X.env (eval o X.env) = eval o X.env := by rfl) (hline : (apos.endLine == pos.line) = true := by rfl) :
    PD X (.Call (.Attribute o "upper" apos) [] [] pos) (wUpper m) :=
  ⟨fun _ _ _ _ k q => ho.mono _ _ _ _ (fun x S1 q => by
    split at q
    · exact ⟨q.1, k _ _ q.2⟩
    · exact q.elim) q, weakE (pe_upper ho.run hbase hline) fun σ H Q ⟨ρ, S, Z, r, R, q⟩ => by
    refine tD_in ho.mono r R q fun x S1 v Z1 H1 p e1 R1 d1 => ?_
    split at p
    · cases d1
      exact ⟨⟨_, rfl⟩, _, rfl, rfl, p.1, p.2 _ _ _ e1 R1 (.str _)⟩
    · exact p.elim⟩
section
variable {ρ : Slots} {S : Sto} {Q : F → Sto → Prop} {m : W F}
@[simp, simp ↓] theorem wUpper_ev : wUpper m ρ S Q = m ρ S fun x S1 => match x with | .str z => z.length ≤ 5592405 ∧ Q (.str (Txt.upper z)) S1 | _ => False := (rfl)
end
end DL

set_option maxHeartbeats 4000000
namespace DL
open PySem PySem.Spec PyProof.Rows L2
/-! facts of plain data -/
theorem all_bl {α : Type} (l : List α) (p : α → Bool) : (l.map fun x => F.bl (p x)) = (l.map p).map F.bl := by
  rw [List.map_map]
  rfl
theorem rep_flat {α : Type} (x : α) : ∀ n : Nat, (List.replicate n [x]).flatten = List.replicate n x
  | 0 => rfl
  | n + 1 => by rw [List.replicate_succ, List.flatten_cons, rep_flat x n, List.replicate_succ]; rfl
theorem sIx_lo {n k : Nat} (h : k ≤ n) : HT.sIx n 0 (some (k : Int)) = k := by rw [HT.sIx_nat]; omega
theorem sIx_hi {n k : Nat} (h : k ≤ n) : HT.sIx n n (some (k : Int)) = k := by rw [HT.sIx_nat]; omega
theorem cut_to {α : Type} (xs : List α) {k : Nat} (h : k ≤ xs.length) : cut xs none (some (k : Int)) = xs.take k := by
  unfold cut
  rw [sIx_hi h, HT.sIx_none]
  simp
theorem cut_from {α : Type} (xs : List α) {k : Nat} (h : k ≤ xs.length) : cut xs (some (k : Int)) none = xs.drop k := by
  unfold cut
  rw [sIx_lo h, HT.sIx_none]
  exact List.take_of_length_le (by rw [List.length_drop]; omega)
theorem cut_from1 {α : Type} (xs : List α) {k : Nat} (h : k + 1 ≤ xs.length) : cut xs (some ((k : Int) + 1)) none = xs.drop (k + 1) := cut_from xs h
theorem cut_tail {α : Type} (xs : List α) : cut xs (some 1) none = xs.tail := by
  cases xs with
  | nil => rfl
  | cons x r => exact cut_from1 (x :: r) (k := 0) (by simp)
theorem set_cut {α : Type} (xs : List α) {k : Nat} (h : k < xs.length) (v : α) : xs.take k ++ [v] ++ xs.drop (k + 1) = xs.set k v := by
  rw [List.set_eq_take_append_cons_drop, if_pos h]
  simp
theorem set_cutF {α : Type} (xs : List α) {k : Nat} (h : k < xs.length) (v : α) : cut xs none (some (k : Int)) ++ v :: cut xs (some ((k : Int) + 1)) none = xs.set k v := by
  rw [cut_to _ (by omega), cut_from1 _ (by omega), ← set_cut xs h v]
  simp
theorem cut_last {α : Type} (xs : List α) : cut xs none (some (-1)) = xs.dropLast := by
  unfold cut
  rw [HT.sIx_none, List.dropLast_eq_take]
  have : HT.sIx xs.length xs.length (some (-1)) = xs.length - 1 := by
    unfold HT.sIx
    simp
    omega
  rw [this]
  simp
theorem cut_mem {α : Type} {xs : List α} {lo hi : Option Int} {x : α} (h : x ∈ cut xs lo hi) : x ∈ xs := List.mem_of_mem_drop (List.mem_of_mem_take h)
theorem fzL_append {l r : List F} : fzL (l ++ r) = (fzL l && fzL r) := by
  rw [fzL_all, fzL_all, fzL_all, List.all_append]
theorem fzL_of {l : List F} (h : ∀ x ∈ l, fz x = true) : fzL l = true := by
  rw [fzL_all, List.all_eq_true]
  exact h
theorem fz_tup_of {l : List F} (h : l.length ≤ 1000000) (k : ∀ x ∈ l, fz x = true) : fz (.tup l) = true := by
  unfold fz
  rw [fzL_of k, Bool.and_true]
  exact decide_eq_true h
theorem fz_lst_of {l : List F} (h : l.length ≤ 1000000) (k : ∀ x ∈ l, fz x = true) : fz (.lst l) = true := by
  unfold fz
  rw [fzL_of k, Bool.and_true]
  exact decide_eq_true h
theorem fz_ints (r : List Int) : fzL (r.map F.int) = true := by
  rw [fzL_all, List.all_map]
  exact List.all_eq_true.mpr fun _ _ => rfl
theorem fz_tupI {r : List Int} (h : r.length ≤ 1000000) : fz (.tup (r.map F.int)) = true := by
  unfold fz
  rw [fz_ints, List.length_map, Bool.and_true]
  exact decide_eq_true h
theorem fz_set {l : List F} {j : Nat} {z : F} (hl : fzL l = true) (hz : fz z = true) : fzL (l.set j z) = true := by
  rw [fzL_all] at hl ⊢
  rw [List.all_eq_true] at hl ⊢
  intro x hx
  rcases List.mem_or_eq_of_mem_set hx with h | h
  · exact hl x h
  · rw [h]
    exact hz
theorem depL_le {l : List F} {n : Nat} (h : ∀ x ∈ l, dep x ≤ n) : depL l ≤ n := by
  induction l with
  | nil => exact Nat.zero_le _
  | cons x r ih =>
    unfold depL
    exact Nat.max_le.mpr ⟨h x (List.mem_cons_self ..), ih fun y hy => h y (List.mem_cons_of_mem _ hy)⟩
theorem dep_tup {l : List F} {n : Nat} (h : ∀ x ∈ l, dep x ≤ n) : dep (.tup l) ≤ n + 1 := by
  unfold dep
  have := depL_le h
  omega
theorem dep_lst {l : List F} {n : Nat} (h : ∀ x ∈ l, dep x ≤ n) : dep (.lst l) ≤ n + 1 := by
  unfold dep
  have := depL_le h
  omega
theorem dep_tupI (r : List Int) : dep (.tup (r.map F.int)) ≤ 1 := dep_tup fun x hx => by
  obtain ⟨i, _, rfl⟩ := List.mem_map.mp hx
  exact Nat.zero_le _
theorem range_get {α β : Type} (t : List α) (d : α) (f : α → β) : (List.range t.length).map (fun i => f (t.getD i d)) = t.map f := by
  apply List.ext_getElem?
  intro i
  rw [List.getElem?_map, List.getElem?_map]
  by_cases h : i < t.length
  · rw [List.getElem?_range h, List.getElem?_eq_getElem h]
    simp [List.getD, List.getElem?_eq_getElem h]
  · rw [List.getElem?_eq_none (by simpa using h), List.getElem?_eq_none (by omega)]
    rfl
mutual
theorem can_of : ∀ (x : F), fz x = true → (py x).canLay0 = true
  | .non, _ => by simp [py, PyData.canLay0]
  | .bl _, _ => by simp [py, PyData.canLay0]
  | .int _, _ => by simp [py, PyData.canLay0]
  | .str x, h => by
    unfold fz at h
    simpa [py, PyData.canLay0] using h
  | .tup l, h => by
    unfold fz at h
    rw [Bool.and_eq_true] at h
    simp only [py, PyData.canLay0]
    exact canL_of l h.2
  | .lst l, h => by
    unfold fz at h
    rw [Bool.and_eq_true] at h
    simp only [py, PyData.canLay0]
    exact canL_of l h.2
  | .rol l, h => by
    unfold fz at h
    rw [Bool.and_eq_true] at h
    simp only [py, PyData.canLay0]
    exact canL_of l h.2
  | .loc _, h => by simp [fz] at h
theorem canL_of : ∀ (l : List F), fzL l = true → PyData.canLayAll0 (pyL l) = true
  | [], _ => by simp [pyL, PyData.canLayAll0]
  | x :: r, h => by
    unfold fzL at h
    rw [Bool.and_eq_true] at h
    simp only [pyL, PyData.canLayAll0]
    rw [can_of x h.1, canL_of r h.2]
    rfl
end
mutual
theorem depth_of : ∀ (x : F), fz x = true → (py x).depth ≤ dep x
  | .non, _ => by simp [py, PyData.depth, dep]
  | .bl _, _ => by simp [py, PyData.depth, dep]
  | .int _, _ => by simp [py, PyData.depth, dep]
  | .str _, _ => by simp [py, PyData.depth, dep]
  | .tup l, h => by
    simp only [py, PyData.depth, dep]
    have := depthL_of l (fz_tup h).2
    omega
  | .lst l, h => by
    simp only [py, PyData.depth, dep]
    have := depthL_of l (fz_lst h).2
    omega
  | .rol l, h => by
    simp only [py, PyData.depth, dep]
    have := depthL_of l (fz_rol h).2
    omega
  | .loc _, h => by simp [fz] at h
theorem depthL_of : ∀ (l : List F), fzL l = true → PyData.depthAll (pyL l) ≤ depL l
  | [], _ => by simp [pyL, PyData.depthAll, depL]
  | x :: r, h => by
    simp only [pyL, PyData.depthAll, depL]
    unfold fzL at h
    rw [Bool.and_eq_true] at h
    have := depth_of x h.1
    have := depthL_of r h.2
    omega
end
theorem okF_of {x : F} (h : fz x = true) (d : dep x ≤ 63) : okF x = true := by
  unfold okF SeqAt.shaped
  rw [can_of x h, Bool.true_and]
  exact decide_eq_true (Nat.le_trans (depth_of x h) (by omega))
theorem okF_tupI {r : List Int} (h : r.length ≤ 1000000) : okF (.tup (r.map F.int)) = true := okF_of (fz_tupI h) (Nat.le_trans (dep_tupI r) (by decide))
theorem eqF_nil {l : List F} : eqF (.tup l) (.tup []) = l.isEmpty := by
  cases l <;> simp [eqF, py, pyL, PyData.eqv, PyData.eqvAll]
@[simp] theorem isNon_rol {b} : isNon (.rol b) = false := rfl
@[simp] theorem isNon_loc {b} : isNon (.loc b) = false := rfl
theorem isNon_iff {x : F} : isNon x = true ↔ x = .non := by
  cases x <;> simp [isNon]
/-- a count, as the program means it -/
def isCount : F → Int → Int → Bool
  | .int i, l, m => decide (l ≤ i) && decide (i ≤ m)
  | _, _, _ => false
theorem isCount_int {x : F} {l m : Int} (h : isCount x l m = true) : ∃ i, x = .int i ∧ l ≤ i ∧ i ≤ m := by
  cases x with
  | int i =>
    simp [isCount] at h
    exact ⟨i, rfl, h.1, h.2⟩
  | _ => cases h
theorem counts_int {xs : List F} {l m : Int} (h : (xs.all fun x => isCount x l m) = true) : ∃ ns : List Int, xs = ns.map F.int ∧ ∀ i ∈ ns, l ≤ i ∧ i ≤ m := by
  induction xs with
  | nil => exact ⟨[], rfl, fun _ h => by cases h⟩
  | cons x r ih =>
    rw [List.all_cons, Bool.and_eq_true] at h
    obtain ⟨i, rfl, h1⟩ := isCount_int h.1
    obtain ⟨ns, rfl, h2⟩ := ih h.2
    refine ⟨i :: ns, rfl, fun j hj => ?_⟩
    rcases List.mem_cons.mp hj with e | e
    · rw [e]
      exact h1
    · exact h2 j e
def W_count : WS :=
  (sRet (wAnd (wIsi "int" (wVar 0)) (wAnd (wNot (wIsi "bool" (wVar 0))) (wChain oLe oLe (wVar 1) (wVar 0) (wVar 2)))))
def C_count : Ct := fun xs S Q => ∃ v l m, xs = [v, .int l, .int m] ∧ fz v = true ∧ Q (.bl (isCount v l m)) S
theorem mono_C_count : MonoC C_count := fun xs S Q Q' k ⟨v, l, m, e, h, q⟩ => ⟨v, l, m, e, h, k _ _ q⟩
theorem sp_count (fs : List F) (S : Sto) (Q) (h : C_count fs S Q) : fs.length = 3 ∧ W_count { nx := fun _ S' => Q .non S', rt := fun d S' => Q d S' } (startF 3 fs) S := by
  obtain ⟨v, l, m, rfl, hv, q⟩ := h
  refine ⟨rfl, ?_⟩
  show W_count _ [some v, some (.int l), some (.int m)] S
  cases v with
  | int i =>
    simp [W_count, isiOk_fz hv]
    by_cases h1 : l ≤ i
    · simpa [isCount, h1] using q
    · simpa [isCount, h1] using q
  | _ => simpa [W_count, isiOk_fz hv, isCount] using q
theorem call_count {S : Sto} {Q : F → Sto → Prop} {v : F} {l m : Int} (hv : fz v = true) (q : Q (.bl (isCount v l m)) S) : C_count [v, .int l, .int m] S Q := ⟨v, l, m, rfl, hv, q⟩
/-! more rows -/
theorem milI {i : Int} (h : i ≤ 1000000) : i ≤ (sizeLine : Int) := by
  rw [sizeLine_eq]
  omega
section
variable {ρ : Slots} {S : Sto} {Q : F → Sto → Prop} {D : EndsD}
@[simp, simp ↓] theorem ipAdd_ii {i j : Int} : ipAdd (.int i) (.int j) S Q = Q (.int (i + j)) S := (rfl)
@[simp, simp ↓] theorem ipSub_ii {i j : Int} : ipSub (.int i) (.int j) S Q = Q (.int (i - j)) S := (rfl)
theorem restr_eq {S S' : Sto} (h : ∀ a, (S a).isSome = true → S' a = S a) : restr S S' = S := by
  funext a
  unfold restr
  cases e : S a with
  | none => rfl
  | some l =>
    have := h a (by rw [e]; rfl)
    simp [this, e]
theorem restr_new {S : Sto} {p : Addr} {l : List F} (h : S p = none) : restr S (updS S p l) = S := restr_eq fun a ha => by
  refine updS_ne fun e => ?_
  subst e
  rw [h] at ha
  cases ha
theorem forL_fold {α σ : Type} {gd : Sto → Prop} {g : DG} {t : WS} (e : α → F) (st : σ → α → σ) (I : σ → Slots → Sto → Prop) : ∀ (xs : List α) (a : σ) (ρ : Slots) (S : Sto), I a ρ S → (∀ a ρ S, I a ρ S → gd S) →
    (∀ x, x ∈ xs → ∀ a ρ S (N : Slots → Sto → Prop), I a ρ S → (∀ ρ' S', I (st a x) ρ' S' → N ρ' S') → g (e x) ρ S fun ρ1 S1 => t { nx := N, rt := D.rt, bk := D.nx, ct := N } ρ1 S1) → (∀ ρ S, I (xs.foldl st a) ρ S → D.nx ρ S) → forL gd g t (xs.map e) D ρ S
  | [], a, ρ, S, hi, hg, hs, hf => ⟨hg _ _ _ hi, hf _ _ hi⟩
  | x :: r, a, ρ, S, hi, hg, hs, hf => ⟨hg _ _ _ hi, hs x (List.mem_cons_self ..) a ρ S _ hi fun ρ' S' h => forL_fold e st I r (st a x) ρ' S' h hg (fun y hy => hs y (List.mem_cons_of_mem _ hy)) hf⟩
end
/-! bending -/
def W_bentRest (c__law_draw : Ct) : WS :=
  (sSeq (sAsg (wCall c__law_draw (wCons (wVar 0) (wCons (wC (.int 8)) wNil))) (gN 3))
    (sSeq (sIf (wTst (wIsi "tuple" (wVar 1))) (sRet (wOp oIx (wFrz (wLst (wCons (wOp oAdd (wVar 1) (wSl (wVar 1) wNoPart (wPart (wC (.int 1))))) (wCons (wSl (wVar 1) (wPart (wC (.int 1))) wNoPart) (wCons (wRev (wVar 1)) (wCons (wOp oAdd (wVar 1) (wTup (wCons (wC (.int 0)) wNil))) (wCons (wOp oAdd (wSl (wVar 1) wNoPart (wPart (wC (.int 1)))) (wVar 1)) (wCons (wSl (wVar 1) wNoPart (wPart (wNeg (wC (.int 1))))) (wCons (wC .non) (wCons (wSl (wVar 1) wNoPart (wPart (wC (.int 1)))) wNil)))))))))) (wVar 3))) sNext)
    (sSeq (sIf (bAnd (wTst (wIsi "int" (wVar 1))) (bNot (wTst (wIsi "bool" (wVar 1))))) (sRet (wOp oIx (wFrz (wLst (wCons (wOp oAdd (wVar 1) (wC (.int 1))) (wCons (wOp oSub (wVar 1) (wC (.int 1))) (wCons (wNeg (wVar 1)) (wCons (wOp oEq (wVar 1) (wC (.int 1))) (wCons (wC .non) (wCons (wCall cStr (wCons (wVar 1) wNil)) (wCons (wTup (wCons (wVar 1) wNil)) (wCons (wOp oAdd (wVar 1) (wC (.int 1001))) wNil)))))))))) (wVar 3))) sNext)
    (sSeq (sIf (wTst (wIsi "str" (wVar 1))) (sRet (wOp oIx (wFrz (wLst (wCons (wOp oAdd (wVar 1) (wC (.str ("a" : Str)))) (wCons (wSl (wVar 1) (wPart (wC (.int 1))) wNoPart) (wCons (wC (.str ("any" : Str))) (wCons (wUpper (wVar 1)) (wCons (wC (.int 0)) (wCons (wC (.str ("" : Str))) (wCons (wOp oAdd (wVar 1) (wC (.str ("z0z0z0z0" : Str)))) (wCons (wTup (wCons (wVar 1) wNil)) wNil)))))))))) (wVar 3))) sNext)
    (sRet (wOp oIx (wFrz (wLst (wCons (wC (.int 0)) (wCons (wC (.int 1)) (wCons (wC .non) (wCons (wC (.bl true)) (wCons (wC (.bl false)) (wCons (wC (.str ("a" : Str))) (wCons (wTup wNil) (wCons (wNeg (wC (.int 1))) wNil)))))))))) (wVar 3)))))))
def W_bent (c__law_draw : Ct) (c__law_bent : Ct) : WS :=
  (sSeq (sIf (bAnd (wTst (wIsi "tuple" (wVar 1))) (bAnd (wTst (wOp oGt (wCall cLen (wCons (wVar 1) wNil)) (wC (.int 0)))) (wTst (wOp oGt (wCall c__law_draw (wCons (wVar 0) (wCons (wC (.int 5)) wNil))) (wC (.int 0)))))) (sSeq (sAsg (wCall c__law_draw (wCons (wVar 0) (wCons (wCall cLen (wCons (wVar 1) wNil)) wNil))) (gN 2))
    (sRet (wOp oAdd (wOp oAdd (wSl (wVar 1) wNoPart (wPart (wVar 2))) (wTup (wCons (wCall c__law_bent (wCons (wVar 0) (wCons (wOp oIx (wVar 1) (wVar 2)) wNil))) wNil))) (wSl (wVar 1) (wPart (wOp oAdd (wVar 2) (wC (.int 1)))) wNoPart)))) sNext)
    (W_bentRest c__law_draw))
def bAtom : F → Bool
  | .non => true
  | .bl _ => true
  | .int i => decide (i.natAbs ≤ 1000000)
  | .str x => decide (x.length ≤ 100) && PyData.strOk x && PyData.strOk (x ++ ("a" : Str)) && PyData.strOk (cutS x (some 1) none) && PyData.strOk (Txt.upper x) && PyData.strOk (x ++ ("z0z0z0z0" : Str))
  | _ => false
theorem bAtom_str {x : Str} (h : bAtom (.str x) = true) : x.length ≤ 100 ∧ PyData.strOk x = true ∧ PyData.strOk (x ++ ("a" : Str)) = true ∧ PyData.strOk (cutS x (some 1) none) = true ∧ PyData.strOk (Txt.upper x) = true ∧ PyData.strOk (x ++ ("z0z0z0z0" : Str)) = true := by
  unfold bAtom at h
  simp only [Bool.and_eq_true, decide_eq_true_eq] at h
  obtain ⟨⟨⟨⟨⟨h1, h2⟩, h3⟩, h4⟩, h5⟩, h6⟩ := h
  exact ⟨h1, h2, h3, h4, h5, h6⟩
def bOk : Nat → F → Prop
  | 0, v => bAtom v = true
  | n + 1, v => bAtom v = true ∨ ∃ xs, v = .tup xs ∧ xs.length ≤ 100000 ∧ ∀ x ∈ xs, bOk n x
theorem bAtom_fz {v : F} (h : bAtom v = true) : fz v = true := by
  cases v <;> first | rfl | exact (bAtom_str h).2.1 | cases h
theorem bAtom_dep {v : F} (h : bAtom v = true) : dep v = 0 := by
  cases v <;> first | rfl | cases h
theorem bOk_fz : ∀ {n : Nat} {v : F}, bOk n v → fz v = true ∧ dep v ≤ n
  | 0, v, h => ⟨bAtom_fz h, Nat.le_of_eq (bAtom_dep h)⟩
  | n + 1, v, h => by
    rcases h with h | ⟨xs, rfl, h1, h2⟩
    · exact ⟨bAtom_fz h, by rw [bAtom_dep h]; omega⟩
    · exact ⟨fz_tup_of (by omega) fun x hx => (bOk_fz (h2 x hx)).1, dep_tup fun x hx => (bOk_fz (h2 x hx)).2⟩
theorem bOk_atom {n : Nat} {v : F} (h : bAtom v = true) : bOk n v := by
  cases n with
  | zero => exact h
  | succ n => exact .inl h
theorem bOk_cases {n : Nat} {v : F} (h : bOk n v) : bAtom v = true ∨ ∃ k xs, n = k + 1 ∧ v = .tup xs ∧ xs.length ≤ 100000 ∧ ∀ x ∈ xs, fz x = true ∧ dep x ≤ k := by
  cases n with
  | zero => exact .inl h
  | succ n =>
    rcases h with h | ⟨xs, rfl, h1, h2⟩
    · exact .inl h
    · exact .inr ⟨n, xs, rfl, rfl, h1, fun x hx => bOk_fz (h2 x hx)⟩
theorem log_small {i : Int} (h : i.natAbs ≤ 1000000) : i.natAbs.log2 < 1920 := by
  by_cases h0 : i.natAbs = 0
  · rw [h0]
    decide
  · have h1 : i.natAbs < 2 ^ 20 := by omega
    have := (Nat.log2_lt h0).mpr h1
    omega
theorem fz_toStr (i : Int) : fz (.str (toString i : String)) = true := by
  unfold fz
  exact strOk_of _
theorem one_ok {v : F} {n : Nat} (h : fz v = true) (hd : dep v ≤ n) : fz (.tup [v]) = true ∧ dep (.tup [v]) ≤ n + 1 :=
  ⟨fz_tup_of (by simp) fun y hy => by rw [List.mem_singleton.mp hy]; exact h, dep_tup fun y hy => by rw [List.mem_singleton.mp hy]; exact hd⟩
theorem bentRest {D : EndsD} {b c : Addr} {v : F} {o2 o3 : Option F} {S1 : Sto} {n : Nat} (hb : BoxAt S1 b c) (hv : bOk n v) (q : ∀ v' S', fz v' = true → dep v' ≤ n + 1 → BoxAt S' b c → Fr S1 S' b c → D.rt v' S') :
    W_bentRest C_draw D [some (.loc b), some v, o2, o3] S1 := by
  unfold W_bentRest
  rw [sSeq_ev]; simp [-sSeq_ev]
  refine call_draw hb (by decide) (by decide) fun d S2 hd hb2 f2 => ?_
  have hd' : d < 8 := by omega
  have fin : ∀ v', fz v' = true ∧ dep v' ≤ n + 1 → D.rt v' S2 := fun v' h => q v' S2 h.1 h.2 hb2 f2
  rcases bOk_cases hv with ha | ⟨k, xs, rfl, rfl, h1, h2⟩
  · cases v with
    | non =>
      simp
      refine oIx_mem (by simpa using hd') fun z hz => fin z ?_
      simp at hz
      rcases hz with rfl | rfl | rfl | rfl | rfl | rfl | rfl | rfl <;> exact ⟨by decide +kernel, Nat.le_trans (show _ ≤ 1 by decide +kernel) (by omega)⟩
    | bl x =>
      simp
      refine oIx_mem (by simpa using hd') fun z hz => fin z ?_
      simp at hz
      rcases hz with rfl | rfl | rfl | rfl | rfl | rfl | rfl | rfl <;> exact ⟨by decide +kernel, Nat.le_trans (show _ ≤ 1 by decide +kernel) (by omega)⟩
    | int i =>
      have hi : i.natAbs ≤ 1000000 := of_decide_eq_true ha
      have l1 := one_ok (v := .int i) (n := n) rfl (Nat.zero_le _)
      simp
      refine ⟨log_small hi, ?_⟩
      refine oIx_mem (by simpa using hd') fun z hz => fin z ?_
      simp at hz
      rcases hz with rfl | rfl | rfl | rfl | rfl | rfl | rfl | rfl <;> first | exact l1 | exact ⟨rfl, Nat.zero_le _⟩ | exact ⟨fz_toStr i, Nat.zero_le _⟩
    | str x =>
      obtain ⟨a1, a2, a3, a4, a5, a6⟩ := bAtom_str ha
      have l1 := one_ok (v := .str x) (n := n) a2 (Nat.zero_le _)
      simp
      refine ⟨mil (by have := (by decide : ("a" : Str).length = 1); omega), mil (by omega), by omega, mil (by have := (by decide : ("z0z0z0z0" : Str).length = 8); omega), ?_⟩
      refine oIx_mem (by simpa using hd') fun z hz => fin z ?_
      simp at hz
      rcases hz with rfl | rfl | rfl | rfl | rfl | rfl | rfl | rfl <;> first | exact l1 | exact ⟨a3, Nat.zero_le _⟩ | exact ⟨a4, Nat.zero_le _⟩ | exact ⟨a5, Nat.zero_le _⟩ | exact ⟨a6, Nat.zero_le _⟩ | exact ⟨by decide +kernel, Nat.zero_le _⟩
    | _ => cases ha
  · have l1 := cut_length xs none (some 1)
    have ok : ∀ l : List F, l.length ≤ 1000000 → (∀ x ∈ l, fz x = true ∧ dep x ≤ k) → fz (.tup l) = true ∧ dep (.tup l) ≤ k + 1 + 1 := fun l a1 a2 =>
      ⟨fz_tup_of a1 fun x hx => (a2 x hx).1, Nat.le_trans (dep_tup fun x hx => (a2 x hx).2) (by omega)⟩
    have cutOk : ∀ lo hi, fz (.tup (cut xs lo hi)) = true ∧ dep (.tup (cut xs lo hi)) ≤ k + 1 + 1 := fun lo hi => ok _ (Nat.le_trans (cut_length ..) (by omega)) fun x hx => h2 x (cut_mem hx)
    have app : ∀ l r : List F, l.length ≤ 100000 → r.length ≤ 100000 → (∀ x ∈ l, fz x = true ∧ dep x ≤ k) → (∀ x ∈ r, fz x = true ∧ dep x ≤ k) → fz (.tup (l ++ r)) = true ∧ dep (.tup (l ++ r)) ≤ k + 1 + 1 := fun l r a1 a2 a3 a4 =>
      ok _ (by rw [List.length_append]; omega) fun x hx => (List.mem_append.mp hx).elim (a3 x) (a4 x)
    simp
    refine ⟨mil (by omega), mil (by omega), mil (by omega), ?_⟩
    refine oIx_mem (by simpa using hd') fun z hz => fin z ?_
    simp at hz
    rcases hz with rfl | rfl | rfl | rfl | rfl | rfl | rfl | rfl
    · exact app _ _ h1 (by omega) h2 fun x hx => h2 x (cut_mem hx)
    · exact cutOk _ _
    · exact ok _ (by rw [List.length_reverse]; omega) fun x hx => h2 x (List.mem_reverse.mp hx)
    · exact app _ _ h1 (by simp) h2 fun x hx => by rw [List.mem_singleton.mp hx]; exact ⟨rfl, Nat.zero_le _⟩
    · exact app _ _ (by omega) h1 (fun x hx => h2 x (cut_mem hx)) h2
    · exact cutOk _ _
    · exact ⟨rfl, Nat.zero_le _⟩
    · exact cutOk _ _
def C_bent (n : Nat) : Ct := fun xs S Q => ∃ b c v, xs = [.loc b, v] ∧ BoxAt S b c ∧ bOk n v ∧ ∀ v' S', fz v' = true → dep v' ≤ n + 1 → BoxAt S' b c → Fr S S' b c → Q v' S'
theorem mono_C_bent {n : Nat} : MonoC (C_bent n) := fun xs S Q Q' k ⟨b, c, v, e, h1, h2, q⟩ => ⟨b, c, v, e, h1, h2, fun v' S' h1 h4 h2 h3 => k _ _ (q v' S' h1 h4 h2 h3)⟩
theorem call_bent {n : Nat} {b c : Addr} {S : Sto} {Q : F → Sto → Prop} {v : F} (h : BoxAt S b c) (hv : bOk n v) (q : ∀ v' S', fz v' = true → dep v' ≤ n + 1 → BoxAt S' b c → Fr S S' b c → Q v' S') : C_bent n [.loc b, v] S Q := ⟨b, c, v, rfl, h, hv, q⟩
theorem sp_bent0 (fs : List F) (S : Sto) (Q) (h : C_bent 0 fs S Q) : fs.length = 2 ∧ W_bent C_draw C_never { nx := fun _ S' => Q .non S', rt := fun d S' => Q d S' } (startF 4 fs) S := by
  obtain ⟨b, c, v, rfl, hb, hv, q⟩ := h
  refine ⟨rfl, ?_⟩
  show W_bent _ _ _ [some (.loc b), some v, none, none] S
  have := bentRest (D := { nx := fun _ S' => Q .non S', rt := fun d S' => Q d S' }) (o2 := none) (o3 := none) hb hv q
  unfold W_bent
  rw [sSeq_ev]
  have hv : bAtom v = true := hv
  cases v with
  | non => simpa [-sSeq_ev] using this
  | bl x => simpa [-sSeq_ev] using this
  | int i => simpa [-sSeq_ev] using this
  | str x => simpa [-sSeq_ev] using this
  | _ => cases hv
theorem sp_bent (n : Nat) (fs : List F) (S : Sto) (Q) (h : C_bent (n + 1) fs S Q) : fs.length = 2 ∧ W_bent C_draw (C_bent n) { nx := fun _ S' => Q .non S', rt := fun d S' => Q d S' } (startF 4 fs) S := by
  obtain ⟨b, c, v, rfl, hb, hv, q⟩ := h
  refine ⟨rfl, ?_⟩
  show W_bent _ _ _ [some (.loc b), some v, none, none] S
  have rest : ∀ S1, BoxAt S1 b c → Fr S S1 b c → W_bentRest C_draw { nx := fun _ S' => Q .non S', rt := fun d S' => Q d S' } [some (.loc b), some v, none, none] S1 := fun S1 h1 f1 =>
    bentRest h1 hv fun v' S' a1 a4 a2 a3 => q v' S' a1 a4 a2 (f1.trans a3)
  unfold W_bent
  rw [sSeq_ev]
  have hv' : bAtom v = true ∨ ∃ xs, v = .tup xs ∧ xs.length ≤ 100000 ∧ ∀ x ∈ xs, bOk n x := hv
  rcases hv' with ha | ⟨xs, rfl, h1, h2⟩
  · cases v with
    | non => simpa [-sSeq_ev] using rest S hb Fr.refl
    | bl x => simpa [-sSeq_ev] using rest S hb Fr.refl
    | int i => simpa [-sSeq_ev] using rest S hb Fr.refl
    | str x => simpa [-sSeq_ev] using rest S hb Fr.refl
    | _ => cases ha
  · by_cases h0 : 0 < xs.length
    · have h0' : (0 : Int) < xs.length := by omega
      simp [-sSeq_ev, h0]
      refine call_draw hb (by decide) (by decide) fun d S1 hd hb1 f1 => ?_
      simp [-sSeq_ev]
      split
      · rename_i hd0
        rw [sSeq_ev]
        simp
        refine call_draw hb1 h0' (by omega) fun at' S2 ha hb2 f2 => ?_
        have hat : at' < xs.length := by omega
        have e1 : xs[at']? = some xs[at'] := List.getElem?_eq_getElem hat
        simp [atI_cast, e1]
        refine call_bent hb2 (h2 _ (List.getElem_mem hat)) fun v' S3 hz hdz hb3 f3 => ?_
        have l1 := cut_length xs none (some (at' : Int))
        have l2 := cut_length xs (some ((at' : Int) + 1)) none
        have hxs : ∀ x ∈ xs, fz x = true ∧ dep x ≤ n := fun x hx => bOk_fz (h2 x hx)
        simp [set_cutF _ hat]
        refine ⟨mil (by omega), mil (by omega), q _ S3 ?_ ?_ hb3 ((f1.trans f2).trans f3)⟩
        · unfold fz
          rw [fz_set (fzL_of fun x hx => (hxs x hx).1) hz, List.length_set, Bool.and_true]
          exact decide_eq_true (by omega)
        · refine Nat.le_trans (dep_tup (n := n + 1) fun x hx => ?_) (by omega)
          rcases List.mem_or_eq_of_mem_set hx with h | h
          · have := (hxs x h).2
            omega
          · rw [h]
            exact hdz
      · exact rest S1 hb1 f1
    · simpa [-sSeq_ev, h0] using rest S hb Fr.refl
section
variable {P : Program} {w : World} {K : PySem.W.Frag} {mg : Str → Option Value} {base : Heap}
theorem cal_never_at (lv : Nat) {x qual : Str} {params : Arguments} {body : List Stmt} {scope : Scope} {f : Addr} {fd : FuncData} {ps : List Str} (F : FunD K x qual params body scope [] [] f fd) (g : mg x = some (.ref f)) (b : L2.Binds K fd ps []) : Cal P w K mg base lv x ps C_never :=
  ⟨f, fd, F.kp, g, b, fun _ _ _ _ _ h => h.elim, ⟨fun vs H Q E ⟨_, _, _, _, _, h⟩ => h.elim, fun A outer s H args us vs Q E _ _ _ _ ⟨_, _, _, _, _, h⟩ => h.elim⟩⟩
theorem bent_cal {params : Arguments} {body : List Stmt} {scope : Scope} {f : Addr} {fd : FuncData}
    (ok : ∀ (lv : Nat), 2 ≤ lv → ∀ {Crec C : Ct}, Cal P w K mg base lv "_law_bent" ["box", "value"] Crec → MonoC C → (∀ fs S Q, C fs S Q → fs.length = 2 ∧ W_bent C_draw Crec { nx := fun _ S' => Q .non S', rt := fun d S' => Q d S' } (startF 4 fs) S) → FnD P w K mg base (lv + 1) f fd ["box", "value"] C)
    (F : FunD K "_law_bent" "_law_bent" params body scope [] [] f fd) (g : mg "_law_bent" = some (.ref f)) (b : L2.Binds K fd ["box", "value"] []) : ∀ n, Cal P w K mg base (n + 3) "_law_bent" ["box", "value"] (C_bent n)
  | 0 => cal_of F g b (ok 2 (Nat.le_refl 2) (cal_never_at 2 F g b) mono_C_bent sp_bent0)
  | n + 1 => cal_of F g b (ok (n + 3) (by omega) (bent_cal ok F g b n) mono_C_bent (sp_bent n))
end
end DL

set_option maxHeartbeats 4000000
namespace DL
open PySem PySem.Spec PyProof.Rows L2
theorem un65 {k : Nat} {A : Around} (r : Room k A) : A.units + 65 < cLine := by
  have := r.un
  omega
section
variable {X : Cx} {e a b : Expr} {m ma mb : W F} {pos : Pos}
/-! ### in -/
def oIn : DOp := fun x y S Q => okF x = true ∧ (match seqR S y with | some ys => okF (.tup ys) = true ∧ Q (.bl (ys.any fun z => eqF z x)) S | none => False)
def oNotIn : DOp := fun x y S Q => okF x = true ∧ (match seqR S y with | some ys => okF (.tup ys) = true ∧ Q (.bl (!ys.any fun z => eqF z x)) S | none => False)
theorem any_pyL {ys : List F} {x : F} : ((pyL ys).any fun z => PyData.eqv z (py x)) = ys.any fun z => eqF z x := by
  induction ys with
  | nil => rfl
  | cons y r ih => rw [pyL, List.any_cons, List.any_cons, ih]; rfl
def rInSq (K : PySem.W.Frag) (neg : Bool) : R2 := fun x y H Q => ∃ d ds, Dp K H x d ∧ (Dp K H y (.list ds) ∨ Dp K H y (.tuple ds)) ∧ SeqAt.shaped d = true ∧ PyData.canLayAll0 ds = true ∧ Q (.bl (if neg = true then !ds.any fun z => PyData.eqv z d else ds.any fun z => PyData.eqv z d)) H
theorem op_inSq (hu : X.A.units + 65 < cLine) : OpR X (compareOp .In) (rInSq X.K false) := by
  intro pins s σ H x y v u Q I rx ry h
  obtain ⟨d, ds, hd, he, sd, se, q⟩ := h
  obtain ⟨as, r1⟩ := Dp.reads I d x v hd rx
  rcases he with he | he
  · obtain ⟨bs, r2⟩ := Dp.reads I (.list ds) y u he ry
    exact SeqAt.in_list_reads r2 r1 se (SeqAt.canLay_of_shaped sd) (room_in_shaped sd hu) ⟨.bl _, H, I, rfl, q⟩
  · obtain ⟨bs, r2⟩ := Dp.reads I (.tuple ds) y u he ry
    exact SeqAt.in_tuple_reads r2 r1 se (SeqAt.canLay_of_shaped sd) (room_in_shaped sd hu) ⟨.bl _, H, I, rfl, q⟩
theorem op_notinSq (hu : X.A.units + 65 < cLine) : OpR X (compareOp .NotIn) (rInSq X.K true) := by
  intro pins s σ H x y v u Q I rx ry h
  obtain ⟨d, ds, hd, he, sd, se, q⟩ := h
  obtain ⟨as, r1⟩ := Dp.reads I d x v hd rx
  rcases he with he | he
  · obtain ⟨bs, r2⟩ := Dp.reads I (.list ds) y u he ry
    exact SeqAt.notIn_list_reads r2 r1 se (SeqAt.canLay_of_shaped sd) (room_in_shaped sd hu) ⟨.bl _, H, I, rfl, q⟩
  · obtain ⟨bs, r2⟩ := Dp.reads I (.tuple ds) y u he ry
    exact SeqAt.notIn_tuple_reads r2 r1 se (SeqAt.canLay_of_shaped sd) (room_in_shaped sd hu) ⟨.bl _, H, I, rfl, q⟩
theorem can_tup {ys : List F} (h : okF (.tup ys) = true) : PyData.canLayAll0 (pyL ys) = true := by
  have := SeqAt.canLay_of_shaped h
  simpa [py, PyData.canLay0] using this
theorem seq_dp {K : PySem.W.Frag} {Z H : Hp} {S : Sto} {v : V} {d : F} {fs : List F} (R : RelS K Z S H) (h : Den K Z v d) (e : seqR S d = some fs) (c : PyData.canLayAll0 (pyL fs) = true) : Dp K H v (.list (pyL fs)) ∨ Dp K H v (.tuple (pyL fs)) := by
  obtain ⟨a, vs, rfl, h1, h2⟩ := seqR_of R h e
  rcases h1 with h1 | h1
  · exact .inl (.lst h1 (Dens.dp R h2 c))
  · exact .inr (.tup h1 (Dens.dp R h2 c))
theorem o_in (hu : X.A.units + 65 < cLine) : OpD X (compareOp .In) oIn := by
  refine ⟨fun x y S Q Q' k h => ?_, opWeak (op_inSq hu) fun x y H Q ⟨d, e, S, Z, dx, dy, R, h1, h⟩ => ?_⟩
  · unfold oIn at h ⊢
    refine ⟨h.1, ?_⟩
    have h := h.2
    split at h
    · exact ⟨h.1, k _ _ h.2⟩
    · exact h.elim
  · split at h
    · rename_i ys e0
      have c := can_tup h.1
      exact ⟨py d, pyL ys, dx.dp R (SeqAt.canLay_of_shaped h1), seq_dp R dy e0 c, h1, c, by rw [if_neg (by decide), any_pyL]; exact fin_same R (.bl _) h.2⟩
    · exact h.elim
theorem o_notin (hu : X.A.units + 65 < cLine) : OpD X (compareOp .NotIn) oNotIn := by
  refine ⟨fun x y S Q Q' k h => ?_, opWeak (op_notinSq hu) fun x y H Q ⟨d, e, S, Z, dx, dy, R, h1, h⟩ => ?_⟩
  · unfold oNotIn at h ⊢
    refine ⟨h.1, ?_⟩
    have h := h.2
    split at h
    · exact ⟨h.1, k _ _ h.2⟩
    · exact h.elim
  · split at h
    · rename_i ys e0
      have c := can_tup h.1
      exact ⟨py d, pyL ys, dx.dp R (SeqAt.canLay_of_shaped h1), seq_dp R dy e0 c, h1, c, by rw [if_pos rfl, any_pyL]; exact fin_same R (.bl _) h.2⟩
    · exact h.elim
/-! ### truth -/
def truF (S : Sto) : F → Option Bool
  | .non => some false
  | .bl b => some b
  | .int i => some (i != 0)
  | .tup l => some (!l.isEmpty)
  | .lst l => some (!l.isEmpty)
  | .rol l => some (!l.isEmpty)
  | .loc a => (S a).map fun l => !l.isEmpty
  | .str _ => none
def asTru (Q : Bool → Sto → Prop) : F → Sto → Prop := fun x S => match truF S x with | some k => Q k S | none => False
def wTru (m : W F) : W Bool := fun ρ S Q => m ρ S (asTru Q)
theorem mono_asTru {Q Q' : Bool → Sto → Prop} (k : ∀ b S, Q b S → Q' b S) : ∀ x S, asTru Q x S → asTru Q' x S := fun x S h => by
  unfold asTru at h ⊢
  split at h
  · exact k _ _ h
  · exact h.elim
theorem pb_tru (h : PD X e m) (he : ∀ whole, isTrue e X.env whole = (do let v ← whole; standAt e.pos; holding [v] (truthy v)) := by intro _; rfl) : PB X e (wTru m) :=
  ⟨fun _ _ _ _ k q => h.mono _ _ _ _ (mono_asTru k) q, weakT (pt_truth h.run he) fun σ H Q ⟨ρ, S, Z, r, R, q⟩ => by
    refine tD_in h.mono r R q fun x S1 v Z1 H1 p e1 R1 d1 => ?_
    unfold asTru at p
    split at p
    · rename_i k e0
      refine ⟨k, ?_, p _ _ e1 R1⟩
      cases x with
      | non => cases d1; cases e0; rfl
      | bl b => cases d1; cases e0; rfl
      | int i => cases d1; cases e0; rfl
      | str z => cases e0
      | tup l =>
        obtain ⟨a, us, rfl, h1, h2⟩ := seqR_of (S := S1) R1 d1 (fs := l) rfl
        cases e0
        have hl : us.isEmpty = l.isEmpty := by cases h2 <;> rfl
        rcases h1 with h1 | h1
        · exact .inl ⟨us, h1, by rw [hl]⟩
        · exact .inr (.inl ⟨us, h1, by rw [hl]⟩)
      | lst l =>
        obtain ⟨a, us, rfl, h1, h2⟩ := seqR_of (S := S1) R1 d1 (fs := l) rfl
        cases e0
        have hl : us.isEmpty = l.isEmpty := by cases h2 <;> rfl
        rcases h1 with h1 | h1
        · exact .inl ⟨us, h1, by rw [hl]⟩
        · exact .inr (.inl ⟨us, h1, by rw [hl]⟩)
      | rol l =>
        obtain ⟨a, us, rfl, h1, h2⟩ := seqR_of (S := S1) R1 d1 (fs := l) rfl
        cases e0
        have hl : us.isEmpty = l.isEmpty := by cases h2 <;> rfl
        rcases h1 with h1 | h1
        · exact .inl ⟨us, h1, by rw [hl]⟩
        · exact .inr (.inl ⟨us, h1, by rw [hl]⟩)
      | loc c =>
        cases e2 : S1 c with
        | none => simp [truF, e2] at e0
        | some l =>
          obtain ⟨a, us, rfl, h1, h2⟩ := seqR_of (S := S1) R1 d1 (fs := l) e2
          have e3 : truF S1 (.loc c) = some (!l.isEmpty) := by
            show Option.map (fun l => !l.isEmpty) (S1 c) = _
            rw [e2]
            rfl
          rw [e3] at e0
          cases e0
          have hl : us.isEmpty = l.isEmpty := by cases h2 <;> rfl
          rcases h1 with h1 | h1
          · exact .inl ⟨us, h1, by rw [hl]⟩
          · exact .inr (.inl ⟨us, h1, by rw [hl]⟩)
    · exact p.elim⟩
/-! ### list(range(..)) -/
def wListRg (m : W F) : W (List F) := fun ρ S Q => m ρ S (asI fun n S1 => RgOk 0 n ∧ Q (rngL 0 n.toNat) S1)
theorem dens_map {α : Type} {K : PySem.W.Frag} {Z : Hp} {f : α → V} {g : α → F} (h : ∀ a, Den K Z (f a) (g a)) : ∀ l : List α, Dens K Z (l.map f) (l.map g)
  | [] => .nil
  | a :: l => .cons (h a) (dens_map h l)
theorem pl_listRg {p pos pos2 : Pos} (hc : X.calm = true) (hg : Gl X "list") (hm : X.mg "list" = none) (hg2 : Gl X "range") (hm2 : X.mg "range" = none) (ha : PD X a ma)
    (na : starEach [.Call (.Name "range" p) [a] [] pos2] X.env = (false, eval (.Call (.Name "range" p) [a] [] pos2) X.env) :: starEach [] X.env := by rfl)
    (na2 : starEach [a] X.env = (false, eval a X.env) :: starEach [] X.env := by rfl) {p3 : Pos} : PL X (.Call (.Name "list" p3) [.Call (.Name "range" p) [a] [] pos2] [] pos) (wListRg ma) :=
  ⟨fun _ _ _ _ k q => ha.mono _ _ _ _ (mono_asI fun _ _ q => ⟨q.1, k _ _ q.2⟩) q, weakE (pe_listRg hc hg hm (prg_1 hg2 hm2 ha.run na2) na) fun σ H Q ⟨ρ, S, Z, r, R, q⟩ => by
    refine tD_in ha.mono r R q fun x S1 v Z1 H1 p e1 R1 d1 => ?_
    cases x with
    | int n =>
      refine ⟨n, den_int d1, p.1, fun q nq => ?_⟩
      refine lfin_new e1 R1 nq ?_ p.2
      unfold rgV rngL
      rw [show n - 0 = n by omega]
      exact dens_map (fun _ => .int _) _
    | _ => exact p.elim⟩
end
section
variable {ρ : Slots} {S : Sto} {Q : F → Sto → Prop} {QB : Bool → Sto → Prop} {QL : List F → Sto → Prop} {m : W F} {x : F} {xs ys : List F}
@[simp, simp ↓] theorem wTru_ev : wTru m ρ S QB = m ρ S (asTru QB) := (rfl)
@[simp, simp ↓] theorem asTru_t : asTru QB (.tup xs) S = QB (!xs.isEmpty) S := (rfl)
@[simp, simp ↓] theorem asTru_l : asTru QB (.lst xs) S = QB (!xs.isEmpty) S := (rfl)
@[simp, simp ↓] theorem asTru_b {b : Bool} : asTru QB (.bl b) S = QB b S := (rfl)
@[simp, simp ↓] theorem asTru_n : asTru QB .non S = QB false S := (rfl)
@[simp, simp ↓] theorem asTru_i {i : Int} : asTru QB (.int i) S = QB (i != 0) S := (rfl)
@[simp, simp ↓] theorem wListRg_ev : wListRg m ρ S QL = m ρ S (asI fun n S1 => RgOk 0 n ∧ QL (rngL 0 n.toNat) S1) := (rfl)
@[simp, simp ↓] theorem oIn_t : oIn x (.tup ys) S Q = (okF x = true ∧ okF (.tup ys) = true ∧ Q (.bl (ys.any fun z => eqF z x)) S) := (rfl)
@[simp, simp ↓] theorem oIn_l : oIn x (.lst ys) S Q = (okF x = true ∧ okF (.tup ys) = true ∧ Q (.bl (ys.any fun z => eqF z x)) S) := (rfl)
@[simp, simp ↓] theorem oNotIn_t : oNotIn x (.tup ys) S Q = (okF x = true ∧ okF (.tup ys) = true ∧ Q (.bl (!ys.any fun z => eqF z x)) S) := (rfl)
@[simp, simp ↓] theorem oNotIn_l : oNotIn x (.lst ys) S Q = (okF x = true ∧ okF (.tup ys) = true ∧ Q (.bl (!ys.any fun z => eqF z x)) S) := (rfl)
end
end DL

set_option maxHeartbeats 4000000
namespace DL
open PySem PySem.Spec PyProof.Rows L2
/-! ### the law's tape -/
def W_mix : WS :=
  (sSeq (sAsg (wOp oMod (wCall cInt (wCons (wOp oAdd (wOp oMul (wVar 0) (wC (.int 6364136223846793005))) (wC (.int 1442695040888963407))) wNil)) (wC (.int 18446744073709551616))) (gN 0))
    (sRet (wOp oMod (wCall cInt (wCons (wOp oAdd (wOp oDiv (wOp oMul (wVar 0) (wVar 0)) (wC (.int 4294967296))) (wOp oMul (wVar 0) (wC (.int 69621)))) wNil)) (wC (.int 18446744073709551557)))))
def W_tape : WS :=
  (sRet (wOwn (wLst (wCons (wOwn (wCall cList (wCons (wSl (wVar 0) wNoPart (wPart (wC (.int 80)))) wNil))) (wCons (wC (.int 0)) (wCons (wC (.int 0)) (wCons (wOp oAdd (wC (.int 1)) (wCall cLen (wCons (wVar 0) wNil))) wNil)))))))
def W_take (c__law_mix : Ct) : WS :=
  (sSeq (sIf (wTst (wOp oLt (wOp oIx (wVar 0) (wC (.int 2))) (wVar 1))) (sIf (wTst (wOp oLt (wOp oIx (wVar 0) (wC (.int 1))) (wCall cLen (wCons (wOp oIx (wVar 0) (wC (.int 0))) wNil)))) (sSeq (sAsg (wOp oIx (wOp oIx (wVar 0) (wC (.int 0))) (wOp oIx (wVar 0) (wC (.int 1)))) (gN 2))
    (sSeq (sAsg (wIf (wTst (wOp oGe (wVar 2) (wC (.int 0)))) (wOp oMul (wC (.int 2)) (wVar 2)) (wOp oSub (wOp oMul (wNeg (wC (.int 2))) (wVar 2)) (wC (.int 1)))) (gN 2))
    (sSeq (sAsg (wOp oAdd (wOp oIx (wVar 0) (wC (.int 1))) (wC (.int 1))) (gSubL (wVar 0) (wC (.int 1))))
    (sSeq (sAsg (wCall c__law_mix (wCons (wOp oAdd (wOp oIx (wVar 0) (wC (.int 3))) (wVar 2)) wNil)) (gSubL (wVar 0) (wC (.int 3))))
    (sAsg (wIf (wTst (wOp oGe (wVar 2) (wOp oPow (wC (.int 10)) (wC (.int 18))))) (wVar 2) (wCall c__law_mix (wCons (wOp oAdd (wCall c__law_mix (wCons (wVar 2) wNil)) (wOp oIx (wVar 0) (wC (.int 1)))) wNil))) (gSubL (wVar 0) (wC (.int 2)))))))) (sSeq (sAsg (wCall c__law_mix (wCons (wOp oAdd (wOp oIx (wVar 0) (wC (.int 3))) (wC (.int 1))) wNil)) (gSubL (wVar 0) (wC (.int 3))))
    (sAsg (wOp oIx (wVar 0) (wC (.int 3))) (gSubL (wVar 0) (wC (.int 2)))))) sNext)
    (sSeq (sAsg (wOp oMod (wCall cInt (wCons (wOp oIx (wVar 0) (wC (.int 2))) wNil)) (wVar 1)) (gN 3))
    (sSeq (sAsg (wOp oDiv (wOp oIx (wVar 0) (wC (.int 2))) (wVar 1)) (gSubL (wVar 0) (wC (.int 2))))
    (sRet (wVar 3)))))
def TapeAt (S : Sto) (b c : Addr) : Prop := b ≠ c ∧ ∃ (i : Nat) (x y : Int) (cells : List Int), S b = some [.loc c, .int (i : Int), .int x, .int y] ∧ S c = some (cells.map F.int)
def C_mix : Ct := fun xs S Q => ∃ n : Int, xs = [.int n] ∧ ∀ d : Int, Q (.int d) S
theorem mono_C_mix : MonoC C_mix := fun xs S Q Q' k ⟨n, e, q⟩ => ⟨n, e, fun d => k _ _ (q d)⟩
theorem sp_mix (fs : List F) (S : Sto) (Q) (h : C_mix fs S Q) : fs.length = 1 ∧ W_mix { nx := fun _ S' => Q .non S', rt := fun d S' => Q d S' } (startF 1 fs) S := by
  obtain ⟨n, rfl, q⟩ := h
  refine ⟨rfl, ?_⟩
  show W_mix _ [some (.int n)] S
  unfold W_mix
  rw [sSeq_ev]
  simp
  refine ⟨mulOk_r (by decide), ?_⟩
  generalize n * 6364136223846793005 + 1442695040888963407 = x
  have h0 := Int.emod_nonneg x (show (18446744073709551616 : Int) ≠ 0 by decide)
  have h1 := Int.emod_lt_of_pos x (show (0 : Int) < 18446744073709551616 by decide)
  generalize x % 18446744073709551616 = y at h0 h1
  refine ⟨mulOk_l ⟨by omega, by omega⟩, wide_div (b := 33) (by decide) (by decide) (by decide) (by decide), mulOk_r (by decide), q _⟩
def C_tape : Ct := fun xs S Q => ∃ ns : List Int, xs = [.rol (ns.map F.int)] ∧ ns.length ≤ 1000 ∧ ∀ b c S', TapeAt S' b c → S b = none → S c = none → Fr S S' b c → Q (.loc b) S'
theorem mono_C_tape : MonoC C_tape := fun xs S Q Q' k ⟨ns, e, h, q⟩ => ⟨ns, e, h, fun b c S' h1 h2 h3 h4 => k _ _ (q b c S' h1 h2 h3 h4)⟩
theorem sp_tape (fs : List F) (S : Sto) (Q) (h : C_tape fs S Q) : fs.length = 1 ∧ W_tape { nx := fun _ S' => Q .non S', rt := fun d S' => Q d S' } (startF 1 fs) S := by
  obtain ⟨ns, rfl, hl, q⟩ := h
  refine ⟨rfl, ?_⟩
  show W_tape _ [some (.rol (ns.map F.int))] S
  simp [W_tape]
  refine fun c hc b hb => ?_
  have hbc : b ≠ c := fun e => by
    subst e
    rw [updS_same] at hb
    cases hb
  rw [updS_ne hbc] at hb
  refine q b c _ ⟨hbc, 0, _, _, cut ns none (some 80), updS_same, ?_⟩ hb hc fun a h1 h2 => ?_
  · rw [updS_ne hbc.symm, updS_same, cut_map]
  · rw [updS_ne h1, updS_ne h2]
def C_take : Ct := fun xs S Q => ∃ b c many, xs = [.loc b, .int many] ∧ TapeAt S b c ∧ 0 < many ∧ many < 2 ^ 30 ∧ ∀ (d : Nat) S', (d : Int) < many → TapeAt S' b c → Fr S S' b c → Q (.int (d : Int)) S'
theorem mono_C_take : MonoC C_take := fun xs S Q Q' k ⟨b, c, m, e, h, m1, m2, q⟩ => ⟨b, c, m, e, h, m1, m2, fun d S' h2 h3 h4 => k _ _ (q d S' h2 h3 h4)⟩
theorem call_take {S : Sto} {Q : F → Sto → Prop} {b c : Addr} {many : Int} (h : TapeAt S b c) (h1 : 0 < many) (h2 : many < 2 ^ 30) (q : ∀ (d : Nat) S', (d : Int) < many → TapeAt S' b c → Fr S S' b c → Q (.int (d : Int)) S') : C_take [.loc b, .int many] S Q := ⟨b, c, many, rfl, h, h1, h2, q⟩
theorem call_mix {S : Sto} {Q : F → Sto → Prop} {n : Int} (q : ∀ d : Int, Q (.int d) S) : C_mix [.int n] S Q := ⟨n, rfl, q⟩
theorem cpow_18 : CPow 10 18 := ⟨by decide, by decide, by decide⟩
theorem sp_take (fs : List F) (S : Sto) (Q) (h : C_take fs S Q) : fs.length = 2 ∧ W_take C_mix { nx := fun _ S' => Q .non S', rt := fun d S' => Q d S' } (startF 4 fs) S := by
  obtain ⟨b, c, many, rfl, hbox, m1, m2, q⟩ := h
  refine ⟨rfl, ?_⟩
  show W_take _ _ [some (.loc b), some (.int many), none, none] S
  have rest : ∀ S1 o, TapeAt S1 b c → Fr S S1 b c → (sSeq (sAsg (wOp oMod (wCall cInt (wCons (wOp oIx (wVar 0) (wC (.int 2))) wNil)) (wVar 1)) (gN 3))
    (sSeq (sAsg (wOp oDiv (wOp oIx (wVar 0) (wC (.int 2))) (wVar 1)) (gSubL (wVar 0) (wC (.int 2))))
    (sRet (wVar 3)))) { nx := fun _ S' => Q .non S', rt := fun d S' => Q d S' } [some (.loc b), some (.int many), o, none] S1 := by
    rintro S1 o ⟨hbc, i, x, y, cells, hb, hc⟩ fr
    simp [hb]
    refine ⟨m1, divOk m1 m2, ?_⟩
    have e0 := Int.emod_nonneg x (show many ≠ 0 by omega)
    have e1 := Int.emod_lt_of_pos x m1
    have e2 : x % many = ((x % many).toNat : Int) := by omega
    rw [e2]
    refine q _ _ (by omega) ⟨hbc, i, _, y, cells, updS_same, ?_⟩ (fr.trans fun a h1 h2 => updS_ne h1)
    rw [updS_ne hbc.symm]
    exact hc
  have hbox' := hbox
  obtain ⟨hbc, i, x, y, cells, hb, hc⟩ := hbox'
  have hcb : c ≠ b := fun e => hbc e.symm
  have fin : ∀ (S1 : Sto) (o : Option F) (i1 : Nat) (x1 y1 : Int), S1 b = some [.loc c, .int (i1 : Int), .int x1, .int y1] → (∀ a, a ≠ b → S1 a = S a) → (sSeq (sAsg (wOp oMod (wCall cInt (wCons (wOp oIx (wVar 0) (wC (.int 2))) wNil)) (wVar 1)) (gN 3))
    (sSeq (sAsg (wOp oDiv (wOp oIx (wVar 0) (wC (.int 2))) (wVar 1)) (gSubL (wVar 0) (wC (.int 2))))
    (sRet (wVar 3)))) { nx := fun _ S' => Q .non S', rt := fun d S' => Q d S' } [some (.loc b), some (.int many), o, none] S1 := fun S1 o i1 x1 y1 h1 h2 =>
    rest S1 o ⟨hbc, i1, x1, y1, cells, h1, by rw [h2 c hcb]; exact hc⟩ fun a ha _ => h2 a ha
  unfold W_take
  rw [sSeq_ev]
  simp [hb, hc, -sSeq_ev]
  split
  · split
    · rename_i h1 h2
      have h2' : i < cells.length := by omega
      have e1 : cells[i]? = some cells[i] := List.getElem?_eq_getElem h2'
      rw [sSeq_ev]
      simp [hb, hc, atI_cast, e1, -sSeq_ev]
      have mid : ∀ z : Int, (sSeq (sAsg (wOp oAdd (wOp oIx (wVar 0) (wC (.int 1))) (wC (.int 1))) (gSubL (wVar 0) (wC (.int 1))))
          (sSeq (sAsg (wCall C_mix (wCons (wOp oAdd (wOp oIx (wVar 0) (wC (.int 3))) (wVar 2)) wNil)) (gSubL (wVar 0) (wC (.int 3))))
          (sAsg (wIf (wTst (wOp oGe (wVar 2) (wOp oPow (wC (.int 10)) (wC (.int 18))))) (wVar 2) (wCall C_mix (wCons (wOp oAdd (wCall C_mix (wCons (wVar 2) wNil)) (wOp oIx (wVar 0) (wC (.int 1)))) wNil))) (gSubL (wVar 0) (wC (.int 2))))))
          { nx := sSeq (sAsg (wOp oMod (wCall cInt (wCons (wOp oIx (wVar 0) (wC (.int 2))) wNil)) (wVar 1)) (gN 3))
              (sSeq (sAsg (wOp oDiv (wOp oIx (wVar 0) (wC (.int 2))) (wVar 1)) (gSubL (wVar 0) (wC (.int 2))))
              (sRet (wVar 3))) { nx := fun x S' => Q F.non S', rt := fun d S' => Q d S' }, rt := fun d S' => Q d S' } [some (.loc b), some (.int many), some (.int z), none] S := fun z => by
        rw [sSeq_ev]
        simp [hb, -sSeq_ev]
        rw [sSeq_ev]
        simp [hb, -sSeq_ev]
        refine call_mix fun d => ?_
        simp [-sSeq_ev, cpow_18]
        split
        · refine fin _ _ (i + 1) z d ?_ fun a ha => by rw [updS_ne ha, updS_ne ha, updS_ne ha]
          rw [updS_same]
          simp
        · refine call_mix fun d1 => ?_
          simp [-sSeq_ev]
          refine call_mix fun d2 => ?_
          simp [-sSeq_ev]
          refine fin _ _ (i + 1) d2 d ?_ fun a ha => by rw [updS_ne ha, updS_ne ha, updS_ne ha]
          rw [updS_same]
          simp
      rw [sSeq_ev]
      simp [-sSeq_ev, mulOk, CMul]
      split
      · exact mid _
      · exact mid _
    · rw [sSeq_ev]
      simp [hb, -sSeq_ev]
      refine call_mix fun d => ?_
      simp [hb, -sSeq_ev]
      refine fin _ _ i d d ?_ fun a ha => by rw [updS_ne ha, updS_ne ha]
      rw [updS_same]
  · exact rest S none hbox Fr.refl
def W_spoiltRest (c__law_take : Ct) : WS :=
  (sSeq (sAsg (wFrz (wLst (wCons (wC .non) (wCons (wTup wNil) (wCons (wC (.int 0)) (wCons (wC (.int 1)) (wCons (wC (.bl true)) (wCons (wC (.bl false)) (wCons (wC (.str ("a" : Str))) (wCons (wNeg (wC (.int 1))) (wCons (wTup (wCons (wC (.int 0)) wNil)) (wCons (wTup (wCons (wTup (wCons (wC (.int 0)) (wCons (wC (.int 0)) wNil))) wNil)) wNil)))))))))))) (gN 3))
    (sSeq (sIf (wTst (wIsi "int" (wVar 1))) (sAsg (wOp oAdd (wVar 3) (wFrz (wLst (wCons (wOp oAdd (wVar 1) (wC (.int 1))) (wCons (wOp oSub (wVar 1) (wC (.int 1))) (wCons (wOp oEq (wVar 1) (wC (.int 1))) (wCons (wOp oAdd (wVar 1) (wC (.int 1))) wNil))))))) (gN 3)) sNext)
    (sSeq (sIf (wTst (wIsi "tuple" (wVar 1))) (sAsg (wOp oAdd (wVar 3) (wFrz (wLst (wCons (wSl (wVar 1) wNoPart (wPart (wNeg (wC (.int 1))))) (wCons (wOp oAdd (wVar 1) (wSl (wVar 1) (wPart (wNeg (wC (.int 1)))) wNoPart)) (wCons (wRev (wVar 1)) (wCons (wOp oAdd (wVar 1) (wTup (wCons (wTup (wCons (wC (.int 0)) (wCons (wC (.int 0)) wNil))) wNil))) (wCons (wTup (wCons (wVar 1) wNil)) (wCons (wSl (wVar 1) (wPart (wC (.int 1))) wNoPart) wNil))))))))) (gN 3)) sNext)
    (sRet (wOp oIx (wVar 3) (wCall c__law_take (wCons (wVar 0) (wCons (wCall cLen (wCons (wVar 3) wNil)) wNil))))))))
def W_spoilt (c__law_take : Ct) (c__law_spoilt : Ct) : WS :=
  (sSeq (sIf (bAnd (wTst (wIsi "tuple" (wVar 1))) (bAnd (wTst (wOp oGt (wCall cLen (wCons (wVar 1) wNil)) (wC (.int 0)))) (wTst (wOp oGt (wCall c__law_take (wCons (wVar 0) (wCons (wC (.int 4)) wNil))) (wC (.int 0)))))) (sSeq (sAsg (wCall c__law_take (wCons (wVar 0) (wCons (wCall cLen (wCons (wVar 1) wNil)) wNil))) (gN 2))
    (sSeq (sIf (wTst (wOp oEq (wCall c__law_take (wCons (wVar 0) (wCons (wC (.int 8)) wNil))) (wC (.int 0)))) (sRet (wOp oAdd (wSl (wVar 1) wNoPart (wPart (wVar 2))) (wSl (wVar 1) (wPart (wOp oAdd (wVar 2) (wC (.int 1)))) wNoPart))) sNext)
    (sRet (wOp oAdd (wOp oAdd (wSl (wVar 1) wNoPart (wPart (wVar 2))) (wTup (wCons (wCall c__law_spoilt (wCons (wVar 0) (wCons (wOp oIx (wVar 1) (wVar 2)) wNil))) wNil))) (wSl (wVar 1) (wPart (wOp oAdd (wVar 2) (wC (.int 1)))) wNoPart))))) sNext)
    (W_spoiltRest c__law_take))
def sAtom : F → Bool
  | .non => true
  | .int _ => true
  | _ => false
def sOk : Nat → F → Prop
  | 0, v => sAtom v = true
  | n + 1, v => sAtom v = true ∨ ∃ xs, v = .tup xs ∧ xs.length ≤ 100000 ∧ ∀ x ∈ xs, sOk n x
theorem sAtom_fz {v : F} (h : sAtom v = true) : fz v = true ∧ dep v = 0 := by
  cases v <;> first | exact ⟨rfl, rfl⟩ | cases h
theorem sOk_fz : ∀ {n : Nat} {v : F}, sOk n v → fz v = true ∧ dep v ≤ n
  | 0, v, h => ⟨(sAtom_fz h).1, Nat.le_of_eq (sAtom_fz h).2⟩
  | n + 1, v, h => by
    rcases h with h | ⟨xs, rfl, h1, h2⟩
    · exact ⟨(sAtom_fz h).1, by rw [(sAtom_fz h).2]; omega⟩
    · exact ⟨fz_tup_of (by omega) fun x hx => (sOk_fz (h2 x hx)).1, dep_tup fun x hx => (sOk_fz (h2 x hx)).2⟩
theorem sOk_atom {n : Nat} {v : F} (h : sAtom v = true) : sOk n v := by
  cases n with
  | zero => exact h
  | succ n => exact .inl h
theorem sOk_cases {n : Nat} {v : F} (h : sOk n v) : sAtom v = true ∨ ∃ k xs, n = k + 1 ∧ v = .tup xs ∧ xs.length ≤ 100000 ∧ ∀ x ∈ xs, fz x = true ∧ dep x ≤ k := by
  cases n with
  | zero => exact .inl h
  | succ n =>
    rcases h with h | ⟨xs, rfl, h1, h2⟩
    · exact .inl h
    · exact .inr ⟨n, xs, rfl, rfl, h1, fun x hx => sOk_fz (h2 x hx)⟩
def sBase : List F := [.non, .tup [], .int 0, .int 1, .bl true, .bl false, .str ("a" : Str), .int (-1), .tup [.int 0], .tup [.tup [.int 0, .int 0]]]
theorem sBase_ok : ∀ z ∈ sBase, fz z = true ∧ dep z ≤ 2 := by
  intro z hz
  simp [sBase] at hz
  rcases hz with rfl | rfl | rfl | rfl | rfl | rfl | rfl | rfl | rfl | rfl <;> exact ⟨by decide +kernel, by decide +kernel⟩
theorem spoiltRest {D : EndsD} {b c : Addr} {v : F} {o2 o3 : Option F} {S1 : Sto} {n : Nat} (hb : TapeAt S1 b c) (hv : sOk n v) (q : ∀ v' S', fz v' = true → dep v' ≤ n + 3 → TapeAt S' b c → Fr S1 S' b c → D.rt v' S') :
    W_spoiltRest C_take D [some (.loc b), some v, o2, o3] S1 := by
  have fin : ∀ L : List F, L.length ≤ 100 → 0 < L.length → (∀ z ∈ L, fz z = true ∧ dep z ≤ n + 3) → C_take [.loc b, .int L.length] S1 fun y S2 => oIx (.lst L) y S2 fun d S' => D.rt d S' := fun L l1 l2 hL =>
    call_take hb (by omega) (by omega) fun d S2 hd hb2 f2 => oIx_mem (by omega) fun z hz => q z S2 (hL z hz).1 (hL z hz).2 hb2 f2
  have base : ∀ z ∈ sBase, fz z = true ∧ dep z ≤ n + 3 := fun z hz => ⟨(sBase_ok z hz).1, by have := (sBase_ok z hz).2; omega⟩
  unfold W_spoiltRest
  rw [sSeq_ev]; simp [-sSeq_ev]
  rcases sOk_cases hv with ha | ⟨k, xs, rfl, rfl, h1, h2⟩
  · cases v with
    | non =>
      rw [sSeq_ev]; simp [-sSeq_ev]
      rw [sSeq_ev]; simp [-sSeq_ev]
      exact fin sBase (by decide) (by decide) base
    | int i =>
      rw [sSeq_ev]; simp [-sSeq_ev]
      rw [sSeq_ev]; simp [-sSeq_ev]
      refine fin (sBase ++ [.int (i + 1), .int (i - 1), .bl (i == 1), .int (i + 1)]) (by simp [sBase]) (by simp [sBase]) fun z hz => ?_
      rcases List.mem_append.mp hz with h | h
      · exact base z h
      · simp at h
        rcases h with rfl | rfl | rfl | rfl <;> exact ⟨rfl, Nat.zero_le _⟩
    | _ => cases ha
  · have hx : fz (.tup xs) = true := fz_tup_of (by omega) fun x hx => (h2 x hx).1
    have hd : dep (.tup xs) ≤ k + 1 := dep_tup fun x hx => (h2 x hx).2
    have l1 := cut_length xs (some (-1)) none
    rw [sSeq_ev]; simp [-sSeq_ev]
    rw [sSeq_ev]; simp [-sSeq_ev]
    refine ⟨mil (by omega), mil (by omega), ?_⟩
    have cutOk : ∀ lo hi, fz (.tup (cut xs lo hi)) = true ∧ dep (.tup (cut xs lo hi)) ≤ k + 1 + 3 := fun lo hi =>
      ⟨fz_tup_of (Nat.le_trans (cut_length ..) (by omega)) fun x hx => (h2 x (cut_mem hx)).1, Nat.le_trans (dep_tup fun x hx => (h2 x (cut_mem hx)).2) (by omega)⟩
    refine fin (sBase ++ [.tup (cut xs none (some (-1))), .tup (xs ++ cut xs (some (-1)) none), .tup xs.reverse, .tup (xs ++ [.tup [.int 0, .int 0]]), .tup [.tup xs], .tup (cut xs (some 1) none)]) (by simp [sBase]) (by simp [sBase]) fun z hz => ?_
    rcases List.mem_append.mp hz with h | h
    · exact base z h
    · simp at h
      rcases h with rfl | rfl | rfl | rfl | rfl | rfl
      · exact cutOk _ _
      · have hm : ∀ x ∈ xs ++ cut xs (some (-1)) none, fz x = true ∧ dep x ≤ k := fun x hx => by
          rcases List.mem_append.mp hx with h | h
          · exact h2 x h
          · exact h2 x (cut_mem h)
        exact ⟨fz_tup_of (by rw [List.length_append]; omega) fun x hx => (hm x hx).1, Nat.le_trans (dep_tup fun x hx => (hm x hx).2) (by omega)⟩
      · exact ⟨fz_tup_of (by rw [List.length_reverse]; omega) fun x hx => (h2 x (List.mem_reverse.mp hx)).1, Nat.le_trans (dep_tup fun x hx => (h2 x (List.mem_reverse.mp hx)).2) (by omega)⟩
      · have hm : ∀ x ∈ xs ++ [.tup [.int 0, .int 0]], fz x = true ∧ dep x ≤ k + 1 := fun x hx => by
          rcases List.mem_append.mp hx with h | h
          · exact ⟨(h2 x h).1, by have := (h2 x h).2; omega⟩
          · rw [List.mem_singleton.mp h]
            exact ⟨by decide +kernel, Nat.le_trans (show _ ≤ 1 by decide +kernel) (by omega)⟩
        exact ⟨fz_tup_of (by simp; omega) fun x hx => (hm x hx).1, Nat.le_trans (dep_tup fun x hx => (hm x hx).2) (by omega)⟩
      · exact ⟨fz_tup_of (by simp) fun x hx' => by rw [List.mem_singleton.mp hx']; exact hx, Nat.le_trans (dep_tup (n := k + 1) fun x hx' => by rw [List.mem_singleton.mp hx']; exact hd) (by omega)⟩
      · exact cutOk _ _
def C_spoilt (n : Nat) : Ct := fun xs S Q => ∃ b c v, xs = [.loc b, v] ∧ TapeAt S b c ∧ sOk n v ∧ ∀ v' S', fz v' = true → dep v' ≤ n + 3 → TapeAt S' b c → Fr S S' b c → Q v' S'
theorem mono_C_spoilt {n : Nat} : MonoC (C_spoilt n) := fun xs S Q Q' k ⟨b, c, v, e, h1, h2, q⟩ => ⟨b, c, v, e, h1, h2, fun v' S' h1 h2 h3 h4 => k _ _ (q v' S' h1 h2 h3 h4)⟩
theorem call_spoilt {n : Nat} {b c : Addr} {S : Sto} {Q : F → Sto → Prop} {v : F} (h : TapeAt S b c) (hv : sOk n v) (q : ∀ v' S', fz v' = true → dep v' ≤ n + 3 → TapeAt S' b c → Fr S S' b c → Q v' S') : C_spoilt n [.loc b, v] S Q := ⟨b, c, v, rfl, h, hv, q⟩
theorem sp_spoilt0 (fs : List F) (S : Sto) (Q) (h : C_spoilt 0 fs S Q) : fs.length = 2 ∧ W_spoilt C_take C_never { nx := fun _ S' => Q .non S', rt := fun d S' => Q d S' } (startF 4 fs) S := by
  obtain ⟨b, c, v, rfl, hb, hv, q⟩ := h
  refine ⟨rfl, ?_⟩
  show W_spoilt _ _ _ [some (.loc b), some v, none, none] S
  have := spoiltRest (D := { nx := fun _ S' => Q .non S', rt := fun d S' => Q d S' }) (o2 := none) (o3 := none) hb hv q
  unfold W_spoilt
  rw [sSeq_ev]
  have hv : sAtom v = true := hv
  cases v with
  | non => simpa [-sSeq_ev] using this
  | int i => simpa [-sSeq_ev] using this
  | _ => cases hv
theorem sp_spoilt (n : Nat) (fs : List F) (S : Sto) (Q) (h : C_spoilt (n + 1) fs S Q) : fs.length = 2 ∧ W_spoilt C_take (C_spoilt n) { nx := fun _ S' => Q .non S', rt := fun d S' => Q d S' } (startF 4 fs) S := by
  obtain ⟨b, c, v, rfl, hb, hv, q⟩ := h
  refine ⟨rfl, ?_⟩
  show W_spoilt _ _ _ [some (.loc b), some v, none, none] S
  have rest : ∀ S1, TapeAt S1 b c → Fr S S1 b c → W_spoiltRest C_take { nx := fun _ S' => Q .non S', rt := fun d S' => Q d S' } [some (.loc b), some v, none, none] S1 := fun S1 h1 f1 =>
    spoiltRest h1 hv fun v' S' a1 a4 a2 a3 => q v' S' a1 a4 a2 (f1.trans a3)
  unfold W_spoilt
  rw [sSeq_ev]
  have hv' : sAtom v = true ∨ ∃ xs, v = .tup xs ∧ xs.length ≤ 100000 ∧ ∀ x ∈ xs, sOk n x := hv
  rcases hv' with ha | ⟨xs, rfl, h1, h2⟩
  · cases v with
    | non => simpa [-sSeq_ev] using rest S hb Fr.refl
    | int i => simpa [-sSeq_ev] using rest S hb Fr.refl
    | _ => cases ha
  · by_cases h0 : 0 < xs.length
    · have h0' : (0 : Int) < xs.length := by omega
      simp [-sSeq_ev, h0]
      refine call_take hb (by decide) (by decide) fun d S1 hd hb1 f1 => ?_
      simp [-sSeq_ev]
      split
      · rename_i hd0
        rw [sSeq_ev]
        simp [-sSeq_ev]
        refine call_take hb1 h0' (by omega) fun at' S2 ha hb2 f2 => ?_
        have hat : at' < xs.length := by omega
        have e1 : xs[at']? = some xs[at'] := List.getElem?_eq_getElem hat
        rw [sSeq_ev]
        simp [-sSeq_ev]
        refine call_take hb2 (by decide) (by decide) fun e S3 he hb3 f3 => ?_
        have l1 := cut_length xs none (some (at' : Int))
        have l2 := cut_length xs (some ((at' : Int) + 1)) none
        have hxs : ∀ x ∈ xs, fz x = true ∧ dep x ≤ n := fun x hx => sOk_fz (h2 x hx)
        simp
        split
        · refine ⟨mil (by omega), q _ S3 ?_ ?_ hb3 ((f1.trans f2).trans f3)⟩
          · refine fz_tup_of (by rw [List.length_append]; omega) fun x hx => ?_
            rcases List.mem_append.mp hx with h | h
            · exact (hxs x (cut_mem h)).1
            · exact (hxs x (cut_mem h)).1
          · refine Nat.le_trans (dep_tup (n := n) fun x hx => ?_) (by omega)
            rcases List.mem_append.mp hx with h | h
            · exact (hxs x (cut_mem h)).2
            · exact (hxs x (cut_mem h)).2
        · simp [atI_cast, e1]
          refine call_spoilt hb3 (h2 _ (List.getElem_mem hat)) fun v' S4 hz hdz hb4 f4 => ?_
          simp [set_cutF _ hat]
          refine ⟨mil (by omega), mil (by omega), q _ S4 ?_ ?_ hb4 (((f1.trans f2).trans f3).trans f4)⟩
          · unfold fz
            rw [fz_set (fzL_of fun x hx => (hxs x hx).1) hz, List.length_set, Bool.and_true]
            exact decide_eq_true (by omega)
          · refine Nat.le_trans (dep_tup (n := n + 3) fun x hx => ?_) (by omega)
            rcases List.mem_or_eq_of_mem_set hx with h | h
            · have := (hxs x h).2
              omega
            · rw [h]
              exact hdz
      · exact rest S1 hb1 f1
    · simpa [-sSeq_ev, h0] using rest S hb Fr.refl
section
variable {P : Program} {w : World} {K : PySem.W.Frag} {mg : Str → Option Value} {base : Heap}
theorem spoilt_cal {params : Arguments} {body : List Stmt} {scope : Scope} {f : Addr} {fd : FuncData}
    (ok : ∀ (lv : Nat), 2 ≤ lv → ∀ {Crec C : Ct}, Cal P w K mg base lv "_law_spoilt" ["tape", "value"] Crec → MonoC C → (∀ fs S Q, C fs S Q → fs.length = 2 ∧ W_spoilt C_take Crec { nx := fun _ S' => Q .non S', rt := fun d S' => Q d S' } (startF 4 fs) S) → FnD P w K mg base (lv + 1) f fd ["tape", "value"] C)
    (F : FunD K "_law_spoilt" "_law_spoilt" params body scope [] [] f fd) (g : mg "_law_spoilt" = some (.ref f)) (b : L2.Binds K fd ["tape", "value"] []) : ∀ n, Cal P w K mg base (n + 3) "_law_spoilt" ["tape", "value"] (C_spoilt n)
  | 0 => cal_of F g b (ok 2 (Nat.le_refl 2) (cal_never_at 2 F g b) mono_C_spoilt sp_spoilt0)
  | n + 1 => cal_of F g b (ok (n + 3) (by omega) (spoilt_cal ok F g b n) mono_C_spoilt (sp_spoilt n))
end
end DL

set_option maxHeartbeats 4000000
namespace DL
open PySem PySem.Spec PyProof.Rows L2
/-! ### tables of ints -/
def W_is_row (c_is_count : Ct) : WS :=
  (sRet (wAnd (wIsi "tuple" (wVar 0)) (wAnd (wOp oEq (wCall cLen (wCons (wVar 0) wNil)) (wVar 1)) (wCall cAll (wCons (wFrz (wComp [2] (wIt (wVar 0)) (gN 2) wYes (wCall c_is_count (wCons (wVar 2) (wCons (wC (.int 0)) (wCons (wC (.int 1)) wNil)))))) wNil)))))
def W_is_table (c_is_row : Ct) : WS :=
  (sSeq (sIf (bOr (bNot (wTst (wIsi "tuple" (wVar 0)))) (bOr (bNot (wTst (wChain oLe oLe (wC (.int 1)) (wCall cLen (wCons (wVar 0) wNil)) (wC (.int 16))))) (bNot (wTst (wIsi "tuple" (wOp oIx (wVar 0) (wC (.int 0)))))))) (sRet (wC (.bl false))) sNext)
    (sSeq (sAsg (wCall cLen (wCons (wOp oIx (wVar 0) (wC (.int 0))) wNil)) (gN 1))
    (sRet (wAnd (wChain oLe oLe (wC (.int 1)) (wVar 1) (wC (.int 16))) (wCall cAll (wCons (wFrz (wComp [2] (wIt (wVar 0)) (gN 2) wYes (wCall c_is_row (wCons (wVar 2) (wCons (wVar 1) wNil))))) wNil))))))
def W_row_sums : WS :=
  (sRet (wCall cTuple (wCons (wFrz (wComp [1] (wIt (wVar 0)) (gN 1) wYes (wCall cSum (wCons (wVar 1) wNil)))) wNil)))
def W_turned : WS :=
  (sRet (wCall cTuple (wCons (wFrz (wComp [1] (wRange1 (wCons (wCall cLen (wCons (wOp oIx (wVar 0) (wC (.int 0))) wNil)) wNil)) (gN 1) wYes (wCall cTuple (wCons (wFrz (wComp [2] (wIt (wVar 0)) (gN 2) wYes (wOp oIx (wVar 2) (wVar 1)))) wNil)))) wNil)))
def W_column_sums (c_row_sums : Ct) (c_turned : Ct) : WS :=
  (sRet (wCall c_row_sums (wCons (wCall c_turned (wCons (wVar 0) wNil)) wNil)))
def W_with_cell : WS :=
  (sSeq (sAsg (wOp oAdd (wOp oAdd (wSl (wOp oIx (wVar 0) (wVar 1)) wNoPart (wPart (wVar 2))) (wTup (wCons (wVar 3) wNil))) (wSl (wOp oIx (wVar 0) (wVar 1)) (wPart (wOp oAdd (wVar 2) (wC (.int 1)))) wNoPart)) (gN 4))
    (sRet (wOp oAdd (wOp oAdd (wSl (wVar 0) wNoPart (wPart (wVar 1))) (wTup (wCons (wVar 4) wNil))) (wSl (wVar 0) (wPart (wOp oAdd (wVar 1) (wC (.int 1)))) wNoPart))))
def W_sums : WS :=
  (sRet (wTup (wCons (wCall cTuple (wCons (wFrz (wComp [1] (wIt (wVar 0)) (gN 1) wYes (wCall cSum (wCons (wVar 1) wNil)))) wNil)) (wCons (wCall cTuple (wCons (wFrz (wComp [2] (wRange1 (wCons (wCall cLen (wCons (wOp oIx (wVar 0) (wC (.int 0))) wNil)) wNil)) (gN 2) wYes (wCall cSum (wCons (wFrz (wComp [1] (wIt (wVar 0)) (gN 1) wYes (wOp oIx (wVar 1) (wVar 2)))) wNil)))) wNil)) wNil))))
def isRow : F → Int → Bool
  | .tup xs, n => ((xs.length : Int) == n) && xs.all (fun c => isCount c 0 1)
  | _, _ => false
def isTab : F → Bool
  | .tup (.tup r :: xs) => decide (xs.length + 1 ≤ 16) && (decide (1 ≤ r.length ∧ r.length ≤ 16) && (F.tup r :: xs).all (fun c => isRow c r.length))
  | _ => false
def C_is_row : Ct := fun xs S Q => ∃ v n, xs = [v, .int n] ∧ fz v = true ∧ Q (.bl (isRow v n)) S
def C_is_table : Ct := fun xs S Q => ∃ v, xs = [v] ∧ fz v = true ∧ Q (.bl (isTab v)) S
theorem mono_C_is_row : MonoC C_is_row := fun xs S Q Q' k ⟨v, n, e, h, q⟩ => ⟨v, n, e, h, k _ _ q⟩
theorem mono_C_is_table : MonoC C_is_table := fun xs S Q Q' k ⟨v, e, h, q⟩ => ⟨v, e, h, k _ _ q⟩
theorem sp_is_row (fs : List F) (S : Sto) (Q) (h : C_is_row fs S Q) : fs.length = 2 ∧ W_is_row C_count { nx := fun _ S' => Q .non S', rt := fun d S' => Q d S' } (startF 3 fs) S := by
  obtain ⟨v, n, rfl, hv, q⟩ := h
  refine ⟨rfl, ?_⟩
  show W_is_row _ _ [some v, some (.int n), none] S
  cases v with
  | tup xs =>
    obtain ⟨hl, hz⟩ := fz_tup hv
    simp [W_is_row]
    split
    · rename_i e
      refine ⟨mil hl, ?_⟩
      refine compL_map (fun x => .bl (isCount x 0 1)) trivial _ _ (fun x hx Q2 q2 => ?_) ?_
      · simp
        exact ⟨x, 0, 1, rfl, fz_mem hz hx, q2⟩
      · rw [List.nil_append, show (xs.map fun x => F.bl (isCount x 0 1)) = (xs.map fun x => isCount x 0 1).map F.bl by rw [List.map_map]; rfl, cAll_l]
        simpa [isRow, e, List.all_map] using q
    · rename_i e
      have : ((xs.length : Int) == n) = false := beq_eq_false_iff_ne.mpr e
      simpa [isRow, this] using q
  | _ => simpa [W_is_row, isiOk_fz hv, isRow] using q
theorem sp_is_table (fs : List F) (S : Sto) (Q) (h : C_is_table fs S Q) : fs.length = 1 ∧ W_is_table C_is_row { nx := fun _ S' => Q .non S', rt := fun d S' => Q d S' } (startF 3 fs) S := by
  obtain ⟨v, rfl, hv, q⟩ := h
  refine ⟨rfl, ?_⟩
  show W_is_table _ _ [some v, none, none] S
  cases v with
  | tup xs =>
    obtain ⟨hl, hz⟩ := fz_tup hv
    cases xs with
    | nil => simpa [W_is_table, isTab] using q
    | cons r xs =>
      have hr : fz r = true := fz_mem hz (List.mem_cons_self ..)
      have c1 : (1 : Int) ≤ xs.length + 1 := by omega
      by_cases h16 : xs.length + 1 ≤ 16
      · have c2 : (xs.length : Int) + 1 ≤ 16 := by omega
        cases r with
        | tup r =>
          by_cases h1 : 1 ≤ r.length
          · have c3 : (1 : Int) ≤ r.length := by omega
            by_cases h2 : r.length ≤ 16
            · have c4 : (r.length : Int) ≤ 16 := by omega
              simp [W_is_table, -compL_cons, c1, c2, c3, c4]
              refine ⟨mil hl, ?_⟩
              refine compL_map (fun x => .bl (isRow x r.length)) trivial _ _ (fun x hx Q2 q2 => ?_) ?_
              · simp
                exact ⟨x, r.length, rfl, fz_mem hz hx, q2⟩
              · rw [List.nil_append, all_bl, cAll_l]
                simpa [isTab, h16, h1, h2] using q
            · have c4 : ¬ (r.length : Int) ≤ 16 := by omega
              simpa [W_is_table, -compL_cons, c1, c2, c3, c4, isTab, h2] using q
          · have c3 : ¬ (1 : Int) ≤ r.length := by omega
            simpa [W_is_table, -compL_cons, c1, c2, c3, isTab, h1] using q
        | _ => simpa [W_is_table, -compL_cons, isiOk_fz hr, c1, c2, isTab] using q
      · have c2 : ¬ (xs.length : Int) + 1 ≤ 16 := by omega
        cases r <;> simpa [W_is_table, -compL_cons, isiOk_fz hr, c1, c2, isTab, h16] using q
  | _ => simpa [W_is_table, isiOk_fz hv, isTab] using q
/-! tables of ints -/
abbrev Tb := List (List Int)
def rowF (r : List Int) : F := .tup (r.map F.int)
def tabF (t : Tb) : F := .tup (t.map rowF)
def turn (t : Tb) (n : Nat) : Tb := (List.range n).map fun j => t.map fun r => r.getD j 0
structure Rect (t : Tb) (m n : Nat) : Prop where
  len : t.length = m
  row : ∀ r ∈ t, r.length = n
  m1 : 1 ≤ m
  m2 : m ≤ 16
  n1 : 1 ≤ n
  n2 : n ≤ 16
theorem Rect.cons {t : Tb} {m n : Nat} (h : Rect t m n) : ∃ r t', t = r :: t' ∧ r.length = n := by
  cases t with
  | nil =>
    have := h.len
    have := h.m1
    simp at *
    omega
  | cons r t => exact ⟨r, t, rfl, h.row r (List.mem_cons_self ..)⟩
def C_row_sums : Ct := fun xs S Q => ∃ t m n, xs = [tabF t] ∧ Rect t m n ∧ Q (.tup (t.map fun r => .int r.sum)) S
def C_turned : Ct := fun xs S Q => ∃ t m n, xs = [tabF t] ∧ Rect t m n ∧ Q (tabF (turn t n)) S
def C_column_sums : Ct := fun xs S Q => ∃ t m n, xs = [tabF t] ∧ Rect t m n ∧ Q (.tup ((turn t n).map fun r => .int r.sum)) S
def setc (t : Tb) (i j : Nat) (v : Int) : Tb := t.set i ((t.getD i []).set j v)
def C_with_cell : Ct := fun xs S Q => ∃ t m n, ∃ i j : Nat, ∃ v : Int, xs = [tabF t, .int i, .int j, .int v] ∧ Rect t m n ∧ i < m ∧ j < n ∧ Q (tabF (setc t i j v)) S
theorem mono_C_row_sums : MonoC C_row_sums := fun xs S Q Q' k ⟨t, m, n, e, h, q⟩ => ⟨t, m, n, e, h, k _ _ q⟩
theorem mono_C_turned : MonoC C_turned := fun xs S Q Q' k ⟨t, m, n, e, h, q⟩ => ⟨t, m, n, e, h, k _ _ q⟩
theorem mono_C_column_sums : MonoC C_column_sums := fun xs S Q Q' k ⟨t, m, n, e, h, q⟩ => ⟨t, m, n, e, h, k _ _ q⟩
theorem mono_C_with_cell : MonoC C_with_cell := fun xs S Q Q' k ⟨t, m, n, i, j, v, e, h, h2, h3, q⟩ => ⟨t, m, n, i, j, v, e, h, h2, h3, k _ _ q⟩
theorem sp_row_sums (fs : List F) (S : Sto) (Q) (h : C_row_sums fs S Q) : fs.length = 1 ∧ W_row_sums { nx := fun _ S' => Q .non S', rt := fun d S' => Q d S' } (startF 2 fs) S := by
  obtain ⟨t, m, n, rfl, hr, q⟩ := h
  refine ⟨rfl, ?_⟩
  show W_row_sums _ [some (tabF t), none] S
  have hl := hr.len
  have hm := hr.m2
  simp [W_row_sums, tabF]
  refine ⟨mil (by omega), ?_⟩
  refine compL_mapT rowF (fun r => .int r.sum) trivial _ _ (fun r _ Q2 q2 => ?_) q
  simpa [rowF] using q2
theorem sp_turned (fs : List F) (S : Sto) (Q) (h : C_turned fs S Q) : fs.length = 1 ∧ W_turned { nx := fun _ S' => Q .non S', rt := fun d S' => Q d S' } (startF 3 fs) S := by
  obtain ⟨t, m, n, rfl, hr, q⟩ := h
  refine ⟨rfl, ?_⟩
  show W_turned _ [some (tabF t), none, none] S
  have hl := hr.len
  have hm := hr.m2
  have hn := hr.n2
  obtain ⟨r0, t', et, e0⟩ := hr.cons
  have e1 : (t.map rowF)[0]? = some (rowF r0) := by rw [et]; rfl
  simp [W_turned, tabF, -compL_cons, -List.getElem?_map, e1]
  simp [rowF, -compL_cons, e0]
  refine ⟨by omega, mil (by omega), ?_⟩
  refine compL_mapT (fun i : Nat => F.int (0 + (i : Int))) (fun j => rowF (t.map fun r => r.getD j 0)) trivial (List.range n) _ (fun j hj Q2 q2 => ?_) ?_
  · have hj := List.mem_range.mp hj
    simp
    refine ⟨mil (by omega), ?_⟩
    refine compL_mapT rowF (fun r => .int (r.getD j 0)) trivial _ _ (fun r hr' Q3 q3 => ?_) ?_
    · have : j < r.length := by rw [hr.row r hr']; exact hj
      have e : r[j]? = some r[j] := List.getElem?_eq_getElem this
      simpa [rowF, atI_cast, e, List.getD] using q3
    · simpa [rowF, List.map_map, Function.comp_def] using q2
  · simpa [tabF, turn, List.map_map, Function.comp_def] using q
theorem turn_rect {t : Tb} {m n : Nat} (h : Rect t m n) : Rect (turn t n) n m := by
  refine ⟨by simp [turn], fun r hr => ?_, h.n1, h.n2, h.m1, h.m2⟩
  unfold turn at hr
  obtain ⟨j, _, rfl⟩ := List.mem_map.mp hr
  rw [List.length_map, h.len]
theorem sp_column_sums (fs : List F) (S : Sto) (Q) (h : C_column_sums fs S Q) : fs.length = 1 ∧ W_column_sums C_row_sums C_turned { nx := fun _ S' => Q .non S', rt := fun d S' => Q d S' } (startF 1 fs) S := by
  obtain ⟨t, m, n, rfl, hr, q⟩ := h
  refine ⟨rfl, ?_⟩
  show W_column_sums _ _ _ [some (tabF t)] S
  simp [W_column_sums]
  exact ⟨t, m, n, rfl, hr, turn t n, n, m, rfl, turn_rect hr, q⟩
theorem sp_with_cell (fs : List F) (S : Sto) (Q) (h : C_with_cell fs S Q) : fs.length = 4 ∧ W_with_cell { nx := fun _ S' => Q .non S', rt := fun d S' => Q d S' } (startF 5 fs) S := by
  obtain ⟨t, m, n, i, j, v, rfl, hr, hi, hj, q⟩ := h
  refine ⟨rfl, ?_⟩
  show W_with_cell _ [some (tabF t), some (.int i), some (.int j), some (.int v), none] S
  have hl := hr.len
  have hm := hr.m2
  have hn := hr.n2
  have hi' : i < t.length := by omega
  have e1 : t[i]? = some t[i] := List.getElem?_eq_getElem hi'
  have hrow : t[i].length = n := hr.row _ (List.getElem_mem hi')
  have a1 : cut (t[i].map F.int) none (some (j : Int)) = (t[i].take j).map F.int := by rw [cut_to _ (by rw [List.length_map]; omega), List.map_take]
  have a2 : cut (t[i].map F.int) (some ((j : Int) + 1)) none = (t[i].drop (j + 1)).map F.int := by rw [cut_from1 _ (by rw [List.length_map]; omega), List.map_drop]
  have a3 : cut (t.map rowF) none (some (i : Int)) = (t.take i).map rowF := by rw [cut_to _ (by rw [List.length_map]; omega), List.map_take]
  have a4 : cut (t.map rowF) (some ((i : Int) + 1)) none = (t.drop (i + 1)).map rowF := by rw [cut_from1 _ (by rw [List.length_map]; omega), List.map_drop]
  simp [W_with_cell, tabF, atI_cast, e1, a3, a4]
  simp [rowF, a1, a2]
  refine ⟨mil (by omega), mil (by omega), mil (by omega), mil (by omega), ?_⟩
  have b1 : (t[i].take j).map F.int ++ F.int v :: (t[i].drop (j + 1)).map F.int = (t[i].set j v).map F.int := by
    rw [← set_cut t[i] (by omega) v]
    simp
  have b2 : tabF (setc t i j v) = .tup ((t.take i).map rowF ++ rowF (t[i].set j v) :: (t.drop (i + 1)).map rowF) := by
    unfold tabF setc
    rw [List.getD_eq_getElem?_getD, e1]
    rw [show (some t[i]).getD [] = t[i] from rfl, ← set_cut t hi' _]
    simp
  rw [b2] at q
  simpa [rowF, ← b1] using q
/-! the law's own -/
structure Tab (t : Tb) (m n : Nat) : Prop extends Rect t m n where
  bit : ∀ r ∈ t, ∀ x ∈ r, x = 0 ∨ x = 1
def C_sums : Ct := fun xs S Q => ∃ t m n, xs = [tabF t] ∧ Rect t m n ∧ Q (.tup [.tup (t.map fun r => .int r.sum), .tup ((turn t n).map fun r => .int r.sum)]) S
theorem mono_C_sums : MonoC C_sums := fun xs S Q Q' k ⟨t, m, n, e, h, q⟩ => ⟨t, m, n, e, h, k _ _ q⟩
theorem sp_sums (fs : List F) (S : Sto) (Q) (h : C_sums fs S Q) : fs.length = 1 ∧ W_sums { nx := fun _ S' => Q .non S', rt := fun d S' => Q d S' } (startF 3 fs) S := by
  obtain ⟨t, m, n, rfl, hr, q⟩ := h
  refine ⟨rfl, ?_⟩
  show W_sums _ [some (tabF t), none, none] S
  have hl := hr.len
  have hm := hr.m2
  have hn := hr.n2
  obtain ⟨r0, t', et, e0⟩ := hr.cons
  have e1 : (t.map rowF)[0]? = some (rowF r0) := by rw [et]; rfl
  simp [W_sums, tabF, -compL_cons]
  refine ⟨mil (by omega), ?_⟩
  refine compL_mapT rowF (fun r => .int r.sum) trivial _ _ (fun r _ Q2 q2 => by simpa [rowF] using q2) ?_
  have e2 : t[0]? = some r0 := by rw [et]; rfl
  simp [rowF, -compL_cons, e0, e2]
  refine ⟨by omega, mil (by omega), ?_⟩
  refine compL_mapT (fun i : Nat => F.int (0 + (i : Int))) (fun j => .int (t.map fun r => r.getD j 0).sum) trivial (List.range n) _ (fun j hj Q2 q2 => ?_) ?_
  · have hj := List.mem_range.mp hj
    simp
    refine ⟨mil (by omega), ?_⟩
    refine compL_mapT rowF (fun r => .int (r.getD j 0)) trivial _ _ (fun r hr' Q3 q3 => ?_) ?_
    · have : j < r.length := by rw [hr.row r hr']; exact hj
      have e : r[j]? = some r[j] := List.getElem?_eq_getElem this
      simpa [rowF, atI_cast, e, List.getD] using q3
    · rw [List.nil_append, show (t.map fun r => F.int (r.getD j 0)) = (t.map fun r => r.getD j 0).map F.int by rw [List.map_map]; rfl, cSum_l]
      exact q2
  · simp
    simpa [turn, List.map_map, Function.comp_def] using q
theorem fz_row {r : List Int} (h : r.length ≤ 1000000) : fz (rowF r) = true := by
  unfold rowF fz
  rw [fz_ints, List.length_map, Bool.and_true]
  exact decide_eq_true h
@[simp, simp ↓] theorem cLen_tab {t : Tb} {S : Sto} {Q : F → Sto → Prop} : cLen [tabF t] S Q = Q (.int t.length) S := by
  simp [tabF]
@[simp, simp ↓] theorem cLen_row {t : List Int} {S : Sto} {Q : F → Sto → Prop} : cLen [rowF t] S Q = Q (.int t.length) S := by
  simp [rowF]
theorem ix_tab {t : Tb} {i : Nat} {r : List Int} {S : Sto} {Q : F → Sto → Prop} (h : t[i]? = some r) : oIx (tabF t) (.int (i : Int)) S Q = Q (rowF r) S := by
  simp [tabF, atI_cast, h]
theorem ix_row {t : List Int} {i : Nat} {r : Int} {S : Sto} {Q : F → Sto → Prop} (h : t[i]? = some r) : oIx (rowF t) (.int (i : Int)) S Q = Q (.int r) S := by
  simp [rowF, atI_cast, h]
theorem isRow_ok {r : List Int} {n : Nat} (hl : r.length = n) (h : ∀ x ∈ r, x = 0 ∨ x = 1) : isRow (rowF r) n = true := by
  show (_ && _) = true
  rw [Bool.and_eq_true]
  refine ⟨by simp [hl], ?_⟩
  rw [List.all_map, List.all_eq_true]
  intro x hx
  rcases h x hx with rfl | rfl <;> rfl
theorem isTab_ok {t : Tb} {m n : Nat} (h : Tab t m n) : isTab (tabF t) = true := by
  obtain ⟨r0, t', et, e0⟩ := h.toRect.cons
  have hl := h.len
  have hm := h.m2
  have hn := h.n2
  have hn1 := h.n1
  have : (t.map rowF).all (fun c => isRow c n) = true := by
    rw [List.all_map, List.all_eq_true]
    exact fun r hr => isRow_ok (h.row r hr) (h.bit r hr)
  unfold tabF
  rw [et] at this hl ⊢
  simp only [List.map_cons, List.length_cons] at this hl ⊢
  show (decide _ && (decide _ && _)) = true
  rw [Bool.and_eq_true, Bool.and_eq_true, decide_eq_true_eq, decide_eq_true_eq, List.length_map, List.length_map, e0]
  exact ⟨by omega, ⟨by omega, by omega⟩, this⟩
theorem fz_tab {t : Tb} {m n : Nat} (h : Rect t m n) : fz (tabF t) = true := by
  have hl := h.len
  have hm := h.m2
  have hn := h.n2
  unfold tabF fz
  rw [List.length_map, Bool.and_eq_true, decide_eq_true_eq, fzL_all, List.all_map, List.all_eq_true]
  exact ⟨by omega, fun r hr => fz_row (by rw [h.row r hr]; omega)⟩
theorem dep_row (r : List Int) : dep (rowF r) ≤ 1 := by
  unfold rowF dep
  have : depL (r.map F.int) ≤ 0 := depL_le fun x hx => by
    obtain ⟨i, _, rfl⟩ := List.mem_map.mp hx
    exact Nat.zero_le _
  omega
theorem dep_tab (t : Tb) : dep (tabF t) ≤ 2 := by
  unfold tabF dep
  have : depL (t.map rowF) ≤ 1 := depL_le fun x hx => by
    obtain ⟨i, _, rfl⟩ := List.mem_map.mp hx
    exact dep_row i
  omega
theorem fz_sums {t : Tb} {k : Nat} (hl : t.length = k) (h : k ≤ 16) : fz (.tup (t.map fun r => .int r.sum)) = true := by
  have : (t.map fun r => F.int r.sum) = (t.map List.sum).map F.int := by rw [List.map_map]; rfl
  rw [this]
  exact fz_row (by rw [List.length_map]; omega)
theorem dep_sums (t : Tb) (k : Nat) : dep (.tup (t.map fun r => .int r.sum)) ≤ k + 1 := by
  have : (t.map fun r => F.int r.sum) = (t.map List.sum).map F.int := by rw [List.map_map]; rfl
  rw [this]
  exact Nat.le_trans (dep_row _) (by omega)
theorem setc_tab {t : Tb} {m n i j : Nat} (h : Tab t m n) (hi : i < m) (hj : j < n) {v : Int} (hv : v = 0 ∨ v = 1) : Tab (setc t i j v) m n := by
  have hl := h.len
  have hit : i < t.length := by omega
  have hr : t.getD i [] ∈ t := by
    rw [List.getD_eq_getElem?_getD, List.getElem?_eq_getElem hit]
    exact List.getElem_mem hit
  refine ⟨⟨by rw [setc, List.length_set]; exact hl, fun r hr2 => ?_, h.m1, h.m2, h.n1, h.n2⟩, fun r hr2 x hx => ?_⟩
  · rcases List.mem_or_eq_of_mem_set hr2 with h2 | h2
    · exact h.row r h2
    · rw [h2, List.length_set]
      exact h.row _ hr
  · rcases List.mem_or_eq_of_mem_set hr2 with h2 | h2
    · exact h.bit r h2 x hx
    · rw [h2] at hx
      rcases List.mem_or_eq_of_mem_set hx with h3 | h3
      · exact h.bit _ hr x h3
      · rw [h3]
        exact hv
theorem setc_get {t : Tb} {m n i j a b : Nat} (h : Tab t m n) (hi : i < m) (hj : j < n) (ha : a < m) (hb : b < n) {v : Int} : ((setc t i j v).getD a []).getD b 0 = if a = i ∧ b = j then v else (t.getD a []).getD b 0 := by
  have hl := h.len
  have hit : i < t.length := by omega
  have hr : (t.getD i []).length = n := by
    rw [List.getD_eq_getElem?_getD, List.getElem?_eq_getElem hit]
    exact h.row _ (List.getElem_mem hit)
  unfold setc
  by_cases e : a = i
  · subst e
    rw [List.getD_eq_getElem?_getD (l := t.set _ _), List.getElem?_set_self hit]
    show ((t.getD a []).set j v).getD b 0 = _
    by_cases e2 : b = j
    · subst e2
      rw [if_pos ⟨rfl, rfl⟩, List.getD_eq_getElem?_getD, List.getElem?_set_self (by omega)]
      rfl
    · rw [if_neg (fun z => e2 z.2), List.getD_eq_getElem?_getD, List.getElem?_set_ne (Ne.symm e2), ← List.getD_eq_getElem?_getD]
  · rw [if_neg (fun z => e z.1), List.getD_eq_getElem?_getD (l := t.set _ _), List.getElem?_set_ne (Ne.symm e), ← List.getD_eq_getElem?_getD]
/-! ### of a tape: a table; a row mixed -/
def W_tableT (c__law_take : Ct) : WS :=
  (sSeq (sAsg (wOp oAdd (wC (.int 1)) (wCall c__law_take (wCons (wVar 0) (wCons (wC (.int 4)) wNil)))) (gN 3))
    (sRet (wCall cTuple (wCons (wFrz (wComp [4] (wRange1 (wCons (wVar 1) wNil)) (gN 4) wYes (wCall cTuple (wCons (wFrz (wComp [5] (wRange1 (wCons (wVar 2) wNil)) (gN 5) wYes (wCall cInt (wCons (wOp oLt (wCall c__law_take (wCons (wVar 0) (wCons (wC (.int 5)) wNil))) (wVar 3)) wNil)))) wNil)))) wNil))))
def W_mixed (c__law_take : Ct) : WS :=
  (sSeq (sAsg (wOwn (wCall cList (wCons (wVar 1) wNil))) (gN 2))
    (sRet (wFrz (wComp [3] (wRange1 (wCons (wCall cLen (wCons (wVar 1) wNil)) wNil)) (gN 3) wYes (wMt mPopAt (wVar 2) (wCons (wCall c__law_take (wCons (wVar 0) (wCons (wCall cLen (wCons (wVar 2) wNil)) wNil))) wNil))))))
def C_tableT : Ct := fun xs S Q => ∃ b c, ∃ m n : Nat, xs = [.loc b, .int (m : Int), .int (n : Int)] ∧ TapeAt S b c ∧ 1 ≤ m ∧ m ≤ 16 ∧ 1 ≤ n ∧ n ≤ 16 ∧ ∀ t S', Tab t m n → TapeAt S' b c → Fr S S' b c → Q (tabF t) S'
theorem mono_C_tableT : MonoC C_tableT := fun xs S Q Q' k ⟨b, c, m, n, e, h, h1, h2, h3, h4, q⟩ => ⟨b, c, m, n, e, h, h1, h2, h3, h4, fun t S' h1 h2 h3 => k _ _ (q t S' h1 h2 h3)⟩
theorem sp_tableT (fs : List F) (S : Sto) (Q) (h : C_tableT fs S Q) : fs.length = 3 ∧ W_tableT C_take { nx := fun _ S' => Q .non S', rt := fun d S' => Q d S' } (startF 6 fs) S := by
  obtain ⟨b, c, m, n, rfl, hb, m1, m2, n1, n2, q⟩ := h
  refine ⟨rfl, ?_⟩
  show W_tableT _ _ [some (.loc b), some (.int m), some (.int n), none, none, none] S
  simp [W_tableT, -compL_cons]
  refine call_take hb (by decide) (by decide) fun sh S3 _ hb3 f3 => ?_
  simp [-compL_cons]
  refine ⟨by omega, mil (by omega), ?_⟩
  refine compL_inv (fun acc S' => TapeAt S' b c ∧ Fr S S' b c ∧ ∃ t : Tb, acc = t.map rowF ∧ ∀ r ∈ t, r.length = n ∧ ∀ x ∈ r, x = 0 ∨ x = 1) _ _ _ (fun _ _ _ => trivial)
    (fun x hx acc S4 Q4 ⟨hb4, f4, t, et, ht⟩ q4 => ?_) ⟨hb3, f3, [], rfl, fun r hr => by cases hr⟩ (fun acc' S5 ⟨hb5, f5, t, et, ht⟩ hlen => ?_)
  · obtain ⟨k, hk, rfl⟩ := mem_rng hx
    simp [-compL_cons]
    refine ⟨by omega, mil (by omega), ?_⟩
    refine compL_inv (fun acc S' => TapeAt S' b c ∧ Fr S S' b c ∧ ∃ r : List Int, acc = r.map F.int ∧ ∀ x ∈ r, x = 0 ∨ x = 1) _ _ _ (fun _ _ _ => trivial)
      (fun x hx acc2 S6 Q6 ⟨hb6, f6, r, er, hr⟩ q6 => ?_) ⟨hb4, f4, [], rfl, fun x hx => by cases hx⟩ (fun acc2 S7 ⟨hb7, f7, r, er, hr⟩ hlen2 => ?_)
    · obtain ⟨k2, hk2, rfl⟩ := mem_rng hx
      simp
      refine call_take hb6 (by decide) (by decide) fun d S8 _ hb8 f8 => ?_
      refine q6 _ _ ⟨hb8, f6.trans f8, r ++ [if (d : Int) < 1 + sh then 1 else 0], by simp [er], fun x hx => ?_⟩
      rcases List.mem_append.mp hx with hx | hx
      · exact hr x hx
      · rw [List.mem_singleton] at hx
        subst hx
        split
        · exact .inr rfl
        · exact .inl rfl
    · subst er
      refine q4 _ _ ⟨hb7, f7, t ++ [r], by simp [et, rowF], fun r2 hr2 => ?_⟩
      rcases List.mem_append.mp hr2 with hr2 | hr2
      · exact ht r2 hr2
      · rw [List.mem_singleton] at hr2
        subst hr2
        refine ⟨?_, hr⟩
        simpa using hlen2
  · subst et
    have hl : t.length = m := by simpa using hlen
    exact q t S5 ⟨⟨hl, fun r hr => (ht r hr).1, by omega, by omega, by omega, by omega⟩, fun r hr => (ht r hr).2⟩ hb5 f5
/-- a comprehension with a test whose turns change the store: what holds at each place -/
theorem compL_finv {gd : Sto → Prop} {g : DG} {mt : W Bool} {me : W F} {ρ : Slots} (I : Nat → List F → Sto → Prop) {QL : List F → Sto → Prop} : ∀ (xs : List F) (j : Nat) (acc : List F) (S : Sto), (∀ j acc S, I j acc S → gd S) →
    (∀ (k : Nat) (x : F), xs[k]? = some x → ∀ acc S (A : F → Sto → Prop) (N : Sto → Prop), I (j + k) acc S → (∀ y S', I (j + k + 1) (acc ++ [y]) S' → A y S') → (∀ S', I (j + k + 1) acc S' → N S') → g x ρ S fun ρ2 S2 => mt ρ2 S2 fun b S3 => if b = true then me ρ2 S3 A else N S3) → I j acc S →
    (∀ acc' S', I (j + xs.length) acc' S' → QL acc' S') → compL gd g mt me ρ xs acc S QL
  | [], j, acc, S, hg, ht, hi, q => ⟨hg _ _ _ hi, q _ _ hi⟩
  | x :: r, j, acc, S, hg, ht, hi, q => by
    refine ⟨hg _ _ _ hi, ?_⟩
    have rc : ∀ acc' S', I (j + 0 + 1) acc' S' → compL gd g mt me ρ r acc' S' QL := fun acc' S' h =>
      compL_finv I r (j + 1) acc' S' hg (fun k y hk acc S A N hi hA hN => ht (k + 1) y (by rw [List.getElem?_cons_succ]; exact hk) acc S A N (by rw [show j + (k + 1) = j + 1 + k by omega]; exact hi)
        (fun z S' h => hA z S' (by rw [show j + 1 + k + 1 = j + (k + 1) + 1 by omega]; exact h)) (fun S' h => hN S' (by rw [show j + 1 + k + 1 = j + (k + 1) + 1 by omega]; exact h))) h
        (fun acc' S' h => q acc' S' (by rw [List.length_cons, show j + (r.length + 1) = j + 1 + r.length by omega]; exact h))
    exact ht 0 x rfl acc S _ _ hi (fun y S' h => rc _ _ h) (fun S' h => rc _ _ h)
theorem restr_at {S S' : Sto} {a : Addr} (h : S a ≠ none) : restr S S' a = S' a := by
  unfold restr
  rw [if_pos (by cases e : S a with | none => exact absurd e h | some _ => rfl)]
theorem TapeAt.b {S : Sto} {b c : Addr} (h : TapeAt S b c) : S b ≠ none := by
  obtain ⟨_, i, x, y, cs, e, _⟩ := h
  rw [e]
  simp
theorem TapeAt.c {S : Sto} {b c : Addr} (h : TapeAt S b c) : S c ≠ none := by
  obtain ⟨_, i, x, y, cs, _, e⟩ := h
  rw [e]
  simp
theorem TapeAt.restr {S S' : Sto} {b c : Addr} (h0 : TapeAt S b c) (h : TapeAt S' b c) : TapeAt (restr S S') b c := by
  obtain ⟨n, i, x, y, cs, e1, e2⟩ := h
  exact ⟨n, i, x, y, cs, by rw [restr_at h0.b]; exact e1, by rw [restr_at h0.c]; exact e2⟩
theorem fr_restr {S S' : Sto} {b c : Addr} (h : ∀ a, a ≠ b → a ≠ c → S a ≠ none → S' a = S a) : Fr S (restr S S') b c := fun a h1 h2 => by
  cases e : S a with
  | none =>
    unfold restr
    rw [e]
    rfl
  | some l =>
    have hn : S a ≠ none := by rw [e]; simp
    rw [restr_at hn, h a h1 h2 hn, e]
theorem erase_map {α β : Type} (f : α → β) : ∀ (l : List α) (i : Nat), (l.map f).eraseIdx i = (l.eraseIdx i).map f
  | [], i => by simp
  | x :: r, 0 => rfl
  | x :: r, i + 1 => by rw [List.map_cons, List.eraseIdx_cons_succ, List.eraseIdx_cons_succ, List.map_cons, erase_map f r i]
theorem erase_perm {α : Type} : ∀ (l : List α) (d : Nat) (h : d < l.length), (l[d] :: l.eraseIdx d).Perm l
  | x :: r, 0, _ => .refl _
  | x :: r, d + 1, h => by
    have h' : d < r.length := by simpa using h
    have := erase_perm r d h'
    rw [List.eraseIdx_cons_succ, List.getElem_cons_succ]
    exact (List.Perm.swap ..).trans (this.cons x)
/-- a row, mixed -/
def C_mixed : Ct := fun xs S Q => ∃ b c, ∃ ns : List Int, ∃ v, xs = [.loc b, v] ∧ seqR S v = some (ns.map F.int) ∧ (v = .tup (ns.map F.int) ∨ v = .lst (ns.map F.int)) ∧ ns.length ≤ 1000 ∧ TapeAt S b c ∧ ∀ (ms : List Int) S', ms.Perm ns → TapeAt S' b c → Fr S S' b c → Q (.lst (ms.map F.int)) S'
theorem mono_C_mixed : MonoC C_mixed := fun xs S Q Q' k ⟨b, c, ns, v, e, h, h1, h2, h3, q⟩ => ⟨b, c, ns, v, e, h, h1, h2, h3, fun ms S' h1 h2 h3 => k _ _ (q ms S' h1 h2 h3)⟩
theorem sp_mixed (fs : List F) (S : Sto) (Q) (h : C_mixed fs S Q) : fs.length = 2 ∧ W_mixed C_take { nx := fun _ S' => Q .non (restr S S'), rt := fun d S' => Q d (restr S S') } (startF 4 fs) S := by
  obtain ⟨b, c, ns, v, rfl, hs, hv, hl, hb, q⟩ := h
  refine ⟨rfl, ?_⟩
  show W_mixed _ _ [some (.loc b), some v, none, none] S
  unfold W_mixed
  rw [sSeq_ev]
  have key : ∀ p, S p = none → compL (fun _ => True) (gN 3) wYes (wMt mPopAt (wVar 2) (wCons (wCall C_take (wCons (wVar 0) (wCons (wCall cLen (wCons (wVar 2) wNil)) wNil))) wNil)) [some (.loc b), some v, some (.loc p), none] (rngL 0 ns.length) [] (updS S p (ns.map F.int)) fun xs S1 => Q (.lst xs) (restr S S1) := fun p hp => by
    have hbp : b ≠ p := fun e => hb.b (by rw [e]; exact hp)
    have hcp : c ≠ p := fun e => hb.c (by rw [e]; exact hp)
    have hb0 : TapeAt (updS S p (ns.map F.int)) b c := by
      obtain ⟨n, i, x, y, cs, e1, e2⟩ := hb
      exact ⟨n, i, x, y, cs, by rw [updS_ne hbp]; exact e1, by rw [updS_ne hcp]; exact e2⟩
    refine compL_finv (fun j acc S' => TapeAt S' b c ∧ (∀ a, a ≠ b → a ≠ c → a ≠ p → S' a = S a) ∧ ∃ ds ls : List Int, acc = ds.map F.int ∧ S' p = some (ls.map F.int) ∧ (ds ++ ls).Perm ns ∧ ls.length + j = ns.length) _ 0 [] _ (fun _ _ _ _ => trivial)
      (fun k x hk acc S' A N ⟨h1, h2, ds, ls, e1, e2, hp', hlen⟩ hA hN => ?_) ⟨hb0, fun a _ _ h => updS_ne h, [], ns, rfl, updS_same, .refl _, by simp⟩ (fun acc' S' ⟨h1, h2, ds, ls, e1, e2, hp', hlen⟩ => ?_)
    · have hk' : k < ns.length := by
        have := (List.getElem?_eq_some_iff.mp hk).1
        simpa using this
      simp [e2]
      refine call_take h1 (by omega) (by omega) fun d S2 hd h3 f3 => ?_
      have e3 : S2 p = some (ls.map F.int) := by rw [f3 p (Ne.symm hbp) (Ne.symm hcp)]; exact e2
      have hd' : d < ls.length := by omega
      have hget : ls[d]? = some ls[d] := List.getElem?_eq_getElem hd'
      have hix : ixN ls.length (d : Int) = some d := by
        unfold ixN
        rw [if_pos (by omega), if_pos (by omega)]
        simp
      simp [e3, hix, hget]
      refine ⟨by omega, hA _ _ ⟨?_, ?_, ds ++ [ls[d]], ls.eraseIdx d, by rw [e1]; simp, ?_, ?_, ?_⟩⟩
      · obtain ⟨n, i, x, y, cs, e4, e5⟩ := h3
        exact ⟨n, i, x, y, cs, by rw [updS_ne hbp]; exact e4, by rw [updS_ne hcp]; exact e5⟩
      · intro a a1 a2 a3
        rw [updS_ne a3, f3 a a1 a2, h2 a a1 a2 a3]
      · rw [updS_same, erase_map]
      · refine List.Perm.trans ?_ hp'
        rw [List.append_assoc]
        exact List.Perm.append_left ds (erase_perm ls d hd')
      · rw [List.length_eraseIdx_of_lt hd']
        omega
    · have hz : ls = [] := by
        have : ls.length = 0 := by rw [rngL_length] at hlen; omega
        exact List.length_eq_zero_iff.mp this
      subst hz
      rw [List.append_nil] at hp'
      subst e1
      exact q ds _ hp' (hb.restr h1) (fr_restr fun a a1 a2 a3 => h2 a a1 a2 fun e => a3 (by rw [e]; exact hp))
  rcases hv with rfl | rfl
  · simp [-compL_cons]
    exact fun p hp => ⟨by omega, mil (by omega), key p hp⟩
  · simp [-compL_cons]
    exact fun p hp => ⟨by omega, mil (by omega), key p hp⟩
end DL

set_option maxHeartbeats 4000000
namespace DL
open PySem PySem.Spec PyProof.Rows L2
/-! ### zip and enumerate of lists that stand -/
def frzL : F → Option (List F)
  | .lst xs => some xs
  | .rol xs => some xs
  | _ => none
def zipL : List F → List F → List F
  | x :: xs, y :: ys => .tup [x, y] :: zipL xs ys
  | _, _ => []
def enumL (i : Nat) : List F → List F
  | x :: xs => .tup [.int (i : Nat), x] :: enumL (i + 1) xs
  | [] => []
theorem zipL_get : ∀ {xs ys : List F} {i : Nat} {f : F}, (zipL xs ys)[i]? = some f → ∃ x y, xs[i]? = some x ∧ ys[i]? = some y ∧ f = .tup [x, y]
  | x :: xs, y :: ys, 0, f, h => ⟨x, y, rfl, rfl, (Option.some.inj h).symm⟩
  | x :: xs, y :: ys, i + 1, f, h => zipL_get (xs := xs) (ys := ys) h
  | [], _, i, f, h => by cases h
  | _ :: _, [], i, f, h => by cases h
theorem zipL_len : ∀ {xs ys : List F}, (zipL xs ys).length = min xs.length ys.length
  | x :: xs, y :: ys => by rw [zipL, List.length_cons, zipL_len, List.length_cons, List.length_cons]; omega
  | [], ys => by simp [zipL]
  | _ :: _, [] => by simp [zipL]
theorem enumL_get : ∀ {xs : List F} {k i : Nat} {f : F}, (enumL k xs)[i]? = some f → ∃ x, xs[i]? = some x ∧ f = .tup [.int ((k + i : Nat) : Int), x]
  | x :: xs, k, 0, f, h => ⟨x, rfl, (Option.some.inj h).symm⟩
  | x :: xs, k, i + 1, f, h => by
    obtain ⟨y, h1, h2⟩ := enumL_get (xs := xs) (k := k + 1) (i := i) h
    exact ⟨y, h1, by rw [h2, show k + 1 + i = k + (i + 1) by omega]⟩
  | [], _, _, _, h => by cases h
theorem enumL_len : ∀ {xs : List F} {k : Nat}, (enumL k xs).length = xs.length
  | x :: xs, k => by rw [enumL, List.length_cons, enumL_len, List.length_cons]
  | [], _ => rfl
theorem frz_sq {K : PySem.W.Frag} {Z H : Hp} {S : Sto} {v : V} {d : F} {fs : List F} (R : RelS K Z S H) (h : Den K Z v d) (e : frzL d = some fs) : ∃ a vs, v = .ref a ∧ Dens K Z vs fs ∧ ∀ Z' S' H', (∀ a o, Z a = some o → Z' a = some o) → RelS K Z' S' H' → SqL K H' a vs := by
  cases h with
  | lst h1 h2 => cases e; exact ⟨_, _, rfl, h2, fun Z' S' H' z R' => SqL.of (R'.z _ _ (z _ _ h1)).1⟩
  | rol h1 h2 => cases e; exact ⟨_, _, rfl, h2, fun Z' S' H' z R' => R'.sqL (SqL_ext z h1)⟩
  | _ => cases e
section
variable {X : Cx} {e e2 : Expr} {p pos tpos : Pos} {elts : List Expr} {kk : Nat} {ms : W (List F)}
def wZip (ms : W (List F)) : W ItD := fun ρ S Q => ms ρ S fun xs S1 => match xs with
  | [x, y] => (match frzL x, frzL y with | some xs, some ys => Q ⟨zipL xs ys, fun _ => True⟩ S1 | _, _ => False)
  | _ => False
def wEnum (ms : W (List F)) : W ItD := fun ρ S Q => ms ρ S fun xs S1 => match xs with
  | [x] => (match frzL x with | some xs => Q ⟨enumL 0 xs, fun _ => True⟩ S1 | _ => False)
  | _ => False
theorem pid_enum (hg : Gl X "enumerate") (hm : X.mg "enumerate" = none) (ha : PDs X [e] ms) (hs : starEach [e] X.env = [(false, eval e X.env)] := by rfl) : PID X (.Tuple elts kk tpos) (.Call (.Name "enumerate" p) [e] [] pos) (wEnum ms) :=
  ⟨fun _ _ _ _ k q => ha.mono _ _ _ _ (fun xs S1 q => by
    split at q
    · split at q
      · exact k _ _ q
      · exact q.elim
    · exact q.elim) q, weakI (pi_enum hg hm ha.run hs) fun σ H R ⟨ρ, S, Z, r, Rs, q⟩ => by
    refine tDs_in ha.mono r Rs q fun xs S1 vs Z1 H1 p e1 R1 d1 => ?_
    split at p
    · obtain ⟨v, rfl, d⟩ := dens1 d1
      split at p
      · rename_i fs e0
        obtain ⟨a, us, rfl, h2, h3⟩ := frz_sq R1 d e0
        refine ⟨a, us, rfl, h3 _ _ _ (fun _ _ q => q) R1, p _ Z1 H1 e1 R1 ⟨fun Z2 S2 H2 i f z R2 _ ef => ?_, fun Z2 S2 H2 i z R2 _ hl => ?_⟩⟩
        · obtain ⟨x, ex, rfl⟩ := enumL_get ef
          obtain ⟨v, ev, _⟩ := h2.get ex
          refine ⟨⟨us, v, h3 _ _ _ z R2, ev⟩, fun w H' ⟨T, u, e4, nT, e5, hu⟩ => ?_⟩
          have eu := hu us (h3 _ _ _ z R2)
          subst e4 e5
          obtain ⟨R3, x3⟩ := R2.newZ nT (.tup [.int (i : Nat), u])
          refine ⟨_, x3, R3, ?_⟩
          rw [Nat.zero_add]
          exact den_newTup (R2.nz nT) (.cons (.int _) (.cons ((den_get h2 ex eu).ext z) .nil))
        · exact ⟨us, h3 _ _ _ z R2, by rw [h2.length]; rw [← enumL_len (xs := fs) (k := 0)]; exact hl⟩
      · exact p.elim
    · exact p.elim⟩
theorem dens2' {K : PySem.W.Frag} {Z : Hp} {vs : List V} {d d2 : F} (h : Dens K Z vs [d, d2]) : ∃ v v2, vs = [v, v2] ∧ Den K Z v d ∧ Den K Z v2 d2 := by
  cases h with
  | cons h1 h2 =>
    cases h2 with
    | cons h2 h3 =>
      cases h3
      exact ⟨_, _, rfl, h1, h2⟩
theorem pid_zip (hg : Gl X "zip") (hm : X.mg "zip" = none) (ha : PDs X [e, e2] ms)
    (hs : starEach [e, e2] X.env = (false, eval e X.env) :: starEach [e2] X.env := by rfl) (hpl : (backTo pos (starEach [e2] X.env)).any (·.1) = false := by rfl) : PID X (.Tuple elts kk tpos) (.Call (.Name "zip" p) [e, e2] [] pos) (wZip ms) :=
  ⟨fun _ _ _ _ k q => ha.mono _ _ _ _ (fun xs S1 q => by
    split at q
    · split at q
      · exact k _ _ q
      · exact q.elim
    · exact q.elim) q, weakI (pi_zip hg hm ha.run hs hpl) fun σ H R ⟨ρ, S, Z, r, Rs, q⟩ => by
    refine tDs_in ha.mono r Rs q fun xs S1 vs Z1 H1 p e1 R1 d1 => ?_
    split at p
    · obtain ⟨v, v2, rfl, d, d2⟩ := dens2' d1
      split at p
      · rename_i fs gs e0 e02
        obtain ⟨a, us, rfl, h2, h3⟩ := frz_sq R1 d e0
        obtain ⟨b, ws, rfl, g2, g3⟩ := frz_sq R1 d2 e02
        refine ⟨a, b, us, ws, rfl, h3 _ _ _ (fun _ _ q => q) R1, g3 _ _ _ (fun _ _ q => q) R1, p _ Z1 H1 e1 R1 ⟨fun Z2 S2 H2 i f z R2 _ ef => ?_, fun Z2 S2 H2 i z R2 _ hl => ?_⟩⟩
        · obtain ⟨x, y, ex, ey, rfl⟩ := zipL_get ef
          obtain ⟨v, ev, _⟩ := h2.get ex
          obtain ⟨v', ev', _⟩ := g2.get ey
          refine ⟨⟨us, ws, v, v', h3 _ _ _ z R2, g3 _ _ _ z R2, ev, ev'⟩, fun w H' ⟨T, u, u', e4, nT, e5, hu, hu'⟩ => ?_⟩
          have eu := hu us (h3 _ _ _ z R2)
          have eu' := hu' ws (g3 _ _ _ z R2)
          subst e4 e5
          obtain ⟨R3, x3⟩ := R2.newZ nT (.tup [u, u'])
          exact ⟨_, x3, R3, den_newTup (R2.nz nT) (.cons ((den_get h2 ex eu).ext z) (.cons ((den_get g2 ey eu').ext z) .nil))⟩
        · refine ⟨us, ws, h3 _ _ _ z R2, g3 _ _ _ z R2, ?_⟩
          have hl : (zipL fs gs).length ≤ i := hl
          rw [zipL_len] at hl
          rw [h2.length, g2.length]
          omega
      · exact p.elim
    · exact p.elim⟩
end
section
variable {ρ : Slots} {S : Sto} {QI : ItD → Sto → Prop} {ms : W (List F)}
@[simp, simp ↓] theorem wZip_ev : wZip ms ρ S QI = ms ρ S fun xs S1 => match xs with
  | [x, y] => (match frzL x, frzL y with | some xs, some ys => QI ⟨zipL xs ys, fun _ => True⟩ S1 | _, _ => False)
  | _ => False := (rfl)
@[simp, simp ↓] theorem wEnum_ev : wEnum ms ρ S QI = ms ρ S fun xs S1 => match xs with
  | [x] => (match frzL x with | some xs => QI ⟨enumL 0 xs, fun _ => True⟩ S1 | _ => False)
  | _ => False := (rfl)
@[simp] theorem frzL_l {xs : List F} : frzL (.lst xs) = some xs := rfl
end
/-! ### sorted of ints -/
def cSorted : DCallL := fun xs S Q => match xs with
  | [x] => (match listR S x with | some fs => ∃ ns : List Int, fs = ns.map F.int ∧ ∀ ms : List Int, ms.Perm ns → ms.Pairwise (· ≤ ·) → Q (ms.map F.int) S | none => False)
  | _ => False
theorem c_sorted {X : Cx} : CallL X (.builtin "sorted") cSorted := by
  refine ⟨fun xs S Q Q' k h => ?_, callWeak cr_sortedI fun vs H Q ⟨ds, S, Z, dv, R, h⟩ => ?_⟩
  · unfold cSorted at h ⊢
    split at h
    · split at h
      · obtain ⟨ns, e, q⟩ := h
        exact ⟨ns, e, fun ms h1 h2 => k _ _ (q ms h1 h2)⟩
      · exact h.elim
    · exact h.elim
  · unfold cSorted at h
    split at h
    · obtain ⟨v, rfl, d⟩ := dens1 dv
      split at h
      · rename_i fs e0
        obtain ⟨ns, rfl, q⟩ := h
        obtain ⟨a, us, rfl, h1, h2⟩ := listR_of R d e0
        have := h2.ints
        subst this
        exact ⟨a, ns, rfl, h1, fun ms p k1 k2 np => lfin_new .refl R np (dens_ints ms) (q ms k1 k2)⟩
      · exact h.elim
    · exact h.elim
/-- sorted(xs, reverse=True) -/
def wSortedRev (m : W F) : W (List F) := fun ρ S Q => m ρ S fun x S1 => match listR S1 x with
  | some fs => ∃ ns : List Int, fs = ns.map F.int ∧ ∀ ms : List Int, ms.Perm ns → ms.Pairwise (· ≥ ·) → Q (ms.map F.int) S1
  | none => False
theorem pl_sortedRev {X : Cx} {e : Expr} {m : W F} {p pos kpos bpos : Pos} {k : Nat} (hg : Gl X "sorted") (hm : X.mg "sorted" = none) (ha : PD X e m)
    (he : backTo pos (starEach [e] X.env) = (false, eval e X.env) :: backTo pos (starEach [] X.env) := by rfl) (hpl : (backTo pos (starEach [e] X.env)).any (·.1) = false := by rfl) (hst : starEach [e] X.env = (false, eval e X.env) :: starEach [] X.env := by rfl) :
    PL X (.Call (.Name "sorted" p) [e] [⟨some "reverse", .Constant (.bool true) k bpos, kpos⟩] pos) (wSortedRev m) :=
  ⟨fun _ _ _ _ k q => ha.mono _ _ _ _ (fun x S1 q => by
    split at q
    · obtain ⟨ns, e, q⟩ := q
      exact ⟨ns, e, fun ms h1 h2 => k _ _ (q ms h1 h2)⟩
    · exact q.elim) q, weakE (pe_callBK (cr_sortedRev (b := true)) hg hm (by rfl) (pa_cons ha.run pa_nil (hs := hst)) (pk_cons pe_bl pk_nil) (by decide) (by decide) he hpl) fun σ H Q ⟨ρ, S, Z, r, R, q⟩ => by
    refine tD_in ha.mono r R q fun x S1 v Z1 H1 p e1 R1 d1 => ?_
    split at p
    · rename_i fs e0
      obtain ⟨ns, rfl, q⟩ := p
      obtain ⟨a, us, rfl, h1, h2⟩ := listR_of R1 d1 e0
      have := h2.ints
      subst this
      exact ⟨a, ns, rfl, rfl, h1, fun ms p k1 k2 np => lfin_new e1 R1 np (dens_ints ms) (q ms k1 k2)⟩
    · exact p.elim⟩
section
variable {ρ : Slots} {S : Sto} {QL : List F → Sto → Prop} {m : W F} {xs : List F}
@[simp, simp ↓] theorem wSortedRev_ev : wSortedRev m ρ S QL = m ρ S fun x S1 => match listR S1 x with
  | some fs => ∃ ns : List Int, fs = ns.map F.int ∧ ∀ ms : List Int, ms.Perm ns → ms.Pairwise (· ≥ ·) → QL (ms.map F.int) S1
  | none => False := (rfl)
theorem cSorted_l {ns : List Int} (q : ∀ ms : List Int, ms.Perm ns → ms.Pairwise (· ≤ ·) → QL (ms.map F.int) S) : cSorted [.lst (ns.map F.int)] S QL := ⟨ns, rfl, q⟩
end
/-! ### extend -/
def mExtend : DMt := fun x xs S Q => match x, xs with
  | .loc a, [y] => (match S a, listW S y with | some fs, some gs => fs.length + gs.length ≤ sizeLine ∧ Q .non (updS S a (fs ++ gs)) | _, _ => False)
  | _, _ => False
theorem m_extend {X : Cx} : MtD X "list.extend" mExtend := by
  refine ⟨fun d xs S Q Q' k h => ?_, mtWeak mt_extend fun v vs H Q ⟨d, ds, S, Z, dv, dvs, R, h⟩ => ?_⟩
  · unfold mExtend at h ⊢
    split at h
    · split at h
      · exact ⟨h.1, k _ _ h.2⟩
      · exact h.elim
    · exact h.elim
  · unfold mExtend at h
    split at h
    · split at h
      · rename_i e0 e1
        obtain ⟨w, rfl, dw⟩ := dens1 dvs
        cases dv
        obtain ⟨us, h1, h2⟩ := R.s _ _ e0
        obtain ⟨b, ws, rfl, g1, g2⟩ := listW_of R dw e1
        exact ⟨_, b, us, ws, rfl, rfl, h1, g1, by rw [h2.length, g2.length]; exact h.1, fin_write (vs := us) R e0 (h2.append g2) .non h.2⟩
      · exact h.elim
    · exact h.elim
@[simp, simp ↓] theorem mExtend_l {a : Addr} {gs : List F} {S : Sto} {Q : F → Sto → Prop} : mExtend (.loc a) [.lst gs] S Q = (match S a with | some fs => fs.length + gs.length ≤ sizeLine ∧ Q .non (updS S a (fs ++ gs)) | none => False) := by
  show (match S a, (some gs : Option (List F)) with | some fs, some gs => fs.length + gs.length ≤ sizeLine ∧ Q .non (updS S a (fs ++ gs)) | _, _ => False) = _
  cases S a <;> rfl
end DL

set_option maxHeartbeats 4000000
namespace HT
open PySem PySem.Spec PyProof.Rows L2
/-! ### enumerate of a tuple -/
theorem meets_enumT (q : Addr) (items : Array Value) :
    Meets (Builtin.«enumerate.__new__» ⟨[.type "enumerate", .ref q], []⟩) (fun _ R s => s.heap.IsTuple q items ∧
      R (.ok (.ret (.ref (s.heap.push { cls := .type "tuple_iterator", data := .fields #[.ref q, .int 0 0] }).objs.size)))
        { s with heap := (s.heap.push { cls := .type "tuple_iterator", data := .fields #[.ref q, .int 0 0] }).push { cls := .type "enumerate", data := .fields #[.none, .bool false, .ref s.heap.objs.size, rawInt 0, .none, .none] } }) :=
  .of_wp fun prog w A R s h => by
    obtain ⟨hp, g, d, tk, os⟩ := s
    obtain ⟨hl, h⟩ := h
    have hsub := sub_enumerate
    obtain ⟨o, ho, hc, hn⟩ := id hl
    have hT : Heap.IsTuple (Shared.heap ⟨hp, g, d, tk, os⟩) q items := hl
    wp_walk using AutoSeq1.wpAny_loadPart' ho
    refine wpAny_stack_any fun st => wpAny_pure ?_
    split
    · rename_i c _ _ _ _ _
      cases (c == Value.type "enumerate")
      · wp_walk using AutoSeq1.wpAny_loadPart' ho, wpAny_pyIter_tuple hT
        exact ⟨_, rfl, h⟩
      · wp_walk using AutoSeq1.wpAny_loadPart' ho, wpAny_pyIter_tuple hT
        exact ⟨_, rfl, h⟩
    · wp_walk using AutoSeq1.wpAny_loadPart' ho, wpAny_pyIter_tuple hT
      exact ⟨_, rfl, h⟩
section
variable {prog : Program} {w : World} {A : Around} {E : Value → Shared → Prop} {s : Shared}
theorem call_enumT {q : Addr} {items : Array Value} {Q : Value → Shared → Prop} (hL : s.heap.IsTuple q items)
    (h : ∀ h', IsEnum h' (s.heap.objs.size + 1) s.heap.objs.size 0 .none → h'.IsTupleIter s.heap.objs.size q 0 → (∀ b o, s.heap.get? b = some o → h'.get? b = some o) → Q (.ref (s.heap.objs.size + 1)) { s with heap := h' }) :
    wpAny (model prog w) A (call (.type "enumerate") [.ref q]) Q E s := by
  refine callType_new F.called_enumerate (by decide) (F.typeCall_enumerate_1 _) (F.newCall_enumerate_1 _) (fun obj => F.args_object_init_2 obj _) F.entry_enumerate_new (meets_enumT q items) ⟨hL, ?_⟩
  have hz : (s.heap.push { cls := .type "tuple_iterator", data := .fields #[.ref q, .int 0 0] }).objs.size = s.heap.objs.size + 1 := Heap.size_push ..
  show _ ∧ _
  rw [hz]
  have he := Heap.get?_push_size (s.heap.push { cls := .type "tuple_iterator", data := .fields #[.ref q, .int 0 0] }) (o := { cls := .type "enumerate", data := .fields #[.none, .bool false, .ref s.heap.objs.size, rawInt 0, .none, .none] }) rfl
  rw [hz] at he
  refine ⟨⟨_, he, rfl⟩, h _ he ⟨_, Heap.get?_push_of_some _ (Heap.get?_push_size _ rfl), rfl, rfl⟩ fun b o x => Heap.get?_push_of_some _ (Heap.get?_push_of_some _ x)⟩
end
/-- the tuple at a, each item in a new pair -/
def IteT (K : PySem.W.Frag) (a : Addr) : It :=
  ⟨fun i H => ∃ (xs : List V) (x : V), SqT K H a xs ∧ xs[i]? = some x, fun i H v H' => ∃ T x, v = .ref T ∧ H T = none ∧ H' = upd H T (.tup [.int (i : Nat), x]) ∧ ∀ xs, SqT K H a xs → xs[i]? = some x, fun i H => ∃ xs : List V, SqT K H a xs ∧ xs.length ≤ i⟩
theorem turn_enumT {P : Program} {w : World} {K : PySem.W.Frag} {elts : List Expr} {kk : Nat} {tpos : Pos} (a e it : Addr) :
    Turn P w K (.Tuple elts kk tpos) (IteT K a) [e, it] e (fun i h => (∃ old, IsEnum h e it ((i : Nat) : Int) old) ∧ h.IsTupleIter it a i ∧ e ≠ it ∧ a ≠ it ∧ a ≠ e) where
  mem := by simp
  obj := fun i h st b hb => by
    obtain ⟨⟨old, he⟩, ⟨o, ho, hc, hd⟩, _⟩ := st
    rcases (by simpa using hb : b = e ∨ b = it) with z | z
    · subst z
      exact ⟨_, he, fun v q => nomatch q⟩
    · subst z
      exact ⟨o, ho, fun v q => by rw [hd] at q; cases q⟩
  keep := fun i h h' st k => by
    obtain ⟨⟨old, he⟩, hi, r⟩ := st
    exact ⟨⟨old, k e (by simp) _ he⟩, hi.at fun o q => k it (by simp) o q, r⟩
  item := by
    intro X hP hw hK hc i pins s σ H E I hf st hg
    subst hP hw hK
    obtain ⟨⟨old, he⟩, hit, hne, hai, hae⟩ := st
    obtain ⟨xs, x, hq, hx⟩ := hg
    obtain ⟨its, rv, p, hz⟩ := I.tuple hq
    obtain ⟨u, hu, ru⟩ := rv.get hx
    have hel : e < s.heap.objs.size := Heap.lt_size he
    have hil : it < s.heap.objs.size := by
      obtain ⟨_, q, _⟩ := hit
      exact Heap.lt_size q
    have hlt : i < its.toArray.size := by
      have := (List.getElem?_eq_some_iff.mp hu).1
      simpa using this
    refine wpAny_pyNext_enum_itemD (Draws.tuple (A := X.A.in1) (I.ok.hd hc) it a hai its.toArray) he ⟨hit, p⟩ hlt hne (by simp [hne, Ne.symm hae]) fun y h' tk hy ho st1 hT hsz hk => ?_
    have hy : its.toArray[i]? = some y := hy
    have ey : y = u := by
      have e1 : its.toArray[i]? = some u := by simpa using hu
      exact Option.some.inj (hy.symm.trans e1)
    subst ey
    refine ⟨_, rfl, wpAny_letOwnedTupleGo_enum (s := { s with heap := h', toks := tk + 1 }) ho fun h'' he' sb => ?_⟩
    have hT2 : h''.get? s.heap.objs.size = some { cls := .type "tuple", data := .seq #[.int i tk, y] } := (sb.2 _ (Nat.ne_of_gt hel)).trans hT
    have new : ObjOk X.prog X.w (upd H s.heap.objs.size (.tup [.int (i : Nat), x])) h'' s.heap.objs.size (.tup [.int (i : Nat), x]) :=
      ⟨by show 2 ≤ sizeLine; decide, [.int i tk, y], .cons ⟨_, rfl⟩ (.cons ru .nil), ⟨_, hT2, rfl, _, rfl⟩⟩
    have I1 : Inv X pins σ (upd H s.heap.objs.size (.tup [.int (i : Nat), x])) { s with heap := h'', toks := tk + 1 } :=
      I.turnedNew (ch := [e, it]) (fun b ob hb q => (sb.2 b (fun z => hb (by simp [z]))).trans (hk b ob (fun z => hb (by simp [z])) (fun z => hb (by simp [z])) q)) hf (Nat.le_refl _) new
    refine ⟨.ref s.heap.objs.size, _, I1, rfl, ⟨_, x, rfl, I.hok.fresh (Nat.le_refl _), rfl, fun ys hy => by rw [I.tuple_inj hy hq]; exact hx⟩, ⟨⟨y, ?_⟩, st1.1.at fun o q => (sb.2 it (Ne.symm hne)).trans q, hne, hai, hae⟩, fun b hb => ?_⟩
    · rw [show ((i + 1 : Nat) : Int) = (i : Int) + 1 by omega]
      exact he'
    · have hb' : b < s.heap.objs.size := by
        rcases (by simpa using hb : b = e ∨ b = it) with z | z
        · rw [z]; exact hel
        · rw [z]; exact hil
      rw [upd_ne (Nat.ne_of_lt hb')]
      exact (hf b hb).1
  done := by
    intro X hP hw hK hc i pins s σ H E I hf st hg
    subst hP hw hK
    obtain ⟨⟨old, he⟩, hit, hne, hai, hae⟩ := st
    obtain ⟨xs, hq, hx⟩ := hg
    obtain ⟨its, rv, p, hz⟩ := I.tuple hq
    have hT : s.TypeIs (.ref e) "enumerate" := ⟨_, he, rfl⟩
    have hn : its.toArray[i]? = none := by
      have := rv.length
      simp
      omega
    unfold pyNext
    refine wpAny_bind (wpAny_attempt (wpAny_callSpecial?_slot (name := Str.ofString "__next__") hT F.slot_enumerate_next (wpAny_call_entry F.slot_enumerate_next hT F.entry_enumerate_next ?_ (F.args_enumerate_next_1 _))))
    show wpAny _ _ (field (.ref e) 2 >>= _) _ _ _
    refine wpAny_bind (wpAny_field he rfl (x := .ref it) rfl ?_)
    refine wpAny_bind (wpAny_nextOf_tuple_end (I.ok.hd hc) hit p hn fun h' x he' hx' => ?_)
    obtain ⟨o, ho, hcl⟩ := hx'
    refine wpAny_bind (wpAny_isInstance (T := "StopIteration") (b := true) ⟨o, ho, hcl⟩ isSubtype_stop ?_)
    obtain ⟨f0, f1, f2, f3, f4, f5⟩ := hf it (by simp)
    exact wpAny_pure ⟨rfl, I.turned (t' := s.toks) (fun b o hb q => he' b o hb q) f0 f1 f3 f4 f5⟩
  self := fun A i s Q E st h => by
    obtain ⟨⟨_, he⟩, _⟩ := st
    exact wpAny_pyIter_enum he h
/-- enumerate of a list or of a tuple -/
def iEnumA (K : PySem.W.Frag) (ta : TA) : TI := fun σ H R => ta σ H fun vs H1 => ∃ a xs, vs = [.ref a] ∧ ((SqL K H1 a xs ∧ R (Ite K a) H1) ∨ (SqT K H1 a xs ∧ R (IteT K a) H1))
theorem pi_enumA {X : Cx} {e : Expr} {ta : TA} {p pos tpos : Pos} {elts : List Expr} {kk : Nat} (hg : Gl X "enumerate") (hm : X.mg "enumerate" = none) (ha : PA X [e] ta) (hs : starEach [e] X.env = [(false, eval e X.env)] := by rfl) :
    PI X (.Tuple elts kk tpos) (.Call (.Name "enumerate" p) [e] [] pos) (iEnumA X.K ta) := by
  refine ⟨fun pins s σ H R I h => ?_⟩
  refine Call_ (ld_blt I hg hm boot_enumerate (PyProof.Rows.callWith_type1 (thn (ha.run pos pins s σ H _ I h) fun us s1 ⟨vs, H1, I1, r1, q1⟩ => ?_) hs rfl))
  obtain ⟨a, xs, ex, q1⟩ := q1
  subst ex
  have fresh : ∀ b, b ∈ [s1.heap.objs.size + 1, s1.heap.objs.size] → FpOk X pins H1 b := fun b hb => by
    have hle : s1.heap.objs.size ≤ b := by
      rcases (by simpa using hb : b = s1.heap.objs.size + 1 ∨ b = s1.heap.objs.size) with z | z
      · rw [z]; exact Nat.le_add_right _ _
      · rw [z]; exact Nat.le_refl _
    exact I1.fpOk hle (I1.hok.fresh hle)
  cases r1 with
  | cons r rr =>
    cases rr
    cases r
    rcases q1 with ⟨hq, q⟩ | ⟨hq, q⟩
    · obtain ⟨its, rv, p', hz⟩ := I1.list hq
      refine call_enumerate_list p'.isList fun h' he hit hsz hk => wpAny_pyIter_enum he ?_
      exact ⟨s1.heap.objs.size + 1, _, _, _, H1, rfl, I1.kept (t' := s1.toks) hk, turn_enum a (s1.heap.objs.size + 1) s1.heap.objs.size, ⟨⟨.none, he⟩, hit, Nat.succ_ne_self _⟩, fresh, q⟩
    · obtain ⟨its, rv, p', hz⟩ := I1.tuple hq
      have hal : a < s1.heap.objs.size := by
        obtain ⟨o, ho, _⟩ := id p'
        exact Heap.lt_size ho
      refine call_enumT p' fun h' he hit hk => wpAny_pyIter_enum he ?_
      exact ⟨s1.heap.objs.size + 1, _, _, _, H1, rfl, I1.kept (t' := s1.toks) hk, turn_enumT a (s1.heap.objs.size + 1) s1.heap.objs.size, ⟨⟨.none, he⟩, hit, Nat.succ_ne_self _, Nat.ne_of_lt hal, Nat.ne_of_lt (Nat.lt_succ_of_lt hal)⟩, fresh, q⟩
/-! ### max and min of a tuple of ints -/
def rMaxT (K : PySem.W.Frag) : List V → Hp → VK → Prop := fun vs H Q => ∃ (a : Addr) (ns : List Int), vs = [V.ref a] ∧ SqT K H a (ns.map V.int) ∧ ns ≠ [] ∧ ∀ m, m ∈ ns → (∀ y, y ∈ ns → y ≤ m) → Q (.int m) H
def rMinT (K : PySem.W.Frag) : List V → Hp → VK → Prop := fun vs H Q => ∃ (a : Addr) (ns : List Int), vs = [V.ref a] ∧ SqT K H a (ns.map V.int) ∧ ns ≠ [] ∧ ∀ m, m ∈ ns → (∀ y, y ∈ ns → m ≤ y) → Q (.int m) H
section
variable {X : Cx}
theorem ra_ints {h : Heap} : ∀ {vs : List Value} {ns : List Int}, IntsAre vs ns → ∃ as, ReadsAll h vs (ns.map PyData.int) as
  | _, _, .nil => ⟨_, .nil⟩
  | _, _, .cons n t r => by
    obtain ⟨as, q⟩ := ra_ints (h := h) r
    exact ⟨_, .cons (.int n t) q⟩
theorem alike_ints (ns : List Int) : PySem.W.AlikeAll (ns.map PyData.int) := by
  refine ⟨fun x hx y hy => ?_, fun x hx => ?_⟩
  · obtain ⟨i, _, rfl⟩ := List.mem_map.mp hx
    obtain ⟨j, _, rfl⟩ := List.mem_map.mp hy
    rfl
  · obtain ⟨i, _, rfl⟩ := List.mem_map.mp hx
    exact fun e => nomatch e
theorem depth_ints : ∀ ns : List Int, PyData.depthAll (ns.map PyData.int) = 0
  | [] => rfl
  | n :: r => by
    rw [List.map_cons, PyData.depthAll, depth_ints r]
    rfl
theorem reads_int {h : Heap} {v : Value} {k : Int} {bs : List Addr} (r : Reads h v (.int k) bs) : ∃ t, v = .int k t := by
  cases r
  exact ⟨_, rfl⟩
theorem fold_max (n : Int) : ∀ ns : List Int, ns.foldl max n ∈ n :: ns ∧ ∀ y ∈ n :: ns, y ≤ ns.foldl max n
  | [] => ⟨List.mem_cons_self .., fun y hy => by rw [List.mem_singleton.mp hy]; exact Int.le_refl _⟩
  | k :: r => by
    obtain ⟨h1, h2⟩ := fold_max (max n k) r
    rw [List.foldl_cons]
    refine ⟨?_, fun y hy => ?_⟩
    · rcases List.mem_cons.mp h1 with e | e
      · rw [e]
        rcases Int.le_total n k with h | h
        · rw [Int.max_eq_right h]; exact List.mem_cons_of_mem _ (List.mem_cons_self ..)
        · rw [Int.max_eq_left h]; exact List.mem_cons_self ..
      · exact List.mem_cons_of_mem _ (List.mem_cons_of_mem _ e)
    · have h3 := h2 (max n k) (List.mem_cons_self ..)
      rcases List.mem_cons.mp hy with e | e
      · subst e; omega
      · rcases List.mem_cons.mp e with e | e
        · subst e; omega
        · exact h2 y (List.mem_cons_of_mem _ e)
theorem fold_min (n : Int) : ∀ ns : List Int, ns.foldl min n ∈ n :: ns ∧ ∀ y ∈ n :: ns, ns.foldl min n ≤ y
  | [] => ⟨List.mem_cons_self .., fun y hy => by rw [List.mem_singleton.mp hy]; exact Int.le_refl _⟩
  | k :: r => by
    obtain ⟨h1, h2⟩ := fold_min (min n k) r
    rw [List.foldl_cons]
    refine ⟨?_, fun y hy => ?_⟩
    · rcases List.mem_cons.mp h1 with e | e
      · rw [e]
        rcases Int.le_total n k with h | h
        · rw [Int.min_eq_left h]; exact List.mem_cons_self ..
        · rw [Int.min_eq_right h]; exact List.mem_cons_of_mem _ (List.mem_cons_self ..)
      · exact List.mem_cons_of_mem _ (List.mem_cons_of_mem _ e)
    · have h3 := h2 (min n k) (List.mem_cons_self ..)
      rcases List.mem_cons.mp hy with e | e
      · subst e; omega
      · rcases List.mem_cons.mp e with e | e
        · subst e; omega
        · exact h2 y (List.mem_cons_of_mem _ e)
theorem cr_maxT (hc : X.calm = true) (hu : X.A.units + 65 < cLine) : CallR X (.builtin "max") (rMaxT X.K) := by
  intro pins s σ H vs us Q I r h
  obtain ⟨a, ns, rfl, hs, hne, q⟩ := h
  obtain ⟨its, rv, hl, _⟩ := I.tuple hs
  rw [Vals.ref1 r]
  have hi := rv.ints
  obtain ⟨as, ra⟩ := ra_ints (h := s.heap) hi
  cases ns with
  | nil => exact absurd rfl hne
  | cons n ns =>
    refine PySem.W.max_tuple_data (vs := its.toArray) (I.ok.hd hc) hl ra (alike_ints (n :: ns)) (by rw [show PyData.int n :: List.map PyData.int ns = (n :: ns).map PyData.int from rfl, depth_ints]; omega) fun i v h' tk bs hv rd hk => ?_
    rw [PySem.W.maxD_ints] at rd
    obtain ⟨t, rfl⟩ := reads_int rd
    obtain ⟨h1, h2⟩ := fold_max n ns
    exact ⟨.int _, H, I.kept hk, ⟨_, rfl⟩, q _ h1 h2⟩
theorem cr_minT (hc : X.calm = true) (hu : X.A.units + 65 < cLine) : CallR X (.builtin "min") (rMinT X.K) := by
  intro pins s σ H vs us Q I r h
  obtain ⟨a, ns, rfl, hs, hne, q⟩ := h
  obtain ⟨its, rv, hl, _⟩ := I.tuple hs
  rw [Vals.ref1 r]
  have hi := rv.ints
  obtain ⟨as, ra⟩ := ra_ints (h := s.heap) hi
  cases ns with
  | nil => exact absurd rfl hne
  | cons n ns =>
    refine PySem.W.min_tuple_data (vs := its.toArray) (I.ok.hd hc) hl ra (alike_ints (n :: ns)) (by rw [show PyData.int n :: List.map PyData.int ns = (n :: ns).map PyData.int from rfl, depth_ints]; omega) fun i v h' tk bs hv rd hk => ?_
    rw [PySem.W.minD_ints] at rd
    obtain ⟨t, rfl⟩ := reads_int rd
    obtain ⟨h1, h2⟩ := fold_min n ns
    exact ⟨.int _, H, I.kept hk, ⟨_, rfl⟩, q _ h1 h2⟩
end
end HT
namespace DL
open PySem PySem.Spec PyProof.Rows L2
/-! ### tuple(range(..)) -/
def wTupRg (m : W F) : W F := fun ρ S Q => m ρ S (asI fun n S1 => RgOk 0 n ∧ Q (.tup (rngL 0 n.toNat)) S1)
theorem pd_tupRg {X : Cx} {a : Expr} {ma : W F} {p pos pos2 : Pos} (hc : X.calm = true) (hg : Gl X "tuple") (hm : X.mg "tuple" = none) (hg2 : Gl X "range") (hm2 : X.mg "range" = none) (ha : PD X a ma)
    (na : starEach [.Call (.Name "range" p) [a] [] pos2] X.env = (false, eval (.Call (.Name "range" p) [a] [] pos2) X.env) :: starEach [] X.env := by rfl)
    (na2 : starEach [a] X.env = (false, eval a X.env) :: starEach [] X.env := by rfl) {p3 : Pos} : PD X (.Call (.Name "tuple" p3) [.Call (.Name "range" p) [a] [] pos2] [] pos) (wTupRg ma) :=
  ⟨fun _ _ _ _ k q => ha.mono _ _ _ _ (mono_asI fun _ _ q => ⟨q.1, k _ _ q.2⟩) q, weakE (pe_tupRg hc hg hm (prg_1 hg2 hm2 ha.run na2) na) fun σ H Q ⟨ρ, S, Z, r, R, q⟩ => by
    refine tD_in ha.mono r R q fun x S1 v Z1 H1 p e1 R1 d1 => ?_
    cases x with
    | int n =>
      refine ⟨n, den_int d1, p.1, fun q nq => ?_⟩
      refine fin_tup R1 nq ?_ (by
        have := p.2
        exact fun v Z' H' e2 R2 d2 => this v Z' H' (e1.trans e2) R2 d2)
      unfold rgV rngL
      rw [show n - 0 = n by omega]
      exact dens_map (fun _ => .int _) _
    | _ => exact p.elim⟩
section
variable {ρ : Slots} {S : Sto} {Q : F → Sto → Prop} {m : W F}
@[simp, simp ↓] theorem wTupRg_ev : wTupRg m ρ S Q = m ρ S (asI fun n S1 => RgOk 0 n ∧ Q (.tup (rngL 0 n.toNat)) S1) := (rfl)
end
/-! ### max and min of one list or tuple of ints -/
def cMax1 : DCall := fun xs S Q => match xs with
  | [x] => (match seqR S x with | some fs => ∃ ns : List Int, fs = ns.map F.int ∧ ns ≠ [] ∧ ∀ m, m ∈ ns → (∀ y ∈ ns, y ≤ m) → Q (.int m) S | none => False)
  | _ => False
def cMin1 : DCall := fun xs S Q => match xs with
  | [x] => (match seqR S x with | some fs => ∃ ns : List Int, fs = ns.map F.int ∧ ns ≠ [] ∧ ∀ m, m ∈ ns → (∀ y ∈ ns, m ≤ y) → Q (.int m) S | none => False)
  | _ => False
theorem c_max1 {X : Cx} (hc : X.calm = true) (hu : X.A.units + 65 < cLine) : CallD X (.builtin "max") cMax1 := by
  refine ⟨fun xs S Q Q' k h => ?_, callWeak (CallR.or (cr_max hc) (HT.cr_maxT hc hu)) fun vs H Q ⟨ds, S, Z, dv, R, h⟩ => ?_⟩
  · unfold cMax1 at h ⊢
    split at h
    · split at h
      · obtain ⟨ns, e, hn, q⟩ := h
        exact ⟨ns, e, hn, fun m h1 h2 => k _ _ (q m h1 h2)⟩
      · exact h.elim
    · exact h.elim
  · unfold cMax1 at h
    split at h
    · obtain ⟨v, rfl, d⟩ := dens1 dv
      split at h
      · rename_i fs e0
        obtain ⟨ns, rfl, hn, q⟩ := h
        obtain ⟨a, us, rfl, h1, h2⟩ := seqR_of R d e0
        have := h2.ints
        subst this
        have fin := fun m h1 h2 => fin_same R (.int m) (q m h1 h2)
        rcases h1 with h1 | h1
        · exact .inl ⟨a, ns, rfl, h1, List.length_pos_iff.mpr hn, fin⟩
        · exact .inr ⟨a, ns, rfl, h1, hn, fin⟩
      · exact h.elim
    · exact h.elim
theorem c_min1 {X : Cx} (hc : X.calm = true) (hu : X.A.units + 65 < cLine) : CallD X (.builtin "min") cMin1 := by
  refine ⟨fun xs S Q Q' k h => ?_, callWeak (CallR.or (cr_min hc) (HT.cr_minT hc hu)) fun vs H Q ⟨ds, S, Z, dv, R, h⟩ => ?_⟩
  · unfold cMin1 at h ⊢
    split at h
    · split at h
      · obtain ⟨ns, e, hn, q⟩ := h
        exact ⟨ns, e, hn, fun m h1 h2 => k _ _ (q m h1 h2)⟩
      · exact h.elim
    · exact h.elim
  · unfold cMin1 at h
    split at h
    · obtain ⟨v, rfl, d⟩ := dens1 dv
      split at h
      · rename_i fs e0
        obtain ⟨ns, rfl, hn, q⟩ := h
        obtain ⟨a, us, rfl, h1, h2⟩ := seqR_of R d e0
        have := h2.ints
        subst this
        have fin := fun m h1 h2 => fin_same R (.int m) (q m h1 h2)
        rcases h1 with h1 | h1
        · exact .inl ⟨a, ns, rfl, h1, List.length_pos_iff.mpr hn, fin⟩
        · exact .inr ⟨a, ns, rfl, h1, hn, fin⟩
      · exact h.elim
    · exact h.elim
section
variable {S : Sto} {Q : F → Sto → Prop} {ns : List Int}
theorem cMax1_t (hn : ns ≠ []) (q : ∀ m, m ∈ ns → (∀ y ∈ ns, y ≤ m) → Q (.int m) S) : cMax1 [.tup (ns.map F.int)] S Q := ⟨ns, rfl, hn, q⟩
theorem cMax1_l (hn : ns ≠ []) (q : ∀ m, m ∈ ns → (∀ y ∈ ns, y ≤ m) → Q (.int m) S) : cMax1 [.lst (ns.map F.int)] S Q := ⟨ns, rfl, hn, q⟩
theorem cMin1_t (hn : ns ≠ []) (q : ∀ m, m ∈ ns → (∀ y ∈ ns, m ≤ y) → Q (.int m) S) : cMin1 [.tup (ns.map F.int)] S Q := ⟨ns, rfl, hn, q⟩
theorem cMin1_l (hn : ns ≠ []) (q : ∀ m, m ∈ ns → (∀ y ∈ ns, m ≤ y) → Q (.int m) S) : cMin1 [.lst (ns.map F.int)] S Q := ⟨ns, rfl, hn, q⟩
end
/-! ### enumerate and zip of lists and tuples that stand -/
def stdL : F → Option (Bool × List F)
  | .lst xs => some (false, xs)
  | .rol xs => some (false, xs)
  | .tup xs => some (true, xs)
  | _ => none
theorem std_sq {K : PySem.W.Frag} {Z H : Hp} {S : Sto} {v : V} {d : F} {t : Bool} {fs : List F} (R : RelS K Z S H) (h : Den K Z v d) (e : stdL d = some (t, fs)) :
    ∃ a vs, v = .ref a ∧ Dens K Z vs fs ∧ ∀ Z' S' H', (∀ a o, Z a = some o → Z' a = some o) → RelS K Z' S' H' → if t = true then SqT K H' a vs else SqL K H' a vs := by
  cases d with
  | lst xs =>
    cases e
    obtain ⟨a, vs, rfl, h2, h3⟩ := frz_sq R h rfl
    exact ⟨a, vs, rfl, h2, fun Z' S' H' z R' => h3 Z' S' H' z R'⟩
  | rol xs =>
    cases e
    obtain ⟨a, vs, rfl, h2, h3⟩ := frz_sq R h rfl
    exact ⟨a, vs, rfl, h2, fun Z' S' H' z R' => h3 Z' S' H' z R'⟩
  | tup xs =>
    cases e
    cases h with
    | tup h1 h2 => exact ⟨_, _, rfl, h2, fun Z' S' H' z R' => R'.sqT (SqT_ext z h1)⟩
  | _ => cases e
section
variable {X : Cx} {e e2 : Expr} {p pos tpos : Pos} {elts : List Expr} {kk : Nat} {ms : W (List F)}
def wEnumA (ms : W (List F)) : W ItD := fun ρ S Q => ms ρ S fun xs S1 => match xs with
  | [x] => (match stdL x with | some (_, xs) => Q ⟨enumL 0 xs, fun _ => True⟩ S1 | _ => False)
  | _ => False
theorem pid_enumA (hg : Gl X "enumerate") (hm : X.mg "enumerate" = none) (ha : PDs X [e] ms) (hs : starEach [e] X.env = [(false, eval e X.env)] := by rfl) : PID X (.Tuple elts kk tpos) (.Call (.Name "enumerate" p) [e] [] pos) (wEnumA ms) :=
  ⟨fun _ _ _ _ k q => ha.mono _ _ _ _ (fun xs S1 q => by
    split at q
    · split at q
      · exact k _ _ q
      · exact q.elim
    · exact q.elim) q, weakI (HT.pi_enumA hg hm ha.run hs) fun σ H R ⟨ρ, S, Z, r, Rs, q⟩ => by
    refine tDs_in ha.mono r Rs q fun xs S1 vs Z1 H1 p e1 R1 d1 => ?_
    split at p
    · obtain ⟨v, rfl, d⟩ := dens1 d1
      split at p
      · rename_i t fs e0
        obtain ⟨a, us, rfl, h2, h3⟩ := std_sq R1 d e0
        cases t with
        | false =>
          refine ⟨a, us, rfl, .inl ⟨h3 _ _ _ (fun _ _ q => q) R1, p _ Z1 H1 e1 R1 ⟨fun Z2 S2 H2 i f z R2 _ ef => ?_, fun Z2 S2 H2 i z R2 _ hl => ?_⟩⟩⟩
          · obtain ⟨x, ex, rfl⟩ := enumL_get ef
            obtain ⟨v, ev, _⟩ := h2.get ex
            refine ⟨⟨us, v, h3 _ _ _ z R2, ev⟩, fun w H' ⟨T, u, e4, nT, e5, hu⟩ => ?_⟩
            have eu := hu us (h3 _ _ _ z R2)
            subst e4 e5
            obtain ⟨R3, x3⟩ := R2.newZ nT (.tup [.int (i : Nat), u])
            refine ⟨_, x3, R3, ?_⟩
            rw [Nat.zero_add]
            exact den_newTup (R2.nz nT) (.cons (.int _) (.cons ((den_get h2 ex eu).ext z) .nil))
          · exact ⟨us, h3 _ _ _ z R2, by rw [h2.length]; rw [← enumL_len (xs := fs) (k := 0)]; exact hl⟩
        | true =>
          refine ⟨a, us, rfl, .inr ⟨h3 _ _ _ (fun _ _ q => q) R1, p _ Z1 H1 e1 R1 ⟨fun Z2 S2 H2 i f z R2 _ ef => ?_, fun Z2 S2 H2 i z R2 _ hl => ?_⟩⟩⟩
          · obtain ⟨x, ex, rfl⟩ := enumL_get ef
            obtain ⟨v, ev, _⟩ := h2.get ex
            refine ⟨⟨us, v, h3 _ _ _ z R2, ev⟩, fun w H' ⟨T, u, e4, nT, e5, hu⟩ => ?_⟩
            have eu := hu us (h3 _ _ _ z R2)
            subst e4 e5
            obtain ⟨R3, x3⟩ := R2.newZ nT (.tup [.int (i : Nat), u])
            refine ⟨_, x3, R3, ?_⟩
            rw [Nat.zero_add]
            exact den_newTup (R2.nz nT) (.cons (.int _) (.cons ((den_get h2 ex eu).ext z) .nil))
          · exact ⟨us, h3 _ _ _ z R2, by rw [h2.length]; rw [← enumL_len (xs := fs) (k := 0)]; exact hl⟩
      · exact p.elim
    · exact p.elim⟩
def wZipA (ms : W (List F)) : W ItD := fun ρ S Q => ms ρ S fun xs S1 => match xs with
  | [x, y] => (match stdL x, stdL y with | some (a, xs), some (b, ys) => a = b ∧ Q ⟨zipL xs ys, fun _ => True⟩ S1 | _, _ => False)
  | _ => False
theorem pid_zipA (hg : Gl X "zip") (hm : X.mg "zip" = none) (ha : PDs X [e, e2] ms)
    (hs : starEach [e, e2] X.env = (false, eval e X.env) :: starEach [e2] X.env := by rfl) (hpl : (backTo pos (starEach [e2] X.env)).any (·.1) = false := by rfl) : PID X (.Tuple elts kk tpos) (.Call (.Name "zip" p) [e, e2] [] pos) (wZipA ms) :=
  ⟨fun _ _ _ _ k q => ha.mono _ _ _ _ (fun xs S1 q => by
    split at q
    · split at q
      · exact ⟨q.1, k _ _ q.2⟩
      · exact q.elim
    · exact q.elim) q, weakI (RZ.pi_zipA hg hm ha.run hs hpl) fun σ H R ⟨ρ, S, Z, r, Rs, q⟩ => by
    refine tDs_in ha.mono r Rs q fun xs S1 vs Z1 H1 p e1 R1 d1 => ?_
    split at p
    · obtain ⟨v, v2, rfl, d, d2⟩ := dens2' d1
      split at p
      · rename_i t fs t2 gs e0 e02
        obtain ⟨rfl, p⟩ := p
        obtain ⟨a, us, rfl, h2, h3⟩ := std_sq R1 d e0
        obtain ⟨b, ws, rfl, g2, g3⟩ := std_sq R1 d2 e02
        have len : ∀ i, (zipL fs gs).length ≤ i → us.length ≤ i ∨ ws.length ≤ i := fun i hl => by
          rw [zipL_len] at hl
          rw [h2.length, g2.length]
          omega
        cases t with
        | false =>
          refine ⟨a, b, us, ws, rfl, .inl ⟨h3 _ _ _ (fun _ _ q => q) R1, g3 _ _ _ (fun _ _ q => q) R1, p _ Z1 H1 e1 R1 ⟨fun Z2 S2 H2 i f z R2 _ ef => ?_, fun Z2 S2 H2 i z R2 _ hl => ?_⟩⟩⟩
          · obtain ⟨x, y, ex, ey, rfl⟩ := zipL_get ef
            obtain ⟨v, ev, _⟩ := h2.get ex
            obtain ⟨v', ev', _⟩ := g2.get ey
            refine ⟨⟨us, ws, v, v', h3 _ _ _ z R2, g3 _ _ _ z R2, ev, ev'⟩, fun w H' ⟨T, u, u', e4, nT, e5, hu, hu'⟩ => ?_⟩
            have eu := hu us (h3 _ _ _ z R2)
            have eu' := hu' ws (g3 _ _ _ z R2)
            subst e4 e5
            obtain ⟨R3, x3⟩ := R2.newZ nT (.tup [u, u'])
            exact ⟨_, x3, R3, den_newTup (R2.nz nT) (.cons ((den_get h2 ex eu).ext z) (.cons ((den_get g2 ey eu').ext z) .nil))⟩
          · exact ⟨us, ws, h3 _ _ _ z R2, g3 _ _ _ z R2, len i hl⟩
        | true =>
          refine ⟨a, b, us, ws, rfl, .inr ⟨h3 _ _ _ (fun _ _ q => q) R1, g3 _ _ _ (fun _ _ q => q) R1, p _ Z1 H1 e1 R1 ⟨fun Z2 S2 H2 i f z R2 _ ef => ?_, fun Z2 S2 H2 i z R2 _ hl => ?_⟩⟩⟩
          · obtain ⟨x, y, ex, ey, rfl⟩ := zipL_get ef
            obtain ⟨v, ev, _⟩ := h2.get ex
            obtain ⟨v', ev', _⟩ := g2.get ey
            refine ⟨⟨us, ws, v, v', h3 _ _ _ z R2, g3 _ _ _ z R2, ev, ev'⟩, fun w H' ⟨T, u, u', e4, nT, e5, hu, hu'⟩ => ?_⟩
            have eu := hu us (h3 _ _ _ z R2)
            have eu' := hu' ws (g3 _ _ _ z R2)
            subst e4 e5
            obtain ⟨R3, x3⟩ := R2.newZ nT (.tup [u, u'])
            exact ⟨_, x3, R3, den_newTup (R2.nz nT) (.cons ((den_get h2 ex eu).ext z) (.cons ((den_get g2 ey eu').ext z) .nil))⟩
          · exact ⟨us, ws, h3 _ _ _ z R2, g3 _ _ _ z R2, len i hl⟩
      · exact p.elim
    · exact p.elim⟩
end
section
variable {ρ : Slots} {S : Sto} {QI : ItD → Sto → Prop} {ms : W (List F)} {xs : List F}
@[simp, simp ↓] theorem wZipA_ev : wZipA ms ρ S QI = ms ρ S fun xs S1 => match xs with
  | [x, y] => (match stdL x, stdL y with | some (a, xs), some (b, ys) => a = b ∧ QI ⟨zipL xs ys, fun _ => True⟩ S1 | _, _ => False)
  | _ => False := (rfl)
@[simp, simp ↓] theorem wEnumA_ev : wEnumA ms ρ S QI = ms ρ S fun xs S1 => match xs with
  | [x] => (match stdL x with | some (_, xs) => QI ⟨enumL 0 xs, fun _ => True⟩ S1 | _ => False)
  | _ => False := (rfl)
@[simp] theorem stdL_l : stdL (.lst xs) = some (false, xs) := rfl
@[simp] theorem stdL_t : stdL (.tup xs) = some (true, xs) := rfl
end
/-- enumerate of ints -/
theorem enumL_ints (ns : List Int) : ∀ k, enumL k (ns.map F.int) = (ns.zipIdx k).map fun p => F.tup [.int (p.2 : Nat), .int p.1] := by
  induction ns with
  | nil => intro k; rfl
  | cons n r ih => intro k; rw [List.map_cons, enumL, ih, List.zipIdx_cons, List.map_cons]
/-! ### and, shifts -/
def oBand : DOp := fun x y S Q => match x, y with | .int i, .int j => Q (.int (Builtin.bitAnd i j)) S | _, _ => False
def oShl : DOp := fun x y S Q => match x, y with | .int i, .int j => CPow i j ∧ Q (.int (i * 2 ^ j.toNat)) S | _, _ => False
def oShr : DOp := fun x y S Q => match x, y with | .int i, .int j => 0 ≤ j ∧ Q (.int (i / 2 ^ j.toNat)) S | _, _ => False
section
variable {X : Cx}
theorem o_band : OpD X (binaryOp .BitAnd) oBand := by
  refine ⟨fun x y S Q Q' k h => ?_, opWeak op_and fun x y H Q ⟨d, e, S, Z, dx, dy, R, h⟩ => ?_⟩
  · unfold oBand at h ⊢
    split at h
    · exact k _ _ h
    · exact h.elim
  · unfold oBand at h
    split at h
    · exact ⟨_, _, den_int dx, den_int dy, fin_same R (.int _) h⟩
    · exact h.elim
theorem o_shl : OpD X (binaryOp .LShift) oShl := by
  refine ⟨fun x y S Q Q' k h => ?_, opWeak op_shl fun x y H Q ⟨d, e, S, Z, dx, dy, R, h⟩ => ?_⟩
  · unfold oShl at h ⊢
    split at h
    · exact ⟨h.1, k _ _ h.2⟩
    · exact h.elim
  · unfold oShl at h
    split at h
    · exact ⟨_, _, den_int dx, den_int dy, h.1, fin_same R (.int _) h.2⟩
    · exact h.elim
theorem o_shr : OpD X (binaryOp .RShift) oShr := by
  refine ⟨fun x y S Q Q' k h => ?_, opWeak op_shr fun x y H Q ⟨d, e, S, Z, dx, dy, R, h⟩ => ?_⟩
  · unfold oShr at h ⊢
    split at h
    · exact ⟨h.1, k _ _ h.2⟩
    · exact h.elim
  · unfold oShr at h
    split at h
    · exact ⟨_, _, den_int dx, den_int dy, h.1, fin_same R (.int _) h.2⟩
    · exact h.elim
end
section
variable {S : Sto} {Q : F → Sto → Prop} {i j : Int}
@[simp, simp ↓] theorem oBand_ii : oBand (.int i) (.int j) S Q = Q (.int (Builtin.bitAnd i j)) S := (rfl)
@[simp, simp ↓] theorem oShl_ii : oShl (.int i) (.int j) S Q = (CPow i j ∧ Q (.int (i * 2 ^ j.toNat)) S) := (rfl)
@[simp, simp ↓] theorem oShr_ii : oShr (.int i) (.int j) S Q = (0 ≤ j ∧ Q (.int (i / 2 ^ j.toNat)) S) := (rfl)
@[simp] theorem bitAnd_one : Builtin.bitAnd i 1 = i % 2 := bitAnd_m1 i
end
/-! ### new lists by * and + -/
def wMulL (ma mb : W F) : W (List F) := fun ρ S Q => ma ρ S fun x S1 => mb ρ S1 fun y S2 => match listW S2 x, y with
  | some xs, .int k => (-(2 ^ 63) ≤ k ∧ k < 2 ^ 63 ∧ xs.length * k.toNat ≤ sizeLine) ∧ Q (List.replicate k.toNat xs).flatten S2
  | _, _ => False
def wAddL (ma mb : W F) : W (List F) := fun ρ S Q => ma ρ S fun x S1 => mb ρ S1 fun y S2 => match listW S2 x, listW S2 y with
  | some xs, some ys => xs.length + ys.length ≤ sizeLine ∧ Q (xs ++ ys) S2
  | _, _ => False
section
variable {X : Cx} {a b : Expr} {ma mb : W F} {pos : Pos}
theorem pl_mulL (ha : PD X a ma) (hb : PD X b mb) : PL X (.BinOp a .Mult b pos) (wMulL ma mb) :=
  ⟨fun _ _ _ _ k q => ha.mono _ _ _ _ (fun _ _ q => hb.mono _ _ _ _ (fun _ _ q => by
    split at q
    · exact ⟨q.1, k _ _ q.2⟩
    · exact q.elim) q) q, weakE (pe_op op_rep ha.run hb.run) fun σ H Q ⟨ρ, S, Z, r, R, q⟩ => by
    refine tD_in ha.mono r R q fun x S1 v1 Z1 H1 p e1 R1 d1 => ?_
    refine tD_in hb.mono (r.ext e1.z) R1 p fun y S2 v2 Z2 H2 p2 e2 R2 d2 => ?_
    split at p2
    · rename_i xs k e
      obtain ⟨⟨h1, h2, hz⟩, q⟩ := p2
      obtain ⟨a, vs, rfl, ha, hd⟩ := listW_of R2 (d1.ext e2.z) e
      exact ⟨a, _, vs, rfl, den_int d2, ha, h1, h2, by rw [hd.length]; exact hz, fun p np => lfin_new (e1.trans e2) R2 np (hd.rep _) q⟩
    · exact p2.elim⟩
theorem pl_addL (ha : PD X a ma) (hb : PD X b mb) : PL X (.BinOp a .Add b pos) (wAddL ma mb) :=
  ⟨fun _ _ _ _ k q => ha.mono _ _ _ _ (fun _ _ q => hb.mono _ _ _ _ (fun _ _ q => by
    split at q
    · exact ⟨q.1, k _ _ q.2⟩
    · exact q.elim) q) q, weakE (pe_op op_cat ha.run hb.run) fun σ H Q ⟨ρ, S, Z, r, R, q⟩ => by
    refine tD_in ha.mono r R q fun x S1 v1 Z1 H1 p e1 R1 d1 => ?_
    refine tD_in hb.mono (r.ext e1.z) R1 p fun y S2 v2 Z2 H2 p2 e2 R2 d2 => ?_
    split at p2
    · rename_i xs ys e e'
      obtain ⟨hz, q⟩ := p2
      obtain ⟨a, vs, rfl, ha, hd⟩ := listW_of R2 (d1.ext e2.z) e
      obtain ⟨b, us, rfl, hb, hd'⟩ := listW_of R2 d2 e'
      exact ⟨a, b, vs, us, rfl, rfl, ha, hb, by rw [hd.length, hd'.length]; exact hz, fun p np => lfin_new (e1.trans e2) R2 np (hd.append hd') q⟩
    · exact p2.elim⟩
end
section
variable {ρ : Slots} {S : Sto} {QL : List F → Sto → Prop} {ma mb : W F}
@[simp, simp ↓] theorem wMulL_ev : wMulL ma mb ρ S QL = ma ρ S fun x S1 => mb ρ S1 fun y S2 => match listW S2 x, y with
  | some xs, .int k => (-(2 ^ 63) ≤ k ∧ k < 2 ^ 63 ∧ xs.length * k.toNat ≤ sizeLine) ∧ QL (List.replicate k.toNat xs).flatten S2
  | _, _ => False := (rfl)
@[simp, simp ↓] theorem wAddL_ev : wAddL ma mb ρ S QL = ma ρ S fun x S1 => mb ρ S1 fun y S2 => match listW S2 x, listW S2 y with
  | some xs, some ys => xs.length + ys.length ≤ sizeLine ∧ QL (xs ++ ys) S2
  | _, _ => False := (rfl)
@[simp] theorem listW_lst {xs : List F} : listW S (.lst xs) = some xs := rfl
@[simp] theorem listW_loc {a : Addr} : listW S (.loc a) = S a := rfl
end
end DL

set_option maxHeartbeats 4000000
namespace DL
open PySem PySem.Spec PyProof.Rows L2
/-! rising rows of places, and sums at places -/
def iv : F → Int
  | .int i => i
  | _ => 0
def incr (ns : List Int) : Bool := (List.range (ns.length - 1)).all fun k => decide (ns.getD k 0 < ns.getD (k + 1) 0)
def isLines (count : Int) : F → Bool
  | .tup xs => (xs.all fun c => isCount c 0 (count - 1)) && incr (xs.map iv)
  | _ => false
theorem iv_map (ns : List Int) : (ns.map F.int).map iv = ns := by
  rw [List.map_map]
  exact List.map_id'' (fun _ => rfl) ns
theorem incr_walk {gd : Sto → Prop} {S : Sto} (hgd : gd S) {o0 : Option F} {ns : List Int} {QL : List F → Sto → Prop} (q : QL (((List.range (ns.length - 1)).map fun k => decide (ns.getD k 0 < ns.getD (k + 1) 0)).map F.bl) S) :
    compL gd (gN 2) wYes (wOp oLt (wOp oIx (wVar 1) (wVar 2)) (wOp oIx (wVar 1) (wOp oAdd (wVar 2) (wC (.int 1))))) [o0, some (.tup (ns.map F.int)), none] (rngL 0 (ns.length - 1)) [] S QL := by
  refine compL_mapT (fun i : Nat => F.int (0 + (i : Int))) (fun k => .bl (decide (ns.getD k 0 < ns.getD (k + 1) 0))) hgd (List.range (ns.length - 1)) _ (fun k hk Q2 q2 => ?_) (by rw [List.nil_append, all_bl]; exact q)
  have hk := List.mem_range.mp hk
  have h1 : ns[k]? = some ns[k] := List.getElem?_eq_getElem (by omega)
  have h2 : ns[k + 1]? = some ns[k + 1] := List.getElem?_eq_getElem (by omega)
  have h3 : atI (ns.map F.int) (k : Int) = some (.int ns[k]) := by rw [atI_cast, List.getElem?_map, h1]; rfl
  have h4 : atI (ns.map F.int) ((k : Int) + 1) = some (.int ns[k + 1]) := by rw [show (k : Int) + 1 = ((k + 1 : Nat) : Int) by omega, atI_cast, List.getElem?_map, h2]; rfl
  simp [h3, h4]
  simpa [List.getD, h1, h2] using q2
theorem lines_true {xs : List F} {count : Int} (h : (xs.all fun c => isCount c 0 (count - 1)) = true) : ∃ ns : List Int, xs = ns.map F.int ∧ ∀ i ∈ ns, 0 ≤ i ∧ i < count := by
  obtain ⟨ns, rfl, h2⟩ := counts_int h
  exact ⟨ns, rfl, fun i hi => by have := h2 i hi; omega⟩
/-! sums at places -/
def selS (rs ks : List Int) : Int := (ks.map fun k => rs.getD k.toNat 0).sum
def inR (n : Nat) (ks : List Int) : Prop := ∀ k ∈ ks, 0 ≤ k ∧ k < (n : Int)
theorem sel_walk {gd : Sto → Prop} {S : Sto} (hgd : gd S) {i : Nat} {e : W F} {ρ : Slots} {rs ks : List Int} {QL : List F → Sto → Prop} (hk : inR rs.length ks)
    (he : ∀ k : Int, ∀ Q : F → Sto → Prop, oIx (.tup (rs.map F.int)) (.int k) S Q → gN i (.int k) ρ S fun ρ2 S2 => e ρ2 S2 Q) (q : QL ((ks.map fun k => rs.getD k.toNat 0).map F.int) S) :
    compL gd (gN i) wYes e ρ (ks.map F.int) [] S QL := by
  refine compL_mapT F.int (fun k => F.int (rs.getD k.toNat 0)) hgd ks _ (fun k hk' Q2 q2 => ?_) (by rw [List.nil_append]; rw [List.map_map] at q; exact q)
  refine he k Q2 ?_
  obtain ⟨h0, h1⟩ := hk k hk'
  have e1 : rs[k.toNat]? = some rs[k.toNat] := List.getElem?_eq_getElem (by omega)
  have e2 : atI (rs.map F.int) k = some (.int rs[k.toNat]) := by rw [atI_pos h0, List.getElem?_map, e1]; rfl
  simp [e2]
  simpa [List.getD, e1] using q2
theorem mul_small {a b : Int} (h : -(2 ^ 60) < a ∧ a < 2 ^ 60) : mulOk a b := mulOk_l ⟨by omega, by omega⟩
theorem lines_ok {n : Nat} {v : F} (h : isLines n v = true) : ∃ ns : List Int, v = .tup (ns.map F.int) ∧ inR n ns ∧ incr ns = true := by
  cases v with
  | tup xs =>
    have h : ((xs.all fun c => isCount c 0 (n - 1)) && incr (xs.map iv)) = true := h
    rw [Bool.and_eq_true] at h
    obtain ⟨ns, rfl, h2⟩ := lines_true h.1
    exact ⟨ns, rfl, h2, by have := h.2; rwa [iv_map] at this⟩
  | _ => cases h
theorem two {xs : List F} (h : (xs.length : Int) = 2) : ∃ a b, xs = [a, b] := by
  match xs, h with
  | [a, b], _ => exact ⟨a, b, rfl⟩
  | [], h => simp at h
  | [a], h => simp at h
  | a :: b :: c :: r, h => simp at h; omega
theorem any_in (ks : List Int) (i : Int) : ((ks.map F.int).any fun z => eqF z (.int i)) = decide (i ∈ ks) := by
  rw [Bool.eq_iff_iff, decide_eq_true_eq, List.any_map, List.any_eq_true]
  constructor
  · rintro ⟨x, hx, h⟩
    have h : eqF (.int x) (.int i) = true := h
    rw [eqF_ii, beq_iff_eq] at h
    rw [← h]
    exact hx
  · exact fun h => ⟨i, h, by show eqF (.int i) (.int i) = true; rw [eqF_ii]; simp⟩
theorem oIn_i {ks : List Int} {i : Int} {S : Sto} {Q : F → Sto → Prop} (h : ks.length ≤ 1000000) : oIn (.int i) (.tup (ks.map F.int)) S Q = Q (.bl (decide (i ∈ ks))) S := by
  rw [oIn_t, any_in, okF_tupI h, okF_int]
  simp
theorem oNotIn_i {ks : List Int} {i : Int} {S : Sto} {Q : F → Sto → Prop} (h : ks.length ≤ 1000000) : oNotIn (.int i) (.tup (ks.map F.int)) S Q = Q (.bl (!decide (i ∈ ks))) S := by
  rw [oNotIn_t, any_in, okF_tupI h, okF_int]
  simp
def sumR (n : Nat) (f : Nat → Int) : Int := ((List.range n).map f).sum
theorem sumR_zero (f : Nat → Int) : sumR 0 f = 0 := rfl
theorem sumR_succ (n : Nat) (f : Nat → Int) : sumR (n + 1) f = sumR n f + f n := by
  unfold sumR
  rw [List.range_succ, List.map_append, List.sum_append]
  simp
theorem sumR_congr {n : Nat} {f g : Nat → Int} (h : ∀ i, i < n → f i = g i) : sumR n f = sumR n g := by
  induction n with
  | zero => rfl
  | succ n ih => rw [sumR_succ, sumR_succ, ih fun i hi => h i (by omega), h n (by omega)]
theorem sumR_add (n : Nat) (f g : Nat → Int) : sumR n (fun i => f i + g i) = sumR n f + sumR n g := by
  induction n with
  | zero => rfl
  | succ n ih => rw [sumR_succ, sumR_succ, sumR_succ, ih]; omega
theorem sumR_sub (n : Nat) (f g : Nat → Int) : sumR n (fun i => f i - g i) = sumR n f - sumR n g := by
  induction n with
  | zero => rfl
  | succ n ih => rw [sumR_succ, sumR_succ, sumR_succ, ih]; omega
theorem sumR_const (n : Nat) (c : Int) : sumR n (fun _ => c) = n * c := by
  induction n with
  | zero => simp [sumR_zero]
  | succ n ih => rw [sumR_succ, ih]; rw [show ((n + 1 : Nat) : Int) = n + 1 by omega, Int.add_mul]; omega
theorem sumR_nonneg {n : Nat} {f : Nat → Int} (h : ∀ i, i < n → 0 ≤ f i) : 0 ≤ sumR n f := by
  induction n with
  | zero => exact Int.le_refl _
  | succ n ih =>
    rw [sumR_succ]
    have := ih fun i hi => h i (by omega)
    have := h n (by omega)
    omega
theorem sumR_zero_all {n : Nat} {f : Nat → Int} (h : ∀ i, i < n → 0 ≤ f i) (hz : sumR n f = 0) : ∀ i, i < n → f i = 0 := by
  induction n with
  | zero => intro i hi; omega
  | succ n ih =>
    rw [sumR_succ] at hz
    have h1 := sumR_nonneg (n := n) (f := f) fun i hi => h i (by omega)
    have h2 := h n (by omega)
    intro i hi
    by_cases e : i = n
    · rw [e]; omega
    · exact ih (fun i hi => h i (by omega)) (by omega) i (by omega)
theorem sumR_one {n k : Nat} (hk : k < n) (c : Int) : sumR n (fun i => if i = k then c else 0) = c := by
  induction n with
  | zero => omega
  | succ n ih =>
    rw [sumR_succ]
    by_cases e : k = n
    · subst e
      rw [sumR_congr (g := fun _ => 0) fun i hi => if_neg (by omega), sumR_const]
      simp
    · rw [ih (by omega), if_neg (fun h => e h.symm)]
      omega
theorem sumR_swap (m n : Nat) (f : Nat → Nat → Int) : sumR m (fun i => sumR n (f i)) = sumR n (fun j => sumR m (fun i => f i j)) := by
  induction m with
  | zero => rw [sumR_zero, sumR_congr (g := fun _ => 0) fun j _ => sumR_zero _, sumR_const]; simp
  | succ m ih =>
    rw [sumR_succ, ih, ← sumR_add]
    exact sumR_congr fun j _ => (sumR_succ m _).symm
/-- a sum over distinct places -/
theorem sum_sel {n : Nat} (f : Nat → Int) : ∀ (ks : List Int), inR n ks → ks.Nodup → (ks.map fun k => f k.toNat).sum = sumR n fun i => if (i : Int) ∈ ks then f i else 0
  | [], _, _ => by
    rw [sumR_congr (g := fun _ => 0) fun i _ => by simp, sumR_const]
    simp
  | k :: r, h, nd => by
    obtain ⟨k0, k1⟩ := h k (List.mem_cons_self ..)
    have ih := sum_sel f r (fun y hy => h y (List.mem_cons_of_mem _ hy)) (List.nodup_cons.mp nd).2
    rw [List.map_cons, List.sum_cons, ih, ← sumR_one (n := n) (k := k.toNat) (by omega) (f k.toNat), ← sumR_add]
    refine sumR_congr fun i hi => ?_
    have hk : k ∉ r := (List.nodup_cons.mp nd).1
    by_cases e : i = k.toNat
    · have e2 : (i : Int) = k := by omega
      rw [if_pos e, if_neg (by rw [e2]; exact hk), if_pos (by rw [e2]; exact List.mem_cons_self ..), e]
      omega
    · have e2 : (i : Int) ≠ k := by omega
      rw [if_neg e]
      by_cases e3 : (i : Int) ∈ r
      · rw [if_pos e3, if_pos (List.mem_cons_of_mem _ e3)]; omega
      · rw [if_neg e3, if_neg (fun h => (List.mem_cons.mp h).elim e2 e3)]; omega
theorem len_sel {n : Nat} {ks : List Int} (h : inR n ks) (nd : ks.Nodup) : (ks.length : Int) = sumR n fun i => if (i : Int) ∈ ks then 1 else 0 := by
  rw [← sum_sel (fun _ => 1) ks h nd]
  induction ks with
  | nil => rfl
  | cons k r ih => rw [List.map_cons, List.sum_cons, ← ih (fun y hy => h y (List.mem_cons_of_mem _ hy)) (List.nodup_cons.mp nd).2, List.length_cons]; omega
/-! loops by index -/
theorem forL_idx {gd : Sto → Prop} {g : DG} {t : WS} {D : EndsD} (e : Nat → F) (n : Nat) (I : Nat → Slots → Sto → Prop) (hg : ∀ i ρ S, I i ρ S → gd S)
    (hs : ∀ i, i < n → ∀ ρ S (N : Slots → Sto → Prop), I i ρ S → (∀ ρ' S', I (i + 1) ρ' S' → N ρ' S') → g (e i) ρ S fun ρ1 S1 => t { nx := N, rt := D.rt, bk := D.nx, ct := N } ρ1 S1)
    (hf : ∀ ρ S, I n ρ S → D.nx ρ S) : ∀ (k i : Nat) (ρ : Slots) (S : Sto), i + k = n → I i ρ S → forL gd g t ((List.range' i k).map e) D ρ S
  | 0, i, ρ, S, hk, hi => by
    have : i = n := by omega
    subst this
    exact ⟨hg _ _ _ hi, hf _ _ hi⟩
  | k + 1, i, ρ, S, hk, hi => ⟨hg _ _ _ hi, hs i (by omega) ρ S _ hi fun ρ' S' h => forL_idx e n I hg hs hf k (i + 1) ρ' S' (by omega) h⟩
theorem forL_rng {gd : Sto → Prop} {g : DG} {t : WS} {D : EndsD} {ρ : Slots} {S : Sto} {n : Nat} (I : Nat → Slots → Sto → Prop) (h0 : I 0 ρ S) (hg : ∀ i ρ S, I i ρ S → gd S)
    (hs : ∀ i, i < n → ∀ ρ S (N : Slots → Sto → Prop), I i ρ S → (∀ ρ' S', I (i + 1) ρ' S' → N ρ' S') → g (.int (0 + (i : Int))) ρ S fun ρ1 S1 => t { nx := N, rt := D.rt, bk := D.nx, ct := N } ρ1 S1)
    (hf : ∀ ρ S, I n ρ S → D.nx ρ S) : forL gd g t (rngL 0 n) D ρ S := by
  rw [rngL_map, List.range_eq_range']
  exact forL_idx (fun i : Nat => F.int (0 + (i : Int))) n I hg hs hf n 0 ρ S (by omega) h0
theorem forL_list {α : Type} {gd : Sto → Prop} {g : DG} {t : WS} {D : EndsD} {ρ : Slots} {S : Sto} (e : α → F) (xs : List α) (I : List α → Slots → Sto → Prop) (h0 : I [] ρ S) (hg : ∀ i ρ S, I i ρ S → gd S)
    (hs : ∀ ys x zs, xs = ys ++ x :: zs → ∀ ρ S (N : Slots → Sto → Prop), I ys ρ S → (∀ ρ' S', I (ys ++ [x]) ρ' S' → N ρ' S') → g (e x) ρ S fun ρ1 S1 => t { nx := N, rt := D.rt, bk := D.nx, ct := N } ρ1 S1)
    (hf : ∀ ρ S, I xs ρ S → D.nx ρ S) : forL gd g t (xs.map e) D ρ S := by
  have gen : ∀ (zs ys : List α) (ρ : Slots) (S : Sto), xs = ys ++ zs → I ys ρ S → forL gd g t (zs.map e) D ρ S := by
    intro zs
    induction zs with
    | nil =>
      intro ys ρ S hx hi
      rw [List.append_nil] at hx
      subst hx
      exact ⟨hg _ _ _ hi, hf _ _ hi⟩
    | cons x zs ih =>
      intro ys ρ S hx hi
      exact ⟨hg _ _ _ hi, hs ys x zs hx ρ S _ hi fun ρ' S' h => ih (ys ++ [x]) ρ' S' (by rw [hx]; simp) h⟩
  exact gen xs [] ρ S rfl h0
theorem updS_updS {S : Sto} {a : Addr} {l m : List F} : updS (updS S a l) a m = updS S a m := by
  funext b
  unfold updS
  split <;> rfl
theorem ixN_cast {n k : Nat} (h : k < n) : ixN n (k : Int) = some k := by
  unfold ixN
  simp
  omega
/-- a drawn part of a list -/
theorem compL_part {α : Type} {gd : Sto → Prop} {g : DG} {mt : W Bool} {me : W F} {ρ : Slots} {S : Sto} (J : Sto → Prop) (e : α → F) (xs : List α) {QL : List F → Sto → Prop} (hJ : J S) (hg : ∀ S, J S → gd S)
    (ht : ∀ x, x ∈ xs → ∀ S (A : F → Sto → Prop) (N : Sto → Prop), J S → (∀ S', J S' → A (e x) S') → (∀ S', J S' → N S') → g (e x) ρ S fun ρ2 S2 => mt ρ2 S2 fun b S3 => if b = true then me ρ2 S3 A else N S3)
    (hq : ∀ (ys : List α) S', ys.Sublist xs → J S' → QL (ys.map e) S') : compL gd g mt me ρ (xs.map e) [] S QL := by
  refine compL_finv (fun j acc S' => J S' ∧ ∃ ys, acc = ys.map e ∧ ys.Sublist (xs.take j)) _ 0 [] _ (fun _ _ _ h => hg _ h.1) (fun k x hx acc S' A N ⟨hj, ys, ea, hs⟩ hA hN => ?_) ⟨hJ, [], rfl, List.nil_sublist _⟩ (fun acc S' ⟨hj, ys, ea, hs⟩ => ?_)
  · rw [ea]
    refine hq ys S' ?_ hj
    rw [Nat.zero_add, List.length_map, List.take_length] at hs
    exact hs
  · rw [List.getElem?_map] at hx
    obtain ⟨y, hy, rfl⟩ := Option.map_eq_some_iff.mp hx
    rw [Nat.zero_add] at hA hN hs
    have tk : xs.take (k + 1) = xs.take k ++ [y] := by rw [List.take_add_one, hy]; rfl
    refine ht y (List.mem_of_getElem? hy) S' A N hj (fun S'' h => hA _ _ ⟨h, ys ++ [y], ?_, ?_⟩) (fun S'' h => hN _ ⟨h, ys, ea, ?_⟩)
    · rw [ea, List.map_append]; rfl
    · rw [tk]; exact hs.append (List.Sublist.refl _)
    · rw [tk]; exact hs.trans (List.sublist_append_left ..)
/-- a block cut at a point: what holds there -/
theorem seq_via {a r : WS} {D : EndsD} {ρ : Slots} {S : Sto} (P : Slots → Sto → Prop) (h1 : ∀ N : Slots → Sto → Prop, (∀ ρ' S', P ρ' S' → N ρ' S') → a { D with nx := N } ρ S) (h2 : ∀ ρ' S', P ρ' S' → r D ρ' S') : sSeq a r D ρ S := h1 _ h2
theorem BoxAt.restr {S S' : Sto} {b c : Addr} (h0 : BoxAt S b c) (h : BoxAt S' b c) : BoxAt (restr S S') b c := by
  obtain ⟨hne, x, y, cells, h1, h2⟩ := h
  exact ⟨hne, x, y, cells, by rw [restr_at h0.b]; exact h1, by rw [restr_at h0.c]; exact h2⟩
end DL

set_option maxHeartbeats 4000000
namespace DL
open PySem PySem.Spec PyProof.Rows L2
/-! while: at most k turns are left -/
theorem while_of {mt : W Bool} {mb : WS} {D : EndsD} (I : Nat → Slots → Sto → Prop)
    (step : ∀ k ρ S (N : Slots → Sto → Prop), I k ρ S → (∀ ρ' S' k', k' < k → I k' ρ' S' → N ρ' S') → mt ρ S fun b S1 => if b = true then mb { D with nx := N, ct := N, bk := D.nx } ρ S1 else D.nx ρ S1)
    {k : Nat} {ρ : Slots} {S : Sto} (h0 : I k ρ S) : sWhile mt mb D ρ S := by
  have gen : ∀ n k ρ S, k ≤ n → I k ρ S → whileN mt mb (n + 1) D ρ S := by
    intro n
    induction n with
    | zero =>
      intro k ρ S hk hi
      exact step k ρ S _ hi fun ρ' S' k' h => absurd h (by omega)
    | succ n ih =>
      intro k ρ S hk hi
      exact step k ρ S _ hi fun ρ' S' k' h hi' => ih k' ρ' S' (by omega) hi'
  exact ⟨k + 1, gen k k ρ S (Nat.le_refl k) h0⟩
section
variable {ρ : Slots} {S : Sto} {Q : F → Sto → Prop}
end
theorem cut_take {α : Type} (xs : List α) (k : Nat) : cut xs none (some (k : Int)) = xs.take k := by
  unfold cut
  rw [HT.sIx_none, HT.sIx_nat]
  simp
theorem oAdd_W {x : F} {ws gs : List F} {S : Sto} {Q : F → Sto → Prop} (h : listW S x = some ws) : oAdd x (.lst gs) S Q = (ws.length + gs.length ≤ sizeLine ∧ Q (.lst (ws ++ gs)) S) := by
  cases x with
  | lst l => cases h; rfl
  | loc a =>
    have h : S a = some ws := h
    unfold oAdd
    simp [h]
  | _ => cases h
theorem BoxAt.upd {S : Sto} {b c p : Addr} {l : List F} (h : BoxAt S b c) (h1 : p ≠ b) (h2 : p ≠ c) : BoxAt (updS S p l) b c := by
  obtain ⟨hne, x, y, cells, e1, e2⟩ := h
  exact ⟨hne, x, y, cells, by rw [updS_ne (fun e => h1 e.symm)]; exact e1, by rw [updS_ne (fun e => h2 e.symm)]; exact e2⟩
theorem TapeAt.upd {S : Sto} {b c p : Addr} {l : List F} (h : TapeAt S b c) (h1 : p ≠ b) (h2 : p ≠ c) : TapeAt (updS S p l) b c := by
  obtain ⟨hne, i, x, y, cells, e1, e2⟩ := h
  exact ⟨hne, i, x, y, cells, by rw [updS_ne (fun e => h1 e.symm)]; exact e1, by rw [updS_ne (fun e => h2 e.symm)]; exact e2⟩
/-- a returned list that changes: what stands behind -/
@[simp, simp ↓] theorem wVarFrz_ev {i : Nat} {ρ : Slots} {S : Sto} {Q : F → Sto → Prop} : wVarFrz i ρ S Q = match ρ[i]? with | some (some (.loc a)) => (match S a with | some fs => Q (.lst fs) (delS S a) | none => False) | _ => False := (rfl)
theorem restr_del {S S' : Sto} {p : Addr} (h : S p = none) (k : ∀ a, a ≠ p → (S a).isSome = true → S' a = S a) : restr S (delS S' p) = S := restr_eq fun a ha => by
  have hne : a ≠ p := fun e => by rw [e, h] at ha; cases ha
  unfold delS
  rw [if_neg hne]
  exact k a hne ha
@[simp] theorem sAug_evm {i : Nat} {m : W F} {op : DOp} {D : EndsD} {ρ : Slots} {S : Sto} : sAug i m op D ρ S = match ρ[i]? with
  | some (some f) => m ρ S fun z S1 => op f z S1 fun d S2 => D.nx (ρ.set i (some d)) S2
  | _ => False := (rfl)
theorem enumL_rng : ∀ (rs : List Int) (k : Nat), enumL k (rs.map F.int) = (List.range rs.length).map fun i : Nat => F.tup [.int ((k + i : Nat) : Int), .int (rs.getD i 0)]
  | [], _ => rfl
  | r :: rs, k => by
    rw [List.map_cons, enumL, enumL_rng rs (k + 1), List.length_cons, List.range_succ_eq_map, List.map_cons, List.map_map]
    congr 1
    refine List.map_congr_left fun i _ => ?_
    show F.tup [.int ((k + 1 + i : Nat) : Int), _] = F.tup [.int ((k + (i + 1) : Nat) : Int), _]
    rw [show k + 1 + i = k + (i + 1) by omega]
    rfl
theorem sum_filter {α : Type} (p : α → Bool) (f : α → Int) : ∀ l : List α, ((l.filter p).map f).sum = (l.map fun x => if p x = true then f x else 0).sum
  | [] => rfl
  | x :: l => by
    rw [List.filter_cons, List.map_cons, List.sum_cons, ← sum_filter p f l]
    split <;> simp
end DL

set_option maxHeartbeats 4000000
namespace DL
open PySem PySem.Spec PyProof.Rows L2
/-! partitions: what the defs of partitions compute, and their plain law -/
def W_is_partition : WS :=
  (sSeq (sIf (bNot (wTst (wIsi "tuple" (wVar 0)))) (sRet (wC (.bl false))) sNext)
    (sSeq (sIf (bNot (wTst (wCall cAll (wCons (wFrz (wComp [1] (wIt (wVar 0)) (gN 1) wYes (wAnd (wIsi "int" (wVar 1)) (wAnd (wNot (wIsi "bool" (wVar 1))) (wOp oGt (wVar 1) (wC (.int 0))))))) wNil)))) (sRet (wC (.bl false))) sNext)
    (sRet (wCall cAll (wCons (wFrz (wComp [2] (wRange1 (wCons (wOp oSub (wCall cLen (wCons (wVar 0) wNil)) (wC (.int 1))) wNil)) (gN 2) wYes (wOp oGe (wOp oIx (wVar 0) (wVar 2)) (wOp oIx (wVar 0) (wOp oAdd (wVar 2) (wC (.int 1))))))) wNil)))))
def W_size_of : WS :=
  (sRet (wCall cSum (wCons (wVar 0) wNil)))
def W_conjugate : WS :=
  (sSeq (sAsg (wIf (wTru (wVar 0)) (wOp oIx (wVar 0) (wC (.int 0))) (wC (.int 0))) (gN 1))
    (sRet (wCall cTuple (wCons (wFrz (wComp [2] (wRange2 (wCons (wC (.int 1)) (wCons (wOp oAdd (wVar 1) (wC (.int 1))) wNil))) (gN 2) wYes (wCall cLen (wCons (wFrz (wComp [3] (wIt (wVar 0)) (gN 3) (wTst (wOp oGe (wVar 3) (wVar 2))) (wVar 3))) wNil)))) wNil))))
def W_sorted_down : WS :=
  (sRet (wCall cTuple (wCons (wFrz (wSortedRev (wFrz (wComp [1] (wIt (wVar 0)) (gN 1) (wTst (wOp oGt (wVar 1) (wC (.int 0)))) (wVar 1))))) wNil)))
def W_sums_of : WS :=
  (sSeq (sAsg (wOwn (wLst wNil)) (gN 2))
    (sSeq (sAsg (wC (.int 0)) (gN 3))
    (sSeq (sFor (wRange1 (wCons (wVar 1) wNil)) (gN 4) (sSeq (sAug 3 (wIf (wTst (wOp oLt (wVar 4) (wCall cLen (wCons (wVar 0) wNil)))) (wOp oIx (wVar 0) (wVar 4)) (wC (.int 0))) ipAdd)
    (sExpr (wMt mAppend (wVar 2) (wCons (wVar 3) wNil)))))
    (sRet (wVarFrz 2)))))
def W_dominates (c_size_of : Ct) (c_sums_of : Ct) : WS :=
  (sSeq (sIf (wTst (wOp oNe (wCall c_size_of (wCons (wVar 0) wNil)) (wCall c_size_of (wCons (wVar 1) wNil)))) (sRet (wC (.bl false))) sNext)
    (sSeq (sAsg (wCall cMax2 (wCons (wCall cLen (wCons (wVar 0) wNil)) (wCons (wCall cLen (wCons (wVar 1) wNil)) wNil))) (gN 2))
    (sRet (wCall cAll (wCons (wFrz (wComp [3, 4] (wZipA (wCons (wCall c_sums_of (wCons (wVar 0) (wCons (wVar 2) wNil))) (wCons (wCall c_sums_of (wCons (wVar 1) (wCons (wVar 2) wNil))) wNil))) (gTup2 2 (gCons2 (gN 3) (gCons2 (gN 4) gNil2))) wYes (wOp oGe (wVar 3) (wVar 4)))) wNil)))))
def W_heads : WS :=
  (sSeq (sPar [2, 3] (wCons (wOwn (wLst wNil)) (wCons (wC (.int 0)) wNil)))
    (sSeq (sFor (wRange1 (wCons (wVar 1) wNil)) (gN 4) (sSeq (sAsg (wOp oAdd (wVar 3) (wIf (wTst (wOp oLt (wVar 4) (wCall cLen (wCons (wVar 0) wNil)))) (wOp oIx (wVar 0) (wVar 4)) (wC (.int 0)))) (gN 3))
    (sExpr (wMt mAppend (wVar 2) (wCons (wVar 3) wNil)))))
    (sRet (wVarFrz 2))))
def W_over (c__law_heads : Ct) : WS :=
  (sSeq (sAsg (wCall cMax2 (wCons (wCall cLen (wCons (wVar 0) wNil)) (wCons (wCall cLen (wCons (wVar 1) wNil)) wNil))) (gN 2))
    (sSeq (sAsg (wTup (wCons (wCall c__law_heads (wCons (wVar 0) (wCons (wVar 2) wNil))) (wCons (wCall c__law_heads (wCons (wVar 1) (wCons (wVar 2) wNil))) wNil))) (gTup2 2 (gCons2 (gN 3) (gCons2 (gN 4) gNil2))))
    (sRet (wAnd (wOp oEq (wCall cSum (wCons (wVar 0) wNil)) (wCall cSum (wCons (wVar 1) wNil))) (wCall cAll (wCons (wFrz (wComp [5] (wRange1 (wCons (wVar 2) wNil)) (gN 5) wYes (wOp oGe (wOp oIx (wVar 3) (wVar 5)) (wOp oIx (wVar 4) (wVar 5))))) wNil))))))
def W_columns : WS :=
  (sRet (wCall cTuple (wCons (wFrz (wComp [1] (wRange1 (wCons (wCall cMax1 (wCons (wOp oAdd (wVar 0) (wTup (wCons (wC (.int 0)) wNil))) wNil)) wNil)) (gN 1) wYes (wCall cLen (wCons (wFrz (wComp [2] (wIt (wVar 0)) (gN 2) (wTst (wOp oGt (wVar 2) (wVar 1))) (wVar 2))) wNil)))) wNil)))
def W_lawpart : WS :=
  (sSeq (sIf (bOr (bNot (wTst (wIsi "tuple" (wVar 0)))) (bNot (wTst (wCall cAll (wCons (wFrz (wComp [1] (wIt (wVar 0)) (gN 1) wYes (wAnd (wIsi "int" (wVar 1)) (wAnd (wNot (wIsi "bool" (wVar 1))) (wOp oGt (wVar 1) (wC (.int 0))))))) wNil))))) (sRet (wC (.bl false))) sNext)
    (sRet (wCall cAll (wCons (wFrz (wComp [2] (wRange1 (wCons (wOp oSub (wCall cLen (wCons (wVar 0) wNil)) (wC (.int 1))) wNil)) (gN 2) wYes (wOp oGe (wOp oIx (wVar 0) (wVar 2)) (wOp oIx (wVar 0) (wOp oAdd (wVar 2) (wC (.int 1))))))) wNil))))
def W_partition (c__law_take : Ct) : WS :=
  (sSeq (sPar [2, 3] (wCons (wOwn (wLst wNil)) (wCons (wVar 1) wNil)))
    (sSeq (sWhile (wTst (wOp oGt (wVar 1) (wC (.int 0)))) (sSeq (sAsg (wOp oAdd (wC (.int 1)) (wCall c__law_take (wCons (wVar 0) (wCons (wCall cMin2 (wCons (wVar 1) (wCons (wVar 3) wNil))) wNil)))) (gN 4))
    (sSeq (sIf (wTst (wOp oGt (wCall c__law_take (wCons (wVar 0) (wCons (wC (.int 3)) wNil))) (wC (.int 0)))) (sAsg (wCall cMin2 (wCons (wVar 4) (wCons (wOp oAdd (wC (.int 1)) (wCall c__law_take (wCons (wVar 0) (wCons (wCall cMin2 (wCons (wVar 1) (wCons (wVar 3) wNil))) wNil)))) wNil))) (gN 4)) sNext)
    (sSeq (sExpr (wMt mAppend (wVar 2) (wCons (wVar 4) wNil)))
    (sPar [1, 3] (wCons (wOp oSub (wVar 1) (wVar 4)) (wCons (wVar 1) wNil)))))))
    (sRet (wCall cTuple (wCons (wFrz (wSortedRev (wVar 2))) wNil)))))
/-! the plain law of partitions -/
def falls (r : List Int) : Prop := r.Pairwise (· ≥ ·)
def cnt (k : Int) (r : List Int) : Nat := (r.filter fun x => decide (k ≤ x)).length
def conjM (M : Nat) (r : List Int) : List Int := (List.range M).map fun k : Nat => (cnt ((k : Int) + 1) r : Int)
def conj (r : List Int) : List Int := conjM (r.headD 0).toNat r
def minN (x : Int) (m : Nat) : Int := if x ≤ m then x else m
def Part (r : List Int) : Prop := falls r ∧ ∀ x ∈ r, 0 < x
theorem cnt_cons (k x : Int) (r : List Int) : cnt k (x :: r) = cnt k r + if k ≤ x then 1 else 0 := by
  unfold cnt
  rw [List.filter_cons]
  by_cases h : k ≤ x
  · rw [if_pos (decide_eq_true h), if_pos h]; rfl
  · rw [if_neg (by simpa using h), if_neg h]; rfl
theorem head_max {r : List Int} (h : falls r) : ∀ x ∈ r, x ≤ r.headD 0 := by
  cases r with
  | nil => intro x hx; cases hx
  | cons y r =>
    intro x hx
    rcases List.mem_cons.mp hx with e | e
    · rw [e]; exact Int.le_refl _
    · exact List.rel_of_pairwise_cons h e
theorem ones_sum (x : Int) (hx : 0 ≤ x) : ∀ m : Nat, ((List.range m).map fun k : Nat => if (k : Int) + 1 ≤ x then (1 : Int) else 0).sum = minN x m
  | 0 => by
    unfold minN
    simp
    omega
  | m + 1 => by
    rw [List.range_succ, List.map_append, List.sum_append, ones_sum x hx m]
    unfold minN
    simp
    split <;> split <;> split <;> omega
theorem conjM_take (M m : Nat) : ∀ r : List Int, (∀ x ∈ r, 0 ≤ x ∧ x ≤ M) → ((conjM M r).take m).sum = (r.map fun x => minN x m).sum
  | [], _ => by
    have : ∀ l : List Nat, (l.map fun k : Nat => ((cnt ((k : Int) + 1) [] : Nat) : Int)).sum = 0 := fun l => by
      induction l with
      | nil => rfl
      | cons x l ih => rw [List.map_cons, List.sum_cons, ih]; rfl
    unfold conjM
    rw [← List.map_take, this]
    rfl
  | x :: r, h => by
    have ih := conjM_take M m r fun y hy => h y (List.mem_cons_of_mem _ hy)
    obtain ⟨h0, h1⟩ := h x (List.mem_cons_self ..)
    rw [List.map_cons, List.sum_cons, ← ih]
    unfold conjM
    rw [← List.map_take, ← List.map_take, List.take_range]
    have : ∀ l : List Nat, (l.map fun k : Nat => ((cnt ((k : Int) + 1) (x :: r) : Nat) : Int)).sum = (l.map fun k : Nat => if (k : Int) + 1 ≤ x then (1 : Int) else 0).sum + (l.map fun k : Nat => ((cnt ((k : Int) + 1) r : Nat) : Int)).sum := fun l => by
      induction l with
      | nil => rfl
      | cons k l ih =>
        rw [List.map_cons, List.sum_cons, ih, List.map_cons, List.sum_cons, List.map_cons, List.sum_cons, cnt_cons]
        split <;> omega
    rw [this, ones_sum x h0]
    congr 1
    unfold minN
    split <;> split <;> omega
theorem conj_take {r : List Int} (h : Part r) (m : Nat) : ((conj r).take m).sum = (r.map fun x => minN x m).sum := conjM_take _ m r fun x hx => by
  have := head_max h.1 x hx
  have := h.2 x hx
  omega
def Dom (a b : List Int) : Prop := a.sum = b.sum ∧ ∀ m : Nat, (b.take m).sum ≤ (a.take m).sum
def pos (t : Int) : Int := if 0 ≤ t then t else 0
theorem minN_pos (m : Nat) : ∀ r : List Int, (r.map fun x => minN x m).sum = r.sum - (r.map fun x => pos (x - m)).sum
  | [] => rfl
  | x :: r => by
    rw [List.map_cons, List.sum_cons, minN_pos m r, List.map_cons, List.sum_cons, List.sum_cons]
    unfold minN pos
    split <;> split <;> omega
theorem pos_upper (m : Nat) : ∀ b : List Int, falls b → ∃ j : Nat, (b.map fun x => pos (x - m)).sum = (b.take j).sum - j * m ∧ j ≤ b.length
  | [], _ => ⟨0, by simp, Nat.le_refl _⟩
  | x :: r, h => by
    by_cases c : x ≤ m
    · refine ⟨0, ?_, Nat.zero_le _⟩
      have : ∀ l : List Int, (∀ y ∈ l, y ≤ m) → (l.map fun x => pos (x - m)).sum = 0 := fun l hl => by
        induction l with
        | nil => rfl
        | cons y l ih =>
          rw [List.map_cons, List.sum_cons, ih fun z hz => hl z (List.mem_cons_of_mem _ hz)]
          have := hl y (List.mem_cons_self ..)
          unfold pos
          split <;> omega
      rw [this _ fun y hy => by
        rcases List.mem_cons.mp hy with e | e
        · rw [e]; exact c
        · have : x ≥ y := List.rel_of_pairwise_cons h e
          omega]
      simp
    · obtain ⟨j, hj, hl⟩ := pos_upper m r (List.Pairwise.of_cons h)
      refine ⟨j + 1, ?_, by rw [List.length_cons]; omega⟩
      rw [List.map_cons, List.sum_cons, hj, List.take_succ_cons, List.sum_cons]
      have e : ((j + 1 : Nat) : Int) * m = j * m + m := by rw [show ((j + 1 : Nat) : Int) = j + 1 by omega, Int.add_mul]; omega
      rw [e]
      unfold pos
      rw [if_pos (by omega)]
      omega
theorem pos_sum (m : Nat) : ∀ a : List Int, 0 ≤ (a.map fun x => pos (x - m)).sum
  | [] => Int.le_refl _
  | x :: r => by
    have := pos_sum m r
    rw [List.map_cons, List.sum_cons]
    unfold pos at this ⊢
    split <;> omega
theorem pos_lower (m : Nat) : ∀ (a : List Int) (j : Nat), (a.take j).sum - j * m ≤ (a.map fun x => pos (x - m)).sum
  | a, 0 => by
    have := pos_sum m a
    simp
    exact this
  | [], j + 1 => by
    have : 0 ≤ ((j + 1 : Nat) : Int) * m := Int.mul_nonneg (by omega) (by omega)
    simp at this ⊢
    omega
  | x :: r, j + 1 => by
    have ih := pos_lower m r j
    have e : ((j + 1 : Nat) : Int) * m = j * m + m := by rw [show ((j + 1 : Nat) : Int) = j + 1 by omega, Int.add_mul]; omega
    rw [e, List.take_succ_cons, List.sum_cons, List.map_cons, List.sum_cons]
    generalize (List.map (fun x => pos (x - m)) r).sum = z at ih ⊢
    unfold pos
    split <;> omega
theorem minN_all {r : List Int} {M : Nat} (h : ∀ x ∈ r, x ≤ M) : (r.map fun x => minN x M).sum = r.sum := by
  induction r with
  | nil => rfl
  | cons x r ih =>
    rw [List.map_cons, List.sum_cons, List.sum_cons, ih fun y hy => h y (List.mem_cons_of_mem _ hy)]
    unfold minN
    rw [if_pos (h x (List.mem_cons_self ..))]
theorem conj_sum {r : List Int} (h : Part r) : (conj r).sum = r.sum := by
  have e := conj_take h (r.headD 0).toNat
  rw [List.take_of_length_le (by unfold conj conjM; simp)] at e
  rw [e, minN_all]
  intro x hx
  have := head_max h.1 x hx
  omega
theorem dom_conj {a b : List Int} (ha : Part a) (hb : Part b) (h : Dom a b) : Dom (conj b) (conj a) := by
  refine ⟨by rw [conj_sum ha, conj_sum hb, h.1], fun m => ?_⟩
  rw [conj_take ha, conj_take hb, minN_pos, minN_pos, h.1]
  obtain ⟨j, hj, _⟩ := pos_upper m b hb.1
  have h1 := pos_lower m a j
  have h2 := h.2 j
  omega
theorem cnt_at : ∀ {r : List Int}, falls r → ∀ (i : Nat) (k : Int), i < r.length → (i + 1 ≤ cnt k r ↔ k ≤ r.getD i 0)
  | [], _, i, k, hi => absurd hi (by simp)
  | x :: r, h, 0, k, _ => by
    rw [cnt_cons]
    show 0 + 1 ≤ _ ↔ k ≤ x
    by_cases c : k ≤ x
    · rw [if_pos c]
      exact ⟨fun _ => c, fun _ => by omega⟩
    · rw [if_neg c]
      have : cnt k r = 0 := by
        unfold cnt
        rw [List.length_eq_zero_iff, List.filter_eq_nil_iff]
        intro y hy
        have : x ≥ y := List.rel_of_pairwise_cons h hy
        simp
        omega
      rw [this]
      exact ⟨fun h => by omega, fun h => absurd h c⟩
  | x :: r, h, i + 1, k, hi => by
    have ih := cnt_at (List.Pairwise.of_cons h) i k (by simpa using hi)
    rw [cnt_cons]
    show i + 1 + 1 ≤ _ ↔ k ≤ r.getD i 0
    by_cases c : k ≤ x
    · rw [if_pos c, ← ih]
      omega
    · rw [if_neg c]
      have hm : r.getD i 0 ∈ r := by
        rw [List.getD_eq_getElem?_getD, List.getElem?_eq_getElem (by simpa using hi)]
        exact List.getElem_mem _
      have h1 : x ≥ r.getD i 0 := List.rel_of_pairwise_cons h hm
      constructor
      · intro h2
        exact ih.mp (by omega)
      · intro h2
        omega
theorem cnt_len {r : List Int} (h : Part r) : cnt 1 r = r.length := by
  unfold cnt
  rw [List.filter_eq_self.mpr fun x hx => decide_eq_true (by have := h.2 x hx; omega)]
theorem cnt_mono (r : List Int) {k l : Int} (h : k ≤ l) : cnt l r ≤ cnt k r := by
  induction r with
  | nil => exact Nat.le_refl _
  | cons x r ih =>
    rw [cnt_cons, cnt_cons]
    split <;> split <;> omega
theorem conj_len (r : List Int) : (conj r).length = (r.headD 0).toNat := by simp [conj, conjM]
theorem conj_part {r : List Int} (h : Part r) : Part (conj r) := by
  refine ⟨?_, fun x hx => ?_⟩
  · unfold falls conj conjM
    refine List.Pairwise.map _ (fun a b (hab : a < b) => ?_) List.pairwise_lt_range
    have := cnt_mono r (k := (a : Int) + 1) (l := (b : Int) + 1) (by omega)
    omega
  · obtain ⟨k, hk, rfl⟩ := List.mem_map.mp hx
    have hk := List.mem_range.mp hk
    cases r with
    | nil => simp at hk
    | cons y r =>
      have : 0 + 1 ≤ cnt ((k : Int) + 1) (y :: r) := (cnt_at h.1 0 _ (by simp)).mpr (by
        show (k : Int) + 1 ≤ y
        have : k < y.toNat := hk
        omega)
      omega
theorem cnt_range (M : Nat) (c : Nat → Nat) (i v : Nat) (hv : v ≤ M) (h : ∀ k, k < M → (i + 1 ≤ c k ↔ k + 1 ≤ v)) : cnt ((i : Int) + 1) ((List.range M).map fun k => (c k : Int)) = v := by
  unfold cnt
  rw [List.filter_map, List.length_map]
  have e : (List.range M).filter ((fun x : Int => decide ((i : Int) + 1 ≤ x)) ∘ fun k => (c k : Int)) = (List.range M).filter fun k => decide (k < v) := by
    refine List.filter_congr fun k hk => ?_
    have := h k (List.mem_range.mp hk)
    show decide ((i : Int) + 1 ≤ (c k : Int)) = decide (k < v)
    rw [decide_eq_decide]
    constructor
    · intro z; have := this.mp (by omega); omega
    · intro z; have := this.mpr (by omega); omega
  rw [e]
  have : ∀ M, v ≤ M → ((List.range M).filter fun k => decide (k < v)).length = v := fun M hM => by
    induction M with
    | zero => simp; omega
    | succ M ih =>
      rw [List.range_succ, List.filter_append, List.length_append]
      by_cases c : v ≤ M
      · rw [ih c, List.filter_eq_nil_iff.mpr (by simp; omega)]
        simp
      · have ev : v = M + 1 := by omega
        subst ev
        rw [List.filter_eq_self.mpr (fun k hk => decide_eq_true (by have := List.mem_range.mp hk; omega)), List.filter_eq_self.mpr (by simp)]
        simp
  exact this M hv
theorem conj_conj {r : List Int} (h : Part r) : conj (conj r) = r := by
  have hl : (conj (conj r)).length = r.length := by
    rw [conj_len]
    cases r with
    | nil => rfl
    | cons y r =>
      have hy := h.2 y (List.mem_cons_self ..)
      have : (conj (y :: r)).headD 0 = (cnt 1 (y :: r) : Int) := by
        unfold conj conjM
        obtain ⟨n, hn⟩ : ∃ n : Nat, ((y :: r).headD 0).toNat = n + 1 := ⟨y.toNat - 1, by show y.toNat = _; omega⟩
        rw [hn, List.range_succ_eq_map]
        rfl
      rw [this, cnt_len h]
      simp
  refine List.ext_getElem hl fun i h1 h2 => ?_
  have hi : i < r.length := h2
  have hv : r.getD i 0 = r[i] := by rw [List.getD_eq_getElem?_getD, List.getElem?_eq_getElem hi]; rfl
  have hm := List.getElem_mem hi
  have h0 := h.2 _ hm
  have hmx := head_max h.1 _ hm
  have e : (conj (conj r))[i] = (cnt ((i : Int) + 1) (conj r) : Int) := by
    unfold conj conjM
    simp
  rw [e]
  have := cnt_range (r.headD 0).toNat (fun k => cnt ((k : Int) + 1) r) i r[i].toNat (by omega) fun k hk => by
    have := cnt_at h.1 i ((k : Int) + 1) hi
    rw [this, hv]
    omega
  have : cnt ((i : Int) + 1) (conj r) = r[i].toNat := this
  rw [this]
  omega
theorem dom_conj_iff {a b : List Int} (ha : Part a) (hb : Part b) : Dom (conj b) (conj a) ↔ Dom a b :=
  ⟨fun h => by have := dom_conj (conj_part hb) (conj_part ha) h; rwa [conj_conj ha, conj_conj hb] at this, dom_conj ha hb⟩
local macro_rules | `(tactic| walk_at "nx") => `(tactic| ((try dsimp only); rw [sSeq_ev]; (try simp [-sSeq_ev, -compL_cons, -forL_cons])))
def isPosF : F → Bool
  | .int i => decide (0 < i)
  | _ => false
def fallB (ns : List Int) : Bool := (List.range (ns.length - 1)).all fun k => decide (ns.getD (k + 1) 0 ≤ ns.getD k 0)
def isPart : F → Bool
  | .tup xs => xs.all isPosF && fallB (xs.map iv)
  | _ => false
def C_is_partition : Ct := fun xs S Q => ∃ v, xs = [v] ∧ fz v = true ∧ Q (.bl (isPart v)) S
theorem mono_C_is_partition : MonoC C_is_partition := fun xs S Q Q' k ⟨v, e, h, q⟩ => ⟨v, e, h, k _ _ q⟩
theorem pos_ints {xs : List F} (h : xs.all isPosF = true) : ∃ ns : List Int, xs = ns.map F.int := by
  induction xs with
  | nil => exact ⟨[], rfl⟩
  | cons x r ih =>
    rw [List.all_cons, Bool.and_eq_true] at h
    obtain ⟨ns, rfl⟩ := ih h.2
    cases x with
    | int i => exact ⟨i :: ns, rfl⟩
    | _ => cases h.1
theorem fall_walkG {gd : Sto → Prop} {S : Sto} (hgd : gd S) {g : DG} {e : W F} {ρ : Slots} {ns : List Int} {QL : List F → Sto → Prop}
    (he : ∀ k : Nat, ∀ Q : F → Sto → Prop, (oIx (.tup (ns.map F.int)) (.int (k : Int)) S fun a S1 => oIx (.tup (ns.map F.int)) (.int ((k : Int) + 1)) S1 fun b S2 => oGe a b S2 Q) → g (.int (0 + (k : Int))) ρ S fun ρ2 S2 => e ρ2 S2 Q)
    (q : QL (((List.range (ns.length - 1)).map fun k => decide (ns.getD (k + 1) 0 ≤ ns.getD k 0)).map F.bl) S) :
    compL gd g wYes e ρ (rngL 0 (ns.length - 1)) [] S QL := by
  refine compL_mapT (fun i : Nat => F.int (0 + (i : Int))) (fun k => .bl (decide (ns.getD (k + 1) 0 ≤ ns.getD k 0))) hgd (List.range (ns.length - 1)) _ (fun k hk Q2 q2 => ?_) (by rw [List.nil_append, all_bl]; exact q)
  have hk := List.mem_range.mp hk
  have h1 : ns[k]? = some ns[k] := List.getElem?_eq_getElem (by omega)
  have h2 : ns[k + 1]? = some ns[k + 1] := List.getElem?_eq_getElem (by omega)
  have h3 : atI (ns.map F.int) (k : Int) = some (.int ns[k]) := by rw [atI_cast, List.getElem?_map, h1]; rfl
  have h4 : atI (ns.map F.int) ((k : Int) + 1) = some (.int ns[k + 1]) := by rw [show (k : Int) + 1 = ((k + 1 : Nat) : Int) by omega, atI_cast, List.getElem?_map, h2]; rfl
  have := he k Q2 (by
    simp [h3, h4]
    simpa [List.getD, h1, h2] using q2)
  simpa using this
theorem sp_is_partition (fs : List F) (S : Sto) (Q) (h : C_is_partition fs S Q) : fs.length = 1 ∧ W_is_partition { nx := fun _ S' => Q .non S', rt := fun d S' => Q d S' } (startF 3 fs) S := by
  obtain ⟨v, rfl, hv, q⟩ := h
  refine ⟨rfl, ?_⟩
  show W_is_partition _ [some v, none, none] S
  unfold W_is_partition
  rw [sSeq_ev]
  cases v with
  | tup xs =>
    obtain ⟨hl, hz⟩ := fz_tup hv
    simp [-sSeq_ev]
    rw [sSeq_ev]
    simp [-sSeq_ev, -compL_cons, -wAnd_ev]
    refine ⟨mil hl, ?_⟩
    refine compL_map (fun x => .bl (isPosF x)) trivial _ _ (fun x hx Q2 q2 => ?_) ?_
    · have hxz := fz_mem hz hx
      cases x <;> simpa [isiOk_fz hxz, isPosF] using q2
    · rw [List.nil_append, all_bl, cAll_l]
      have e : ((xs.map isPosF).all id) = xs.all isPosF := by rw [List.all_map]; rfl
      rw [e]
      cases h1 : xs.all isPosF with
      | true =>
        obtain ⟨ns, rfl⟩ := pos_ints h1
        rw [show isPart (.tup (ns.map F.int)) = ((ns.map F.int).all isPosF && _) from rfl, h1, iv_map] at q
        rw [List.length_map] at hl
        simp [-compL_cons]
        have := mil hl
        refine ⟨by omega, by omega, ?_⟩
        refine fall_walkG trivial (fun k Q hQ => by simpa using hQ) ?_
        rw [cAll_l, List.all_map]
        exact q
      | false =>
        rw [show isPart (.tup xs) = (xs.all isPosF && _) from rfl, h1] at q
        simpa using q
  | _ => simpa [-sSeq_ev, isiOk_fz hv, isPart] using q
theorem sp_law_is_partition (fs : List F) (S : Sto) (Q) (h : C_is_partition fs S Q) : fs.length = 1 ∧ W_lawpart { nx := fun _ S' => Q .non S', rt := fun d S' => Q d S' } (startF 3 fs) S := by
  obtain ⟨v, rfl, hv, q⟩ := h
  refine ⟨rfl, ?_⟩
  show W_lawpart _ [some v, none, none] S
  unfold W_lawpart
  rw [sSeq_ev]
  cases v with
  | tup xs =>
    obtain ⟨hl, hz⟩ := fz_tup hv
    simp [-sSeq_ev, -compL_cons, -wAnd_ev]
    refine ⟨mil hl, ?_⟩
    refine compL_map (fun x => .bl (isPosF x)) trivial _ _ (fun x hx Q2 q2 => ?_) ?_
    · have hxz := fz_mem hz hx
      cases x <;> simpa [isiOk_fz hxz, isPosF] using q2
    · rw [List.nil_append, all_bl, cAll_l]
      have e : ((xs.map isPosF).all id) = xs.all isPosF := by rw [List.all_map]; rfl
      rw [e]
      cases h1 : xs.all isPosF with
      | true =>
        obtain ⟨ns, rfl⟩ := pos_ints h1
        rw [show isPart (.tup (ns.map F.int)) = ((ns.map F.int).all isPosF && _) from rfl, h1, iv_map] at q
        rw [List.length_map] at hl
        simp [-compL_cons]
        have := mil hl
        refine ⟨by omega, by omega, ?_⟩
        refine fall_walkG trivial (fun k Q hQ => by simpa using hQ) ?_
        rw [cAll_l, List.all_map]
        exact q
      | false =>
        rw [show isPart (.tup xs) = (xs.all isPosF && _) from rfl, h1] at q
        simpa using q
  | _ => simpa [-sSeq_ev, isiOk_fz hv, isPart] using q
def C_size_of : Ct := fun xs S Q => ∃ r : List Int, xs = [rowF r] ∧ Q (.int r.sum) S
theorem mono_C_size_of : MonoC C_size_of := fun xs S Q Q' k ⟨v, e, q⟩ => ⟨v, e, k _ _ q⟩
theorem sp_size_of (fs : List F) (S : Sto) (Q) (h : C_size_of fs S Q) : fs.length = 1 ∧ W_size_of { nx := fun _ S' => Q .non S', rt := fun d S' => Q d S' } (startF 1 fs) S := by
  obtain ⟨r, rfl, q⟩ := h
  refine ⟨rfl, ?_⟩
  show W_size_of _ [some (rowF r)] S
  unfold W_size_of
  simp [rowF]
  exact q
def C_conjugate : Ct := fun xs S Q => ∃ r : List Int, xs = [rowF r] ∧ r.length ≤ 1000 ∧ 0 ≤ r.headD 0 ∧ r.headD 0 ≤ 1000 ∧ Q (rowF (conj r)) S
theorem mono_C_conjugate : MonoC C_conjugate := fun xs S Q Q' k ⟨v, e, h1, h0, h2, q⟩ => ⟨v, e, h1, h0, h2, k _ _ q⟩
theorem sp_conjugate (fs : List F) (S : Sto) (Q) (h : C_conjugate fs S Q) : fs.length = 1 ∧ W_conjugate { nx := fun _ S' => Q .non S', rt := fun d S' => Q d S' } (startF 4 fs) S := by
  obtain ⟨r, rfl, h1, h0, h2, q⟩ := h
  refine ⟨rfl, ?_⟩
  show W_conjugate _ [some (rowF r), none, none, none] S
  unfold W_conjugate
  have key : ∀ M : Int, M = r.headD 0 → (sRet (wCall cTuple (wCons (wFrz (wComp [2] (wRange2 (wCons (wC (.int 1)) (wCons (wOp oAdd (wVar 1) (wC (.int 1))) wNil))) (gN 2) wYes (wCall cLen (wCons (wFrz (wComp [3] (wIt (wVar 0)) (gN 3) (wTst (wOp oGe (wVar 3) (wVar 2))) (wVar 3))) wNil)))) wNil)))
      { nx := fun _ S' => Q .non S', rt := fun d S' => Q d S' } [some (rowF r), some (.int M), none, none] S := fun M hM => by
    rw [← hM] at h0 h2
    have eM : (conj r) = (List.range M.toNat).map fun k : Nat => (cnt ((k : Int) + 1) r : Int) := by rw [hM]; rfl
    simp [-compL_cons]
    refine ⟨⟨by omega, by omega⟩, milI (by omega), ?_⟩
    rw [rngL_map]
    refine compL_mapT (fun i : Nat => F.int (1 + (i : Int))) (fun k : Nat => .int (cnt ((k : Int) + 1) r)) trivial _ _ (fun k hk Q2 q2 => ?_) ?_
    · simp [rowF, -compL_cons]
      refine ⟨mil (by omega), ?_⟩
      refine compL_filterT F.int (fun x => decide ((k : Int) + 1 ≤ x)) F.int trivial r _ (fun x hx A N hA hN => ?_) ?_
      · simp at hA hN ⊢
        split
        · exact hA (by omega)
        · exact hN (by omega)
      · rw [List.nil_append]
        simpa [cnt] using q2
    · rw [List.nil_append]
      rw [eM, rowF, List.map_map] at q
      exact q
  cases r with
  | nil =>
    rw [sSeq_ev]
    simp [rowF, -sRet_ev]
    exact key 0 rfl
  | cons x r =>
    have e0 : atI (F.int x :: r.map F.int) 0 = some (F.int x) := atI_cast (n := 0)
    rw [sSeq_ev]
    simp [rowF, -sRet_ev, e0]
    exact key x rfl
def C_sorted_down : Ct := fun xs S Q => ∃ r : List Int, xs = [rowF r] ∧ r.length ≤ 1000 ∧ ∀ ms : List Int, ms.Perm (r.filter fun x => decide (0 < x)) → ms.Pairwise (· ≥ ·) → Q (rowF ms) S
theorem mono_C_sorted_down : MonoC C_sorted_down := fun xs S Q Q' k ⟨v, e, h, q⟩ => ⟨v, e, h, fun ms h1 h2 => k _ _ (q ms h1 h2)⟩
theorem sp_sorted_down (fs : List F) (S : Sto) (Q) (h : C_sorted_down fs S Q) : fs.length = 1 ∧ W_sorted_down { nx := fun _ S' => Q .non S', rt := fun d S' => Q d S' } (startF 2 fs) S := by
  obtain ⟨r, rfl, h1, q⟩ := h
  refine ⟨rfl, ?_⟩
  show W_sorted_down _ [some (rowF r), none] S
  unfold W_sorted_down
  simp [rowF, -compL_cons]
  refine ⟨mil (by omega), ?_⟩
  refine compL_filterT F.int (fun x => decide (0 < x)) F.int trivial r _ (fun x hx A N hA hN => ?_) ?_
  · simp at hA hN ⊢
    split
    · exact hA ‹_›
    · exact hN (by omega)
  · rw [List.nil_append]
    refine ⟨_, rfl, fun ms k1 k2 => ?_⟩
    simpa [rowF] using q ms k1 k2
def heads (r : List Int) (n : Nat) : List Int := (List.range n).map fun k => (r.take (k + 1)).sum
theorem heads_succ (r : List Int) (n : Nat) : heads r (n + 1) = heads r n ++ [(r.take (n + 1)).sum] := by
  unfold heads
  rw [List.range_succ, List.map_append]
  rfl
theorem take_sum (r : List Int) (n : Nat) : (r.take (n + 1)).sum = (r.take n).sum + if n < r.length then r.getD n 0 else 0 := by
  by_cases h : n < r.length
  · rw [if_pos h, List.take_add_one, List.getElem?_eq_getElem h, List.sum_append]
    simp [List.getD, List.getElem?_eq_getElem h]
  · rw [if_neg h, List.take_of_length_le (by omega), List.take_of_length_le (by omega)]
    omega
def C_sums_of : Ct := fun xs S Q => ∃ (r : List Int) (n : Nat), xs = [rowF r, .int n] ∧ r.length ≤ 1000 ∧ n ≤ 1000 ∧ Q (.lst ((heads r n).map F.int)) S
theorem mono_C_sums_of : MonoC C_sums_of := fun xs S Q Q' k ⟨v, n, e, h1, h2, q⟩ => ⟨v, n, e, h1, h2, k _ _ q⟩
theorem restr_updel {S : Sto} {p : Addr} {l : List F} (h : S p = none) : restr S (delS (updS S p l) p) = S := restr_del h fun a ha _ => updS_ne ha
theorem sp_sums_of (fs : List F) (S : Sto) (Q) (h : C_sums_of fs S Q) : fs.length = 2 ∧ W_sums_of { nx := fun _ S' => Q .non (restr S S'), rt := fun d S' => Q d (restr S S') } (startF 5 fs) S := by
  obtain ⟨r, n, rfl, h1, h2, q⟩ := h
  refine ⟨rfl, ?_⟩
  show W_sums_of _ [some (rowF r), some (.int n), none, none, none] S
  unfold W_sums_of
  walk_at "nx"
  intro p hp
  walk_at "nx"
  walk_at "nx"
  refine ⟨by omega, ?_⟩
  refine forL_rng (fun i ρ S' => S' = updS S p ((heads r i).map F.int) ∧ ∃ o4 : Option F, ρ = [some (rowF r), some (.int n), some (.loc p), some (.int (r.take i).sum), o4]) ⟨rfl, _, rfl⟩ (fun _ _ _ _ => trivial)
    (fun i hi ρ S' N ⟨eS, o4, eρ⟩ hN => ?_) (fun ρ S' ⟨eS, o4, eρ⟩ => ?_)
  · subst eS eρ
    have lh : (heads r i).length = i := by simp [heads]
    have fin : ∀ t : Int, t = (r.take (i + 1)).sum → N [some (rowF r), some (.int n), some (.loc p), some (.int t), some (.int i)] (updS S p ((heads r i).map F.int ++ [.int t])) := fun t ht =>
      hN _ _ ⟨by rw [heads_succ, ht, List.map_append]; rfl, some (.int i), by rw [ht]⟩
    rw [take_sum] at fin
    by_cases c : i < r.length
    · rw [if_pos c] at fin
      have e1 : r[i]? = some r[i] := List.getElem?_eq_getElem c
      have e3 : r.getD i 0 = r[i] := by simp [List.getD, e1]
      have c' : (i : Int) < r.length := by omega
      simp [c, ix_row e1, lh, updS_updS]
      refine ⟨by have := mil (n := i + 1) (by omega); omega, fin _ (by rw [e3])⟩
    · rw [if_neg c] at fin
      simp [c, lh, updS_updS]
      refine ⟨by have := mil (n := i + 1) (by omega); omega, ?_⟩
      simpa using fin _ rfl
  · subst eS eρ
    simp
    rw [restr_updel hp]
    exact q
theorem sp_heads (fs : List F) (S : Sto) (Q) (h : C_sums_of fs S Q) : fs.length = 2 ∧ W_heads { nx := fun _ S' => Q .non (restr S S'), rt := fun d S' => Q d (restr S S') } (startF 5 fs) S := by
  obtain ⟨r, n, rfl, h1, h2, q⟩ := h
  refine ⟨rfl, ?_⟩
  show W_heads _ [some (rowF r), some (.int n), none, none, none] S
  unfold W_heads
  walk_at "nx"
  intro p hp
  walk_at "nx"
  refine ⟨by omega, ?_⟩
  refine forL_rng (fun i ρ S' => S' = updS S p ((heads r i).map F.int) ∧ ∃ o4 : Option F, ρ = [some (rowF r), some (.int n), some (.loc p), some (.int (r.take i).sum), o4]) ⟨rfl, _, rfl⟩ (fun _ _ _ _ => trivial)
    (fun i hi ρ S' N ⟨eS, o4, eρ⟩ hN => ?_) (fun ρ S' ⟨eS, o4, eρ⟩ => ?_)
  · subst eS eρ
    have lh : (heads r i).length = i := by simp [heads]
    have fin : ∀ t : Int, t = (r.take (i + 1)).sum → N [some (rowF r), some (.int n), some (.loc p), some (.int t), some (.int i)] (updS S p ((heads r i).map F.int ++ [.int t])) := fun t ht =>
      hN _ _ ⟨by rw [heads_succ, ht, List.map_append]; rfl, some (.int i), by rw [ht]⟩
    rw [take_sum] at fin
    by_cases c : i < r.length
    · rw [if_pos c] at fin
      have e1 : r[i]? = some r[i] := List.getElem?_eq_getElem c
      have e3 : r.getD i 0 = r[i] := by simp [List.getD, e1]
      have c' : (i : Int) < r.length := by omega
      simp [c, ix_row e1, lh, updS_updS]
      refine ⟨by have := mil (n := i + 1) (by omega); omega, fin _ (by rw [e3])⟩
    · rw [if_neg c] at fin
      simp [c, lh, updS_updS]
      refine ⟨by have := mil (n := i + 1) (by omega); omega, ?_⟩
      simpa using fin _ rfl
  · subst eS eρ
    simp
    rw [restr_updel hp]
    exact q
/-! dominance -/
def domB (a b : List Int) : Bool := decide (a.sum = b.sum) && (List.range (max a.length b.length)).all fun k => decide ((b.take (k + 1)).sum ≤ (a.take (k + 1)).sum)
theorem domB_iff {a b : List Int} : domB a b = true ↔ Dom a b := by
  unfold domB Dom
  rw [Bool.and_eq_true, decide_eq_true_eq, List.all_eq_true]
  refine and_congr_right fun he => ⟨fun h m => ?_, fun h k _ => decide_eq_true (h _)⟩
  cases m with
  | zero => simp
  | succ k =>
    by_cases c : k < max a.length b.length
    · exact of_decide_eq_true (h k (List.mem_range.mpr c))
    · rw [List.take_of_length_le (by omega), List.take_of_length_le (by omega), he]
      exact Int.le_refl _
theorem domB_congr {a b c d : List Int} (h : Dom a b ↔ Dom c d) : domB a b = domB c d := by
  rw [Bool.eq_iff_iff, domB_iff, domB_iff, h]
theorem heads_get {r : List Int} {n k : Nat} (h : k < n) : (heads r n)[k]? = some (r.take (k + 1)).sum := by
  unfold heads
  rw [List.getElem?_map, List.getElem?_range h]
  rfl
theorem heads_len (r : List Int) (n : Nat) : (heads r n).length = n := by simp [heads]
def C_dominates : Ct := fun xs S Q => ∃ a b : List Int, xs = [rowF a, rowF b] ∧ a.length ≤ 1000 ∧ b.length ≤ 1000 ∧ Q (.bl (domB a b)) S
theorem mono_C_dominates : MonoC C_dominates := fun xs S Q Q' k ⟨a, b, e, h1, h2, q⟩ => ⟨a, b, e, h1, h2, k _ _ q⟩
theorem max_ite (i j : Nat) : (if i < j then (j : Int) else (i : Int)) = ((max i j : Nat) : Int) := by
  split <;> omega
theorem zipL_heads (a b : List Int) (n : Nat) : zipL ((heads a n).map F.int) ((heads b n).map F.int) = (List.range n).map fun k => F.tup [.int (a.take (k + 1)).sum, .int (b.take (k + 1)).sum] := by
  have gen : ∀ l : List Nat, zipL ((l.map fun k => (a.take (k + 1)).sum).map F.int) ((l.map fun k => (b.take (k + 1)).sum).map F.int) = l.map fun k => F.tup [.int (a.take (k + 1)).sum, .int (b.take (k + 1)).sum] := fun l => by
    induction l with
    | nil => rfl
    | cons x l ih => rw [List.map_cons, List.map_cons, List.map_cons, List.map_cons, zipL, ih, List.map_cons]
  exact gen _
theorem sp_dominates (fs : List F) (S : Sto) (Q) (h : C_dominates fs S Q) : fs.length = 2 ∧ W_dominates C_size_of C_sums_of { nx := fun _ S' => Q .non S', rt := fun d S' => Q d S' } (startF 5 fs) S := by
  obtain ⟨a, b, rfl, h1, h2, q⟩ := h
  refine ⟨rfl, ?_⟩
  show W_dominates _ _ _ [some (rowF a), some (rowF b), none, none, none] S
  unfold W_dominates
  walk_at "nx"
  refine ⟨a, rfl, ?_⟩
  refine ⟨b, rfl, ?_⟩
  simp [-sSeq_ev, -compL_cons, -forL_cons]
  by_cases c : a.sum = b.sum
  · rw [if_pos c]
    have e : domB a b = ((List.range (max a.length b.length)).map fun k => decide ((b.take (k + 1)).sum ≤ (a.take (k + 1)).sum)).all id := by
      unfold domB
      rw [decide_eq_true c, Bool.true_and, List.all_map]
      rfl
    walk_at "nx"
    rw [max_ite]
    refine ⟨a, _, rfl, h1, by omega, ?_⟩
    refine ⟨b, _, rfl, h2, by omega, ?_⟩
    simp [-compL_cons]
    rw [zipL_heads]
    refine ⟨by simpa using mil (by omega), ?_⟩
    refine compL_mapT (fun k : Nat => F.tup [.int (a.take (k + 1)).sum, .int (b.take (k + 1)).sum]) (fun k => .bl (decide ((b.take (k + 1)).sum ≤ (a.take (k + 1)).sum))) trivial _ _ (fun k hk Q2 q2 => ?_) ?_
    · simpa using q2
    · rw [List.nil_append, all_bl, cAll_l, ← e]
      exact q
  · rw [if_neg c]
    have e : domB a b = false := by
      unfold domB
      rw [decide_eq_false c, Bool.false_and]
    rw [e] at q
    exact q
theorem sp_over (fs : List F) (S : Sto) (Q) (h : C_dominates fs S Q) : fs.length = 2 ∧ W_over C_sums_of { nx := fun _ S' => Q .non S', rt := fun d S' => Q d S' } (startF 6 fs) S := by
  obtain ⟨a, b, rfl, h1, h2, q⟩ := h
  refine ⟨rfl, ?_⟩
  show W_over _ _ [some (rowF a), some (rowF b), none, none, none, none] S
  unfold W_over
  walk_at "nx"
  rw [max_ite]
  walk_at "nx"
  refine ⟨a, _, rfl, h1, by omega, ?_⟩
  simp [-sSeq_ev, -compL_cons, -forL_cons]
  refine ⟨b, _, rfl, h2, by omega, ?_⟩
  simp [rowF, -compL_cons]
  by_cases c : a.sum = b.sum
  · rw [if_pos c]
    have e : domB a b = ((List.range (max a.length b.length)).map fun k => decide ((b.take (k + 1)).sum ≤ (a.take (k + 1)).sum)).all id := by
      unfold domB
      rw [decide_eq_true c, Bool.true_and, List.all_map]
      rfl
    refine ⟨by omega, mil (by omega), ?_⟩
    rw [rngL_map]
    refine compL_mapT (fun i : Nat => F.int (0 + (i : Int))) (fun k => .bl (decide ((b.take (k + 1)).sum ≤ (a.take (k + 1)).sum))) trivial _ _ (fun k hk Q2 q2 => ?_) ?_
    · have hk := List.mem_range.mp hk
      have e1 : atI ((heads a (max a.length b.length)).map F.int) (k : Int) = some (.int (a.take (k + 1)).sum) := by rw [atI_cast, List.getElem?_map, heads_get hk]; rfl
      have e2 : atI ((heads b (max a.length b.length)).map F.int) (k : Int) = some (.int (b.take (k + 1)).sum) := by rw [atI_cast, List.getElem?_map, heads_get hk]; rfl
      simp [e1, e2]
      exact q2
    · rw [List.nil_append, all_bl, cAll_l, ← e]
      exact q
  · rw [if_neg c]
    have e : domB a b = false := by
      unfold domB
      rw [decide_eq_false c, Bool.false_and]
    rw [e] at q
    exact q
theorem max_len {a b : Nat} : a ≤ max a b := by omega
def C_columns : Ct := fun xs S Q => ∃ r : List Int, xs = [rowF r] ∧ r.length ≤ 1000 ∧ Part r ∧ r.headD 0 ≤ 1000 ∧ Q (rowF (conj r)) S
theorem mono_C_columns : MonoC C_columns := fun xs S Q Q' k ⟨v, e, h1, h0, h2, q⟩ => ⟨v, e, h1, h0, h2, k _ _ q⟩
theorem sp_columns (fs : List F) (S : Sto) (Q) (h : C_columns fs S Q) : fs.length = 1 ∧ W_columns { nx := fun _ S' => Q .non S', rt := fun d S' => Q d S' } (startF 3 fs) S := by
  obtain ⟨r, rfl, h1, hp, h2, q⟩ := h
  refine ⟨rfl, ?_⟩
  show W_columns _ [some (rowF r), none, none] S
  unfold W_columns
  simp [rowF, -compL_cons]
  refine ⟨mil (by omega), ?_⟩
  rw [show r.map F.int ++ [F.int 0] = (r ++ [0]).map F.int by rw [List.map_append]; rfl]
  refine cMax1_t (by simp) fun M hM hmax => ?_
  have eM : M = r.headD 0 := by
    have hd : 0 ≤ r.headD 0 := by
      cases r with
      | nil => exact Int.le_refl _
      | cons x r => have := hp.2 x (List.mem_cons_self ..); show 0 ≤ x; omega
    have a1 : r.headD 0 ≤ M := hmax _ (by
      cases r with
      | nil => simp
      | cons x r => simp)
    have a2 : M ≤ r.headD 0 := by
      rcases List.mem_append.mp hM with h | h
      · exact head_max hp.1 M h
      · rw [List.mem_singleton.mp h]; exact hd
    omega
  have hd : 0 ≤ M := hmax 0 (by simp)
  rw [← eM] at h2
  have eC : (conj r) = (List.range M.toNat).map fun k : Nat => (cnt ((k : Int) + 1) r : Int) := by rw [eM]; rfl
  simp [-compL_cons]
  refine ⟨⟨by omega, by omega⟩, milI (by omega), ?_⟩
  rw [rngL_map]
  refine compL_mapT (fun i : Nat => F.int (0 + (i : Int))) (fun k : Nat => .int (cnt ((k : Int) + 1) r)) trivial _ _ (fun k hk Q2 q2 => ?_) ?_
  · simp [-compL_cons]
    refine ⟨mil (by omega), ?_⟩
    refine compL_filterT F.int (fun x => decide ((k : Int) + 1 ≤ x)) F.int trivial r _ (fun x hx A N hA hN => ?_) ?_
    · simp at hA hN ⊢
      split
      · exact hA (by omega)
      · exact hN (by omega)
    · rw [List.nil_append]
      simpa [cnt] using q2
  · rw [List.nil_append]
    rw [eC, rowF, List.map_map] at q
    exact q
theorem perm_sum {l m : List Int} (h : l.Perm m) : l.sum = m.sum := by
  induction h with
  | nil => rfl
  | cons x _ ih => rw [List.sum_cons, List.sum_cons, ih]
  | swap x y l => rw [List.sum_cons, List.sum_cons, List.sum_cons, List.sum_cons]; omega
  | trans _ _ h1 h2 => rw [h1, h2]
theorem sum_len {r : List Int} (h : ∀ x ∈ r, 0 < x) : (r.length : Int) ≤ r.sum := by
  induction r with
  | nil => exact Int.le_refl _
  | cons x r ih =>
    have := ih fun y hy => h y (List.mem_cons_of_mem _ hy)
    have := h x (List.mem_cons_self ..)
    rw [List.length_cons, List.sum_cons]
    omega
theorem head_le {r : List Int} (h : ∀ x ∈ r, 0 < x) : 0 ≤ r.headD 0 ∧ r.headD 0 ≤ r.sum := by
  cases r with
  | nil => exact ⟨Int.le_refl _, Int.le_refl _⟩
  | cons x r =>
    have := sum_len fun y hy => h y (List.mem_cons_of_mem _ hy)
    have := h x (List.mem_cons_self ..)
    show 0 ≤ x ∧ x ≤ (x :: r).sum
    rw [List.sum_cons]
    omega
def C_partition : Ct := fun xs S Q => ∃ b c, ∃ n : Nat, xs = [.loc b, .int n] ∧ TapeAt S b c ∧ n ≤ 1000 ∧ ∀ r S', Part r → r.sum = n → TapeAt S' b c → Fr S S' b c → Q (rowF r) S'
theorem mono_C_partition : MonoC C_partition := fun xs S Q Q' k ⟨b, c, n, e, h1, h2, q⟩ => ⟨b, c, n, e, h1, h2, fun r S' h1 h2 h3 h4 => k _ _ (q r S' h1 h2 h3 h4)⟩
theorem sp_partition (fs : List F) (S : Sto) (Q) (h : C_partition fs S Q) : fs.length = 2 ∧ W_partition C_take { nx := fun _ S' => Q .non (restr S S'), rt := fun d S' => Q d (restr S S') } (startF 5 fs) S := by
  obtain ⟨b, c, n, rfl, hb, hn, q⟩ := h
  refine ⟨rfl, ?_⟩
  show W_partition _ _ [some (.loc b), some (.int n), none, none, none] S
  unfold W_partition
  walk_at "nx"
  intro p hp
  have hpb : p ≠ b := fun e => hb.b (by rw [← e]; exact hp)
  have hpc : p ≠ c := fun e => hb.c (by rw [← e]; exact hp)
  refine seq_via (fun ρ S' => TapeAt S' b c ∧ (∀ a, a ≠ b → a ≠ c → a ≠ p → S' a = S a) ∧ ∃ (rs : List Int) (o1 o3 o4 : Option F), S' p = some (rs.map F.int) ∧ (∀ x ∈ rs, 0 < x) ∧ rs.sum = n ∧ ρ = [some (.loc b), o1, some (.loc p), o3, o4]) (fun N hN => ?_) (fun ρ S2 ⟨hb2, f2, rs, o1, o3, o4, hvs, hpos, hsum, eρ⟩ => ?_)
  · refine while_of (fun k ρ S' => TapeAt S' b c ∧ (∀ a, a ≠ b → a ≠ c → a ≠ p → S' a = S a) ∧ ∃ (rs : List Int) (most : Int) (o4 : Option F), S' p = some (rs.map F.int) ∧ (∀ x ∈ rs, 0 < x) ∧ rs.sum + k = n ∧ (k : Int) ≤ most ∧ most ≤ 1000 ∧ ρ = [some (.loc b), some (.int k), some (.loc p), some (.int most), o4]) ?_
      (k := n) ⟨hb.upd hpb hpc, fun a h1 h2 h3 => updS_ne h3, [], n, none, updS_same, fun _ h => (nomatch h), by simp, Int.le_refl _, by omega, rfl⟩
    intro k ρ S' M ⟨hb', f', rs, most, o4, hvs, hpos, hsum, hm1, hm2, eρ⟩ hM
    subst eρ
    have hlen := sum_len hpos
    by_cases hk : 0 < k
    · have emin : ∀ m : Int, (k : Int) ≤ m → (if m < (k : Int) then m else (k : Int)) = k := fun m hm => if_neg (by omega)
      simp [hk, -sSeq_ev, emin most hm1]
      rw [sSeq_ev]
      simp [-sSeq_ev, emin most hm1]
      refine call_take hb' (by omega) (by omega) fun d S3 hd hb3 f3 => ?_
      have fin : ∀ (v : Int) (S4 : Sto), TapeAt S4 b c → Fr S3 S4 b c → 1 ≤ v → v ≤ k → (sSeq (sExpr (wMt mAppend (wVar 2) (wCons (wVar 4) wNil))) (sPar [1, 3] (wCons (wOp oSub (wVar 1) (wVar 4)) (wCons (wVar 1) wNil))))
          { nx := M, rt := fun d S' => Q d (restr S S'), bk := N, ct := M } [some (.loc b), some (.int k), some (.loc p), some (.int most), some (.int v)] S4 := fun v S4 hb4 f4 v1 v2 => by
        have e4 : S4 p = some (rs.map F.int) := by rw [f4 p hpb hpc, f3 p hpb hpc]; exact hvs
        walk_at "nx"
        rw [e4]
        simp
        refine ⟨by have := mil (n := rs.length + 1) (by omega); omega, ?_⟩
        rw [show rs.map F.int ++ [F.int v] = (rs ++ [v]).map F.int by rw [List.map_append]; rfl, show (k : Int) - v = (((k : Int) - v).toNat : Int) by omega]
        refine hM _ _ ((k : Int) - v).toNat (by omega) ⟨hb4.upd hpb hpc, fun a h1 h2 h3 => by rw [updS_ne h3, f4 a h1 h2, f3 a h1 h2]; exact f' a h1 h2 h3, rs ++ [v], k, _, updS_same, fun x hx => ?_, ?_, by omega, by omega, rfl⟩
        · rcases List.mem_append.mp hx with h | h
          · exact hpos x h
          · rw [List.mem_singleton.mp h]; omega
        · rw [List.sum_append]
          simp
          omega
      simp [-sSeq_ev]
      rw [sSeq_ev]
      simp [-sSeq_ev, emin most hm1]
      refine call_take hb3 (by decide) (by decide) fun e S4 he hb4 f4 => ?_
      simp [-sSeq_ev, emin most hm1]
      split
      · refine call_take hb4 (by omega) (by omega) fun g S5 hg hb5 f5 => ?_
        simp [-sSeq_ev]
        have := fin (if 1 + (g : Int) < 1 + (d : Int) then 1 + (g : Int) else 1 + (d : Int)) S5 hb5 (f4.trans f5) (by split <;> omega) (by split <;> omega)
        simpa [-sSeq_ev] using this
      · exact fin (1 + (d : Int)) S4 hb4 f4 (by omega) (by omega)
    · have hk0 : k = 0 := by omega
      subst hk0
      simp
      exact hN _ _ ⟨hb', f', rs, _, _, _, hvs, hpos, by omega, rfl⟩
  subst eρ
  simp [-sSeq_ev, -compL_cons, -forL_cons]
  rw [hvs]
  refine ⟨rs, rfl, fun ms k1 k2 => ?_⟩
  exact q ms _ ⟨k2, fun x hx => hpos x (k1.mem_iff.mp hx)⟩ (by rw [perm_sum k1, hsum]) (hb.restr hb2) (fr_restr fun a h1 h2 h3 => f2 a h1 h2 fun e => h3 (by rw [e]; exact hp))
theorem falls_uniq : ∀ {l m : List Int}, l.Perm m → l.Pairwise (· ≥ ·) → m.Pairwise (· ≥ ·) → l = m
  | [], m, h, _, _ => by rw [List.nil_perm.mp h]
  | x :: l, [], h, _, _ => by cases h.length_eq
  | x :: l, y :: m, h, h1, h2 => by
    have e1 : x ≤ y := by
      rcases List.mem_cons.mp (h.mem_iff.mp (List.mem_cons_self ..)) with e | e
      · omega
      · have : y ≥ x := List.rel_of_pairwise_cons h2 e
        exact this
    have e2 : y ≤ x := by
      rcases List.mem_cons.mp (h.mem_iff.mpr (List.mem_cons_self ..)) with e | e
      · omega
      · have : x ≥ y := List.rel_of_pairwise_cons h1 e
        exact this
    have e : x = y := by omega
    subst e
    rw [falls_uniq (List.Perm.cons_inv h) (List.Pairwise.of_cons h1) (List.Pairwise.of_cons h2)]
theorem sum_rep (n : Nat) : (List.replicate n (1 : Int)).sum = n := by
  induction n with
  | zero => rfl
  | succ n ih => rw [List.replicate_succ, List.sum_cons, ih]; omega
theorem part_one {n : Nat} (h : 0 < n) : Part [(n : Int)] := ⟨List.pairwise_singleton .., fun x hx => by rw [List.mem_singleton.mp hx]; omega⟩
theorem part_rep (n : Nat) : Part (List.replicate n (1 : Int)) := ⟨List.pairwise_replicate.mpr (.inr (Int.le_refl _)), fun x hx => by rw [(List.mem_replicate.mp hx).2]; decide⟩
end DL

set_option maxHeartbeats 4000000
namespace DL
open PySem PySem.Spec PyProof.Rows L2
local macro_rules | `(tactic| walk_at "nx") => `(tactic| ((try dsimp only); rw [sSeq_ev]; (try simp [-sSeq_ev, -compL_cons, -forL_cons])))
/-! all partitions of a number -/
def W_partitions (c__law_partitions : Ct) : WS :=
  (sSeq (sIf (wTst (wOp oEq (wVar 0) (wC (.int 0)))) (sRet (wFrz (wLst (wCons (wTup wNil) wNil)))) sNext)
    (sSeq (sAsg (wOwn (wLst wNil)) (gN 2))
    (sSeq (sFor (wRange2 (wCons (wC (.int 1)) (wCons (wOp oAdd (wCall cMin2 (wCons (wVar 0) (wCons (wVar 1) wNil))) (wC (.int 1))) wNil))) (gN 3) (sExpr (wMt mExtend (wVar 2) (wCons (wFrz (wComp [4] (wIt (wCall c__law_partitions (wCons (wOp oSub (wVar 0) (wVar 3)) (wCons (wVar 3) wNil)))) (gN 4) wYes (wOp oAdd (wTup (wCons (wVar 3) wNil)) (wVar 4)))) wNil))))
    (sRet (wVarFrz 2)))))
def partsF : Nat → Nat → Nat → List (List Int)
  | 0, _, _ => [[]]
  | n + 1, s, m => if s = 0 then [[]] else (List.range (min s m)).flatMap fun i => (partsF n (s - (i + 1)) (i + 1)).map fun r => ((i + 1 : Nat) : Int) :: r
theorem partsF_mem : ∀ {n s m : Nat} {r : List Int}, s ≤ n → (r ∈ partsF n s m ↔ Part r ∧ r.sum = s ∧ r.headD 0 ≤ m)
  | 0, s, m, r, hs => by
    have : s = 0 := by omega
    subst this
    unfold partsF
    rw [List.mem_singleton]
    constructor
    · intro e
      subst e
      exact ⟨⟨List.Pairwise.nil, fun x hx => absurd hx (List.not_mem_nil)⟩, rfl, by simp⟩
    · rintro ⟨hp, h1, _⟩
      have := sum_len hp.2
      exact List.length_eq_zero_iff.mp (by omega)
  | n + 1, s, m, r, hs => by
    unfold partsF
    by_cases c : s = 0
    · subst c
      rw [if_pos rfl, List.mem_singleton]
      constructor
      · intro e
        subst e
        exact ⟨⟨List.Pairwise.nil, fun x hx => absurd hx (List.not_mem_nil)⟩, rfl, by simp⟩
      · rintro ⟨hp, h1, _⟩
        have := sum_len hp.2
        exact List.length_eq_zero_iff.mp (by omega)
    · rw [if_neg c, List.mem_flatMap]
      constructor
      · rintro ⟨i, hi, h⟩
        have hi := List.mem_range.mp hi
        obtain ⟨r', h', rfl⟩ := List.mem_map.mp h
        obtain ⟨h1, h2, h3⟩ := (partsF_mem (by omega)).mp h'
        refine ⟨⟨List.Pairwise.cons (fun y hy => ?_) h1.1, fun x hx => ?_⟩, ?_, ?_⟩
        · have := head_max h1.1 y hy
          show ((i + 1 : Nat) : Int) ≥ y
          omega
        · rcases List.mem_cons.mp hx with e | e
          · rw [e]; omega
          · exact h1.2 x e
        · rw [List.sum_cons, h2]
          omega
        · show ((i + 1 : Nat) : Int) ≤ m
          omega
      · rintro ⟨hp, h1, h2⟩
        cases r with
        | nil => simp at h1; omega
        | cons x r =>
          have hx := hp.2 x (List.mem_cons_self ..)
          have hx2 : x ≤ m := h2
          have hr := sum_len fun y hy => hp.2 y (List.mem_cons_of_mem _ hy)
          rw [List.sum_cons] at h1
          refine ⟨x.toNat - 1, List.mem_range.mpr (by omega), List.mem_map.mpr ⟨r, (partsF_mem (by omega)).mpr ⟨⟨List.Pairwise.of_cons hp.1, fun y hy => hp.2 y (List.mem_cons_of_mem _ hy)⟩, by omega, ?_⟩, ?_⟩⟩
          · cases r with
            | nil => show (0 : Int) ≤ _; omega
            | cons y r =>
              have : x ≥ y := List.rel_of_pairwise_cons hp.1 (List.mem_cons_self ..)
              show y ≤ _
              omega
          · rw [show ((x.toNat - 1 + 1 : Nat) : Int) = x by omega]
theorem nodup_flat {α β : Type} (f : α → List β) : ∀ l : List α, l.Nodup → (∀ x ∈ l, (f x).Nodup) → (∀ x ∈ l, ∀ y ∈ l, ∀ z, z ∈ f x → z ∈ f y → x = y) → (l.flatMap f).Nodup
  | [], _, _, _ => List.Pairwise.nil
  | x :: l, nd, h1, h2 => by
    rw [List.flatMap_cons]
    refine List.nodup_append.mpr ⟨h1 x (List.mem_cons_self ..), nodup_flat f l (List.nodup_cons.mp nd).2 (fun y hy => h1 y (List.mem_cons_of_mem _ hy)) (fun y hy w hw => h2 y (List.mem_cons_of_mem _ hy) w (List.mem_cons_of_mem _ hw)), fun z hz w hw e => ?_⟩
    subst e
    obtain ⟨y, hy, hw⟩ := List.mem_flatMap.mp hw
    have := h2 x (List.mem_cons_self ..) y (List.mem_cons_of_mem _ hy) z hz hw
    subst this
    exact (List.nodup_cons.mp nd).1 hy
theorem partsF_nodup : ∀ (n s m : Nat), (partsF n s m).Nodup
  | 0, s, m => List.pairwise_singleton ..
  | n + 1, s, m => by
    unfold partsF
    split
    · exact List.pairwise_singleton ..
    · refine nodup_flat _ _ List.nodup_range (fun i _ => ?_) (fun i _ j _ r hi hj => ?_)
      · exact List.Pairwise.map _ (fun a b h e => h (List.cons.inj e).2) (partsF_nodup n _ _)
      · obtain ⟨r1, _, rfl⟩ := List.mem_map.mp hi
        obtain ⟨r2, _, e⟩ := List.mem_map.mp hj
        have := (List.cons.inj e).1
        omega
theorem filter_one {α : Type} (p : α → Bool) (x : α) : ∀ l : List α, l.Nodup → x ∈ l → (∀ y ∈ l, p y = true ↔ y = x) → l.filter p = [x]
  | [], _, h, _ => absurd h List.not_mem_nil
  | y :: l, nd, h, hp => by
    rw [List.filter_cons]
    by_cases e : y = x
    · subst e
      rw [if_pos ((hp y (List.mem_cons_self ..)).mpr rfl), List.filter_eq_nil_iff.mpr fun z hz hpz => (List.nodup_cons.mp nd).1 (by rw [← (hp z (List.mem_cons_of_mem _ hz)).mp hpz]; exact hz)]
    · rw [if_neg fun z => e ((hp y (List.mem_cons_self ..)).mp z), filter_one p x l (List.nodup_cons.mp nd).2 ((List.mem_cons.mp h).resolve_left fun z => e z.symm) fun z hz => hp z (List.mem_cons_of_mem _ hz)]
theorem partsF_len : ∀ (n s m : Nat), s ≤ n → (partsF n s m).length ≤ 2 ^ s
  | 0, s, m, h => by
    have : s = 0 := by omega
    subst this
    exact Nat.le_refl _
  | n + 1, s, m, h => by
    unfold partsF
    split
    · exact Nat.two_pow_pos s
    · have gen : ∀ k, k ≤ s → ((List.range k).flatMap fun i => (partsF n (s - (i + 1)) (i + 1)).map fun r => ((i + 1 : Nat) : Int) :: r).length + 2 ^ (s - k) ≤ 2 ^ s := fun k => by
        induction k with
        | zero => intro _; simp
        | succ k ih =>
          intro hk
          have := ih (by omega)
          have l := partsF_len n (s - (k + 1)) (k + 1) (by omega)
          rw [List.range_succ, List.flatMap_append, List.length_append]
          simp only [List.flatMap_cons, List.flatMap_nil, List.append_nil, List.length_map]
          have e : 2 ^ (s - k) = 2 ^ (s - (k + 1)) + 2 ^ (s - (k + 1)) := by
            rw [show s - k = (s - (k + 1)) + 1 by omega, Nat.pow_succ]
            omega
          omega
      have := gen (min s m) (by omega)
      have := Nat.two_pow_pos (s - min s m)
      omega
def flatP (n s i : Nat) : List (List Int) := (List.range i).flatMap fun i => (partsF n (s - (i + 1)) (i + 1)).map fun r => ((i + 1 : Nat) : Int) :: r
theorem flatP_succ (n s i : Nat) : flatP n s (i + 1) = flatP n s i ++ (partsF n (s - (i + 1)) (i + 1)).map fun r => ((i + 1 : Nat) : Int) :: r := by
  unfold flatP
  rw [List.range_succ, List.flatMap_append]
  simp
def C_parts (n : Nat) : Ct := fun xs S Q => ∃ s m : Nat, xs = [.int s, .int m] ∧ s ≤ n ∧ s ≤ 12 ∧ m ≤ 12 ∧ Q (.lst ((partsF n s m).map rowF)) S
theorem mono_C_parts {n : Nat} : MonoC (C_parts n) := fun xs S Q Q' k ⟨s, m, e, h1, h2, h3, q⟩ => ⟨s, m, e, h1, h2, h3, k _ _ q⟩
theorem sp_parts0 (fs : List F) (S : Sto) (Q) (h : C_parts 0 fs S Q) : fs.length = 2 ∧ W_partitions C_never { nx := fun _ S' => Q .non (restr S S'), rt := fun d S' => Q d (restr S S') } (startF 5 fs) S := by
  obtain ⟨s, m, rfl, h1, h2, h3, q⟩ := h
  refine ⟨rfl, ?_⟩
  show W_partitions _ _ [some (.int s), some (.int m), none, none, none] S
  have : s = 0 := by omega
  subst this
  unfold W_partitions
  walk_at "nx"
  rw [restr_eq fun _ _ => rfl]
  exact q
theorem sp_parts (n : Nat) (fs : List F) (S : Sto) (Q) (h : C_parts (n + 1) fs S Q) : fs.length = 2 ∧ W_partitions (C_parts n) { nx := fun _ S' => Q .non (restr S S'), rt := fun d S' => Q d (restr S S') } (startF 5 fs) S := by
  obtain ⟨s, m, rfl, h1, h2, h3, q⟩ := h
  refine ⟨rfl, ?_⟩
  show W_partitions _ _ [some (.int s), some (.int m), none, none, none] S
  unfold W_partitions
  by_cases c : s = 0
  · subst c
    walk_at "nx"
    rw [restr_eq fun _ _ => rfl]
    exact q
  · walk_at "nx"
    rw [if_neg c]
    walk_at "nx"
    intro p hp
    walk_at "nx"
    have emin : (if m < s then (m : Int) else (s : Int)) = ((min s m : Nat) : Int) := by split <;> omega
    rw [emin]
    refine ⟨⟨by omega, by omega⟩, ?_⟩
    rw [rngL_map, List.range_eq_range']
    refine forL_idx (fun i : Nat => F.int (1 + (i : Int))) (min s m) (fun i ρ S' => S' = updS S p ((flatP n s i).map rowF) ∧ (flatP n s i).length ≤ i * 2 ^ 12 ∧ ∃ o3 o4 : Option F, ρ = [some (.int s), some (.int m), some (.loc p), o3, o4])
      (fun _ _ _ _ => trivial) (fun i hi ρ S' N ⟨eS, hl, o3, o4, eρ⟩ hN => ?_) (fun ρ S' ⟨eS, hl, o3, o4, eρ⟩ => ?_) _ 0 _ _ (by omega) ⟨rfl, by simp [flatP], _, _, rfl⟩
    · subst eS eρ
      simp
      rw [restr_updel hp]
      rw [partsF, if_neg c] at q
      exact q
    · subst eS eρ
      have l1 := partsF_len n (s - (i + 1)) (i + 1) (by omega)
      have l2 : 2 ^ (s - (i + 1)) ≤ 2 ^ 12 := Nat.pow_le_pow_right (by decide) (by omega)
      have l3 : i * 2 ^ 12 ≤ 12 * 2 ^ 12 := Nat.mul_le_mul_right _ (by omega)
      have e1 : (1 : Int) + (i : Int) = ((i + 1 : Nat) : Int) := by omega
      simp only [e1]
      have e2 : (s : Int) - ((i + 1 : Nat) : Int) = ((s - (i + 1) : Nat) : Int) := by omega
      simp [-compL_cons, -Int.natCast_add]
      rw [e2]
      refine ⟨s - (i + 1), i + 1, rfl, by omega, by omega, by omega, ?_⟩
      simp [-compL_cons, -Int.natCast_add, updS_same]
      refine ⟨mil (by omega), ?_⟩
      refine compL_mapT rowF (fun r => rowF (((i + 1 : Nat) : Int) :: r)) trivial _ _ (fun r hr Q2 q2 => ?_) ?_
      · have hr2 := (partsF_mem (by omega)).mp hr
        have := sum_len hr2.1.2
        simp [rowF]
        refine ⟨by have := mil (n := r.length + 1) (by omega); omega, ?_⟩
        simpa [rowF] using q2
      · rw [updS_same, List.nil_append]
        dsimp only
        rw [updS_updS]
        have ea : (flatP n s i).map rowF ++ (partsF n (s - (i + 1)) (i + 1)).map (fun r => rowF (((i + 1 : Nat) : Int) :: r)) = (flatP n s (i + 1)).map rowF := by
          rw [flatP_succ, List.map_append, List.map_map]
          rfl
        refine ⟨?_, hN _ _ ⟨by rw [ea], ?_, _, _, rfl⟩⟩
        · rw [List.length_map, List.length_map]
          exact mil (by omega)
        · rw [flatP_succ, List.length_append, List.length_map]
          omega
section
variable {P : Program} {w : World} {K : PySem.W.Frag} {mg : Str → Option Value} {base : Heap}
theorem parts_cal {params : Arguments} {body : List Stmt} {scope : Scope} {f : Addr} {fd : FuncData}
    (ok : ∀ (lv : Nat), ∀ {Crec C : Ct}, Cal P w K mg base lv "_law_partitions" ["size", "most"] Crec → MonoC C → (∀ fs S Q, C fs S Q → fs.length = 2 ∧ W_partitions Crec { nx := fun _ S' => Q .non (restr S S'), rt := fun d S' => Q d (restr S S') } (startF 5 fs) S) → FnD P w K mg base (lv + 1) f fd ["size", "most"] C)
    (F : FunD K "_law_partitions" "_law_partitions" params body scope [] [] f fd) (g : mg "_law_partitions" = some (.ref f)) (b : L2.Binds K fd ["size", "most"] []) : ∀ n, Cal P w K mg base (n + 1) "_law_partitions" ["size", "most"] (C_parts n)
  | 0 => cal_of F g b (ok 0 (cal_never_at 0 F g b) mono_C_parts sp_parts0)
  | n + 1 => cal_of F g b (ok (n + 1) (parts_cal ok F g b n) mono_C_parts (sp_parts n))
end
theorem part_small {r : List Int} (h : Part r) : (r.length : Int) ≤ r.sum ∧ 0 ≤ r.headD 0 ∧ r.headD 0 ≤ r.sum := ⟨sum_len h.2, head_le h.2⟩
theorem fz_rows {l : List (List Int)} (hl : l.length ≤ 1000000) (h : ∀ r ∈ l, r.length ≤ 1000000) : fz (.lst (l.map rowF)) = true := fz_lst_of (by rw [List.length_map]; exact hl) fun x hx => by
  obtain ⟨r, hr, rfl⟩ := List.mem_map.mp hx
  exact fz_row (h r hr)
theorem dep_rows (l : List (List Int)) : dep (.lst (l.map rowF)) ≤ 8 := Nat.le_trans (dep_lst (n := 1) fun x hx => by
  obtain ⟨r, hr, rfl⟩ := List.mem_map.mp hx
  exact dep_row r) (by decide)
end DL

set_option maxHeartbeats 4000000
namespace DL
open PySem PySem.Spec PyProof.Rows L2
/-! ### comprehensions of two clauses -/
def compM (gd : Sto → Prop) (g : DG) (mt : W Bool) (mi1 : W ItD) (g1 : DG) (mt1 : W Bool) (me : W F) (vs1 : List Nat) (ρ : Slots) : List F → List F → Sto → (List F → Sto → Prop) → Prop
  | [], acc, S, Q => gd S ∧ Q acc S
  | x :: r, acc, S, Q => gd S ∧ g x ρ S fun ρ2 S2 => mt ρ2 S2 fun b S3 => if b = true then
      mi1 ρ2 S3 fun it S4 => acc.length + it.items.length ≤ sizeLine ∧ compL it.gd g1 mt1 me (wipeF ρ2 vs1) it.items acc S4 fun acc' S5 => compM gd g mt mi1 g1 mt1 me vs1 ρ r acc' S5 Q
    else compM gd g mt mi1 g1 mt1 me vs1 ρ r acc S3 Q
section
variable {gd : Sto → Prop} {g g1 : DG} {mt mt1 : W Bool} {mi mi1 : W ItD} {me : W F} {vs1 : List Nat}
theorem mono_compM (hg : MonoG g) (ht : Mono mt) (hi1 : Mono mi1) (hg1 : MonoG g1) (ht1 : Mono mt1) (he : Mono me) {ρ : Slots} {Q Q' : List F → Sto → Prop} (k : ∀ d S', Q d S' → Q' d S') :
    ∀ (xs acc : List F) (S : Sto), compM gd g mt mi1 g1 mt1 me vs1 ρ xs acc S Q → compM gd g mt mi1 g1 mt1 me vs1 ρ xs acc S Q'
  | [], acc, S, h => ⟨h.1, k _ _ h.2⟩
  | x :: r, acc, S, h => ⟨h.1, hg _ _ _ _ _ (fun ρ2 S2 h => ht _ _ _ _ (fun b S3 h => by
    cases b with
    | true => exact hi1 _ _ _ _ (fun it S4 h => ⟨h.1, mono_compL hg1 ht1 he (fun d S' h => mono_compM hg ht hi1 hg1 ht1 he k r _ _ h) _ _ _ h.2⟩) h
    | false => exact mono_compM hg ht hi1 hg1 ht1 he k r _ _ h) h) h.2⟩
def wComp2 (own vs1 : List Nat) (mi : W ItD) (g : DG) (mt : W Bool) (mi1 : W ItD) (g1 : DG) (mt1 : W Bool) (me : W F) : W (List F) := fun ρ S Q => mi ρ S fun it S1 => compM it.gd g mt mi1 g1 mt1 me vs1 (wipeF ρ own) it.items [] S1 Q
theorem mono_wComp2 {own : List Nat} (hi : Mono mi) (hg : MonoG g) (ht : Mono mt) (hi1 : Mono mi1) (hg1 : MonoG g1) (ht1 : Mono mt1) (he : Mono me) : Mono (wComp2 own vs1 mi g mt mi1 g1 mt1 me) := fun _ _ _ _ k h =>
  hi _ _ _ _ (fun it S1 h => mono_compM hg ht hi1 hg1 ht1 he k _ _ _ h) h
theorem comp2_in {K : PySem.W.Frag} {own : List Nat} (hi : Mono mi) (hg : MonoG g) (ht : Mono mt) (hi1 : Mono mi1) (hg1 : MonoG g1) (ht1 : Mono mt1) (he : Mono me) {σ : Sig} {H : Hp} {Q : VK} (h : tL K (wComp2 own vs1 mi g mt mi1 g1 mt1 me) σ H Q) :
    tLc2 (tI K mi) (tG K own g) (tB2 K mt) (tI K mi1) (tG K vs1 g1) (tB2 K mt1) (tD K me) own vs1 σ H Q := by
  obtain ⟨ρ, S, Z, r, R, h⟩ := h
  refine ⟨ρ, S, Z, r, R, hi _ _ _ _ (fun it S1 p J Z1 H1 e1 R1 wk D hD => ?_) h⟩
  have hD0 : H D = none := e1.d D hD
  refine ⟨fun i m Hc => ∃ Z2 S2 accV acc, m = it.items.length - i ∧ i ≤ it.items.length ∧ RelS K Z2 S2 Hc ∧ Ext Z S H Z2 S2 Hc ∧ (∀ a o, Z1 a = some o → Z2 a = some o) ∧ Hc D = some (.lst accV) ∧ Z2 D = none ∧ S2 D = none ∧ Dens K Z2 accV acc ∧
      compM it.gd g mt mi1 g1 mt1 me vs1 (wipeF ρ own) (it.items.drop i) acc S2 (LFin K Z S H Q), ⟨_, Z1, S1, [], [], rfl, Nat.zero_le _, R1.build (R1.nz hD) (R1.ns hD) _, e1.build hD0 _, fun _ _ q => q, upd_same, R1.nz hD, R1.ns hD, .nil, p⟩, ?_⟩
  rintro i m Hc ⟨Z2, S2, accV, acc, rfl, hi2, R2, e2, z12, hDc, hZ2, hS2, dacc, p⟩
  by_cases hlt : i < it.items.length
  · have hx : it.items[i]? = some it.items[i] := List.getElem?_eq_getElem hlt
    rw [List.drop_eq_getElem_cons hlt] at p
    obtain ⟨gdS, p⟩ := p
    obtain ⟨go, yl⟩ := wk.go Z2 S2 Hc i _ z12 R2 gdS hx
    refine .inr ⟨go, _, fun H' q => q, fun x H3 y => ?_⟩
    obtain ⟨Z3, e3, R3, d3⟩ := yl x H3 y
    refine ⟨_, wipeF ρ own, S2, Z3, ((r.ext (e2.trans e3).z).wipe own), R3, d3, hg _ _ _ _ _ (fun ρ4 S4 p σ4 Z4 H4 a4 e4 r4 R4 => ?_) p⟩
    refine ⟨wipe_agree a4, ρ4, S4, Z4, r4, R4, ht _ _ _ _ (fun b S5 p Z5 H5 e5 R5 => ?_) p⟩
    have ee5 := e3.trans (e4.trans e5)
    cases b with
    | true =>
      rw [if_pos rfl] at p
      refine iteT ?_
      refine ⟨ρ4, S5, Z5, r4.ext e5.z, R5, hi1 _ _ _ _ (fun it1 S6 p J1 Z6 H6 e6 R6 wk1 => ?_) p⟩
      obtain ⟨hlen, p⟩ := p
      have ee6 := ee5.trans e6
      obtain ⟨q1, q2, q3⟩ := ee6.h D _ hDc hS2
      refine ⟨fun j k Hd => ∃ Z7 S7 accV7 acc7, k = it1.items.length - j ∧ j ≤ it1.items.length ∧ RelS K Z7 S7 Hd ∧ Ext Z S H Z7 S7 Hd ∧ (∀ a o, Z6 a = some o → Z7 a = some o) ∧ Hd D = some (.lst accV7) ∧ Z7 D = none ∧ S7 D = none ∧ Dens K Z7 accV7 acc7 ∧ acc7.length + (it1.items.length - j) ≤ sizeLine ∧
          compL it1.gd g1 mt1 me (wipeF ρ4 vs1) (it1.items.drop j) acc7 S7 fun acc' S8 => compM it.gd g mt mi1 g1 mt1 me vs1 (wipeF ρ own) (it.items.drop (i + 1)) acc' S8 (LFin K Z S H Q),
        ⟨_, Z6, S6, accV, acc, rfl, Nat.zero_le _, R6, e2.trans ee6, fun _ _ q => q, q1, q3.trans hZ2, q2, dacc.ext ee6.z, by omega, p⟩, ?_⟩
      rintro j k Hd ⟨Z7, S7, accV7, acc7, rfl, hj2, R7, e7, z67, hDd, hZ7, hS7, dacc7, hal, p⟩
      by_cases hlt1 : j < it1.items.length
      · have hx1 : it1.items[j]? = some it1.items[j] := List.getElem?_eq_getElem hlt1
        rw [List.drop_eq_getElem_cons hlt1] at p
        obtain ⟨gdS1, p⟩ := p
        obtain ⟨go1, yl1⟩ := wk1.go Z7 S7 Hd j _ z67 R7 gdS1 hx1
        refine .inr ⟨go1, _, fun H' q => q, fun x1 H8 y1 => ?_⟩
        obtain ⟨Z8, e8, R8, d8⟩ := yl1 x1 H8 y1
        have z58 : ∀ a o, Z5 a = some o → Z8 a = some o := fun a o q => e8.z a o (z67 a o (e6.z a o q))
        refine ⟨_, wipeF ρ4 vs1, S7, Z8, (((r4.ext e5.z).ext z58).wipe vs1), R8, d8, hg1 _ _ _ _ _ (fun ρ9 S9 p σ9 Z9 H9 a9 e9 r9 R9 => ?_) p⟩
        refine ⟨wipe_agree a9, ρ9, S9, Z9, r9, R9, ht1 _ _ _ _ (fun b S10 p Z10 H10 e10 R10 => ?_) p⟩
        cases b with
        | true =>
          rw [if_pos rfl] at p
          refine iteT ?_
          refine ⟨ρ9, S10, Z10, r9.ext e10.z, R10, he _ _ _ _ (fun yv S11 p v11 Z11 H11 e11 R11 d11 => ?_) p⟩
          have ee := e8.trans (e9.trans (e10.trans e11))
          obtain ⟨k1, k2, k3⟩ := ee.h D _ hDd hS7
          have dl := dacc7.length
          have k3' := k3.trans hZ7
          refine ⟨accV7, k1, by omega, it1.items.length - (j + 1), by omega, Z11, S11, accV7 ++ [v11], acc7 ++ [yv], rfl, by omega, R11.build k3' k2 _, (e7.trans ee).build hD0 _, fun a o q => ee.z a o (z67 a o q), upd_same, k3', k2, (dacc7.ext ee.z).append (.cons d11 .nil), by rw [List.length_append]; simp only [List.length_cons, List.length_nil]; omega, p⟩
        | false =>
          rw [if_neg Bool.false_ne_true] at p
          refine iteF ?_
          have ee := e8.trans (e9.trans e10)
          obtain ⟨k1, k2, k3⟩ := ee.h D _ hDd hS7
          exact ⟨it1.items.length - (j + 1), by omega, Z10, S10, accV7, acc7, rfl, by omega, R10, e7.trans ee, fun a o q => ee.z a o (z67 a o q), k1, k3.trans hZ7, k2, dacc7.ext ee.z, by omega, p⟩
      · have ej : j = it1.items.length := by omega
        subst ej
        rw [List.drop_length] at p
        obtain ⟨gdS1, p⟩ := p
        refine .inl ⟨wk1.stop Z7 S7 Hd _ z67 R7 gdS1 (Nat.le_refl _), it.items.length - (i + 1), by omega, Z7, S7, accV7, acc7, rfl, by omega, R7, e7, fun a o q => z67 a o (ee6.z a o (z12 a o q)), hDd, hZ7, hS7, dacc7, p⟩
    | false =>
      rw [if_neg Bool.false_ne_true] at p
      refine iteF ?_
      obtain ⟨k1, k2, k3⟩ := ee5.h D _ hDc hS2
      exact ⟨it.items.length - (i + 1), by omega, Z5, S5, accV, acc, rfl, by omega, R5, e2.trans ee5, fun a o q => ee5.z a o (z12 a o q), k1, k3.trans hZ2, k2, dacc.ext ee5.z, p⟩
  · have ei : i = it.items.length := by omega
    subst ei
    rw [List.drop_length] at p
    obtain ⟨gdS, p⟩ := p
    exact .inl ⟨wk.stop Z2 S2 Hc _ z12 R2 gdS (Nat.le_refl _), p D accV Z2 Hc e2 R2 hD0 hDc hZ2 hS2 dacc⟩
end
section
variable {X : Cx} {elt iter tg iter1 tg1 : Expr} {ifs ifs1 : List Expr} {scope : Scope} {pos : Pos}
theorem pl_lc2 {own : List (Str × Nat)} {vs1 : List Nat} {mi mi1 : W ItD} {g g1 : DG} {mt mt1 : W Bool} {me : W F} (hc : X.calm = true) (hN : X.N.Nodup) (hi : PID X tg iter mi) (ok : BlkOk X.N X.env.scope scope own) (hv : ∀ i ∈ vs1, i ∈ own.map (·.2))
    (hg : ∀ (s : Shared) (H : Hp) (C : Addr) (cl : List (Str × Addr)) (fp : List Addr), PGD (X.blk s H scope (compEnvC scope cl C X.env) fp) (own.map (·.2)) tg g) (ht : ∀ (s : Shared) (H : Hp) (C : Addr) (cl : List (Str × Addr)) (fp : List Addr), PTsD (X.blk s H scope (compEnvC scope cl C X.env) fp) ifs mt)
    (hi1 : ∀ (s : Shared) (H : Hp) (C : Addr) (cl : List (Str × Addr)) (fp : List Addr), PID (X.blk s H scope (compEnvC scope cl C X.env) fp) tg1 iter1 mi1)
    (hg1 : ∀ (s : Shared) (H : Hp) (C : Addr) (cl : List (Str × Addr)) (fp : List Addr), PGD (X.blk s H scope (compEnvC scope cl C X.env) fp) vs1 tg1 g1) (ht1 : ∀ (s : Shared) (H : Hp) (C : Addr) (cl : List (Str × Addr)) (fp : List Addr), PTsD (X.blk s H scope (compEnvC scope cl C X.env) fp) ifs1 mt1)
    (he : ∀ (s : Shared) (H : Hp) (C : Addr) (cl : List (Str × Addr)) (fp : List Addr), PD (X.blk s H scope (compEnvC scope cl C X.env) fp) elt me) (hs : ∀ x, foldedSetIterable iter X.env x = pure x := by intro _; rfl) (hs1 : ∀ env x, foldedSetIterable iter1 env x = pure x := by intro _ _; rfl) :
    PL X (.ListComp elt [⟨tg, iter, ifs, 0⟩, ⟨tg1, iter1, ifs1, 0⟩] scope pos) (wComp2 (own.map (·.2)) vs1 mi g mt mi1 g1 mt1 me) :=
  have s0 : Shared := X.s_0
  ⟨mono_wComp2 hi.mono (hg s0 X.H_0 0 [] []).mono (ht s0 X.H_0 0 [] []).mono (hi1 s0 X.H_0 0 [] []).mono (hg1 s0 X.H_0 0 [] []).mono (ht1 s0 X.H_0 0 [] []).mono (he s0 X.H_0 0 [] []).mono,
   weakE (pe_lc2 hc hN hi.run ok hv (fun s H C cl fp => (hg s H C cl fp).run) (fun s H C cl fp => (ht s H C cl fp).run) (fun s H C cl fp => (hi1 s H C cl fp).run) (fun s H C cl fp => (hg1 s H C cl fp).run) (fun s H C cl fp => (ht1 s H C cl fp).run) (fun s H C cl fp => (he s H C cl fp).run) hs hs1)
    fun _ _ _ h => comp2_in hi.mono (hg s0 X.H_0 0 [] []).mono (ht s0 X.H_0 0 [] []).mono (hi1 s0 X.H_0 0 [] []).mono (hg1 s0 X.H_0 0 [] []).mono (ht1 s0 X.H_0 0 [] []).mono (he s0 X.H_0 0 [] []).mono h⟩
end
section
variable {own vs1 : List Nat} {mi mi1 : W ItD} {g g1 : DG} {mt mt1 : W Bool} {me : W F} {ρ : Slots} {S : Sto} {QL : List F → Sto → Prop}
@[simp, simp ↓] theorem wComp2_ev : wComp2 own vs1 mi g mt mi1 g1 mt1 me ρ S QL = mi ρ S fun it S1 => compM it.gd g mt mi1 g1 mt1 me vs1 (wipeF ρ own) it.items [] S1 QL := (rfl)
/-- an outer walk whose turns keep the store: each adds its items -/
theorem compM_map {α : Type} {gd : Sto → Prop} (hgd : gd S) (e : α → F) (f : α → List F) : ∀ (xs : List α) (acc : List F), (∀ x, x ∈ xs → ∀ (acc : List F) (N : List F → Sto → Prop), N (acc ++ f x) S → g (e x) ρ S fun ρ2 S2 => mt ρ2 S2 fun b S3 => if b = true then
      mi1 ρ2 S3 fun it S4 => acc.length + it.items.length ≤ sizeLine ∧ compL it.gd g1 mt1 me (wipeF ρ2 vs1) it.items acc S4 N else N acc S3) →
    QL (acc ++ xs.flatMap f) S → compM gd g mt mi1 g1 mt1 me vs1 ρ (xs.map e) acc S QL
  | [], acc, _, q => ⟨hgd, by simpa using q⟩
  | x :: r, acc, ht, q => ⟨hgd, ht x (List.mem_cons_self ..) acc _ (compM_map hgd e f r (acc ++ f x) (fun y hy => ht y (List.mem_cons_of_mem _ hy)) (by rw [List.flatMap_cons] at q; rw [List.append_assoc]; exact q))⟩
end
theorem compM_mapB {α : Type} {g g1 : DG} {mt mt1 : W Bool} {mi1 : W ItD} {me : W F} {vs1 : List Nat} {ρ : Slots} {S : Sto} {QL : List F → Sto → Prop} {gd : Sto → Prop} (hgd : gd S) (B : Nat) (e : α → F) (f : α → List F) : ∀ (xs : List α) (acc : List F), acc.length + (xs.flatMap f).length ≤ B →
    (∀ x, x ∈ xs → ∀ (acc : List F) (N : List F → Sto → Prop), acc.length ≤ B → N (acc ++ f x) S → g (e x) ρ S fun ρ2 S2 => mt ρ2 S2 fun b S3 => if b = true then
      mi1 ρ2 S3 fun it S4 => acc.length + it.items.length ≤ sizeLine ∧ compL it.gd g1 mt1 me (wipeF ρ2 vs1) it.items acc S4 N else N acc S3) →
    QL (acc ++ xs.flatMap f) S → compM gd g mt mi1 g1 mt1 me vs1 ρ (xs.map e) acc S QL
  | [], acc, _, _, q => ⟨hgd, by simpa using q⟩
  | x :: r, acc, hB, ht, q => by
    rw [List.flatMap_cons, List.length_append] at hB
    exact ⟨hgd, ht x (List.mem_cons_self ..) acc _ (by omega) (compM_mapB hgd B e f r (acc ++ f x) (by rw [List.length_append]; omega) (fun y hy => ht y (List.mem_cons_of_mem _ hy)) (by rw [List.flatMap_cons] at q; rw [List.append_assoc]; exact q))⟩
/-- the items of a list that was just set -/
@[simp] theorem onIt_upd {S : Sto} {a : Addr} {l : List F} {Q : ItD → Sto → Prop} : onIt (updS S a l) (.loc a) Q = Q ⟨l, fun S' => S' a = some l⟩ (updS S a l) := by
  unfold onIt itOf
  dsimp only
  rw [updS_same]
  rfl
end DL

set_option maxHeartbeats 4000000
namespace HT
open PySem PySem.Spec PyProof.Rows L2
/-! ### sorted of data, any number of items -/
theorem each_vals : ∀ {us : List Value} {ps : List (V × PyData)}, Vals (ps.map Prod.fst) us → PySem.W.EachIs (fun u (p : V × PyData) => RelV p.1 u) us ps
  | _, [], h => by cases h; exact .nil
  | _, p :: ps, h => by
    cases h with
    | cons h1 h2 => exact .cons h1 (each_vals h2)
theorem vals_each : ∀ {us : List Value} {ps : List (V × PyData)}, PySem.W.EachIs (fun u (p : V × PyData) => RelV p.1 u) us ps → Vals (ps.map Prod.fst) us
  | _, _, .nil => .nil
  | _, _, .cons h1 h2 => .cons h1 (vals_each h2)
section
variable {X : Cx}
theorem each_reads {pins : List (Addr × Obj)} {σ : L2.St} {H : Hp} {s : Shared} (I : Inv X pins σ H s) : ∀ {us : List Value} {ps : List (V × PyData)}, Vals (ps.map Prod.fst) us → (∀ p ∈ ps, Dp X.K H p.1 p.2) → PySem.W.EachIs (fun u (p : V × PyData) => ∃ as, Reads s.heap u p.2 as) us ps
  | _, [], h, _ => by cases h; exact .nil
  | _, p :: ps, h, hp => by
    cases h with
    | cons h1 h2 => exact .cons (Dp.reads I p.2 p.1 _ (hp p (List.mem_cons_self ..)) h1) (each_reads I h2 fun q hq => hp q (List.mem_cons_of_mem _ hq))
def rSortD (K : PySem.W.Frag) : List V → Hp → VK → Prop := fun vs H Q => ∃ (a : Addr) (ps : List (V × PyData)), vs = [V.ref a] ∧ SqL K H a (ps.map Prod.fst) ∧ (∀ p ∈ ps, Dp K H p.1 p.2 ∧ p.2.depth ≤ 62) ∧ PySem.W.AllAlike (ps.map Prod.snd) ∧ PySem.W.Sortable (ps.map Prod.snd) ∧
  ∀ q : Addr, H q = none → Q (.ref q) (upd H q (.lst ((ps.mergeSort (PySem.W.dataLe false Prod.snd)).map Prod.fst)))
theorem cr_sortD (hu : X.A.units + 65 < cLine) : CallR X (.builtin "sorted") (rSortD X.K) := by
  intro pins s σ H vs us Q I r h
  obtain ⟨a, ps, rfl, hs, hp, hal, hk, q⟩ := h
  obtain ⟨its, rv, hl, hz⟩ := I.list hs
  rw [Vals.ref1 r]
  rw [List.length_map] at hz
  refine PySem.W.sorted_data (β := V × PyData) (enc := Prod.snd) (R := fun u p => RelV p.1 u) hl.isList (each_vals rv) (each_reads I rv fun p h => (hp p h).1) hal hk hz (fun p h => by have := (hp p h).2; omega) fun out hlen ho => ?_
  obtain ⟨ep, he'⟩ := PyProof.Rows.sortedAll_at s.heap its out.toArray
  have hv := vals_each ho
  have hlen' : ((ps.mergeSort (PySem.W.dataLe false Prod.snd)).map Prod.fst).length ≤ sizeLine := by rw [List.length_map, List.length_mergeSort]; exact hz
  exact ⟨.ref _, upd H (s.heap.objs.size + 1) (.lst ((ps.mergeSort (PySem.W.dataLe false Prod.snd)).map Prod.fst)), I.laid (t' := s.toks) (fun _ _ => PyProof.Rows.sortedAll_old) (Nat.le_succ _) ⟨hlen', out, ep, hv, he'⟩, rfl, q _ (I.hok.fresh (Nat.le_succ _))⟩
end
section
variable {X : Cx}
def rMinD (K : PySem.W.Frag) : List V → Hp → VK → Prop := fun vs H Q => ∃ (a : Addr) (ps : List (V × PyData)), vs = [V.ref a] ∧ SqL K H a (ps.map Prod.fst) ∧ (∀ p ∈ ps, Dp K H p.1 p.2 ∧ p.2.depth ≤ 62) ∧ PySem.W.AlikeAll (ps.map Prod.snd) ∧ ps ≠ [] ∧
  ∀ p ∈ ps, (∃ d ds, ps.map Prod.snd = d :: ds ∧ p.2 = PySem.W.minD d ds) → Q p.1 H
theorem dpAll_of {K : PySem.W.Frag} {H : Hp} : ∀ {ps : List (V × PyData)}, (∀ p ∈ ps, Dp K H p.1 p.2) → DpAll K H (ps.map Prod.fst) (ps.map Prod.snd)
  | [], _ => .nil
  | p :: ps, h => .cons (h p (List.mem_cons_self ..)) (dpAll_of fun q hq => h q (List.mem_cons_of_mem _ hq))
theorem depthAll_le {n : Nat} : ∀ {ds : List PyData}, (∀ d ∈ ds, d.depth ≤ n) → PyData.depthAll ds ≤ n
  | [], _ => by rw [PyData.depthAll]; exact Nat.zero_le _
  | d :: ds, h => by
    rw [PyData.depthAll]
    exact Nat.max_le.mpr ⟨h d (List.mem_cons_self ..), depthAll_le fun e he => h e (List.mem_cons_of_mem _ he)⟩
theorem cr_minD (hc : X.calm = true) (hu : X.A.units + 65 < cLine) : CallR X (.builtin "min") (rMinD X.K) := by
  intro pins s σ H vs us Q I r h
  obtain ⟨a, ps, rfl, hs, hp, hal, hne, q⟩ := h
  obtain ⟨its, rv, hl, hz⟩ := I.list hs
  rw [Vals.ref1 r]
  obtain ⟨as, ra⟩ := Dp.readsAll I _ _ _ (dpAll_of fun p h => (hp p h).1) rv
  obtain ⟨p0, ps', rfl⟩ := List.exists_cons_of_ne_nil hne
  have hd : PyData.depthAll (p0.2 :: ps'.map Prod.snd) ≤ 62 := depthAll_le fun d hd => by
    obtain ⟨p, hp', rfl⟩ := List.mem_map.mp (show d ∈ (p0 :: ps').map Prod.snd from hd)
    exact (hp p hp').2
  refine PySem.W.min_list_data (vs := its.toArray) (I.ok.hd hc) hl.isList (x := p0.2) (xs := ps'.map Prod.snd) ra hal (by omega) fun i v h' tk bs hv rd hk => ?_
  have hv : its[i]? = some v := by simpa using hv
  have hlen := rv.length
  rw [List.length_map] at hlen
  have hi : i < (p0 :: ps').length := by
    have := (List.getElem?_eq_some_iff.mp hv).1
    omega
  have e1 : ((p0 :: ps').map Prod.fst)[i]? = some (p0 :: ps')[i].1 := by rw [List.getElem?_map, List.getElem?_eq_getElem hi]; rfl
  obtain ⟨u, hu', ru⟩ := rv.get e1
  rw [hv] at hu'
  cases hu'
  have hm : (p0 :: ps')[i] ∈ p0 :: ps' := List.getElem_mem hi
  obtain ⟨as', rd0⟩ := Dp.reads I _ _ _ (hp _ hm).1 ru
  obtain ⟨ee, _⟩ := PyProof.Rows.reads_det (fun b o e _ => hk b o e) rd0 rd
  exact ⟨_, H, I.kept hk, ru, q _ hm ⟨_, _, rfl, ee.symm⟩⟩
end
end HT
namespace DL
open PySem PySem.Spec PyProof.Rows L2
def leF (a b : F) : Bool := PySem.W.dataLe false py a b
def cSortD : DCallL := fun xs S Q => match xs with
  | [x] => (match listR S x with | some fs => (∀ f ∈ fs, fz f = true ∧ dep f ≤ 60) ∧ PySem.W.AllAlike (fs.map py) ∧ PySem.W.Sortable (fs.map py) ∧ Q (fs.mergeSort leF) S | none => False)
  | _ => False
theorem dens_zip {K : PySem.W.Frag} {Z : Hp} : ∀ {us : List V} {fs : List F}, Dens K Z us fs → (us.zip fs).map Prod.fst = us ∧ (us.zip fs).map Prod.snd = fs ∧ ∀ p ∈ us.zip fs, Den K Z p.1 p.2
  | _, _, .nil => ⟨rfl, rfl, fun _ h => (nomatch h)⟩
  | _, _, .cons h1 h2 => by
    obtain ⟨a, b, c⟩ := dens_zip h2
    refine ⟨by rw [List.zip_cons_cons, List.map_cons, a], by rw [List.zip_cons_cons, List.map_cons, b], fun p hp => ?_⟩
    rw [List.zip_cons_cons] at hp
    rcases List.mem_cons.mp hp with e | e
    · rw [e]; exact h1
    · exact c p e
theorem dens_of {K : PySem.W.Frag} {Z : Hp} : ∀ {qs : List (V × F)}, (∀ p ∈ qs, Den K Z p.1 p.2) → Dens K Z (qs.map Prod.fst) (qs.map Prod.snd)
  | [], _ => .nil
  | p :: qs, h => .cons (h p (List.mem_cons_self ..)) (dens_of fun q hq => h q (List.mem_cons_of_mem _ hq))
theorem c_sortD {X : Cx} (hu : X.A.units + 65 < cLine) : CallL X (.builtin "sorted") cSortD := by
  refine ⟨fun xs S Q Q' k h => ?_, callWeak (HT.cr_sortD hu) fun vs H Q ⟨ds, S, Z, dv, R, h⟩ => ?_⟩
  · unfold cSortD at h ⊢
    split at h
    · split at h
      · obtain ⟨h1, h2, h3, q⟩ := h
        exact ⟨h1, h2, h3, k _ _ q⟩
      · exact h.elim
    · exact h.elim
  · unfold cSortD at h
    split at h
    · obtain ⟨v, rfl, d⟩ := dens1 dv
      split at h
      · rename_i fs e0
        obtain ⟨h1, h2, h3, q⟩ := h
        obtain ⟨a, us, rfl, g1, g2⟩ := listR_of R d e0
        obtain ⟨z1, z2, z3⟩ := dens_zip g2
        have m1 : ((us.zip fs).map fun p => (p.1, py p.2)).map Prod.fst = us := by rw [List.map_map]; exact z1
        have m2 : ((us.zip fs).map fun p => (p.1, py p.2)).map Prod.snd = fs.map py := by
          rw [List.map_map]
          have : (Prod.snd ∘ fun p : V × F => (p.1, py p.2)) = py ∘ Prod.snd := rfl
          rw [this, ← List.map_map, z2]
        have s1 : ((us.zip fs).mergeSort fun p q => leF p.2 q.2).map (fun p : V × F => (p.1, py p.2)) = ((us.zip fs).map fun p => (p.1, py p.2)).mergeSort (PySem.W.dataLe false Prod.snd) := List.map_mergeSort fun a _ b _ => rfl
        have s2 : ((us.zip fs).mergeSort fun p q => leF p.2 q.2).map Prod.snd = fs.mergeSort leF := by
          rw [List.map_mergeSort (s := leF) fun a _ b _ => rfl, z2]
        refine ⟨a, (us.zip fs).map fun p => (p.1, py p.2), rfl, by rw [m1]; exact g1, fun p hp => ?_, by rw [m2]; exact h2, by rw [m2]; exact h3, fun q' np => ?_⟩
        · obtain ⟨p0, hp0, rfl⟩ := List.mem_map.mp hp
          have hf : p0.2 ∈ fs := by rw [← z2]; exact List.mem_map.mpr ⟨p0, hp0, rfl⟩
          obtain ⟨f1, f2⟩ := h1 _ hf
          exact ⟨(z3 p0 hp0).dp R (can_of _ f1), by have := depth_of _ f1; show (py p0.2).depth ≤ 62; omega⟩
        · rw [← s1, List.map_map]
          rw [← s2] at q
          have dn := dens_of (qs := (us.zip fs).mergeSort fun p q => leF p.2 q.2) fun p hp => z3 p (List.mem_mergeSort.mp hp)
          exact lfin_new .refl R np dn q
      · exact h.elim
    · exact h.elim
/-! rows of ints in order -/
def leR (a b : List Int) : Bool := decide (a ≤ b)
theorem py_row (r : List Int) : py (rowF r) = .tuple (r.map .int) := by
  unfold rowF
  rw [py]
  congr 1
  induction r with
  | nil => rfl
  | cons x r ih => rw [List.map_cons, pyL, ih]; rfl
theorem leF_row (a b : List Int) : leF (rowF a) (rowF b) = leR a b := by
  show (!PySem.W.dataLt (py (rowF b)) (py (rowF a))) = _
  rw [py_row, py_row, PySem.W.dataLt_tuple]
  have := PySem.W.dataLt_ints b a
  unfold PySem.W.rowLt at this
  rw [this]
  unfold leR
  rw [Bool.eq_iff_iff]
  simp
theorem cSortD_rows {x : F} {rs : List (List Int)} {S : Sto} {QL : List F → Sto → Prop} (hx : listR S x = some (rs.map rowF)) (h : ∀ r ∈ rs, r ≠ [] ∧ r.length ≤ 1000000) (q : QL ((rs.mergeSort leR).map rowF) S) : cSortD [x] S QL := by
  show match listR S x with | some fs => _ | none => False
  rw [hx]
  refine ⟨fun f hf => ?_, ?_, ?_, ?_⟩
  · obtain ⟨r, hr, rfl⟩ := List.mem_map.mp hf
    exact ⟨fz_row (h r hr).2, Nat.le_trans (dep_row r) (by decide)⟩
  · intro d hd d' hd'
    simp only [List.map_map, List.mem_map] at hd hd'
    obtain ⟨r, _, rfl⟩ := hd
    obtain ⟨r', _, rfl⟩ := hd'
    show PySem.W.alike (py (rowF r)) (py (rowF r')) = true
    rw [py_row, py_row]
    simp only [PySem.W.alike]
    exact PySem.W.alike_ints r r'
  · refine .inl fun d hd => ?_
    simp only [List.map_map, List.mem_map] at hd
    obtain ⟨r, hr, rfl⟩ := hd
    show ∃ x t, py (rowF r) = .tuple (x :: t)
    rw [py_row]
    cases r with
    | nil => exact absurd rfl (h [] hr).1
    | cons x r => exact ⟨_, _, rfl⟩
  · have : (rs.map rowF).mergeSort leF = (rs.mergeSort leR).map rowF := (List.map_mergeSort fun a _ b _ => (leF_row a b).symm).symm
    rw [this]
    exact q
/-! min of data -/
def cMinD : DCall := fun xs S Q => match xs with
  | [x] => (match listR S x with | some fs => (∀ f ∈ fs, fz f = true ∧ dep f ≤ 60) ∧ PySem.W.AlikeAll (fs.map py) ∧ fs ≠ [] ∧ ∀ f ∈ fs, (∃ d ds, fs.map py = d :: ds ∧ py f = PySem.W.minD d ds) → Q f S | none => False)
  | _ => False
theorem c_minD {X : Cx} (hc : X.calm = true) (hu : X.A.units + 65 < cLine) : CallD X (.builtin "min") cMinD := by
  refine ⟨fun xs S Q Q' k h => ?_, callWeak (HT.cr_minD hc hu) fun vs H Q ⟨ds, S, Z, dv, R, h⟩ => ?_⟩
  · unfold cMinD at h ⊢
    split at h
    · split at h
      · obtain ⟨h1, h2, h3, q⟩ := h
        exact ⟨h1, h2, h3, fun f hf e => k _ _ (q f hf e)⟩
      · exact h.elim
    · exact h.elim
  · unfold cMinD at h
    split at h
    · obtain ⟨v, rfl, d⟩ := dens1 dv
      split at h
      · rename_i fs e0
        obtain ⟨h1, h2, h3, q⟩ := h
        obtain ⟨a, us, rfl, g1, g2⟩ := listR_of R d e0
        obtain ⟨z1, z2, z3⟩ := dens_zip g2
        have m1 : ((us.zip fs).map fun p => (p.1, py p.2)).map Prod.fst = us := by rw [List.map_map]; exact z1
        have m2 : ((us.zip fs).map fun p => (p.1, py p.2)).map Prod.snd = fs.map py := by
          rw [List.map_map]
          have : (Prod.snd ∘ fun p : V × F => (p.1, py p.2)) = py ∘ Prod.snd := rfl
          rw [this, ← List.map_map, z2]
        refine ⟨a, (us.zip fs).map fun p => (p.1, py p.2), rfl, by rw [m1]; exact g1, fun p hp => ?_, by rw [m2]; exact h2, fun e => h3 ?_, fun p hp ⟨d, ds, e, e2⟩ => ?_⟩
        · obtain ⟨p0, hp0, rfl⟩ := List.mem_map.mp hp
          have hf : p0.2 ∈ fs := by rw [← z2]; exact List.mem_map.mpr ⟨p0, hp0, rfl⟩
          obtain ⟨f1, f2⟩ := h1 _ hf
          exact ⟨(z3 p0 hp0).dp R (can_of _ f1), by have := depth_of _ f1; show (py p0.2).depth ≤ 62; omega⟩
        · rw [e] at m2
          exact List.map_eq_nil_iff.mp m2.symm
        · obtain ⟨p0, hp0, rfl⟩ := List.mem_map.mp hp
          have hf : p0.2 ∈ fs := by rw [← z2]; exact List.mem_map.mpr ⟨p0, hp0, rfl⟩
          exact fin_same R (z3 p0 hp0) (q _ hf ⟨d, ds, by rw [← m2]; exact e, e2⟩)
      · exact h.elim
    · exact h.elim
theorem leR_total (a b : List Int) : (leR a b || leR b a) = true := by
  unfold leR
  rw [Bool.or_eq_true, decide_eq_true_eq, decide_eq_true_eq]
  exact List.le_total a b
theorem leR_trans {a b c : List Int} (h1 : leR a b = true) (h2 : leR b c = true) : leR a c = true := decide_eq_true (List.le_trans (of_decide_eq_true h1) (of_decide_eq_true h2))
theorem leR_anti {a b : List Int} (h1 : leR a b = true) (h2 : leR b a = true) : a = b := List.le_antisymm (of_decide_eq_true h1) (of_decide_eq_true h2)
theorem sortR_pw (rs : List (List Int)) : (rs.mergeSort leR).Pairwise fun a b => leR a b = true := List.pairwise_mergeSort (le := leR) (fun _ _ _ => leR_trans) leR_total rs
theorem srt_uniq {α : Type} {le : α → α → Prop} (anti : ∀ a b, le a b → le b a → a = b) : ∀ {l m : List α}, l.Perm m → l.Pairwise le → m.Pairwise le → l = m
  | [], m, h, _, _ => by rw [List.nil_perm.mp h]
  | x :: l, [], h, _, _ => by cases h.length_eq
  | x :: l, y :: m, h, h1, h2 => by
    have e : x = y := by
      rcases List.mem_cons.mp (h.mem_iff.mp (List.mem_cons_self ..)) with e | e
      · exact e
      · rcases List.mem_cons.mp (h.mem_iff.mpr (List.mem_cons_self ..)) with e' | e'
        · exact e'.symm
        · exact anti x y (List.rel_of_pairwise_cons h1 e') (List.rel_of_pairwise_cons h2 e)
    subst e
    rw [srt_uniq anti (List.Perm.cons_inv h) (List.Pairwise.of_cons h1) (List.Pairwise.of_cons h2)]
theorem sortR_perm {rs ts : List (List Int)} (h : rs.Perm ts) : rs.mergeSort leR = ts.mergeSort leR :=
  srt_uniq (fun _ _ => leR_anti) ((List.mergeSort_perm rs leR).trans (h.trans (List.mergeSort_perm ts leR).symm)) (sortR_pw rs) (sortR_pw ts)
theorem py_row_inj {a b : List Int} (h : py (rowF a) = py (rowF b)) : a = b := by
  rw [py_row, py_row] at h
  have h := PyData.tuple.inj h
  have gen : ∀ {a b : List Int}, a.map PyData.int = b.map PyData.int → a = b := by
    intro a
    induction a with
    | nil => intro b h; cases b with
      | nil => rfl
      | cons y b => cases h
    | cons x a ih => intro b h; cases b with
      | nil => cases h
      | cons y b =>
        rw [List.map_cons, List.map_cons] at h
        rw [PyData.int.inj (List.cons.inj h).1, ih (List.cons.inj h).2]
  exact gen h
theorem minD_row (a : List Int) (rs : List (List Int)) : ∃ m, m ∈ a :: rs ∧ (∀ y ∈ a :: rs, leR m y = true) ∧ PySem.W.minD (py (rowF a)) (rs.map fun r => py (rowF r)) = py (rowF m) := by
  induction rs generalizing a with
  | nil => exact ⟨a, List.mem_cons_self .., fun y hy => by rw [List.mem_singleton.mp hy]; exact decide_eq_true (List.le_refl a), rfl⟩
  | cons r rs ih =>
    have hlt : PySem.W.dataLt (py (rowF r)) (py (rowF a)) = !leR a r := by
      have := leF_row a r
      show _ = !leR a r
      rw [← this]
      show _ = !(!PySem.W.dataLt (py (rowF r)) (py (rowF a)))
      simp
    have step : PySem.W.minD (py (rowF a)) ((r :: rs).map fun r => py (rowF r)) = PySem.W.minD (py (rowF (if leR a r = true then a else r))) (rs.map fun r => py (rowF r)) := by
      unfold PySem.W.minD
      rw [List.map_cons, List.foldl_cons, hlt]
      congr 1
      cases leR a r <;> rfl
    obtain ⟨m, h1, h2, h3⟩ := ih (if leR a r = true then a else r)
    have hx := h2 _ (List.mem_cons_self ..)
    refine ⟨m, ?_, fun y hy => ?_, step.trans h3⟩
    · rcases List.mem_cons.mp h1 with e | e
      · rw [e]
        split
        · exact List.mem_cons_self ..
        · exact List.mem_cons_of_mem _ (List.mem_cons_self ..)
      · exact List.mem_cons_of_mem _ (List.mem_cons_of_mem _ e)
    · have tot := leR_total a r
      rcases List.mem_cons.mp hy with e | e
      · subst e
        by_cases c : leR y r = true
        · rw [if_pos c] at hx; exact hx
        · rw [if_neg c] at hx
          have c : leR y r = false := by simpa using c
          rw [c, Bool.false_or] at tot
          exact leR_trans hx tot
      · rcases List.mem_cons.mp e with e | e
        · subst e
          by_cases c : leR a y = true
          · rw [if_pos c] at hx; exact leR_trans hx c
          · rw [if_neg c] at hx; exact hx
        · exact h2 y (List.mem_cons_of_mem _ e)
theorem cMinD_rows {x : F} {rs : List (List Int)} {S : Sto} {Q : F → Sto → Prop} (hx : listR S x = some (rs.map rowF)) (hne : rs ≠ []) (h : ∀ r ∈ rs, r.length ≤ 1000000) (q : ∀ r ∈ rs, (∀ y ∈ rs, leR r y = true) → Q (rowF r) S) : cMinD [x] S Q := by
  show match listR S x with | some fs => _ | none => False
  rw [hx]
  refine ⟨fun f hf => ?_, ⟨fun d hd d' hd' => ?_, fun d hd => ?_⟩, fun e => hne (List.map_eq_nil_iff.mp e), fun f hf ⟨d, ds, e, e2⟩ => ?_⟩
  · obtain ⟨r, hr, rfl⟩ := List.mem_map.mp hf
    exact ⟨fz_row (h r hr), Nat.le_trans (dep_row r) (by decide)⟩
  · simp only [List.map_map, List.mem_map] at hd hd'
    obtain ⟨r, _, rfl⟩ := hd
    obtain ⟨r', _, rfl⟩ := hd'
    show PySem.W.alike (py (rowF r)) (py (rowF r')) = true
    rw [py_row, py_row]
    simp only [PySem.W.alike]
    exact PySem.W.alike_ints r r'
  · simp only [List.map_map, List.mem_map] at hd
    obtain ⟨r, _, rfl⟩ := hd
    show py (rowF r) ≠ .none
    rw [py_row]
    exact fun e => nomatch e
  · obtain ⟨r, hr, rfl⟩ := List.mem_map.mp hf
    cases rs with
    | nil => exact absurd rfl hne
    | cons a rs =>
      obtain ⟨m, m1, m2, m3⟩ := minD_row a rs
      have e : py (rowF a) :: rs.map (fun r => py (rowF r)) = d :: ds := by rw [← e, List.map_map]; rfl
      obtain ⟨rfl, rfl⟩ := List.cons.inj e
      rw [m3] at e2
      rw [py_row_inj e2]
      exact q m m1 m2
/-- the least of a list is the first of its order -/
theorem least_head {rs : List (List Int)} {r : List Int} (hr : r ∈ rs) (h : ∀ y ∈ rs, leR r y = true) : (rs.mergeSort leR).head? = some r := by
  have hp := List.mergeSort_perm rs leR
  have hpw := sortR_pw rs
  cases e : rs.mergeSort leR with
  | nil =>
    rw [e] at hp
    rw [List.nil_perm.mp hp] at hr
    cases hr
  | cons x l =>
    rw [e] at hp hpw
    have hx : x ∈ rs := hp.mem_iff.mp (List.mem_cons_self ..)
    have h1 := h x hx
    have h2 : leR x r = true := by
      rcases List.mem_cons.mp (hp.mem_iff.mpr hr) with e | e
      · rw [e]; exact decide_eq_true (List.le_refl x)
      · exact List.rel_of_pairwise_cons hpw e
    rw [leR_anti h1 h2]
    rfl
/-! equality where a list that changes may stand -/
def derF (S : Sto) : F → Option F
  | .loc a => (S a).map F.lst
  | x => some x
theorem der_dp {K : PySem.W.Frag} {Z H : Hp} {S : Sto} (R : RelS K Z S H) {d d' : F} {v : V} (h : Den K Z v d) (e : derF S d = some d') (c : (py d').canLay0 = true) : Dp K H v (py d') := by
  cases d with
  | loc a =>
    cases h
    obtain ⟨fs, e1, rfl⟩ := Option.map_eq_some_iff.mp e
    obtain ⟨vs, h1, h2⟩ := R.s _ _ e1
    have c' : PyData.canLayAll0 (pyL fs) = true := by simpa [py, PyData.canLay0] using c
    have : Dp K H (.ref a) (.list (pyL fs)) := .lst (.inl (.inl h1)) (Dens.dp R h2 c')
    simpa [py] using this
  | _ => cases e; exact h.dp R c
def oNeL : DOp := fun x y S Q => match derF S x, derF S y with | some x', some y' => okF x' = true ∧ okF y' = true ∧ Q (.bl (!eqF x' y')) S | _, _ => False
def oEqL : DOp := fun x y S Q => match derF S x, derF S y with | some x', some y' => okF x' = true ∧ okF y' = true ∧ Q (.bl (eqF x' y')) S | _, _ => False
section
variable {X : Cx}
theorem o_neL (hu : X.A.units + 64 < cLine) : OpD X (compareOp .NotEq) oNeL := by
  refine ⟨fun x y S Q Q' k h => ?_, opWeak (op_neD hu) fun x y H Q ⟨d, e, S, Z, dx, dy, R, h⟩ => ?_⟩
  · unfold oNeL at h ⊢
    split at h
    · exact ⟨h.1, h.2.1, k _ _ h.2.2⟩
    · exact h.elim
  · unfold oNeL at h
    split at h
    · rename_i e1 e2
      obtain ⟨h1, h2, h⟩ := h
      exact ⟨_, _, der_dp R dx e1 (SeqAt.canLay_of_shaped h1), der_dp R dy e2 (SeqAt.canLay_of_shaped h2), h1, h2, fin_same R (.bl _) h⟩
    · exact h.elim
theorem o_eqL (hu : X.A.units + 64 < cLine) : OpD X (compareOp .Eq) oEqL := by
  refine ⟨fun x y S Q Q' k h => ?_, opWeak (op_eqD hu) fun x y H Q ⟨d, e, S, Z, dx, dy, R, h⟩ => ?_⟩
  · unfold oEqL at h ⊢
    split at h
    · exact ⟨h.1, h.2.1, k _ _ h.2.2⟩
    · exact h.elim
  · unfold oEqL at h
    split at h
    · rename_i e1 e2
      obtain ⟨h1, h2, h⟩ := h
      exact ⟨_, _, der_dp R dx e1 (SeqAt.canLay_of_shaped h1), der_dp R dy e2 (SeqAt.canLay_of_shaped h2), h1, h2, fin_same R (.bl _) h⟩
    · exact h.elim
end
section
variable {S : Sto} {Q : F → Sto → Prop} {x y : F}
@[simp, simp ↓] theorem oNeL_ev : oNeL x y S Q = match derF S x, derF S y with | some x', some y' => okF x' = true ∧ okF y' = true ∧ Q (.bl (!eqF x' y')) S | _, _ => False := (rfl)
@[simp, simp ↓] theorem oEqL_ev : oEqL x y S Q = match derF S x, derF S y with | some x', some y' => okF x' = true ∧ okF y' = true ∧ Q (.bl (eqF x' y')) S | _, _ => False := (rfl)
@[simp] theorem derF_loc {a : Addr} : derF S (.loc a) = (S a).map F.lst := rfl
@[simp] theorem derF_lst {l : List F} : derF S (.lst l) = some (.lst l) := rfl
@[simp] theorem derF_tup {l : List F} : derF S (.tup l) = some (.tup l) := rfl
theorem eqF_lnil {l : List F} : eqF (.lst l) (.lst []) = l.isEmpty := by
  cases l <;> simp [eqF, py, pyL, PyData.eqv, PyData.eqvAll]
end
end DL

set_option maxHeartbeats 4000000
namespace RSeq
open PySem PySem.Spec PyProof.Rows L2 Srt SrtO SrtR
/-! ### sorted of a list or a tuple of ints -/
def IsSq (h : Heap) (a : Addr) (its : Array Value) : Prop := ∃ o, h.get? a = some o ∧ (o.cls = .type "list" ∨ o.cls = .type "tuple") ∧ ∃ n, o.data = .seq its n
section
variable {prog : Program} {w : World} {A : Around} {E : Value → Shared → Prop} {s : Shared}
theorem collect_sq {l : Addr} {vs : List Value} {Q : List Value → Shared → Prop} (hl : IsSq s.heap l vs.toArray) (hsz : vs.length ≤ sizeLine)
    (h : Q vs { s with heap := (s.heap.push (seqObj "list" #[] 0)).update s.heap.objs.size (Obj.mapSeq (· ++ vs.toArray)) }) :
    wpAny (model prog w) A (collect (.ref l)) Q E s := by
  obtain ⟨o, ho, hc, n, hd⟩ := id hl
  unfold collect
  refine wpAny_bind (wpAny_runValue (codeAny_builtin entry_proto_collect' ?_))
  show wpAny _ _ (do again (.builtin "list.__iadd__" ⟨[← newList [], .ref l], []⟩)) _ _ s
  refine wpAny_bind (wpAny_newList (wpAny_pure ⟨Code.quiet_builtin _ (by decide +kernel), codeAny_builtin entry_list_iadd' ?_⟩))
  show wpAny _ _ (Builtin.List.listExtendWith (.ref s.heap.objs.size) (.ref l) (.ref s.heap.objs.size)) _ _ { s with heap := s.heap.push (seqObj "list" #[] 0) }
  unfold Builtin.List.listExtendWith
  have ho' : (s.heap.push (seqObj "list" #[] 0)).get? l = some o := Heap.get?_push_of_some _ ho
  have fin : wpAny (model prog w) A (do
      let o ← load s.heap.objs.size
      match o.data with
      | .seq xs _ => pure xs.toList
      | _ => unsupported "internal:collect") Q E { s with heap := (s.heap.push (seqObj "list" #[] 0)).update s.heap.objs.size (Obj.mapSeq (· ++ vs.toArray)) } := by
    refine wpAny_bind (wpAny_load (get?_update_seq (Heap.get?_push_size _ rfl) _) ?_)
    show wpAny _ _ (pure ((#[] : Array Value) ++ vs.toArray).toList) Q E _
    rw [show ((#[] : Array Value) ++ vs.toArray).toList = vs by simp]
    exact wpAny_pure h
  rcases hc with hc | hc
  · refine wpAny_bind (wpAny_typeOf (T := "list") ⟨o, ho', hc⟩ ?_)
    have ht : (Value.type "list" == Value.type "list") = true := by rfl
    rw [if_pos (by rw [ht]; simp)]
    refine wpAny_bind (listItems_at ho' hd ?_)
    refine wpAny_bind (listItems_at (xs := #[]) (n := 0) (Heap.get?_push_size _ rfl) rfl ?_)
    rw [if_neg (by simp)]
    refine wpAny_bind (listUpdate_at (xs := #[]) (n := 0) (Heap.get?_push_size _ rfl) rfl ?_ (Nat.zero_le _) (by show (#[] ++ vs.toArray).size ≤ sizeLine + 1; simp only [Array.size_append, List.size_toArray, List.length_nil]; omega))
    exact wpAny_pure fin
  · refine wpAny_bind (wpAny_typeOf (T := "tuple") ⟨o, ho', hc⟩ ?_)
    have ht : (Value.type "tuple" == Value.type "tuple") = true := by rfl
    rw [if_pos (by rw [ht]; simp)]
    refine wpAny_bind (listItems_at ho' hd ?_)
    refine wpAny_bind (listItems_at (xs := #[]) (n := 0) (Heap.get?_push_size _ rfl) rfl ?_)
    rw [if_neg (by simp)]
    refine wpAny_bind (listUpdate_at (xs := #[]) (n := 0) (Heap.get?_push_size _ rfl) rfl ?_ (Nat.zero_le _) (by show (#[] ++ vs.toArray).size ≤ sizeLine + 1; simp only [Array.size_append, List.size_toArray, List.length_nil]; omega))
    exact wpAny_pure fin
theorem sorted_sqK {l : Addr} {vs : List Value} {b : Bool} {kw : List (Str × Value)} {ltv : Value → Value → Bool} {Q : Value → Shared → Prop} (hk : ∀ a, Builtin.«list.sort» ⟨[.ref a], kw⟩ = Builtin.«list.sort» ⟨[.ref a], [(Str.ofString "reverse", .bool b)]⟩)
    (ha1 : argsOk "sorted" ⟨[.ref l], kw⟩) (ha2 : ∀ a, argsOk "list.sort" ⟨[a], kw⟩) (O : Swo ltv) (hl : IsSq s.heap l vs.toArray) (hz : vs.length ≤ sizeLine)
    (hS : 2 ≤ vs.length → ∀ (h₁ : Heap) (a : Addr), h₁.get? a = some (seqObj "list" vs.toArray 0) → (∀ b o, s.heap.get? b = some o → b ≠ a ∧ h₁.get? b = some o) → SortableO prog w A.in1.in1 { s with heap := h₁ } a vs ltv)
    (h : ∀ out : List Value, Srtd ltv out → Stb ltv out (if b = true then vs.reverse else vs) → Q (.ref (s.heap.objs.size + 1)) { s with heap := sortedAll s.heap vs (if b = true then out.toArray.reverse else out.toArray) }) :
    wpAny (model prog w) A (call (.builtin "sorted") [.ref l] kw) Q E s := by
  refine call_function_entry_kw kind_sorted plain_sorted entry_sorted ha1 ?_
  unfold Builtin.«sorted»
  refine wpAny_bind (m := checkCount "sorted" 1 1 _) (wpAny_pure ?_)
  refine wpAny_bind (collect_sq hl hz ?_)
  refine wpAny_bind (wpAny_newList ?_ hz)
  have hsz : ((s.heap.push (seqObj "list" #[] 0)).update s.heap.objs.size (Obj.mapSeq (· ++ vs.toArray))).objs.size = s.heap.objs.size + 1 := by
    rw [Heap.size_update, size_push']
  have hoL : (((s.heap.push (seqObj "list" #[] 0)).update s.heap.objs.size (Obj.mapSeq (· ++ vs.toArray))).push (seqObj "list" vs.toArray 0)).get? (s.heap.objs.size + 1) = some (seqObj "list" vs.toArray 0) := by
    rw [← hsz]; exact Heap.get?_push_size _ rfl
  have keep : ∀ b o, s.heap.get? b = some o → b ≠ s.heap.objs.size + 1 ∧ (((s.heap.push (seqObj "list" #[] 0)).update s.heap.objs.size (Obj.mapSeq (· ++ vs.toArray))).push (seqObj "list" vs.toArray 0)).get? b = some o := fun b o q => by
    have hlt : b < s.heap.objs.size := Heap.lt_size q
    refine ⟨Nat.ne_of_lt (Nat.lt_succ_of_lt hlt), Heap.get?_push_of_some _ ?_⟩
    rw [Heap.get?_update_ne _ _ _ _ (Nat.ne_of_lt hlt)]
    exact Heap.get?_push_of_some _ q
  show wpAny _ _ _ _ _ { s with heap := ((s.heap.push (seqObj "list" #[] 0)).update s.heap.objs.size (Obj.mapSeq (· ++ vs.toArray))).push (seqObj "list" vs.toArray 0) }
  rw [hsz]
  refine wpAny_bind (wpAny_holding (wpAny_call_entry_kw slot_list_sort ⟨_, hoL, rfl⟩ entry_list_sort ?_ (ha2 _)))
  rw [hk]
  refine list_sort_ordR O hoL hz (fun h2 => hS h2 _ _ hoL keep) fun out hs hb => ⟨_, rfl, ?_⟩
  exact wpAny_pure ⟨_, rfl, h out hs hb⟩
end
section
variable {X : Cx}
theorem sq_of {pins : List (Addr × Obj)} {s : Shared} {σ : L2.St} {H : Hp} {a : Addr} {xs : List V} (I : Inv X pins σ H s) (h : SqL X.K H a xs ∨ SqT X.K H a xs) : ∃ its : List Value, Vals xs its ∧ IsSq s.heap a its.toArray ∧ xs.length ≤ sizeLine := by
  rcases h with h | h
  · obtain ⟨its, rv, hl, hz⟩ := I.list h
    obtain ⟨o, h1, h2, h3⟩ := hl.isList
    exact ⟨its, rv, ⟨o, h1, .inl h2, h3⟩, hz⟩
  · obtain ⟨its, rv, ⟨o, h1, h2, h3⟩, hz⟩ := I.tuple h
    exact ⟨its, rv, ⟨o, h1, .inr h2, h3⟩, hz⟩
def rSortA (K : PySem.W.Frag) (b : Bool) (zs0 : List V) : List V → List V → Hp → VK → Prop := fun vs zs H Q => ∃ (a : Addr) (ns : List Int), vs = [V.ref a] ∧ zs = zs0 ∧ (SqL K H a (ns.map V.int) ∨ SqT K H a (ns.map V.int)) ∧
  ∀ (ns' : List Int) (p : Addr), ns'.Perm ns → OrdB b ns' → H p = none → Q (.ref p) (upd H p (.lst (ns'.map V.int)))
theorem sorted_runA {b : Bool} {kw : List (Str × Value)} {pins : List (Addr × Obj)} {s : Shared} {σ : L2.St} {H : Hp} {a : Addr} {ns : List Int} {Q : VK} (I : Inv X pins σ H s) (hs : SqL X.K H a (ns.map V.int) ∨ SqT X.K H a (ns.map V.int))
    (hk : ∀ a, Builtin.«list.sort» ⟨[.ref a], kw⟩ = Builtin.«list.sort» ⟨[.ref a], [(Str.ofString "reverse", .bool b)]⟩) (ha1 : argsOk "sorted" ⟨[.ref a], kw⟩) (ha2 : ∀ a, argsOk "list.sort" ⟨[a], kw⟩)
    (q : ∀ (ns' : List Int) (p : Addr), ns'.Perm ns → OrdB b ns' → H p = none → Q (.ref p) (upd H p (.lst (ns'.map V.int)))) : wpAny (model X.prog X.w) X.A (call (.builtin "sorted") [.ref a] kw) (EP X pins σ Q) X.xe s := by
  obtain ⟨its, rv, hl, hz⟩ := sq_of I hs
  have hi := rv.ints
  refine sorted_sqK hk ha1 ha2 SrtO.swo_int hl (by rw [← rv.length]; exact hz) (fun h2 h₁ a' _ _ => SrtO.ints_sortable hi h2) fun out h1 h2 => ?_
  obtain ⟨ns', k1, k2, k3⟩ := SrtR.ints_outR hi h1 h2
  obtain ⟨ep, he'⟩ := PyProof.Rows.sortedAll_at s.heap its (if b = true then out.toArray.reverse else out.toArray)
  have hlen : (ns'.map V.int).length ≤ sizeLine := by
    rw [List.length_map, k2.length_eq]
    rw [List.length_map] at hz
    exact hz
  have e0 : ((if b = true then out.toArray.reverse else out.toArray).toList).toArray = (if b = true then out.toArray.reverse else out.toArray) := by rw [Array.toArray_toList]
  exact ⟨.ref _, upd H (s.heap.objs.size + 1) (.lst (ns'.map V.int)), I.laid (t' := s.toks) (fun _ _ => PyProof.Rows.sortedAll_old) (Nat.le_succ _) ⟨hlen, _, ep, vals_of_ints k1, by rw [e0]; exact he'⟩, rfl, q _ _ k2 k3 (I.hok.fresh (Nat.le_succ _))⟩
theorem cr_sortedRevA {b : Bool} : CallRK X (.builtin "sorted") [Str.ofString "reverse"] (rSortA X.K b [.bl b]) := by
  intro pins s σ H vs zs us ws Q I r rz h
  obtain ⟨a, ns, rfl, rfl, hs, q⟩ := h
  obtain rfl := Vals.ref1 r
  obtain ⟨w1, rfl, e1⟩ := vals1 rz
  obtain rfl : w1 = Value.bool b := e1
  exact sorted_runA I hs (fun _ => rfl) (PyProof.Rows.args_sorted_rev _ _) (fun _ => PyProof.Rows.args_list_sort_rev _ _) q
def rSortP (K : PySem.W.Frag) : List V → Hp → VK → Prop := fun vs H Q => ∃ (a : Addr) (ns : List Int), vs = [V.ref a] ∧ (SqL K H a (ns.map V.int) ∨ SqT K H a (ns.map V.int)) ∧
  ∀ (ns' : List Int) (p : Addr), ns'.Perm ns → ns'.Pairwise (· ≤ ·) → H p = none → Q (.ref p) (upd H p (.lst (ns'.map V.int)))
theorem list_sort_nokw (a : Addr) : Builtin.«list.sort» ⟨[.ref a], []⟩ = Builtin.«list.sort» ⟨[.ref a], [(Str.ofString "reverse", .bool false)]⟩ := by
  rw [list_sort_rev, list_sort_plain]
  first | rfl | kernel_rfl
theorem cr_sortedA : CallR X (.builtin "sorted") (rSortP X.K) := by
  intro pins s σ H vs us Q I r h
  obtain ⟨a, ns, rfl, hs, q⟩ := h
  rw [Vals.ref1 r]
  exact sorted_runA (b := false) I hs list_sort_nokw (args_sorted1 _) (fun _ => args_list_sort _) q
end
end RSeq
namespace DL
open PySem PySem.Spec PyProof.Rows L2
/-- sorted(xs), xs a list or tuple of ints -/
def cSortedA : DCallL := fun xs S Q => match xs with
  | [x] => (match seqR S x with | some fs => ∃ ns : List Int, fs = ns.map F.int ∧ ∀ ms : List Int, ms.Perm ns → ms.Pairwise (· ≤ ·) → Q (ms.map F.int) S | none => False)
  | _ => False
theorem c_sortedA {X : Cx} : CallL X (.builtin "sorted") cSortedA := by
  refine ⟨fun xs S Q Q' k h => ?_, callWeak RSeq.cr_sortedA fun vs H Q ⟨ds, S, Z, dv, R, h⟩ => ?_⟩
  · unfold cSortedA at h ⊢
    split at h
    · split at h
      · obtain ⟨ns, e, q⟩ := h
        exact ⟨ns, e, fun ms h1 h2 => k _ _ (q ms h1 h2)⟩
      · exact h.elim
    · exact h.elim
  · unfold cSortedA at h
    split at h
    · obtain ⟨v, rfl, d⟩ := dens1 dv
      split at h
      · rename_i fs e0
        obtain ⟨ns, rfl, q⟩ := h
        obtain ⟨a, us, rfl, h1, h2⟩ := seqR_of R d e0
        have := h2.ints
        subst this
        exact ⟨a, ns, rfl, h1, fun ms p k1 k2 np => lfin_new .refl R np (dens_ints ms) (q ms k1 k2)⟩
      · exact h.elim
    · exact h.elim
/-- sorted(xs, reverse=True), xs a list or tuple of ints -/
def wSortedRevA (m : W F) : W (List F) := fun ρ S Q => m ρ S fun x S1 => match seqR S1 x with
  | some fs => ∃ ns : List Int, fs = ns.map F.int ∧ ∀ ms : List Int, ms.Perm ns → ms.Pairwise (· ≥ ·) → Q (ms.map F.int) S1
  | none => False
theorem pl_sortedRevA {X : Cx} {e : Expr} {m : W F} {p pos kpos bpos : Pos} {k : Nat} (hg : Gl X "sorted") (hm : X.mg "sorted" = none) (ha : PD X e m)
    (he : backTo pos (starEach [e] X.env) = (false, eval e X.env) :: backTo pos (starEach [] X.env) := by rfl) (hpl : (backTo pos (starEach [e] X.env)).any (·.1) = false := by rfl) (hst : starEach [e] X.env = (false, eval e X.env) :: starEach [] X.env := by rfl) :
    PL X (.Call (.Name "sorted" p) [e] [⟨some "reverse", .Constant (.bool true) k bpos, kpos⟩] pos) (wSortedRevA m) :=
  ⟨fun _ _ _ _ k q => ha.mono _ _ _ _ (fun x S1 q => by
    split at q
    · obtain ⟨ns, e, q⟩ := q
      exact ⟨ns, e, fun ms h1 h2 => k _ _ (q ms h1 h2)⟩
    · exact q.elim) q, weakE (pe_callBK (RSeq.cr_sortedRevA (b := true)) hg hm (by rfl) (pa_cons ha.run pa_nil (hs := hst)) (pk_cons pe_bl pk_nil) (by decide) (by decide) he hpl) fun σ H Q ⟨ρ, S, Z, r, R, q⟩ => by
    refine tD_in ha.mono r R q fun x S1 v Z1 H1 p e1 R1 d1 => ?_
    split at p
    · rename_i fs e0
      obtain ⟨ns, rfl, q⟩ := p
      obtain ⟨a, us, rfl, h1, h2⟩ := seqR_of R1 d1 e0
      have := h2.ints
      subst this
      exact ⟨a, ns, rfl, rfl, h1, fun ms p k1 k2 np => lfin_new e1 R1 np (dens_ints ms) (q ms k1 k2)⟩
    · exact p.elim⟩
section
variable {ρ : Slots} {S : Sto} {QL : List F → Sto → Prop} {m : W F} {xs : List F}
@[simp, simp ↓] theorem wSortedRevA_ev : wSortedRevA m ρ S QL = m ρ S fun x S1 => match seqR S1 x with
  | some fs => ∃ ns : List Int, fs = ns.map F.int ∧ ∀ ms : List Int, ms.Perm ns → ms.Pairwise (· ≥ ·) → QL (ms.map F.int) S1
  | none => False := (rfl)
theorem cSortedA_t {ns : List Int} (q : ∀ ms : List Int, ms.Perm ns → ms.Pairwise (· ≤ ·) → QL (ms.map F.int) S) : cSortedA [.tup (ns.map F.int)] S QL := ⟨ns, rfl, q⟩
theorem cSortedA_l {ns : List Int} (q : ∀ ms : List Int, ms.Perm ns → ms.Pairwise (· ≤ ·) → QL (ms.map F.int) S) : cSortedA [.lst (ns.map F.int)] S QL := ⟨ns, rfl, q⟩
end
/-! ### rows of ints compared -/
theorem eqvAll_int : ∀ a b : List Int, PyData.eqvAll (a.map PyData.int) (b.map PyData.int) = decide (a = b)
  | [], [] => by
    show PyData.eqvAll [] [] = true
    rw [PyData.eqvAll]
  | [], y :: b => by
    rw [decide_eq_false fun h => List.cons_ne_nil _ _ h.symm]
    show PyData.eqvAll [] (.int y :: b.map .int) = false
    rw [PyData.eqvAll] <;> simp
  | x :: a, [] => by
    rw [decide_eq_false fun h => List.cons_ne_nil _ _ h]
    show PyData.eqvAll (.int x :: a.map .int) [] = false
    rw [PyData.eqvAll] <;> simp
  | x :: a, y :: b => by
    have h : PyData.eqv (.int x) (.int y) = (x == y) := by
      have : eqF (.int x) (.int y) = (x == y) := eqF_ii
      exact this
    rw [List.map_cons, List.map_cons, PyData.eqvAll, eqvAll_int a b, h, Bool.eq_iff_iff, Bool.and_eq_true, beq_iff_eq, decide_eq_true_eq, decide_eq_true_eq, List.cons.injEq]
theorem eqF_row (a b : List Int) : eqF (rowF a) (rowF b) = decide (a = b) := by
  unfold eqF
  rw [py_row, py_row, PyData.eqv]
  exact eqvAll_int a b
theorem okF_row {r : List Int} (h : r.length ≤ 1000000) : okF (rowF r) = true := okF_tupI h
theorem okF_lstI {r : List Int} (h : r.length ≤ 1000000) : okF (.lst (r.map F.int)) = true := okF_of (fz_lst_of (by rw [List.length_map]; exact h) fun x hx => by obtain ⟨i, _, rfl⟩ := List.mem_map.mp hx; rfl) (Nat.le_trans (dep_lst (n := 0) fun x hx => by obtain ⟨i, _, rfl⟩ := List.mem_map.mp hx; simp [dep]) (by decide))
theorem okF_rows {l : List (List Int)} (hl : l.length ≤ 1000000) (h : ∀ r ∈ l, r.length ≤ 1000000) : okF (.tup (l.map rowF)) = true := okF_of (fz_tup_of (by rw [List.length_map]; exact hl) fun x hx => by
  obtain ⟨r, hr, rfl⟩ := List.mem_map.mp hx
  exact fz_row (h r hr)) (Nat.le_trans (dep_tup (n := 1) fun x hx => by
  obtain ⟨r, hr, rfl⟩ := List.mem_map.mp hx
  exact dep_row r) (by decide))
theorem any_row (l : List (List Int)) (r : List Int) : ((l.map rowF).any fun z => eqF z (rowF r)) = l.contains r := by
  rw [List.any_map, List.contains_eq_any_beq]
  congr 1
  funext x
  show eqF (rowF x) (rowF r) = (r == x)
  rw [eqF_row, Bool.eq_iff_iff, decide_eq_true_eq, beq_iff_eq]
  exact eq_comm
theorem oIn_row {l : List (List Int)} {r : List Int} {S : Sto} {Q : F → Sto → Prop} (hl : l.length ≤ 1000000) (h : ∀ r ∈ l, r.length ≤ 1000000) (hr : r.length ≤ 1000000) (q : Q (.bl (l.contains r)) S) : oIn (rowF r) (.lst (l.map rowF)) S Q :=
  ⟨okF_row hr, okF_rows hl h, by rw [any_row]; exact q⟩
theorem oNotIn_row {l : List (List Int)} {r : List Int} {S : Sto} {Q : F → Sto → Prop} (hl : l.length ≤ 1000000) (h : ∀ r ∈ l, r.length ≤ 1000000) (hr : r.length ≤ 1000000) (q : Q (.bl (!l.contains r)) S) : oNotIn (rowF r) (.lst (l.map rowF)) S Q :=
  ⟨okF_row hr, okF_rows hl h, by rw [any_row]; exact q⟩
/-! ### xs[::-1] of a list -/
section
variable {X : Cx} {e : Expr} {m : W F} {pos : Pos}
def wRevL (m : W F) : W (List F) := fun ρ S Q => m ρ S fun x S1 => match listR S1 x with | some fs => Q fs.reverse S1 | none => False
theorem pl_revL {k : Nat} {p1 p2 p3 : Pos} (h : PD X e m) : PL X (.Subscript e (.Slice none none (some (.UnaryOp .USub (.Constant (.int 1) k p1) p2)) p3) pos) (wRevL m) :=
  ⟨fun _ _ _ _ k q => h.mono _ _ _ _ (fun x S1 q => by
    split at q
    · exact k _ _ q
    · exact q.elim) q, weakE (pe_revL h.run) fun σ H Q ⟨ρ, S, Z, r, R, q⟩ => by
    refine tD_in h.mono r R q fun x S1 v1 Z1 H1 p e1 R1 d1 => ?_
    split at p
    · rename_i fs e0
      obtain ⟨a, vs, rfl, h1, h2⟩ := listR_of R1 d1 e0
      exact ⟨a, vs, rfl, h1, fun t nt => lfin_new e1 R1 nt h2.reverse p⟩
    · exact p.elim⟩
@[simp, simp ↓] theorem wRevL_ev {ρ : Slots} {S : Sto} {QL : List F → Sto → Prop} : wRevL m ρ S QL = m ρ S fun x S1 => match listR S1 x with | some fs => QL fs.reverse S1 | none => False := (rfl)
end
end DL

set_option maxHeartbeats 4000000
namespace DL
open PySem PySem.Spec PyProof.Rows L2
local macro_rules | `(tactic| walk_at "nx") => `(tactic| ((try dsimp only); rw [sSeq_ev]; (try simp [-sSeq_ev, -compL_cons, -forL_cons])))
/-! sorting, as a function -/
def ins (x : Int) : List Int → List Int
  | [] => [x]
  | y :: l => if y ≤ x then x :: y :: l else y :: ins x l
def srt : List Int → List Int
  | [] => []
  | x :: l => ins x (srt l)
theorem ins_perm (x : Int) : ∀ l, (ins x l).Perm (x :: l)
  | [] => .refl _
  | y :: l => by
    unfold ins
    split
    · exact .refl _
    · exact ((ins_perm x l).cons y).trans (.swap x y l)
theorem srt_perm : ∀ l, (srt l).Perm l
  | [] => .refl _
  | x :: l => (ins_perm x _).trans ((srt_perm l).cons x)
theorem ins_falls (x : Int) : ∀ l, falls l → falls (ins x l)
  | [], _ => List.pairwise_singleton ..
  | y :: l, h => by
    unfold ins
    split
    · rename_i c
      refine List.Pairwise.cons (fun z hz => ?_) h
      rcases List.mem_cons.mp hz with e | e
      · rw [e]; exact c
      · have : y ≥ z := List.rel_of_pairwise_cons h e
        show z ≤ x
        omega
    · rename_i c
      refine List.Pairwise.cons (fun z hz => ?_) (ins_falls x l (List.Pairwise.of_cons h))
      rcases List.mem_cons.mp ((ins_perm x l).mem_iff.mp hz) with e | e
      · rw [e]; show x ≤ y; omega
      · exact List.rel_of_pairwise_cons h e
theorem srt_falls : ∀ l, falls (srt l)
  | [] => .nil
  | x :: l => ins_falls x _ (srt_falls l)
theorem srt_of {ms l : List Int} (h1 : ms.Perm l) (h2 : falls ms) : ms = srt l := falls_uniq (h1.trans (srt_perm l).symm) h2 (srt_falls l)
theorem srt_len (l : List Int) : (srt l).length = l.length := (srt_perm l).length_eq
/-! tables with told sums: the theorem of Gale and Ryser -/
def subV : List Int → List Int → List Int
  | x :: c, b :: v => (x - b) :: subV c v
  | _, _ => []
def bitV : List Int → List Int → Prop
  | [], [] => True
  | x :: c, b :: v => (b = 0 ∨ b = 1) ∧ 0 ≤ x - b ∧ bitV c v
  | _, _ => False
def fits : List Int → List Int → List (List Int) → Prop
  | c, [], [] => ∀ x ∈ c, x = 0
  | c, r :: rs, v :: t => bitV c v ∧ v.sum = r ∧ fits (subV c v) rs t
  | _, _, _ => False
def mS (k : Nat) (c : List Int) : Int := (c.map fun x => minN x k).sum
theorem mS_cons (k : Nat) (x : Int) (c : List Int) : mS k (x :: c) = minN x k + mS k c := by
  unfold mS
  rw [List.map_cons, List.sum_cons]
theorem mS_mono {k l : Nat} (h : k ≤ l) : ∀ c, mS k c ≤ mS l c
  | [] => Int.le_refl _
  | x :: c => by
    have := mS_mono h c
    rw [mS_cons, mS_cons]
    unfold minN
    split <;> split <;> omega
theorem nn_cons {x : Int} {c : List Int} (h : ∀ y ∈ x :: c, 0 ≤ y) : 0 ≤ x ∧ ∀ y ∈ c, 0 ≤ y := ⟨h x (List.mem_cons_self ..), fun y hy => h y (List.mem_cons_of_mem _ hy)⟩
theorem subV_nn : ∀ {c v : List Int}, bitV c v → ∀ x ∈ subV c v, 0 ≤ x
  | [], [], _ => fun x hx => absurd hx List.not_mem_nil
  | x :: c, b :: v, h => fun y hy => by
    rcases List.mem_cons.mp hy with e | e
    · rw [e]; exact h.2.1
    · exact subV_nn h.2.2 y e
  | [], _ :: _, h => h.elim
  | _ :: _, [], h => h.elim
theorem subV_len : ∀ {c v : List Int}, bitV c v → (subV c v).length = c.length
  | [], [], _ => rfl
  | x :: c, b :: v, h => by
    show (subV c v).length + 1 = c.length + 1
    rw [subV_len h.2.2]
  | [], _ :: _, h => h.elim
  | _ :: _, [], h => h.elim
theorem bitV_len : ∀ {c v : List Int}, bitV c v → v.length = c.length
  | [], [], _ => rfl
  | x :: c, b :: v, h => by
    show v.length + 1 = c.length + 1
    rw [bitV_len h.2.2]
  | [], _ :: _, h => h.elim
  | _ :: _, [], h => h.elim
theorem subV_le (k : Nat) : ∀ {c v : List Int}, bitV c v → mS k (subV c v) ≤ mS k c ∧ v.sum + mS k (subV c v) ≤ mS (k + 1) c ∧ (subV c v).sum = c.sum - v.sum
  | [], [], _ => ⟨Int.le_refl _, Int.le_refl _, rfl⟩
  | x :: c, b :: v, h => by
    obtain ⟨h1, h2, h3⟩ := subV_le k h.2.2
    have e : subV (x :: c) (b :: v) = (x - b) :: subV c v := rfl
    have hb := h.1
    have hx := h.2.1
    rw [e, mS_cons, mS_cons, mS_cons, List.sum_cons, List.sum_cons, List.sum_cons]
    refine ⟨?_, ?_, by omega⟩
    · have : minN (x - b) k ≤ minN x k := by unfold minN; split <;> split <;> omega
      omega
    · have : b + minN (x - b) k ≤ minN x (k + 1) := by unfold minN; split <;> split <;> omega
      omega
  | [], _ :: _, h => h.elim
  | _ :: _, [], h => h.elim
theorem fits_nec : ∀ {rs c : List Int} {t : List (List Int)}, fits c rs t → (∀ x ∈ c, 0 ≤ x) → rs.sum = c.sum ∧ ∀ K : List Int, K.Sublist rs → K.sum ≤ mS K.length c
  | [], c, [], h, hn => by
    have e : ∀ l : List Int, (∀ x ∈ l, x = 0) → l.sum = 0 := fun l hl => by
      induction l with
      | nil => rfl
      | cons x l ih => rw [List.sum_cons, ih fun y hy => hl y (List.mem_cons_of_mem _ hy), hl x (List.mem_cons_self ..)]; rfl
    refine ⟨(e c h).symm, fun K hK => ?_⟩
    rw [List.sublist_nil.mp hK]
    have : ∀ l : List Int, (∀ x ∈ l, 0 ≤ x) → 0 ≤ mS 0 l := fun l hl => by
      induction l with
      | nil => exact Int.le_refl _
      | cons x l ih =>
        rw [mS_cons]
        have := ih (nn_cons hl).2
        have := (nn_cons hl).1
        unfold minN
        split <;> omega
    exact this c hn
  | r :: rs, c, v :: t, h, hn => by
    obtain ⟨h1, h2, h3⟩ := h
    obtain ⟨i1, i2⟩ := fits_nec h3 (subV_nn h1)
    refine ⟨?_, fun K hK => ?_⟩
    · rw [List.sum_cons, i1, (subV_le 0 h1).2.2]
      omega
    · cases hK with
      | cons _ hK => exact Int.le_trans (i2 K hK) (subV_le _ h1).1
      | cons_cons _ hK =>
        rename_i K'
        have a := i2 K' hK
        have b := (subV_le K'.length h1).2.1
        rw [List.sum_cons, List.length_cons]
        omega
  | [], _, _ :: _, h, _ => h.elim
  | _ :: _, _, [], h, _ => h.elim
def topV (h : Int) : List Int → List Int → Prop
  | [], [] => True
  | x :: c, b :: v => (b = 1 ∧ h ≤ x ∨ b = 0 ∧ x ≤ h) ∧ topV h c v
  | _, _ => False
theorem topV_ex (h : Int) : ∀ (c : List Int) (r : Nat), cnt (h + 1) c ≤ r → r ≤ cnt h c → ∃ v, topV h c v ∧ v.sum = r
  | [], r, _, h2 => ⟨[], trivial, by have : r ≤ 0 := h2; have : r = 0 := by omega
                                     subst this; rfl⟩
  | x :: c, r, h1, h2 => by
    rw [cnt_cons] at h1 h2
    by_cases a : h + 1 ≤ x
    · rw [if_pos a] at h1
      rw [if_pos (by omega)] at h2
      obtain ⟨v, v1, v2⟩ := topV_ex h c (r - 1) (by omega) (by omega)
      exact ⟨1 :: v, ⟨.inl ⟨rfl, by omega⟩, v1⟩, by rw [List.sum_cons, v2]; omega⟩
    · rw [if_neg a] at h1
      by_cases b : h ≤ x
      · rw [if_pos b] at h2
        by_cases d : r ≤ cnt h c
        · obtain ⟨v, v1, v2⟩ := topV_ex h c r (by omega) d
          exact ⟨0 :: v, ⟨.inr ⟨rfl, by omega⟩, v1⟩, by rw [List.sum_cons, v2]; omega⟩
        · have := cnt_mono c (show h ≤ h + 1 by omega)
          obtain ⟨v, v1, v2⟩ := topV_ex h c (r - 1) (by omega) (by omega)
          exact ⟨1 :: v, ⟨.inl ⟨rfl, b⟩, v1⟩, by rw [List.sum_cons, v2]; omega⟩
      · rw [if_neg b] at h2
        obtain ⟨v, v1, v2⟩ := topV_ex h c r (by omega) (by omega)
        exact ⟨0 :: v, ⟨.inr ⟨rfl, by omega⟩, v1⟩, by rw [List.sum_cons, v2]; omega⟩
theorem topV_bit {h : Int} (h1 : 1 ≤ h) : ∀ {c v : List Int}, topV h c v → (∀ x ∈ c, 0 ≤ x) → bitV c v
  | [], [], _, _ => trivial
  | x :: c, b :: v, hv, hn => by
    obtain ⟨n1, n2⟩ := nn_cons hn
    refine ⟨?_, ?_, topV_bit h1 hv.2 n2⟩ <;> rcases hv.1 with ⟨e, f⟩ | ⟨e, f⟩ <;> omega
  | [], _ :: _, h, _ => h.elim
  | _ :: _, [], h, _ => h.elim
theorem topV_lo {h : Int} {k : Nat} (hk : (k : Int) + 1 ≤ h) : ∀ {c v : List Int}, topV h c v → mS k (subV c v) = mS k c
  | [], [], _ => rfl
  | x :: c, b :: v, hv => by
    have ih := topV_lo hk hv.2
    have e : subV (x :: c) (b :: v) = (x - b) :: subV c v := rfl
    rw [e, mS_cons, mS_cons, ih]
    congr 1
    unfold minN
    rcases hv.1 with ⟨e, f⟩ | ⟨e, f⟩ <;> (repeat' split) <;> omega
  | [], _ :: _, h => h.elim
  | _ :: _, [], h => h.elim
theorem topV_hi {h : Int} {k : Nat} (hk : h ≤ (k : Int)) : ∀ {c v : List Int}, topV h c v → mS k (subV c v) = mS (k + 1) c - v.sum
  | [], [], _ => rfl
  | x :: c, b :: v, hv => by
    have ih := topV_hi hk hv.2
    have e : subV (x :: c) (b :: v) = (x - b) :: subV c v := rfl
    rw [e, mS_cons, mS_cons, ih, List.sum_cons]
    have : minN (x - b) k = minN x (k + 1) - b := by
      unfold minN
      rcases hv.1 with ⟨e, f⟩ | ⟨e, f⟩ <;> (repeat' split) <;> omega
    omega
  | [], _ :: _, h => h.elim
  | _ :: _, [], h => h.elim
theorem mS_one : ∀ {c : List Int}, (∀ x ∈ c, 0 ≤ x) → mS 1 c = cnt 1 c
  | [], _ => rfl
  | x :: c, hn => by
    obtain ⟨n1, n2⟩ := nn_cons hn
    rw [mS_cons, mS_one n2, cnt_cons]
    unfold minN
    split <;> split <;> omega
theorem cnt_big (c : List Int) : ∃ H : Nat, cnt ((H : Int) + 1) c = 0 := by
  induction c with
  | nil => exact ⟨0, rfl⟩
  | cons x c ih =>
    obtain ⟨H, hH⟩ := ih
    refine ⟨max H x.toNat, ?_⟩
    have := cnt_mono c (show (H : Int) + 1 ≤ ((max H x.toNat : Nat) : Int) + 1 by omega)
    rw [cnt_cons, if_neg (by omega)]
    omega
theorem level (c : List Int) (r : Nat) (h1 : r ≤ cnt 1 c) : ∃ h : Int, 1 ≤ h ∧ cnt (h + 1) c ≤ r ∧ r ≤ cnt h c := by
  obtain ⟨H, hH⟩ := cnt_big c
  have gen : ∀ H : Nat, cnt ((H : Int) + 1) c ≤ r → ∃ h : Int, 1 ≤ h ∧ cnt (h + 1) c ≤ r ∧ r ≤ cnt h c := fun H => by
    induction H with
    | zero =>
      intro h
      have := cnt_mono c (show (1 : Int) ≤ 1 + 1 by omega)
      exact ⟨1, Int.le_refl _, Nat.le_trans this h, h1⟩
    | succ H ih =>
      intro h
      by_cases d : cnt ((H : Int) + 1) c ≤ r
      · exact ih d
      · have e : ((H + 1 : Nat) : Int) + 1 = (H : Int) + 1 + 1 := by omega
        rw [e] at h
        exact ⟨(H : Int) + 1, by omega, h, by omega⟩
  exact gen H (by omega)
theorem fits_suff : ∀ {rs c : List Int}, (∀ x ∈ c, 0 ≤ x) → (∀ x ∈ rs, 0 ≤ x) → rs.sum = c.sum → (∀ K : List Int, K.Sublist rs → K.sum ≤ mS K.length c) → ∃ t, fits c rs t
  | [], c, hn, _, hs, _ => ⟨[], by
    have : ∀ l : List Int, (∀ x ∈ l, 0 ≤ x) → l.sum = 0 → ∀ x ∈ l, x = 0 := fun l => by
      induction l with
      | nil => intro _ _ x hx; exact absurd hx List.not_mem_nil
      | cons y l ih =>
        intro hl h0 x hx
        rw [List.sum_cons] at h0
        obtain ⟨n1, n2⟩ := nn_cons hl
        have : ∀ m : List Int, (∀ x ∈ m, 0 ≤ x) → 0 ≤ m.sum := fun m hm => by
          induction m with
          | nil => exact Int.le_refl _
          | cons z m im => rw [List.sum_cons]; have := im (nn_cons hm).2; have := (nn_cons hm).1; omega
        have := this l n2
        rcases List.mem_cons.mp hx with e | e
        · omega
        · exact ih n2 (by omega) x e
    exact this c hn hs.symm⟩
  | r :: rs, c, hn, hr, hs, hc => by
    obtain ⟨r1, r2⟩ := nn_cons hr
    have a := hc [r] (by simp)
    have a : r + 0 ≤ mS 1 c := a
    rw [mS_one hn] at a
    obtain ⟨h, h1, h2, h3⟩ := level c r.toNat (by omega)
    obtain ⟨v, v1, v2⟩ := topV_ex h c r.toNat h2 h3
    have v2 : v.sum = r := by omega
    have hb := topV_bit h1 v1 hn
    obtain ⟨t, ht⟩ := fits_suff (rs := rs) (c := subV c v) (subV_nn hb) r2 (by rw [(subV_le 0 hb).2.2, ← hs, List.sum_cons]; omega) fun K hK => by
      by_cases d : (K.length : Int) + 1 ≤ h
      · rw [topV_lo d v1]
        exact hc K (.cons _ hK)
      · rw [topV_hi (by omega) v1]
        have := hc (r :: K) (.cons_cons _ hK)
        rw [List.sum_cons, List.length_cons] at this
        omega
    exact ⟨v :: t, hb, v2, ht⟩
/-! the same by sorted rows -/
theorem perm_sub {l m : List Int} (h : l.Perm m) : ∀ {K : List Int}, K.Sublist l → ∃ K' : List Int, K'.Perm K ∧ K'.Sublist m := by
  induction h with
  | nil => intro K hK; exact ⟨K, .refl _, hK⟩
  | cons x _ ih =>
    intro K hK
    cases hK with
    | cons _ hK => obtain ⟨K', h1, h2⟩ := ih hK; exact ⟨K', h1, .cons _ h2⟩
    | cons_cons _ hK => obtain ⟨K', h1, h2⟩ := ih hK; exact ⟨x :: K', h1.cons x, .cons_cons _ h2⟩
  | swap x y l =>
    intro K hK
    cases hK with
    | cons _ hK =>
      cases hK with
      | cons _ hK => exact ⟨K, .refl _, .cons _ (.cons _ hK)⟩
      | cons_cons _ hK => exact ⟨_, .refl _, .cons_cons _ (.cons _ hK)⟩
    | cons_cons _ hK =>
      cases hK with
      | cons _ hK => exact ⟨_, .refl _, .cons _ (.cons_cons _ hK)⟩
      | cons_cons _ hK => exact ⟨_, .swap _ _ _, .cons_cons _ (.cons_cons _ hK)⟩
  | trans _ _ ih1 ih2 =>
    intro K hK
    obtain ⟨K1, h1, h2⟩ := ih1 hK
    obtain ⟨K2, g1, g2⟩ := ih2 h2
    exact ⟨K2, g1.trans h1, g2⟩
theorem sub_head : ∀ {l K : List Int}, falls l → K.Sublist l → K.sum ≤ (l.take K.length).sum
  | _, _, _, .slnil => Int.le_refl _
  | x :: l, K, hf, .cons _ hK => by
    have ih := sub_head (List.Pairwise.of_cons hf) hK
    cases K with
    | nil => exact Int.le_refl _
    | cons y K =>
      rw [List.length_cons, List.sum_cons] at ih
      rw [List.length_cons, List.take_succ_cons, List.sum_cons, List.sum_cons]
      have hl := hK.length_le
      rw [List.length_cons] at hl
      rw [take_sum, if_pos (by omega)] at ih
      have e1 : l[K.length]? = some l[K.length] := List.getElem?_eq_getElem (by omega)
      have : x ≥ l[K.length] := List.rel_of_pairwise_cons hf (List.getElem_mem _)
      rw [List.getD_eq_getElem?_getD, e1] at ih
      have e2 : (some l[K.length]).getD 0 = l[K.length] := rfl
      rw [e2] at ih
      omega
  | x :: l, _ :: K, hf, .cons_cons _ hK => by
    have ih := sub_head (List.Pairwise.of_cons hf) hK
    rw [List.length_cons, List.take_succ_cons, List.sum_cons, List.sum_cons]
    omega
def srtD (l : List Int) : List Int := srt (l.filter fun x => decide (0 < x))
theorem srtD_part (l : List Int) : Part (srtD l) := ⟨srt_falls _, fun x hx => of_decide_eq_true (List.mem_filter.mp ((srt_perm _).mem_iff.mp hx)).2⟩
theorem filt_sum : ∀ {l : List Int}, (∀ x ∈ l, 0 ≤ x) → (l.filter fun x => decide (0 < x)).sum = l.sum
  | [], _ => rfl
  | x :: l, hn => by
    obtain ⟨n1, n2⟩ := nn_cons hn
    rw [List.filter_cons]
    by_cases c : 0 < x
    · rw [if_pos (decide_eq_true c), List.sum_cons, List.sum_cons, filt_sum n2]
    · rw [if_neg (by simpa using c), List.sum_cons, filt_sum n2]
      omega
theorem filt_mS (k : Nat) : ∀ {l : List Int}, (∀ x ∈ l, 0 ≤ x) → mS k (l.filter fun x => decide (0 < x)) = mS k l
  | [], _ => rfl
  | x :: l, hn => by
    obtain ⟨n1, n2⟩ := nn_cons hn
    rw [List.filter_cons]
    by_cases c : 0 < x
    · rw [if_pos (decide_eq_true c), mS_cons, mS_cons, filt_mS k n2]
    · rw [if_neg (by simpa using c), mS_cons, filt_mS k n2]
      unfold minN
      rw [if_pos (by omega)]
      omega
theorem srtD_sum {l : List Int} (h : ∀ x ∈ l, 0 ≤ x) : (srtD l).sum = l.sum := by
  rw [← filt_sum h]
  exact perm_sum (srt_perm _)
theorem srtD_heads {l : List Int} (h : ∀ x ∈ l, 0 ≤ x) (m : Nat) : ((conj (srtD l)).take m).sum = mS m l := by
  rw [conj_take (srtD_part l), ← filt_mS m h]
  exact perm_sum ((srt_perm _).map _)
/-- whether there is a table with row sums rs and column sums c, by partitions -/
def domH (rs c : List Int) : Bool := decide (rs.sum = c.sum) && rs.all (fun x => decide (x ≤ c.length)) && domB (conj (srtD c)) (srtD rs)
theorem mS_len : ∀ c : List Int, mS 1 c ≤ c.length
  | [] => Int.le_refl _
  | x :: c => by
    have := mS_len c
    rw [mS_cons, List.length_cons]
    unfold minN
    split <;> omega
theorem domH_iff {rs c : List Int} (hr : ∀ x ∈ rs, 0 ≤ x) (hc : ∀ x ∈ c, 0 ≤ x) : domH rs c = true ↔ ∃ t, fits c rs t := by
  unfold domH
  rw [Bool.and_eq_true, Bool.and_eq_true, decide_eq_true_eq, domB_iff]
  constructor
  · rintro ⟨⟨h1, h2⟩, h3⟩
    refine fits_suff hc hr h1 fun K hK => ?_
    obtain ⟨K', p1, p2⟩ := perm_sub (srt_perm (rs.filter fun x => decide (0 < x))).symm (hK.filter fun x => decide (0 < x))
    have e1 := sub_head (srt_falls _) p2
    have e2 := h3.2 K'.length
    rw [srtD_heads hc] at e2
    have e3 : K'.length ≤ K.length := by rw [p1.length_eq]; exact List.length_filter_le ..
    have e4 := mS_mono e3 c
    have e5 : K.sum = K'.sum := by rw [perm_sum p1, filt_sum fun x hx => hr x (hK.subset hx)]
    have e6 : (srt (rs.filter fun x => decide (0 < x))) = srtD rs := rfl
    rw [e6] at e1
    omega
  · rintro ⟨t, ht⟩
    obtain ⟨h1, h2⟩ := fits_nec ht hc
    have bound : ∀ m, ((srtD rs).take m).sum ≤ mS m c := fun m => by
      obtain ⟨K', p1, p2⟩ := perm_sub (srt_perm (rs.filter fun x => decide (0 < x))) (List.take_sublist m (srtD rs))
      have := h2 K' (p2.trans List.filter_sublist)
      rw [perm_sum p1] at this
      have e3 : K'.length ≤ m := by rw [p1.length_eq]; exact List.length_take_le ..
      exact Int.le_trans this (mS_mono e3 c)
    refine ⟨⟨h1, List.all_eq_true.mpr fun x hx => decide_eq_true ?_⟩, ?_, fun m => by rw [srtD_heads hc]; exact bound m⟩
    · have := h2 [x] (List.singleton_sublist.mpr hx)
      have a : x + 0 ≤ mS 1 c := this
      have := mS_len c
      omega
    · rw [conj_sum (srtD_part c), srtD_sum hc, srtD_sum hr, h1]
end DL

set_option maxHeartbeats 4000000
namespace DL
open PySem PySem.Spec PyProof.Rows L2
local macro_rules | `(tactic| walk_at "nx") => `(tactic| ((try dsimp only); rw [sSeq_ev]; (try simp [-sSeq_ev, -compL_cons, -forL_cons])))
/-! the laws' tables with sums (box) -/
def W_bitsL : WS :=
  (sSeq (sAsg (wFrz (wLst (wCons (wTup wNil) wNil))) (gN 1))
    (sSeq (sFor (wRange1 (wCons (wVar 0) wNil)) (gN 2) (sSeq (sAsg (wOwn (wLst wNil)) (gN 3))
    (sSeq (sFor (wIt (wVar 1)) (gN 4) (sExpr (wMt mExtend (wVar 3) (wCons (wFrz (wLst (wCons (wOp oAdd (wVar 4) (wTup (wCons (wC (.int 0)) wNil))) (wCons (wOp oAdd (wVar 4) (wTup (wCons (wC (.int 1)) wNil))) wNil)))) wNil))))
    (sAsg (wVarFrz 3) (gN 1)))))
    (sRet (wVar 1))))
def W_rows_of (c__law_bits : Ct) : WS :=
  (sRet (wFrz (wComp [2] (wIt (wCall c__law_bits (wCons (wVar 0) wNil))) (gN 2) (wTst (wOp oEq (wCall cSum (wCons (wVar 2) wNil)) (wVar 1))) (wVar 2))))
def W_allT (c__law_rows_of : Ct) : WS :=
  (sSeq (sAsg (wFrz (wLst (wCons (wTup (wCons (wTup wNil) (wCons (wVar 1) wNil))) wNil))) (gN 2))
    (sSeq (sFor (wIt (wVar 0)) (gN 3) (sSeq (sAsg (wOwn (wLst wNil)) (gN 4))
    (sSeq (sFor (wIt (wVar 2)) (gTup2 2 (gCons2 (gN 5) (gCons2 (gN 6) gNil2))) (sFor (wIt (wCall c__law_rows_of (wCons (wCall cLen (wCons (wVar 1) wNil)) (wCons (wVar 3) wNil)))) (gN 7) (sSeq (sAsg (wCall cTuple (wCons (wFrz (wComp [9] (wRange1 (wCons (wCall cLen (wCons (wVar 1) wNil)) wNil)) (gN 9) wYes (wOp oSub (wOp oIx (wVar 6) (wVar 9)) (wOp oIx (wVar 7) (wVar 9))))) wNil)) (gN 8))
    (sIf (wTst (wOp oGe (wCall cMin1 (wCons (wVar 8) wNil)) (wC (.int 0)))) (sExpr (wMt mAppend (wVar 4) (wCons (wTup (wCons (wOp oAdd (wVar 5) (wTup (wCons (wVar 7) wNil))) (wCons (wVar 8) wNil))) wNil))) sNext))))
    (sAsg (wVarFrz 4) (gN 2)))))
    (sRet (wFrz (wComp [5, 6] (wIt (wVar 2)) (gTup2 2 (gCons2 (gN 5) (gCons2 (gN 6) gNil2))) (wTst (wOp oEq (wCall cMax1 (wCons (wVar 6) wNil)) (wC (.int 0)))) (wVar 5))))))
def W_tableB (c__law_draw : Ct) : WS :=
  (sSeq (sAsg (wTup (wCons (wOp oAdd (wC (.int 1)) (wCall c__law_draw (wCons (wVar 0) (wCons (wC (.int 6)) wNil)))) (wCons (wCall c__law_draw (wCons (wVar 0) (wCons (wC (.int 4)) wNil))) wNil))) (gTup2 2 (gCons2 (gN 3) (gCons2 (gN 4) gNil2))))
    (sSeq (sAsg (wOwn (wLst wNil)) (gN 5))
    (sSeq (sFor (wRange1 (wCons (wVar 1) wNil)) (gN 6) (sSeq (sAsg (wFrz (wComp [8] (wRange1 (wCons (wVar 2) wNil)) (gN 8) wYes (wIf (wTst (wOp oLt (wCall c__law_draw (wCons (wVar 0) (wCons (wC (.int 7)) wNil))) (wVar 3))) (wC (.int 1)) (wC (.int 0))))) (gN 7))
    (sExpr (wMt mAppend (wVar 5) (wCons (wIf (wTst (wOp oEq (wVar 4) (wC (.int 0)))) (wCall cTuple (wCons (wFrz (wCall cSorted (wCons (wVar 7) wNil))) wNil)) (wIf (wTst (wOp oEq (wVar 4) (wC (.int 1)))) (wCall cTuple (wCons (wFrz (wRevL (wFrz (wCall cSorted (wCons (wVar 7) wNil))))) wNil)) (wCall cTuple (wCons (wVar 7) wNil)))) wNil)))))
    (sRet (wCall cTuple (wCons (wVar 5) wNil))))))
def W_drawn_sums (c__law_draw : Ct) (c__law_table : Ct) (c__law_sums : Ct) : WS :=
  (sSeq (sAsg (wTup (wCons (wOp oAdd (wC (.int 1)) (wCall c__law_draw (wCons (wVar 0) (wCons (wVar 1) wNil)))) (wCons (wOp oAdd (wC (.int 1)) (wCall c__law_draw (wCons (wVar 0) (wCons (wVar 1) wNil)))) (wCons (wCall c__law_draw (wCons (wVar 0) (wCons (wC (.int 4)) wNil))) wNil)))) (gTup2 3 (gCons2 (gN 2) (gCons2 (gN 3) (gCons2 (gN 4) gNil2)))))
    (sSeq (sAsg (wCall c__law_sums (wCons (wCall c__law_table (wCons (wVar 0) (wCons (wVar 2) (wCons (wVar 3) wNil)))) wNil)) (gTup2 2 (gCons2 (gN 5) (gCons2 (gN 6) gNil2))))
    (sSeq (sIf (wTst (wOp oEq (wVar 4) (wC (.int 0)))) (sAsg (wCall cTuple (wCons (wFrz (wComp [7] (wRange1 (wCons (wVar 2) wNil)) (gN 7) wYes (wCall c__law_draw (wCons (wVar 0) (wCons (wOp oAdd (wVar 3) (wC (.int 2))) wNil))))) wNil)) (gN 5)) sNext)
    (sSeq (sIf (wTst (wOp oEq (wVar 4) (wC (.int 1)))) (sSeq (sAsg (wTup (wCons (wCall c__law_draw (wCons (wVar 0) (wCons (wVar 2) wNil))) (wCons (wCall c__law_draw (wCons (wVar 0) (wCons (wVar 2) wNil))) wNil))) (gTup2 2 (gCons2 (gN 7) (gCons2 (gN 8) gNil2))))
    (sAsg (wCall cTuple (wCons (wFrz (wComp [10, 11] (wEnumA (wCons (wVar 5) wNil)) (gTup2 2 (gCons2 (gN 10) (gCons2 (gN 11) gNil2))) wYes (wOp oSub (wOp oAdd (wVar 11) (wIf (wTst (wOp oEq (wVar 10) (wVar 7))) (wC (.int 1)) (wC (.int 0)))) (wIf (bAnd (wTst (wOp oEq (wVar 10) (wVar 8))) (wTst (wOp oGt (wVar 11) (wC (.int 0))))) (wC (.int 1)) (wC (.int 0)))))) wNil)) (gN 5))) sNext)
    (sSeq (sIf (bAnd (wTst (wOp oEq (wVar 4) (wC (.int 2)))) (wTst (wOp oEq (wCall c__law_draw (wCons (wVar 0) (wCons (wC (.int 2)) wNil))) (wC (.int 0))))) (sSeq (sAsg (wTup (wCons (wCall c__law_draw (wCons (wVar 0) (wCons (wVar 3) wNil))) (wCons (wCall c__law_draw (wCons (wVar 0) (wCons (wVar 3) wNil))) wNil))) (gTup2 2 (gCons2 (gN 9) (gCons2 (gN 8) gNil2))))
    (sAsg (wCall cTuple (wCons (wFrz (wComp [10, 12] (wEnumA (wCons (wVar 6) wNil)) (gTup2 2 (gCons2 (gN 10) (gCons2 (gN 12) gNil2))) wYes (wOp oSub (wOp oAdd (wVar 12) (wIf (wTst (wOp oEq (wVar 10) (wVar 9))) (wC (.int 1)) (wC (.int 0)))) (wIf (bAnd (wTst (wOp oEq (wVar 10) (wVar 8))) (wTst (wOp oGt (wVar 12) (wC (.int 0))))) (wC (.int 1)) (wC (.int 0)))))) wNil)) (gN 6))) sNext)
    (sRet (wTup (wCons (wVar 5) (wCons (wVar 6) wNil)))))))))
def bitsL : Nat → List (List Int)
  | 0 => [[]]
  | n + 1 => (bitsL n).flatMap fun r => [r ++ [0], r ++ [1]]
theorem two_len (l : List (List Int)) : (l.flatMap fun r => [r ++ [0], r ++ [1]]).length = 2 * l.length := by
  induction l with
  | nil => rfl
  | cons x l ih =>
    rw [List.flatMap_cons, List.length_append, ih]
    simp
    omega
theorem bitsL_len : ∀ n, (bitsL n).length = 2 ^ n
  | 0 => rfl
  | n + 1 => by
    rw [bitsL, two_len, bitsL_len n, Nat.pow_succ]
    omega
theorem bitsL_mem : ∀ {n : Nat} {r : List Int}, r ∈ bitsL n ↔ r.length = n ∧ ∀ x ∈ r, x = 0 ∨ x = 1
  | 0, r => by
    show r ∈ [[]] ↔ _
    rw [List.mem_singleton]
    exact ⟨fun e => by rw [e]; exact ⟨rfl, fun x hx => absurd hx List.not_mem_nil⟩, fun h => List.length_eq_zero_iff.mp h.1⟩
  | n + 1, r => by
    rw [bitsL, List.mem_flatMap]
    constructor
    · rintro ⟨s, hs, h⟩
      obtain ⟨h1, h2⟩ := bitsL_mem.mp hs
      have : r = s ++ [0] ∨ r = s ++ [1] := by simpa using h
      rcases this with e | e <;> (subst e; refine ⟨by simp [h1], fun x hx => ?_⟩; rcases List.mem_append.mp hx with k | k)
      · exact h2 x k
      · exact .inl (List.mem_singleton.mp k)
      · exact h2 x k
      · exact .inr (List.mem_singleton.mp k)
    · rintro ⟨h1, h2⟩
      rcases List.eq_nil_or_concat r with e | ⟨s, x, e⟩
      · subst e; cases h1
      · rw [List.concat_eq_append] at e
        subst e
        refine ⟨s, bitsL_mem.mpr ⟨by simpa using h1, fun y hy => h2 y (List.mem_append.mpr (.inl hy))⟩, ?_⟩
        rcases h2 x (List.mem_append.mpr (.inr (List.mem_singleton.mpr rfl))) with e | e <;> (subst e; simp)
def C_bitsL : Ct := fun xs S Q => ∃ n : Nat, xs = [.int n] ∧ n ≤ 16 ∧ Q (.lst ((bitsL n).map rowF)) S
theorem mono_C_bitsL : MonoC C_bitsL := fun xs S Q Q' k ⟨n, e, h, q⟩ => ⟨n, e, h, k _ _ q⟩
theorem sp_bitsL (fs : List F) (S : Sto) (Q) (h : C_bitsL fs S Q) : fs.length = 1 ∧ W_bitsL { nx := fun _ S' => Q .non (restr S S'), rt := fun d S' => Q d (restr S S') } (startF 5 fs) S := by
  obtain ⟨n, rfl, hn, q⟩ := h
  refine ⟨rfl, ?_⟩
  show W_bitsL _ [some (.int n), none, none, none, none] S
  unfold W_bitsL
  walk_at "nx"
  walk_at "nx"
  refine ⟨by omega, ?_⟩
  refine forL_rng (fun i ρ S' => (∀ a, (S a).isSome = true → S' a = S a) ∧ ∃ o2 o3 o4 : Option F, ρ = [some (.int n), some (.lst ((bitsL i).map rowF)), o2, o3, o4]) ⟨fun _ _ => rfl, _, _, _, rfl⟩ (fun _ _ _ _ => trivial) (fun i hi ρ S' N ⟨kS, o2, o3, o4, eρ⟩ hN => ?_) (fun ρ S' ⟨kS, o2, o3, o4, eρ⟩ => ?_)
  · subst eρ
    have l0 := bitsL_len i
    have l1 : 2 ^ i ≤ 2 ^ 15 := Nat.pow_le_pow_right (by decide) (by omega)
    simp [-compL_cons, -sSeq_ev, -forL_cons]
    walk_at "nx"
    intro p hp
    have hpS : ∀ a, (S a).isSome = true → a ≠ p := fun a ha e => by
      have := kS a ha
      rw [e, hp] at this
      rw [e, ← this] at ha
      cases ha
    walk_at "nx"
    refine forL_list rowF (bitsL i) (fun ys ρ S2 => S2 = updS S' p ((ys.flatMap fun r => [r ++ [0], r ++ [1]]).map rowF) ∧ ys.length ≤ 2 ^ 15 ∧ ∃ o4 : Option F, ρ = [some (.int n), some (.lst ((bitsL i).map rowF)), some (.int i), some (.loc p), o4]) ⟨rfl, by simp, _, rfl⟩ (fun _ _ _ _ => trivial) (fun ys r zs hx ρ S2 M ⟨eS, hl, o4, eρ⟩ hM => ?_) (fun ρ S2 ⟨eS, hl, o4, eρ⟩ => ?_)
    · subst eS eρ
      have hr : r ∈ bitsL i := by rw [hx]; simp
      have h1 := (bitsL_mem.mp hr).1
      have h2 : ys.length + 1 ≤ 2 ^ 15 := by
        have := congrArg List.length hx
        rw [List.length_append, List.length_cons] at this
        omega
      simp [rowF, updS_same]
      have e3 := two_len ys
      refine ⟨mil (by omega), ?_, ?_⟩
      · have : (ys.flatMap fun r => [r ++ [0], r ++ [1]]).length + 2 ≤ 1000000 := by omega
        have := mil this
        simpa using this
      · refine hM _ _ ⟨?_, by simpa using h2, some (rowF r), rfl⟩
        rw [updS_updS, List.flatMap_append]
        congr 1
        simp [rowF]
    · subst eS eρ
      simp [updS_same]
      refine hN _ _ ⟨fun a ha => ?_, some (.int i), some (.loc p), o4, rfl⟩
      · show delS _ p a = S a
        rw [delS_ne (hpS a ha), updS_ne (hpS a ha)]
        exact kS a ha
  · subst eρ
    simp
    rw [restr_eq kS]
    exact q
def rowsOf (n : Nat) (t : Int) : List (List Int) := (bitsL n).filter fun r => decide (r.sum = t)
theorem rowsOf_mem {n : Nat} {t : Int} {r : List Int} : r ∈ rowsOf n t ↔ r.length = n ∧ (∀ x ∈ r, x = 0 ∨ x = 1) ∧ r.sum = t := by
  unfold rowsOf
  rw [List.mem_filter, bitsL_mem, decide_eq_true_eq, and_assoc]
theorem rowsOf_len (n : Nat) (t : Int) : (rowsOf n t).length ≤ 2 ^ n := by
  rw [← bitsL_len n]
  exact List.length_filter_le ..
def C_rows_of : Ct := fun xs S Q => ∃ (n : Nat) (t : Int), xs = [.int n, .int t] ∧ n ≤ 16 ∧ Q (.lst ((rowsOf n t).map rowF)) S
theorem mono_C_rows_of : MonoC C_rows_of := fun xs S Q Q' k ⟨n, t, e, h, q⟩ => ⟨n, t, e, h, k _ _ q⟩
theorem sp_rows_of (fs : List F) (S : Sto) (Q) (h : C_rows_of fs S Q) : fs.length = 2 ∧ W_rows_of C_bitsL { nx := fun _ S' => Q .non S', rt := fun d S' => Q d S' } (startF 3 fs) S := by
  obtain ⟨n, t, rfl, hn, q⟩ := h
  refine ⟨rfl, ?_⟩
  show W_rows_of _ _ [some (.int n), some (.int t), none] S
  have l0 := bitsL_len n
  have l1 : 2 ^ n ≤ 2 ^ 16 := Nat.pow_le_pow_right (by decide) hn
  unfold W_rows_of
  simp [-sSeq_ev, -compL_cons, -forL_cons]
  refine ⟨n, rfl, hn, ?_⟩
  simp [-sSeq_ev, -compL_cons, -forL_cons]
  refine ⟨mil (by omega), ?_⟩
  refine compL_filterT rowF (fun r => decide (r.sum = t)) rowF trivial (bitsL n) _ (fun r hr A N hA hN => ?_) ?_
  · simp [rowF] at hA hN ⊢
    split
    · rename_i c
      exact hA c
    · rename_i c
      exact hN c
  · simpa [rowsOf] using q
theorem bitV_iff : ∀ {l v : List Int}, bitV l v ↔ v.length = l.length ∧ (∀ x ∈ v, x = 0 ∨ x = 1) ∧ ∀ x ∈ subV l v, 0 ≤ x
  | [], [] => by simp [bitV, subV]
  | [], _ :: _ => by simp [bitV]
  | _ :: _, [] => by simp [bitV]
  | x :: l, b :: v => by
    have e : subV (x :: l) (b :: v) = (x - b) :: subV l v := rfl
    have f : bitV (x :: l) (b :: v) ↔ (b = 0 ∨ b = 1) ∧ 0 ≤ x - b ∧ bitV l v := Iff.rfl
    rw [e, f, bitV_iff (l := l), List.length_cons, List.length_cons, List.forall_mem_cons, List.forall_mem_cons]
    constructor
    · rintro ⟨h1, h2, h3, h4, h5⟩
      exact ⟨by omega, ⟨h1, h4⟩, h2, h5⟩
    · rintro ⟨h1, ⟨h2, h3⟩, h4, h5⟩
      exact ⟨h2, h4, by omega, h3, h5⟩
/-- the states of the law's search -/
abbrev St2 := List (List Int) × List Int
def nnB (l : List Int) : Bool := l.all fun x => decide (0 ≤ x)
def nextA (n : Nat) (total : Int) (p : St2) : List St2 := ((rowsOf n total).filter fun r => nnB (subV p.2 r)).map fun r => (p.1 ++ [r], subV p.2 r)
def foldA (cols rows : List Int) : List St2 := rows.foldl (fun found t => found.flatMap (nextA cols.length t)) [([], cols)]
def allT (rows cols : List Int) : List (List (List Int)) := ((foldA cols rows).filter fun p => p.2.all fun x => decide (x = 0)).map fun p => p.1
theorem foldA_snoc (cols ys : List Int) (t : Int) : foldA cols (ys ++ [t]) = (foldA cols ys).flatMap (nextA cols.length t) := by
  unfold foldA
  rw [List.foldl_append]
  rfl
theorem nextA_mem {n : Nat} {total : Int} {p q : St2} (h : p.2.length = n) : q ∈ nextA n total p ↔ ∃ v, bitV p.2 v ∧ v.sum = total ∧ q = (p.1 ++ [v], subV p.2 v) := by
  unfold nextA
  rw [List.mem_map]
  constructor
  · rintro ⟨v, hv, rfl⟩
    obtain ⟨h1, h2⟩ := List.mem_filter.mp hv
    obtain ⟨a1, a2, a3⟩ := rowsOf_mem.mp h1
    exact ⟨v, bitV_iff.mpr ⟨by omega, a2, fun x hx => of_decide_eq_true (List.all_eq_true.mp h2 x hx)⟩, a3, rfl⟩
  · rintro ⟨v, hv, hs, rfl⟩
    obtain ⟨a1, a2, a3⟩ := bitV_iff.mp hv
    exact ⟨v, List.mem_filter.mpr ⟨rowsOf_mem.mpr ⟨by omega, a2, hs⟩, List.all_eq_true.mpr fun x hx => decide_eq_true (a3 x hx)⟩, rfl⟩
def runs : List Int → List Int → List (List Int) → List Int → Prop
  | l, [], [], l' => l' = l
  | l, r :: rs, v :: t, l' => bitV l v ∧ v.sum = r ∧ runs (subV l v) rs t l'
  | _, _, _, _ => False
theorem runs_len : ∀ {rs l : List Int} {t : List (List Int)} {l' : List Int}, runs l rs t l' → t.length = rs.length ∧ l'.length = l.length
  | [], l, [], l', h => ⟨rfl, by rw [h]⟩
  | r :: rs, l, v :: t, l', h => by
    obtain ⟨h1, h2⟩ := runs_len h.2.2
    rw [subV_len h.1] at h2
    exact ⟨by rw [List.length_cons, List.length_cons, h1], h2⟩
  | [], _, _ :: _, _, h => h.elim
  | _ :: _, _, [], _, h => h.elim
theorem runs_nn : ∀ {rs l : List Int} {t : List (List Int)} {l' : List Int}, runs l rs t l' → (∀ x ∈ l, 0 ≤ x) → ∀ x ∈ l', 0 ≤ x
  | [], l, [], l', h, hn => by rw [h]; exact hn
  | r :: rs, l, v :: t, l', h, hn => runs_nn h.2.2 (subV_nn h.1)
  | [], _, _ :: _, _, h, _ => h.elim
  | _ :: _, _, [], _, h, _ => h.elim
theorem runs_snoc : ∀ {rs l : List Int} {t : List (List Int)} {l1 : List Int} {r : Int} {v : List Int}, runs l rs t l1 → bitV l1 v → v.sum = r → runs l (rs ++ [r]) (t ++ [v]) (subV l1 v)
  | [], l, [], l1, r, v, h, h1, h2 => by
    have e : l1 = l := h
    subst e
    exact ⟨h1, h2, rfl⟩
  | _ :: rs, l, _ :: t, l1, r, v, h, h1, h2 => ⟨h.1, h.2.1, runs_snoc h.2.2 h1 h2⟩
  | [], _, _ :: _, _, _, _, h, _, _ => h.elim
  | _ :: _, _, [], _, _, _, h, _, _ => h.elim
theorem runs_split : ∀ {rs l : List Int} {t : List (List Int)} {l' : List Int} {r : Int}, runs l (rs ++ [r]) t l' → ∃ t1 v l1, t = t1 ++ [v] ∧ runs l rs t1 l1 ∧ bitV l1 v ∧ v.sum = r ∧ l' = subV l1 v
  | [], l, v :: [], l', r, h => ⟨[], v, l, rfl, rfl, h.1, h.2.1, h.2.2⟩
  | [], l, _ :: _ :: _, _, _, h => h.2.2.elim
  | x :: rs, l, v :: t, l', r, h => by
    obtain ⟨t1, w, l1, e, h1, h2, h3, h4⟩ := runs_split h.2.2
    exact ⟨v :: t1, w, l1, by rw [e]; rfl, ⟨h.1, h.2.1, h1⟩, h2, h3, h4⟩
  | [], _, [], _, _, h => h.elim
  | _ :: _, _, [], _, _, h => h.elim
theorem foldA_mem (cols : List Int) (n : Nat) : ∀ (rows : List Int), rows.length = n → ∀ p : St2, p ∈ foldA cols rows ↔ runs cols rows p.1 p.2 := by
  induction n with
  | zero =>
    intro rows hr p
    rw [List.length_eq_zero_iff.mp hr]
    show p ∈ [([], cols)] ↔ _
    obtain ⟨t, l⟩ := p
    rw [List.mem_singleton]
    constructor
    · intro e
      obtain ⟨rfl, rfl⟩ := Prod.mk.inj e
      exact rfl
    · intro h
      cases t with
      | nil =>
        have e : l = cols := h
        rw [e]
      | cons => exact h.elim
  | succ n ih =>
    intro rows hr p
    rcases List.eq_nil_or_concat rows with e | ⟨ys, r, e⟩
    · subst e; cases hr
    · rw [List.concat_eq_append] at e
      subst e
      have hy : ys.length = n := by simpa using hr
      rw [foldA_snoc, List.mem_flatMap]
      constructor
      · rintro ⟨q, hq, h⟩
        have hq := (ih ys hy q).mp hq
        obtain ⟨v, h1, h2, rfl⟩ := (nextA_mem (runs_len hq).2).mp h
        exact runs_snoc hq h1 h2
      · intro h
        obtain ⟨t1, v, l1, e, h1, h2, h3, h4⟩ := runs_split h
        exact ⟨(t1, l1), (ih ys hy (t1, l1)).mpr h1, (nextA_mem (runs_len h1).2).mpr ⟨v, h2, h3, Prod.ext e h4⟩⟩
theorem fits_runs : ∀ {rs c : List Int} {t : List (List Int)}, fits c rs t ↔ ∃ l, runs c rs t l ∧ ∀ x ∈ l, x = 0
  | [], c, [] => ⟨fun h => ⟨c, rfl, h⟩, fun ⟨l, e, h⟩ => by
    have e : l = c := e
    rw [← e]
    exact h⟩
  | r :: rs, c, v :: t => by
    have f : fits c (r :: rs) (v :: t) ↔ bitV c v ∧ v.sum = r ∧ fits (subV c v) rs t := Iff.rfl
    rw [f, fits_runs (rs := rs)]
    exact ⟨fun ⟨h1, h2, l, h3, h4⟩ => ⟨l, ⟨h1, h2, h3⟩, h4⟩, fun ⟨l, ⟨h1, h2, h3⟩, h4⟩ => ⟨h1, h2, l, h3, h4⟩⟩
  | [], _, _ :: _ => ⟨fun h => h.elim, fun ⟨_, h, _⟩ => h.elim⟩
  | _ :: _, _, [] => ⟨fun h => h.elim, fun ⟨_, h, _⟩ => h.elim⟩
theorem allT_mem {rows cols : List Int} {t : List (List Int)} : t ∈ allT rows cols ↔ fits cols rows t := by
  unfold allT
  rw [fits_runs, List.mem_map]
  constructor
  · rintro ⟨p, hp, rfl⟩
    obtain ⟨h1, h2⟩ := List.mem_filter.mp hp
    exact ⟨p.2, (foldA_mem cols _ rows rfl p).mp h1, fun x hx => of_decide_eq_true (List.all_eq_true.mp h2 x hx)⟩
  · rintro ⟨l, h1, h2⟩
    exact ⟨(t, l), List.mem_filter.mpr ⟨(foldA_mem cols _ rows rfl (t, l)).mpr h1, List.all_eq_true.mpr fun x hx => decide_eq_true (h2 x hx)⟩, rfl⟩
theorem flat_len {α β : Type} (f : α → List β) (B : Nat) : ∀ l : List α, (∀ x ∈ l, (f x).length ≤ B) → (l.flatMap f).length ≤ l.length * B
  | [], _ => by simp
  | x :: l, h => by
    have := flat_len f B l fun y hy => h y (List.mem_cons_of_mem _ hy)
    have := h x (List.mem_cons_self ..)
    rw [List.flatMap_cons, List.length_append, List.length_cons, Nat.succ_mul]
    omega
theorem nextA_len (n : Nat) (t : Int) (p : St2) : (nextA n t p).length ≤ 2 ^ n := by
  unfold nextA
  rw [List.length_map]
  exact Nat.le_trans (List.length_filter_le ..) (rowsOf_len n t)
theorem foldA_len (cols : List Int) (n : Nat) : ∀ rows : List Int, rows.length = n → (foldA cols rows).length ≤ (2 ^ cols.length) ^ n := by
  induction n with
  | zero =>
    intro rows hr
    rw [List.length_eq_zero_iff.mp hr]
    exact Nat.le_refl _
  | succ n ih =>
    intro rows hr
    rcases List.eq_nil_or_concat rows with e | ⟨ys, r, e⟩
    · subst e; cases hr
    · rw [List.concat_eq_append] at e
      subst e
      have hy : ys.length = n := by simpa using hr
      rw [foldA_snoc, Nat.pow_succ]
      exact Nat.le_trans (flat_len _ (2 ^ cols.length) _ fun p _ => nextA_len _ _ p) (Nat.mul_le_mul_right _ (ih ys hy))
end DL

set_option maxHeartbeats 4000000
namespace DL
open PySem PySem.Spec PyProof.Rows L2
local macro_rules | `(tactic| walk_at "nx") => `(tactic| ((try dsimp only); rw [sSeq_ev]; (try simp [-sSeq_ev, -compL_cons, -forL_cons])))
def C_allT : Ct := fun xs S Q => ∃ rows cols : List Int, xs = [rowF rows, rowF cols] ∧ rows.length ≤ 4 ∧ 1 ≤ cols.length ∧ cols.length ≤ 4 ∧ (∀ x ∈ cols, 0 ≤ x) ∧ Q (.lst ((allT rows cols).map tabF)) S
theorem mono_C_allT : MonoC C_allT := fun xs S Q Q' k ⟨r, c, e, h1, h2, h3, h4, q⟩ => ⟨r, c, e, h1, h2, h3, h4, k _ _ q⟩
def stF (p : St2) : F := .tup [tabF p.1, rowF p.2]
theorem subV_get : ∀ {l v : List Int}, v.length = l.length → subV l v = (List.range l.length).map fun j => l.getD j 0 - v.getD j 0
  | [], [], _ => rfl
  | x :: l, b :: v, h => by
    have ih := subV_get (l := l) (v := v) (by simpa using h)
    show (x - b) :: subV l v = _
    rw [ih, List.length_cons, List.range_succ_eq_map, List.map_cons, List.map_map]
    rfl
  | [], _ :: _, h => by cases h
  | _ :: _, [], h => by cases h
theorem foldA_ok {cols rows : List Int} (hc : ∀ x ∈ cols, 0 ≤ x) {p : St2} (h : p ∈ foldA cols rows) : p.1.length = rows.length ∧ p.2.length = cols.length ∧ ∀ x ∈ p.2, 0 ≤ x := by
  have h := (foldA_mem cols _ rows rfl p).mp h
  exact ⟨(runs_len h).1, (runs_len h).2, runs_nn h hc⟩
theorem sp_allT (fs : List F) (S : Sto) (Q) (h : C_allT fs S Q) : fs.length = 2 ∧ W_allT C_rows_of { nx := fun _ S' => Q .non (restr S S'), rt := fun d S' => Q d (restr S S') } (startF 10 fs) S := by
  obtain ⟨rows, cols, rfl, hr, hn1, hn2, hc, q⟩ := h
  refine ⟨rfl, ?_⟩
  show W_allT _ _ [some (rowF rows), some (rowF cols), none, none, none, none, none, none, none, none] S
  have p16 : ∀ i, i ≤ 4 → (2 ^ cols.length) ^ i ≤ 65536 := fun i hi =>
    Nat.le_trans (Nat.pow_le_pow_left (Nat.pow_le_pow_right (by decide) hn2) i) (Nat.pow_le_pow_right (show 0 < 2 ^ 4 by decide) hi)
  have pn : 2 ^ cols.length ≤ 16 := Nat.pow_le_pow_right (show 0 < 2 by decide) hn2
  unfold W_allT
  walk_at "nx"
  walk_at "nx"
  refine forL_list F.int rows (fun ys ρ S' => (∀ a, (S a).isSome = true → S' a = S a) ∧ ys.length ≤ rows.length ∧ ∃ o3 o4 o5 o6 o7 o8 : Option F, ρ = [some (rowF rows), some (rowF cols), some (.lst ((foldA cols ys).map stF)), o3, o4, o5, o6, o7, o8, none]) ⟨fun _ _ => rfl, Nat.zero_le _, _, _, _, _, _, _, rfl⟩ (fun _ _ _ _ => trivial)
    (fun ys total zs hx ρ S' N ⟨kS, hyl, o3, o4, o5, o6, o7, o8, eρ⟩ hN => ?_) (fun ρ S' ⟨kS, hyl, o3, o4, o5, o6, o7, o8, eρ⟩ => ?_)
  · subst eρ
    have hy1 : ys.length + 1 ≤ rows.length := by
      have := congrArg List.length hx
      rw [List.length_append, List.length_cons] at this
      omega
    have lf := foldA_len cols _ ys rfl
    have lf2 : (2 ^ cols.length) ^ ys.length ≤ 4096 := Nat.le_trans (Nat.pow_le_pow_left (Nat.pow_le_pow_right (by decide) hn2) _) (Nat.pow_le_pow_right (show 0 < 2 ^ 4 by decide) (show ys.length ≤ 3 by omega))
    simp [-compL_cons, -sSeq_ev, -forL_cons]
    walk_at "nx"
    intro p hp
    have hpS : ∀ a, (S a).isSome = true → a ≠ p := fun a ha e => by
      have := kS a ha
      rw [e, hp] at this
      rw [e, ← this] at ha
      cases ha
    walk_at "nx"
    refine forL_list stF (foldA cols ys) (fun us ρ S2 => S2 = updS S' p ((us.flatMap (nextA cols.length total)).map stF) ∧ us.length ≤ (foldA cols ys).length ∧ ∃ o5 o6 o7 o8 : Option F, ρ = [some (rowF rows), some (rowF cols), some (.lst ((foldA cols ys).map stF)), some (.int total), some (.loc p), o5, o6, o7, o8, none]) ⟨rfl, Nat.zero_le _, _, _, _, _, rfl⟩ (fun _ _ _ _ => trivial)
      (fun us st vs hx2 ρ S2 M ⟨eS, hul, o5, o6, o7, o8, eρ⟩ hM => ?_) (fun ρ S2 ⟨eS, hul, o5, o6, o7, o8, eρ⟩ => ?_)
    · subst eS eρ
      obtain ⟨t, l⟩ := st
      obtain ⟨k1, k2, k3⟩ := foldA_ok (p := (t, l)) hc (show (t, l) ∈ foldA cols ys by rw [hx2]; simp)
      dsimp only at k1 k2 k3
      have hu1 : us.length + 1 ≤ (foldA cols ys).length := by
        have := congrArg List.length hx2
        rw [List.length_append, List.length_cons] at this
        omega
      have lu := flat_len (nextA cols.length total) (2 ^ cols.length) us fun q _ => nextA_len _ _ q
      have lu2 : us.length * 2 ^ cols.length ≤ 4096 * 16 := Nat.mul_le_mul (by omega) pn
      simp [stF, tabF, rowF, -compL_cons, -sSeq_ev, -forL_cons]
      refine ⟨cols.length, total, rfl, by omega, ?_⟩
      dsimp only
      rw [onIt_lst]
      have lr := rowsOf_len cols.length total
      have nf : ∀ ws : List (List Int), ((us.flatMap (nextA cols.length total)) ++ ((ws.filter fun r => nnB (subV l r)).map fun r => (t ++ [r], subV l r))).length ≤ us.length * 2 ^ cols.length + ws.length := fun ws => by
        rw [List.length_append, List.length_map]
        have := List.length_filter_le (fun r => nnB (subV l r)) ws
        omega
      refine forL_list rowF (rowsOf cols.length total) (fun ws ρ S3 => S3 = updS S' p (((us.flatMap (nextA cols.length total)) ++ ((ws.filter fun r => nnB (subV l r)).map fun r => (t ++ [r], subV l r))).map stF) ∧ ws.length ≤ (rowsOf cols.length total).length ∧ ∃ o7 o8 : Option F, ρ = [some (rowF rows), some (rowF cols), some (.lst ((foldA cols ys).map stF)), some (.int total), some (.loc p), some (tabF t), some (rowF l), o7, o8, none]) ⟨by simp, Nat.zero_le _, _, _, rfl⟩ (fun _ _ _ _ => trivial)
        (fun ws r xs2 hx3 ρ S3 M2 ⟨eS, hwl, o7, o8, eρ⟩ hM2 => ?_) (fun ρ S3 ⟨eS, hwl, o7, o8, eρ⟩ => ?_)
      · subst eS eρ
        have hw1 : ws.length + 1 ≤ (rowsOf cols.length total).length := by
          have := congrArg List.length hx3
          rw [List.length_append, List.length_cons] at this
          omega
        obtain ⟨a1, a2, a3⟩ := rowsOf_mem.mp (show r ∈ rowsOf cols.length total by rw [hx3]; simp)
        have hg := subV_get (l := l) (v := r) (by omega)
        have hnf := nf ws
        simp [tabF, rowF, -compL_cons, -sSeq_ev, -forL_cons]
        walk_at "nx"
        refine ⟨by omega, mil (by omega), ?_⟩
        rw [rngL_map]
        refine compL_mapT (fun i : Nat => F.int (0 + (i : Int))) (fun j : Nat => .int (l.getD j 0 - r.getD j 0)) trivial _ _ (fun j hj Q2 q2 => ?_) ?_
        · have hj := List.mem_range.mp hj
          have e1 : l[j]? = some l[j] := List.getElem?_eq_getElem (by omega)
          have e2 : l.getD j 0 = l[j] := by simp [List.getD, e1]
          have e3 : r[j]? = some r[j] := List.getElem?_eq_getElem (by omega)
          have e4 : r.getD j 0 = r[j] := by simp [List.getD, e3]
          rw [e2, e4] at q2
          simp [atI_cast, e1, e3]
          exact q2
        · have e5 : [] ++ (List.range cols.length).map (fun j => F.int (l.getD j 0 - r.getD j 0)) = (subV l r).map F.int := by
            rw [hg, k2, List.map_map]
            rfl
          rw [e5]
          refine cMin1_t (fun e => by
            have := subV_len (bitV_iff.mpr ⟨show r.length = l.length by omega, a2, fun x hx => by rw [e] at hx; exact absurd hx List.not_mem_nil⟩)
            rw [e] at this
            have : 0 = l.length := this
            omega) fun M hM hmin => ?_
          by_cases c : 0 ≤ M
          · have hb : nnB (subV l r) = true := List.all_eq_true.mpr fun x hx => decide_eq_true (by have := hmin x hx; omega)
            simp [c, updS_same]
            refine ⟨mil (by omega), by have := mil (n := ((us.flatMap (nextA cols.length total)) ++ ((ws.filter fun r => nnB (subV l r)).map fun r => (t ++ [r], subV l r))).length + 1) (by omega); simp at this; omega, ?_⟩
            refine hM2 _ _ ⟨?_, by simpa using hw1, some (rowF r), some (.tup ((subV l r).map F.int)), rfl⟩
            rw [updS_updS, List.filter_append, List.filter_cons, if_pos hb]
            congr 1
            simp [stF, tabF, rowF]
          · have hb : ¬ nnB (subV l r) = true := fun h => c (of_decide_eq_true (List.all_eq_true.mp h M hM))
            simp [c]
            refine hM2 _ _ ⟨?_, by simpa using hw1, some (rowF r), some (.tup ((subV l r).map F.int)), rfl⟩
            rw [List.filter_append, List.filter_cons, if_neg hb]
            congr 1
            simp
      · subst eS eρ
        refine hM _ _ ⟨?_, by simpa using hu1, some (tabF t), some (rowF l), o7, o8, rfl⟩
        rw [List.flatMap_append, List.flatMap_singleton]
        rfl
    · subst eS eρ
      simp [updS_same]
      rw [foldA_snoc] at hN
      refine hN _ _ ⟨fun a ha => ?_, by simpa using hy1, some (.int total), some (.loc p), o5, o6, o7, o8, rfl⟩
      show delS _ p a = S a
      rw [delS_ne (hpS a ha), updS_ne (hpS a ha)]
      exact kS a ha
  · subst eρ
    have lf := foldA_len cols _ rows rfl
    have lf2 := p16 rows.length hr
    simp [-compL_cons]
    refine ⟨mil (by omega), ?_⟩
    refine compL_filterT stF (fun p => p.2.all fun x => decide (x = 0)) (fun p => tabF p.1) trivial _ _ (fun st hst A N hA hN => ?_) ?_
    · obtain ⟨t, l⟩ := st
      obtain ⟨k1, k2, k3⟩ := foldA_ok (p := (t, l)) hc hst
      dsimp only at k1 k2 k3 hA hN
      simp [stF, rowF, tabF]
      refine cMax1_t (fun e => by rw [e] at k2; have : 0 = cols.length := k2; omega) fun M hM hmax => ?_
      by_cases c : M = 0
      · simp [c]
        exact hA (List.all_eq_true.mpr fun x hx => decide_eq_true (by have := hmax x hx; have := k3 x hx; omega))
      · simp [c]
        refine hN ?_
        cases e : l.all fun x => decide (x = 0) with
        | false => rfl
        | true => exact absurd (of_decide_eq_true (List.all_eq_true.mp e M hM)) c
    · rw [List.nil_append]
      rw [restr_eq kS]
      rw [allT, List.map_map] at q
      exact q
end DL

set_option maxHeartbeats 4000000
namespace DL
open PySem PySem.Spec PyProof.Rows L2
local macro_rules | `(tactic| walk_at "nx") => `(tactic| ((try dsimp only); rw [sSeq_ev]; (try simp [-sSeq_ev, -compL_cons, -forL_cons])))
/-! drawn tables and sums (box) -/
def C_tableB : Ct := fun xs S Q => ∃ b c, ∃ m n : Nat, xs = [.loc b, .int (m : Int), .int (n : Int)] ∧ BoxAt S b c ∧ 1 ≤ m ∧ m ≤ 16 ∧ 1 ≤ n ∧ n ≤ 16 ∧ ∀ t S', Tab t m n → BoxAt S' b c → Fr S S' b c → Q (tabF t) S'
theorem mono_C_tableB : MonoC C_tableB := fun xs S Q Q' k ⟨b, c, m, n, e, h1, h2, h3, h4, h5, q⟩ => ⟨b, c, m, n, e, h1, h2, h3, h4, h5, fun t S' h1 h2 h3 => k _ _ (q t S' h1 h2 h3)⟩
theorem sp_tableB (fs : List F) (S : Sto) (Q) (h : C_tableB fs S Q) : fs.length = 3 ∧ W_tableB C_draw { nx := fun _ S' => Q .non (restr S S'), rt := fun d S' => Q d (restr S S') } (startF 9 fs) S := by
  obtain ⟨b, c, m, n, rfl, hb, m1, m2, n1, n2, q⟩ := h
  refine ⟨rfl, ?_⟩
  show W_tableB _ _ [some (.loc b), some (.int m), some (.int n), none, none, none, none, none, none] S
  unfold W_tableB
  walk_at "nx"
  refine call_draw hb (by decide) (by decide) fun th S1 hth hb1 f1 => ?_
  simp [-sSeq_ev, -compL_cons, -forL_cons]
  refine call_draw hb1 (by decide) (by decide) fun pick S2 hpick hb2 f2 => ?_
  walk_at "nx"
  intro p hp
  have hpb : p ≠ b := fun e => hb2.b (by rw [← e]; exact hp)
  have hpc : p ≠ c := fun e => hb2.c (by rw [← e]; exact hp)
  have hpS : S p = none := by rw [← hp, f2 p hpb hpc, f1 p hpb hpc]
  have f12 := f1.trans f2
  walk_at "nx"
  refine ⟨by omega, ?_⟩
  refine forL_rng (fun i ρ S' => BoxAt S' b c ∧ (∀ a, a ≠ b → a ≠ c → a ≠ p → S' a = S a) ∧ (∃ t : Tb, S' p = some (t.map rowF) ∧ t.length = i ∧ ∀ r ∈ t, r.length = n ∧ ∀ x ∈ r, x = 0 ∨ x = 1) ∧ ∃ o6 o7 : Option F, ρ = [some (.loc b), some (.int m), some (.int n), some (.int (1 + (th : Int))), some (.int pick), some (.loc p), o6, o7, none])
    ⟨hb2.upd hpb hpc, fun a h1 h2 h3 => by rw [updS_ne h3]; exact f12 a h1 h2, ⟨[], updS_same, rfl, fun r hr => absurd hr List.not_mem_nil⟩, _, _, rfl⟩ (fun _ _ _ _ => trivial)
    (fun i hi ρ S' N ⟨hb', f', ⟨t, et, lt, ht⟩, o6, o7, eρ⟩ hN => ?_) (fun ρ S' ⟨hb', f', ⟨t, et, lt, ht⟩, o6, o7, eρ⟩ => ?_)
  · subst eρ
    simp [-compL_cons, -sSeq_ev, -forL_cons]
    walk_at "nx"
    refine ⟨by omega, mil (by omega), ?_⟩
    refine compL_inv (fun acc S'' => BoxAt S'' b c ∧ (∀ a, a ≠ b → a ≠ c → S'' a = S' a) ∧ ∃ r : List Int, acc = r.map F.int ∧ ∀ x ∈ r, x = 0 ∨ x = 1) _ _ _ (fun _ _ _ => trivial)
      (fun x hx acc S4 Q4 ⟨hb4, f4, r, er, hr⟩ q4 => ?_) ⟨hb', fun _ _ _ => rfl, [], rfl, fun x hx => absurd hx List.not_mem_nil⟩ (fun acc S5 ⟨hb5, f5, r, er, hr⟩ hlen => ?_)
    · simp [-sSeq_ev, -compL_cons, -forL_cons]
      refine call_draw hb4 (by decide) (by decide) fun d S6 hd hb6 f6 => ?_
      have key : ∀ v : Int, v = 0 ∨ v = 1 → Q4 (.int v) S6 := fun v hv => q4 _ _ ⟨hb6, fun a h1 h2 => by rw [f6 a h1 h2]; exact f4 a h1 h2, r ++ [v], by simp [er], fun x hx => by
        rcases List.mem_append.mp hx with h | h
        · exact hr x h
        · rw [List.mem_singleton.mp h]; exact hv⟩
      simp
      split
      · exact key 1 (.inr rfl)
      · exact key 0 (.inl rfl)
    · subst er
      have hlr : r.length = n := by simpa using hlen
      have e5 : S5 p = some (t.map rowF) := by rw [f5 p hpb hpc]; exact et
      have fin : ∀ r2 : List Int, r2.Perm r → t.length < sizeLine ∧ N [some (.loc b), some (.int m), some (.int n), some (.int (1 + (th : Int))), some (.int pick), some (.loc p), some (.int i), some (.lst (r.map F.int)), none] (updS S5 p (t.map rowF ++ [F.tup (r2.map F.int)])) := fun r2 h2 => by
        refine ⟨by rw [lt]; have := mil (n := i + 1) (by omega); omega, ?_⟩
        refine hN _ _ ⟨hb5.upd hpb hpc, fun a h1 h2 h3 => by rw [updS_ne h3, f5 a h1 h2]; exact f' a h1 h2 h3, ⟨t ++ [r2], by rw [updS_same, List.map_append]; rfl, by simp [lt], fun q hq => ?_⟩, _, _, rfl⟩
        rcases List.mem_append.mp hq with h | h
        · exact ht q h
        · rw [List.mem_singleton.mp h]
          exact ⟨by rw [h2.length_eq, hlr], fun x hx => hr x (h2.mem_iff.mp hx)⟩
      have hsome : (S5 p).isSome = true := by rw [e5]; rfl
      simp [hsome]
      split
      · refine cSorted_l fun ms k1 k2 => ?_
        simp [e5]
        simpa using fin ms k1
      · split
        · refine cSorted_l fun ms k1 k2 => ?_
          have := fin ms.reverse ((List.reverse_perm ms).trans k1)
          simp [e5]
          simpa using this
        · simp [e5]
          simpa using fin r (.refl _)
  · subst eρ
    simp [et]
    have hl := lt
    refine q t _ ⟨⟨hl, fun r hr => (ht r hr).1, by omega, by omega, by omega, by omega⟩, fun r hr => (ht r hr).2⟩ (hb.restr hb') (fr_restr fun a h1 h2 h3 => f' a h1 h2 fun e => h3 (by rw [e]; exact hpS))
theorem bits_sum : ∀ {r : List Int}, (∀ x ∈ r, x = 0 ∨ x = 1) → 0 ≤ r.sum ∧ r.sum ≤ r.length
  | [], _ => ⟨Int.le_refl _, Int.le_refl _⟩
  | x :: r, h => by
    have := bits_sum fun y hy => h y (List.mem_cons_of_mem _ hy)
    have := h x (List.mem_cons_self ..)
    rw [List.sum_cons, List.length_cons]
    omega
def inB (B : Int) (l : List Int) : Prop := ∀ x ∈ l, 0 ≤ x ∧ x ≤ B
theorem tab_row_sums {t : Tb} {m n : Nat} (h : Tab t m n) : inB n (t.map List.sum) := fun x hx => by
  obtain ⟨r, hr, rfl⟩ := List.mem_map.mp hx
  have := bits_sum (h.bit r hr)
  rw [h.row r hr] at this
  exact this
theorem turn_bit {t : Tb} {m n : Nat} (h : Tab t m n) : ∀ r ∈ turn t n, r.length = m ∧ ∀ x ∈ r, x = 0 ∨ x = 1 := fun r hr => by
  unfold turn at hr
  obtain ⟨j, hj, rfl⟩ := List.mem_map.mp hr
  refine ⟨by rw [List.length_map, h.len], fun x hx => ?_⟩
  obtain ⟨r, hr, rfl⟩ := List.mem_map.mp hx
  have hj := List.mem_range.mp hj
  have hjr : j < r.length := by rw [h.row r hr]; exact hj
  have e : r[j]? = some r[j] := List.getElem?_eq_getElem hjr
  rw [List.getD_eq_getElem?_getD, e]
  exact h.bit r hr _ (List.getElem_mem _)
theorem tab_col_sums {t : Tb} {m n : Nat} (h : Tab t m n) : inB m ((turn t n).map List.sum) := fun x hx => by
  obtain ⟨r, hr, rfl⟩ := List.mem_map.mp hx
  obtain ⟨h1, h2⟩ := turn_bit h r hr
  have := bits_sum h2
  rw [h1] at this
  exact this
theorem turn_len (t : Tb) (n : Nat) : (turn t n).length = n := by simp [turn]
theorem inB.mono {B C : Int} {l : List Int} (h : inB B l) (k : B ≤ C) : inB C l := fun x hx => ⟨(h x hx).1, Int.le_trans (h x hx).2 k⟩
theorem sumsF (t : Tb) : (t.map fun r => F.int r.sum) = (t.map List.sum).map F.int := by
  rw [List.map_map]
  rfl
def C_drawn_sums : Ct := fun xs S Q => ∃ b c, ∃ side : Nat, xs = [.loc b, .int side] ∧ BoxAt S b c ∧ 1 ≤ side ∧ side ≤ 16 ∧ ∀ rs cs S', 1 ≤ rs.length → rs.length ≤ side → 1 ≤ cs.length → cs.length ≤ side → inB 40 rs → inB 40 cs → BoxAt S' b c → Fr S S' b c → Q (.tup [rowF rs, rowF cs]) S'
theorem mono_C_drawn_sums : MonoC C_drawn_sums := fun xs S Q Q' k ⟨b, c, s, e, h1, h2, h3, q⟩ => ⟨b, c, s, e, h1, h2, h3, fun rs cs S' a1 a2 a3 a4 a5 a6 a7 a8 => k _ _ (q rs cs S' a1 a2 a3 a4 a5 a6 a7 a8)⟩
/-- a row with one more at i, and one less at k -/
def shift (i k : Nat) (l : List Int) : List Int := (List.range l.length).map fun a => l.getD a 0 + (if a = i then 1 else 0) - if a = k ∧ 0 < l.getD a 0 then 1 else 0
theorem shift_ok {B : Int} {l : List Int} (h : inB B l) (i k : Nat) : (shift i k l).length = l.length ∧ inB (B + 1) (shift i k l) := by
  refine ⟨by simp [shift], fun x hx => ?_⟩
  obtain ⟨a, ha, rfl⟩ := List.mem_map.mp hx
  have ha := List.mem_range.mp ha
  have e : l[a]? = some l[a] := List.getElem?_eq_getElem ha
  have e2 : l.getD a 0 = l[a] := by simp [List.getD, e]
  have := h _ (List.getElem_mem ha)
  rw [e2]
  split <;> split <;> omega
theorem ite_shift {x : Int} {a i k : Nat} {R : F → Prop} (h : R (.int (x + (if a = i then 1 else 0) - if a = k ∧ 0 < x then 1 else 0))) :
    if (a : Int) = (i : Int) then if (a : Int) = (k : Int) then if 0 < x then R (.int x) else R (.int (x + 1)) else R (.int (x + 1))
    else if (a : Int) = (k : Int) then if 0 < x then R (.int (x - 1)) else R (.int x) else R (.int x) := by
  by_cases e1 : a = i
  · have f1 : (a : Int) = (i : Int) := by omega
    rw [if_pos f1]
    by_cases e2 : a = k
    · have f2 : (a : Int) = (k : Int) := by omega
      rw [if_pos f2]
      by_cases e3 : 0 < x
      · rw [if_pos e3]
        rw [if_pos e1, if_pos ⟨e2, e3⟩, Int.add_sub_cancel] at h
        exact h
      · rw [if_neg e3]
        rw [if_pos e1, if_neg fun z => e3 z.2, Int.sub_zero] at h
        exact h
    · rw [if_neg (show ¬ (a : Int) = (k : Int) by omega)]
      rw [if_pos e1, if_neg fun z => e2 z.1, Int.sub_zero] at h
      exact h
  · rw [if_neg (show ¬ (a : Int) = (i : Int) by omega)]
    by_cases e2 : a = k
    · have f2 : (a : Int) = (k : Int) := by omega
      rw [if_pos f2]
      by_cases e3 : 0 < x
      · rw [if_pos e3]
        rw [if_neg e1, if_pos ⟨e2, e3⟩, Int.add_zero] at h
        exact h
      · rw [if_neg e3]
        rw [if_neg e1, if_neg fun z => e3 z.2, Int.sub_zero, Int.add_zero] at h
        exact h
    · rw [if_neg (show ¬ (a : Int) = (k : Int) by omega)]
      rw [if_neg e1, if_neg fun z => e2 z.1, Int.sub_zero, Int.add_zero] at h
      exact h
theorem sp_drawn_sums (fs : List F) (S : Sto) (Q) (h : C_drawn_sums fs S Q) : fs.length = 2 ∧ W_drawn_sums C_draw C_tableB C_sums { nx := fun _ S' => Q .non S', rt := fun d S' => Q d S' } (startF 13 fs) S := by
  obtain ⟨b, c, side, rfl, hb, s1, s2, q⟩ := h
  refine ⟨rfl, ?_⟩
  show W_drawn_sums _ _ _ _ [some (.loc b), some (.int side), none, none, none, none, none, none, none, none, none, none, none] S
  unfold W_drawn_sums
  walk_at "nx"
  refine call_draw hb (by omega) (by omega) fun m0 S1 hm hb1 f1 => ?_
  simp [-sSeq_ev, -compL_cons, -forL_cons]
  refine call_draw hb1 (by omega) (by omega) fun n0 S2 hn hb2 f2 => ?_
  simp [-sSeq_ev, -compL_cons, -forL_cons]
  refine call_draw hb2 (by decide) (by decide) fun pick S3 hp hb3 f3 => ?_
  walk_at "nx"
  refine ⟨b, c, m0 + 1, n0 + 1, by simp; omega, hb3, by omega, by omega, by omega, by omega, fun t S4 ht hb4 f4 => ?_⟩
  simp [-sSeq_ev, -compL_cons, -forL_cons]
  refine ⟨t, _, _, rfl, ht.toRect, ?_⟩
  rw [sumsF, sumsF]
  have r1 := tab_row_sums ht
  have c1 := tab_col_sums ht
  have lr : (t.map List.sum).length = m0 + 1 := by rw [List.length_map, ht.len]
  have lc : ((turn t (n0 + 1)).map List.sum).length = n0 + 1 := by rw [List.length_map, turn_len]
  generalize t.map List.sum = rs at r1 lr
  generalize (turn t (n0 + 1)).map List.sum = cs at c1 lc
  have r1 := r1.mono (show ((n0 + 1 : Nat) : Int) ≤ 17 by omega)
  have c1 := c1.mono (show ((m0 + 1 : Nat) : Int) ≤ 17 by omega)
  have f14 := ((f1.trans f2).trans f3).trans f4
  simp [-sSeq_ev, -compL_cons, -forL_cons]
  let P : Int → Slots → Sto → Prop := fun B ρ S' => BoxAt S' b c ∧ Fr S S' b c ∧ ∃ (rs cs : List Int) (o7 o8 o9 : Option F), rs.length = m0 + 1 ∧ cs.length = n0 + 1 ∧ inB B rs ∧ inB B cs ∧ ρ = [some (.loc b), some (.int side), some (.int (1 + (m0 : Int))), some (.int (1 + (n0 : Int))), some (.int pick), some (rowF rs), some (rowF cs), o7, o8, o9, none, none, none]
  refine seq_via (P 20) (fun N hN => ?_) (fun ρ S5 ⟨hb5, f5, rs, cs, o7, o8, o9, l1, l2, b1, b2, eρ⟩ => ?_)
  · simp [-compL_cons, -sSeq_ev, -forL_cons]
    split
    · skip
      refine ⟨by omega, milI (by omega), ?_⟩
      rw [show (1 + (m0 : Int)).toNat = m0 + 1 by omega]
      refine compL_inv (fun acc S' => BoxAt S' b c ∧ Fr S S' b c ∧ ∃ r : List Int, acc = r.map F.int ∧ inB 20 r) _ _ _ (fun _ _ _ => trivial)
        (fun x hx acc S6 Q6 ⟨hb6, f6, r, er, hr⟩ q6 => ?_) ⟨hb4, f14, [], rfl, fun x hx => absurd hx List.not_mem_nil⟩ (fun acc S7 ⟨hb7, f7, r, er, hr⟩ hlen => ?_)
      · simp [-sSeq_ev, -compL_cons, -forL_cons]
        refine call_draw hb6 (by omega) (by omega) fun e S8 he hb8 f8 => ?_
        refine q6 _ _ ⟨hb8, f6.trans f8, r ++ [(e : Int)], by simp [er], fun x hx => ?_⟩
        rcases List.mem_append.mp hx with h | h
        · exact hr x h
        · rw [List.mem_singleton.mp h]; omega
      · subst er
        exact hN _ _ ⟨hb7, f7, r, cs, _, _, _, by simpa using hlen, lc, hr, c1.mono (by omega), rfl⟩
    · exact hN _ _ ⟨hb4, f14, rs, cs, _, _, _, lr, lc, r1.mono (by omega), c1.mono (by omega), rfl⟩
  subst eρ
  refine seq_via (P 21) (fun N hN => ?_) (fun ρ S6 ⟨hb6, f6, rs, cs, o7, o8, o9, l1, l2, b1, b2, eρ⟩ => ?_)
  · simp [-compL_cons, -sSeq_ev, -forL_cons]
    split
    · walk_at "nx"
      refine call_draw hb5 (by omega) (by omega) fun i S7 hi hb7 f7 => ?_
      skip
      refine call_draw hb7 (by omega) (by omega) fun k S8 hk hb8 f8 => ?_
      simp [-compL_cons, -sSeq_ev, -forL_cons, rowF]
      rw [enumL_rng]
      refine ⟨by rw [List.length_map, List.length_range]; exact mil (by omega), ?_⟩
      refine compL_mapT (fun a : Nat => F.tup [.int ((0 + a : Nat) : Int), .int (rs.getD a 0)]) (fun a : Nat => .int (rs.getD a 0 + (if a = i then 1 else 0) - if a = k ∧ 0 < rs.getD a 0 then 1 else 0)) trivial _ _ (fun a ha Q2 q2 => ?_) ?_
      · simp [-List.getD_eq_getElem?_getD]
        exact ite_shift (R := fun v => Q2 v S8) q2
      · obtain ⟨g1, g2⟩ := shift_ok b1 i k
        rw [List.nil_append]
        refine hN _ _ ⟨hb8, f5.trans (f7.trans f8), shift i k rs, cs, some (.int i), some (.int k), o9, by omega, l2, g2, b2.mono (by omega), ?_⟩
        rw [shift, rowF, List.map_map]
        rfl
    · exact hN _ _ ⟨hb5, f5, rs, cs, _, _, _, l1, l2, b1.mono (by omega), b2.mono (by omega), rfl⟩
  subst eρ
  refine seq_via (P 22) (fun N hN => ?_) (fun ρ S7 ⟨hb7, f7, rs, cs, o7, o8, o9, l1, l2, b1, b2, eρ⟩ => ?_)
  · have skip : ∀ S', BoxAt S' b c → Fr S S' b c → N [some (.loc b), some (.int side), some (.int (1 + (m0 : Int))), some (.int (1 + (n0 : Int))), some (.int pick), some (rowF rs), some (rowF cs), o7, o8, o9, none, none, none] S' := fun S' h1 h2 =>
      hN _ _ ⟨h1, h2, rs, cs, _, _, _, l1, l2, b1.mono (by omega), b2.mono (by omega), rfl⟩
    simp [-compL_cons, -sSeq_ev, -forL_cons]
    split
    · refine call_draw hb6 (by omega) (by omega) fun u S8 hu hb8 f8 => ?_
      simp [-compL_cons, -sSeq_ev, -forL_cons]
      split
      · walk_at "nx"
        refine call_draw hb8 (by omega) (by omega) fun i S9 hi hb9 f9 => ?_
        refine call_draw hb9 (by omega) (by omega) fun k S10 hk hb10 f10 => ?_
        simp [-compL_cons, -sSeq_ev, -forL_cons, rowF]
        rw [enumL_rng]
        refine ⟨by rw [List.length_map, List.length_range]; exact mil (by omega), ?_⟩
        refine compL_mapT (fun a : Nat => F.tup [.int ((0 + a : Nat) : Int), .int (cs.getD a 0)]) (fun a : Nat => .int (cs.getD a 0 + (if a = i then 1 else 0) - if a = k ∧ 0 < cs.getD a 0 then 1 else 0)) trivial _ _ (fun a ha Q2 q2 => ?_) ?_
        · simp [-List.getD_eq_getElem?_getD]
          exact ite_shift (R := fun v => Q2 v S10) q2
        · obtain ⟨g1, g2⟩ := shift_ok b2 i k
          rw [List.nil_append]
          refine hN _ _ ⟨hb10, ((f6.trans f8).trans f9).trans f10, rs, shift i k cs, o7, some (.int k), some (.int i), l1, by omega, b1.mono (by omega), g2, ?_⟩
          rw [shift, rowF, rowF, List.map_map]
          rfl
      · exact skip _ hb8 (f6.trans f8)
    · exact skip _ hb6 f6
  subst eρ
  simp
  exact q rs cs S7 (by omega) (by omega) (by omega) (by omega) (b1.mono (by omega)) (b2.mono (by omega)) hb7 f7
end DL

set_option maxHeartbeats 4000000
namespace DL
open PySem PySem.Spec PyProof.Rows L2
local macro_rules | `(tactic| walk_at "nx") => `(tactic| ((try dsimp only); rw [sSeq_ev]; (try simp [-sSeq_ev, -compL_cons, -forL_cons])))
/-! bending, the other way of the laws -/
def W_bentZrest (c__law_draw : Ct) : WS :=
    (sSeq (sIf (bOr (wTst (wIsi "bool" (wVar 1))) (wTst (wOp oIs (wVar 1) (wC .non)))) (sRet (wOp oIx (wFrz (wLst (wCons (wC (.int 0)) (wCons (wC (.int 1)) (wCons (wTup wNil) (wCons (wC (.str ("a" : Str))) wNil)))))) (wCall c__law_draw (wCons (wVar 0) (wCons (wC (.int 4)) wNil))))) sNext)
    (sSeq (sIf (wTst (wIsi "int" (wVar 1))) (sRet (wOp oIx (wFrz (wLst (wCons (wOp oAdd (wVar 1) (wC (.int 1))) (wCons (wOp oSub (wVar 1) (wC (.int 1))) (wCons (wOp oEq (wVar 1) (wC (.int 1))) (wCons (wC .non) (wCons (wOp oMul (wC (.int 2)) (wVar 1)) (wCons (wCall cStr (wCons (wVar 1) wNil)) (wCons (wTup (wCons (wVar 1) wNil)) (wCons (wC (.int 1000001)) wNil)))))))))) (wCall c__law_draw (wCons (wVar 0) (wCons (wC (.int 8)) wNil))))) sNext)
    (sSeq (sIf (wTst (wIsi "str" (wVar 1))) (sRet (wOp oIx (wFrz (wLst (wCons (wOp oAdd (wVar 1) (wC (.str ("1" : Str)))) (wCons (wSl (wVar 1) (wPart (wC (.int 1))) wNoPart) (wCons (wC .non) (wCons (wC (.int 0)) (wCons (wUpper (wVar 1)) (wCons (wTup (wCons (wVar 1) wNil)) (wCons (wC (.str ("any" : Str))) (wCons (wOp oAdd (wC (.str (" " : Str))) (wVar 1)) wNil)))))))))) (wCall c__law_draw (wCons (wVar 0) (wCons (wC (.int 8)) wNil))))) sNext)
    (sRet (wOp oIx (wFrz (wLst (wCons (wOp oAdd (wVar 1) (wSl (wVar 1) (wPart (wNeg (wC (.int 1)))) wNoPart)) (wCons (wSl (wVar 1) (wPart (wC (.int 1))) wNoPart) (wCons (wSl (wVar 1) wNoPart (wPart (wNeg (wC (.int 1))))) (wCons (wRev (wVar 1)) (wCons (wC .non) (wCons (wTup (wCons (wVar 1) wNil)) (wCons (wOp oAdd (wVar 1) (wTup (wCons (wC (.int 0)) wNil))) (wCons (wTup wNil) wNil)))))))))) (wCall c__law_draw (wCons (wVar 0) (wCons (wC (.int 8)) wNil))))))))
def W_bentZ (c__law_draw : Ct) (c__law_bent : Ct) : WS :=
  (sSeq (sIf (bAnd (wTst (wIsi "tuple" (wVar 1))) (bAnd (wTst (wOp oGt (wCall cLen (wCons (wVar 1) wNil)) (wC (.int 0)))) (wTst (wOp oGt (wCall c__law_draw (wCons (wVar 0) (wCons (wC (.int 5)) wNil))) (wC (.int 0)))))) (sSeq (sAsg (wCall c__law_draw (wCons (wVar 0) (wCons (wCall cLen (wCons (wVar 1) wNil)) wNil))) (gN 2))
    (sRet (wOp oAdd (wOp oAdd (wSl (wVar 1) wNoPart (wPart (wVar 2))) (wTup (wCons (wCall c__law_bent (wCons (wVar 0) (wCons (wOp oIx (wVar 1) (wVar 2)) wNil))) wNil))) (wSl (wVar 1) (wPart (wOp oAdd (wVar 2) (wC (.int 1)))) wNoPart)))) sNext)
    (W_bentZrest c__law_draw))
def zAtom : F → Bool
  | .non => true
  | .bl _ => true
  | .int i => decide (i.natAbs ≤ 1000000)
  | .str x => decide (x.length ≤ 100) && PyData.strOk x && PyData.strOk (x ++ ("1" : Str)) && PyData.strOk (cutS x (some 1) none) && PyData.strOk (Txt.upper x) && PyData.strOk ((" " : Str) ++ x)
  | _ => false
theorem zAtom_str {x : Str} (h : zAtom (.str x) = true) : x.length ≤ 100 ∧ PyData.strOk x = true ∧ PyData.strOk (x ++ ("1" : Str)) = true ∧ PyData.strOk (cutS x (some 1) none) = true ∧ PyData.strOk (Txt.upper x) = true ∧ PyData.strOk ((" " : Str) ++ x) = true := by
  unfold zAtom at h
  simp only [Bool.and_eq_true, decide_eq_true_eq] at h
  obtain ⟨⟨⟨⟨⟨h1, h2⟩, h3⟩, h4⟩, h5⟩, h6⟩ := h
  exact ⟨h1, h2, h3, h4, h5, h6⟩
def zOk : Nat → F → Prop
  | 0, v => zAtom v = true
  | n + 1, v => zAtom v = true ∨ ∃ xs, v = .tup xs ∧ xs.length ≤ 100000 ∧ ∀ x ∈ xs, zOk n x
theorem zAtom_fz {v : F} (h : zAtom v = true) : fz v = true := by
  cases v <;> first | rfl | exact (zAtom_str h).2.1 | cases h
theorem zAtom_dep {v : F} (h : zAtom v = true) : dep v = 0 := by
  cases v <;> first | rfl | cases h
theorem zOk_fz : ∀ {n : Nat} {v : F}, zOk n v → fz v = true ∧ dep v ≤ n
  | 0, v, h => ⟨zAtom_fz h, Nat.le_of_eq (zAtom_dep h)⟩
  | n + 1, v, h => by
    rcases h with h | ⟨xs, rfl, h1, h2⟩
    · exact ⟨zAtom_fz h, by rw [zAtom_dep h]; omega⟩
    · exact ⟨fz_tup_of (by omega) fun x hx => (zOk_fz (h2 x hx)).1, dep_tup fun x hx => (zOk_fz (h2 x hx)).2⟩
theorem zOk_atom {n : Nat} {v : F} (h : zAtom v = true) : zOk n v := by
  cases n with
  | zero => exact h
  | succ n => exact .inl h
theorem zOk_tup {n : Nat} {xs : List F} (h : xs.length ≤ 100000) (k : ∀ x ∈ xs, zOk n x) : zOk (n + 1) (.tup xs) := .inr ⟨xs, rfl, h, k⟩
theorem zOk_mono : ∀ {n : Nat} {v : F}, zOk n v → zOk (n + 1) v
  | 0, v, h => .inl h
  | n + 1, v, h => by
    rcases h with h | ⟨xs, rfl, h1, h2⟩
    · exact .inl h
    · exact .inr ⟨xs, rfl, h1, fun x hx => zOk_mono (h2 x hx)⟩
theorem zOk_row {r : List Int} {n : Nat} (hl : r.length ≤ 100000) (h : ∀ x ∈ r, x.natAbs ≤ 1000000) : zOk (n + 1) (rowF r) := zOk_tup (by rw [List.length_map]; exact hl) fun x hx => by
  obtain ⟨i, hi, rfl⟩ := List.mem_map.mp hx
  exact zOk_atom (decide_eq_true (h i hi))
theorem zOk_cases {n : Nat} {v : F} (h : zOk n v) : zAtom v = true ∨ ∃ k xs, n = k + 1 ∧ v = .tup xs ∧ xs.length ≤ 100000 ∧ ∀ x ∈ xs, fz x = true ∧ dep x ≤ k := by
  cases n with
  | zero => exact .inl h
  | succ n =>
    rcases h with h | ⟨xs, rfl, h1, h2⟩
    · exact .inl h
    · exact .inr ⟨n, xs, rfl, rfl, h1, fun x hx => zOk_fz (h2 x hx)⟩
def C_bentZ (n : Nat) : Ct := fun xs S Q => ∃ b c v, xs = [.loc b, v] ∧ BoxAt S b c ∧ zOk n v ∧ ∀ v' S', fz v' = true → dep v' ≤ n + 1 → BoxAt S' b c → Fr S S' b c → Q v' S'
theorem mono_C_bentZ {n : Nat} : MonoC (C_bentZ n) := fun xs S Q Q' k ⟨b, c, v, e, h1, h2, q⟩ => ⟨b, c, v, e, h1, h2, fun v' S' h1 h4 h2 h3 => k _ _ (q v' S' h1 h4 h2 h3)⟩
theorem call_bentZ {n : Nat} {b c : Addr} {S : Sto} {Q : F → Sto → Prop} {v : F} (h : BoxAt S b c) (hv : zOk n v) (q : ∀ v' S', fz v' = true → dep v' ≤ n + 1 → BoxAt S' b c → Fr S S' b c → Q v' S') : C_bentZ n [.loc b, v] S Q := ⟨b, c, v, rfl, h, hv, q⟩
theorem bentZ_rest {D : EndsD} {b c : Addr} {v : F} {o2 : Option F} {S1 : Sto} {n : Nat} (hb : BoxAt S1 b c) (hv : zOk n v) (q : ∀ v' S', fz v' = true → dep v' ≤ n + 1 → BoxAt S' b c → Fr S1 S' b c → D.rt v' S') :
    W_bentZrest C_draw D [some (.loc b), some v, o2] S1 := by
  unfold W_bentZrest
  have dr : ∀ (m : Nat) (Q : F → Sto → Prop) , 0 < m → m ≤ 8 → (∀ (d : Nat) S', d < m → (∀ v', fz v' = true ∧ dep v' ≤ n + 1 → D.rt v' S') → Q (.int d) S') → C_draw [.loc b, .int m] S1 Q := fun m Q h1 h2 k =>
    call_draw hb (by omega) (by omega) fun d S2 hd hb2 f2 => k d S2 (by omega) fun v' h => q v' S2 h.1 h.2 hb2 f2
  rcases zOk_cases hv with ha | ⟨k, xs, rfl, rfl, h1, h2⟩
  · cases v with
    | non =>
      walk_at "nx"
      refine dr 4 _ (by decide) (by decide) fun d S2 hd fin => ?_
      refine oIx_mem (by simpa using hd) fun z hz => fin z ?_
      simp at hz
      rcases hz with rfl | rfl | rfl | rfl <;> exact ⟨by decide +kernel, Nat.le_trans (show _ ≤ 1 by decide +kernel) (by omega)⟩
    | bl x =>
      walk_at "nx"
      refine dr 4 _ (by decide) (by decide) fun d S2 hd fin => ?_
      refine oIx_mem (by simpa using hd) fun z hz => fin z ?_
      simp at hz
      rcases hz with rfl | rfl | rfl | rfl <;> exact ⟨by decide +kernel, Nat.le_trans (show _ ≤ 1 by decide +kernel) (by omega)⟩
    | int i =>
      have hi : i.natAbs ≤ 1000000 := of_decide_eq_true ha
      have l1 := one_ok (v := .int i) (n := n) rfl (Nat.zero_le _)
      walk_at "nx"
      walk_at "nx"
      refine ⟨mulOk_r (by omega), log_small hi, ?_⟩
      refine dr 8 _ (by decide) (by decide) fun d S2 hd fin => ?_
      refine oIx_mem (by simpa using hd) fun z hz => fin z ?_
      simp at hz
      rcases hz with rfl | rfl | rfl | rfl | rfl | rfl | rfl | rfl <;> first | exact l1 | exact ⟨rfl, Nat.zero_le _⟩ | exact ⟨fz_toStr i, Nat.zero_le _⟩
    | str x =>
      obtain ⟨a1, a2, a3, a4, a5, a6⟩ := zAtom_str ha
      have l1 := one_ok (v := .str x) (n := n) a2 (Nat.zero_le _)
      walk_at "nx"
      walk_at "nx"
      walk_at "nx"
      refine ⟨mil (by have := (by decide : ("1" : Str).length = 1); omega), mil (by omega), by omega, mil (by have := (by decide : (" " : Str).length = 1); omega), ?_⟩
      refine dr 8 _ (by decide) (by decide) fun d S2 hd fin => ?_
      refine oIx_mem (by simpa using hd) fun z hz => fin z ?_
      simp at hz
      rcases hz with rfl | rfl | rfl | rfl | rfl | rfl | rfl | rfl <;> first | exact l1 | exact ⟨a3, Nat.zero_le _⟩ | exact ⟨a4, Nat.zero_le _⟩ | exact ⟨a5, Nat.zero_le _⟩ | exact ⟨a6, Nat.zero_le _⟩ | exact ⟨rfl, Nat.zero_le _⟩ | exact ⟨by decide +kernel, Nat.zero_le _⟩
    | _ => cases ha
  · have l1 := cut_length xs none (some 1)
    have ok : ∀ l : List F, l.length ≤ 1000000 → (∀ x ∈ l, fz x = true ∧ dep x ≤ k) → fz (.tup l) = true ∧ dep (.tup l) ≤ k + 1 + 1 := fun l a1 a2 =>
      ⟨fz_tup_of a1 fun x hx => (a2 x hx).1, Nat.le_trans (dep_tup fun x hx => (a2 x hx).2) (by omega)⟩
    have cutOk : ∀ lo hi, fz (.tup (cut xs lo hi)) = true ∧ dep (.tup (cut xs lo hi)) ≤ k + 1 + 1 := fun lo hi => ok _ (Nat.le_trans (cut_length ..) (by omega)) fun x hx => h2 x (cut_mem hx)
    have app : ∀ l r : List F, l.length ≤ 100000 → r.length ≤ 100000 → (∀ x ∈ l, fz x = true ∧ dep x ≤ k) → (∀ x ∈ r, fz x = true ∧ dep x ≤ k) → fz (.tup (l ++ r)) = true ∧ dep (.tup (l ++ r)) ≤ k + 1 + 1 := fun l r a1 a2 a3 a4 =>
      ok _ (by rw [List.length_append]; omega) fun x hx => (List.mem_append.mp hx).elim (a3 x) (a4 x)
    have c1 := cut_length xs (some (-1)) none
    have one : fz (.tup [.tup xs]) = true ∧ dep (.tup [.tup xs]) ≤ k + 1 + 1 := one_ok (fz_tup_of (by omega) fun x hx => (h2 x hx).1) (dep_tup fun x hx => (h2 x hx).2)
    walk_at "nx"
    walk_at "nx"
    walk_at "nx"
    refine ⟨mil (by omega), mil (by omega), ?_⟩
    refine dr 8 _ (by decide) (by decide) fun d S2 hd fin => ?_
    refine oIx_mem (by simpa using hd) fun z hz => fin z ?_
    simp at hz
    rcases hz with rfl | rfl | rfl | rfl | rfl | rfl | rfl | rfl
    · exact app _ _ h1 (by omega) h2 fun x hx => h2 x (cut_mem hx)
    · exact cutOk _ _
    · exact cutOk _ _
    · exact ok _ (by rw [List.length_reverse]; omega) fun x hx => h2 x (List.mem_reverse.mp hx)
    · exact ⟨rfl, Nat.zero_le _⟩
    · exact one
    · exact app _ _ h1 (by simp) h2 fun x hx => by rw [List.mem_singleton.mp hx]; exact ⟨rfl, Nat.zero_le _⟩
    · exact ok [] (by simp) fun x hx => absurd hx List.not_mem_nil
theorem sp_bentZ0 (fs : List F) (S : Sto) (Q) (h : C_bentZ 0 fs S Q) : fs.length = 2 ∧ W_bentZ C_draw C_never { nx := fun _ S' => Q .non S', rt := fun d S' => Q d S' } (startF 3 fs) S := by
  obtain ⟨b, c, v, rfl, hb, hv, q⟩ := h
  refine ⟨rfl, ?_⟩
  show W_bentZ _ _ _ [some (.loc b), some v, none] S
  have := bentZ_rest (D := { nx := fun _ S' => Q .non S', rt := fun d S' => Q d S' }) (o2 := none) hb hv q
  unfold W_bentZ
  rw [sSeq_ev]
  have hv : zAtom v = true := hv
  cases v with
  | non => simpa [-sSeq_ev] using this
  | bl x => simpa [-sSeq_ev] using this
  | int i => simpa [-sSeq_ev] using this
  | str x => simpa [-sSeq_ev] using this
  | _ => cases hv
theorem sp_bentZ (n : Nat) (fs : List F) (S : Sto) (Q) (h : C_bentZ (n + 1) fs S Q) : fs.length = 2 ∧ W_bentZ C_draw (C_bentZ n) { nx := fun _ S' => Q .non S', rt := fun d S' => Q d S' } (startF 3 fs) S := by
  obtain ⟨b, c, v, rfl, hb, hv, q⟩ := h
  refine ⟨rfl, ?_⟩
  show W_bentZ _ _ _ [some (.loc b), some v, none] S
  have rest : ∀ S1, BoxAt S1 b c → Fr S S1 b c → W_bentZrest C_draw { nx := fun _ S' => Q .non S', rt := fun d S' => Q d S' } [some (.loc b), some v, none] S1 := fun S1 h1 f1 =>
    bentZ_rest h1 hv fun v' S' a1 a4 a2 a3 => q v' S' a1 a4 a2 (f1.trans a3)
  unfold W_bentZ
  rw [sSeq_ev]
  have hv' : zAtom v = true ∨ ∃ xs, v = .tup xs ∧ xs.length ≤ 100000 ∧ ∀ x ∈ xs, zOk n x := hv
  rcases hv' with ha | ⟨xs, rfl, h1, h2⟩
  · cases v with
    | non => simpa [-sSeq_ev] using rest S hb Fr.refl
    | bl x => simpa [-sSeq_ev] using rest S hb Fr.refl
    | int i => simpa [-sSeq_ev] using rest S hb Fr.refl
    | str x => simpa [-sSeq_ev] using rest S hb Fr.refl
    | _ => cases ha
  · by_cases h0 : 0 < xs.length
    · have h0' : (0 : Int) < xs.length := by omega
      simp [-sSeq_ev, h0]
      refine call_draw hb (by decide) (by decide) fun d S1 hd hb1 f1 => ?_
      simp [-sSeq_ev]
      split
      · rename_i hd0
        rw [sSeq_ev]
        simp
        refine call_draw hb1 h0' (by omega) fun at' S2 ha hb2 f2 => ?_
        have hat : at' < xs.length := by omega
        have e1 : xs[at']? = some xs[at'] := List.getElem?_eq_getElem hat
        simp [atI_cast, e1]
        refine call_bentZ hb2 (h2 _ (List.getElem_mem hat)) fun v' S3 hz hdz hb3 f3 => ?_
        have l1 := cut_length xs none (some (at' : Int))
        have l2 := cut_length xs (some ((at' : Int) + 1)) none
        have hxs : ∀ x ∈ xs, fz x = true ∧ dep x ≤ n := fun x hx => zOk_fz (h2 x hx)
        simp [set_cutF _ hat]
        refine ⟨mil (by omega), mil (by omega), q _ S3 ?_ ?_ hb3 ((f1.trans f2).trans f3)⟩
        · unfold fz
          rw [fz_set (fzL_of fun x hx => (hxs x hx).1) hz, List.length_set, Bool.and_true]
          exact decide_eq_true (by omega)
        · refine Nat.le_trans (dep_tup (n := n + 1) fun x hx => ?_) (by omega)
          rcases List.mem_or_eq_of_mem_set hx with h | h
          · have := (hxs x h).2
            omega
          · rw [h]
            exact hdz
      · exact rest S1 hb1 f1
    · simpa [-sSeq_ev, h0] using rest S hb Fr.refl
section
variable {P : Program} {w : World} {K : PySem.W.Frag} {mg : Str → Option Value} {base : Heap}
theorem bentZ_cal {params : Arguments} {body : List Stmt} {scope : Scope} {f : Addr} {fd : FuncData}
    (ok : ∀ (lv : Nat), 2 ≤ lv → ∀ {Crec C : Ct}, Cal P w K mg base lv "_law_bent" ["box", "value"] Crec → MonoC C → (∀ fs S Q, C fs S Q → fs.length = 2 ∧ W_bentZ C_draw Crec { nx := fun _ S' => Q .non S', rt := fun d S' => Q d S' } (startF 3 fs) S) → FnD P w K mg base (lv + 1) f fd ["box", "value"] C)
    (F : FunD K "_law_bent" "_law_bent" params body scope [] [] f fd) (g : mg "_law_bent" = some (.ref f)) (b : L2.Binds K fd ["box", "value"] []) : ∀ n, Cal P w K mg base (n + 3) "_law_bent" ["box", "value"] (C_bentZ n)
  | 0 => cal_of F g b (ok 2 (Nat.le_refl 2) (cal_never_at 2 F g b) mono_C_bentZ sp_bentZ0)
  | n + 1 => cal_of F g b (ok (n + 3) (by omega) (bentZ_cal ok F g b n) mono_C_bentZ (sp_bentZ n))
end
end DL

set_option maxHeartbeats 4000000
namespace DL
open PySem PySem.Spec PyProof.Rows L2
local macro_rules | `(tactic| walk_at "nx") => `(tactic| ((try dsimp only); rw [sSeq_ev]; (try simp [-sSeq_ev, -compL_cons, -forL_cons])))
/-! told tables, short lists of plain values, walks that stop with False (of k07's texts) -/
def W_open_told : WS :=
  (sRet (wCall cTuple (wCons (wFrz (wComp [1] (wIt (wOp oIx (wVar 0) (wC (.int 0)))) (gN 1) wYes (wOp oMul (wTup (wCons (wC .non) wNil)) (wCall cLen (wCons (wOp oIx (wVar 0) (wC (.int 1))) wNil))))) wNil)))
def W_dominance_holds (c_conjugate : Ct) (c_sorted_down : Ct) (c_dominates : Ct) : WS :=
  (sSeq (sAsg (wVar 0) (gTup2 2 (gCons2 (gN 1) (gCons2 (gN 2) gNil2))))
    (sSeq (sIf (bOr (wTst (wOp oNe (wCall cSum (wCons (wVar 1) wNil)) (wCall cSum (wCons (wVar 2) wNil)))) (wTst (wOp oGt (wCall cMax1 (wCons (wVar 1) wNil)) (wCall cLen (wCons (wVar 2) wNil))))) (sRet (wC (.bl false))) sNext)
    (sRet (wCall c_dominates (wCons (wCall c_conjugate (wCons (wCall c_sorted_down (wCons (wVar 2) wNil)) wNil)) (wCons (wCall c_sorted_down (wCons (wVar 1) wNil)) wNil))))))
theorem forL_all {α : Type} {gd : Sto → Prop} {g : DG} {t : WS} {D : EndsD} {S : Sto} (e : α → F) (hgd : gd S) (I : Slots → Prop) (p : α → Bool) : ∀ (xs : List α) (ρ : Slots), I ρ →
    (∀ x, x ∈ xs → ∀ (ρ : Slots) (N : Slots → Sto → Prop), I ρ → (p x = true → ∀ ρ', I ρ' → N ρ' S) → (p x = false → D.rt (.bl false) S) → g (e x) ρ S fun ρ1 S1 => t { nx := N, rt := D.rt, bk := D.nx, ct := N } ρ1 S1) →
    (xs.all p = true → ∀ ρ', I ρ' → D.nx ρ' S) → (xs.all p = false → D.rt (.bl false) S) → forL gd g t (xs.map e) D ρ S
  | [], ρ, hi, _, h1, _ => ⟨hgd, h1 rfl ρ hi⟩
  | x :: r, ρ, hi, hs, h1, h2 => ⟨hgd, hs x (List.mem_cons_self ..) ρ _ hi (fun hp ρ' hi' => forL_all e hgd I p r ρ' hi' (fun y hy => hs y (List.mem_cons_of_mem _ hy)) (fun h => h1 (by rw [List.all_cons, hp, h]; rfl)) (fun h => h2 (by rw [List.all_cons, hp, h]; rfl)))
    (fun hp => h2 (by rw [List.all_cons, hp]; rfl))⟩
def cF : Option Int → F
  | none => .non
  | some i => .int i
abbrev Td := List (List (Option Int))
def trF (r : List (Option Int)) : F := .tup (r.map cF)
def tdF (d : Td) : F := .tup (d.map trF)
def C_open_told : Ct := fun xs S Q => ∃ rs cs : List Int, xs = [.tup [rowF rs, rowF cs]] ∧ rs.length ≤ 1000 ∧ cs.length ≤ 1000 ∧ Q (tdF (List.replicate rs.length (List.replicate cs.length none))) S
theorem mono_C_open_told : MonoC C_open_told := fun xs S Q Q' k ⟨r, c, e, h1, h2, q⟩ => ⟨r, c, e, h1, h2, k _ _ q⟩
theorem sp_open_told (fs : List F) (S : Sto) (Q) (h : C_open_told fs S Q) : fs.length = 1 ∧ W_open_told { nx := fun _ S' => Q .non S', rt := fun d S' => Q d S' } (startF 2 fs) S := by
  obtain ⟨rs, cs, rfl, h1, h2, q⟩ := h
  refine ⟨rfl, ?_⟩
  show W_open_told _ [some (.tup [rowF rs, rowF cs]), none] S
  unfold W_open_told
  simp [rowF, -compL_cons]
  refine ⟨mil (by omega), ?_⟩
  refine compL_mapT F.int (fun _ => trF (List.replicate cs.length none)) trivial rs _ (fun x hx Q2 q2 => ?_) ?_
  · simp
    refine ⟨⟨by omega, mil (by omega)⟩, ?_⟩
    simpa [trF, cF] using q2
  · rw [List.nil_append]
    have e : rs.map (fun _ => trF (List.replicate cs.length none)) = (List.replicate rs.length (List.replicate cs.length none)).map trF := by
      rw [List.map_replicate, List.map_const']
    simpa [e, tdF] using q
def tcell (d : Td) (i j : Nat) : Option Int := (d.getD i []).getD j none
def tcel (t : Tb) (i j : Nat) : Int := (t.getD i []).getD j 0
def okc : Option Int → Int → Bool
  | none, _ => true
  | some v, x => decide (x = v)
structure TdR (d : Td) (m n : Nat) : Prop where
  len : d.length = m
  row : ∀ r ∈ d, r.length = n
theorem td_ix {d : Td} {m n i j : Nat} (h : TdR d m n) (hi : i < m) (hj : j < n) (S : Sto) (Q : F → Sto → Prop) : oIx (tdF d) (.int (i : Int)) S (fun x S1 => oIx x (.int (j : Int)) S1 Q) = Q (cF (tcell d i j)) S := by
  have hl := h.len
  have e1 : d[i]? = some d[i] := List.getElem?_eq_getElem (by omega)
  have hr := h.row d[i] (List.getElem_mem (by omega))
  have e2 : d[i][j]? = some d[i][j] := List.getElem?_eq_getElem (by omega)
  have a1 : atI (d.map trF) (i : Int) = some (trF d[i]) := by rw [atI_cast, List.getElem?_map, e1]; rfl
  have a2 : atI (d[i].map cF) (j : Int) = some (cF d[i][j]) := by rw [atI_cast, List.getElem?_map, e2]; rfl
  have ev : tcell d i j = d[i][j] := by
    unfold tcell
    rw [List.getD_eq_getElem?_getD (l := d), e1]
    show d[i].getD j none = _
    rw [List.getD_eq_getElem?_getD, e2]
    rfl
  simp [tdF, a1]
  simp [trF, a2, ev]
theorem tb_ix {t : Tb} {m n i j : Nat} (h : Rect t m n) (hi : i < m) (hj : j < n) (S : Sto) (Q : F → Sto → Prop) : oIx (tabF t) (.int (i : Int)) S (fun x S1 => oIx x (.int (j : Int)) S1 Q) = Q (.int (tcel t i j)) S := by
  have hl := h.len
  have h1 : i < t.length := by omega
  have h2 : t[i]? = some t[i] := List.getElem?_eq_getElem h1
  have h3 : j < t[i].length := by rw [h.row _ (List.getElem_mem h1)]; exact hj
  have h4 : t[i][j]? = some t[i][j] := List.getElem?_eq_getElem h3
  rw [ix_tab h2, ix_row h4]
  unfold tcel
  simp [List.getD, h2, h4]
theorem td_row {d : Td} {m n i : Nat} (h : TdR d m n) (hi : i < m) : ∃ r : List (Option Int), r.length = n ∧ ∀ (S : Sto) (Q : F → Sto → Prop), oIx (tdF d) (.int (i : Int)) S Q = Q (trF r) S := by
  have hl := h.len
  have e1 : d[i]? = some d[i] := List.getElem?_eq_getElem (by omega)
  have a1 : atI (d.map trF) (i : Int) = some (trF d[i]) := by rw [atI_cast, List.getElem?_map, e1]; rfl
  exact ⟨d[i], h.row d[i] (List.getElem_mem (by omega)), fun S Q => by simp [tdF, a1]⟩
def C_dominance_holds : Ct := fun xs S Q => ∃ rs cs : List Int, xs = [.tup [rowF rs, rowF cs]] ∧ 1 ≤ rs.length ∧ rs.length ≤ 1000 ∧ cs.length ≤ 1000 ∧ inB 1000 rs ∧ inB 1000 cs ∧ Q (.bl (domH rs cs)) S
theorem mono_C_dominance_holds : MonoC C_dominance_holds := fun xs S Q Q' k ⟨r, c, e, h1, h2, h3, h4, h5, q⟩ => ⟨r, c, e, h1, h2, h3, h4, h5, k _ _ q⟩
theorem srtD_len (l : List Int) : (srtD l).length ≤ l.length := by
  unfold srtD
  rw [srt_len]
  exact List.length_filter_le ..
theorem srtD_head {l : List Int} (h : inB 1000 l) : 0 ≤ (srtD l).headD 0 ∧ (srtD l).headD 0 ≤ 1000 := by
  cases e : srtD l with
  | nil => exact ⟨Int.le_refl _, by decide⟩
  | cons x r =>
    have : x ∈ srtD l := by rw [e]; exact List.mem_cons_self ..
    have := h x (List.mem_filter.mp ((srt_perm _).mem_iff.mp this)).1
    exact this
theorem sp_dominance_holds (fs : List F) (S : Sto) (Q) (h : C_dominance_holds fs S Q) : fs.length = 1 ∧ W_dominance_holds C_conjugate C_sorted_down C_dominates { nx := fun _ S' => Q .non S', rt := fun d S' => Q d S' } (startF 3 fs) S := by
  obtain ⟨rs, cs, rfl, h1, h2, h3, h4, h5, q⟩ := h
  refine ⟨rfl, ?_⟩
  show W_dominance_holds _ _ _ _ [some (.tup [rowF rs, rowF cs]), none, none] S
  unfold W_dominance_holds
  walk_at "nx"
  walk_at "nx"
  have hd := srtD_head h5
  by_cases c1 : rs.sum = cs.sum
  · simp [rowF, c1, -sSeq_ev, -cMax1]
    refine cMax1_t (fun e => by rw [e] at h1; cases h1) fun M hM hmax => ?_
    simp [-sSeq_ev]
    by_cases c2 : M ≤ cs.length
    · rw [if_neg (by omega)]
      have e : domH rs cs = domB (conj (srtD cs)) (srtD rs) := by
        unfold domH
        rw [decide_eq_true c1, Bool.true_and, List.all_eq_true.mpr fun x hx => decide_eq_true (by have := hmax x hx; omega), Bool.true_and]
      rw [e] at q
      refine ⟨cs, rfl, h3, fun ms k1 k2 => ?_⟩
      have e1 : ms = srtD cs := srt_of k1 k2
      subst e1
      have := srtD_len cs
      refine ⟨srtD cs, rfl, by omega, hd.1, hd.2, ?_⟩
      refine ⟨rs, rfl, h2, fun ms k1 k2 => ?_⟩
      have e1 : ms = srtD rs := srt_of k1 k2
      subst e1
      have := srtD_len rs
      exact ⟨_, _, rfl, by rw [conj_len]; omega, by omega, q⟩
    · rw [if_pos (by omega)]
      have e : domH rs cs = false := by
        cases e : domH rs cs with
        | false => rfl
        | true =>
          unfold domH at e
          rw [Bool.and_eq_true, Bool.and_eq_true] at e
          exact absurd (of_decide_eq_true (List.all_eq_true.mp e.1.2 M hM)) c2
      rw [e] at q
      exact q
  · have e : domH rs cs = false := by unfold domH; rw [decide_eq_false c1, Bool.false_and, Bool.false_and]
    rw [e] at q
    simpa [rowF, c1] using q
theorem eqF_two (a b c d : List Int) : eqF (.tup [rowF a, rowF b]) (.tup [rowF c, rowF d]) = (decide (a = c) && decide (b = d)) := by
  have e : ∀ x y z u : F, eqF (.tup [x, y]) (.tup [z, u]) = (eqF x z && eqF y u) := fun x y z u => by
    simp [eqF, py, pyL, PyData.eqv, PyData.eqvAll]
  rw [e, eqF_row, eqF_row]
theorem okF_two {a b : List Int} (h1 : a.length ≤ 1000) (h2 : b.length ≤ 1000) : okF (.tup [rowF a, rowF b]) = true := okF_rows (l := [a, b]) (by simp) fun r hr => by
  rcases List.mem_cons.mp hr with e | e
  · rw [e]; omega
  · rw [List.mem_singleton.mp e]; omega
theorem sum_set : ∀ (l : List Int) (j : Nat) (v : Int), j < l.length → (l.set j v).sum = l.sum - l.getD j 0 + v
  | [], _, _, h => absurd h (Nat.not_lt_zero _)
  | x :: l, 0, v, _ => by
    show (v :: l).sum = (x :: l).sum - x + v
    rw [List.sum_cons, List.sum_cons]
    omega
  | x :: l, j + 1, v, h => by
    have ih := sum_set l j v (by simpa using h)
    show (x :: l.set j v).sum = (x :: l).sum - l.getD j 0 + v
    rw [List.sum_cons, List.sum_cons, ih]
    omega
theorem setc_ne {t : Tb} {m n i j : Nat} (h : Tab t m n) (hi : i < m) (hj : j < n) {v : Int} (hv : v ≠ tcel t i j) : (setc t i j v).map List.sum ≠ t.map List.sum := fun e => by
  have hl := h.len
  have e1 : t[i]? = some t[i] := List.getElem?_eq_getElem (by omega)
  have hr := h.row t[i] (List.getElem_mem (by omega))
  have eg : t.getD i [] = t[i] := by rw [List.getD_eq_getElem?_getD, e1]; rfl
  have a := congrArg (fun l : List Int => l[i]?) e
  unfold setc at a
  rw [List.getElem?_map, List.getElem?_map, List.getElem?_set_self (by omega), e1, eg] at a
  have a : (t[i].set j v).sum = t[i].sum := Option.some.inj a
  rw [sum_set _ _ _ (by omega)] at a
  unfold tcel at hv
  rw [eg] at hv
  omega
def csum (n : Nat) (t : Tb) : List Int := (List.range n).map fun j => (t.map fun r => r.getD j 0).sum
theorem csum_turn (t : Tb) (n : Nat) : (turn t n).map List.sum = csum n t := by
  unfold turn csum
  rw [List.map_map]
  rfl
theorem csum_nn {n : Nat} : ∀ {t : Tb}, (∀ r ∈ t, ∀ x ∈ r, x = 0 ∨ x = 1) → ∀ x ∈ csum n t, 0 ≤ x := fun {t} h x hx => by
  obtain ⟨j, hj, rfl⟩ := List.mem_map.mp hx
  induction t with
  | nil => exact Int.le_refl _
  | cons r t ih =>
    rw [List.map_cons, List.sum_cons]
    have := ih (fun r hr => h r (List.mem_cons_of_mem _ hr)) (List.mem_map.mpr ⟨j, hj, rfl⟩)
    have hr := h r (List.mem_cons_self ..)
    have : 0 ≤ r.getD j 0 := by
      rw [List.getD_eq_getElem?_getD]
      by_cases c : j < r.length
      · rw [List.getElem?_eq_getElem c]
        have := hr _ (List.getElem_mem c)
        show 0 ≤ r[j]
        omega
      · rw [List.getElem?_eq_none (by omega)]
        exact Int.le_refl _
    omega
theorem csum_sub {n : Nat} {v : List Int} {t : Tb} (hv : v.length = n) : subV (csum n (v :: t)) v = csum n t := by
  rw [subV_get (by unfold csum; simp [hv])]
  unfold csum
  rw [List.length_map, List.length_range]
  refine List.map_congr_left fun j hj => ?_
  rw [List.getD_eq_getElem?_getD, List.getElem?_map, List.getElem?_range (List.mem_range.mp hj)]
  show ((v :: t).map fun r => r.getD j 0).sum - v.getD j 0 = _
  rw [List.map_cons, List.sum_cons]
  omega
theorem tab_fits {n : Nat} : ∀ {t : Tb}, (∀ r ∈ t, r.length = n) → (∀ r ∈ t, ∀ x ∈ r, x = 0 ∨ x = 1) → fits (csum n t) (t.map List.sum) t
  | [], _, _ => fun x hx => by
    obtain ⟨j, _, rfl⟩ := List.mem_map.mp hx
    rfl
  | v :: t, h1, h2 => by
    have hv := h1 v (List.mem_cons_self ..)
    have hb := h2 v (List.mem_cons_self ..)
    have g1 : ∀ r ∈ t, r.length = n := fun r hr => h1 r (List.mem_cons_of_mem _ hr)
    have g2 : ∀ r ∈ t, ∀ x ∈ r, x = 0 ∨ x = 1 := fun r hr => h2 r (List.mem_cons_of_mem _ hr)
    refine ⟨bitV_iff.mpr ⟨by unfold csum; simp [hv], hb, fun x hx => ?_⟩, rfl, ?_⟩
    · rw [csum_sub hv] at hx
      exact csum_nn g2 x hx
    · rw [csum_sub hv]
      exact tab_fits g1 g2
theorem tab_dom {t : Tb} {m n : Nat} (h : Tab t m n) : domH (t.map List.sum) ((turn t n).map List.sum) = true := by
  rw [csum_turn, domH_iff (fun x hx => (tab_row_sums h x hx).1) (fun x hx => csum_nn h.bit x hx)]
  exact ⟨t, tab_fits h.row h.bit⟩
theorem all_dom {rs cs : List Int} (h1 : ∀ x ∈ rs, 0 ≤ x) (h2 : ∀ x ∈ cs, 0 ≤ x) : decide (0 < ((allT rs cs).length : Int)) = domH rs cs := by
  rw [Bool.eq_iff_iff, decide_eq_true_eq, domH_iff h1 h2]
  constructor
  · intro h
    have : 0 < (allT rs cs).length := by omega
    obtain ⟨t, ht⟩ := List.exists_mem_of_length_pos this
    exact ⟨t, allT_mem.mp ht⟩
  · rintro ⟨t, ht⟩
    have := List.length_pos_of_mem (allT_mem.mpr ht)
    omega
theorem fzs_nil : ∀ x ∈ ([] : List F), fz x = true := fun x hx => absurd hx List.not_mem_nil
theorem fzs_cons {x : F} {l : List F} (h1 : fz x = true) (h2 : ∀ y ∈ l, fz y = true) : ∀ y ∈ x :: l, fz y = true := fun y hy => by
  rcases List.mem_cons.mp hy with e | e
  · rw [e]; exact h1
  · exact h2 y e
theorem fzs_app {l k : List F} (h1 : ∀ x ∈ l, fz x = true) (h2 : ∀ x ∈ k, fz x = true) : ∀ x ∈ l ++ k, fz x = true := fun x hx => (List.mem_append.mp hx).elim (h1 x) (h2 x)
theorem fzs_cut {l : List F} (h : ∀ x ∈ l, fz x = true) (a b : Option Int) : ∀ x ∈ cut l a b, fz x = true := fun x hx => h x (cut_mem hx)
theorem fzs_rev {l : List F} (h : ∀ x ∈ l, fz x = true) : ∀ x ∈ l.reverse, fz x = true := fun x hx => h x (List.mem_reverse.mp hx)
theorem fzs_int (r : List Int) : ∀ x ∈ r.map F.int, fz x = true := fun x hx => by
  obtain ⟨i, _, rfl⟩ := List.mem_map.mp hx
  rfl
theorem fzs_cF (r : List (Option Int)) : ∀ x ∈ r.map cF, fz x = true := fun x hx => by
  obtain ⟨i, _, rfl⟩ := List.mem_map.mp hx
  cases i <;> rfl
theorem fzs_rep {x : F} (n : Nat) (h : fz x = true) : ∀ y ∈ List.replicate n x, fz y = true := fun y hy => by
  rw [(List.mem_replicate.mp hy).2]
  exact h
theorem fz_rowF {r : List Int} (h : r.length ≤ 1000) : fz (rowF r) = true := fz_row (by omega)
theorem fz_trF {r : List (Option Int)} (h : r.length ≤ 1000) : fz (trF r) = true := fz_tup_of (by rw [List.length_map]; omega) (fzs_cF r)
theorem fz_tdF {d : Td} {m n : Nat} (h : TdR d m n) (h1 : m ≤ 1000) (h2 : n ≤ 1000) : fz (tdF d) = true := fz_tup_of (by rw [List.length_map, h.len]; omega) fun x hx => by
  obtain ⟨r, hr, rfl⟩ := List.mem_map.mp hx
  exact fz_trF (by rw [h.row r hr]; exact h2)
theorem fzs_tr {d : Td} {m n : Nat} (h : TdR d m n) (h2 : n ≤ 1000) : ∀ x ∈ d.map trF, fz x = true := fun x hx => by
  obtain ⟨r, hr, rfl⟩ := List.mem_map.mp hx
  exact fz_trF (by rw [h.row r hr]; exact h2)
theorem zOk_two {a b : List Int} {B : Int} (hB : B ≤ 1000) (h1 : a.length ≤ 1000) (h2 : b.length ≤ 1000) (h3 : inB B a) (h4 : inB B b) : zOk 4 (.tup [rowF a, rowF b]) := zOk_tup (by simp) fun x hx => by
  have : ∀ r : List Int, r.length ≤ 1000 → inB B r → zOk 3 (rowF r) := fun r k1 k2 => zOk_row (by omega) fun y hy => by have := k2 y hy; omega
  rcases List.mem_cons.mp hx with e | e
  · rw [e]; exact this a h1 h3
  · rw [List.mem_singleton.mp e]; exact this b h2 h4
def small (n : Nat) (l : List F) : Prop := l.length ≤ n ∧ ∀ x ∈ l, fz x = true
theorem sm_nil : small 0 [] := ⟨Nat.le_refl _, fzs_nil⟩
theorem sm_cons {n : Nat} {x : F} {l : List F} (h1 : fz x = true) (h : small n l) : small (n + 1) (x :: l) := ⟨by have := h.1; simp; omega, fzs_cons h1 h.2⟩
theorem sm_app {a b : Nat} {l k : List F} (h1 : small a l) (h2 : small b k) : small (a + b) (l ++ k) := ⟨by have := h1.1; have := h2.1; simp; omega, fzs_app h1.2 h2.2⟩
theorem sm_cut {n : Nat} {l : List F} (h : small n l) (a b : Option Int) : small n (cut l a b) := ⟨Nat.le_trans (cut_length ..) h.1, fzs_cut h.2 a b⟩
theorem sm_rev {n : Nat} {l : List F} (h : small n l) : small n l.reverse := ⟨by rw [List.length_reverse]; exact h.1, fzs_rev h.2⟩
theorem sm_rep {x : F} (n : Nat) (h : fz x = true) : small n (List.replicate n x) := ⟨by simp, fzs_rep n h⟩
theorem sm_fz {n : Nat} {l : List F} (h : small n l) (k : n ≤ 1000000) : fz (.tup l) = true := fz_tup_of (Nat.le_trans h.1 k) h.2
theorem sm_set {n : Nat} {l : List F} (h : small n l) (i : Nat) {x : F} (hx : fz x = true) : small n (l.set i x) := ⟨by rw [List.length_set]; exact h.1, fun y hy => (List.mem_or_eq_of_mem_set hy).elim (h.2 y) fun e => by rw [e]; exact hx⟩
theorem fz2 {a b : F} (h1 : fz a = true) (h2 : fz b = true) : fz (.tup [a, b]) = true := sm_fz (sm_cons h1 (sm_cons h2 sm_nil)) (by decide)
theorem dep_tdF (d : Td) : dep (tdF d) ≤ 2 := dep_tup fun x hx => by
  obtain ⟨r, _, rfl⟩ := List.mem_map.mp hx
  refine dep_tup fun y hy => ?_
  obtain ⟨i, _, rfl⟩ := List.mem_map.mp hy
  cases i <;> exact Nat.le_refl _
theorem incr_pw {ns : List Int} (h : incr ns = true) : ns.Pairwise (· < ·) := by
  unfold incr at h
  rw [List.all_eq_true] at h
  have step : ∀ k, k + 1 < ns.length → ns.getD k 0 < ns.getD (k + 1) 0 := fun k hk => of_decide_eq_true (h k (List.mem_range.mpr (by omega)))
  clear h
  induction ns with
  | nil => exact .nil
  | cons n r ih =>
    have ih := ih fun k hk => step (k + 1) (by rw [List.length_cons]; omega)
    refine .cons (fun y hy => ?_) ih
    cases r with
    | nil => cases hy
    | cons m r =>
      have h0 : n < m := step 0 (by simp)
      rcases List.mem_cons.mp hy with e | e
      · rw [e]; exact h0
      · exact Int.lt_trans h0 (List.rel_of_pairwise_cons ih e)
theorem pw_nodup {ns : List Int} (h : ns.Pairwise (· < ·)) : ns.Nodup := h.imp fun h e => by omega
def W_sets : WS :=
  (sSeq (sAsg (wFrz (wLst (wCons (wTup wNil) wNil))) (gN 1))
    (sSeq (sFor (wRange1 (wCons (wVar 0) wNil)) (gN 2) (sAsg (wOp oAdd (wVar 1) (wFrz (wComp [3] (wIt (wVar 1)) (gN 3) wYes (wOp oAdd (wVar 3) (wTup (wCons (wVar 2) wNil)))))) (gN 1)))
    (sRet (wVar 1))))
def setsL : Nat → List (List Int)
  | 0 => [[]]
  | n + 1 => setsL n ++ (setsL n).map fun r => r ++ [(n : Int)]
theorem setsL_len : ∀ n, (setsL n).length = 2 ^ n
  | 0 => rfl
  | n + 1 => by rw [setsL, List.length_append, List.length_map, setsL_len n, Nat.pow_succ]; omega
theorem setsL_ok : ∀ n, ∀ r ∈ setsL n, inR n r ∧ r.Pairwise (· < ·) ∧ r.length ≤ n
  | 0, r, h => by
    rw [List.mem_singleton.mp h]
    exact ⟨fun k (h : k ∈ ([] : List Int)) => absurd h (by simp), List.Pairwise.nil, Nat.le_refl _⟩
  | n + 1, r, h => by
    rcases List.mem_append.mp h with h | h
    · obtain ⟨h1, h2, h3⟩ := setsL_ok n r h
      exact ⟨fun k hk => by have := h1 k hk; omega, h2, by omega⟩
    · obtain ⟨r', h', rfl⟩ := List.mem_map.mp h
      obtain ⟨h1, h2, h3⟩ := setsL_ok n r' h'
      refine ⟨fun k hk => ?_, ?_, by simp; omega⟩
      · rcases List.mem_append.mp hk with h | h
        · have := h1 k h; omega
        · rw [List.mem_singleton.mp h]; omega
      · refine List.pairwise_append.mpr ⟨h2, List.pairwise_singleton .., fun a ha b hb => ?_⟩
        rw [List.mem_singleton.mp hb]
        have := h1 a ha
        omega
def C_sets : Ct := fun xs S Q => ∃ n : Nat, xs = [.int n] ∧ n ≤ 12 ∧ Q (.lst ((setsL n).map rowF)) S
theorem mono_C_sets : MonoC C_sets := fun xs S Q Q' k ⟨n, e, h, q⟩ => ⟨n, e, h, k _ _ q⟩
theorem sp_sets (fs : List F) (S : Sto) (Q) (h : C_sets fs S Q) : fs.length = 1 ∧ W_sets { nx := fun _ S' => Q .non S', rt := fun d S' => Q d S' } (startF 4 fs) S := by
  obtain ⟨n, rfl, hn, q⟩ := h
  refine ⟨rfl, ?_⟩
  show W_sets _ [some (.int n), none, none, none] S
  unfold W_sets
  walk_at "nx"
  walk_at "nx"
  refine ⟨by omega, ?_⟩
  refine forL_rng (fun i ρ S' => S' = S ∧ ∃ o2 o3 : Option F, ρ = [some (.int n), some (.lst ((setsL i).map rowF)), o2, o3]) ⟨rfl, _, _, rfl⟩ (fun _ _ _ _ => trivial) (fun i hi ρ S' N ⟨eS, o2, o3, eρ⟩ hN => ?_) (fun ρ S' ⟨eS, o2, o3, eρ⟩ => ?_)
  · subst eS eρ
    have l0 := setsL_len i
    have l1 : 2 ^ i ≤ 2 ^ 12 := Nat.pow_le_pow_right (by decide) (by omega)
    simp [-compL_cons]
    refine ⟨mil (by omega), ?_⟩
    refine compL_mapT rowF (fun r => rowF (r ++ [(i : Int)])) trivial _ _ (fun r hr Q2 q2 => ?_) ?_
    · have := (setsL_ok i r hr).2.2
      simp [rowF]
      refine ⟨mil (by omega), ?_⟩
      simpa [rowF] using q2
    · simp
      refine ⟨mil (by omega), hN _ _ ⟨rfl, some (.int i), o3, ?_⟩⟩
      rw [setsL, List.map_append, List.map_map]
      rfl
  · subst eS eρ
    simpa using q
end DL

set_option maxHeartbeats 4000000
namespace DL
open PySem PySem.Spec PyProof.Rows L2
/-! xs.index(k) and xs.count(k) of lists of ints -/
section
variable {X : Cx}
def mIndex : DMt := fun x xs S Q => match xs with
  | [.int k] => ∃ (ns : List Int) (j : Nat), listR S x = some (ns.map F.int) ∧ ns[j]? = some k ∧ (∀ m, m < j → ns[m]? ≠ some k) ∧ Q (.int (j : Nat)) S
  | _ => False
theorem m_index : MtD X "list.index" mIndex := by
  refine ⟨fun d xs S Q Q' k h => ?_, mtWeak mt_index fun v vs H Q ⟨d, ds, S, Z, dv, dvs, R, h⟩ => ?_⟩
  · unfold mIndex at h ⊢
    split at h
    · obtain ⟨ns, j, h1, h2, h3, h4⟩ := h
      exact ⟨ns, j, h1, h2, h3, k _ _ h4⟩
    · exact h.elim
  · unfold mIndex at h
    split at h
    · rename_i k
      obtain ⟨ns, j, h1, h2, h3, h4⟩ := h
      obtain ⟨w, rfl, dw⟩ := dens1 dvs
      obtain ⟨a, us, rfl, s1, d2⟩ := listR_of R dv h1
      have e := Dens.ints d2
      subst e
      refine ⟨a, _, _, j, .int k, rfl, rfl, s1, by rw [den_int dw]; rfl, ?_, ?_, by rw [den_int dw]; simp [eqV], ?_, h4 _ _ _ Ext.refl R (.int _)⟩
      · rw [List.all_map, List.all_eq_true]
        exact fun _ _ => rfl
      · rw [List.getElem?_map, h2]
        rfl
      · intro m z' hm hz
        rw [List.getElem?_map] at hz
        obtain ⟨i, hi, rfl⟩ := Option.map_eq_some_iff.mp hz
        rw [den_int dw]
        have : i ≠ k := fun e => h3 m hm (by rw [hi, e])
        simp [eqV, this]
    · exact h.elim
def mCount : DMt := fun x xs S Q => match xs with
  | [.int k] => ∃ ns : List Int, listR S x = some (ns.map F.int) ∧ Q (.int (ns.count k : Nat)) S
  | _ => False
theorem m_count : MtD X "list.count" mCount := by
  refine ⟨fun d xs S Q Q' k h => ?_, mtWeak mt_lcount fun v vs H Q ⟨d, ds, S, Z, dv, dvs, R, h⟩ => ?_⟩
  · unfold mCount at h ⊢
    split at h
    · obtain ⟨ns, h1, h2⟩ := h
      exact ⟨ns, h1, k _ _ h2⟩
    · exact h.elim
  · unfold mCount at h
    split at h
    · rename_i k
      obtain ⟨ns, h1, h2⟩ := h
      obtain ⟨w, rfl, dw⟩ := dens1 dvs
      obtain ⟨a, us, rfl, s1, d2⟩ := listR_of R dv h1
      have e := Dens.ints d2
      subst e
      exact ⟨a, ns, k, rfl, by rw [den_int dw], s1, h2 _ _ _ Ext.refl R (.int _)⟩
    · exact h.elim
end
end DL

set_option maxHeartbeats 4000000
namespace DL
open PySem PySem.Spec PyProof.Rows L2
/-! xs[i] op= e, xs a list that changes -/
section
variable {X : Cx}
def rGetL : V → V → Hp → VK → Prop := fun o i H Q => ∃ (a : Addr) (xs : List V) (k : Int) (x : V), o = .ref a ∧ i = .int k ∧ H a = some (.lst xs) ∧ 0 ≤ k ∧ k < 2 ^ 63 ∧ xs[k.toNat]? = some x ∧ Q x H
theorem get_listL : PGet X rGetL := by
  intro pins s σ H o i ov iv Q I ro ri ⟨a, xs, k, x, e1, e2, hH, h0, h1, hx, q⟩
  subst e1 e2
  obtain rfl : ov = .ref a := ro
  obtain ⟨t, rfl⟩ : ∃ t, iv = .int k t := ri
  obtain ⟨its, n, V, hg, _⟩ := I.lst hH
  obtain ⟨u, hu, ru⟩ := V.get hx
  exact wpAny_getItem_list ⟨_, hg, rfl, n, rfl⟩ h0 h1 (by simpa using hu) ⟨x, H, I, ru, q⟩
def oGetP : F → F → Sto → (F → Sto → Prop) → Prop := fun o i S Q => match o, i with
  | .loc a, .int k => (match S a with
    | some fs => 0 ≤ k ∧ k < 2 ^ 63 ∧ (match fs[k.toNat]? with | some x => Q x S | none => False)
    | none => False)
  | _, _ => False
theorem mono_oGetP {o i : F} {S : Sto} {Q Q' : F → Sto → Prop} (k : ∀ d S', Q d S' → Q' d S') (h : oGetP o i S Q) : oGetP o i S Q' := by
  unfold oGetP at h ⊢
  split at h
  · split at h
    · refine ⟨h.1, h.2.1, ?_⟩
      have h := h.2.2
      split at h
      · exact k _ _ h
      · exact h.elim
    · exact h.elim
  · exact h.elim
def sAugS (mo mi me : W F) (op : DOp) : WS := fun D ρ S => mo ρ S fun o S1 => mi ρ S1 fun i S2 => oGetP o i S2 fun x S3 => me ρ S3 fun y S4 => op x y S4 fun z S5 => oSetL o i z S5 fun S6 => D.nx ρ S6
theorem psd_augS {o i e : Expr} {mo mi me : W F} {op : Operator} {c : DOp} {tpos pos : Pos} (ho : PD X o mo) (hi : PD X i mi) (he : PD X e me) (hc : IpD X op c)
    (ha : ∀ (ov iv new : Value), augStore i ov iv new = (do holding [new, ov, iv] (setItem ov iv new); release [new, ov, iv] []; pure .next) := by intro _ _ _; rfl) :
    PSD X (.AugAssign (.Subscript o i tpos) op e pos) (sAugS mo mi me c) := by
  refine ⟨fun D D' ρ S h l => ?_, weakS (ps_augS ho.run hi.run get_listL he.run hc.run set_list ha) fun D σ H ⟨ρ, S, Z, r, R, h⟩ => ?_⟩
  · unfold sAugS at h ⊢
    exact ho.mono _ _ _ _ (fun _ _ q => hi.mono _ _ _ _ (fun _ _ q => mono_oGetP (fun _ _ q => he.mono _ _ _ _ (fun _ _ q => hc.mono _ _ _ _ _ (fun _ _ q => mono_oSetL (fun _ q => l.nx _ _ q) q) q) q) q) q) h
  · refine tD_in ho.mono r R h fun ov S1 v1 Z1 H1 q e1 R1 d1 => ?_
    refine tD_in hi.mono (r.ext e1.z) R1 q fun iv S2 v2 Z2 H2 q e2 R2 d2 => ?_
    unfold oGetP at q
    split at q
    · skip
      split at q
      · rename_i fs e0
        obtain ⟨k0, k1, q⟩ := q
        split at q
        · rename_i x ex
          cases d1
          obtain ⟨us, h1, h2⟩ := R2.s _ _ e0
          obtain ⟨w, hw, dw⟩ := h2.get ex
          refine ⟨_, us, _, w, rfl, den_int d2, h1, k0, k1, hw, ?_⟩
          refine tD_in he.mono (r.ext (e1.trans e2).z) R2 q fun y S4 v4 Z4 H4 q e4 R4 d4 => ?_
          refine ⟨x, y, S4, Z4, dw.ext e4.z, d4, R4, hc.mono _ _ _ _ _ (fun z S5 q v5 Z5 H5 e5 R5 d5 => ?_) q⟩
          unfold oSetL at q
          dsimp only at q
          split at q
          · rename_i fs5 e05
            split at q
            · rename_i j ej
              obtain ⟨us5, h15, h25⟩ := R5.s _ _ e05
              obtain ⟨R6, e6⟩ := R5.write e05 (h25.set j d5)
              exact ⟨_, us5, _, j, rfl, den_int d2, h15, by rw [h25.length]; exact ej, q σ Z5 _ ((((e1.trans e2).trans e4).trans e5).trans e6) (r.ext (((e1.trans e2).trans e4).trans e5).z) R6⟩
            · exact q.elim
          · exact q.elim
        · exact q.elim
      · exact q.elim
    · exact q.elim
@[simp, simp ↓] theorem sAugS_ev {mo mi me : W F} {op : DOp} {D : EndsD} {ρ : Slots} {S : Sto} : sAugS mo mi me op D ρ S = mo ρ S fun o S1 => mi ρ S1 fun i S2 => oGetP o i S2 fun x S3 => me ρ S3 fun y S4 => op x y S4 fun z S5 => oSetL o i z S5 fun S6 => D.nx ρ S6 := (rfl)
@[simp, simp ↓] theorem oGetP_ev {a : Addr} {k : Int} {S : Sto} {Q : F → Sto → Prop} : oGetP (.loc a) (.int k) S Q = (match S a with
    | some fs => 0 ≤ k ∧ k < 2 ^ 63 ∧ (match fs[k.toNat]? with | some x => Q x S | none => False)
    | none => False) := (rfl)
end
end DL

set_option maxHeartbeats 4000000
namespace RSeq
open PySem PySem.Spec PyProof.Rows L2
/-! sets of ints, made of a tuple; their length -/
def dedup : List Int → List Int
  | [] => []
  | x :: l => if x ∈ l then dedup l else x :: dedup l
theorem mem_dedup {k : Int} : ∀ {l : List Int}, k ∈ dedup l ↔ k ∈ l
  | [] => Iff.rfl
  | x :: l => by
    unfold dedup
    split
    · rename_i h
      rw [mem_dedup (l := l), List.mem_cons]
      exact ⟨.inr, fun q => q.elim (fun e => by rw [e]; exact h) id⟩
    · rw [List.mem_cons, List.mem_cons, mem_dedup (l := l)]
theorem nodup_dedup : ∀ l : List Int, (dedup l).Nodup
  | [] => .nil
  | x :: l => by
    unfold dedup
    split
    · exact nodup_dedup l
    · rename_i h
      exact List.nodup_cons.mpr ⟨fun q => h (mem_dedup.mp q), nodup_dedup l⟩
theorem setR_len {w : World} {h : Heap} {a : Addr} {ns : List Int} {c : Nat} (r : SetR w h a (fun j => decide (j ∈ ns)) c) : c = (dedup ns).length := by
  obtain ⟨o, es, ep, t, _, _, _, _, h5, h6, _, _, h9, _⟩ := r
  have hp : (es.toList.map keyOf).Perm (dedup ns) := by
    rw [List.perm_ext_iff_of_nodup h5 (nodup_dedup ns)]
    intro k
    rw [mem_dedup, ← h6 k, decide_eq_true_eq]
  have := hp.length_eq
  rw [List.length_map] at this
  rw [← h9, ← this]
  simp
section
variable {X : Cx}
def rSetA (K : PySem.W.Frag) (w : World) : List V → Hp → VK → Prop := fun xs H Q => ∃ (p : Addr) (ns : List Int), xs = [V.ref p] ∧ SqT K H p (ns.map V.int) ∧ ns.length ≤ 1000 ∧ ∀ a, H a = none → Q (.ref a) (upd H a (SetO w a (fun j => decide (j ∈ ns)) (dedup ns).length))
theorem cr_setA (hc : X.calm = true) : CallR X (.type "set") (rSetA X.K X.w) := by
  intro pins s σ H xs us Q I r ⟨p, ns, ex, hq, hl, q⟩
  subst ex
  rw [Vals.ref1 r]
  obtain ⟨its, rv, ht, hz⟩ := I.tuple hq
  refine call_set_tupI (P := X.prog) (w := X.w) (items := its.toArray) ns (I.ok.hd hc) ht (by simpa using rv.ints) (Nat.lt_of_le_of_lt (Nat.succ_le_succ hl) (by decide)) fun h' tk c hs hcl hk => ?_
  rw [setR_len hs] at hs
  exact ⟨.ref s.heap.objs.size, _, I.laid (t' := tk) (o := SetO X.w s.heap.objs.size (fun j => decide (j ∈ ns)) (dedup ns).length) hk (Nat.le_refl _) (setO_new hs), rfl, q _ (I.hok.fresh (Nat.le_refl _))⟩
def rLenS (w : World) : List V → Hp → VK → Prop := fun xs H Q => ∃ (a : Addr) (S : Int → Bool) (n : Nat), xs = [V.ref a] ∧ H a = some (SetO w a S n) ∧ Q (.int (n : Nat)) H
theorem cr_lenS : CallR X (.builtin "len") (rLenS X.w) := by
  intro pins s σ H xs us Q I r ⟨a, S, n, ex, ha, q⟩
  subst ex
  rw [Vals.ref1 r]
  have hs : SetR X.w s.heap a S n := setO_get I ha
  obtain ⟨o, es, ep, t, h1, h2, h3, _, _, _, h7, h8, h9, _⟩ := hs
  refine call_len_set h1 h2 h3 h8 (by have : (scanBound : Nat) < 2 ^ 62 := by decide
                                      omega) ?_
  rw [h9]
  exact ⟨.int (n : Nat), H, I.kept (t' := s.toks + 1 + 1) fun _ _ h => h, ⟨_, rfl⟩, q⟩
end
end RSeq
namespace DL
open PySem PySem.Spec PyProof.Rows L2 RSeq
section
variable {X : Cx}
def wLenSet (m : W F) : W F := fun ρ S Q => m ρ S fun x S1 => match x with
  | .tup fs => ∃ ns : List Int, fs = ns.map F.int ∧ ns.length ≤ 1000 ∧ Q (.int ((dedup ns).length : Nat)) S1
  | _ => False
theorem pd_lenSet {a : Expr} {m : W F} {p p2 q pos : Pos} (hc : X.calm = true) (hg : Gl X "len") (hm : X.mg "len" = none) (hg2 : Gl X "set") (hm2 : X.mg "set" = none) (ha : PD X a m)
    (hs : starEach [.Call (.Name "set" p2) [a] [] q] X.env = (false, eval (.Call (.Name "set" p2) [a] [] q) X.env) :: starEach [] X.env := by rfl) (hs2 : starEach [a] X.env = (false, eval a X.env) :: starEach [] X.env := by rfl) :
    PD X (.Call (.Name "len" p) [.Call (.Name "set" p2) [a] [] q] [] pos) (wLenSet m) := by
  refine ⟨fun ρ S Q Q' k h => ha.mono _ _ _ _ (fun x S1 h => ?_) h, weakE (pe_callB cr_lenS hg hm (by decide +kernel) (pa_cons (pe_callTy (cr_setA hc) hg2 hm2 (by decide +kernel) (pa_cons ha.run pa_nil hs2) (by decide) (by decide) hs2 (by rfl)) pa_nil hs) (by decide) (by decide) hs (by rfl)) fun σ H Q ⟨ρ, S, Z, r, R, h⟩ => ?_⟩
  · split at h
    · obtain ⟨ns, h1, h2, h3⟩ := h
      exact ⟨ns, h1, h2, k _ _ h3⟩
    · exact h.elim
  · refine tD_in ha.mono r R h fun x S1 v1 Z1 H1 q1 e1 R1 d1 => ?_
    split at q1
    · obtain ⟨ns, h1, h2, q2⟩ := q1
      subst h1
      obtain ⟨b, vs, rfl, g1, g2⟩ := tup_of R1 d1
      have := g2.ints
      subst this
      refine ⟨b, ns, rfl, g1, h2, fun a ha => ⟨a, _, _, rfl, upd_same, ?_⟩⟩
      obtain ⟨R2, e2⟩ := R1.new ha (SetO X.w a (fun j => decide (j ∈ ns)) (dedup ns).length)
      exact q2 _ _ _ (e1.trans e2) R2 (.int _)
    · exact q1.elim
@[simp, simp ↓] theorem wLenSet_ev {m : W F} {ρ : Slots} {S : Sto} {Q : F → Sto → Prop} : wLenSet m ρ S Q = m ρ S fun x S1 => match x with
  | .tup fs => ∃ ns : List Int, fs = ns.map F.int ∧ ns.length ≤ 1000 ∧ Q (.int ((dedup ns).length : Nat)) S1
  | _ => False := (rfl)
/-! t += u, also of tuples -/
theorem ip_tup {prog : Program} {w : World} {A : Around} {E : Value → Shared → Prop} {s : Shared} {a b : Addr} {xs ys : List Value} {Q : Value → Shared → Prop} (h1 : s.heap.IsTuple a xs.toArray) (h2 : s.heap.IsTuple b ys.toArray) (hz : xs.length + ys.length ≤ sizeLine)
    (q0 : xs = [] → Q (.ref b) s) (q1 : xs ≠ [] → ys = [] → Q (.ref a) s)
    (q2 : xs ≠ [] → ys ≠ [] → Q (.ref s.heap.objs.size) { s with heap := s.heap.push { cls := .type "tuple", data := .seq (xs ++ ys).toArray } }) :
    wpAny (model prog w) A (inplaceOp .Add (.ref a) (.ref b)) Q E s := by
  obtain ⟨⟨cls, dd, data, sl⟩, ho, hc, n, hd⟩ := h1
  obtain ⟨⟨cls2, dd2, data2, sl2⟩, ho2, hc2, n2, hd2⟩ := h2
  dsimp only at hc hd hc2 hd2
  subst hc hd hc2 hd2
  refine wpAny_inplaceOp_concat (T := "tuple") ⟨_, ho, rfl⟩ ⟨_, ho2, rfl⟩ (by kernel_rfl) noFill_tuple_add seq_tuple_add ?_
  by_cases e1 : xs = []
  · subst e1
    exact call_meets F.slot_tuple_add ⟨_, ho, rfl⟩ F.entry_tuple_add (F.args_tuple_add_2 _ _) (tuple_addW0 a b _ _ n n2 dd dd2 sl sl2 (by rfl)) ⟨ho, ho2, q0 rfl⟩
  · by_cases e2 : ys = []
    · subst e2
      exact call_meets F.slot_tuple_add ⟨_, ho, rfl⟩ F.entry_tuple_add (F.args_tuple_add_2 _ _) (tuple_addW1 a b xs.toArray _ n n2 dd dd2 sl sl2 (by simpa using e1) (by rfl)) ⟨ho, ho2, q1 e1 rfl⟩
    · have := q2 e1 e2
      exact call_meets F.slot_tuple_add ⟨_, ho, rfl⟩ F.entry_tuple_add (F.args_tuple_add_2 _ _) (tuple_addW2 a b xs.toArray ys.toArray n n2 dd dd2 sl sl2 (by simpa using e1) (by simpa using e2) (by simpa using hz)) ⟨ho, ho2, by simpa using this⟩
def ipAddA : DOp := fun x y S Q => match x, y with
  | .int i, .int j => Q (.int (i + j)) S
  | .tup fs, .tup gs => fs.length + gs.length ≤ sizeLine ∧ Q (.tup (fs ++ gs)) S
  | _, _ => False
theorem ipd_addA : IpD X .Add ipAddA := by
  refine ⟨fun x y S Q Q' k h => ?_, fun pins s σ H x y v u Q I rx ry ⟨d, e, S, Z, dx, dy, R, h⟩ => ?_⟩
  · unfold ipAddA at h ⊢
    split at h
    · exact k _ _ h
    · exact ⟨h.1, k _ _ h.2⟩
    · exact h.elim
  · unfold ipAddA at h
    split at h
    · exact ip_add pins s σ H x y v u Q I rx ry ⟨_, _, den_int dx, den_int dy, fin_same R (.int _) h⟩
    · rename_i fs gs
      obtain ⟨a, vs, rfl, h1, h2⟩ := tup_of R dx
      obtain ⟨b, us, rfl, h3, h4⟩ := tup_of R dy
      obtain rfl : v = .ref a := rx
      obtain rfl : u = .ref b := ry
      obtain ⟨its, rv, p1, _⟩ := I.tuple h1
      obtain ⟨its2, rv2, p2, _⟩ := I.tuple h3
      have l1 := h2.length
      have l2 := h4.length
      have l3 := rv.length
      have l4 := rv2.length
      obtain ⟨hz, h⟩ := h
      refine ip_tup p1 p2 (by omega) (fun e0 => ?_) (fun e0 e1 => ?_) fun e0 e1 => ?_
      · have : fs = [] := List.eq_nil_of_length_eq_zero (by rw [← l1, l3, e0]; rfl)
        subst this
        exact ⟨.ref b, H, I, rfl, fin_same R dy h⟩
      · have : gs = [] := List.eq_nil_of_length_eq_zero (by rw [← l2, l4, e1]; rfl)
        subst this
        exact ⟨.ref a, H, I, rfl, fin_same R dx (by rwa [List.append_nil] at h)⟩
      · have hfr := I.hok.fresh (Nat.le_refl s.heap.objs.size)
        refine ⟨.ref s.heap.objs.size, upd H s.heap.objs.size (.tup (vs ++ us)), I.laid (t' := s.toks) (fun b o h => Heap.get?_push_of_some _ h) (Nat.le_refl _) ⟨by rw [List.length_append]; omega, its ++ its2, rv.append rv2, ⟨_, Heap.get?_push_size _ rfl, rfl, _, rfl⟩⟩, rfl, fin_tup R hfr (h2.append h4) h⟩
    · exact h.elim
@[simp, simp ↓] theorem ipAddA_ii {i j : Int} {S : Sto} {Q : F → Sto → Prop} : ipAddA (.int i) (.int j) S Q = Q (.int (i + j)) S := (rfl)
@[simp, simp ↓] theorem ipAddA_tt {fs gs : List F} {S : Sto} {Q : F → Sto → Prop} : ipAddA (.tup fs) (.tup gs) S Q = (fs.length + gs.length ≤ sizeLine ∧ Q (.tup (fs ++ gs)) S) := (rfl)
end
end DL

set_option maxHeartbeats 4000000
namespace DL
open PySem PySem.Spec PyProof.Rows L2
/-! x < y of ints or of tuples of ints -/
section
variable {X : Cx}
def oLtA : DOp := fun x y S Q => match x, y with
  | .int i, .int j => Q (.bl (decide (i < j))) S
  | .tup fs, .tup gs => ∃ ns ms : List Int, fs = ns.map F.int ∧ gs = ms.map F.int ∧ Q (.bl (HT.lexLt ns ms)) S
  | _, _ => False
theorem o_ltA (hu : X.A.units + 64 < cLine) : OpD X (compareOp .Lt) oLtA := by
  refine ⟨fun x y S Q Q' k h => ?_, opWeak (OpR.or op_lt (op_ltT (by omega))) fun x y H Q ⟨d, e, S, Z, dx, dy, R, h⟩ => ?_⟩
  · unfold oLtA at h ⊢
    split at h
    · exact k _ _ h
    · obtain ⟨ns, ms, h1, h2, h3⟩ := h
      exact ⟨ns, ms, h1, h2, k _ _ h3⟩
    · exact h.elim
  · unfold oLtA at h
    split at h
    · exact .inl ⟨_, _, den_int dx, den_int dy, fin_same R (.bl _) h⟩
    · obtain ⟨ns, ms, h1, h2, h3⟩ := h
      subst h1 h2
      obtain ⟨a, vs, rfl, g1, g2⟩ := tup_of R dx
      obtain ⟨b, us, rfl, g3, g4⟩ := tup_of R dy
      have := g2.ints
      subst this
      have := g4.ints
      subst this
      exact .inr ⟨a, b, ns, ms, rfl, rfl, g1, g3, fin_same R (.bl _) h3⟩
    · exact h.elim
@[simp, simp ↓] theorem oLtA_ii {i j : Int} {S : Sto} {Q : F → Sto → Prop} : oLtA (.int i) (.int j) S Q = Q (.bl (decide (i < j))) S := (rfl)
theorem oLtA_row {a b : List Int} {S : Sto} {Q : F → Sto → Prop} (q : Q (.bl (HT.lexLt a b)) S) : oLtA (rowF a) (rowF b) S Q := ⟨a, b, rfl, rfl, q⟩
end
end DL

set_option maxHeartbeats 4000000
namespace DL.K28
open PySem PySem.Spec PyProof.Rows L2 DL
/-! printed by gen.py: what each def of toldbysums_k28_whole_rows_of_switches computes, def by def -/
def topS (i : Nat) : Stmt := PySem.Challenge.pw_toldbysums_k28_whole_rows_of_switches.main.body.getD i (.Pass ⟨0, 0, 0, 0⟩)

abbrev s_is_count : Stmt := topS 1
abbrev names_is_count : List Str := ["value", "least", "most"]
theorem sc_is_count : FnScope names_is_count ["value", "least", "most"] (defScope s_is_count) := ⟨rfl, rfl, rfl, by decide +kernel, rfl, by decide +kernel, by decide +kernel⟩
def w_is_count : WS :=
  (sRet (wAnd (wIsi "int" (wVar 0)) (wAnd (wNot (wIsi "bool" (wVar 0))) (wChain oLe oLe (wVar 1) (wVar 0) (wVar 2)))))
section
variable {P : Program} {w : World} {K : PySem.W.Frag} {mg : Str → Option Value} {base : Heap}
theorem body_is_count (B : Bl mg) {f : Addr} {qual : Str} (cdv : Value) (A : Around) (outer : List Env) (s : Shared) (H : Hp) (hr : Room 0 (A.deeper (envOfC qual (defScope s_is_count) s.heap.objs.size f cdv))) :
    PSsD (cxOf CX0 P w K mg base names_is_count qual (defScope s_is_count) f cdv A outer s H E0).nox (defBody s_is_count) (w_is_count) :=
  (pssd_one (psd_ret (pd_and (pd_isi (T := "int") (by decide +kernel) (by rfl) B.isinstance (by rfl) B.int (by decide +kernel) (pd_var (pv 0))) (pd_and (pd_not (pd_isi (T := "bool") (by decide +kernel) (by rfl) B.isinstance (by rfl) B.bool (by decide +kernel) (pd_var (pv 0)))) (pd_one (pd_chain o_le o_le (pd_var (pv 1)) (pd_var (pv 0)) (pd_var (pv 2))))))))
theorem ok_is_count (B : Bl mg) {f : Addr} {fd : FuncData} {C : Ct} (F : FunD K "is_count" "is_count" (defArgs s_is_count) (defBody s_is_count) (defScope s_is_count) [] [] f fd) (mc : MonoC C)
    (hC : ∀ fs S Q, C fs S Q → fs.length = 3 ∧ w_is_count { nx := fun _ S' => Q .non S', rt := fun d S' => Q d S' } (startF 3 fs) S) : FnD P w K mg base (0 + 1) f fd ["value", "least", "most"] C :=
  fnD false F sc_is_count mc (w_is_count) (fun cdv A outer s H hr => body_is_count B cdv A outer s H hr) hC
end

abbrev s_is_pair : Stmt := topS 4
abbrev names_is_pair : List Str := ["n", "value"]
theorem sc_is_pair : FnScope names_is_pair ["n", "value"] (defScope s_is_pair) := ⟨rfl, rfl, rfl, by decide +kernel, rfl, by decide +kernel, by decide +kernel⟩
def w_is_pair (c_is_count : Ct) : WS :=
  (sSeq (sIf (bOr (bNot (wTst (wIsi "tuple" (wVar 1)))) (wTst (wOp oNe (wCall cLen (wCons (wVar 1) wNil)) (wC (.int 2))))) (sRet (wC (.bl false))) sNext)
    (sRet (wAnd (wCall c_is_count (wCons (wOp oIx (wVar 1) (wC (.int 0))) (wCons (wC (.int 0)) (wCons (wOp oSub (wVar 0) (wC (.int 1))) wNil)))) (wAnd (wCall c_is_count (wCons (wOp oIx (wVar 1) (wC (.int 1))) (wCons (wC (.int 0)) (wCons (wOp oSub (wVar 0) (wC (.int 1))) wNil)))) (wOp oLt (wOp oIx (wVar 1) (wC (.int 0))) (wOp oIx (wVar 1) (wC (.int 1))))))))
section
variable {P : Program} {w : World} {K : PySem.W.Frag} {mg : Str → Option Value} {base : Heap}
theorem body_is_pair (B : Bl mg) {c_is_count : Ct} (k_is_count : Cal P w K mg base 1 "is_count" ["value", "least", "most"] c_is_count) {f : Addr} {qual : Str} (cdv : Value) (A : Around) (outer : List Env) (s : Shared) (H : Hp) (hr : Room 1 (A.deeper (envOfC qual (defScope s_is_pair) s.heap.objs.size f cdv))) :
    PSsD (cxOf CX0 P w K mg base names_is_pair qual (defScope s_is_pair) f cdv A outer s H E0).nox (defBody s_is_pair) (w_is_pair c_is_count) :=
  (pssd_cons (psd_if (PBW.pb (pb_or (pb_not (pb_val (pd_isi (T := "tuple") (by decide +kernel) (by rfl) B.isinstance (by rfl) B.tuple (by decide +kernel) (pd_var (pv 1))))) (pb_or1 (pb_cmp (o_ne hr.units) (pd_callB c_len (by rfl) B.len (by decide +kernel) (pds_cons (pd_var (pv 1)) pds_nil)) pd_int (nomark _))))) (pssd_one (psd_ret pd_bl)) pssd_nil)
    (pssd_one (psd_ret (pd_and (pd_cal k_is_count hr (by rfl) (pds_cons (pd_ix ix_all (pd_var (pv 1)) pd_int (fun _ _ => rfl)) (pds_cons pd_int (pds_cons (pd_op o_sub (pd_var (pv 0)) pd_int) pds_nil)))) (pd_and (pd_cal k_is_count hr (by rfl) (pds_cons (pd_ix ix_all (pd_var (pv 1)) pd_int (fun _ _ => rfl)) (pds_cons pd_int (pds_cons (pd_op o_sub (pd_var (pv 0)) pd_int) pds_nil)))) (pd_one (pd_cmp o_lt (pd_ix ix_all (pd_var (pv 1)) pd_int (fun _ _ => rfl)) (pd_ix ix_all (pd_var (pv 1)) pd_int (fun _ _ => rfl)) (nomark _))))))))
theorem ok_is_pair (B : Bl mg) {c_is_count : Ct} (k_is_count : Cal P w K mg base 1 "is_count" ["value", "least", "most"] c_is_count) {f : Addr} {fd : FuncData} {C : Ct} (F : FunD K "is_pair" "is_pair" (defArgs s_is_pair) (defBody s_is_pair) (defScope s_is_pair) [] [] f fd) (mc : MonoC C)
    (hC : ∀ fs S Q, C fs S Q → fs.length = 2 ∧ w_is_pair c_is_count { nx := fun _ S' => Q .non S', rt := fun d S' => Q d S' } (startF 2 fs) S) : FnD P w K mg base (1 + 1) f fd ["n", "value"] C :=
  fnD false F sc_is_pair mc (w_is_pair c_is_count) (fun cdv A outer s H hr => body_is_pair B k_is_count cdv A outer s H hr) hC
end

abbrev s_is_graph : Stmt := topS 5
abbrev names_is_graph : List Str := ["value", "n", "pairs", "pair", "k"]
theorem sc_is_graph : FnScope names_is_graph ["value"] (defScope s_is_graph) := ⟨rfl, rfl, rfl, by decide +kernel, rfl, by decide +kernel, by decide +kernel⟩
def w_is_graph (c_is_count : Ct) (c_is_pair : Ct) : WS :=
  (sSeq (sIf (bOr (bNot (wTst (wIsi "tuple" (wVar 0)))) (bOr (wTst (wOp oNe (wCall cLen (wCons (wVar 0) wNil)) (wC (.int 2)))) (bNot (wTst (wCall c_is_count (wCons (wOp oIx (wVar 0) (wC (.int 0))) (wCons (wC (.int 0)) (wCons (wC (.int 24)) wNil)))))))) (sRet (wC (.bl false))) sNext)
    (sSeq (sAsg (wVar 0) (gTup2 2 (gCons2 (gN 1) (gCons2 (gN 2) gNil2))))
    (sSeq (sIf (bOr (bNot (wTst (wIsi "tuple" (wVar 2)))) (bNot (wTst (wCall cAll (wCons (wFrz (wComp [3] (wIt (wVar 2)) (gN 3) wYes (wCall c_is_pair (wCons (wVar 1) (wCons (wVar 3) wNil))))) wNil))))) (sRet (wC (.bl false))) sNext)
    (sRet (wCall cAll (wCons (wFrz (wComp [4] (wRange1 (wCons (wOp oSub (wCall cLen (wCons (wVar 2) wNil)) (wC (.int 1))) wNil)) (gN 4) wYes (wOp oLtA (wOp oIx (wVar 2) (wVar 4)) (wOp oIx (wVar 2) (wOp oAdd (wVar 4) (wC (.int 1))))))) wNil))))))
section
variable {P : Program} {w : World} {K : PySem.W.Frag} {mg : Str → Option Value} {base : Heap}
theorem body_is_graph (B : Bl mg) (g_MAX_VERTICES : ∃ t, mg "MAX_VERTICES" = some (.int 24 t)) {c_is_count : Ct} (k_is_count : Cal P w K mg base 1 "is_count" ["value", "least", "most"] c_is_count) {c_is_pair : Ct} (k_is_pair : Cal P w K mg base 2 "is_pair" ["n", "value"] c_is_pair) {f : Addr} {qual : Str} (cdv : Value) (A : Around) (outer : List Env) (s : Shared) (H : Hp) (hr : Room 2 (A.deeper (envOfC qual (defScope s_is_graph) s.heap.objs.size f cdv))) :
    PSsD (cxOf CX0 P w K mg base names_is_graph qual (defScope s_is_graph) f cdv A outer s H E0).nox (defBody s_is_graph) (w_is_graph c_is_count c_is_pair) :=
  (pssd_cons (psd_if (PBW.pb (pb_or (pb_not (pb_val (pd_isi (T := "tuple") (by decide +kernel) (by rfl) B.isinstance (by rfl) B.tuple (by decide +kernel) (pd_var (pv 0))))) (pb_or (pb_cmp (o_ne hr.units) (pd_callB c_len (by rfl) B.len (by decide +kernel) (pds_cons (pd_var (pv 0)) pds_nil)) pd_int (nomark _)) (pb_or1 (pb_not (pb_val (pd_cal k_is_count hr (by rfl) (pds_cons (pd_ix ix_all (pd_var (pv 0)) pd_int (fun _ _ => rfl)) (pds_cons pd_int (pds_cons (pd_gint g_MAX_VERTICES (by rfl)) pds_nil)))))))))) (pssd_one (psd_ret pd_bl)) pssd_nil)
    (pssd_cons (psd_asg (vs := [1, 2]) (pd_var (pv 0)) (pgd_tup rfl (pgds_cons (pgd_name (pg_name (i := 1) sc_is_graph.nd rfl (by first | exact .inl rfl | exact .inr rfl)) (by decide)) (pgds_cons (pgd_name (pg_name (i := 2) sc_is_graph.nd rfl (by first | exact .inl rfl | exact .inr rfl)) (by decide)) pgds_nil))))
    (pssd_cons (psd_if (PBW.pb (pb_or (pb_not (pb_val (pd_isi (T := "tuple") (by decide +kernel) (by rfl) B.isinstance (by rfl) B.tuple (by decide +kernel) (pd_var (pv 2))))) (pb_or1 (pb_not (pb_val (pd_callB (c_all rfl) (by rfl) B.all (by decide +kernel) (pds_cons (pd_frz (pl_lc (own := [("pair", 3)]) rfl sc_is_graph.nd (pid_seq (pd_var (pv 2))) (blkOk_by (N := names_is_graph) (sc := _) (by kernel_rfl)) (fun _ _ _ _ _ => (pgd_name (pg_name (i := 3) sc_is_graph.nd rfl (by first | exact .inl rfl | exact .inr rfl)) (by decide))) (fun _ _ _ _ _ => ptsd_nil) (fun _ _ _ _ _ => (pd_cal k_is_pair hr (by rfl) (pds_cons (pd_var (pv 1)) (pds_cons (pd_var (pv 3)) pds_nil)))))) pds_nil))))))) (pssd_one (psd_ret pd_bl)) pssd_nil)
    (pssd_one (psd_ret (pd_callB (c_all rfl) (by rfl) B.all (by decide +kernel) (pds_cons (pd_frz (pl_lc (own := [("k", 4)]) rfl sc_is_graph.nd (pid_range1 (by rfl) B.range (pds_cons (pd_op o_sub (pd_callB c_len (by rfl) B.len (by decide +kernel) (pds_cons (pd_var (pv 2)) pds_nil)) pd_int) pds_nil)) (blkOk_by (N := names_is_graph) (sc := _) (by kernel_rfl)) (fun _ _ _ _ _ => (pgd_name (pg_name (i := 4) sc_is_graph.nd rfl (by first | exact .inl rfl | exact .inr rfl)) (by decide))) (fun _ _ _ _ _ => ptsd_nil) (fun _ _ _ _ _ => (pd_cmp (o_ltA hr.units) (pd_ix ix_all (pd_var (pv 2)) (pd_var (pv 4)) (fun _ _ => rfl)) (pd_ix ix_all (pd_var (pv 2)) (pd_op o_add (pd_var (pv 4)) pd_int) (fun _ _ => rfl)) (nomark _))))) pds_nil)))))))
theorem ok_is_graph (B : Bl mg) (g_MAX_VERTICES : ∃ t, mg "MAX_VERTICES" = some (.int 24 t)) {c_is_count : Ct} (k_is_count : Cal P w K mg base 1 "is_count" ["value", "least", "most"] c_is_count) {c_is_pair : Ct} (k_is_pair : Cal P w K mg base 2 "is_pair" ["n", "value"] c_is_pair) {f : Addr} {fd : FuncData} {C : Ct} (F : FunD K "is_graph" "is_graph" (defArgs s_is_graph) (defBody s_is_graph) (defScope s_is_graph) [] [] f fd) (mc : MonoC C)
    (hC : ∀ fs S Q, C fs S Q → fs.length = 1 ∧ w_is_graph c_is_count c_is_pair { nx := fun _ S' => Q .non S', rt := fun d S' => Q d S' } (startF 5 fs) S) : FnD P w K mg base (2 + 1) f fd ["value"] C :=
  fnD false F sc_is_graph mc (w_is_graph c_is_count c_is_pair) (fun cdv A outer s H hr => body_is_graph B g_MAX_VERTICES k_is_count k_is_pair cdv A outer s H hr) hC
end

abbrev s_has_pair : Stmt := topS 6
abbrev names_has_pair : List Str := ["graph", "i", "j"]
theorem sc_has_pair : FnScope names_has_pair ["graph", "i", "j"] (defScope s_has_pair) := ⟨rfl, rfl, rfl, by decide +kernel, rfl, by decide +kernel, by decide +kernel⟩
def w_has_pair : WS :=
  (sRet (wOp oIn (wTup (wCons (wCall cMin2 (wCons (wVar 1) (wCons (wVar 2) wNil))) (wCons (wCall cMax2 (wCons (wVar 1) (wCons (wVar 2) wNil))) wNil))) (wOp oIx (wVar 0) (wC (.int 1)))))
section
variable {P : Program} {w : World} {K : PySem.W.Frag} {mg : Str → Option Value} {base : Heap}
theorem body_has_pair (B : Bl mg) {f : Addr} {qual : Str} (cdv : Value) (A : Around) (outer : List Env) (s : Shared) (H : Hp) (hr : Room 0 (A.deeper (envOfC qual (defScope s_has_pair) s.heap.objs.size f cdv))) :
    PSsD (cxOf CX0 P w K mg base names_has_pair qual (defScope s_has_pair) f cdv A outer s H E0).nox (defBody s_has_pair) (w_has_pair) :=
  (pssd_one (psd_ret (pd_cmp (o_in (un65 hr)) (pd_tup (pds_cons (pd_callB (c_min2 rfl) (by rfl) B.min (by decide +kernel) (pds_cons (pd_var (pv 1)) (pds_cons (pd_var (pv 2)) pds_nil))) (pds_cons (pd_callB (c_max2 rfl) (by rfl) B.max (by decide +kernel) (pds_cons (pd_var (pv 1)) (pds_cons (pd_var (pv 2)) pds_nil))) pds_nil))) (pd_ix ix_all (pd_var (pv 0)) pd_int (fun _ _ => rfl)) (by rfl))))
theorem ok_has_pair (B : Bl mg) {f : Addr} {fd : FuncData} {C : Ct} (F : FunD K "has_pair" "has_pair" (defArgs s_has_pair) (defBody s_has_pair) (defScope s_has_pair) [] [] f fd) (mc : MonoC C)
    (hC : ∀ fs S Q, C fs S Q → fs.length = 3 ∧ w_has_pair { nx := fun _ S' => Q .non S', rt := fun d S' => Q d S' } (startF 3 fs) S) : FnD P w K mg base (0 + 1) f fd ["graph", "i", "j"] C :=
  fnD false F sc_has_pair mc (w_has_pair) (fun cdv A outer s H hr => body_has_pair B cdv A outer s H hr) hC
end

abbrev s_degrees : Stmt := topS 7
abbrev names_degrees : List Str := ["graph", "found", "i", "j"]
theorem sc_degrees : FnScope names_degrees ["graph"] (defScope s_degrees) := ⟨rfl, rfl, rfl, by decide +kernel, rfl, by decide +kernel, by decide +kernel⟩
def w_degrees : WS :=
  (sSeq (sAsg (wOwn (wMulL (wFrz (wLst (wCons (wC (.int 0)) wNil))) (wOp oIx (wVar 0) (wC (.int 0))))) (gN 1))
    (sSeq (sFor (wIt (wOp oIx (wVar 0) (wC (.int 1)))) (gTup2 2 (gCons2 (gN 2) (gCons2 (gN 3) gNil2))) (sSeq (sAugS (wVar 1) (wVar 2) (wC (.int 1)) ipAdd)
    (sAugS (wVar 1) (wVar 3) (wC (.int 1)) ipAdd)))
    (sRet (wCall cTuple (wCons (wVar 1) wNil)))))
section
variable {P : Program} {w : World} {K : PySem.W.Frag} {mg : Str → Option Value} {base : Heap}
theorem body_degrees (B : Bl mg) {f : Addr} {qual : Str} (cdv : Value) (A : Around) (outer : List Env) (s : Shared) (H : Hp) (hr : Room 0 (A.deeper (envOfC qual (defScope s_degrees) s.heap.objs.size f cdv))) :
    PSsD (cxOf CX0 P w K mg base names_degrees qual (defScope s_degrees) f cdv A outer s H E0).nox (defBody s_degrees) (w_degrees) :=
  (pssd_cons (psd_set (i := 1) sc_degrees.nd rfl (by first | exact .inl rfl | exact .inr rfl) (pd_own (pl_mulL (pd_frz (pl_lst (pds_cons pd_int pds_nil))) (pd_ix ix_all (pd_var (pv 0)) pd_int (fun _ _ => rfl)))))
    (pssd_cons (psd_for (vs := [2, 3]) PassesOwn.never rfl (pid_seq (pd_ix ix_all (pd_var (pv 0)) pd_int (fun _ _ => rfl))) (pgd_tup rfl (pgds_cons (pgd_name (pg_name (i := 2) sc_degrees.nd rfl (by first | exact .inl rfl | exact .inr rfl)) (by decide)) (pgds_cons (pgd_name (pg_name (i := 3) sc_degrees.nd rfl (by first | exact .inl rfl | exact .inr rfl)) (by decide)) pgds_nil))) (pssd_cons (psd_augS (pd_var (pv 1)) (pd_var (pv 2)) pd_int ipd_add)
    (pssd_one (psd_augS (pd_var (pv 1)) (pd_var (pv 3)) pd_int ipd_add))))
    (pssd_one (psd_ret (pd_callTy c_tuple (by rfl) B.tuple (by decide +kernel) (pds_cons (pd_var (pv 1)) pds_nil))))))
theorem ok_degrees (B : Bl mg) {f : Addr} {fd : FuncData} {C : Ct} (F : FunD K "degrees" "degrees" (defArgs s_degrees) (defBody s_degrees) (defScope s_degrees) [] [] f fd) (mc : MonoC C)
    (hC : ∀ fs S Q, C fs S Q → fs.length = 1 ∧ w_degrees { nx := fun _ S' => Q .non (restr S S'), rt := fun d S' => Q d (restr S S') } (startF 4 fs) S) : FnD P w K mg base (0 + 1) f fd ["graph"] C :=
  fnD true F sc_degrees mc (w_degrees) (fun cdv A outer s H hr => body_degrees B cdv A outer s H hr) hC
end

abbrev s_neighbours : Stmt := topS 8
abbrev names_neighbours : List Str := ["graph", "found", "i", "j", "_", "row"]
theorem sc_neighbours : FnScope names_neighbours ["graph"] (defScope s_neighbours) := ⟨rfl, rfl, rfl, by decide +kernel, rfl, by decide +kernel, by decide +kernel⟩
def w_neighbours : WS :=
  (sSeq (sAsg (wOwn (wComp [4] (wRange1 (wCons (wOp oIx (wVar 0) (wC (.int 0))) wNil)) (gN 4) wYes (wOwn (wLst wNil)))) (gN 1))
    (sSeq (sFor (wIt (wOp oIx (wVar 0) (wC (.int 1)))) (gTup2 2 (gCons2 (gN 2) (gCons2 (gN 3) gNil2))) (sSeq (sExpr (wMt mAppend (wOp oIx (wVar 1) (wVar 2)) (wCons (wVar 3) wNil)))
    (sExpr (wMt mAppend (wOp oIx (wVar 1) (wVar 3)) (wCons (wVar 2) wNil)))))
    (sRet (wFrz (wComp [5] (wIt (wVar 1)) (gN 5) wYes (wFrz (wCall cSorted (wCons (wVar 5) wNil))))))))
section
variable {P : Program} {w : World} {K : PySem.W.Frag} {mg : Str → Option Value} {base : Heap}
theorem body_neighbours (B : Bl mg) {f : Addr} {qual : Str} (cdv : Value) (A : Around) (outer : List Env) (s : Shared) (H : Hp) (hr : Room 0 (A.deeper (envOfC qual (defScope s_neighbours) s.heap.objs.size f cdv))) :
    PSsD (cxOf CX0 P w K mg base names_neighbours qual (defScope s_neighbours) f cdv A outer s H E0).nox (defBody s_neighbours) (w_neighbours) :=
  (pssd_cons (psd_setLcO (i := 1) (own := [("_", 4)]) rfl sc_neighbours.nd rfl rfl (sw_true rfl rfl rfl (by decide +kernel)) (pid_range1 (by rfl) B.range (pds_cons (pd_ix ix_all (pd_var (pv 0)) pd_int (fun _ _ => rfl)) pds_nil)) (blkOk_by (N := names_neighbours) (sc := _) (by kernel_rfl)) (fun _ _ _ _ _ => (pgd_name (pg_name (i := 4) sc_neighbours.nd rfl (by first | exact .inl rfl | exact .inr rfl)) (by decide))) (fun _ _ _ _ _ => ptsd_nil) (fun _ _ _ _ _ => (pd_own (pl_lst pds_nil))))
    (pssd_cons (psd_for (vs := [2, 3]) PassesOwn.never rfl (pid_seq (pd_ix ix_all (pd_var (pv 0)) pd_int (fun _ _ => rfl))) (pgd_tup rfl (pgds_cons (pgd_name (pg_name (i := 2) sc_neighbours.nd rfl (by first | exact .inl rfl | exact .inr rfl)) (by decide)) (pgds_cons (pgd_name (pg_name (i := 3) sc_neighbours.nd rfl (by first | exact .inl rfl | exact .inr rfl)) (by decide)) pgds_nil))) (pssd_cons (psd_expr (pd_mt PySem.F.slot_list_append PySem.F.type_list_append m_append (pd_ix ix_all (pd_var (pv 1)) (pd_var (pv 2)) (fun _ _ => rfl)) (pds_cons (pd_var (pv 3)) pds_nil)))
    (pssd_one (psd_expr (pd_mt PySem.F.slot_list_append PySem.F.type_list_append m_append (pd_ix ix_all (pd_var (pv 1)) (pd_var (pv 3)) (fun _ _ => rfl)) (pds_cons (pd_var (pv 2)) pds_nil))))))
    (pssd_one (psd_ret (pd_frz (pl_lc (own := [("row", 5)]) rfl sc_neighbours.nd (pid_seq (pd_var (pv 1))) (blkOk_by (N := names_neighbours) (sc := _) (by kernel_rfl)) (fun _ _ _ _ _ => (pgd_name (pg_name (i := 5) sc_neighbours.nd rfl (by first | exact .inl rfl | exact .inr rfl)) (by decide))) (fun _ _ _ _ _ => ptsd_nil) (fun _ _ _ _ _ => (pd_frz (pl_callB c_sorted (by rfl) B.sorted (by decide +kernel) (pds_cons (pd_var (pv 5)) pds_nil))))))))))
theorem ok_neighbours (B : Bl mg) {f : Addr} {fd : FuncData} {C : Ct} (F : FunD K "neighbours" "neighbours" (defArgs s_neighbours) (defBody s_neighbours) (defScope s_neighbours) [] [] f fd) (mc : MonoC C)
    (hC : ∀ fs S Q, C fs S Q → fs.length = 1 ∧ w_neighbours { nx := fun _ S' => Q .non (restr S S'), rt := fun d S' => Q d (restr S S') } (startF 6 fs) S) : FnD P w K mg base (0 + 1) f fd ["graph"] C :=
  fnD true F sc_neighbours mc (w_neighbours) (fun cdv A outer s H hr => body_neighbours B cdv A outer s H hr) hC
end

abbrev s_without_pairs : Stmt := topS 9
abbrev names_without_pairs : List Str := ["graph", "gone", "more", "pairs", "pair"]
theorem sc_without_pairs : FnScope names_without_pairs ["graph", "gone", "more"] (defScope s_without_pairs) := ⟨rfl, rfl, rfl, by decide +kernel, rfl, by decide +kernel, by decide +kernel⟩
def w_without_pairs : WS :=
  (sSeq (sAsg (wFrz (wComp [4] (wIt (wOp oIx (wVar 0) (wC (.int 1)))) (gN 4) (wTst (wOp oNotIn (wVar 4) (wVar 1))) (wVar 4))) (gN 3))
    (sRet (wTup (wCons (wOp oIx (wVar 0) (wC (.int 0))) (wCons (wCall cTuple (wCons (wFrz (wCall cSortD (wCons (wOp oAdd (wVar 3) (wFrz (wCall cList (wCons (wVar 2) wNil)))) wNil))) wNil)) wNil)))))
section
variable {P : Program} {w : World} {K : PySem.W.Frag} {mg : Str → Option Value} {base : Heap}
theorem body_without_pairs (B : Bl mg) {f : Addr} {qual : Str} (cdv : Value) (A : Around) (outer : List Env) (s : Shared) (H : Hp) (hr : Room 0 (A.deeper (envOfC qual (defScope s_without_pairs) s.heap.objs.size f cdv))) :
    PSsD (cxOf CX0 P w K mg base names_without_pairs qual (defScope s_without_pairs) f cdv A outer s H E0).nox (defBody s_without_pairs) (w_without_pairs) :=
  (pssd_cons (psd_setLcF (i := 3) (own := [("pair", 4)]) rfl sc_without_pairs.nd rfl rfl (sw_true rfl rfl rfl (by decide +kernel)) (pid_seq (pd_ix ix_all (pd_var (pv 0)) pd_int (fun _ _ => rfl))) (blkOk_by (N := names_without_pairs) (sc := _) (by kernel_rfl)) (fun _ _ _ _ _ => (pgd_name (pg_name (i := 4) sc_without_pairs.nd rfl (by first | exact .inl rfl | exact .inr rfl)) (by decide))) (fun _ _ _ _ _ => (ptsd_one (pb_cmp (o_notin (un65 hr)) (pd_var (pv 4)) (pd_var (pv 1)) (by rfl)))) (fun _ _ _ _ _ => (pd_var (pv 4))))
    (pssd_one (psd_ret (pd_tup (pds_cons (pd_ix ix_all (pd_var (pv 0)) pd_int (fun _ _ => rfl)) (pds_cons (pd_callTy c_tuple (by rfl) B.tuple (by decide +kernel) (pds_cons (pd_frz (pl_callB (c_sortD (un65 hr)) (by rfl) B.sorted (by decide +kernel) (pds_cons (pd_op o_add (pd_var (pv 3)) (pd_frz (pl_callTy c_list (by rfl) B.list (by decide +kernel) (pds_cons (pd_var (pv 2)) pds_nil)))) pds_nil))) pds_nil)) pds_nil))))))
theorem ok_without_pairs (B : Bl mg) {f : Addr} {fd : FuncData} {C : Ct} (F : FunD K "without_pairs" "without_pairs" (defArgs s_without_pairs) (defBody s_without_pairs) (defScope s_without_pairs) [] [] f fd) (mc : MonoC C)
    (hC : ∀ fs S Q, C fs S Q → fs.length = 3 ∧ w_without_pairs { nx := fun _ S' => Q .non S', rt := fun d S' => Q d S' } (startF 5 fs) S) : FnD P w K mg base (0 + 1) f fd ["graph", "gone", "more"] C :=
  fnD false F sc_without_pairs mc (w_without_pairs) (fun cdv A outer s H hr => body_without_pairs B cdv A outer s H hr) hC
end

abbrev s_pair_of : Stmt := topS 10
abbrev names_pair_of : List Str := ["i", "j"]
theorem sc_pair_of : FnScope names_pair_of ["i", "j"] (defScope s_pair_of) := ⟨rfl, rfl, rfl, by decide +kernel, rfl, by decide +kernel, by decide +kernel⟩
def w_pair_of : WS :=
  (sRet (wIf (wTst (wOp oLt (wVar 0) (wVar 1))) (wTup (wCons (wVar 0) (wCons (wVar 1) wNil))) (wTup (wCons (wVar 1) (wCons (wVar 0) wNil)))))
section
variable {P : Program} {w : World} {K : PySem.W.Frag} {mg : Str → Option Value} {base : Heap}
theorem body_pair_of (B : Bl mg) {f : Addr} {qual : Str} (cdv : Value) (A : Around) (outer : List Env) (s : Shared) (H : Hp) (hr : Room 0 (A.deeper (envOfC qual (defScope s_pair_of) s.heap.objs.size f cdv))) :
    PSsD (cxOf CX0 P w K mg base names_pair_of qual (defScope s_pair_of) f cdv A outer s H E0).nox (defBody s_pair_of) (w_pair_of) :=
  (pssd_one (psd_ret (pd_if (pb_cmp o_lt (pd_var (pv 0)) (pd_var (pv 1)) (nomark _)) (pd_tup (pds_cons (pd_var (pv 0)) (pds_cons (pd_var (pv 1)) pds_nil))) (pd_tup (pds_cons (pd_var (pv 1)) (pds_cons (pd_var (pv 0)) pds_nil))))))
theorem ok_pair_of (B : Bl mg) {f : Addr} {fd : FuncData} {C : Ct} (F : FunD K "pair_of" "pair_of" (defArgs s_pair_of) (defBody s_pair_of) (defScope s_pair_of) [] [] f fd) (mc : MonoC C)
    (hC : ∀ fs S Q, C fs S Q → fs.length = 2 ∧ w_pair_of { nx := fun _ S' => Q .non S', rt := fun d S' => Q d S' } (startF 2 fs) S) : FnD P w K mg base (0 + 1) f fd ["i", "j"] C :=
  fnD false F sc_pair_of mc (w_pair_of) (fun cdv A outer s H hr => body_pair_of B cdv A outer s H hr) hC
end

abbrev s_is_switch : Stmt := topS 12
abbrev names_is_switch : List Str := ["graph", "value", "a", "b", "c", "d", "i"]
theorem sc_is_switch : FnScope names_is_switch ["graph", "value"] (defScope s_is_switch) := ⟨rfl, rfl, rfl, by decide +kernel, rfl, by decide +kernel, by decide +kernel⟩
def w_is_switch (c_is_count : Ct) (c_has_pair : Ct) : WS :=
  (sSeq (sIf (bOr (bNot (wTst (wIsi "tuple" (wVar 1)))) (bOr (wTst (wOp oNe (wCall cLen (wCons (wVar 1) wNil)) (wC (.int 4)))) (bNot (wTst (wCall cAll (wCons (wFrz (wComp [6] (wIt (wVar 1)) (gN 6) wYes (wCall c_is_count (wCons (wVar 6) (wCons (wC (.int 0)) (wCons (wOp oSub (wOp oIx (wVar 0) (wC (.int 0))) (wC (.int 1))) wNil)))))) wNil)))))) (sRet (wC (.bl false))) sNext)
    (sSeq (sAsg (wVar 1) (gTup2 4 (gCons2 (gN 2) (gCons2 (gN 3) (gCons2 (gN 4) (gCons2 (gN 5) gNil2))))))
    (sSeq (sIf (bOr (wTst (wOp oNe (wLenSet (wVar 1)) (wC (.int 4)))) (bOr (bNot (wTst (wCall c_has_pair (wCons (wVar 0) (wCons (wVar 2) (wCons (wVar 3) wNil)))))) (bNot (wTst (wCall c_has_pair (wCons (wVar 0) (wCons (wVar 4) (wCons (wVar 5) wNil)))))))) (sRet (wC (.bl false))) sNext)
    (sRet (wAnd (wNot (wCall c_has_pair (wCons (wVar 0) (wCons (wVar 3) (wCons (wVar 4) wNil))))) (wNot (wCall c_has_pair (wCons (wVar 0) (wCons (wVar 2) (wCons (wVar 5) wNil))))))))))
section
variable {P : Program} {w : World} {K : PySem.W.Frag} {mg : Str → Option Value} {base : Heap}
theorem body_is_switch (B : Bl mg) {c_is_count : Ct} (k_is_count : Cal P w K mg base 1 "is_count" ["value", "least", "most"] c_is_count) {c_has_pair : Ct} (k_has_pair : Cal P w K mg base 1 "has_pair" ["graph", "i", "j"] c_has_pair) {f : Addr} {qual : Str} (cdv : Value) (A : Around) (outer : List Env) (s : Shared) (H : Hp) (hr : Room 1 (A.deeper (envOfC qual (defScope s_is_switch) s.heap.objs.size f cdv))) :
    PSsD (cxOf CX0 P w K mg base names_is_switch qual (defScope s_is_switch) f cdv A outer s H E0).nox (defBody s_is_switch) (w_is_switch c_is_count c_has_pair) :=
  (pssd_cons (psd_if (PBW.pb (pb_or (pb_not (pb_val (pd_isi (T := "tuple") (by decide +kernel) (by rfl) B.isinstance (by rfl) B.tuple (by decide +kernel) (pd_var (pv 1))))) (pb_or (pb_cmp (o_ne hr.units) (pd_callB c_len (by rfl) B.len (by decide +kernel) (pds_cons (pd_var (pv 1)) pds_nil)) pd_int (nomark _)) (pb_or1 (pb_not (pb_val (pd_callB (c_all rfl) (by rfl) B.all (by decide +kernel) (pds_cons (pd_frz (pl_lc (own := [("i", 6)]) rfl sc_is_switch.nd (pid_seq (pd_var (pv 1))) (blkOk_by (N := names_is_switch) (sc := _) (by kernel_rfl)) (fun _ _ _ _ _ => (pgd_name (pg_name (i := 6) sc_is_switch.nd rfl (by first | exact .inl rfl | exact .inr rfl)) (by decide))) (fun _ _ _ _ _ => ptsd_nil) (fun _ _ _ _ _ => (pd_cal k_is_count hr (by rfl) (pds_cons (pd_var (pv 6)) (pds_cons pd_int (pds_cons (pd_op o_sub (pd_ix ix_all (pd_var (pv 0)) pd_int (fun _ _ => rfl)) pd_int) pds_nil))))))) pds_nil)))))))) (pssd_one (psd_ret pd_bl)) pssd_nil)
    (pssd_cons (psd_asg (vs := [2, 3, 4, 5]) (pd_var (pv 1)) (pgd_tup rfl (pgds_cons (pgd_name (pg_name (i := 2) sc_is_switch.nd rfl (by first | exact .inl rfl | exact .inr rfl)) (by decide)) (pgds_cons (pgd_name (pg_name (i := 3) sc_is_switch.nd rfl (by first | exact .inl rfl | exact .inr rfl)) (by decide)) (pgds_cons (pgd_name (pg_name (i := 4) sc_is_switch.nd rfl (by first | exact .inl rfl | exact .inr rfl)) (by decide)) (pgds_cons (pgd_name (pg_name (i := 5) sc_is_switch.nd rfl (by first | exact .inl rfl | exact .inr rfl)) (by decide)) pgds_nil))))))
    (pssd_cons (psd_if (PBW.pb (pb_or (pb_cmp (o_ne hr.units) (pd_lenSet rfl (by rfl) B.len (by rfl) B.set (pd_var (pv 1))) pd_int (nomark _)) (pb_or (pb_not (pb_val (pd_cal k_has_pair hr (by rfl) (pds_cons (pd_var (pv 0)) (pds_cons (pd_var (pv 2)) (pds_cons (pd_var (pv 3)) pds_nil)))))) (pb_or1 (pb_not (pb_val (pd_cal k_has_pair hr (by rfl) (pds_cons (pd_var (pv 0)) (pds_cons (pd_var (pv 4)) (pds_cons (pd_var (pv 5)) pds_nil)))))))))) (pssd_one (psd_ret pd_bl)) pssd_nil)
    (pssd_one (psd_ret (pd_and (pd_not (pd_cal k_has_pair hr (by rfl) (pds_cons (pd_var (pv 0)) (pds_cons (pd_var (pv 3)) (pds_cons (pd_var (pv 4)) pds_nil))))) (pd_one (pd_not (pd_cal k_has_pair hr (by rfl) (pds_cons (pd_var (pv 0)) (pds_cons (pd_var (pv 2)) (pds_cons (pd_var (pv 5)) pds_nil))))))))))))
theorem ok_is_switch (B : Bl mg) {c_is_count : Ct} (k_is_count : Cal P w K mg base 1 "is_count" ["value", "least", "most"] c_is_count) {c_has_pair : Ct} (k_has_pair : Cal P w K mg base 1 "has_pair" ["graph", "i", "j"] c_has_pair) {f : Addr} {fd : FuncData} {C : Ct} (F : FunD K "is_switch" "is_switch" (defArgs s_is_switch) (defBody s_is_switch) (defScope s_is_switch) [] [] f fd) (mc : MonoC C)
    (hC : ∀ fs S Q, C fs S Q → fs.length = 2 ∧ w_is_switch c_is_count c_has_pair { nx := fun _ S' => Q .non S', rt := fun d S' => Q d S' } (startF 7 fs) S) : FnD P w K mg base (1 + 1) f fd ["graph", "value"] C :=
  fnD false F sc_is_switch mc (w_is_switch c_is_count c_has_pair) (fun cdv A outer s H hr => body_is_switch B k_is_count k_has_pair cdv A outer s H hr) hC
end

abbrev s_switched : Stmt := topS 13
abbrev names_switched : List Str := ["graph", "switch", "a", "b", "c", "d"]
theorem sc_switched : FnScope names_switched ["graph", "switch"] (defScope s_switched) := ⟨rfl, rfl, rfl, by decide +kernel, rfl, by decide +kernel, by decide +kernel⟩
def w_switched (c_without_pairs : Ct) (c_pair_of : Ct) : WS :=
  (sSeq (sAsg (wVar 1) (gTup2 4 (gCons2 (gN 2) (gCons2 (gN 3) (gCons2 (gN 4) (gCons2 (gN 5) gNil2))))))
    (sRet (wCall c_without_pairs (wCons (wVar 0) (wCons (wFrz (wLst (wCons (wCall c_pair_of (wCons (wVar 2) (wCons (wVar 3) wNil))) (wCons (wCall c_pair_of (wCons (wVar 4) (wCons (wVar 5) wNil))) wNil)))) (wCons (wFrz (wLst (wCons (wCall c_pair_of (wCons (wVar 3) (wCons (wVar 4) wNil))) (wCons (wCall c_pair_of (wCons (wVar 2) (wCons (wVar 5) wNil))) wNil)))) wNil))))))
section
variable {P : Program} {w : World} {K : PySem.W.Frag} {mg : Str → Option Value} {base : Heap}
theorem body_switched (B : Bl mg) {c_without_pairs : Ct} (k_without_pairs : Cal P w K mg base 1 "without_pairs" ["graph", "gone", "more"] c_without_pairs) {c_pair_of : Ct} (k_pair_of : Cal P w K mg base 1 "pair_of" ["i", "j"] c_pair_of) {f : Addr} {qual : Str} (cdv : Value) (A : Around) (outer : List Env) (s : Shared) (H : Hp) (hr : Room 1 (A.deeper (envOfC qual (defScope s_switched) s.heap.objs.size f cdv))) :
    PSsD (cxOf CX0 P w K mg base names_switched qual (defScope s_switched) f cdv A outer s H E0).nox (defBody s_switched) (w_switched c_without_pairs c_pair_of) :=
  (pssd_cons (psd_asg (vs := [2, 3, 4, 5]) (pd_var (pv 1)) (pgd_tup rfl (pgds_cons (pgd_name (pg_name (i := 2) sc_switched.nd rfl (by first | exact .inl rfl | exact .inr rfl)) (by decide)) (pgds_cons (pgd_name (pg_name (i := 3) sc_switched.nd rfl (by first | exact .inl rfl | exact .inr rfl)) (by decide)) (pgds_cons (pgd_name (pg_name (i := 4) sc_switched.nd rfl (by first | exact .inl rfl | exact .inr rfl)) (by decide)) (pgds_cons (pgd_name (pg_name (i := 5) sc_switched.nd rfl (by first | exact .inl rfl | exact .inr rfl)) (by decide)) pgds_nil))))))
    (pssd_one (psd_ret (pd_cal k_without_pairs hr (by rfl) (pds_cons (pd_var (pv 0)) (pds_cons (pd_frz (pl_lst (pds_cons (pd_cal k_pair_of hr (by rfl) (pds_cons (pd_var (pv 2)) (pds_cons (pd_var (pv 3)) pds_nil))) (pds_cons (pd_cal k_pair_of hr (by rfl) (pds_cons (pd_var (pv 4)) (pds_cons (pd_var (pv 5)) pds_nil))) pds_nil)))) (pds_cons (pd_frz (pl_lst (pds_cons (pd_cal k_pair_of hr (by rfl) (pds_cons (pd_var (pv 3)) (pds_cons (pd_var (pv 4)) pds_nil))) (pds_cons (pd_cal k_pair_of hr (by rfl) (pds_cons (pd_var (pv 2)) (pds_cons (pd_var (pv 5)) pds_nil))) pds_nil)))) pds_nil)))))))
theorem ok_switched (B : Bl mg) {c_without_pairs : Ct} (k_without_pairs : Cal P w K mg base 1 "without_pairs" ["graph", "gone", "more"] c_without_pairs) {c_pair_of : Ct} (k_pair_of : Cal P w K mg base 1 "pair_of" ["i", "j"] c_pair_of) {f : Addr} {fd : FuncData} {C : Ct} (F : FunD K "switched" "switched" (defArgs s_switched) (defBody s_switched) (defScope s_switched) [] [] f fd) (mc : MonoC C)
    (hC : ∀ fs S Q, C fs S Q → fs.length = 2 ∧ w_switched c_without_pairs c_pair_of { nx := fun _ S' => Q .non S', rt := fun d S' => Q d S' } (startF 6 fs) S) : FnD P w K mg base (1 + 1) f fd ["graph", "switch"] C :=
  fnD false F sc_switched mc (w_switched c_without_pairs c_pair_of) (fun cdv A outer s H hr => body_switched B k_without_pairs k_pair_of cdv A outer s H hr) hC
end

abbrev s_mending_switch : Stmt := topS 14
abbrev names_mending_switch : List Str := ["graph", "p", "a", "b", "near", "free", "c"]
theorem sc_mending_switch : FnScope names_mending_switch ["graph", "p", "a", "b"] (defScope s_mending_switch) := ⟨rfl, rfl, rfl, by decide +kernel, rfl, by decide +kernel, by decide +kernel⟩
def w_mending_switch (c_neighbours : Ct) : WS :=
  (sSeq (sAsg (wCall c_neighbours (wCons (wVar 0) wNil)) (gN 4))
    (sSeq (sAsg (wFrz (wComp [6] (wIt (wOp oIx (wVar 4) (wVar 3))) (gN 6) (bAnd (wTst (wOp oGt (wVar 6) (wVar 1))) (bAnd (wTst (wOp oNotIn (wVar 6) (wTup (wCons (wVar 2) (wCons (wVar 3) wNil))))) (wTst (wOp oNotIn (wVar 6) (wOp oIx (wVar 4) (wVar 2)))))) (wVar 6))) (gN 5))
    (sRet (wIf (wTru (wVar 5)) (wTup (wCons (wVar 1) (wCons (wVar 2) (wCons (wOp oIx (wVar 5) (wC (.int 0))) (wCons (wVar 3) wNil))))) (wC .non)))))
section
variable {P : Program} {w : World} {K : PySem.W.Frag} {mg : Str → Option Value} {base : Heap}
theorem body_mending_switch (B : Bl mg) {c_neighbours : Ct} (k_neighbours : Cal P w K mg base 1 "neighbours" ["graph"] c_neighbours) {f : Addr} {qual : Str} (cdv : Value) (A : Around) (outer : List Env) (s : Shared) (H : Hp) (hr : Room 1 (A.deeper (envOfC qual (defScope s_mending_switch) s.heap.objs.size f cdv))) :
    PSsD (cxOf CX0 P w K mg base names_mending_switch qual (defScope s_mending_switch) f cdv A outer s H E0).nox (defBody s_mending_switch) (w_mending_switch c_neighbours) :=
  (pssd_cons (psd_set (i := 4) sc_mending_switch.nd rfl (by first | exact .inl rfl | exact .inr rfl) (pd_cal k_neighbours hr (by rfl) (pds_cons (pd_var (pv 0)) pds_nil)))
    (pssd_cons (psd_setLcF (i := 5) (own := [("c", 6)]) rfl sc_mending_switch.nd rfl rfl (sw_true rfl rfl rfl (by decide +kernel)) (pid_seq (pd_ix ix_all (pd_var (pv 4)) (pd_var (pv 3)) (fun _ _ => rfl))) (blkOk_by (N := names_mending_switch) (sc := _) (by kernel_rfl)) (fun _ _ _ _ _ => (pgd_name (pg_name (i := 6) sc_mending_switch.nd rfl (by first | exact .inl rfl | exact .inr rfl)) (by decide))) (fun _ _ _ _ _ => (ptsd_one (PBW.pb (pb_and (pb_cmp o_gt (pd_var (pv 6)) (pd_var (pv 1)) (nomark _)) (pb_and (pb_cmp (o_notin (un65 hr)) (pd_var (pv 6)) (pd_tup (pds_cons (pd_var (pv 2)) (pds_cons (pd_var (pv 3)) pds_nil))) (by rfl)) (pb_and1 (pb_cmp (o_notin (un65 hr)) (pd_var (pv 6)) (pd_ix ix_all (pd_var (pv 4)) (pd_var (pv 2)) (fun _ _ => rfl)) (by rfl)))))))) (fun _ _ _ _ _ => (pd_var (pv 6))))
    (pssd_one (psd_ret (pd_if (pb_tru (pd_var (pv 5))) (pd_tup (pds_cons (pd_var (pv 1)) (pds_cons (pd_var (pv 2)) (pds_cons (pd_ix ix_all (pd_var (pv 5)) pd_int (fun _ _ => rfl)) (pds_cons (pd_var (pv 3)) pds_nil))))) pd_non)))))
theorem ok_mending_switch (B : Bl mg) {c_neighbours : Ct} (k_neighbours : Cal P w K mg base 1 "neighbours" ["graph"] c_neighbours) {f : Addr} {fd : FuncData} {C : Ct} (F : FunD K "mending_switch" "mending_switch" (defArgs s_mending_switch) (defBody s_mending_switch) (defScope s_mending_switch) [] [] f fd) (mc : MonoC C)
    (hC : ∀ fs S Q, C fs S Q → fs.length = 4 ∧ w_mending_switch c_neighbours { nx := fun _ S' => Q .non S', rt := fun d S' => Q d S' } (startF 7 fs) S) : FnD P w K mg base (1 + 1) f fd ["graph", "p", "a", "b"] C :=
  fnD false F sc_mending_switch mc (w_mending_switch c_neighbours) (fun cdv A outer s H hr => body_mending_switch B k_neighbours cdv A outer s H hr) hC
end

abbrev s_switches_between : Stmt := topS 15
abbrev names_switches_between : List Str := ["one", "other", "ahead", "behind", "p", "gone", "come", "switch", "a", "b", "c", "d", "j"]
theorem sc_switches_between : FnScope names_switches_between ["one", "other"] (defScope s_switches_between) := ⟨rfl, rfl, rfl, by decide +kernel, rfl, by decide +kernel, by decide +kernel⟩
def w_switches_between (c_has_pair : Ct) (c_neighbours : Ct) (c_switched : Ct) (c_mending_switch : Ct) : WS :=
  (sSeq (sPar [2, 3] (wCons (wOwn (wLst wNil)) (wCons (wOwn (wLst wNil)) wNil)))
    (sSeq (sFor (wRange1 (wCons (wOp oIx (wVar 0) (wC (.int 0))) wNil)) (gN 4) (sWhile (wTst (wC (.bl true))) (sSeq (sAsg (wFrz (wComp [12] (wIt (wOp oIx (wCall c_neighbours (wCons (wVar 0) wNil)) (wVar 4))) (gN 12) (bAnd (wTst (wOp oGt (wVar 12) (wVar 4))) (bNot (wTst (wCall c_has_pair (wCons (wVar 1) (wCons (wVar 4) (wCons (wVar 12) wNil))))))) (wVar 12))) (gN 5))
    (sSeq (sAsg (wFrz (wComp [12] (wIt (wOp oIx (wCall c_neighbours (wCons (wVar 1) wNil)) (wVar 4))) (gN 12) (bAnd (wTst (wOp oGt (wVar 12) (wVar 4))) (bNot (wTst (wCall c_has_pair (wCons (wVar 0) (wCons (wVar 4) (wCons (wVar 12) wNil))))))) (wVar 12))) (gN 6))
    (sSeq (sIf (bNot (wTru (wVar 5))) sBreak sNext)
    (sSeq (sAsg (wCall c_mending_switch (wCons (wVar 0) (wCons (wVar 4) (wCons (wOp oIx (wVar 5) (wC (.int 0))) (wCons (wOp oIx (wVar 6) (wC (.int 0))) wNil))))) (gN 7))
    (sIf (wTst (wOp oIsNot (wVar 7) (wC .non))) (sSeq (sExpr (wMt mAppend (wVar 2) (wCons (wVar 7) wNil)))
    (sAsg (wCall c_switched (wCons (wVar 0) (wCons (wVar 7) wNil))) (gN 0))) (sSeq (sAsg (wCall c_mending_switch (wCons (wVar 1) (wCons (wVar 4) (wCons (wOp oIx (wVar 6) (wC (.int 0))) (wCons (wOp oIx (wVar 5) (wC (.int 0))) wNil))))) (gN 7))
    (sSeq (sAsg (wCall c_switched (wCons (wVar 1) (wCons (wVar 7) wNil))) (gN 1))
    (sSeq (sAsg (wVar 7) (gTup2 4 (gCons2 (gN 8) (gCons2 (gN 9) (gCons2 (gN 10) (gCons2 (gN 11) gNil2))))))
    (sExpr (wMt mAppend (wVar 3) (wCons (wTup (wCons (wVar 8) (wCons (wVar 11) (wCons (wVar 10) (wCons (wVar 9) wNil))))) wNil)))))))))))))
    (sRet (wCall cTuple (wCons (wOp oAdd (wVar 2) (wFrz (wRevL (wVar 3)))) wNil)))))
section
variable {P : Program} {w : World} {K : PySem.W.Frag} {mg : Str → Option Value} {base : Heap}
theorem body_switches_between (B : Bl mg) {c_has_pair : Ct} (k_has_pair : Cal P w K mg base 1 "has_pair" ["graph", "i", "j"] c_has_pair) {c_neighbours : Ct} (k_neighbours : Cal P w K mg base 1 "neighbours" ["graph"] c_neighbours) {c_switched : Ct} (k_switched : Cal P w K mg base 2 "switched" ["graph", "switch"] c_switched) {c_mending_switch : Ct} (k_mending_switch : Cal P w K mg base 2 "mending_switch" ["graph", "p", "a", "b"] c_mending_switch) {f : Addr} {qual : Str} (cdv : Value) (A : Around) (outer : List Env) (s : Shared) (H : Hp) (hr : Room 2 (A.deeper (envOfC qual (defScope s_switches_between) s.heap.objs.size f cdv))) :
    PSsD (cxOf CX0 P w K mg base names_switches_between qual (defScope s_switches_between) f cdv A outer s H E0).nox (defBody s_switches_between) (w_switches_between c_has_pair c_neighbours c_switched c_mending_switch) :=
  (pssd_cons (psd_par (i := 2) (j := 3) rfl sc_switches_between.nd rfl rfl (by decide) rfl rfl (pds_cons (pd_own (pl_lst pds_nil)) (pds_cons (pd_own (pl_lst pds_nil)) pds_nil)) (by rfl))
    (pssd_cons (psd_for (vs := [4]) PassesOwn.never rfl (pid_range1 (by rfl) B.range (pds_cons (pd_ix ix_all (pd_var (pv 0)) pd_int (fun _ _ => rfl)) pds_nil)) (pgd_name (pg_name (i := 4) sc_switches_between.nd rfl (by first | exact .inl rfl | exact .inr rfl)) (by decide)) (pssd_one (psd_while PassesOwn.never (pb_val pd_bl) (pssd_cons (psd_setLcF (i := 5) (own := [("j", 12)]) rfl sc_switches_between.nd rfl rfl (sw_true rfl rfl rfl (by decide +kernel)) (pid_seq (pd_ix ix_all (pd_cal k_neighbours hr (by rfl) (pds_cons (pd_var (pv 0)) pds_nil)) (pd_var (pv 4)) (fun _ _ => rfl))) (blkOk_by (N := names_switches_between) (sc := _) (by kernel_rfl)) (fun _ _ _ _ _ => (pgd_name (pg_name (i := 12) sc_switches_between.nd rfl (by first | exact .inl rfl | exact .inr rfl)) (by decide))) (fun _ _ _ _ _ => (ptsd_one (PBW.pb (pb_and (pb_cmp o_gt (pd_var (pv 12)) (pd_var (pv 4)) (nomark _)) (pb_and1 (pb_not (pb_val (pd_cal k_has_pair hr (by rfl) (pds_cons (pd_var (pv 1)) (pds_cons (pd_var (pv 4)) (pds_cons (pd_var (pv 12)) pds_nil))))))))))) (fun _ _ _ _ _ => (pd_var (pv 12))))
    (pssd_cons (psd_setLcF (i := 6) (own := [("j", 12)]) rfl sc_switches_between.nd rfl rfl (sw_true rfl rfl rfl (by decide +kernel)) (pid_seq (pd_ix ix_all (pd_cal k_neighbours hr (by rfl) (pds_cons (pd_var (pv 1)) pds_nil)) (pd_var (pv 4)) (fun _ _ => rfl))) (blkOk_by (N := names_switches_between) (sc := _) (by kernel_rfl)) (fun _ _ _ _ _ => (pgd_name (pg_name (i := 12) sc_switches_between.nd rfl (by first | exact .inl rfl | exact .inr rfl)) (by decide))) (fun _ _ _ _ _ => (ptsd_one (PBW.pb (pb_and (pb_cmp o_gt (pd_var (pv 12)) (pd_var (pv 4)) (nomark _)) (pb_and1 (pb_not (pb_val (pd_cal k_has_pair hr (by rfl) (pds_cons (pd_var (pv 0)) (pds_cons (pd_var (pv 4)) (pds_cons (pd_var (pv 12)) pds_nil))))))))))) (fun _ _ _ _ _ => (pd_var (pv 12))))
    (pssd_cons (psd_if (pb_not (pb_tru (pd_var (pv 5)))) (pssd_one psd_break) pssd_nil)
    (pssd_cons (psd_set (i := 7) sc_switches_between.nd rfl (by first | exact .inl rfl | exact .inr rfl) (pd_cal k_mending_switch hr (by rfl) (pds_cons (pd_var (pv 0)) (pds_cons (pd_var (pv 4)) (pds_cons (pd_ix ix_all (pd_var (pv 5)) pd_int (fun _ _ => rfl)) (pds_cons (pd_ix ix_all (pd_var (pv 6)) pd_int (fun _ _ => rfl)) pds_nil))))))
    (pssd_one (psd_if (pb_cmp o_isnot (pd_var (pv 7)) pd_non (nomark _)) (pssd_cons (psd_expr (pd_mt PySem.F.slot_list_append PySem.F.type_list_append m_append (pd_var (pv 2)) (pds_cons (pd_var (pv 7)) pds_nil)))
    (pssd_one (psd_set (i := 0) sc_switches_between.nd rfl (by first | exact .inl rfl | exact .inr rfl) (pd_cal k_switched hr (by rfl) (pds_cons (pd_var (pv 0)) (pds_cons (pd_var (pv 7)) pds_nil)))))) (pssd_cons (psd_set (i := 7) sc_switches_between.nd rfl (by first | exact .inl rfl | exact .inr rfl) (pd_cal k_mending_switch hr (by rfl) (pds_cons (pd_var (pv 1)) (pds_cons (pd_var (pv 4)) (pds_cons (pd_ix ix_all (pd_var (pv 6)) pd_int (fun _ _ => rfl)) (pds_cons (pd_ix ix_all (pd_var (pv 5)) pd_int (fun _ _ => rfl)) pds_nil))))))
    (pssd_cons (psd_set (i := 1) sc_switches_between.nd rfl (by first | exact .inl rfl | exact .inr rfl) (pd_cal k_switched hr (by rfl) (pds_cons (pd_var (pv 1)) (pds_cons (pd_var (pv 7)) pds_nil))))
    (pssd_cons (psd_asg (vs := [8, 9, 10, 11]) (pd_var (pv 7)) (pgd_tup rfl (pgds_cons (pgd_name (pg_name (i := 8) sc_switches_between.nd rfl (by first | exact .inl rfl | exact .inr rfl)) (by decide)) (pgds_cons (pgd_name (pg_name (i := 9) sc_switches_between.nd rfl (by first | exact .inl rfl | exact .inr rfl)) (by decide)) (pgds_cons (pgd_name (pg_name (i := 10) sc_switches_between.nd rfl (by first | exact .inl rfl | exact .inr rfl)) (by decide)) (pgds_cons (pgd_name (pg_name (i := 11) sc_switches_between.nd rfl (by first | exact .inl rfl | exact .inr rfl)) (by decide)) pgds_nil))))))
    (pssd_one (psd_expr (pd_mt PySem.F.slot_list_append PySem.F.type_list_append m_append (pd_var (pv 3)) (pds_cons (pd_tup (pds_cons (pd_var (pv 8)) (pds_cons (pd_var (pv 11)) (pds_cons (pd_var (pv 10)) (pds_cons (pd_var (pv 9)) pds_nil))))) pds_nil))))))))))))))))
    (pssd_one (psd_ret (pd_callTy c_tuple (by rfl) B.tuple (by decide +kernel) (pds_cons (pd_op o_add (pd_var (pv 2)) (pd_frz (pl_revL (pd_var (pv 3))))) pds_nil))))))
theorem ok_switches_between (B : Bl mg) {c_has_pair : Ct} (k_has_pair : Cal P w K mg base 1 "has_pair" ["graph", "i", "j"] c_has_pair) {c_neighbours : Ct} (k_neighbours : Cal P w K mg base 1 "neighbours" ["graph"] c_neighbours) {c_switched : Ct} (k_switched : Cal P w K mg base 2 "switched" ["graph", "switch"] c_switched) {c_mending_switch : Ct} (k_mending_switch : Cal P w K mg base 2 "mending_switch" ["graph", "p", "a", "b"] c_mending_switch) {f : Addr} {fd : FuncData} {C : Ct} (F : FunD K "switches_between" "switches_between" (defArgs s_switches_between) (defBody s_switches_between) (defScope s_switches_between) [] [] f fd) (mc : MonoC C)
    (hC : ∀ fs S Q, C fs S Q → fs.length = 2 ∧ w_switches_between c_has_pair c_neighbours c_switched c_mending_switch { nx := fun _ S' => Q .non (restr S S'), rt := fun d S' => Q d (restr S S') } (startF 13 fs) S) : FnD P w K mg base (2 + 1) f fd ["one", "other"] C :=
  fnD true F sc_switches_between mc (w_switches_between c_has_pair c_neighbours c_switched c_mending_switch) (fun cdv A outer s H hr => body_switches_between B k_has_pair k_neighbours k_switched k_mending_switch cdv A outer s H hr) hC
end

abbrev s_leads : Stmt := topS 16
abbrev names_leads : List Str := ["one", "other", "value", "switch"]
theorem sc_leads : FnScope names_leads ["one", "other", "value"] (defScope s_leads) := ⟨rfl, rfl, rfl, by decide +kernel, rfl, by decide +kernel, by decide +kernel⟩
def w_leads (c_is_graph : Ct) (c_degrees : Ct) (c_is_switch : Ct) (c_switched : Ct) : WS :=
  (sSeq (sIf (bOr (bNot (wTst (wIsi "tuple" (wVar 2)))) (bNot (wTst (wCall c_is_graph (wCons (wVar 0) wNil))))) (sRet (wC (.bl false))) sNext)
    (sSeq (sFor (wIt (wVar 2)) (gN 3) (sSeq (sIf (bNot (wTst (wCall c_is_switch (wCons (wVar 0) (wCons (wVar 3) wNil))))) (sRet (wC (.bl false))) sNext)
    (sAsg (wCall c_switched (wCons (wVar 0) (wCons (wVar 3) wNil))) (gN 0))))
    (sRet (wAnd (wOp oEq (wVar 0) (wVar 1)) (wOp oEq (wCall c_degrees (wCons (wVar 0) wNil)) (wCall c_degrees (wCons (wVar 1) wNil)))))))
section
variable {P : Program} {w : World} {K : PySem.W.Frag} {mg : Str → Option Value} {base : Heap}
theorem body_leads (B : Bl mg) {c_is_graph : Ct} (k_is_graph : Cal P w K mg base 3 "is_graph" ["value"] c_is_graph) {c_degrees : Ct} (k_degrees : Cal P w K mg base 1 "degrees" ["graph"] c_degrees) {c_is_switch : Ct} (k_is_switch : Cal P w K mg base 2 "is_switch" ["graph", "value"] c_is_switch) {c_switched : Ct} (k_switched : Cal P w K mg base 2 "switched" ["graph", "switch"] c_switched) {f : Addr} {qual : Str} (cdv : Value) (A : Around) (outer : List Env) (s : Shared) (H : Hp) (hr : Room 3 (A.deeper (envOfC qual (defScope s_leads) s.heap.objs.size f cdv))) :
    PSsD (cxOf CX0 P w K mg base names_leads qual (defScope s_leads) f cdv A outer s H E0).nox (defBody s_leads) (w_leads c_is_graph c_degrees c_is_switch c_switched) :=
  (pssd_cons (psd_if (PBW.pb (pb_or (pb_not (pb_val (pd_isi (T := "tuple") (by decide +kernel) (by rfl) B.isinstance (by rfl) B.tuple (by decide +kernel) (pd_var (pv 2))))) (pb_or1 (pb_not (pb_val (pd_cal k_is_graph hr (by rfl) (pds_cons (pd_var (pv 0)) pds_nil))))))) (pssd_one (psd_ret pd_bl)) pssd_nil)
    (pssd_cons (psd_for (vs := [3]) PassesOwn.never rfl (pid_seq (pd_var (pv 2))) (pgd_name (pg_name (i := 3) sc_leads.nd rfl (by first | exact .inl rfl | exact .inr rfl)) (by decide)) (pssd_cons (psd_if (pb_not (pb_val (pd_cal k_is_switch hr (by rfl) (pds_cons (pd_var (pv 0)) (pds_cons (pd_var (pv 3)) pds_nil))))) (pssd_one (psd_ret pd_bl)) pssd_nil)
    (pssd_one (psd_set (i := 0) sc_leads.nd rfl (by first | exact .inl rfl | exact .inr rfl) (pd_cal k_switched hr (by rfl) (pds_cons (pd_var (pv 0)) (pds_cons (pd_var (pv 3)) pds_nil)))))))
    (pssd_one (psd_ret (pd_and (pd_cmp (o_eq hr.units) (pd_var (pv 0)) (pd_var (pv 1)) (nomark _)) (pd_one (pd_cmp (o_eq hr.units) (pd_cal k_degrees hr (by rfl) (pds_cons (pd_var (pv 0)) pds_nil)) (pd_cal k_degrees hr (by rfl) (pds_cons (pd_var (pv 1)) pds_nil)) (nomark _))))))))
theorem ok_leads (B : Bl mg) {c_is_graph : Ct} (k_is_graph : Cal P w K mg base 3 "is_graph" ["value"] c_is_graph) {c_degrees : Ct} (k_degrees : Cal P w K mg base 1 "degrees" ["graph"] c_degrees) {c_is_switch : Ct} (k_is_switch : Cal P w K mg base 2 "is_switch" ["graph", "value"] c_is_switch) {c_switched : Ct} (k_switched : Cal P w K mg base 2 "switched" ["graph", "switch"] c_switched) {f : Addr} {fd : FuncData} {C : Ct} (F : FunD K "leads" "leads" (defArgs s_leads) (defBody s_leads) (defScope s_leads) [] [] f fd) (mc : MonoC C)
    (hC : ∀ fs S Q, C fs S Q → fs.length = 3 ∧ w_leads c_is_graph c_degrees c_is_switch c_switched { nx := fun _ S' => Q .non S', rt := fun d S' => Q d S' } (startF 4 fs) S) : FnD P w K mg base (3 + 1) f fd ["one", "other", "value"] C :=
  fnD false F sc_leads mc (w_leads c_is_graph c_degrees c_is_switch c_switched) (fun cdv A outer s H hr => body_leads B k_is_graph k_degrees k_is_switch k_switched cdv A outer s H hr) hC
end

abbrev s__law_box : Stmt := topS 18
abbrev names__law_box : List Str := ["script"]
theorem sc__law_box : FnScope names__law_box ["script"] (defScope s__law_box) := ⟨rfl, rfl, rfl, by decide +kernel, rfl, by decide +kernel, by decide +kernel⟩
def w__law_box : WS :=
  (sRet (wOwn (wLst (wCons (wOwn (wCall cList (wCons (wSl (wVar 0) wNoPart (wPart (wC (.int 63)))) wNil))) (wCons (wC (.int 0)) (wCons (wOp oAdd (wC (.int 4711)) (wCall cLen (wCons (wVar 0) wNil))) wNil))))))
section
variable {P : Program} {w : World} {K : PySem.W.Frag} {mg : Str → Option Value} {base : Heap}
theorem body__law_box (B : Bl mg) {f : Addr} {qual : Str} (cdv : Value) (A : Around) (outer : List Env) (s : Shared) (H : Hp) (hr : Room 0 (A.deeper (envOfC qual (defScope s__law_box) s.heap.objs.size f cdv))) :
    PSsD (cxOf CX0 P w K mg base names__law_box qual (defScope s__law_box) f cdv A outer s H E0).nox (defBody s__law_box) (w__law_box) :=
  (pssd_one (psd_ret (pd_own (pl_lst (pds_cons (pd_own (pl_callTy c_list (by rfl) B.list (by decide +kernel) (pds_cons (pd_slice (pd_var (pv 0)) pp_none (pp_some pd_int)) pds_nil))) (pds_cons pd_int (pds_cons (pd_op o_add pd_int (pd_callB c_len (by rfl) B.len (by decide +kernel) (pds_cons (pd_var (pv 0)) pds_nil))) pds_nil)))))))
theorem ok__law_box (B : Bl mg) {f : Addr} {fd : FuncData} {C : Ct} (F : FunD K "_law_box" "_law_box" (defArgs s__law_box) (defBody s__law_box) (defScope s__law_box) [] [] f fd) (mc : MonoC C)
    (hC : ∀ fs S Q, C fs S Q → fs.length = 1 ∧ w__law_box { nx := fun _ S' => Q .non S', rt := fun d S' => Q d S' } (startF 1 fs) S) : FnD P w K mg base (0 + 1) f fd ["script"] C :=
  fnD false F sc__law_box mc (w__law_box) (fun cdv A outer s H hr => body__law_box B cdv A outer s H hr) hC
end

abbrev s__law_load : Stmt := topS 19
abbrev names__law_load : List Str := ["box", "cells", "cell", "size", "first", "second"]
theorem sc__law_load : FnScope names__law_load ["box"] (defScope s__law_load) := ⟨rfl, rfl, rfl, by decide +kernel, rfl, by decide +kernel, by decide +kernel⟩
def w__law_load : WS :=
  (sSeq (sAsg (wOp oIx (wVar 0) (wC (.int 0))) (gN 1))
    (sSeq (sIf (wTst (wOp oGt (wCall cLen (wCons (wVar 1) wNil)) (wC (.int 0)))) (sSeq (sAsg (wCall cInt (wCons (wMt mPopAt (wVar 1) (wCons (wC (.int 0)) wNil)) wNil)) (gN 2))
    (sSeq (sAsg (wIf (wTst (wOp oGe (wVar 2) (wC (.int 0)))) (wOp oMul (wC (.int 2)) (wVar 2)) (wOp oSub (wOp oMul (wNeg (wC (.int 2))) (wVar 2)) (wC (.int 1)))) (gN 3))
    (sSeq (sIf (wTst (wOp oGe (wVar 3) (wC (.int 1000000000000000000)))) (sRet (wVar 3)) sNext)
    (sAsg (wOp oMod (wCall cInt (wCons (wOp oAdd (wOp oAdd (wOp oMul (wOp oIx (wVar 0) (wC (.int 2))) (wC (.int 69621))) (wOp oMul (wVar 3) (wC (.int 48271)))) (wC (.int 11))) wNil)) (wC (.int 2147483647))) (gSubL (wVar 0) (wC (.int 2))))))) sNext)
    (sSeq (sAsg (wOp oMod (wCall cInt (wCons (wOp oAdd (wOp oMul (wOp oIx (wVar 0) (wC (.int 2))) (wC (.int 48271))) (wC (.int 17))) wNil)) (wC (.int 2147483629))) (gN 4))
    (sSeq (sAsg (wOp oMod (wCall cInt (wCons (wOp oAdd (wOp oMul (wVar 4) (wC (.int 69621))) (wC (.int 5))) wNil)) (wC (.int 2147483587))) (gN 5))
    (sSeq (sAsg (wOp oMod (wCall cInt (wCons (wOp oAdd (wOp oMul (wVar 5) (wC (.int 40692))) (wC (.int 3))) wNil)) (wC (.int 2147483563))) (gSubL (wVar 0) (wC (.int 2))))
    (sRet (wOp oAdd (wOp oAdd (wOp oMul (wVar 4) (wC (.int 4611686014132420609))) (wOp oMul (wVar 5) (wC (.int 2147483647)))) (wOp oIx (wVar 0) (wC (.int 2))))))))))
section
variable {P : Program} {w : World} {K : PySem.W.Frag} {mg : Str → Option Value} {base : Heap}
theorem body__law_load (B : Bl mg) {f : Addr} {qual : Str} (cdv : Value) (A : Around) (outer : List Env) (s : Shared) (H : Hp) (hr : Room 0 (A.deeper (envOfC qual (defScope s__law_load) s.heap.objs.size f cdv))) :
    PSsD (cxOf CX0 P w K mg base names__law_load qual (defScope s__law_load) f cdv A outer s H E0).nox (defBody s__law_load) (w__law_load) :=
  (pssd_cons (psd_set (i := 1) sc__law_load.nd rfl (by first | exact .inl rfl | exact .inr rfl) (pd_ix ix_all (pd_var (pv 0)) pd_int (fun _ _ => rfl)))
    (pssd_cons (psd_if (pb_cmp o_gt (pd_callB c_len (by rfl) B.len (by decide +kernel) (pds_cons (pd_var (pv 1)) pds_nil)) pd_int (nomark _)) (pssd_cons (psd_set (i := 2) sc__law_load.nd rfl (by first | exact .inl rfl | exact .inr rfl) (pd_callTy c_int (by rfl) B.int (by decide +kernel) (pds_cons (pd_mt PySem.F.slot_list_pop PySem.F.type_list_pop m_popAt (pd_var (pv 1)) (pds_cons pd_int pds_nil)) pds_nil)))
    (pssd_cons (psd_set (i := 3) sc__law_load.nd rfl (by first | exact .inl rfl | exact .inr rfl) (pd_if (pb_cmp o_ge (pd_var (pv 2)) pd_int (nomark _)) (pd_op o_mul pd_int (pd_var (pv 2))) (pd_op o_sub (pd_op o_mul (pd_neg pd_int) (pd_var (pv 2))) pd_int)))
    (pssd_cons (psd_if (pb_cmp o_ge (pd_var (pv 3)) pd_int (nomark _)) (pssd_one (psd_ret (pd_var (pv 3)))) pssd_nil)
    (pssd_one (psd_asg (vs := []) (pd_op o_mod (pd_callTy c_int (by rfl) B.int (by decide +kernel) (pds_cons (pd_op o_add (pd_op o_add (pd_op o_mul (pd_ix ix_all (pd_var (pv 0)) pd_int (fun _ _ => rfl)) pd_int) (pd_op o_mul (pd_var (pv 3)) pd_int)) pd_int) pds_nil)) pd_int) (pgd_sub (pd_var (pv 0)) pd_int)))))) pssd_nil)
    (pssd_cons (psd_set (i := 4) sc__law_load.nd rfl (by first | exact .inl rfl | exact .inr rfl) (pd_op o_mod (pd_callTy c_int (by rfl) B.int (by decide +kernel) (pds_cons (pd_op o_add (pd_op o_mul (pd_ix ix_all (pd_var (pv 0)) pd_int (fun _ _ => rfl)) pd_int) pd_int) pds_nil)) pd_int))
    (pssd_cons (psd_set (i := 5) sc__law_load.nd rfl (by first | exact .inl rfl | exact .inr rfl) (pd_op o_mod (pd_callTy c_int (by rfl) B.int (by decide +kernel) (pds_cons (pd_op o_add (pd_op o_mul (pd_var (pv 4)) pd_int) pd_int) pds_nil)) pd_int))
    (pssd_cons (psd_asg (vs := []) (pd_op o_mod (pd_callTy c_int (by rfl) B.int (by decide +kernel) (pds_cons (pd_op o_add (pd_op o_mul (pd_var (pv 5)) pd_int) pd_int) pds_nil)) pd_int) (pgd_sub (pd_var (pv 0)) pd_int))
    (pssd_one (psd_ret (pd_op o_add (pd_op o_add (pd_op o_mul (pd_var (pv 4)) pd_int) (pd_op o_mul (pd_var (pv 5)) pd_int)) (pd_ix ix_all (pd_var (pv 0)) pd_int (fun _ _ => rfl))))))))))
theorem ok__law_load (B : Bl mg) {f : Addr} {fd : FuncData} {C : Ct} (F : FunD K "_law_load" "_law_load" (defArgs s__law_load) (defBody s__law_load) (defScope s__law_load) [] [] f fd) (mc : MonoC C)
    (hC : ∀ fs S Q, C fs S Q → fs.length = 1 ∧ w__law_load { nx := fun _ S' => Q .non S', rt := fun d S' => Q d S' } (startF 6 fs) S) : FnD P w K mg base (0 + 1) f fd ["box"] C :=
  fnD false F sc__law_load mc (w__law_load) (fun cdv A outer s H hr => body__law_load B cdv A outer s H hr) hC
end

abbrev s__law_draw : Stmt := topS 20
abbrev names__law_draw : List Str := ["box", "many", "digit"]
theorem sc__law_draw : FnScope names__law_draw ["box", "many"] (defScope s__law_draw) := ⟨rfl, rfl, rfl, by decide +kernel, rfl, by decide +kernel, by decide +kernel⟩
def w__law_draw (c__law_load : Ct) : WS :=
  (sSeq (sIf (wTst (wOp oLt (wOp oIx (wVar 0) (wC (.int 1))) (wVar 1))) (sAsg (wCall c__law_load (wCons (wVar 0) wNil)) (gSubL (wVar 0) (wC (.int 1)))) sNext)
    (sSeq (sAsg (wOp oMod (wCall cInt (wCons (wOp oIx (wVar 0) (wC (.int 1))) wNil)) (wVar 1)) (gN 2))
    (sSeq (sAsg (wOp oDiv (wOp oIx (wVar 0) (wC (.int 1))) (wVar 1)) (gSubL (wVar 0) (wC (.int 1))))
    (sRet (wVar 2)))))
section
variable {P : Program} {w : World} {K : PySem.W.Frag} {mg : Str → Option Value} {base : Heap}
theorem body__law_draw (B : Bl mg) {c__law_load : Ct} (k__law_load : Cal P w K mg base 1 "_law_load" ["box"] c__law_load) {f : Addr} {qual : Str} (cdv : Value) (A : Around) (outer : List Env) (s : Shared) (H : Hp) (hr : Room 1 (A.deeper (envOfC qual (defScope s__law_draw) s.heap.objs.size f cdv))) :
    PSsD (cxOf CX0 P w K mg base names__law_draw qual (defScope s__law_draw) f cdv A outer s H E0).nox (defBody s__law_draw) (w__law_draw c__law_load) :=
  (pssd_cons (psd_if (pb_cmp o_lt (pd_ix ix_all (pd_var (pv 0)) pd_int (fun _ _ => rfl)) (pd_var (pv 1)) (nomark _)) (pssd_one (psd_asg (vs := []) (pd_cal k__law_load hr (by rfl) (pds_cons (pd_var (pv 0)) pds_nil)) (pgd_sub (pd_var (pv 0)) pd_int))) pssd_nil)
    (pssd_cons (psd_set (i := 2) sc__law_draw.nd rfl (by first | exact .inl rfl | exact .inr rfl) (pd_op o_mod (pd_callTy c_int (by rfl) B.int (by decide +kernel) (pds_cons (pd_ix ix_all (pd_var (pv 0)) pd_int (fun _ _ => rfl)) pds_nil)) (pd_var (pv 1))))
    (pssd_cons (psd_asg (vs := []) (pd_op o_div (pd_ix ix_all (pd_var (pv 0)) pd_int (fun _ _ => rfl)) (pd_var (pv 1))) (pgd_sub (pd_var (pv 0)) pd_int))
    (pssd_one (psd_ret (pd_var (pv 2)))))))
theorem ok__law_draw (B : Bl mg) {c__law_load : Ct} (k__law_load : Cal P w K mg base 1 "_law_load" ["box"] c__law_load) {f : Addr} {fd : FuncData} {C : Ct} (F : FunD K "_law_draw" "_law_draw" (defArgs s__law_draw) (defBody s__law_draw) (defScope s__law_draw) [] [] f fd) (mc : MonoC C)
    (hC : ∀ fs S Q, C fs S Q → fs.length = 2 ∧ w__law_draw c__law_load { nx := fun _ S' => Q .non S', rt := fun d S' => Q d S' } (startF 3 fs) S) : FnD P w K mg base (1 + 1) f fd ["box", "many"] C :=
  fnD false F sc__law_draw mc (w__law_draw c__law_load) (fun cdv A outer s H hr => body__law_draw B k__law_load cdv A outer s H hr) hC
end

abbrev s__law_same : Stmt := topS 21
abbrev names__law_same : List Str := ["a", "b", "k"]
theorem sc__law_same : FnScope names__law_same ["a", "b"] (defScope s__law_same) := ⟨rfl, rfl, rfl, by decide +kernel, rfl, by decide +kernel, by decide +kernel⟩
def w__law_same (c__law_same : Ct) : WS :=
  (sSeq (sIf (bOr (bAnd (wTst (wIsi "tuple" (wVar 0))) (wTst (wIsi "tuple" (wVar 1)))) (bAnd (wTst (wIsi "list" (wVar 0))) (wTst (wIsi "list" (wVar 1))))) (sRet (wAnd (wOp oEq (wCall cLen (wCons (wVar 0) wNil)) (wCall cLen (wCons (wVar 1) wNil))) (wCall cAll (wCons (wFrz (wComp [2] (wRange1 (wCons (wCall cLen (wCons (wVar 0) wNil)) wNil)) (gN 2) wYes (wCall c__law_same (wCons (wOp oIx (wVar 0) (wVar 2)) (wCons (wOp oIx (wVar 1) (wVar 2)) wNil))))) wNil)))) sNext)
    (sSeq (sIf (bOr (wTst (wIsi "bool" (wVar 0))) (wTst (wIsi "bool" (wVar 1)))) (sRet (wAnd (wIsi "bool" (wVar 0)) (wAnd (wIsi "bool" (wVar 1)) (wOp oEq (wVar 0) (wVar 1))))) sNext)
    (sSeq (sIf (bOr (bAnd (wTst (wIsi "int" (wVar 0))) (wTst (wIsi "int" (wVar 1)))) (bAnd (wTst (wIsi "str" (wVar 0))) (wTst (wIsi "str" (wVar 1))))) (sRet (wOp oEq (wVar 0) (wVar 1))) sNext)
    (sRet (wAnd (wOp oIs (wVar 0) (wC .non)) (wOp oIs (wVar 1) (wC .non)))))))
section
variable {P : Program} {w : World} {K : PySem.W.Frag} {mg : Str → Option Value} {base : Heap}
theorem body__law_same (B : Bl mg) (lv : Nat) {c__law_same : Ct} (k__law_same : Cal P w K mg base lv "_law_same" ["a", "b"] c__law_same) {f : Addr} {qual : Str} (cdv : Value) (A : Around) (outer : List Env) (s : Shared) (H : Hp) (hr : Room lv (A.deeper (envOfC qual (defScope s__law_same) s.heap.objs.size f cdv))) :
    PSsD (cxOf CX0 P w K mg base names__law_same qual (defScope s__law_same) f cdv A outer s H E0).nox (defBody s__law_same) (w__law_same c__law_same) :=
  (pssd_cons (psd_if (PBW.pb (pb_or (PBW.pb (pb_and (pb_val (pd_isi (T := "tuple") (by decide +kernel) (by rfl) B.isinstance (by rfl) B.tuple (by decide +kernel) (pd_var (pv 0)))) (pb_and1 (pb_val (pd_isi (T := "tuple") (by decide +kernel) (by rfl) B.isinstance (by rfl) B.tuple (by decide +kernel) (pd_var (pv 1))))))) (pb_or1 (PBW.pb (pb_and (pb_val (pd_isi (T := "list") (by decide +kernel) (by rfl) B.isinstance (by rfl) B.list (by decide +kernel) (pd_var (pv 0)))) (pb_and1 (pb_val (pd_isi (T := "list") (by decide +kernel) (by rfl) B.isinstance (by rfl) B.list (by decide +kernel) (pd_var (pv 1)))))))))) (pssd_one (psd_ret (pd_and (pd_cmp (o_eq hr.units) (pd_callB c_len (by rfl) B.len (by decide +kernel) (pds_cons (pd_var (pv 0)) pds_nil)) (pd_callB c_len (by rfl) B.len (by decide +kernel) (pds_cons (pd_var (pv 1)) pds_nil)) (nomark _)) (pd_one (pd_callB (c_all rfl) (by rfl) B.all (by decide +kernel) (pds_cons (pd_frz (pl_lc (own := [("k", 2)]) rfl sc__law_same.nd (pid_range1 (by rfl) B.range (pds_cons (pd_callB c_len (by rfl) B.len (by decide +kernel) (pds_cons (pd_var (pv 0)) pds_nil)) pds_nil)) (blkOk_by (N := names__law_same) (sc := _) (by kernel_rfl)) (fun _ _ _ _ _ => (pgd_name (pg_name (i := 2) sc__law_same.nd rfl (by first | exact .inl rfl | exact .inr rfl)) (by decide))) (fun _ _ _ _ _ => ptsd_nil) (fun _ _ _ _ _ => (pd_cal (hl := Nat.le_refl _) k__law_same hr (by rfl) (pds_cons (pd_ix ix_all (pd_var (pv 0)) (pd_var (pv 2)) (fun _ _ => rfl)) (pds_cons (pd_ix ix_all (pd_var (pv 1)) (pd_var (pv 2)) (fun _ _ => rfl)) pds_nil)))))) pds_nil)))))) pssd_nil)
    (pssd_cons (psd_if (PBW.pb (pb_or (pb_val (pd_isi (T := "bool") (by decide +kernel) (by rfl) B.isinstance (by rfl) B.bool (by decide +kernel) (pd_var (pv 0)))) (pb_or1 (pb_val (pd_isi (T := "bool") (by decide +kernel) (by rfl) B.isinstance (by rfl) B.bool (by decide +kernel) (pd_var (pv 1))))))) (pssd_one (psd_ret (pd_and (pd_isi (T := "bool") (by decide +kernel) (by rfl) B.isinstance (by rfl) B.bool (by decide +kernel) (pd_var (pv 0))) (pd_and (pd_isi (T := "bool") (by decide +kernel) (by rfl) B.isinstance (by rfl) B.bool (by decide +kernel) (pd_var (pv 1))) (pd_one (pd_cmp (o_eq hr.units) (pd_var (pv 0)) (pd_var (pv 1)) (nomark _))))))) pssd_nil)
    (pssd_cons (psd_if (PBW.pb (pb_or (PBW.pb (pb_and (pb_val (pd_isi (T := "int") (by decide +kernel) (by rfl) B.isinstance (by rfl) B.int (by decide +kernel) (pd_var (pv 0)))) (pb_and1 (pb_val (pd_isi (T := "int") (by decide +kernel) (by rfl) B.isinstance (by rfl) B.int (by decide +kernel) (pd_var (pv 1))))))) (pb_or1 (PBW.pb (pb_and (pb_val (pd_isi (T := "str") (by decide +kernel) (by rfl) B.isinstance (by rfl) B.str (by decide +kernel) (pd_var (pv 0)))) (pb_and1 (pb_val (pd_isi (T := "str") (by decide +kernel) (by rfl) B.isinstance (by rfl) B.str (by decide +kernel) (pd_var (pv 1)))))))))) (pssd_one (psd_ret (pd_cmp (o_eq hr.units) (pd_var (pv 0)) (pd_var (pv 1)) (nomark _)))) pssd_nil)
    (pssd_one (psd_ret (pd_and (pd_cmp o_is (pd_var (pv 0)) pd_non (nomark _)) (pd_one (pd_cmp o_is (pd_var (pv 1)) pd_non (nomark _)))))))))
theorem ok__law_same (B : Bl mg) (lv : Nat) {c__law_same : Ct} (k__law_same : Cal P w K mg base lv "_law_same" ["a", "b"] c__law_same) {f : Addr} {fd : FuncData} {C : Ct} (F : FunD K "_law_same" "_law_same" (defArgs s__law_same) (defBody s__law_same) (defScope s__law_same) [] [] f fd) (mc : MonoC C)
    (hC : ∀ fs S Q, C fs S Q → fs.length = 2 ∧ w__law_same c__law_same { nx := fun _ S' => Q .non S', rt := fun d S' => Q d S' } (startF 3 fs) S) : FnD P w K mg base (lv + 1) f fd ["a", "b"] C :=
  fnD false F sc__law_same mc (w__law_same c__law_same) (fun cdv A outer s H hr => body__law_same B lv k__law_same cdv A outer s H hr) hC
end

abbrev s__law_bent : Stmt := topS 22
abbrev names__law_bent : List Str := ["box", "value", "at", "pick"]
theorem sc__law_bent : FnScope names__law_bent ["box", "value"] (defScope s__law_bent) := ⟨rfl, rfl, rfl, by decide +kernel, rfl, by decide +kernel, by decide +kernel⟩
def w__law_bent (c__law_draw : Ct) (c__law_bent : Ct) : WS :=
  (sSeq (sIf (bAnd (wTst (wIsi "tuple" (wVar 1))) (bAnd (wTst (wOp oGt (wCall cLen (wCons (wVar 1) wNil)) (wC (.int 0)))) (wTst (wOp oGt (wCall c__law_draw (wCons (wVar 0) (wCons (wC (.int 5)) wNil))) (wC (.int 0)))))) (sSeq (sAsg (wCall c__law_draw (wCons (wVar 0) (wCons (wCall cLen (wCons (wVar 1) wNil)) wNil))) (gN 2))
    (sRet (wOp oAdd (wOp oAdd (wSl (wVar 1) wNoPart (wPart (wVar 2))) (wTup (wCons (wCall c__law_bent (wCons (wVar 0) (wCons (wOp oIx (wVar 1) (wVar 2)) wNil))) wNil))) (wSl (wVar 1) (wPart (wOp oAdd (wVar 2) (wC (.int 1)))) wNoPart)))) sNext)
    (sSeq (sAsg (wCall c__law_draw (wCons (wVar 0) (wCons (wC (.int 8)) wNil))) (gN 3))
    (sSeq (sIf (wTst (wIsi "tuple" (wVar 1))) (sRet (wOp oIx (wFrz (wLst (wCons (wOp oAdd (wVar 1) (wSl (wVar 1) wNoPart (wPart (wC (.int 1))))) (wCons (wSl (wVar 1) (wPart (wC (.int 1))) wNoPart) (wCons (wRev (wVar 1)) (wCons (wOp oAdd (wVar 1) (wTup (wCons (wC (.int 0)) wNil))) (wCons (wOp oAdd (wSl (wVar 1) wNoPart (wPart (wC (.int 1)))) (wVar 1)) (wCons (wSl (wVar 1) wNoPart (wPart (wNeg (wC (.int 1))))) (wCons (wC .non) (wCons (wSl (wVar 1) wNoPart (wPart (wC (.int 1)))) wNil)))))))))) (wVar 3))) sNext)
    (sSeq (sIf (bAnd (wTst (wIsi "int" (wVar 1))) (bNot (wTst (wIsi "bool" (wVar 1))))) (sRet (wOp oIx (wFrz (wLst (wCons (wOp oAdd (wVar 1) (wC (.int 1))) (wCons (wOp oSub (wVar 1) (wC (.int 1))) (wCons (wNeg (wVar 1)) (wCons (wOp oEq (wVar 1) (wC (.int 1))) (wCons (wC .non) (wCons (wCall cStr (wCons (wVar 1) wNil)) (wCons (wTup (wCons (wVar 1) wNil)) (wCons (wOp oAdd (wVar 1) (wC (.int 1001))) wNil)))))))))) (wVar 3))) sNext)
    (sSeq (sIf (wTst (wIsi "str" (wVar 1))) (sRet (wOp oIx (wFrz (wLst (wCons (wOp oAdd (wVar 1) (wC (.str ("a" : Str)))) (wCons (wSl (wVar 1) (wPart (wC (.int 1))) wNoPart) (wCons (wC (.str ("any" : Str))) (wCons (wUpper (wVar 1)) (wCons (wC (.int 0)) (wCons (wC (.str ("" : Str))) (wCons (wOp oAdd (wVar 1) (wC (.str ("z0z0z0z0" : Str)))) (wCons (wTup (wCons (wVar 1) wNil)) wNil)))))))))) (wVar 3))) sNext)
    (sRet (wOp oIx (wFrz (wLst (wCons (wC (.int 0)) (wCons (wC (.int 1)) (wCons (wC .non) (wCons (wC (.bl true)) (wCons (wC (.bl false)) (wCons (wC (.str ("a" : Str))) (wCons (wTup wNil) (wCons (wNeg (wC (.int 1))) wNil)))))))))) (wVar 3))))))))
section
variable {P : Program} {w : World} {K : PySem.W.Frag} {mg : Str → Option Value} {base : Heap}
theorem body__law_bent (B : Bl mg) (lv : Nat) (hlv : 2 ≤ lv) {c__law_draw : Ct} (k__law_draw : Cal P w K mg base 2 "_law_draw" ["box", "many"] c__law_draw) {c__law_bent : Ct} (k__law_bent : Cal P w K mg base lv "_law_bent" ["box", "value"] c__law_bent) {f : Addr} {qual : Str} (cdv : Value) (A : Around) (outer : List Env) (s : Shared) (H : Hp) (hr : Room lv (A.deeper (envOfC qual (defScope s__law_bent) s.heap.objs.size f cdv))) :
    PSsD (cxOf CX0 P w K mg base names__law_bent qual (defScope s__law_bent) f cdv A outer s H E0).nox (defBody s__law_bent) (w__law_bent c__law_draw c__law_bent) :=
  (pssd_cons (psd_if (PBW.pb (pb_and (pb_val (pd_isi (T := "tuple") (by decide +kernel) (by rfl) B.isinstance (by rfl) B.tuple (by decide +kernel) (pd_var (pv 1)))) (pb_and (pb_cmp o_gt (pd_callB c_len (by rfl) B.len (by decide +kernel) (pds_cons (pd_var (pv 1)) pds_nil)) pd_int (nomark _)) (pb_and1 (pb_cmp o_gt (pd_cal (hl := Nat.le_trans (by decide) hlv) k__law_draw hr (by rfl) (pds_cons (pd_var (pv 0)) (pds_cons pd_int pds_nil))) pd_int (nomark _)))))) (pssd_cons (psd_set (i := 2) sc__law_bent.nd rfl (by first | exact .inl rfl | exact .inr rfl) (pd_cal (hl := Nat.le_trans (by decide) hlv) k__law_draw hr (by rfl) (pds_cons (pd_var (pv 0)) (pds_cons (pd_callB c_len (by rfl) B.len (by decide +kernel) (pds_cons (pd_var (pv 1)) pds_nil)) pds_nil))))
    (pssd_one (psd_ret (pd_op o_add (pd_op o_add (pd_slice (pd_var (pv 1)) pp_none (pp_some (pd_var (pv 2)))) (pd_tup (pds_cons (pd_cal (hl := Nat.le_refl _) k__law_bent hr (by rfl) (pds_cons (pd_var (pv 0)) (pds_cons (pd_ix ix_all (pd_var (pv 1)) (pd_var (pv 2)) (fun _ _ => rfl)) pds_nil))) pds_nil))) (pd_slice (pd_var (pv 1)) (pp_some (pd_op o_add (pd_var (pv 2)) pd_int)) pp_none))))) pssd_nil)
    (pssd_cons (psd_set (i := 3) sc__law_bent.nd rfl (by first | exact .inl rfl | exact .inr rfl) (pd_cal (hl := Nat.le_trans (by decide) hlv) k__law_draw hr (by rfl) (pds_cons (pd_var (pv 0)) (pds_cons pd_int pds_nil))))
    (pssd_cons (psd_if (pb_val (pd_isi (T := "tuple") (by decide +kernel) (by rfl) B.isinstance (by rfl) B.tuple (by decide +kernel) (pd_var (pv 1)))) (pssd_one (psd_ret (pd_ix ix_all (pd_frz (pl_lst (pds_cons (pd_op o_add (pd_var (pv 1)) (pd_slice (pd_var (pv 1)) pp_none (pp_some pd_int))) (pds_cons (pd_slice (pd_var (pv 1)) (pp_some pd_int) pp_none) (pds_cons (pd_rev (pd_var (pv 1))) (pds_cons (pd_op o_add (pd_var (pv 1)) (pd_tup (pds_cons pd_int pds_nil))) (pds_cons (pd_op o_add (pd_slice (pd_var (pv 1)) pp_none (pp_some pd_int)) (pd_var (pv 1))) (pds_cons (pd_slice (pd_var (pv 1)) pp_none (pp_some (pd_neg pd_int))) (pds_cons pd_non (pds_cons (pd_slice (pd_var (pv 1)) pp_none (pp_some pd_int)) pds_nil)))))))))) (pd_var (pv 3)) (fun _ _ => rfl)))) pssd_nil)
    (pssd_cons (psd_if (PBW.pb (pb_and (pb_val (pd_isi (T := "int") (by decide +kernel) (by rfl) B.isinstance (by rfl) B.int (by decide +kernel) (pd_var (pv 1)))) (pb_and1 (pb_not (pb_val (pd_isi (T := "bool") (by decide +kernel) (by rfl) B.isinstance (by rfl) B.bool (by decide +kernel) (pd_var (pv 1)))))))) (pssd_one (psd_ret (pd_ix ix_all (pd_frz (pl_lst (pds_cons (pd_op o_add (pd_var (pv 1)) pd_int) (pds_cons (pd_op o_sub (pd_var (pv 1)) pd_int) (pds_cons (pd_neg (pd_var (pv 1))) (pds_cons (pd_cmp (o_eq hr.units) (pd_var (pv 1)) pd_int (nomark _)) (pds_cons pd_non (pds_cons (pd_callTy c_str (by rfl) B.str (by decide +kernel) (pds_cons (pd_var (pv 1)) pds_nil)) (pds_cons (pd_tup (pds_cons (pd_var (pv 1)) pds_nil)) (pds_cons (pd_op o_add (pd_var (pv 1)) pd_int) pds_nil)))))))))) (pd_var (pv 3)) (fun _ _ => rfl)))) pssd_nil)
    (pssd_cons (psd_if (pb_val (pd_isi (T := "str") (by decide +kernel) (by rfl) B.isinstance (by rfl) B.str (by decide +kernel) (pd_var (pv 1)))) (pssd_one (psd_ret (pd_ix ix_all (pd_frz (pl_lst (pds_cons (pd_op o_add (pd_var (pv 1)) pd_str) (pds_cons (pd_slice (pd_var (pv 1)) (pp_some pd_int) pp_none) (pds_cons pd_str (pds_cons (pd_upper (pd_var (pv 1))) (pds_cons pd_int (pds_cons pd_str (pds_cons (pd_op o_add (pd_var (pv 1)) pd_str) (pds_cons (pd_tup (pds_cons (pd_var (pv 1)) pds_nil)) pds_nil)))))))))) (pd_var (pv 3)) (fun _ _ => rfl)))) pssd_nil)
    (pssd_one (psd_ret (pd_ix ix_all (pd_frz (pl_lst (pds_cons pd_int (pds_cons pd_int (pds_cons pd_non (pds_cons pd_bl (pds_cons pd_bl (pds_cons pd_str (pds_cons (pd_tup pds_nil) (pds_cons (pd_neg pd_int) pds_nil)))))))))) (pd_var (pv 3)) (fun _ _ => rfl)))))))))
theorem ok__law_bent (B : Bl mg) (lv : Nat) (hlv : 2 ≤ lv) {c__law_draw : Ct} (k__law_draw : Cal P w K mg base 2 "_law_draw" ["box", "many"] c__law_draw) {c__law_bent : Ct} (k__law_bent : Cal P w K mg base lv "_law_bent" ["box", "value"] c__law_bent) {f : Addr} {fd : FuncData} {C : Ct} (F : FunD K "_law_bent" "_law_bent" (defArgs s__law_bent) (defBody s__law_bent) (defScope s__law_bent) [] [] f fd) (mc : MonoC C)
    (hC : ∀ fs S Q, C fs S Q → fs.length = 2 ∧ w__law_bent c__law_draw c__law_bent { nx := fun _ S' => Q .non S', rt := fun d S' => Q d S' } (startF 4 fs) S) : FnD P w K mg base (lv + 1) f fd ["box", "value"] C :=
  fnD false F sc__law_bent mc (w__law_bent c__law_draw c__law_bent) (fun cdv A outer s H hr => body__law_bent B lv hlv k__law_draw k__law_bent cdv A outer s H hr) hC
end

abbrev s__law_all_pairs : Stmt := topS 23
abbrev names__law_all_pairs : List Str := ["n", "found", "i", "j"]
theorem sc__law_all_pairs : FnScope names__law_all_pairs ["n"] (defScope s__law_all_pairs) := ⟨rfl, rfl, rfl, by decide +kernel, rfl, by decide +kernel, by decide +kernel⟩
def w__law_all_pairs : WS :=
  (sSeq (sAsg (wFrz (wLst wNil)) (gN 1))
    (sSeq (sFor (wRange1 (wCons (wVar 0) wNil)) (gN 2) (sAsg (wOp oAdd (wVar 1) (wFrz (wComp [3] (wRange2 (wCons (wOp oAdd (wVar 2) (wC (.int 1))) (wCons (wVar 0) wNil))) (gN 3) wYes (wTup (wCons (wVar 2) (wCons (wVar 3) wNil)))))) (gN 1)))
    (sRet (wVar 1))))
section
variable {P : Program} {w : World} {K : PySem.W.Frag} {mg : Str → Option Value} {base : Heap}
theorem body__law_all_pairs (B : Bl mg) {f : Addr} {qual : Str} (cdv : Value) (A : Around) (outer : List Env) (s : Shared) (H : Hp) (hr : Room 0 (A.deeper (envOfC qual (defScope s__law_all_pairs) s.heap.objs.size f cdv))) :
    PSsD (cxOf CX0 P w K mg base names__law_all_pairs qual (defScope s__law_all_pairs) f cdv A outer s H E0).nox (defBody s__law_all_pairs) (w__law_all_pairs) :=
  (pssd_cons (psd_set (i := 1) sc__law_all_pairs.nd rfl (by first | exact .inl rfl | exact .inr rfl) (pd_frz (pl_lst pds_nil)))
    (pssd_cons (psd_for (vs := [2]) PassesOwn.never rfl (pid_range1 (by rfl) B.range (pds_cons (pd_var (pv 0)) pds_nil)) (pgd_name (pg_name (i := 2) sc__law_all_pairs.nd rfl (by first | exact .inl rfl | exact .inr rfl)) (by decide)) (pssd_one (psd_set (i := 1) sc__law_all_pairs.nd rfl (by first | exact .inl rfl | exact .inr rfl) (pd_op o_add (pd_var (pv 1)) (pd_frz (pl_lc (own := [("j", 3)]) rfl sc__law_all_pairs.nd (pid_range2 (by rfl) B.range (pds_cons (pd_op o_add (pd_var (pv 2)) pd_int) (pds_cons (pd_var (pv 0)) pds_nil))) (blkOk_by (N := names__law_all_pairs) (sc := _) (by kernel_rfl)) (fun _ _ _ _ _ => (pgd_name (pg_name (i := 3) sc__law_all_pairs.nd rfl (by first | exact .inl rfl | exact .inr rfl)) (by decide))) (fun _ _ _ _ _ => ptsd_nil) (fun _ _ _ _ _ => (pd_tup (pds_cons (pd_var (pv 2)) (pds_cons (pd_var (pv 3)) pds_nil))))))))))
    (pssd_one (psd_ret (pd_var (pv 1))))))
theorem ok__law_all_pairs (B : Bl mg) {f : Addr} {fd : FuncData} {C : Ct} (F : FunD K "_law_all_pairs" "_law_all_pairs" (defArgs s__law_all_pairs) (defBody s__law_all_pairs) (defScope s__law_all_pairs) [] [] f fd) (mc : MonoC C)
    (hC : ∀ fs S Q, C fs S Q → fs.length = 1 ∧ w__law_all_pairs { nx := fun _ S' => Q .non S', rt := fun d S' => Q d S' } (startF 4 fs) S) : FnD P w K mg base (0 + 1) f fd ["n"] C :=
  fnD false F sc__law_all_pairs mc (w__law_all_pairs) (fun cdv A outer s H hr => body__law_all_pairs B cdv A outer s H hr) hC
end

abbrev s__law_drawn : Stmt := topS 24
abbrev names__law_drawn : List Str := ["box", "n", "thick", "pair"]
theorem sc__law_drawn : FnScope names__law_drawn ["box", "n"] (defScope s__law_drawn) := ⟨rfl, rfl, rfl, by decide +kernel, rfl, by decide +kernel, by decide +kernel⟩
def w__law_drawn (c__law_draw : Ct) (c__law_all_pairs : Ct) : WS :=
  (sSeq (sAsg (wOp oAdd (wC (.int 1)) (wCall c__law_draw (wCons (wVar 0) (wCons (wC (.int 5)) wNil)))) (gN 2))
    (sRet (wTup (wCons (wVar 1) (wCons (wCall cTuple (wCons (wFrz (wComp [3] (wIt (wCall c__law_all_pairs (wCons (wVar 1) wNil))) (gN 3) (wTst (wOp oLt (wCall c__law_draw (wCons (wVar 0) (wCons (wC (.int 6)) wNil))) (wVar 2))) (wVar 3))) wNil)) wNil)))))
section
variable {P : Program} {w : World} {K : PySem.W.Frag} {mg : Str → Option Value} {base : Heap}
theorem body__law_drawn (B : Bl mg) {c__law_draw : Ct} (k__law_draw : Cal P w K mg base 2 "_law_draw" ["box", "many"] c__law_draw) {c__law_all_pairs : Ct} (k__law_all_pairs : Cal P w K mg base 1 "_law_all_pairs" ["n"] c__law_all_pairs) {f : Addr} {qual : Str} (cdv : Value) (A : Around) (outer : List Env) (s : Shared) (H : Hp) (hr : Room 2 (A.deeper (envOfC qual (defScope s__law_drawn) s.heap.objs.size f cdv))) :
    PSsD (cxOf CX0 P w K mg base names__law_drawn qual (defScope s__law_drawn) f cdv A outer s H E0).nox (defBody s__law_drawn) (w__law_drawn c__law_draw c__law_all_pairs) :=
  (pssd_cons (psd_set (i := 2) sc__law_drawn.nd rfl (by first | exact .inl rfl | exact .inr rfl) (pd_op o_add pd_int (pd_cal k__law_draw hr (by rfl) (pds_cons (pd_var (pv 0)) (pds_cons pd_int pds_nil)))))
    (pssd_one (psd_ret (pd_tup (pds_cons (pd_var (pv 1)) (pds_cons (pd_callTy c_tuple (by rfl) B.tuple (by decide +kernel) (pds_cons (pd_frz (pl_lc (own := [("pair", 3)]) rfl sc__law_drawn.nd (pid_seq (pd_cal k__law_all_pairs hr (by rfl) (pds_cons (pd_var (pv 1)) pds_nil))) (blkOk_by (N := names__law_drawn) (sc := _) (by kernel_rfl)) (fun _ _ _ _ _ => (pgd_name (pg_name (i := 3) sc__law_drawn.nd rfl (by first | exact .inl rfl | exact .inr rfl)) (by decide))) (fun _ _ _ _ _ => (ptsd_one (pb_cmp o_lt (pd_cal k__law_draw hr (by rfl) (pds_cons (pd_var (pv 0)) (pds_cons pd_int pds_nil))) (pd_var (pv 2)) (nomark _)))) (fun _ _ _ _ _ => (pd_var (pv 3))))) pds_nil)) pds_nil))))))
theorem ok__law_drawn (B : Bl mg) {c__law_draw : Ct} (k__law_draw : Cal P w K mg base 2 "_law_draw" ["box", "many"] c__law_draw) {c__law_all_pairs : Ct} (k__law_all_pairs : Cal P w K mg base 1 "_law_all_pairs" ["n"] c__law_all_pairs) {f : Addr} {fd : FuncData} {C : Ct} (F : FunD K "_law_drawn" "_law_drawn" (defArgs s__law_drawn) (defBody s__law_drawn) (defScope s__law_drawn) [] [] f fd) (mc : MonoC C)
    (hC : ∀ fs S Q, C fs S Q → fs.length = 2 ∧ w__law_drawn c__law_draw c__law_all_pairs { nx := fun _ S' => Q .non S', rt := fun d S' => Q d S' } (startF 4 fs) S) : FnD P w K mg base (2 + 1) f fd ["box", "n"] C :=
  fnD false F sc__law_drawn mc (w__law_drawn c__law_draw c__law_all_pairs) (fun cdv A outer s H hr => body__law_drawn B k__law_draw k__law_all_pairs cdv A outer s H hr) hC
end

abbrev s__law_has : Stmt := topS 25
abbrev names__law_has : List Str := ["graph", "i", "j"]
theorem sc__law_has : FnScope names__law_has ["graph", "i", "j"] (defScope s__law_has) := ⟨rfl, rfl, rfl, by decide +kernel, rfl, by decide +kernel, by decide +kernel⟩
def w__law_has : WS :=
  (sRet (wOp oIn (wTup (wCons (wCall cMin2 (wCons (wVar 1) (wCons (wVar 2) wNil))) (wCons (wCall cMax2 (wCons (wVar 1) (wCons (wVar 2) wNil))) wNil))) (wOp oIx (wVar 0) (wC (.int 1)))))
section
variable {P : Program} {w : World} {K : PySem.W.Frag} {mg : Str → Option Value} {base : Heap}
theorem body__law_has (B : Bl mg) {f : Addr} {qual : Str} (cdv : Value) (A : Around) (outer : List Env) (s : Shared) (H : Hp) (hr : Room 0 (A.deeper (envOfC qual (defScope s__law_has) s.heap.objs.size f cdv))) :
    PSsD (cxOf CX0 P w K mg base names__law_has qual (defScope s__law_has) f cdv A outer s H E0).nox (defBody s__law_has) (w__law_has) :=
  (pssd_one (psd_ret (pd_cmp (o_in (un65 hr)) (pd_tup (pds_cons (pd_callB (c_min2 rfl) (by rfl) B.min (by decide +kernel) (pds_cons (pd_var (pv 1)) (pds_cons (pd_var (pv 2)) pds_nil))) (pds_cons (pd_callB (c_max2 rfl) (by rfl) B.max (by decide +kernel) (pds_cons (pd_var (pv 1)) (pds_cons (pd_var (pv 2)) pds_nil))) pds_nil))) (pd_ix ix_all (pd_var (pv 0)) pd_int (fun _ _ => rfl)) (by rfl))))
theorem ok__law_has (B : Bl mg) {f : Addr} {fd : FuncData} {C : Ct} (F : FunD K "_law_has" "_law_has" (defArgs s__law_has) (defBody s__law_has) (defScope s__law_has) [] [] f fd) (mc : MonoC C)
    (hC : ∀ fs S Q, C fs S Q → fs.length = 3 ∧ w__law_has { nx := fun _ S' => Q .non S', rt := fun d S' => Q d S' } (startF 3 fs) S) : FnD P w K mg base (0 + 1) f fd ["graph", "i", "j"] C :=
  fnD false F sc__law_has mc (w__law_has) (fun cdv A outer s H hr => body__law_has B cdv A outer s H hr) hC
end

abbrev s__law_is_switch : Stmt := topS 26
abbrev names__law_is_switch : List Str := ["graph", "value", "a", "b", "c", "d", "i"]
theorem sc__law_is_switch : FnScope names__law_is_switch ["graph", "value"] (defScope s__law_is_switch) := ⟨rfl, rfl, rfl, by decide +kernel, rfl, by decide +kernel, by decide +kernel⟩
def w__law_is_switch (c__law_has : Ct) : WS :=
  (sSeq (sIf (bOr (bNot (wTst (wIsi "tuple" (wVar 1)))) (wTst (wOp oNe (wCall cLen (wCons (wVar 1) wNil)) (wC (.int 4))))) (sRet (wC (.bl false))) sNext)
    (sSeq (sIf (bNot (wTst (wCall cAll (wCons (wFrz (wComp [6] (wIt (wVar 1)) (gN 6) wYes (wAnd (wIsi "int" (wVar 6)) (wAnd (wNot (wIsi "bool" (wVar 6))) (wChain oLe oLt (wC (.int 0)) (wVar 6) (wOp oIx (wVar 0) (wC (.int 0)))))))) wNil)))) (sRet (wC (.bl false))) sNext)
    (sSeq (sAsg (wVar 1) (gTup2 4 (gCons2 (gN 2) (gCons2 (gN 3) (gCons2 (gN 4) (gCons2 (gN 5) gNil2))))))
    (sRet (wAnd (wOp oEq (wLenSet (wVar 1)) (wC (.int 4))) (wAnd (wCall c__law_has (wCons (wVar 0) (wCons (wVar 2) (wCons (wVar 3) wNil)))) (wAnd (wCall c__law_has (wCons (wVar 0) (wCons (wVar 4) (wCons (wVar 5) wNil)))) (wAnd (wNot (wCall c__law_has (wCons (wVar 0) (wCons (wVar 3) (wCons (wVar 4) wNil))))) (wNot (wCall c__law_has (wCons (wVar 0) (wCons (wVar 2) (wCons (wVar 5) wNil)))))))))))))
section
variable {P : Program} {w : World} {K : PySem.W.Frag} {mg : Str → Option Value} {base : Heap}
theorem body__law_is_switch (B : Bl mg) {c__law_has : Ct} (k__law_has : Cal P w K mg base 1 "_law_has" ["graph", "i", "j"] c__law_has) {f : Addr} {qual : Str} (cdv : Value) (A : Around) (outer : List Env) (s : Shared) (H : Hp) (hr : Room 1 (A.deeper (envOfC qual (defScope s__law_is_switch) s.heap.objs.size f cdv))) :
    PSsD (cxOf CX0 P w K mg base names__law_is_switch qual (defScope s__law_is_switch) f cdv A outer s H E0).nox (defBody s__law_is_switch) (w__law_is_switch c__law_has) :=
  (pssd_cons (psd_if (PBW.pb (pb_or (pb_not (pb_val (pd_isi (T := "tuple") (by decide +kernel) (by rfl) B.isinstance (by rfl) B.tuple (by decide +kernel) (pd_var (pv 1))))) (pb_or1 (pb_cmp (o_ne hr.units) (pd_callB c_len (by rfl) B.len (by decide +kernel) (pds_cons (pd_var (pv 1)) pds_nil)) pd_int (nomark _))))) (pssd_one (psd_ret pd_bl)) pssd_nil)
    (pssd_cons (psd_if (pb_not (pb_val (pd_callB (c_all rfl) (by rfl) B.all (by decide +kernel) (pds_cons (pd_frz (pl_lc (own := [("i", 6)]) rfl sc__law_is_switch.nd (pid_seq (pd_var (pv 1))) (blkOk_by (N := names__law_is_switch) (sc := _) (by kernel_rfl)) (fun _ _ _ _ _ => (pgd_name (pg_name (i := 6) sc__law_is_switch.nd rfl (by first | exact .inl rfl | exact .inr rfl)) (by decide))) (fun _ _ _ _ _ => ptsd_nil) (fun _ _ _ _ _ => (pd_and (pd_isi (T := "int") (by decide +kernel) (by rfl) B.isinstance (by rfl) B.int (by decide +kernel) (pd_var (pv 6))) (pd_and (pd_not (pd_isi (T := "bool") (by decide +kernel) (by rfl) B.isinstance (by rfl) B.bool (by decide +kernel) (pd_var (pv 6)))) (pd_one (pd_chain o_le o_lt pd_int (pd_var (pv 6)) (pd_ix ix_all (pd_var (pv 0)) pd_int (fun _ _ => rfl))))))))) pds_nil)))) (pssd_one (psd_ret pd_bl)) pssd_nil)
    (pssd_cons (psd_asg (vs := [2, 3, 4, 5]) (pd_var (pv 1)) (pgd_tup rfl (pgds_cons (pgd_name (pg_name (i := 2) sc__law_is_switch.nd rfl (by first | exact .inl rfl | exact .inr rfl)) (by decide)) (pgds_cons (pgd_name (pg_name (i := 3) sc__law_is_switch.nd rfl (by first | exact .inl rfl | exact .inr rfl)) (by decide)) (pgds_cons (pgd_name (pg_name (i := 4) sc__law_is_switch.nd rfl (by first | exact .inl rfl | exact .inr rfl)) (by decide)) (pgds_cons (pgd_name (pg_name (i := 5) sc__law_is_switch.nd rfl (by first | exact .inl rfl | exact .inr rfl)) (by decide)) pgds_nil))))))
    (pssd_one (psd_ret (pd_and (pd_cmp (o_eq hr.units) (pd_lenSet rfl (by rfl) B.len (by rfl) B.set (pd_var (pv 1))) pd_int (nomark _)) (pd_and (pd_cal k__law_has hr (by rfl) (pds_cons (pd_var (pv 0)) (pds_cons (pd_var (pv 2)) (pds_cons (pd_var (pv 3)) pds_nil)))) (pd_and (pd_cal k__law_has hr (by rfl) (pds_cons (pd_var (pv 0)) (pds_cons (pd_var (pv 4)) (pds_cons (pd_var (pv 5)) pds_nil)))) (pd_and (pd_not (pd_cal k__law_has hr (by rfl) (pds_cons (pd_var (pv 0)) (pds_cons (pd_var (pv 3)) (pds_cons (pd_var (pv 4)) pds_nil))))) (pd_one (pd_not (pd_cal k__law_has hr (by rfl) (pds_cons (pd_var (pv 0)) (pds_cons (pd_var (pv 2)) (pds_cons (pd_var (pv 5)) pds_nil)))))))))))))))
theorem ok__law_is_switch (B : Bl mg) {c__law_has : Ct} (k__law_has : Cal P w K mg base 1 "_law_has" ["graph", "i", "j"] c__law_has) {f : Addr} {fd : FuncData} {C : Ct} (F : FunD K "_law_is_switch" "_law_is_switch" (defArgs s__law_is_switch) (defBody s__law_is_switch) (defScope s__law_is_switch) [] [] f fd) (mc : MonoC C)
    (hC : ∀ fs S Q, C fs S Q → fs.length = 2 ∧ w__law_is_switch c__law_has { nx := fun _ S' => Q .non S', rt := fun d S' => Q d S' } (startF 7 fs) S) : FnD P w K mg base (1 + 1) f fd ["graph", "value"] C :=
  fnD false F sc__law_is_switch mc (w__law_is_switch c__law_has) (fun cdv A outer s H hr => body__law_is_switch B k__law_has cdv A outer s H hr) hC
end

abbrev s__law_behind : Stmt := topS 27
abbrev names__law_behind : List Str := ["graph", "switch", "a", "b", "c", "d", "gone", "pairs", "pair"]
theorem sc__law_behind : FnScope names__law_behind ["graph", "switch"] (defScope s__law_behind) := ⟨rfl, rfl, rfl, by decide +kernel, rfl, by decide +kernel, by decide +kernel⟩
def w__law_behind : WS :=
  (sSeq (sAsg (wVar 1) (gTup2 4 (gCons2 (gN 2) (gCons2 (gN 3) (gCons2 (gN 4) (gCons2 (gN 5) gNil2))))))
    (sSeq (sAsg (wFrz (wLst (wCons (wTup (wCons (wCall cMin2 (wCons (wVar 2) (wCons (wVar 3) wNil))) (wCons (wCall cMax2 (wCons (wVar 2) (wCons (wVar 3) wNil))) wNil))) (wCons (wTup (wCons (wCall cMin2 (wCons (wVar 4) (wCons (wVar 5) wNil))) (wCons (wCall cMax2 (wCons (wVar 4) (wCons (wVar 5) wNil))) wNil))) wNil)))) (gN 6))
    (sSeq (sAsg (wFrz (wComp [8] (wIt (wOp oIx (wVar 0) (wC (.int 1)))) (gN 8) (wTst (wOp oNotIn (wVar 8) (wVar 6))) (wVar 8))) (gN 7))
    (sRet (wTup (wCons (wOp oIx (wVar 0) (wC (.int 0))) (wCons (wCall cTuple (wCons (wFrz (wCall cSortD (wCons (wOp oAdd (wVar 7) (wFrz (wLst (wCons (wTup (wCons (wCall cMin2 (wCons (wVar 3) (wCons (wVar 4) wNil))) (wCons (wCall cMax2 (wCons (wVar 3) (wCons (wVar 4) wNil))) wNil))) (wCons (wTup (wCons (wCall cMin2 (wCons (wVar 2) (wCons (wVar 5) wNil))) (wCons (wCall cMax2 (wCons (wVar 2) (wCons (wVar 5) wNil))) wNil))) wNil))))) wNil))) wNil)) wNil)))))))
section
variable {P : Program} {w : World} {K : PySem.W.Frag} {mg : Str → Option Value} {base : Heap}
theorem body__law_behind (B : Bl mg) {f : Addr} {qual : Str} (cdv : Value) (A : Around) (outer : List Env) (s : Shared) (H : Hp) (hr : Room 0 (A.deeper (envOfC qual (defScope s__law_behind) s.heap.objs.size f cdv))) :
    PSsD (cxOf CX0 P w K mg base names__law_behind qual (defScope s__law_behind) f cdv A outer s H E0).nox (defBody s__law_behind) (w__law_behind) :=
  (pssd_cons (psd_asg (vs := [2, 3, 4, 5]) (pd_var (pv 1)) (pgd_tup rfl (pgds_cons (pgd_name (pg_name (i := 2) sc__law_behind.nd rfl (by first | exact .inl rfl | exact .inr rfl)) (by decide)) (pgds_cons (pgd_name (pg_name (i := 3) sc__law_behind.nd rfl (by first | exact .inl rfl | exact .inr rfl)) (by decide)) (pgds_cons (pgd_name (pg_name (i := 4) sc__law_behind.nd rfl (by first | exact .inl rfl | exact .inr rfl)) (by decide)) (pgds_cons (pgd_name (pg_name (i := 5) sc__law_behind.nd rfl (by first | exact .inl rfl | exact .inr rfl)) (by decide)) pgds_nil))))))
    (pssd_cons (psd_set (i := 6) sc__law_behind.nd rfl (by first | exact .inl rfl | exact .inr rfl) (pd_frz (pl_lst (pds_cons (pd_tup (pds_cons (pd_callB (c_min2 rfl) (by rfl) B.min (by decide +kernel) (pds_cons (pd_var (pv 2)) (pds_cons (pd_var (pv 3)) pds_nil))) (pds_cons (pd_callB (c_max2 rfl) (by rfl) B.max (by decide +kernel) (pds_cons (pd_var (pv 2)) (pds_cons (pd_var (pv 3)) pds_nil))) pds_nil))) (pds_cons (pd_tup (pds_cons (pd_callB (c_min2 rfl) (by rfl) B.min (by decide +kernel) (pds_cons (pd_var (pv 4)) (pds_cons (pd_var (pv 5)) pds_nil))) (pds_cons (pd_callB (c_max2 rfl) (by rfl) B.max (by decide +kernel) (pds_cons (pd_var (pv 4)) (pds_cons (pd_var (pv 5)) pds_nil))) pds_nil))) pds_nil)))))
    (pssd_cons (psd_setLcF (i := 7) (own := [("pair", 8)]) rfl sc__law_behind.nd rfl rfl (sw_true rfl rfl rfl (by decide +kernel)) (pid_seq (pd_ix ix_all (pd_var (pv 0)) pd_int (fun _ _ => rfl))) (blkOk_by (N := names__law_behind) (sc := _) (by kernel_rfl)) (fun _ _ _ _ _ => (pgd_name (pg_name (i := 8) sc__law_behind.nd rfl (by first | exact .inl rfl | exact .inr rfl)) (by decide))) (fun _ _ _ _ _ => (ptsd_one (pb_cmp (o_notin (un65 hr)) (pd_var (pv 8)) (pd_var (pv 6)) (by rfl)))) (fun _ _ _ _ _ => (pd_var (pv 8))))
    (pssd_one (psd_ret (pd_tup (pds_cons (pd_ix ix_all (pd_var (pv 0)) pd_int (fun _ _ => rfl)) (pds_cons (pd_callTy c_tuple (by rfl) B.tuple (by decide +kernel) (pds_cons (pd_frz (pl_callB (c_sortD (un65 hr)) (by rfl) B.sorted (by decide +kernel) (pds_cons (pd_op o_add (pd_var (pv 7)) (pd_frz (pl_lst (pds_cons (pd_tup (pds_cons (pd_callB (c_min2 rfl) (by rfl) B.min (by decide +kernel) (pds_cons (pd_var (pv 3)) (pds_cons (pd_var (pv 4)) pds_nil))) (pds_cons (pd_callB (c_max2 rfl) (by rfl) B.max (by decide +kernel) (pds_cons (pd_var (pv 3)) (pds_cons (pd_var (pv 4)) pds_nil))) pds_nil))) (pds_cons (pd_tup (pds_cons (pd_callB (c_min2 rfl) (by rfl) B.min (by decide +kernel) (pds_cons (pd_var (pv 2)) (pds_cons (pd_var (pv 5)) pds_nil))) (pds_cons (pd_callB (c_max2 rfl) (by rfl) B.max (by decide +kernel) (pds_cons (pd_var (pv 2)) (pds_cons (pd_var (pv 5)) pds_nil))) pds_nil))) pds_nil))))) pds_nil))) pds_nil)) pds_nil))))))))
theorem ok__law_behind (B : Bl mg) {f : Addr} {fd : FuncData} {C : Ct} (F : FunD K "_law_behind" "_law_behind" (defArgs s__law_behind) (defBody s__law_behind) (defScope s__law_behind) [] [] f fd) (mc : MonoC C)
    (hC : ∀ fs S Q, C fs S Q → fs.length = 2 ∧ w__law_behind { nx := fun _ S' => Q .non S', rt := fun d S' => Q d S' } (startF 9 fs) S) : FnD P w K mg base (0 + 1) f fd ["graph", "switch"] C :=
  fnD false F sc__law_behind mc (w__law_behind) (fun cdv A outer s H hr => body__law_behind B cdv A outer s H hr) hC
end

abbrev s__law_leads : Stmt := topS 28
abbrev names__law_leads : List Str := ["one", "other", "value", "switch"]
theorem sc__law_leads : FnScope names__law_leads ["one", "other", "value"] (defScope s__law_leads) := ⟨rfl, rfl, rfl, by decide +kernel, rfl, by decide +kernel, by decide +kernel⟩
def w__law_leads (c__law_is_switch : Ct) (c__law_behind : Ct) : WS :=
  (sSeq (sIf (bNot (wTst (wIsi "tuple" (wVar 2)))) (sRet (wC (.bl false))) sNext)
    (sSeq (sFor (wIt (wVar 2)) (gN 3) (sSeq (sIf (bNot (wTst (wCall c__law_is_switch (wCons (wVar 0) (wCons (wVar 3) wNil))))) (sRet (wC (.bl false))) sNext)
    (sAsg (wCall c__law_behind (wCons (wVar 0) (wCons (wVar 3) wNil))) (gN 0))))
    (sRet (wOp oEq (wVar 0) (wVar 1)))))
section
variable {P : Program} {w : World} {K : PySem.W.Frag} {mg : Str → Option Value} {base : Heap}
theorem body__law_leads (B : Bl mg) {c__law_is_switch : Ct} (k__law_is_switch : Cal P w K mg base 2 "_law_is_switch" ["graph", "value"] c__law_is_switch) {c__law_behind : Ct} (k__law_behind : Cal P w K mg base 1 "_law_behind" ["graph", "switch"] c__law_behind) {f : Addr} {qual : Str} (cdv : Value) (A : Around) (outer : List Env) (s : Shared) (H : Hp) (hr : Room 2 (A.deeper (envOfC qual (defScope s__law_leads) s.heap.objs.size f cdv))) :
    PSsD (cxOf CX0 P w K mg base names__law_leads qual (defScope s__law_leads) f cdv A outer s H E0).nox (defBody s__law_leads) (w__law_leads c__law_is_switch c__law_behind) :=
  (pssd_cons (psd_if (pb_not (pb_val (pd_isi (T := "tuple") (by decide +kernel) (by rfl) B.isinstance (by rfl) B.tuple (by decide +kernel) (pd_var (pv 2))))) (pssd_one (psd_ret pd_bl)) pssd_nil)
    (pssd_cons (psd_for (vs := [3]) PassesOwn.never rfl (pid_seq (pd_var (pv 2))) (pgd_name (pg_name (i := 3) sc__law_leads.nd rfl (by first | exact .inl rfl | exact .inr rfl)) (by decide)) (pssd_cons (psd_if (pb_not (pb_val (pd_cal k__law_is_switch hr (by rfl) (pds_cons (pd_var (pv 0)) (pds_cons (pd_var (pv 3)) pds_nil))))) (pssd_one (psd_ret pd_bl)) pssd_nil)
    (pssd_one (psd_set (i := 0) sc__law_leads.nd rfl (by first | exact .inl rfl | exact .inr rfl) (pd_cal k__law_behind hr (by rfl) (pds_cons (pd_var (pv 0)) (pds_cons (pd_var (pv 3)) pds_nil)))))))
    (pssd_one (psd_ret (pd_cmp (o_eq hr.units) (pd_var (pv 0)) (pd_var (pv 1)) (nomark _))))))
theorem ok__law_leads (B : Bl mg) {c__law_is_switch : Ct} (k__law_is_switch : Cal P w K mg base 2 "_law_is_switch" ["graph", "value"] c__law_is_switch) {c__law_behind : Ct} (k__law_behind : Cal P w K mg base 1 "_law_behind" ["graph", "switch"] c__law_behind) {f : Addr} {fd : FuncData} {C : Ct} (F : FunD K "_law_leads" "_law_leads" (defArgs s__law_leads) (defBody s__law_leads) (defScope s__law_leads) [] [] f fd) (mc : MonoC C)
    (hC : ∀ fs S Q, C fs S Q → fs.length = 3 ∧ w__law_leads c__law_is_switch c__law_behind { nx := fun _ S' => Q .non S', rt := fun d S' => Q d S' } (startF 4 fs) S) : FnD P w K mg base (2 + 1) f fd ["one", "other", "value"] C :=
  fnD false F sc__law_leads mc (w__law_leads c__law_is_switch c__law_behind) (fun cdv A outer s H hr => body__law_leads B k__law_is_switch k__law_behind cdv A outer s H hr) hC
end

abbrev s__law_wander : Stmt := topS 29
abbrev names__law_wander : List Str := ["box", "graph", "steps", "found", "turn", "pairs", "ways", "a", "b", "c", "d", "switch", "row"]
theorem sc__law_wander : FnScope names__law_wander ["box", "graph", "steps"] (defScope s__law_wander) := ⟨rfl, rfl, rfl, by decide +kernel, rfl, by decide +kernel, by decide +kernel⟩
def w__law_wander (c__law_draw : Ct) (c__law_is_switch : Ct) (c__law_behind : Ct) : WS :=
  (sSeq (sAsg (wOwn (wLst wNil)) (gN 3))
    (sSeq (sFor (wRange1 (wCons (wVar 2) wNil)) (gN 4) (sSeq (sAsg (wOwn (wCall cList (wCons (wOp oIx (wVar 1) (wC (.int 1))) wNil))) (gN 5))
    (sSeq (sAsg (wFrz (wLst wNil)) (gN 6))
    (sSeq (sIf (wTst (wOp oGt (wCall cLen (wCons (wVar 5) wNil)) (wC (.int 1)))) (sSeq (sAsg (wMt mPopAt (wVar 5) (wCons (wCall c__law_draw (wCons (wVar 0) (wCons (wCall cLen (wCons (wVar 5) wNil)) wNil))) wNil)) (gTup2 2 (gCons2 (gN 7) (gCons2 (gN 8) gNil2))))
    (sFor (wIt (wVar 5)) (gTup2 2 (gCons2 (gN 9) (gCons2 (gN 10) gNil2))) (sAsg (wOp oAdd (wVar 6) (wFrz (wComp [12] (wIt (wFrz (wLst (wCons (wTup (wCons (wVar 7) (wCons (wVar 8) (wCons (wVar 9) (wCons (wVar 10) wNil))))) (wCons (wTup (wCons (wVar 7) (wCons (wVar 8) (wCons (wVar 10) (wCons (wVar 9) wNil))))) wNil))))) (gN 12) (wTst (wCall c__law_is_switch (wCons (wVar 1) (wCons (wVar 12) wNil)))) (wVar 12)))) (gN 6)))) sNext)
    (sIf (wTst (wOp oNe (wVar 6) (wFrz (wLst wNil)))) (sSeq (sAsg (wOp oIx (wVar 6) (wCall c__law_draw (wCons (wVar 0) (wCons (wCall cLen (wCons (wVar 6) wNil)) wNil)))) (gN 11))
    (sSeq (sExpr (wMt mAppend (wVar 3) (wCons (wVar 11) wNil)))
    (sAsg (wCall c__law_behind (wCons (wVar 1) (wCons (wVar 11) wNil))) (gN 1)))) sNext)))))
    (sRet (wTup (wCons (wVar 1) (wCons (wCall cTuple (wCons (wVar 3) wNil)) wNil))))))
section
variable {P : Program} {w : World} {K : PySem.W.Frag} {mg : Str → Option Value} {base : Heap}
theorem body__law_wander (B : Bl mg) {c__law_draw : Ct} (k__law_draw : Cal P w K mg base 2 "_law_draw" ["box", "many"] c__law_draw) {c__law_is_switch : Ct} (k__law_is_switch : Cal P w K mg base 2 "_law_is_switch" ["graph", "value"] c__law_is_switch) {c__law_behind : Ct} (k__law_behind : Cal P w K mg base 1 "_law_behind" ["graph", "switch"] c__law_behind) {f : Addr} {qual : Str} (cdv : Value) (A : Around) (outer : List Env) (s : Shared) (H : Hp) (hr : Room 2 (A.deeper (envOfC qual (defScope s__law_wander) s.heap.objs.size f cdv))) :
    PSsD (cxOf CX0 P w K mg base names__law_wander qual (defScope s__law_wander) f cdv A outer s H E0).nox (defBody s__law_wander) (w__law_wander c__law_draw c__law_is_switch c__law_behind) :=
  (pssd_cons (psd_set (i := 3) sc__law_wander.nd rfl (by first | exact .inl rfl | exact .inr rfl) (pd_own (pl_lst pds_nil)))
    (pssd_cons (psd_for (vs := [4]) PassesOwn.never rfl (pid_range1 (by rfl) B.range (pds_cons (pd_var (pv 2)) pds_nil)) (pgd_name (pg_name (i := 4) sc__law_wander.nd rfl (by first | exact .inl rfl | exact .inr rfl)) (by decide)) (pssd_cons (psd_set (i := 5) sc__law_wander.nd rfl (by first | exact .inl rfl | exact .inr rfl) (pd_own (pl_callTy c_list (by rfl) B.list (by decide +kernel) (pds_cons (pd_ix ix_all (pd_var (pv 1)) pd_int (fun _ _ => rfl)) pds_nil))))
    (pssd_cons (psd_set (i := 6) sc__law_wander.nd rfl (by first | exact .inl rfl | exact .inr rfl) (pd_frz (pl_lst pds_nil)))
    (pssd_cons (psd_if (pb_cmp o_gt (pd_callB c_len (by rfl) B.len (by decide +kernel) (pds_cons (pd_var (pv 5)) pds_nil)) pd_int (nomark _)) (pssd_cons (psd_asg (vs := [7, 8]) (pd_mt PySem.F.slot_list_pop PySem.F.type_list_pop m_popAt (pd_var (pv 5)) (pds_cons (pd_cal k__law_draw hr (by rfl) (pds_cons (pd_var (pv 0)) (pds_cons (pd_callB c_len (by rfl) B.len (by decide +kernel) (pds_cons (pd_var (pv 5)) pds_nil)) pds_nil))) pds_nil)) (pgd_tup rfl (pgds_cons (pgd_name (pg_name (i := 7) sc__law_wander.nd rfl (by first | exact .inl rfl | exact .inr rfl)) (by decide)) (pgds_cons (pgd_name (pg_name (i := 8) sc__law_wander.nd rfl (by first | exact .inl rfl | exact .inr rfl)) (by decide)) pgds_nil))))
    (pssd_one (psd_for (vs := [9, 10]) PassesOwn.never rfl (pid_seq (pd_var (pv 5))) (pgd_tup rfl (pgds_cons (pgd_name (pg_name (i := 9) sc__law_wander.nd rfl (by first | exact .inl rfl | exact .inr rfl)) (by decide)) (pgds_cons (pgd_name (pg_name (i := 10) sc__law_wander.nd rfl (by first | exact .inl rfl | exact .inr rfl)) (by decide)) pgds_nil))) (pssd_one (psd_set (i := 6) sc__law_wander.nd rfl (by first | exact .inl rfl | exact .inr rfl) (pd_op o_add (pd_var (pv 6)) (pd_frz (pl_lc (own := [("row", 12)]) rfl sc__law_wander.nd (pid_seq (pd_frz (pl_lst (pds_cons (pd_tup (pds_cons (pd_var (pv 7)) (pds_cons (pd_var (pv 8)) (pds_cons (pd_var (pv 9)) (pds_cons (pd_var (pv 10)) pds_nil))))) (pds_cons (pd_tup (pds_cons (pd_var (pv 7)) (pds_cons (pd_var (pv 8)) (pds_cons (pd_var (pv 10)) (pds_cons (pd_var (pv 9)) pds_nil))))) pds_nil))))) (blkOk_by (N := names__law_wander) (sc := _) (by kernel_rfl)) (fun _ _ _ _ _ => (pgd_name (pg_name (i := 12) sc__law_wander.nd rfl (by first | exact .inl rfl | exact .inr rfl)) (by decide))) (fun _ _ _ _ _ => (ptsd_one (pb_val (pd_cal k__law_is_switch hr (by rfl) (pds_cons (pd_var (pv 1)) (pds_cons (pd_var (pv 12)) pds_nil)))))) (fun _ _ _ _ _ => (pd_var (pv 12))))))))))) pssd_nil)
    (pssd_one (psd_if (pb_cmp (o_ne hr.units) (pd_var (pv 6)) (pd_frz (pl_lst pds_nil)) (nomark _)) (pssd_cons (psd_set (i := 11) sc__law_wander.nd rfl (by first | exact .inl rfl | exact .inr rfl) (pd_ix ix_all (pd_var (pv 6)) (pd_cal k__law_draw hr (by rfl) (pds_cons (pd_var (pv 0)) (pds_cons (pd_callB c_len (by rfl) B.len (by decide +kernel) (pds_cons (pd_var (pv 6)) pds_nil)) pds_nil))) (fun _ _ => rfl)))
    (pssd_cons (psd_expr (pd_mt PySem.F.slot_list_append PySem.F.type_list_append m_append (pd_var (pv 3)) (pds_cons (pd_var (pv 11)) pds_nil)))
    (pssd_one (psd_set (i := 1) sc__law_wander.nd rfl (by first | exact .inl rfl | exact .inr rfl) (pd_cal k__law_behind hr (by rfl) (pds_cons (pd_var (pv 1)) (pds_cons (pd_var (pv 11)) pds_nil))))))) pssd_nil))))))
    (pssd_one (psd_ret (pd_tup (pds_cons (pd_var (pv 1)) (pds_cons (pd_callTy c_tuple (by rfl) B.tuple (by decide +kernel) (pds_cons (pd_var (pv 3)) pds_nil)) pds_nil)))))))
theorem ok__law_wander (B : Bl mg) {c__law_draw : Ct} (k__law_draw : Cal P w K mg base 2 "_law_draw" ["box", "many"] c__law_draw) {c__law_is_switch : Ct} (k__law_is_switch : Cal P w K mg base 2 "_law_is_switch" ["graph", "value"] c__law_is_switch) {c__law_behind : Ct} (k__law_behind : Cal P w K mg base 1 "_law_behind" ["graph", "switch"] c__law_behind) {f : Addr} {fd : FuncData} {C : Ct} (F : FunD K "_law_wander" "_law_wander" (defArgs s__law_wander) (defBody s__law_wander) (defScope s__law_wander) [] [] f fd) (mc : MonoC C)
    (hC : ∀ fs S Q, C fs S Q → fs.length = 3 ∧ w__law_wander c__law_draw c__law_is_switch c__law_behind { nx := fun _ S' => Q .non (restr S S'), rt := fun d S' => Q d (restr S S') } (startF 13 fs) S) : FnD P w K mg base (2 + 1) f fd ["box", "graph", "steps"] C :=
  fnD true F sc__law_wander mc (w__law_wander c__law_draw c__law_is_switch c__law_behind) (fun cdv A outer s H hr => body__law_wander B k__law_draw k__law_is_switch k__law_behind cdv A outer s H hr) hC
end

abbrev s__law_fine : Stmt := topS 30
abbrev names__law_fine : List Str := ["box", "one", "other", "own", "told", "values", "row", "value", "a", "b", "c", "d"]
theorem sc__law_fine : FnScope names__law_fine ["box", "one", "other", "own"] (defScope s__law_fine) := ⟨rfl, rfl, rfl, by decide +kernel, rfl, by decide +kernel, by decide +kernel⟩
def w__law_fine (c_switches_between : Ct) (c_leads : Ct) (c__law_same : Ct) (c__law_bent : Ct) (c__law_leads : Ct) : WS :=
  (sSeq (sAsg (wCall c_switches_between (wCons (wVar 1) (wCons (wVar 2) wNil))) (gN 4))
    (sSeq (sIf (bOr (bNot (wTst (wCall c__law_leads (wCons (wVar 1) (wCons (wVar 2) (wCons (wVar 4) wNil)))))) (bOr (wTst (wOp oGt (wCall cLen (wCons (wVar 4) wNil)) (wCall cLen (wCons (wOp oIx (wVar 1) (wC (.int 1))) wNil)))) (bAnd (wTst (wOp oEq (wVar 1) (wVar 2))) (wTst (wOp oNe (wVar 4) (wTup wNil)))))) (sRet (wC (.bl false))) sNext)
    (sSeq (sAsg (wFrz (wLst (wCons (wC .non) (wCons (wTup wNil) (wCons (wC (.str ("row" : Str))) (wCons (wOp oAdd (wVar 4) (wSl (wVar 4) (wPart (wNeg (wC (.int 1)))) wNoPart)) (wCons (wTup (wCons (wVar 4) wNil)) wNil))))))) (gN 5))
    (sSeq (sFor (wIt (wTup (wCons (wVar 4) (wCons (wVar 3) wNil)))) (gN 6) (sSeq (sAsg (wOp oAdd (wVar 5) (wFrz (wLst (wCons (wVar 6) (wCons (wRev (wVar 6)) (wCons (wSl (wVar 6) (wPart (wC (.int 1))) wNoPart) (wCons (wSl (wVar 6) wNoPart (wPart (wNeg (wC (.int 1))))) (wCons (wOp oAdd (wOp oAdd (wSl (wVar 6) (wPart (wC (.int 1))) (wPart (wC (.int 2)))) (wSl (wVar 6) wNoPart (wPart (wC (.int 1))))) (wSl (wVar 6) (wPart (wC (.int 2))) wNoPart)) (wCons (wCall c__law_bent (wCons (wVar 0) (wCons (wVar 6) wNil))) (wCons (wCall c__law_bent (wCons (wVar 0) (wCons (wVar 6) wNil))) wNil)))))))))) (gN 5))
    (sAsg (wOp oAdd (wVar 5) (wFrz (wLst (wCons (wCall cTuple (wCons (wFrz (wComp [8, 9, 10, 11] (wIt (wRev (wVar 6))) (gTup2 4 (gCons2 (gN 8) (gCons2 (gN 9) (gCons2 (gN 10) (gCons2 (gN 11) gNil2))))) wYes (wTup (wCons (wVar 8) (wCons (wVar 11) (wCons (wVar 10) (wCons (wVar 9) wNil))))))) wNil)) wNil)))) (gN 5))))
    (sSeq (sFor (wIt (wVar 5)) (gN 7) (sSeq (sIf (bNot (wTst (wCall c__law_same (wCons (wCall c_leads (wCons (wVar 1) (wCons (wVar 2) (wCons (wVar 7) wNil)))) (wCons (wCall c__law_leads (wCons (wVar 1) (wCons (wVar 2) (wCons (wVar 7) wNil)))) wNil))))) (sRet (wC (.bl false))) sNext)
    (sIf (bNot (wTst (wCall c__law_same (wCons (wCall c_leads (wCons (wVar 2) (wCons (wVar 1) (wCons (wVar 7) wNil)))) (wCons (wCall c__law_leads (wCons (wVar 2) (wCons (wVar 1) (wCons (wVar 7) wNil)))) wNil))))) (sRet (wC (.bl false))) sNext)))
    (sRet (wC (.bl true))))))))
section
variable {P : Program} {w : World} {K : PySem.W.Frag} {mg : Str → Option Value} {base : Heap}
theorem body__law_fine (B : Bl mg) {c_switches_between : Ct} (k_switches_between : Cal P w K mg base 3 "switches_between" ["one", "other"] c_switches_between) {c_leads : Ct} (k_leads : Cal P w K mg base 4 "leads" ["one", "other", "value"] c_leads) {c__law_same : Ct} (k__law_same : Cal P w K mg base 9 "_law_same" ["a", "b"] c__law_same) {c__law_bent : Ct} (k__law_bent : Cal P w K mg base 6 "_law_bent" ["box", "value"] c__law_bent) {c__law_leads : Ct} (k__law_leads : Cal P w K mg base 3 "_law_leads" ["one", "other", "value"] c__law_leads) {f : Addr} {qual : Str} (cdv : Value) (A : Around) (outer : List Env) (s : Shared) (H : Hp) (hr : Room 9 (A.deeper (envOfC qual (defScope s__law_fine) s.heap.objs.size f cdv))) :
    PSsD (cxOf CX0 P w K mg base names__law_fine qual (defScope s__law_fine) f cdv A outer s H E0).nox (defBody s__law_fine) (w__law_fine c_switches_between c_leads c__law_same c__law_bent c__law_leads) :=
  (pssd_cons (psd_set (i := 4) sc__law_fine.nd rfl (by first | exact .inl rfl | exact .inr rfl) (pd_cal k_switches_between hr (by rfl) (pds_cons (pd_var (pv 1)) (pds_cons (pd_var (pv 2)) pds_nil))))
    (pssd_cons (psd_if (PBW.pb (pb_or (pb_not (pb_val (pd_cal k__law_leads hr (by rfl) (pds_cons (pd_var (pv 1)) (pds_cons (pd_var (pv 2)) (pds_cons (pd_var (pv 4)) pds_nil)))))) (pb_or (pb_cmp o_gt (pd_callB c_len (by rfl) B.len (by decide +kernel) (pds_cons (pd_var (pv 4)) pds_nil)) (pd_callB c_len (by rfl) B.len (by decide +kernel) (pds_cons (pd_ix ix_all (pd_var (pv 1)) pd_int (fun _ _ => rfl)) pds_nil)) (nomark _)) (pb_or1 (PBW.pb (pb_and (pb_cmp (o_eq hr.units) (pd_var (pv 1)) (pd_var (pv 2)) (nomark _)) (pb_and1 (pb_cmp (o_ne hr.units) (pd_var (pv 4)) (pd_tup pds_nil) (nomark _))))))))) (pssd_one (psd_ret pd_bl)) pssd_nil)
    (pssd_cons (psd_set (i := 5) sc__law_fine.nd rfl (by first | exact .inl rfl | exact .inr rfl) (pd_frz (pl_lst (pds_cons pd_non (pds_cons (pd_tup pds_nil) (pds_cons pd_str (pds_cons (pd_op o_add (pd_var (pv 4)) (pd_slice (pd_var (pv 4)) (pp_some (pd_neg pd_int)) pp_none)) (pds_cons (pd_tup (pds_cons (pd_var (pv 4)) pds_nil)) pds_nil))))))))
    (pssd_cons (psd_for (vs := [6]) PassesOwn.never rfl (pid_seq (pd_tup (pds_cons (pd_var (pv 4)) (pds_cons (pd_var (pv 3)) pds_nil)))) (pgd_name (pg_name (i := 6) sc__law_fine.nd rfl (by first | exact .inl rfl | exact .inr rfl)) (by decide)) (pssd_cons (psd_set (i := 5) sc__law_fine.nd rfl (by first | exact .inl rfl | exact .inr rfl) (pd_op o_add (pd_var (pv 5)) (pd_frz (pl_lst (pds_cons (pd_var (pv 6)) (pds_cons (pd_rev (pd_var (pv 6))) (pds_cons (pd_slice (pd_var (pv 6)) (pp_some pd_int) pp_none) (pds_cons (pd_slice (pd_var (pv 6)) pp_none (pp_some (pd_neg pd_int))) (pds_cons (pd_op o_add (pd_op o_add (pd_slice (pd_var (pv 6)) (pp_some pd_int) (pp_some pd_int)) (pd_slice (pd_var (pv 6)) pp_none (pp_some pd_int))) (pd_slice (pd_var (pv 6)) (pp_some pd_int) pp_none)) (pds_cons (pd_cal k__law_bent hr (by rfl) (pds_cons (pd_var (pv 0)) (pds_cons (pd_var (pv 6)) pds_nil))) (pds_cons (pd_cal k__law_bent hr (by rfl) (pds_cons (pd_var (pv 0)) (pds_cons (pd_var (pv 6)) pds_nil))) pds_nil)))))))))))
    (pssd_one (psd_set (i := 5) sc__law_fine.nd rfl (by first | exact .inl rfl | exact .inr rfl) (pd_op o_add (pd_var (pv 5)) (pd_frz (pl_lst (pds_cons (pd_callTy c_tuple (by rfl) B.tuple (by decide +kernel) (pds_cons (pd_frz (pl_lc (own := [("a", 8), ("b", 9), ("c", 10), ("d", 11)]) rfl sc__law_fine.nd (pid_seq (pd_rev (pd_var (pv 6)))) (blkOk_by (N := names__law_fine) (sc := _) (by kernel_rfl)) (fun _ _ _ _ _ => (pgd_tup rfl (pgds_cons (pgd_name (pg_name (i := 8) sc__law_fine.nd rfl (by first | exact .inl rfl | exact .inr rfl)) (by decide)) (pgds_cons (pgd_name (pg_name (i := 9) sc__law_fine.nd rfl (by first | exact .inl rfl | exact .inr rfl)) (by decide)) (pgds_cons (pgd_name (pg_name (i := 10) sc__law_fine.nd rfl (by first | exact .inl rfl | exact .inr rfl)) (by decide)) (pgds_cons (pgd_name (pg_name (i := 11) sc__law_fine.nd rfl (by first | exact .inl rfl | exact .inr rfl)) (by decide)) pgds_nil)))))) (fun _ _ _ _ _ => ptsd_nil) (fun _ _ _ _ _ => (pd_tup (pds_cons (pd_var (pv 8)) (pds_cons (pd_var (pv 11)) (pds_cons (pd_var (pv 10)) (pds_cons (pd_var (pv 9)) pds_nil)))))))) pds_nil)) pds_nil))))))))
    (pssd_cons (psd_for (vs := [7]) PassesOwn.never rfl (pid_seq (pd_var (pv 5))) (pgd_name (pg_name (i := 7) sc__law_fine.nd rfl (by first | exact .inl rfl | exact .inr rfl)) (by decide)) (pssd_cons (psd_if (pb_not (pb_val (pd_cal k__law_same hr (by rfl) (pds_cons (pd_cal k_leads hr (by rfl) (pds_cons (pd_var (pv 1)) (pds_cons (pd_var (pv 2)) (pds_cons (pd_var (pv 7)) pds_nil)))) (pds_cons (pd_cal k__law_leads hr (by rfl) (pds_cons (pd_var (pv 1)) (pds_cons (pd_var (pv 2)) (pds_cons (pd_var (pv 7)) pds_nil)))) pds_nil))))) (pssd_one (psd_ret pd_bl)) pssd_nil)
    (pssd_one (psd_if (pb_not (pb_val (pd_cal k__law_same hr (by rfl) (pds_cons (pd_cal k_leads hr (by rfl) (pds_cons (pd_var (pv 2)) (pds_cons (pd_var (pv 1)) (pds_cons (pd_var (pv 7)) pds_nil)))) (pds_cons (pd_cal k__law_leads hr (by rfl) (pds_cons (pd_var (pv 2)) (pds_cons (pd_var (pv 1)) (pds_cons (pd_var (pv 7)) pds_nil)))) pds_nil))))) (pssd_one (psd_ret pd_bl)) pssd_nil))))
    (pssd_one (psd_ret pd_bl)))))))
theorem ok__law_fine (B : Bl mg) {c_switches_between : Ct} (k_switches_between : Cal P w K mg base 3 "switches_between" ["one", "other"] c_switches_between) {c_leads : Ct} (k_leads : Cal P w K mg base 4 "leads" ["one", "other", "value"] c_leads) {c__law_same : Ct} (k__law_same : Cal P w K mg base 9 "_law_same" ["a", "b"] c__law_same) {c__law_bent : Ct} (k__law_bent : Cal P w K mg base 6 "_law_bent" ["box", "value"] c__law_bent) {c__law_leads : Ct} (k__law_leads : Cal P w K mg base 3 "_law_leads" ["one", "other", "value"] c__law_leads) {f : Addr} {fd : FuncData} {C : Ct} (F : FunD K "_law_fine" "_law_fine" (defArgs s__law_fine) (defBody s__law_fine) (defScope s__law_fine) [] [] f fd) (mc : MonoC C)
    (hC : ∀ fs S Q, C fs S Q → fs.length = 4 ∧ w__law_fine c_switches_between c_leads c__law_same c__law_bent c__law_leads { nx := fun _ S' => Q .non S', rt := fun d S' => Q d S' } (startF 12 fs) S) : FnD P w K mg base (9 + 1) f fd ["box", "one", "other", "own"] C :=
  fnD false F sc__law_fine mc (w__law_fine c_switches_between c_leads c__law_same c__law_bent c__law_leads) (fun cdv A outer s H hr => body__law_fine B k_switches_between k_leads k__law_same k__law_bent k__law_leads cdv A outer s H hr) hC
end

abbrev s_law : Stmt := topS 31
abbrev names_law : List Str := ["script", "box", "most", "one", "other", "own", "rings", "six"]
theorem sc_law : FnScope names_law ["script"] (defScope s_law) := ⟨rfl, rfl, rfl, by decide +kernel, rfl, by decide +kernel, by decide +kernel⟩
def w_law (c_leads : Ct) (c__law_box : Ct) (c__law_draw : Ct) (c__law_drawn : Ct) (c__law_leads : Ct) (c__law_wander : Ct) (c__law_fine : Ct) : WS :=
  (sSeq (sAsg (wCall c__law_box (wCons (wVar 0) wNil)) (gN 1))
    (sSeq (sFor (wIt (wTup (wCons (wC (.int 6)) (wCons (wC (.int 9)) wNil)))) (gN 2) (sSeq (sAsg (wCall c__law_drawn (wCons (wVar 1) (wCons (wCall c__law_draw (wCons (wVar 1) (wCons (wOp oAdd (wVar 2) (wC (.int 1))) wNil))) wNil))) (gN 3))
    (sSeq (sAsg (wCall c__law_wander (wCons (wVar 1) (wCons (wVar 3) (wCons (wCall c__law_draw (wCons (wVar 1) (wCons (wC (.int 13)) wNil))) wNil)))) (gTup2 2 (gCons2 (gN 4) (gCons2 (gN 5) gNil2))))
    (sIf (bOr (bNot (wTst (wCall c__law_fine (wCons (wVar 1) (wCons (wVar 3) (wCons (wVar 4) (wCons (wVar 5) wNil))))))) (bNot (wTst (wCall c__law_fine (wCons (wVar 1) (wCons (wVar 3) (wCons (wVar 3) (wCons (wTup wNil) wNil)))))))) (sRet (wC (.bl false))) sNext))))
    (sSeq (sAsg (wCall c__law_drawn (wCons (wVar 1) (wCons (wOp oAdd (wC (.int 12)) (wCall c__law_draw (wCons (wVar 1) (wCons (wC (.int 13)) wNil)))) wNil))) (gN 3))
    (sSeq (sAsg (wCall c__law_wander (wCons (wVar 1) (wCons (wVar 3) (wCons (wOp oAdd (wC (.int 10)) (wCall c__law_draw (wCons (wVar 1) (wCons (wC (.int 30)) wNil)))) wNil)))) (gTup2 2 (gCons2 (gN 4) (gCons2 (gN 5) gNil2))))
    (sSeq (sIf (bNot (wTst (wCall c__law_fine (wCons (wVar 1) (wCons (wVar 3) (wCons (wVar 4) (wCons (wVar 5) wNil))))))) (sRet (wC (.bl false))) sNext)
    (sSeq (sAsg (wTup (wCons (wC (.int 6)) (wCons (wTup (wCons (wTup (wCons (wC (.int 0)) (wCons (wC (.int 1)) wNil))) (wCons (wTup (wCons (wC (.int 0)) (wCons (wC (.int 2)) wNil))) (wCons (wTup (wCons (wC (.int 1)) (wCons (wC (.int 2)) wNil))) (wCons (wTup (wCons (wC (.int 3)) (wCons (wC (.int 4)) wNil))) (wCons (wTup (wCons (wC (.int 3)) (wCons (wC (.int 5)) wNil))) (wCons (wTup (wCons (wC (.int 4)) (wCons (wC (.int 5)) wNil))) wNil))))))) wNil))) (gN 6))
    (sSeq (sAsg (wTup (wCons (wC (.int 6)) (wCons (wTup (wCons (wTup (wCons (wC (.int 0)) (wCons (wC (.int 2)) wNil))) (wCons (wTup (wCons (wC (.int 0)) (wCons (wC (.int 4)) wNil))) (wCons (wTup (wCons (wC (.int 1)) (wCons (wC (.int 2)) wNil))) (wCons (wTup (wCons (wC (.int 1)) (wCons (wC (.int 3)) wNil))) (wCons (wTup (wCons (wC (.int 3)) (wCons (wC (.int 5)) wNil))) (wCons (wTup (wCons (wC (.int 4)) (wCons (wC (.int 5)) wNil))) wNil))))))) wNil))) (gN 7))
    (sRet (wAnd (wCall c__law_leads (wCons (wVar 6) (wCons (wVar 7) (wCons (wTup (wCons (wTup (wCons (wC (.int 0)) (wCons (wC (.int 1)) (wCons (wC (.int 3)) (wCons (wC (.int 4)) wNil))))) wNil)) wNil)))) (wAnd (wOp oIs (wCall c_leads (wCons (wVar 6) (wCons (wVar 7) (wCons (wTup (wCons (wTup (wCons (wC (.int 0)) (wCons (wC (.int 1)) (wCons (wC (.int 3)) (wCons (wC (.int 4)) wNil))))) wNil)) wNil)))) (wC (.bl true))) (wOp oIs (wCall c_leads (wCons (wVar 6) (wCons (wVar 7) (wCons (wTup wNil) wNil)))) (wC (.bl false)))))))))))))
section
variable {P : Program} {w : World} {K : PySem.W.Frag} {mg : Str → Option Value} {base : Heap}
theorem body_law (B : Bl mg) {c_leads : Ct} (k_leads : Cal P w K mg base 4 "leads" ["one", "other", "value"] c_leads) {c__law_box : Ct} (k__law_box : Cal P w K mg base 1 "_law_box" ["script"] c__law_box) {c__law_draw : Ct} (k__law_draw : Cal P w K mg base 2 "_law_draw" ["box", "many"] c__law_draw) {c__law_drawn : Ct} (k__law_drawn : Cal P w K mg base 3 "_law_drawn" ["box", "n"] c__law_drawn) {c__law_leads : Ct} (k__law_leads : Cal P w K mg base 3 "_law_leads" ["one", "other", "value"] c__law_leads) {c__law_wander : Ct} (k__law_wander : Cal P w K mg base 3 "_law_wander" ["box", "graph", "steps"] c__law_wander) {c__law_fine : Ct} (k__law_fine : Cal P w K mg base 10 "_law_fine" ["box", "one", "other", "own"] c__law_fine) {f : Addr} {qual : Str} (cdv : Value) (A : Around) (outer : List Env) (s : Shared) (H : Hp) (hr : Room 10 (A.deeper (envOfC qual (defScope s_law) s.heap.objs.size f cdv))) :
    PSsD (cxOf CX0 P w K mg base names_law qual (defScope s_law) f cdv A outer s H E0).nox (defBody s_law) (w_law c_leads c__law_box c__law_draw c__law_drawn c__law_leads c__law_wander c__law_fine) :=
  (pssd_cons (psd_set (i := 1) sc_law.nd rfl (by first | exact .inl rfl | exact .inr rfl) (pd_cal k__law_box hr (by rfl) (pds_cons (pd_var (pv 0)) pds_nil)))
    (pssd_cons (psd_for (vs := [2]) PassesOwn.never rfl (pid_seq (pd_tup (pds_cons pd_int (pds_cons pd_int pds_nil)))) (pgd_name (pg_name (i := 2) sc_law.nd rfl (by first | exact .inl rfl | exact .inr rfl)) (by decide)) (pssd_cons (psd_set (i := 3) sc_law.nd rfl (by first | exact .inl rfl | exact .inr rfl) (pd_cal k__law_drawn hr (by rfl) (pds_cons (pd_var (pv 1)) (pds_cons (pd_cal k__law_draw hr (by rfl) (pds_cons (pd_var (pv 1)) (pds_cons (pd_op o_add (pd_var (pv 2)) pd_int) pds_nil))) pds_nil))))
    (pssd_cons (psd_asg (vs := [4, 5]) (pd_cal k__law_wander hr (by rfl) (pds_cons (pd_var (pv 1)) (pds_cons (pd_var (pv 3)) (pds_cons (pd_cal k__law_draw hr (by rfl) (pds_cons (pd_var (pv 1)) (pds_cons pd_int pds_nil))) pds_nil)))) (pgd_tup rfl (pgds_cons (pgd_name (pg_name (i := 4) sc_law.nd rfl (by first | exact .inl rfl | exact .inr rfl)) (by decide)) (pgds_cons (pgd_name (pg_name (i := 5) sc_law.nd rfl (by first | exact .inl rfl | exact .inr rfl)) (by decide)) pgds_nil))))
    (pssd_one (psd_if (PBW.pb (pb_or (pb_not (pb_val (pd_cal k__law_fine hr (by rfl) (pds_cons (pd_var (pv 1)) (pds_cons (pd_var (pv 3)) (pds_cons (pd_var (pv 4)) (pds_cons (pd_var (pv 5)) pds_nil))))))) (pb_or1 (pb_not (pb_val (pd_cal k__law_fine hr (by rfl) (pds_cons (pd_var (pv 1)) (pds_cons (pd_var (pv 3)) (pds_cons (pd_var (pv 3)) (pds_cons (pd_tup pds_nil) pds_nil)))))))))) (pssd_one (psd_ret pd_bl)) pssd_nil)))))
    (pssd_cons (psd_set (i := 3) sc_law.nd rfl (by first | exact .inl rfl | exact .inr rfl) (pd_cal k__law_drawn hr (by rfl) (pds_cons (pd_var (pv 1)) (pds_cons (pd_op o_add pd_int (pd_cal k__law_draw hr (by rfl) (pds_cons (pd_var (pv 1)) (pds_cons pd_int pds_nil)))) pds_nil))))
    (pssd_cons (psd_asg (vs := [4, 5]) (pd_cal k__law_wander hr (by rfl) (pds_cons (pd_var (pv 1)) (pds_cons (pd_var (pv 3)) (pds_cons (pd_op o_add pd_int (pd_cal k__law_draw hr (by rfl) (pds_cons (pd_var (pv 1)) (pds_cons pd_int pds_nil)))) pds_nil)))) (pgd_tup rfl (pgds_cons (pgd_name (pg_name (i := 4) sc_law.nd rfl (by first | exact .inl rfl | exact .inr rfl)) (by decide)) (pgds_cons (pgd_name (pg_name (i := 5) sc_law.nd rfl (by first | exact .inl rfl | exact .inr rfl)) (by decide)) pgds_nil))))
    (pssd_cons (psd_if (pb_not (pb_val (pd_cal k__law_fine hr (by rfl) (pds_cons (pd_var (pv 1)) (pds_cons (pd_var (pv 3)) (pds_cons (pd_var (pv 4)) (pds_cons (pd_var (pv 5)) pds_nil))))))) (pssd_one (psd_ret pd_bl)) pssd_nil)
    (pssd_cons (psd_set (i := 6) sc_law.nd rfl (by first | exact .inl rfl | exact .inr rfl) (pd_tup (pds_cons pd_int (pds_cons (pd_tup (pds_cons (pd_tup (pds_cons pd_int (pds_cons pd_int pds_nil))) (pds_cons (pd_tup (pds_cons pd_int (pds_cons pd_int pds_nil))) (pds_cons (pd_tup (pds_cons pd_int (pds_cons pd_int pds_nil))) (pds_cons (pd_tup (pds_cons pd_int (pds_cons pd_int pds_nil))) (pds_cons (pd_tup (pds_cons pd_int (pds_cons pd_int pds_nil))) (pds_cons (pd_tup (pds_cons pd_int (pds_cons pd_int pds_nil))) pds_nil))))))) pds_nil))))
    (pssd_cons (psd_set (i := 7) sc_law.nd rfl (by first | exact .inl rfl | exact .inr rfl) (pd_tup (pds_cons pd_int (pds_cons (pd_tup (pds_cons (pd_tup (pds_cons pd_int (pds_cons pd_int pds_nil))) (pds_cons (pd_tup (pds_cons pd_int (pds_cons pd_int pds_nil))) (pds_cons (pd_tup (pds_cons pd_int (pds_cons pd_int pds_nil))) (pds_cons (pd_tup (pds_cons pd_int (pds_cons pd_int pds_nil))) (pds_cons (pd_tup (pds_cons pd_int (pds_cons pd_int pds_nil))) (pds_cons (pd_tup (pds_cons pd_int (pds_cons pd_int pds_nil))) pds_nil))))))) pds_nil))))
    (pssd_one (psd_ret (pd_and (pd_cal k__law_leads hr (by rfl) (pds_cons (pd_var (pv 6)) (pds_cons (pd_var (pv 7)) (pds_cons (pd_tup (pds_cons (pd_tup (pds_cons pd_int (pds_cons pd_int (pds_cons pd_int (pds_cons pd_int pds_nil))))) pds_nil)) pds_nil)))) (pd_and (pd_cmp o_is (pd_cal k_leads hr (by rfl) (pds_cons (pd_var (pv 6)) (pds_cons (pd_var (pv 7)) (pds_cons (pd_tup (pds_cons (pd_tup (pds_cons pd_int (pds_cons pd_int (pds_cons pd_int (pds_cons pd_int pds_nil))))) pds_nil)) pds_nil)))) pd_bl (nomark _)) (pd_one (pd_cmp o_is (pd_cal k_leads hr (by rfl) (pds_cons (pd_var (pv 6)) (pds_cons (pd_var (pv 7)) (pds_cons (pd_tup pds_nil) pds_nil)))) pd_bl (nomark _))))))))))))))
theorem ok_law (B : Bl mg) {c_leads : Ct} (k_leads : Cal P w K mg base 4 "leads" ["one", "other", "value"] c_leads) {c__law_box : Ct} (k__law_box : Cal P w K mg base 1 "_law_box" ["script"] c__law_box) {c__law_draw : Ct} (k__law_draw : Cal P w K mg base 2 "_law_draw" ["box", "many"] c__law_draw) {c__law_drawn : Ct} (k__law_drawn : Cal P w K mg base 3 "_law_drawn" ["box", "n"] c__law_drawn) {c__law_leads : Ct} (k__law_leads : Cal P w K mg base 3 "_law_leads" ["one", "other", "value"] c__law_leads) {c__law_wander : Ct} (k__law_wander : Cal P w K mg base 3 "_law_wander" ["box", "graph", "steps"] c__law_wander) {c__law_fine : Ct} (k__law_fine : Cal P w K mg base 10 "_law_fine" ["box", "one", "other", "own"] c__law_fine) {f : Addr} {fd : FuncData} {C : Ct} (F : FunD K "law" "law" (defArgs s_law) (defBody s_law) (defScope s_law) [] [] f fd) (mc : MonoC C)
    (hC : ∀ fs S Q, C fs S Q → fs.length = 1 ∧ w_law c_leads c__law_box c__law_draw c__law_drawn c__law_leads c__law_wander c__law_fine { nx := fun _ S' => Q .non S', rt := fun d S' => Q d S' } (startF 8 fs) S) : FnD P w K mg base (10 + 1) f fd ["script"] C :=
  fnD false F sc_law mc (w_law c_leads c__law_box c__law_draw c__law_drawn c__law_leads c__law_wander c__law_fine) (fun cdv A outer s H hr => body_law B k_leads k__law_box k__law_draw k__law_drawn k__law_leads k__law_wander k__law_fine cdv A outer s H hr) hC
end
end DL.K28

set_option maxHeartbeats 4000000
namespace DL.K28
open PySem PySem.Spec PyProof.Rows L2 DL RSeq
/-! graphs as rising rows of pairs -/
def pr (i j : Nat) : List Int := if i < j then [(i : Int), (j : Int)] else [(j : Int), (i : Int)]
theorem pr_comm (i j : Nat) : pr i j = pr j i := by
  unfold pr
  split <;> split <;> first | rfl | omega | (have : i = j := by omega
                                             subst this; rfl)
theorem pr_lt {i j : Nat} (h : i < j) : pr i j = [(i : Int), (j : Int)] := if_pos h
theorem pr_inj {i j k l : Nat} (h : pr i j = pr k l) : (i = k ∧ j = l) ∨ (i = l ∧ j = k) := by
  unfold pr at h
  split at h <;> split at h <;> (simp at h; omega)
structure GrOk (n : Nat) (ps : Tb) : Prop where
  row : ∀ r ∈ ps, ∃ i j : Nat, i < j ∧ j < n ∧ r = pr i j
  srt : ps.Pairwise fun a b => leR a b = true ∧ a ≠ b
theorem GrOk.nd {n : Nat} {ps : Tb} (h : GrOk n ps) : ps.Nodup := h.srt.imp fun h => h.2
theorem gr_ext {n m : Nat} {ps qs : Tb} (h1 : GrOk n ps) (h2 : GrOk m qs) (h : ∀ r, r ∈ ps ↔ r ∈ qs) : ps = qs :=
  srt_uniq (le := fun a b : List Int => leR a b = true) (fun _ _ => leR_anti) ((List.perm_ext_iff_of_nodup h1.nd h2.nd).mpr h) (h1.srt.imp fun h => h.1) (h2.srt.imp fun h => h.1)
abbrev adj (ps : Tb) (i j : Nat) : Bool := ps.contains (pr i j)
theorem adj_comm (ps : Tb) (i j : Nat) : adj ps i j = adj ps j i := by unfold adj; rw [pr_comm]
theorem adj_iff {ps : Tb} {i j : Nat} : adj ps i j = true ↔ pr i j ∈ ps := by simp [adj]
theorem adj_self {n : Nat} {ps : Tb} (h : GrOk n ps) (i : Nat) : adj ps i i = false := by
  cases e : adj ps i i with
  | false => rfl
  | true =>
    obtain ⟨a, b, h1, h2, h3⟩ := h.row _ (adj_iff.mp e)
    have := pr_inj h3
    omega
theorem adj_lt {n : Nat} {ps : Tb} (h : GrOk n ps) {i j : Nat} (e : adj ps i j = true) : i < n ∧ j < n := by
  obtain ⟨a, b, h1, h2, h3⟩ := h.row _ (adj_iff.mp e)
  have := pr_inj h3
  omega
theorem gr_adj {n : Nat} {ps qs : Tb} (h1 : GrOk n ps) (h2 : GrOk n qs) (h : ∀ i j, adj ps i j = adj qs i j) : ps = qs := gr_ext h1 h2 fun r => by
  constructor
  · intro hr
    obtain ⟨i, j, _, _, e⟩ := h1.row r hr
    rw [e]
    rw [e] at hr
    exact adj_iff.mp (by rw [← h]; exact adj_iff.mpr hr)
  · intro hr
    obtain ⟨i, j, _, _, e⟩ := h2.row r hr
    rw [e]
    rw [e] at hr
    exact adj_iff.mp (by rw [h]; exact adj_iff.mpr hr)
/-! switches -/
def behind (ps : Tb) (a b c d : Nat) : Tb := ((ps.filter fun r => !([pr a b, pr c d].contains r)) ++ [pr b c, pr a d]).mergeSort leR
structure Sw (n : Nat) (ps : Tb) (a b c d : Nat) : Prop where
  la : a < n
  lb : b < n
  lc : c < n
  ld : d < n
  nd : a ≠ b ∧ a ≠ c ∧ a ≠ d ∧ b ≠ c ∧ b ≠ d ∧ c ≠ d
  ab : adj ps a b = true
  cd : adj ps c d = true
  bc : adj ps b c = false
  ad : adj ps a d = false
theorem mem_behind {ps : Tb} {a b c d : Nat} {r : List Int} : r ∈ behind ps a b c d ↔ (r ∈ ps ∧ r ≠ pr a b ∧ r ≠ pr c d) ∨ r = pr b c ∨ r = pr a d := by
  unfold behind
  rw [List.mem_mergeSort, List.mem_append, List.mem_filter]
  simp
theorem not_adj {ps : Tb} {i j : Nat} (h : adj ps i j = false) : pr i j ∉ ps := fun hm => by rw [adj_iff.mpr hm] at h; cases h
theorem pr_ne {i j k l : Nat} (h : ¬ ((i = k ∧ j = l) ∨ (i = l ∧ j = k))) : pr i j ≠ pr k l := fun e => h (pr_inj e)
theorem behind_ok {n : Nat} {ps : Tb} (h : GrOk n ps) {a b c d : Nat} (s : Sw n ps a b c d) : GrOk n (behind ps a b c d) := by
  obtain ⟨n1, n2, n3, n4, n5, n6⟩ := s.nd
  have mk : ∀ i j : Nat, i ≠ j → i < n → j < n → ∃ k l : Nat, k < l ∧ l < n ∧ pr i j = pr k l := fun i j hij hi hj => by
    by_cases e : i < j
    · exact ⟨i, j, e, hj, rfl⟩
    · exact ⟨j, i, by omega, hi, pr_comm i j⟩
  refine ⟨fun r hr => ?_, ?_⟩
  · rcases mem_behind.mp hr with h1 | h1 | h1
    · exact h.row r h1.1
    · rw [h1]; exact mk b c n4 s.lb s.lc
    · rw [h1]; exact mk a d n3 s.la s.ld
  · have hnd : (behind ps a b c d).Nodup := by
      refine (List.mergeSort_perm _ leR).nodup_iff.mpr (List.nodup_append.mpr ⟨h.nd.filter _, ?_, fun x hx y hy => ?_⟩)
      · exact List.nodup_cons.mpr ⟨fun hm => pr_ne (by omega) (List.mem_singleton.mp hm), List.nodup_cons.mpr ⟨List.not_mem_nil, .nil⟩⟩
      · have hx := (List.mem_filter.mp hx).1
        rcases List.mem_cons.mp hy with e | e
        · rw [e]; exact fun q => not_adj s.bc (by rw [← q]; exact hx)
        · rw [List.mem_singleton.mp e]; exact fun q => not_adj s.ad (by rw [← q]; exact hx)
    exact List.Pairwise.and (sortR_pw _) hnd
theorem behind_adj {n : Nat} {ps : Tb} (h : GrOk n ps) {a b c d : Nat} (s : Sw n ps a b c d) (i j : Nat) : adj (behind ps a b c d) i j = true ↔ (adj ps i j = true ∧ pr i j ≠ pr a b ∧ pr i j ≠ pr c d) ∨ pr i j = pr b c ∨ pr i j = pr a d := by
  rw [adj_iff, mem_behind, adj_iff]
theorem behind_len {n : Nat} {ps : Tb} (h : GrOk n ps) {a b c d : Nat} (s : Sw n ps a b c d) : (behind ps a b c d).length = ps.length := by
  obtain ⟨n1, n2, n3, n4, n5, n6⟩ := s.nd
  have e1 : ∀ x : List Int, (!([pr a b, pr c d].contains x)) = (!decide (x = pr a b) && !decide (x = pr c d)) := fun x => by
    rw [Bool.eq_iff_iff]
    simp
  have e2 : ∀ (l : Tb) (x : List Int), l.Nodup → x ∈ l → (l.filter fun r => !decide (r = x)).length + 1 = l.length := fun l x hn hx => by
    induction l with
    | nil => exact absurd hx List.not_mem_nil
    | cons y l ih =>
      obtain ⟨h1, h2⟩ := List.nodup_cons.mp hn
      by_cases e : y = x
      · subst e
        rw [List.filter_cons_of_neg (by simp), List.length_cons]
        have : (l.filter fun r => !decide (r = y)) = l := List.filter_eq_self.mpr fun z hz => by
          have : z ≠ y := fun q => h1 (by rw [← q]; exact hz)
          simpa using this
        rw [this]
      · rw [List.filter_cons_of_pos (by simpa using e), List.length_cons, List.length_cons]
        have := ih h2 ((List.mem_cons.mp hx).resolve_left fun q => e q.symm)
        omega
  unfold behind
  rw [List.length_mergeSort, List.length_append]
  simp only [e1]
  rw [← List.filter_filter]
  have f1 := e2 ps (pr c d) h.nd (adj_iff.mp s.cd)
  have f2 := e2 (ps.filter fun r => !decide (r = pr c d)) (pr a b) (h.nd.filter _) (List.mem_filter.mpr ⟨adj_iff.mp s.ab, by
    have : pr a b ≠ pr c d := pr_ne (by omega)
    simpa using this⟩)
  show _ + 2 = _
  omega
theorem sw_back {n : Nat} {ps : Tb} (h : GrOk n ps) {a b c d : Nat} (s : Sw n ps a b c d) : Sw n (behind ps a b c d) a d c b ∧ behind (behind ps a b c d) a d c b = ps := by
  obtain ⟨n1, n2, n3, n4, n5, n6⟩ := s.nd
  have g := behind_ok h s
  have t : Sw n (behind ps a b c d) a d c b := by
    refine ⟨s.la, s.ld, s.lc, s.lb, by omega, ?_, ?_, ?_, ?_⟩
    · exact (behind_adj h s a d).mpr (.inr (.inr rfl))
    · exact (behind_adj h s c b).mpr (.inr (.inl (pr_comm c b)))
    · rw [← Bool.not_eq_true, behind_adj h s]
      rintro (⟨_, _, q⟩ | q | q)
      · exact q (pr_comm d c)
      · exact pr_ne (by omega) q
      · exact pr_ne (by omega) q
    · rw [← Bool.not_eq_true, behind_adj h s]
      rintro (⟨_, q, _⟩ | q | q)
      · exact q rfl
      · exact pr_ne (by omega) q
      · exact pr_ne (by omega) q
  refine ⟨t, gr_adj (behind_ok g t) h fun i j => ?_⟩
  rw [Bool.eq_iff_iff, behind_adj g t, behind_adj h s]
  have a1 := s.ab
  have a2 := s.cd
  have a3 := not_adj s.bc
  have a4 := not_adj s.ad
  rw [adj_iff] at a1 a2
  rw [adj_iff]
  constructor
  · rintro (⟨⟨⟨q, _⟩ | q | q, q2, q3⟩⟩ | q | q)
    · exact q
    · exact absurd (q.trans (pr_comm b c)) q3
    · exact absurd q q2
    · rw [q, pr_comm d c]; exact a2
    · rw [q]; exact a1
  · intro q
    by_cases e1 : pr i j = pr a b
    · exact .inr (.inr e1)
    · by_cases e2 : pr i j = pr c d
      · exact .inr (.inl (e2.trans (pr_comm c d)))
      · exact .inl ⟨.inl ⟨q, e1, e2⟩, fun e => a4 (by rw [← e]; exact q), fun e => a3 (by rw [pr_comm b c, ← e]; exact q)⟩
/-! the numbers of friends -/
def b01 (x : Bool) : Int := if x = true then 1 else 0
def dg (n : Nat) (ps : Tb) (i : Nat) : Int := sumR n fun j => b01 (adj ps i j)
theorem sumR_two {n k l : Nat} (hk : k < n) (hl : l < n) (hkl : k ≠ l) (f : Nat → Int) : sumR n f = (sumR n fun i => if i = k ∨ i = l then 0 else f i) + f k + f l := by
  have e : sumR n f = sumR n fun i => ((if i = k ∨ i = l then 0 else f i) + (if i = k then f k else 0)) + (if i = l then f l else 0) := sumR_congr fun i _ => by
    by_cases h1 : i = k
    · subst h1
      rw [if_pos (.inl rfl), if_pos rfl, if_neg hkl]
      omega
    · by_cases h2 : i = l
      · subst h2
        rw [if_pos (.inr rfl), if_neg h1, if_pos rfl]
        omega
      · rw [if_neg (by omega), if_neg h1, if_neg h2]
        omega
  rw [e, sumR_add, sumR_add, sumR_one hk, sumR_one hl]
theorem behind_dg {n : Nat} {ps : Tb} (h : GrOk n ps) {a b c d : Nat} (s : Sw n ps a b c d) (i : Nat) : dg n (behind ps a b c d) i = dg n ps i := by
  obtain ⟨n1, n2, n3, n4, n5, n6⟩ := s.nd
  have key : ∀ i k l : Nat, k < n → l < n → k ≠ l → adj ps i k = true → adj ps i l = false → adj (behind ps a b c d) i k = false → adj (behind ps a b c d) i l = true → (∀ j, j ≠ k → j ≠ l → adj (behind ps a b c d) i j = adj ps i j) → dg n (behind ps a b c d) i = dg n ps i := fun i k l hk hl hkl p1 p2 p3 p4 p5 => by
    unfold dg
    rw [sumR_two hk hl hkl, sumR_two (f := fun j => b01 (adj ps i j)) hk hl hkl, p1, p2, p3, p4]
    have : (sumR n fun j => if j = k ∨ j = l then 0 else b01 (adj (behind ps a b c d) i j)) = sumR n fun j => if j = k ∨ j = l then 0 else b01 (adj ps i j) := sumR_congr fun j _ => by
      by_cases e : j = k ∨ j = l
      · rw [if_pos e, if_pos e]
      · rw [if_neg e, if_neg e, p5 j (by omega) (by omega)]
    rw [this]
    unfold b01
    simp
  have T : ∀ i j, adj (behind ps a b c d) i j = true ↔ (adj ps i j = true ∧ pr i j ≠ pr a b ∧ pr i j ≠ pr c d) ∨ pr i j = pr b c ∨ pr i j = pr a d := behind_adj h s
  have F0 : ∀ i j, ¬ (pr i j = pr b c) → ¬ (pr i j = pr a d) → (pr i j = pr a b ∨ pr i j = pr c d) → adj (behind ps a b c d) i j = false := fun i j q1 q2 q3 => by
    rw [← Bool.not_eq_true, T]
    rintro (⟨_, q, q'⟩ | q | q)
    · exact q3.elim q q'
    · exact q1 q
    · exact q2 q
  have oth : ∀ i j, pr i j ≠ pr a b → pr i j ≠ pr c d → pr i j ≠ pr b c → pr i j ≠ pr a d → adj (behind ps a b c d) i j = adj ps i j := fun i j q1 q2 q3 q4 => by
    rw [Bool.eq_iff_iff, T]
    exact ⟨fun q => q.elim (fun q => q.1) fun q => q.elim (fun q => absurd q q3) fun q => absurd q q4, fun q => .inl ⟨q, q1, q2⟩⟩
  by_cases ia : i = a
  · subst ia
    exact key i b d s.lb s.ld (by omega) s.ab s.ad (F0 _ _ (pr_ne (by omega)) (pr_ne (by omega)) (.inl rfl)) ((T _ _).mpr (.inr (.inr rfl))) fun j h1 h2 => oth i j (pr_ne (by omega)) (pr_ne (by omega)) (pr_ne (by omega)) (pr_ne (by omega))
  · by_cases ib : i = b
    · subst ib
      exact key i a c s.la s.lc (by omega) (by rw [adj_comm]; exact s.ab) s.bc (F0 _ _ (pr_ne (by omega)) (pr_ne (by omega)) (.inl (pr_comm _ _))) ((T _ _).mpr (.inr (.inl rfl))) fun j h1 h2 => oth i j (pr_ne (by omega)) (pr_ne (by omega)) (pr_ne (by omega)) (pr_ne (by omega))
    · by_cases ic : i = c
      · subst ic
        exact key i d b s.ld s.lb (by omega) s.cd (by rw [adj_comm]; exact s.bc) (F0 _ _ (pr_ne (by omega)) (pr_ne (by omega)) (.inr rfl)) ((T _ _).mpr (.inr (.inl (pr_comm _ _)))) fun j h1 h2 => oth i j (pr_ne (by omega)) (pr_ne (by omega)) (pr_ne (by omega)) (pr_ne (by omega))
      · by_cases id : i = d
        · subst id
          exact key i c a s.lc s.la (by omega) (by rw [adj_comm]; exact s.cd) (by rw [adj_comm]; exact s.ad) (F0 _ _ (pr_ne (by omega)) (pr_ne (by omega)) (.inr (pr_comm _ _))) ((T _ _).mpr (.inr (.inr (pr_comm _ _)))) fun j h1 h2 => oth i j (pr_ne (by omega)) (pr_ne (by omega)) (pr_ne (by omega)) (pr_ne (by omega))
        · exact sumR_congr fun j _ => by rw [oth i j (pr_ne (by omega)) (pr_ne (by omega)) (pr_ne (by omega)) (pr_ne (by omega))]
/-! one of the two can be mended -/
theorem mend {n p a b : Nat} {ps qs : Tb} (h1 : GrOk n ps) (h2 : GrOk n qs) (hp : p < n) (ha : a < n) (hb : b < n) (hab : a ≠ b) (hap : p < a) (hbp : p < b) (low : ∀ i j, i < p → adj ps i j = adj qs i j) (hd : ∀ i, dg n ps i = dg n qs i)
    (q1 : adj ps p a = true) (q2 : adj ps p b = false) (q3 : adj qs p b = true) (q4 : adj qs p a = false)
    (f1 : ∀ c, p < c → c ≠ a → c ≠ b → adj ps b c = true → adj ps a c = true) (f2 : ∀ c, p < c → c ≠ a → c ≠ b → adj qs a c = true → adj qs b c = true) : False := by
  let f : Nat → Int := fun c => (b01 (adj ps a c) - b01 (adj ps b c)) - (b01 (adj qs a c) - b01 (adj qs b c))
  have s0 : sumR n f = 0 := by
    show sumR n (fun c => (b01 (adj ps a c) - b01 (adj ps b c)) - (b01 (adj qs a c) - b01 (adj qs b c))) = 0
    rw [sumR_sub, sumR_sub, sumR_sub]
    have e1 := hd a
    have e2 := hd b
    unfold dg at e1 e2
    omega
  rw [sumR_two ha hb hab] at s0
  have fab : f a + f b = 0 := by
    show ((b01 (adj ps a a) - b01 (adj ps b a)) - (b01 (adj qs a a) - b01 (adj qs b a))) + ((b01 (adj ps a b) - b01 (adj ps b b)) - (b01 (adj qs a b) - b01 (adj qs b b))) = 0
    rw [adj_self h1, adj_self h1, adj_self h2, adj_self h2, adj_comm ps b a, adj_comm qs b a]
    show ((0 - _) - (0 - _)) + ((_ - 0) - (_ - 0)) = (0 : Int)
    omega
  have fp : f p = 2 := by
    show (b01 (adj ps a p) - b01 (adj ps b p)) - (b01 (adj qs a p) - b01 (adj qs b p)) = 2
    rw [adj_comm ps a p, adj_comm ps b p, adj_comm qs a p, adj_comm qs b p, q1, q2, q3, q4]
    rfl
  have nn : 0 ≤ sumR n fun c => (if c = a ∨ c = b then 0 else f c) - (if c = p then 2 else 0) := sumR_nonneg fun c _ => by
    by_cases e1 : c = a ∨ c = b
    · rw [if_pos e1, if_neg (by omega)]; omega
    · rw [if_neg e1]
      by_cases e2 : c = p
      · rw [if_pos e2, e2, fp]; omega
      · rw [if_neg e2]
        show 0 ≤ ((b01 (adj ps a c) - b01 (adj ps b c)) - (b01 (adj qs a c) - b01 (adj qs b c))) - 0
        by_cases e3 : c < p
        · rw [adj_comm ps a c, adj_comm ps b c, adj_comm qs a c, adj_comm qs b c, low c a e3, low c b e3]
          omega
        · have g1 := f1 c (by omega) (by omega) (by omega)
          have g2 := f2 c (by omega) (by omega) (by omega)
          revert g1 g2
          unfold b01
          cases adj ps a c <;> cases adj ps b c <;> cases adj qs a c <;> cases adj qs b c <;> simp
  rw [sumR_sub, sumR_one hp] at nn
  omega
end DL.K28

set_option maxHeartbeats 4000000
namespace DL.K28
open PySem PySem.Spec PyProof.Rows L2 DL RSeq
def nbN (n : Nat) (ps : Tb) (i : Nat) : List Nat := (List.range n).filter fun j => adj ps i j
def gone (n : Nat) (ps qs : Tb) (p : Nat) : List Nat := (nbN n ps p).filter fun j => decide (p < j) && !adj qs p j
def freeL (n : Nat) (ps : Tb) (p a b : Nat) : List Nat := (nbN n ps b).filter fun c => decide (p < c) && (!decide (c = a ∨ c = b) && !adj ps a c)
theorem gone_mem {n : Nat} {ps qs : Tb} {p j : Nat} : j ∈ gone n ps qs p ↔ j < n ∧ adj ps p j = true ∧ p < j ∧ adj qs p j = false := by
  unfold gone nbN
  rw [List.mem_filter, List.mem_filter, List.mem_range]
  simp
  exact and_assoc
theorem free_mem {n : Nat} {ps : Tb} {p a b c : Nat} : c ∈ freeL n ps p a b ↔ c < n ∧ adj ps b c = true ∧ p < c ∧ c ≠ a ∧ c ≠ b ∧ adj ps a c = false := by
  unfold freeL nbN
  rw [List.mem_filter, List.mem_filter, List.mem_range]
  simp
  constructor
  · rintro ⟨⟨h1, h2⟩, h3, ⟨h4, h5⟩, h6⟩
    exact ⟨h1, h2, h3, h4, h5, h6⟩
  · rintro ⟨h1, h2, h3, h4, h5, h6⟩
    exact ⟨⟨h1, h2⟩, h3, ⟨h4, h5⟩, h6⟩
theorem filt_cnt (p : Nat → Bool) : ∀ n : Nat, (((List.range n).filter p).length : Int) = sumR n fun i => b01 (p i)
  | 0 => rfl
  | n + 1 => by
    rw [List.range_succ, List.filter_append, List.length_append, sumR_succ, ← filt_cnt p n]
    cases h : p n with
    | true => rw [List.filter_cons_of_pos h]; simp [b01]
    | false => rw [List.filter_cons_of_neg (by rw [h]; decide)]; simp [b01]
theorem gone_cnt (n : Nat) (ps qs : Tb) (p : Nat) : ((gone n ps qs p).length : Int) = sumR n fun j => b01 ((decide (p < j) && !adj qs p j) && adj ps p j) := by
  unfold gone nbN
  rw [List.filter_filter, filt_cnt]
theorem gone_come {n p : Nat} {ps qs : Tb} (h1 : GrOk n ps) (h2 : GrOk n qs) (low : ∀ i j, i < p → adj ps i j = adj qs i j) (hd : dg n ps p = dg n qs p) : (gone n ps qs p).length = (gone n qs ps p).length := by
  have a := gone_cnt n ps qs p
  have b := gone_cnt n qs ps p
  have c : (sumR n fun j => b01 ((decide (p < j) && !adj qs p j) && adj ps p j)) - (sumR n fun j => b01 ((decide (p < j) && !adj ps p j) && adj qs p j)) = dg n ps p - dg n qs p := by
    unfold dg
    rw [← sumR_sub, ← sumR_sub]
    refine sumR_congr fun j _ => ?_
    by_cases e : p < j
    · rw [decide_eq_true e]
      cases adj ps p j <;> cases adj qs p j <;> rfl
    · rw [decide_eq_false e]
      have : adj ps p j = adj qs p j := by
        by_cases e2 : j = p
        · rw [e2, adj_self h1, adj_self h2]
        · rw [adj_comm ps, adj_comm qs, low j p (by omega)]
      rw [this]
      show b01 false - b01 false = _
      omega
  omega
/-! how many pairs there are -/
def lt (n : Nat) (ps : Tb) (i : Nat) : Int := sumR n fun j => if i < j then b01 (adj ps i j) else 0
theorem total {n : Nat} : ∀ {ps : Tb}, (∀ r ∈ ps, ∃ i j : Nat, i < j ∧ j < n ∧ r = pr i j) → ps.Nodup → sumR n (lt n ps) = ps.length
  | [], _, _ => by
    rw [sumR_congr (g := fun _ => 0) fun i _ => by
      unfold lt
      rw [sumR_congr (g := fun _ => 0) fun j _ => by split <;> rfl, sumR_const]
      omega, sumR_const]
    simp
  | r :: ps, h, hn => by
    obtain ⟨h1, h2⟩ := List.nodup_cons.mp hn
    have ih := total (fun r hr => h r (List.mem_cons_of_mem _ hr)) h2
    obtain ⟨a, b, ab, bn, e⟩ := h r (List.mem_cons_self ..)
    have key : ∀ i j : Nat, (if i < j then b01 (adj (r :: ps) i j) else 0) = (if i < j then b01 (adj ps i j) else 0) + (if j = b then (if i = a then 1 else 0) else 0) := fun i j => by
      by_cases hij : i < j
      · rw [if_pos hij, if_pos hij]
        have hc : adj (r :: ps) i j = (decide (pr i j = r) || adj ps i j) := by
          unfold adj
          rw [Bool.eq_iff_iff]
          simp
        rw [hc]
        by_cases e2 : pr i j = r
        · have := pr_inj (e2.trans e)
          have e3 : adj ps i j = false := by
            cases q : adj ps i j with
            | false => rfl
            | true => exact absurd (by rw [← e2]; exact adj_iff.mp q) h1
          rw [e3, decide_eq_true e2, if_pos (by omega), if_pos (by omega)]
          rfl
        · have : ¬ (j = b ∧ i = a) := fun ⟨q1, q2⟩ => e2 (by rw [q1, q2, e])
          rw [decide_eq_false e2, Bool.false_or]
          by_cases q1 : j = b
          · rw [if_pos q1, if_neg fun q2 => this ⟨q1, q2⟩]; omega
          · rw [if_neg q1]; omega
      · rw [if_neg hij, if_neg hij]
        by_cases q1 : j = b
        · rw [if_pos q1, if_neg (by omega)]; rfl
        · rw [if_neg q1]; rfl
    have e4 : sumR n (lt n (r :: ps)) = sumR n (fun i => lt n ps i + if i = a then 1 else 0) := sumR_congr fun i _ => by
      unfold lt
      rw [sumR_congr fun j _ => key i j, sumR_add, sumR_one bn]
    rw [e4, sumR_add, ih, sumR_one (show a < n by omega), List.length_cons]
    omega
/-! the way -/
def turnR : List Int → List Int
  | [a, b, c, d] => [a, d, c, b]
  | r => r
def leadsTo (n : Nat) : Tb → List (List Int) → Tb → Prop
  | ps, [], qs => ps = qs
  | ps, r :: rs, qs => ∃ a b c d : Nat, r = [(a : Int), (b : Int), (c : Int), (d : Int)] ∧ Sw n ps a b c d ∧ leadsTo n (behind ps a b c d) rs qs
theorem leads_snoc {n : Nat} {a b c d : Nat} : ∀ {rs : List (List Int)} {ps m : Tb}, leadsTo n ps rs m → Sw n m a b c d → leadsTo n ps (rs ++ [[(a : Int), (b : Int), (c : Int), (d : Int)]]) (behind m a b c d)
  | [], ps, m, h, s => by
    have h : ps = m := h
    subst h
    exact ⟨a, b, c, d, rfl, s, rfl⟩
  | r :: rs, ps, m, ⟨a', b', c', d', e, s', h⟩, s => ⟨a', b', c', d', e, s', leads_snoc h s⟩
theorem leads_app {n : Nat} : ∀ {rs ss : List (List Int)} {ps m qs : Tb}, leadsTo n ps rs m → leadsTo n m ss qs → leadsTo n ps (rs ++ ss) qs
  | [], ss, ps, m, qs, h, k => by
    have h : ps = m := h
    subst h
    exact k
  | r :: rs, ss, ps, m, qs, ⟨a', b', c', d', e, s', h⟩, k => ⟨a', b', c', d', e, s', leads_app h k⟩
theorem leads_ok {n : Nat} : ∀ {rs : List (List Int)} {ps m : Tb}, GrOk n ps → leadsTo n ps rs m → GrOk n m ∧ (∀ i, dg n m i = dg n ps i) ∧ m.length = ps.length
  | [], ps, m, g, h => by
    have h : ps = m := h
    subst h
    exact ⟨g, fun _ => rfl, rfl⟩
  | r :: rs, ps, m, g, ⟨a, b, c, d, e, s, h⟩ => by
    obtain ⟨h1, h2, h3⟩ := leads_ok (behind_ok g s) h
    exact ⟨h1, fun i => by rw [h2, behind_dg g s], by rw [h3, behind_len g s]⟩
theorem leads_rev {n : Nat} : ∀ {rs : List (List Int)} {ps m : Tb}, GrOk n ps → leadsTo n ps rs m → leadsTo n m (rs.map turnR).reverse ps
  | [], ps, m, g, h => by
    have h : ps = m := h
    subst h
    rfl
  | r :: rs, ps, m, g, ⟨a, b, c, d, e, s, h⟩ => by
    have ih := leads_rev (behind_ok g s) h
    obtain ⟨t, et⟩ := sw_back g s
    rw [List.map_cons, List.reverse_cons, e]
    have := leads_snoc ih t
    rw [et] at this
    exact this
theorem behind_oth {n : Nat} {ps : Tb} (h : GrOk n ps) {a b c d : Nat} (s : Sw n ps a b c d) {i j : Nat} (q1 : pr i j ≠ pr a b) (q2 : pr i j ≠ pr c d) (q3 : pr i j ≠ pr b c) (q4 : pr i j ≠ pr a d) : adj (behind ps a b c d) i j = adj ps i j := by
  rw [Bool.eq_iff_iff, behind_adj h s]
  exact ⟨fun q => q.elim (fun q => q.1) fun q => q.elim (fun q => absurd q q3) fun q => absurd q q4, fun q => .inl ⟨q, q1, q2⟩⟩
theorem behind_a {n : Nat} {ps : Tb} (h : GrOk n ps) {a b c d : Nat} (s : Sw n ps a b c d) : adj (behind ps a b c d) a b = false ∧ adj (behind ps a b c d) a d = true ∧ ∀ j, j ≠ b → j ≠ d → adj (behind ps a b c d) a j = adj ps a j := by
  obtain ⟨n1, n2, n3, n4, n5, n6⟩ := s.nd
  refine ⟨?_, (behind_adj h s a d).mpr (.inr (.inr rfl)), fun j h1 h2 => behind_oth h s (pr_ne (by omega)) (pr_ne (by omega)) (pr_ne (by omega)) (pr_ne (by omega))⟩
  rw [← Bool.not_eq_true, behind_adj h s]
  rintro (⟨_, q, _⟩ | q | q)
  · exact q rfl
  · exact pr_ne (by omega) q
  · exact pr_ne (by omega) q
theorem behind_low {n : Nat} {ps : Tb} (h : GrOk n ps) {a b c d : Nat} (s : Sw n ps a b c d) {i : Nat} (j : Nat) (hi : i ≠ a ∧ i ≠ b ∧ i ≠ c ∧ i ≠ d) : adj (behind ps a b c d) i j = adj ps i j :=
  behind_oth h s (pr_ne (by omega)) (pr_ne (by omega)) (pr_ne (by omega)) (pr_ne (by omega))
/-! the state of the search -/
structure Core (n : Nat) (p0 q0 : Tb) (p : Nat) (ps qs : Tb) (A B : List (List Int)) : Prop where
  gp : GrOk n ps
  gq : GrOk n qs
  low : ∀ i j, i < p → adj ps i j = adj qs i j
  dgs : ∀ i, dg n ps i = dg n qs i
  ld : leadsTo n p0 A ps
  lq : ∃ B' : List (List Int), leadsTo n q0 B' qs ∧ B = B'.map turnR
  same : p0 = q0 → ps = qs ∧ A = [] ∧ B = []
theorem gone_le (n : Nat) (ps qs : Tb) (p : Nat) : ((gone n ps qs p).length : Int) ≤ lt n ps p := by
  rw [gone_cnt]
  unfold lt
  have : 0 ≤ sumR n fun j => (if p < j then b01 (adj ps p j) else 0) - b01 ((decide (p < j) && !adj qs p j) && adj ps p j) := sumR_nonneg fun j _ => by
    by_cases e : p < j
    · rw [if_pos e, decide_eq_true e]
      cases adj ps p j <;> cases adj qs p j <;> decide
    · rw [if_neg e, decide_eq_false e]
      exact Int.le_refl _
  rw [sumR_sub] at this
  omega
theorem gone_ne {n : Nat} {p0 q0 : Tb} {p : Nat} {ps qs : Tb} {A B : List (List Int)} (C : Core n p0 q0 p ps qs A B) {a : Nat} (ha : a ∈ gone n ps qs p) : p0 ≠ q0 := fun e => by
  obtain ⟨_, h1, _, h2⟩ := gone_mem.mp ha
  rw [(C.same e).1, h2] at h1
  cases h1
theorem sw_one {n p a b c : Nat} {ps qs : Tb} (hp : p < n) (ha : a ∈ gone n ps qs p) (hb : b ∈ gone n qs ps p) (hc : c ∈ freeL n ps p a b) : Sw n ps p a c b := by
  obtain ⟨a1, a2, a3, a4⟩ := gone_mem.mp ha
  obtain ⟨b1, b2, b3, b4⟩ := gone_mem.mp hb
  obtain ⟨c1, c2, c3, c4, c5, c6⟩ := free_mem.mp hc
  have hab : a ≠ b := fun e => by rw [e, b4] at a2; cases a2
  exact ⟨hp, a1, c1, b1, by omega, a2, by rw [adj_comm]; exact c2, c6, b4⟩
theorem step_one {n : Nat} {p0 q0 : Tb} {p : Nat} {ps qs : Tb} {A B : List (List Int)} (C : Core n p0 q0 p ps qs A B) {a b c : Nat} (hp : p < n) (ha : a ∈ gone n ps qs p) (hb : b ∈ gone n qs ps p) (hc : c ∈ freeL n ps p a b) :
    Core n p0 q0 p (behind ps p a c b) qs (A ++ [[(p : Int), (a : Int), (c : Int), (b : Int)]]) B ∧ (gone n (behind ps p a c b) qs p).length + 1 = (gone n ps qs p).length ∧ sumR (p + 1) (lt n (behind ps p a c b)) = sumR (p + 1) (lt n ps) := by
  have s := sw_one hp ha hb hc
  obtain ⟨a1, a2, a3, a4⟩ := gone_mem.mp ha
  obtain ⟨b1, b2, b3, b4⟩ := gone_mem.mp hb
  obtain ⟨c1, c2, c3, c4, c5, c6⟩ := free_mem.mp hc
  have hab : a ≠ b := fun e => by rw [e, b4] at a2; cases a2
  obtain ⟨t1, t2, t3⟩ := behind_a C.gp s
  refine ⟨⟨behind_ok C.gp s, C.gq, fun i j hi => by rw [behind_low C.gp s j (by omega)]; exact C.low i j hi, fun i => by rw [behind_dg C.gp s]; exact C.dgs i, leads_snoc C.ld s, C.lq, fun e => absurd e (gone_ne C ha)⟩, ?_, ?_⟩
  · have x := gone_cnt n (behind ps p a c b) qs p
    have y := gone_cnt n ps qs p
    have z : (sumR n fun j => b01 ((decide (p < j) && !adj qs p j) && adj (behind ps p a c b) p j)) = (sumR n fun j => b01 ((decide (p < j) && !adj qs p j) && adj ps p j) - if j = a then 1 else 0) := sumR_congr fun j _ => by
      by_cases e1 : j = a
      · rw [e1, t1, a2, a4, decide_eq_true a3, if_pos rfl]
        rfl
      · rw [if_neg e1]
        by_cases e2 : j = b
        · rw [e2, b2, Bool.not_true, Bool.and_false, Bool.false_and, Bool.false_and]
          rfl
        · rw [t3 j e1 e2]
          omega
    rw [z, sumR_sub, sumR_one a1] at x
    omega
  · refine sumR_congr fun i hi => ?_
    by_cases e : i = p
    · subst e
      unfold lt
      rw [sumR_two a1 b1 hab, sumR_two (f := fun j => if i < j then b01 (adj ps i j) else 0) a1 b1 hab, if_pos a3, if_pos b3, if_pos a3, if_pos b3, t1, t2, a2, b4]
      have : (sumR n fun j => if j = a ∨ j = b then 0 else if i < j then b01 (adj (behind ps i a c b) i j) else 0) = sumR n fun j => if j = a ∨ j = b then 0 else if i < j then b01 (adj ps i j) else 0 := sumR_congr fun j _ => by
        by_cases e : j = a ∨ j = b
        · rw [if_pos e, if_pos e]
        · rw [if_neg e, if_neg e, t3 j (by omega) (by omega)]
      rw [this]
      unfold b01
      simp
    · unfold lt
      refine sumR_congr fun j _ => ?_
      rw [behind_low C.gp s j (by omega)]
theorem step_other {n : Nat} {p0 q0 : Tb} {p : Nat} {ps qs : Tb} {A B : List (List Int)} (C : Core n p0 q0 p ps qs A B) {a b c : Nat} (hp : p < n) (ha : a ∈ gone n ps qs p) (hb : b ∈ gone n qs ps p) (hc : c ∈ freeL n qs p b a) :
    Core n p0 q0 p ps (behind qs p b c a) A (B ++ [[(p : Int), (a : Int), (c : Int), (b : Int)]]) ∧ (gone n ps (behind qs p b c a) p).length + 1 = (gone n ps qs p).length := by
  have s := sw_one hp hb ha hc
  obtain ⟨a1, a2, a3, a4⟩ := gone_mem.mp ha
  obtain ⟨b1, b2, b3, b4⟩ := gone_mem.mp hb
  obtain ⟨c1, c2, c3, c4, c5, c6⟩ := free_mem.mp hc
  have hab : a ≠ b := fun e => by rw [e, b4] at a2; cases a2
  obtain ⟨t1, t2, t3⟩ := behind_a C.gq s
  obtain ⟨B', l1, l2⟩ := C.lq
  refine ⟨⟨C.gp, behind_ok C.gq s, fun i j hi => by rw [behind_low C.gq s j (by omega)]; exact C.low i j hi, fun i => by rw [behind_dg C.gq s]; exact C.dgs i, C.ld, ⟨_, leads_snoc l1 s, by rw [List.map_append, ← l2]; rfl⟩, fun e => absurd e (gone_ne C ha)⟩, ?_⟩
  have x := gone_cnt n ps (behind qs p b c a) p
  have y := gone_cnt n ps qs p
  have z : (sumR n fun j => b01 ((decide (p < j) && !adj (behind qs p b c a) p j) && adj ps p j)) = (sumR n fun j => b01 ((decide (p < j) && !adj qs p j) && adj ps p j) - if j = a then 1 else 0) := sumR_congr fun j _ => by
    by_cases e1 : j = a
    · rw [e1, t2, a2, a4, decide_eq_true a3, if_pos rfl]
      rfl
    · rw [if_neg e1]
      by_cases e2 : j = b
      · rw [e2, b4, Bool.and_false, Bool.and_false]
        rfl
      · rw [t3 j e2 e1]
        omega
  rw [z, sumR_sub, sumR_one a1] at x
  omega
theorem some_free {n : Nat} {p0 q0 : Tb} {p : Nat} {ps qs : Tb} {A B : List (List Int)} (C : Core n p0 q0 p ps qs A B) {a b : Nat} (hp : p < n) (ha : a ∈ gone n ps qs p) (hb : b ∈ gone n qs ps p) (h : freeL n ps p a b = []) : freeL n qs p b a ≠ [] := fun k => by
  obtain ⟨a1, a2, a3, a4⟩ := gone_mem.mp ha
  obtain ⟨b1, b2, b3, b4⟩ := gone_mem.mp hb
  have hab : a ≠ b := fun e => by rw [e, b4] at a2; cases a2
  refine mend C.gp C.gq hp a1 b1 hab a3 b3 C.low C.dgs a2 b4 b2 a4 (fun c h1 h2 h3 h4 => ?_) fun c h1 h2 h3 h4 => ?_
  · cases e : adj ps a c with
    | true => rfl
    | false =>
      have : c ∈ freeL n ps p a b := free_mem.mpr ⟨(adj_lt C.gp h4).2, h4, h1, h2, h3, e⟩
      rw [h] at this
      exact absurd this List.not_mem_nil
  · cases e : adj qs b c with
    | true => rfl
    | false =>
      have : c ∈ freeL n qs p b a := free_mem.mpr ⟨(adj_lt C.gq h4).2, h4, h1, h3, h2, e⟩
      rw [k] at this
      exact absurd this List.not_mem_nil
theorem step_p {n : Nat} {p0 q0 : Tb} {p : Nat} {ps qs : Tb} {A B : List (List Int)} (C : Core n p0 q0 p ps qs A B) (h : gone n ps qs p = []) : Core n p0 q0 (p + 1) ps qs A B := by
  have hk := gone_come C.gp C.gq C.low (C.dgs p)
  rw [h] at hk
  have k : gone n qs ps p = [] := List.eq_nil_of_length_eq_zero hk.symm
  refine ⟨C.gp, C.gq, fun i j hi => ?_, C.dgs, C.ld, C.lq, C.same⟩
  by_cases e : i = p
  · subst e
    by_cases e1 : j < i
    · rw [adj_comm ps, adj_comm qs]; exact C.low j i e1
    · by_cases e2 : j = i
      · rw [e2, adj_self C.gp, adj_self C.gq]
      · cases x : adj ps i j with
        | true =>
          cases y : adj qs i j with
          | true => rfl
          | false =>
            have : j ∈ gone n ps qs i := gone_mem.mpr ⟨(adj_lt C.gp x).2, x, by omega, y⟩
            rw [h] at this
            exact absurd this List.not_mem_nil
        | false =>
          cases y : adj qs i j with
          | false => rfl
          | true =>
            have : j ∈ gone n qs ps i := gone_mem.mpr ⟨(adj_lt C.gq y).2, y, by omega, x⟩
            rw [k] at this
            exact absurd this List.not_mem_nil
  · exact C.low i j (by omega)
theorem search_end {n : Nat} {p0 q0 : Tb} (g0 : GrOk n p0) (k0 : GrOk n q0) {ps qs : Tb} {A B : List (List Int)} (C : Core n p0 q0 n ps qs A B) (hc : (A.length : Int) + B.length ≤ sumR n (lt n ps)) :
    leadsTo n p0 (A ++ B.reverse) q0 ∧ (A ++ B.reverse).length ≤ p0.length ∧ (p0 = q0 → A ++ B.reverse = []) := by
  have e : ps = qs := gr_adj C.gp C.gq fun i j => by
    by_cases hi : i < n
    · exact C.low i j hi
    · cases x : adj ps i j with
      | true => exact absurd (adj_lt C.gp x).1 hi
      | false =>
        cases y : adj qs i j with
        | false => rfl
        | true => exact absurd (adj_lt C.gq y).1 hi
  obtain ⟨B', l1, l2⟩ := C.lq
  have r := leads_rev k0 l1
  rw [← l2, ← e] at r
  have t := total C.gp.row C.gp.nd
  have l := (leads_ok g0 C.ld).2.2
  refine ⟨leads_app C.ld r, by rw [List.length_append, List.length_reverse]; omega, fun e0 => ?_⟩
  obtain ⟨_, x, y⟩ := C.same e0
  rw [x, y]
  rfl
end DL.K28

set_option maxHeartbeats 4000000
namespace DL.K28
open PySem PySem.Spec PyProof.Rows L2 DL RSeq
local macro_rules | `(tactic| walk_at "nx") => `(tactic| ((try dsimp only); rw [sSeq_ev]; (try simp [-sSeq_ev, -compL_cons, -forL_cons])))
def graphF (n : Nat) (ps : Tb) : F := .tup [.int n, tabF ps]
theorem pr_len (i j : Nat) : (pr i j).length = 2 := by unfold pr; split <;> rfl
theorem gr_len {n : Nat} {ps : Tb} (h : GrOk n ps) : ps.length ≤ n * n := by
  have t := total h.row h.nd
  have : 0 ≤ sumR n fun i => (n : Int) - lt n ps i := sumR_nonneg fun i _ => by
    have : 0 ≤ sumR n fun j => 1 - (if i < j then b01 (adj ps i j) else 0) := sumR_nonneg fun j _ => by
      split
      · cases adj ps i j <;> decide
      · omega
    rw [sumR_sub, sumR_const] at this
    unfold lt
    omega
  rw [sumR_sub, sumR_const] at this
  have e : ((n * n : Nat) : Int) = (n : Int) * (n : Int) := Int.natCast_mul n n
  omega
theorem gr_len2 {n : Nat} {ps : Tb} (h : GrOk n ps) (hn : n ≤ 24) : ps.length ≤ 576 := Nat.le_trans (gr_len h) (Nat.mul_le_mul hn hn)
theorem gr_row {n : Nat} {ps : Tb} (h : GrOk n ps) : ∀ r ∈ ps, r.length = 2 := fun r hr => by
  obtain ⟨i, j, _, _, e⟩ := h.row r hr
  rw [e, pr_len]
theorem eqF_tab : ∀ t u : Tb, eqF (tabF t) (tabF u) = decide (t = u) := fun t u => by
  have : ∀ t u : Tb, PyData.eqvAll ((t.map rowF).map py) ((u.map rowF).map py) = decide (t = u) := fun t => by
    induction t with
    | nil =>
      intro u
      cases u with
      | nil => show PyData.eqvAll [] [] = true; rw [PyData.eqvAll]
      | cons y u =>
        rw [decide_eq_false fun h => List.cons_ne_nil _ _ h.symm]
        show PyData.eqvAll [] (_ :: _) = false
        rw [PyData.eqvAll] <;> simp
    | cons x t ih =>
      intro u
      cases u with
      | nil =>
        rw [decide_eq_false fun h => List.cons_ne_nil _ _ h]
        show PyData.eqvAll (_ :: _) [] = false
        rw [PyData.eqvAll] <;> simp
      | cons y u =>
        rw [List.map_cons, List.map_cons, List.map_cons, List.map_cons, PyData.eqvAll, ih u]
        have : PyData.eqv (py (rowF x)) (py (rowF y)) = decide (x = y) := eqF_row x y
        rw [this, Bool.eq_iff_iff, Bool.and_eq_true, decide_eq_true_eq, decide_eq_true_eq, decide_eq_true_eq, List.cons.injEq]
  have e : ∀ l : List F, pyL l = l.map py := fun l => by
    induction l with
    | nil => rfl
    | cons x l ih => rw [pyL, ih]; rfl
  unfold eqF tabF
  rw [py, py, e, e, PyData.eqv]
  exact this t u
theorem eqF_graph (n : Nat) (ps qs : Tb) : eqF (graphF n ps) (graphF n qs) = decide (ps = qs) := by
  have h := eqF_tab ps qs
  unfold eqF at h ⊢
  unfold graphF
  have hi : PyData.eqv (py (F.int n)) (py (F.int n)) = true := by
    have : eqF (.int n) (.int n) = ((n : Int) == n) := eqF_ii
    unfold eqF at this
    rw [this]
    simp
  rw [py, py, show ∀ x y : F, pyL [x, y] = [py x, py y] from fun _ _ => rfl, show ∀ x y : F, pyL [x, y] = [py x, py y] from fun _ _ => rfl, PyData.eqv]
  simp only [PyData.eqvAll, h, hi, Bool.true_and, Bool.and_true]
theorem fz_tabL {t : Tb} (h : t.length ≤ 1000) (h2 : ∀ r ∈ t, r.length ≤ 1000) : fz (tabF t) = true := fz_tup_of (by rw [List.length_map]; omega) fun x hx => by
  obtain ⟨r, hr, rfl⟩ := List.mem_map.mp hx
  exact fz_rowF (h2 r hr)
theorem fz_graph {n : Nat} {ps : Tb} (h : GrOk n ps) (hn : n ≤ 24) : fz (graphF n ps) = true := fz2 rfl (fz_tabL (by have := gr_len2 h hn; omega) fun r hr => by rw [gr_row h r hr]; decide)
theorem dep_graph (n : Nat) (ps : Tb) : dep (graphF n ps) ≤ 3 := dep_tup fun x hx => by
  rcases List.mem_cons.mp hx with e | e
  · rw [e]; exact Nat.zero_le _
  · rw [List.mem_singleton.mp e]; exact dep_tab ps
theorem okF_graph {n : Nat} {ps : Tb} (h : GrOk n ps) (hn : n ≤ 24) : okF (graphF n ps) = true := okF_of (fz_graph h hn) (Nat.le_trans (dep_graph n ps) (by decide))
def C_pair_of : Ct := fun xs S Q => ∃ i j : Nat, xs = [.int i, .int j] ∧ Q (rowF (pr i j)) S
theorem mono_C_pair_of : MonoC C_pair_of := fun xs S Q Q' k ⟨i, j, e, q⟩ => ⟨i, j, e, k _ _ q⟩
theorem sp_pair_of (fs : List F) (S : Sto) (Q) (h : C_pair_of fs S Q) : fs.length = 2 ∧ w_pair_of { nx := fun _ S' => Q .non S', rt := fun d S' => Q d S' } (startF 2 fs) S := by
  obtain ⟨i, j, rfl, q⟩ := h
  refine ⟨rfl, ?_⟩
  show w_pair_of _ [some (.int i), some (.int j)] S
  unfold w_pair_of
  simp
  unfold pr at q
  by_cases c : i < j
  · rw [if_pos c] at q
    simp [c]
    exact q
  · rw [if_neg c] at q
    simp [c]
    exact q
def C_has_pair : Ct := fun xs S Q => ∃ (n : Nat) (ps : Tb) (i j : Nat), xs = [graphF n ps, .int i, .int j] ∧ GrOk n ps ∧ n ≤ 24 ∧ Q (.bl (adj ps i j)) S
theorem mono_C_has_pair : MonoC C_has_pair := fun xs S Q Q' k ⟨n, ps, i, j, e, h1, h2, q⟩ => ⟨n, ps, i, j, e, h1, h2, k _ _ q⟩
theorem oIn_rowT {l : List (List Int)} {r : List Int} {S : Sto} {Q : F → Sto → Prop} (hl : l.length ≤ 1000) (h : ∀ r ∈ l, r.length ≤ 1000) (hr : r.length ≤ 1000) : oIn (rowF r) (tabF l) S Q = Q (.bl (l.contains r)) S := by
  have h1 : okF (rowF r) = true := okF_row (by omega)
  have h2 : okF (tabF l) = true := okF_rows (by omega) fun r hr => by have := h r hr; omega
  show (okF (rowF r) = true ∧ okF (tabF l) = true ∧ Q (.bl ((l.map rowF).any fun z => eqF z (rowF r))) S) = _
  rw [any_row]
  simp [h1, h2]
theorem mm_row (i j : Nat) : F.tup [.int (if j < i then (j : Int) else i), .int (if i < j then (j : Int) else i)] = rowF (pr i j) := by
  unfold pr rowF
  by_cases c : i < j
  · simp [c, show ¬ j < i by omega]
  · by_cases d : j < i
    · simp [c, d]
    · have e : j = i := by omega
      subst e
      simp
theorem sp_has_pair (fs : List F) (S : Sto) (Q) (h : C_has_pair fs S Q) : fs.length = 3 ∧ w_has_pair { nx := fun _ S' => Q .non S', rt := fun d S' => Q d S' } (startF 3 fs) S := by
  obtain ⟨n, ps, i, j, rfl, g, hn, q⟩ := h
  refine ⟨rfl, ?_⟩
  show w_has_pair _ [some (graphF n ps), some (.int i), some (.int j)] S
  unfold w_has_pair graphF
  simp
  rw [mm_row, oIn_rowT (by have := gr_len2 g hn; omega) (fun r hr => by rw [gr_row g r hr]; decide) (by rw [pr_len]; decide)]
  exact q
theorem sp_law_has (fs : List F) (S : Sto) (Q) (h : C_has_pair fs S Q) : fs.length = 3 ∧ w__law_has { nx := fun _ S' => Q .non S', rt := fun d S' => Q d S' } (startF 3 fs) S := by
  obtain ⟨n, ps, i, j, rfl, g, hn, q⟩ := h
  refine ⟨rfl, ?_⟩
  show w__law_has _ [some (graphF n ps), some (.int i), some (.int j)] S
  unfold w__law_has graphF
  simp
  rw [mm_row, oIn_rowT (by have := gr_len2 g hn; omega) (fun r hr => by rw [gr_row g r hr]; decide) (by rw [pr_len]; decide)]
  exact q
def C_is_graph : Ct := fun xs S Q => ∃ (n : Nat) (ps : Tb), xs = [graphF n ps] ∧ GrOk n ps ∧ n ≤ 24 ∧ Q (.bl true) S
theorem mono_C_is_graph : MonoC C_is_graph := fun xs S Q Q' k ⟨n, ps, e, h1, h2, q⟩ => ⟨n, ps, e, h1, h2, k _ _ q⟩
def C_is_pair : Ct := fun xs S Q => ∃ (n i j : Nat), xs = [.int n, rowF (pr i j)] ∧ i < j ∧ j < n ∧ Q (.bl true) S
theorem mono_C_is_pair : MonoC C_is_pair := fun xs S Q Q' k ⟨n, i, j, e, h1, h2, q⟩ => ⟨n, i, j, e, h1, h2, k _ _ q⟩
theorem sp_is_pair (fs : List F) (S : Sto) (Q) (h : C_is_pair fs S Q) : fs.length = 2 ∧ w_is_pair C_count { nx := fun _ S' => Q .non S', rt := fun d S' => Q d S' } (startF 2 fs) S := by
  obtain ⟨n, i, j, rfl, h1, h2, q⟩ := h
  refine ⟨rfl, ?_⟩
  show w_is_pair _ _ [some (.int n), some (rowF (pr i j))] S
  rw [pr_lt h1]
  unfold w_is_pair rowF
  walk_at "nx"
  refine call_count rfl ?_
  rw [show isCount (.int (i : Int)) 0 ((n : Int) - 1) = true by simp [isCount]; omega]
  simp
  refine call_count rfl ?_
  rw [show isCount (.int (j : Int)) 0 ((n : Int) - 1) = true by simp [isCount]; omega]
  simp
  rw [decide_eq_true h1]
  exact q
theorem all_tt {α : Type} (l : List α) : cAll [.lst (l.map fun _ => F.bl true)] = fun S Q => Q (.bl true) S := by
  funext S Q
  rw [show (l.map fun _ => F.bl true) = (l.map fun _ => true).map F.bl by rw [List.map_map]; rfl, cAll_l]
  have : ((l.map fun _ => true).all id) = true := by
    rw [List.all_map]
    exact List.all_eq_true.mpr fun _ _ => rfl
  rw [this]
theorem lex_lt {a b : List Int} (h1 : leR a b = true) (h2 : a ≠ b) : HT.lexLt a b = true := by
  have : ∀ a b : List Int, a ≤ b → a ≠ b → HT.lexLt a b = true := fun a => by
    induction a with
    | nil =>
      intro b _ hb
      cases b with
      | nil => exact absurd rfl hb
      | cons y b => rfl
    | cons x a ih =>
      intro b hl hb
      cases b with
      | nil => exact absurd hl (by simp)
      | cons y b =>
        rw [List.cons_le_cons_iff] at hl
        unfold HT.lexLt
        by_cases e : x = y
        · rw [if_pos e]
          exact ih b (by rcases hl with h | h; omega; exact h.2) fun q => hb (by rw [e, q])
        · rw [if_neg e]
          exact decide_eq_true (by rcases hl with h | h; exact h; exact absurd h.1 e)
  exact this a b (of_decide_eq_true h1) h2
theorem sp_is_graph (fs : List F) (S : Sto) (Q) (h : C_is_graph fs S Q) : fs.length = 1 ∧ w_is_graph C_count C_is_pair { nx := fun _ S' => Q .non S', rt := fun d S' => Q d S' } (startF 5 fs) S := by
  obtain ⟨n, ps, rfl, g, hn, q⟩ := h
  refine ⟨rfl, ?_⟩
  show w_is_graph _ _ _ [some (graphF n ps), none, none, none, none] S
  have hl := gr_len2 g hn
  unfold w_is_graph graphF tabF
  walk_at "nx"
  refine call_count rfl ?_
  rw [show isCount (.int (n : Int)) 0 24 = true by simp [isCount]; omega]
  try simp [-sSeq_ev, -compL_cons, -forL_cons]
  walk_at "nx"
  walk_at "nx"
  refine ⟨mil (by omega), ?_⟩
  refine compL_mapT rowF (fun _ => .bl true) trivial ps _ (fun r hr Q2 q2 => ?_) ?_
  · obtain ⟨i, j, h1, h2, e⟩ := g.row r hr
    simp
    exact ⟨n, i, j, by rw [e], h1, h2, q2⟩
  rw [List.nil_append, all_tt]
  try simp [-sSeq_ev, -compL_cons, -forL_cons]
  refine ⟨⟨by omega, by omega⟩, by have := mil (n := ps.length) (by omega); omega, ?_⟩
  rw [rngL_map]
  refine compL_mapT (fun k : Nat => F.int (0 + (k : Int))) (fun _ => .bl true) trivial _ _ (fun k hk Q2 q2 => ?_) ?_
  · have hk := List.mem_range.mp hk
    have e1 : ps[k]? = some ps[k] := List.getElem?_eq_getElem (by omega)
    have e2 : ps[k + 1]? = some ps[k + 1] := List.getElem?_eq_getElem (by omega)
    have e3 : atI (ps.map rowF) (k : Int) = some (rowF ps[k]) := by rw [atI_cast, List.getElem?_map, e1]; rfl
    have e4 : atI (ps.map rowF) ((k : Int) + 1) = some (rowF ps[k + 1]) := by rw [show (k : Int) + 1 = ((k + 1 : Nat) : Int) by omega, atI_cast, List.getElem?_map, e2]; rfl
    simp [e3, e4]
    refine oLtA_row ?_
    obtain ⟨s1, s2⟩ := List.pairwise_iff_getElem.mp g.srt k (k + 1) (by omega) (by omega) (by omega)
    rw [lex_lt s1 s2]
    exact q2
  rw [List.nil_append, all_tt]
  exact q
/-! degrees, as a fold -/
def bump (l : List Int) (i : Nat) : List Int := l.set i (l.getD i 0 + 1)
def degF (n : Nat) (ps : Tb) : List Int := ps.foldl (fun l r => bump (bump l (r.getD 0 0).toNat) (r.getD 1 0).toNat) (List.replicate n 0)
theorem degF_len (n : Nat) (ps : Tb) : (degF n ps).length = n := by
  have : ∀ (ps : Tb) (l : List Int), (ps.foldl (fun l r => bump (bump l (r.getD 0 0).toNat) (r.getD 1 0).toNat) l).length = l.length := fun ps => by
    induction ps with
    | nil => exact fun _ => rfl
    | cons r ps ih =>
      intro l
      rw [List.foldl_cons, ih]
      simp [bump]
  unfold degF
  rw [this, List.length_replicate]
def C_degrees : Ct := fun xs S Q => ∃ (n : Nat) (ps : Tb), xs = [graphF n ps] ∧ GrOk n ps ∧ n ≤ 24 ∧ Q (rowF (degF n ps)) S
theorem mono_C_degrees : MonoC C_degrees := fun xs S Q Q' k ⟨n, ps, e, h1, h2, q⟩ => ⟨n, ps, e, h1, h2, k _ _ q⟩
theorem sp_degrees (fs : List F) (S : Sto) (Q) (h : C_degrees fs S Q) : fs.length = 1 ∧ w_degrees { nx := fun _ S' => Q .non (restr S S'), rt := fun d S' => Q d (restr S S') } (startF 4 fs) S := by
  obtain ⟨n, ps, rfl, g, hn, q⟩ := h
  refine ⟨rfl, ?_⟩
  show w_degrees _ [some (graphF n ps), none, none, none] S
  unfold w_degrees graphF tabF
  walk_at "nx"
  refine ⟨⟨by omega, mil (by omega)⟩, fun a ha => ?_⟩
  walk_at "nx"
  refine forL_list rowF ps (fun ys ρ S' => S' = updS S a ((degF n ys).map F.int) ∧ ∃ o2 o3 : Option F, ρ = [some (.tup [.int n, .tup (ps.map rowF)]), some (.loc a), o2, o3]) ⟨?_, _, _, rfl⟩ (fun _ _ _ _ => trivial) (fun ys r zs hx ρ S' N ⟨eS, o2, o3, eρ⟩ hN => ?_) (fun ρ S' ⟨eS, o2, o3, eρ⟩ => ?_)
  · congr 1
    simp [degF]
  · subst eS eρ
    obtain ⟨i, j, h1, h2, e⟩ := g.row r (by rw [hx]; simp)
    have hl := degF_len n ys
    have ef : degF n (ys ++ [r]) = bump (bump (degF n ys) i) j := by
      unfold degF
      rw [List.foldl_append, e, pr_lt h1]
      rfl
    rw [ef] at hN
    rw [e, pr_lt h1]
    generalize degF n ys = l at hl hN
    have g1 : l[i]? = some l[i] := List.getElem?_eq_getElem (by omega)
    simp [rowF, -sSeq_ev, -compL_cons, -forL_cons]
    walk_at "nx"
    refine ⟨by omega, ?_⟩
    rw [g1]
    simp only [Option.map_some, ipAdd_ii, updS_same]
    rw [ixN_cast (by rw [List.length_map]; omega)]
    dsimp only
    refine ⟨by omega, ?_⟩
    have m1 : (l.map F.int).set i (F.int (l[i] + 1)) = (bump l i).map F.int := by
      unfold bump
      rw [List.map_set, List.getD_eq_getElem?_getD, g1]
      rfl
    rw [m1]
    have hl2 : (bump l i).length = n := by simp [bump, hl]
    generalize bump l i = l2 at hl2 hN
    have g2 : l2[j]? = some l2[j] := List.getElem?_eq_getElem (by omega)
    rw [List.getElem?_map, g2]
    simp only [Option.map_some, ipAdd_ii, updS_same]
    rw [ixN_cast (by rw [List.length_map]; omega)]
    dsimp only
    have m2 : (l2.map F.int).set j (F.int (l2[j] + 1)) = (bump l2 j).map F.int := by
      unfold bump
      rw [List.map_set, List.getD_eq_getElem?_getD, g2]
      rfl
    rw [m2]
    exact hN _ _ ⟨by rw [updS_updS, updS_updS], _, _, rfl⟩
  · subst eS eρ
    simp
    rw [restr_new ha]
    exact q
/-! pairs out and in -/
def C_without_pairs : Ct := fun xs S Q => ∃ (n : Nat) (ps gs ms : Tb), xs = [graphF n ps, .lst (gs.map rowF), .lst (ms.map rowF)] ∧ GrOk n ps ∧ n ≤ 24 ∧ gs.length ≤ 10 ∧ ms.length ≤ 10 ∧ (∀ r ∈ gs ++ ms, r.length = 2) ∧ Q (graphF n (((ps.filter fun r => !(gs.contains r)) ++ ms).mergeSort leR)) S
theorem mono_C_without_pairs : MonoC C_without_pairs := fun xs S Q Q' k ⟨n, ps, gs, ms, e, h1, h2, h3, h4, h5, q⟩ => ⟨n, ps, gs, ms, e, h1, h2, h3, h4, h5, k _ _ q⟩
theorem oNotIn_rowL {l : List (List Int)} {r : List Int} {S : Sto} {Q : F → Sto → Prop} (hl : l.length ≤ 1000) (h : ∀ r ∈ l, r.length ≤ 1000) (hr : r.length ≤ 1000) : oNotIn (rowF r) (.lst (l.map rowF)) S Q = Q (.bl (!l.contains r)) S := by
  have h1 : okF (rowF r) = true := okF_row (by omega)
  have h2 : okF (tabF l) = true := okF_rows (by omega) fun r hr => by have := h r hr; omega
  show (okF (rowF r) = true ∧ okF (.tup (l.map rowF)) = true ∧ Q (.bl (!(l.map rowF).any fun z => eqF z (rowF r))) S) = _
  rw [any_row]
  have h2 : okF (.tup (l.map rowF)) = true := h2
  simp [h1, h2]
theorem out_key {gs : Tb} {r : List Int} : (∀ x : List Int, x ∈ gs → eqF (rowF x) (rowF r) = false) ↔ gs.contains r = false := by
  constructor
  · intro h
    rw [← Bool.not_eq_true, List.contains_iff_mem]
    intro hm
    have := h r hm
    rw [eqF_row, decide_eq_false_iff_not] at this
    exact this rfl
  · intro h x hx
    rw [eqF_row, decide_eq_false_iff_not]
    intro e
    rw [← Bool.not_eq_true, List.contains_iff_mem] at h
    exact h (by rw [← e]; exact hx)
theorem sp_without_pairs (fs : List F) (S : Sto) (Q) (h : C_without_pairs fs S Q) : fs.length = 3 ∧ w_without_pairs { nx := fun _ S' => Q .non S', rt := fun d S' => Q d S' } (startF 5 fs) S := by
  obtain ⟨n, ps, gs, ms, rfl, g, hn, h1, h2, h3, q⟩ := h
  refine ⟨rfl, ?_⟩
  show w_without_pairs _ [some (graphF n ps), some (.lst (gs.map rowF)), some (.lst (ms.map rowF)), none, none] S
  have hl := gr_len2 g hn
  unfold w_without_pairs graphF tabF
  walk_at "nx"
  refine ⟨mil (by omega), ?_⟩
  refine compL_filterT rowF (fun r => !(gs.contains r)) rowF trivial ps _ (fun r hr A N hA hN => ?_) ?_
  · simp
    refine ⟨okF_row (by rw [gr_row g r hr]; decide), okF_rows (l := gs) (by omega) fun r hr => by rw [h3 r (List.mem_append.mpr (.inl hr))]; decide, ?_⟩
    have key : (∀ x : List Int, x ∈ gs → eqF (rowF x) (rowF r) = false) ↔ gs.contains r = false := by
      constructor
      · intro h
        rw [← Bool.not_eq_true, List.contains_iff_mem]
        intro hm
        have := h r hm
        rw [eqF_row, decide_eq_false_iff_not] at this
        exact this rfl
      · intro h x hx
        rw [eqF_row, decide_eq_false_iff_not]
        intro e
        rw [← Bool.not_eq_true, List.contains_iff_mem] at h
        exact h (by rw [← e]; exact hx)
    by_cases hc : gs.contains r = false
    · rw [if_pos (key.mpr hc)]
      exact hA (by rw [hc]; rfl)
    · rw [if_neg fun h => hc (key.mp h)]
      exact hN (by simpa using hc)
  rw [List.nil_append]
  have fl : (ps.filter fun r => !(gs.contains r)).length ≤ 576 := Nat.le_trans (List.length_filter_le ..) hl
  have fr : ∀ r ∈ (ps.filter fun r => !(gs.contains r)), r.length = 2 := fun r hr => gr_row g r (List.mem_filter.mp hr).1
  generalize (ps.filter fun r => !(gs.contains r)) = G at fl fr q
  try simp [-sSeq_ev, -compL_cons, -forL_cons]
  refine ⟨mil (n := G.length + ms.length) (by omega), ?_⟩
  rw [← List.map_append]
  refine cSortD_rows (rs := G ++ ms) rfl (fun r hr => ?_) ?_
  · have : r.length = 2 := by
      rcases List.mem_append.mp hr with h | h
      · exact fr r h
      · exact h3 r (List.mem_append.mpr (.inr h))
    exact ⟨fun e => (by rw [e] at this; simp at this), by omega⟩
  exact q
/-! switches -/
def isC (n : Nat) (x : Int) : Bool := decide (0 ≤ x ∧ x < n)
def isSw (n : Nat) (ps : Tb) : F → Bool
  | .tup [.int a, .int b, .int c, .int d] => isC n a && (isC n b && (isC n c && (isC n d && (decide ((dedup [a, b, c, d]).length = 4) && (adj ps a.toNat b.toNat && (adj ps c.toNat d.toNat && (!adj ps b.toNat c.toNat && !adj ps a.toNat d.toNat)))))))
  | _ => false
theorem four {xs : List F} (h : (xs.length : Int) = 4) : ∃ a b c d, xs = [a, b, c, d] := by
  match xs, h with
  | [a, b, c, d], _ => exact ⟨a, b, c, d, rfl⟩
  | [], h => simp at h
  | [_], h => simp at h
  | [_, _], h => simp at h
  | [_, _, _], h => simp at h
  | _ :: _ :: _ :: _ :: _ :: r, h => simp at h; omega
theorem dd4 {a b c d : Int} : (dedup [a, b, c, d]).length = 4 ↔ a ≠ b ∧ a ≠ c ∧ a ≠ d ∧ b ≠ c ∧ b ≠ d ∧ c ≠ d := by
  constructor
  · intro h
    have dn : ∀ l : List Int, (dedup l).length ≤ l.length := fun l => by
      induction l with
      | nil => exact Nat.le_refl _
      | cons x l ih => unfold dedup; split <;> (simp; omega)
    have key : ∀ l : List Int, (dedup l).length = l.length → l.Nodup := fun l => by
      induction l with
      | nil => exact fun _ => .nil
      | cons x l ih =>
        intro h
        have := dn l
        unfold dedup at h
        split at h
        · simp at h; omega
        · rename_i hx
          exact List.nodup_cons.mpr ⟨hx, ih (by simpa using h)⟩
    have := key [a, b, c, d] h
    simp at this
    omega
  · rintro ⟨h1, h2, h3, h4, h5, h6⟩
    simp [dedup, h1, h2, h3, h4, h5, h6]
theorem isSw_row {n : Nat} {ps : Tb} (g : GrOk n ps) {v : F} (h : isSw n ps v = true) : ∃ a b c d : Nat, v = rowF [(a : Int), (b : Int), (c : Int), (d : Int)] ∧ Sw n ps a b c d := by
  unfold isSw at h
  split at h
  · rename_i a b c d
    simp only [Bool.and_eq_true, isC, decide_eq_true_eq, dd4, Bool.not_eq_true'] at h
    obtain ⟨h1, h2, h3, h4, h5, h6, h7, h8, h9⟩ := h
    refine ⟨a.toNat, b.toNat, c.toNat, d.toNat, ?_, by omega, by omega, by omega, by omega, by omega, h6, h7, h8, h9⟩
    rw [show ((a.toNat : Nat) : Int) = a by omega, show ((b.toNat : Nat) : Int) = b by omega, show ((c.toNat : Nat) : Int) = c by omega, show ((d.toNat : Nat) : Int) = d by omega]
    rfl
  · cases h
theorem isSw_of {n : Nat} {ps : Tb} {a b c d : Nat} (s : Sw n ps a b c d) : isSw n ps (rowF [(a : Int), (b : Int), (c : Int), (d : Int)]) = true := by
  obtain ⟨n1, n2, n3, n4, n5, n6⟩ := s.nd
  show isSw n ps (.tup [.int a, .int b, .int c, .int d]) = true
  unfold isSw
  simp only [Bool.and_eq_true, isC, decide_eq_true_eq, dd4, Bool.not_eq_true']
  have := s.la
  have := s.lb
  have := s.lc
  have := s.ld
  exact ⟨by omega, by omega, by omega, by omega, by omega, s.ab, s.cd, s.bc, s.ad⟩
def C_is_switch : Ct := fun xs S Q => ∃ (n : Nat) (ps : Tb) (v : F), xs = [graphF n ps, v] ∧ GrOk n ps ∧ n ≤ 24 ∧ fz v = true ∧ Q (.bl (isSw n ps v)) S
theorem mono_C_is_switch : MonoC C_is_switch := fun xs S Q Q' k ⟨n, ps, v, e, h1, h2, h3, q⟩ => ⟨n, ps, v, e, h1, h2, h3, k _ _ q⟩
theorem isSw_n {n : Nat} {ps : Tb} {xs : List F} (h : (xs.length : Int) ≠ 4) : isSw n ps (.tup xs) = false := by
  cases e : isSw n ps (.tup xs) with
  | false => rfl
  | true =>
    unfold isSw at e
    split at e
    · rename_i h2
      injection h2 with h2
      rw [h2] at h
      exact absurd rfl h
    · cases e
theorem ints4 {n : Nat} {x1 x2 x3 x4 : F} (h : ([x1, x2, x3, x4].all fun x => isCount x 0 (n - 1)) = true) : ∃ a b c d : Nat, [x1, x2, x3, x4] = [.int a, .int b, .int c, .int d] ∧ a < n ∧ b < n ∧ c < n ∧ d < n := by
  obtain ⟨ns, e, hr⟩ := lines_true h
  match ns, e, hr with
  | [a, b, c, d], e, hr =>
    have ha := hr a (by simp)
    have hb := hr b (by simp)
    have hc := hr c (by simp)
    have hd := hr d (by simp)
    refine ⟨a.toNat, b.toNat, c.toNat, d.toNat, ?_, by omega, by omega, by omega, by omega⟩
    rw [e, show ((a.toNat : Nat) : Int) = a by omega, show ((b.toNat : Nat) : Int) = b by omega, show ((c.toNat : Nat) : Int) = c by omega, show ((d.toNat : Nat) : Int) = d by omega]
    rfl
  | [], e, _ => simp at e
  | [_], e, _ => simp at e
  | [_, _], e, _ => simp at e
  | [_, _, _], e, _ => simp at e
  | _ :: _ :: _ :: _ :: _ :: r, e, _ => simp at e
theorem isSw_nat {n : Nat} {ps : Tb} {a b c d : Nat} (la : a < n) (lb : b < n) (lc : c < n) (ld : d < n) : isSw n ps (.tup [.int a, .int b, .int c, .int d]) = (decide ((dedup [(a : Int), b, c, d]).length = 4) && (adj ps a b && (adj ps c d && (!adj ps b c && !adj ps a d)))) := by
  unfold isSw
  have t : ∀ x : Nat, x < n → isC n (x : Int) = true := fun x hx => decide_eq_true (by omega)
  dsimp only
  rw [t a la, t b lb, t c lc, t d ld]
  rfl
theorem isSw_no {n : Nat} {ps : Tb} {x1 x2 x3 x4 : F} (h : ([x1, x2, x3, x4].all fun x => isCount x 0 (n - 1)) = false) : isSw n ps (.tup [x1, x2, x3, x4]) = false := by
  cases e : isSw n ps (.tup [x1, x2, x3, x4]) with
  | false => rfl
  | true =>
    unfold isSw at e
    split at e
    · rename_i a b c d h2
      injection h2 with h2
      injection h2 with e1 h2
      injection h2 with e2 h2
      injection h2 with e3 h2
      injection h2 with e4 h2
      subst e1 e2 e3 e4
      simp only [Bool.and_eq_true, isC, decide_eq_true_eq] at e
      obtain ⟨h1, h2, h3, h4, _⟩ := e
      rw [← h, List.all_eq_true.mpr fun x hx => ?_]
      simp at hx
      rcases hx with rfl | rfl | rfl | rfl <;> (simp [isCount]; omega)
    · cases e
theorem sp_is_switch (fs : List F) (S : Sto) (Q) (h : C_is_switch fs S Q) : fs.length = 2 ∧ w_is_switch C_count C_has_pair { nx := fun _ S' => Q .non S', rt := fun d S' => Q d S' } (startF 7 fs) S := by
  obtain ⟨n, ps, v, rfl, g, hn, hv, q⟩ := h
  refine ⟨rfl, ?_⟩
  show w_is_switch _ _ _ [some (graphF n ps), some v, none, none, none, none, none] S
  unfold w_is_switch
  cases v with
  | tup xs =>
    obtain ⟨hxl, hz⟩ := fz_tup hv
    by_cases h : (xs.length : Int) = 4
    · obtain ⟨x1, x2, x3, x4, rfl⟩ := four h
      have ix0 : ∀ (S : Sto) (Q : F → Sto → Prop), oIx (graphF n ps) (.int 0) S Q = Q (.int n) S := fun S Q => by simp [graphF]
      walk_at "nx"
      refine compL_map (fun x => .bl (isCount x 0 (n - 1))) trivial [x1, x2, x3, x4] _ (fun x hx Q2 q2 => by simp [ix0]; exact call_count (fz_mem hz hx) q2) ?_
      rw [List.nil_append, all_bl, cAll_l, List.all_map]
      by_cases h1 : ([x1, x2, x3, x4].all fun x => isCount x 0 (n - 1)) = true
      · have h1' : ([x1, x2, x3, x4].all (id ∘ fun x => isCount x 0 ((n : Int) - 1))) = true := h1
        rw [h1']
        obtain ⟨a, b, c, d, e, la, lb, lc, ld⟩ := ints4 h1
        injection e with e1 e
        injection e with e2 e
        injection e with e3 e
        injection e with e4 e
        subst e1 e2 e3 e4
        rw [isSw_nat la lb lc ld] at q
        simp [-sSeq_ev, -compL_cons, -forL_cons]
        walk_at "nx"
        walk_at "nx"
        refine ⟨[(a : Int), b, c, d], rfl, by simp, ?_⟩
        by_cases c4 : (dedup [(a : Int), b, c, d]).length = 4
        · rw [decide_eq_true c4, Bool.true_and] at q
          simp [c4]
          refine ⟨n, ps, a, b, rfl, g, hn, ?_⟩
          cases e1 : adj ps a b with
          | false => rw [e1] at q; simp; exact q
          | true =>
            rw [e1] at q
            simp
            refine ⟨n, ps, c, d, rfl, g, hn, ?_⟩
            cases e2 : adj ps c d with
            | false => rw [e2] at q; simp; exact q
            | true =>
              rw [e2] at q
              simp
              refine ⟨n, ps, b, c, rfl, g, hn, ?_⟩
              cases e3 : adj ps b c with
              | true => rw [e3] at q; simp; exact q
              | false =>
                rw [e3] at q
                simp
                refine ⟨n, ps, a, d, rfl, g, hn, ?_⟩
                simpa using q
        · rw [decide_eq_false c4] at q
          rw [if_neg (by omega)]
          exact q
      · have h1' : ([x1, x2, x3, x4].all (id ∘ fun x => isCount x 0 ((n : Int) - 1))) = false := by simpa using h1
        rw [h1']
        rw [isSw_no (by simpa using h1)] at q
        simpa using q
    · rw [isSw_n h] at q
      walk_at "nx"
      simpa [h] using q
  | _ => rw [sSeq_ev]; simpa [-sSeq_ev, isiOk_fz hv, isSw] using q
theorem sp_law_is_switch (fs : List F) (S : Sto) (Q) (h : C_is_switch fs S Q) : fs.length = 2 ∧ w__law_is_switch C_has_pair { nx := fun _ S' => Q .non S', rt := fun d S' => Q d S' } (startF 7 fs) S := by
  obtain ⟨n, ps, v, rfl, g, hn, hv, q⟩ := h
  refine ⟨rfl, ?_⟩
  show w__law_is_switch _ _ [some (graphF n ps), some v, none, none, none, none, none] S
  unfold w__law_is_switch
  cases v with
  | tup xs =>
    obtain ⟨hxl, hz⟩ := fz_tup hv
    by_cases h : (xs.length : Int) = 4
    · obtain ⟨x1, x2, x3, x4, rfl⟩ := four h
      have ix0 : ∀ (S : Sto) (Q : F → Sto → Prop), oIx (graphF n ps) (.int 0) S Q = Q (.int n) S := fun S Q => by simp [graphF]
      walk_at "nx"
      walk_at "nx"
      refine compL_map (fun x => .bl (isCount x 0 (n - 1))) trivial [x1, x2, x3, x4] _ (fun x hx Q2 q2 => ?_) ?_
      · have hfx := fz_mem hz hx
        cases x with
        | int i =>
          simp [ix0]
          have e : isCount (.int i) 0 ((n : Int) - 1) = (decide (0 ≤ i) && decide (i < n)) := by
            rw [Bool.eq_iff_iff]
            simp [isCount]
            omega
          rw [e] at q2
          by_cases c : 0 ≤ i
          · rw [if_pos c]
            rw [decide_eq_true c, Bool.true_and] at q2
            exact q2
          · rw [if_neg c]
            rw [decide_eq_false c] at q2
            exact q2
        | _ => simpa [isiOk_fz hfx, isCount] using q2
      rw [List.nil_append, all_bl, cAll_l, List.all_map]
      by_cases h1 : ([x1, x2, x3, x4].all fun x => isCount x 0 (n - 1)) = true
      · have h1' : ([x1, x2, x3, x4].all (id ∘ fun x => isCount x 0 ((n : Int) - 1))) = true := h1
        rw [h1']
        obtain ⟨a, b, c, d, e, la, lb, lc, ld⟩ := ints4 h1
        injection e with e1 e
        injection e with e2 e
        injection e with e3 e
        injection e with e4 e
        subst e1 e2 e3 e4
        rw [isSw_nat la lb lc ld] at q
        simp [-sSeq_ev, -compL_cons, -forL_cons]
        walk_at "nx"
        refine ⟨[(a : Int), b, c, d], rfl, by simp, ?_⟩
        by_cases c4 : (dedup [(a : Int), b, c, d]).length = 4
        · rw [decide_eq_true c4, Bool.true_and] at q
          simp [c4]
          refine ⟨n, ps, a, b, rfl, g, hn, ?_⟩
          cases e1 : adj ps a b with
          | false => rw [e1] at q; simp; exact q
          | true =>
            rw [e1] at q
            simp
            refine ⟨n, ps, c, d, rfl, g, hn, ?_⟩
            cases e2 : adj ps c d with
            | false => rw [e2] at q; simp; exact q
            | true =>
              rw [e2] at q
              simp
              refine ⟨n, ps, b, c, rfl, g, hn, ?_⟩
              cases e3 : adj ps b c with
              | true => rw [e3] at q; simp; exact q
              | false =>
                rw [e3] at q
                simp
                refine ⟨n, ps, a, d, rfl, g, hn, ?_⟩
                simpa using q
        · rw [decide_eq_false c4] at q
          rw [if_neg (by omega)]
          exact q
      · have h1' : ([x1, x2, x3, x4].all (id ∘ fun x => isCount x 0 ((n : Int) - 1))) = false := by simpa using h1
        rw [h1']
        rw [isSw_no (by simpa using h1)] at q
        simpa using q
    · rw [isSw_n h] at q
      walk_at "nx"
      simpa [h] using q
  | _ => rw [sSeq_ev]; simpa [-sSeq_ev, isiOk_fz hv, isSw] using q
def C_switched : Ct := fun xs S Q => ∃ (n : Nat) (ps : Tb) (a b c d : Nat), xs = [graphF n ps, rowF [(a : Int), (b : Int), (c : Int), (d : Int)]] ∧ GrOk n ps ∧ n ≤ 24 ∧ Sw n ps a b c d ∧ Q (graphF n (behind ps a b c d)) S
theorem mono_C_switched : MonoC C_switched := fun xs S Q Q' k ⟨n, ps, a, b, c, d, e, h1, h2, h3, q⟩ => ⟨n, ps, a, b, c, d, e, h1, h2, h3, k _ _ q⟩
theorem sp_switched (fs : List F) (S : Sto) (Q) (h : C_switched fs S Q) : fs.length = 2 ∧ w_switched C_without_pairs C_pair_of { nx := fun _ S' => Q .non S', rt := fun d S' => Q d S' } (startF 6 fs) S := by
  obtain ⟨n, ps, a, b, c, d, rfl, g, hn, s, q⟩ := h
  refine ⟨rfl, ?_⟩
  show w_switched _ _ _ [some (graphF n ps), some (.tup [.int a, .int b, .int c, .int d]), none, none, none, none] S
  unfold w_switched
  walk_at "nx"
  refine ⟨a, b, rfl, ?_⟩
  try simp [-sSeq_ev, -compL_cons, -forL_cons]
  refine ⟨c, d, rfl, ?_⟩
  try simp [-sSeq_ev, -compL_cons, -forL_cons]
  refine ⟨b, c, rfl, ?_⟩
  try simp [-sSeq_ev, -compL_cons, -forL_cons]
  refine ⟨a, d, rfl, ?_⟩
  try simp [-sSeq_ev, -compL_cons, -forL_cons]
  exact ⟨n, ps, [pr a b, pr c d], [pr b c, pr a d], rfl, g, hn, by simp, by simp, fun r hr => by simp at hr; rcases hr with rfl | rfl | rfl | rfl <;> exact pr_len _ _, q⟩
theorem sp_behind (fs : List F) (S : Sto) (Q) (h : C_switched fs S Q) : fs.length = 2 ∧ w__law_behind { nx := fun _ S' => Q .non S', rt := fun d S' => Q d S' } (startF 9 fs) S := by
  obtain ⟨n, ps, a, b, c, d, rfl, g, hn, s, q⟩ := h
  refine ⟨rfl, ?_⟩
  show w__law_behind _ [some (graphF n ps), some (.tup [.int a, .int b, .int c, .int d]), none, none, none, none, none, none, none] S
  have hl := gr_len2 g hn
  unfold w__law_behind graphF tabF
  walk_at "nx"
  walk_at "nx"
  simp only [mm_row]
  walk_at "nx"
  refine ⟨mil (by omega), ?_⟩
  refine compL_filterT rowF (fun r => !([pr a b, pr c d].contains r)) rowF trivial ps _ (fun r hr A N hA hN => ?_) ?_
  · rw [show [rowF (pr a b), rowF (pr c d)] = [pr a b, pr c d].map rowF from rfl]
    have hp : ∀ r ∈ [pr a b, pr c d], r.length = 2 := fun r hr => by simp at hr; rcases hr with rfl | rfl <;> exact pr_len _ _
    have hp1 : [pr a b, pr c d].length ≤ 10 := by simp
    generalize [pr a b, pr c d] = gs at hA hN hp hp1
    simp
    refine ⟨okF_row (by rw [gr_row g r hr]; decide), okF_rows (l := gs) (by omega) fun r hr => by rw [hp r hr]; decide, ?_⟩
    by_cases hc : gs.contains r = false
    · rw [if_pos (out_key.mpr hc)]
      exact hA (by rw [hc]; rfl)
    · rw [if_neg fun h => hc (out_key.mp h)]
      exact hN (by simpa using hc)
  have fl : (ps.filter fun r => !([pr a b, pr c d].contains r)).length ≤ 576 := Nat.le_trans (List.length_filter_le ..) hl
  have fr : ∀ r ∈ (ps.filter fun r => !([pr a b, pr c d].contains r)), r.length = 2 := fun r hr => gr_row g r (List.mem_filter.mp hr).1
  unfold behind at q
  generalize (ps.filter fun r => !([pr a b, pr c d].contains r)) = G at fl fr q
  rw [List.nil_append, List.length_map]
  refine ⟨mil (n := G.length + 2) (by omega), ?_⟩
  simp only [mm_row]
  rw [show [rowF (pr b c), rowF (pr a d)] = [pr b c, pr a d].map rowF from rfl, ← List.map_append]
  refine cSortD_rows (rs := G ++ [pr b c, pr a d]) rfl (fun r hr => ?_) ?_
  · have : r.length = 2 := by
      rcases List.mem_append.mp hr with h | h
      · exact fr r h
      · simp at h; rcases h with rfl | rfl <;> exact pr_len _ _
    exact ⟨fun e => (by rw [e] at this; simp at this), by omega⟩
  exact q
end DL.K28

set_option maxHeartbeats 4000000
namespace DL.K28
open PySem PySem.Spec PyProof.Rows L2 DL RSeq
local macro_rules | `(tactic| walk_at "nx") => `(tactic| ((try dsimp only); rw [sSeq_ev]; (try simp [-sSeq_ev, -compL_cons, -forL_cons])))
/-! neighbours -/
def contr (r : List Int) (k : Nat) : List Int := match r with
  | [a, b] => if a = (k : Int) then [b] else if b = (k : Int) then [a] else []
  | _ => []
def accN (ps : Tb) (k : Nat) : List Int := ps.flatMap fun r => contr r k
theorem accN_snoc (ps : Tb) (r : List Int) (k : Nat) : accN (ps ++ [r]) k = accN ps k ++ contr r k := by
  unfold accN
  rw [List.flatMap_append]
  simp
theorem contr_pr {i j : Nat} (h : i < j) (k : Nat) : contr (pr i j) k = if i = k then [(j : Int)] else if j = k then [(i : Int)] else [] := by
  rw [pr_lt h]
  unfold contr
  dsimp only
  by_cases a : i = k
  · rw [if_pos a, if_pos (by omega)]
  · rw [if_neg a, if_neg (by omega)]
    by_cases b : j = k
    · rw [if_pos b, if_pos (by omega)]
    · rw [if_neg b, if_neg (by omega)]
theorem accN_mem {n : Nat} {ps : Tb} (h : ∀ r ∈ ps, ∃ i j : Nat, i < j ∧ j < n ∧ r = pr i j) {k : Nat} {x : Int} : x ∈ accN ps k ↔ ∃ m : Nat, x = m ∧ m ≠ k ∧ pr k m ∈ ps := by
  unfold accN
  rw [List.mem_flatMap]
  constructor
  · rintro ⟨r, hr, hx⟩
    obtain ⟨i, j, h1, h2, e⟩ := h r hr
    subst e
    rw [contr_pr h1] at hx
    by_cases a : i = k
    · rw [if_pos a] at hx
      exact ⟨j, List.mem_singleton.mp hx, by omega, by rw [← a]; exact hr⟩
    · rw [if_neg a] at hx
      by_cases b : j = k
      · rw [if_pos b] at hx
        exact ⟨i, List.mem_singleton.mp hx, by omega, by rw [pr_comm, ← b]; exact hr⟩
      · rw [if_neg b] at hx
        exact absurd hx List.not_mem_nil
  · rintro ⟨m, rfl, hm, hr⟩
    refine ⟨pr k m, hr, ?_⟩
    by_cases c : k < m
    · rw [contr_pr c, if_pos rfl]
      exact List.mem_singleton.mpr rfl
    · rw [pr_comm, contr_pr (show m < k by omega), if_neg hm, if_pos rfl]
      exact List.mem_singleton.mpr rfl
theorem accN_nodup {n : Nat} : ∀ {ps : Tb}, (∀ r ∈ ps, ∃ i j : Nat, i < j ∧ j < n ∧ r = pr i j) → ps.Nodup → ∀ k, (accN ps k).Nodup
  | [], _, _, _ => .nil
  | r :: ps, h, hn, k => by
    obtain ⟨h1, h2⟩ := List.nodup_cons.mp hn
    have hp : ∀ r ∈ ps, ∃ i j : Nat, i < j ∧ j < n ∧ r = pr i j := fun r hr => h r (List.mem_cons_of_mem _ hr)
    have ih := accN_nodup hp h2 k
    obtain ⟨i, j, a1, a2, e⟩ := h r (List.mem_cons_self ..)
    show (contr r k ++ accN ps k).Nodup
    rw [e, contr_pr a1]
    by_cases a : i = k
    · rw [if_pos a]
      refine List.nodup_cons.mpr ⟨fun hm => ?_, ih⟩
      obtain ⟨m, e2, _, hr⟩ := (accN_mem hp).mp hm
      exact h1 (by rw [e, a, show j = m by omega]; exact hr)
    · rw [if_neg a]
      by_cases b : j = k
      · rw [if_pos b]
        refine List.nodup_cons.mpr ⟨fun hm => ?_, ih⟩
        obtain ⟨m, e2, _, hr⟩ := (accN_mem hp).mp hm
        exact h1 (by rw [e, pr_comm, b, show i = m by omega]; exact hr)
      · rw [if_neg b]
        exact ih
def nbI (n : Nat) (ps : Tb) (i : Nat) : List Int := (nbN n ps i).map fun j : Nat => (j : Int)
theorem nb_perm {n : Nat} {ps : Tb} (g : GrOk n ps) (k : Nat) : (accN ps k).Perm (nbI n ps k) := by
  have nd2 : (nbI n ps k).Nodup := List.Pairwise.map _ (fun a b h e => h (by omega)) (List.nodup_range.filter _)
  rw [List.perm_ext_iff_of_nodup (accN_nodup g.row g.nd k) nd2]
  intro x
  rw [accN_mem g.row]
  unfold nbI nbN
  rw [List.mem_map]
  constructor
  · rintro ⟨m, rfl, hm, hr⟩
    have ha : adj ps k m = true := adj_iff.mpr hr
    exact ⟨m, List.mem_filter.mpr ⟨List.mem_range.mpr (adj_lt g ha).2, ha⟩, rfl⟩
  · rintro ⟨m, hm, rfl⟩
    have ha := (List.mem_filter.mp hm).2
    refine ⟨m, rfl, fun e => ?_, adj_iff.mp ha⟩
    rw [e, adj_self g] at ha
    cases ha
theorem nb_le (n : Nat) (ps : Tb) (k : Nat) : (nbI n ps k).Pairwise (· ≤ ·) := List.Pairwise.map _ (fun a b h => by omega) ((List.pairwise_lt_range (n := n)).filter _)
theorem nb_len (n : Nat) (ps : Tb) (k : Nat) : (nbI n ps k).length ≤ n := by
  unfold nbI nbN
  rw [List.length_map]
  refine Nat.le_trans (List.length_filter_le ..) ?_
  rw [List.length_range]
  exact Nat.le_refl _
def C_neighbours : Ct := fun xs S Q => ∃ (n : Nat) (ps : Tb), xs = [graphF n ps] ∧ GrOk n ps ∧ n ≤ 24 ∧ Q (.lst ((List.range n).map fun i => .lst ((nbI n ps i).map F.int))) S
theorem mono_C_neighbours : MonoC C_neighbours := fun xs S Q Q' k ⟨n, ps, e, h1, h2, q⟩ => ⟨n, ps, e, h1, h2, k _ _ q⟩
theorem sp_neighbours (fs : List F) (S : Sto) (Q) (h : C_neighbours fs S Q) : fs.length = 1 ∧ w_neighbours { nx := fun _ S' => Q .non (restr S S'), rt := fun d S' => Q d (restr S S') } (startF 6 fs) S := by
  obtain ⟨n, ps, rfl, g, hn, q⟩ := h
  refine ⟨rfl, ?_⟩
  show w_neighbours _ [some (graphF n ps), none, none, none, none, none] S
  have hl := gr_len2 g hn
  unfold w_neighbours graphF tabF
  walk_at "nx"
  refine ⟨by omega, mil (by omega), ?_⟩
  refine compL_inv (fun acc S' => (∀ a, (S a).isSome = true → S' a = S a) ∧ ∃ as : List Addr, acc = as.map F.loc ∧ as.Nodup ∧ ∀ a ∈ as, S a = none ∧ S' a = some []) _ _ _ (fun _ _ _ => trivial) (fun x hx acc S' Q2 ⟨k1, as, ea, nd, ha⟩ k2 => ?_) ⟨fun _ _ => rfl, [], rfl, .nil, fun a h => absurd h List.not_mem_nil⟩ (fun acc S' ⟨k1, as, ea, nd, ha⟩ hlen => ?_)
  · simp
    intro p hp
    have hpS : S p = none := by
      cases e : S p with
      | none => rfl
      | some l =>
        have := k1 p (by rw [e]; rfl)
        rw [hp, e] at this
        cases this
    have hpa : p ∉ as := fun h => by
      have := (ha p h).2
      rw [hp] at this
      cases this
    refine k2 _ _ ⟨fun a h => ?_, as ++ [p], by rw [ea, List.map_append]; rfl, ?_, fun a h => ?_⟩
    · rw [updS_ne fun e => by rw [e, hpS] at h; cases h]
      exact k1 a h
    · exact List.nodup_append.mpr ⟨nd, List.nodup_cons.mpr ⟨List.not_mem_nil, .nil⟩, fun a h1 b h2 => by rw [List.mem_singleton.mp h2]; exact fun e => hpa (by rw [← e]; exact h1)⟩
    · rcases List.mem_append.mp h with h | h
      · obtain ⟨h1, h2⟩ := ha a h
        exact ⟨h1, by rw [updS_ne fun e => hpa (by rw [← e]; exact h)]; exact h2⟩
      · rw [List.mem_singleton.mp h]
        exact ⟨hpS, updS_same⟩
  subst ea
  have hal : as.length = n := by simpa using hlen
  intro p hp
  have hpS : S p = none := by
    cases e : S p with
    | none => rfl
    | some l =>
      have := k1 p (by rw [e]; rfl)
      rw [hp, e] at this
      cases this
  have hpa : p ∉ as := fun h => by
    have := (ha p h).2
    rw [hp] at this
    cases this
  walk_at "nx"
  refine forL_list rowF ps (fun ys ρ S2 => (∀ a, (S a).isSome = true → S2 a = S a) ∧ S2 p = some (as.map F.loc) ∧ (∀ k : Nat, (h : k < as.length) → S2 as[k] = some ((accN ys k).map F.int)) ∧ ∃ o2 o3 : Option F, ρ = [some (.tup [.int n, .tup (ps.map rowF)]), some (.loc p), o2, o3, none, none])
    ⟨fun a h => by rw [updS_ne fun e => by rw [e, hpS] at h; cases h]; exact k1 a h, updS_same, fun k h => by rw [updS_ne fun e => hpa (by rw [← e]; exact List.getElem_mem h)]; exact (ha _ (List.getElem_mem h)).2, _, _, rfl⟩ (fun _ _ _ _ => trivial)
    (fun ys r zs hx ρ S2 N ⟨b1, b2, b3, o2, o3, eρ⟩ hN => ?_) (fun ρ S2 ⟨b1, b2, b3, o2, o3, eρ⟩ => ?_)
  · subst eρ
    obtain ⟨i, j, h1, h2, e⟩ := g.row r (by rw [hx]; simp)
    have ysl : ys.length + 1 ≤ 576 := by
      have := congrArg List.length hx
      rw [List.length_append, List.length_cons] at this
      omega
    have al : ∀ k, (accN ys k).length ≤ 576 := fun k => by
      have : ∀ l : Tb, (accN l k).length ≤ l.length := fun l => by
        induction l with
        | nil => exact Nat.le_refl _
        | cons r l ih =>
          show (contr r k ++ accN l k).length ≤ _
          rw [List.length_append, List.length_cons]
          have : (contr r k).length ≤ 1 := by
            unfold contr
            split
            · split
              · exact Nat.le_refl _
              · split <;> simp
            · simp
          omega
      have := this ys
      omega
    have gi : atI (as.map F.loc) (i : Int) = some (.loc as[i]) := by rw [atI_cast, List.getElem?_map, List.getElem?_eq_getElem (show i < as.length by omega)]; rfl
    have gj : atI (as.map F.loc) (j : Int) = some (.loc as[j]) := by rw [atI_cast, List.getElem?_map, List.getElem?_eq_getElem (show j < as.length by omega)]; rfl
    have nij : as[i] ≠ as[j] := List.pairwise_iff_getElem.mp nd i j (by omega) (by omega) h1
    have npi : p ≠ as[i] := fun e => hpa (by rw [e]; exact List.getElem_mem _)
    have npj : p ≠ as[j] := fun e => hpa (by rw [e]; exact List.getElem_mem _)
    have ei := b3 i (by omega)
    have ej := b3 j (by omega)
    rw [e, pr_lt h1]
    simp [rowF, -sSeq_ev, -compL_cons, -forL_cons]
    walk_at "nx"
    simp [b2, gi, ei]
    refine ⟨Nat.lt_of_le_of_lt (al i) (Nat.lt_of_lt_of_le (show 576 < 1000 by decide) (mil (by decide))), ?_⟩
    simp [updS_ne npi, b2, gj, updS_ne (Ne.symm nij), ej]
    refine ⟨Nat.lt_of_le_of_lt (al j) (Nat.lt_of_lt_of_le (show 576 < 1000 by decide) (mil (by decide))), ?_⟩
    refine hN _ _ ⟨fun a ha' => ?_, by rw [updS_ne npj, updS_ne npi]; exact b2, fun k hk => ?_, _, _, rfl⟩
    · have q1 : a ≠ as[i] := fun e => by
        have := (ha as[i] (List.getElem_mem _)).1
        rw [e, this] at ha'
        cases ha'
      have q2 : a ≠ as[j] := fun e => by
        have := (ha as[j] (List.getElem_mem _)).1
        rw [e, this] at ha'
        cases ha'
      rw [updS_ne q2, updS_ne q1]
      exact b1 a ha'
    · rw [accN_snoc, e, contr_pr h1]
      have inj : ∀ k l : Nat, (hk : k < as.length) → (hl : l < as.length) → k ≠ l → as[k] ≠ as[l] := fun k l hk hl hkl e => by
        rcases Nat.lt_or_gt_of_ne hkl with h | h
        · exact List.pairwise_iff_getElem.mp nd k l hk hl h e
        · exact List.pairwise_iff_getElem.mp nd l k hl hk h e.symm
      by_cases c1 : i = k
      · subst c1
        rw [if_pos rfl, updS_ne nij, updS_same, List.map_append]
        rfl
      · rw [if_neg c1]
        by_cases c2 : j = k
        · subst c2
          rw [if_pos rfl, updS_same, List.map_append]
          rfl
        · rw [if_neg c2, updS_ne (inj k j hk (by omega) (by omega)), updS_ne (inj k i hk (by omega) (by omega)), List.append_nil]
          exact b3 k hk
  · subst eρ
    simp [onIt, itOf, b2, -compL_cons]
    refine ⟨mil (by omega), ?_⟩
    have eas : as.map F.loc = (List.range n).map fun k => F.loc (as.getD k p) := by
      refine List.ext_getElem (by simp [hal]) fun k g1 g2 => ?_
      have hk : k < as.length := by simpa using g1
      simp [List.getD_eq_getElem?_getD, hk]
    have rs : restr S S2 = S := restr_eq b1
    have key : ∀ o : Option F, compL (fun S => S p = some (as.map F.loc)) (gN 5) wYes (wFrz (wCall cSorted (wCons (wVar 5) wNil))) [some (F.tup [F.int n, F.tup (ps.map rowF)]), some (F.loc p), o2, o3, none, o] ((List.range n).map fun k => F.loc (as.getD k p)) [] S2 fun xs S1 => Q (F.lst xs) (restr S S1) := fun o => by
      refine compL_mapT (fun k => F.loc (as.getD k p)) (fun k => .lst ((nbI n ps k).map F.int)) b2 (List.range n) _ (fun k hk Q2 q2 => ?_) ?_
      · have hk := List.mem_range.mp hk
        have e1 : as.getD k p = as[k]'(by omega) := by rw [List.getD_eq_getElem?_getD, List.getElem?_eq_getElem (show k < as.length by omega)]; rfl
        have e2 := b3 k (by omega)
        rw [e1]
        simp
        unfold cSorted
        simp [e2]
        refine ⟨accN ps k, rfl, fun ms m1 m2 => ?_⟩
        have : ms = nbI n ps k := srt_uniq (le := fun a b : Int => a ≤ b) (fun _ _ => Int.le_antisymm) (m1.trans (nb_perm g k)) m2 (nb_le n ps k)
        rw [this]
        exact q2
      · rw [List.nil_append, rs]
        exact q
    rw [← eas] at key
    exact key _
end DL.K28

set_option maxHeartbeats 4000000
namespace DL.K28
open PySem PySem.Spec PyProof.Rows L2 DL RSeq
local macro_rules | `(tactic| walk_at "nx") => `(tactic| ((try dsimp only); rw [sSeq_ev]; (try simp [-sSeq_ev, -compL_cons, -forL_cons])))
/-! a switch that mends -/
def C_mending : Ct := fun xs S Q => ∃ (n : Nat) (ps : Tb) (p a b : Nat), xs = [graphF n ps, .int p, .int a, .int b] ∧ GrOk n ps ∧ n ≤ 24 ∧ a < n ∧ b < n ∧ Q (match freeL n ps p a b with | c :: _ => rowF [(p : Int), (a : Int), (c : Int), (b : Int)] | [] => .non) S
theorem mono_C_mending : MonoC C_mending := fun xs S Q Q' k ⟨n, ps, p, a, b, e, h1, h2, h3, h4, q⟩ => ⟨n, ps, p, a, b, e, h1, h2, h3, h4, k _ _ q⟩
theorem nb_at {n i : Nat} {ps : Tb} (h : i < n) : atI (List.map (fun i => F.lst (List.map F.int (nbI n ps i))) (List.range n)) (i : Int) = some (.lst ((nbI n ps i).map F.int)) := by
  rw [atI_cast, List.getElem?_map, List.getElem?_range h]; rfl
theorem nbI_map (n : Nat) (ps : Tb) (b : Nat) : (nbI n ps b).map F.int = (nbN n ps b).map fun j : Nat => F.int (j : Int) := by
  unfold nbI; rw [List.map_map]; rfl
theorem nbI_mem {n i j : Nat} {ps : Tb} (g : GrOk n ps) : (j : Int) ∈ nbI n ps i ↔ adj ps i j = true := by
  unfold nbI nbN
  rw [List.mem_map]
  constructor
  · rintro ⟨m, hm, e⟩
    have : m = j := by omega
    subst this
    exact (List.mem_filter.mp hm).2
  · intro h
    exact ⟨j, List.mem_filter.mpr ⟨List.mem_range.mpr (adj_lt g h).2, h⟩, rfl⟩
theorem sp_mending (fs : List F) (S : Sto) (Q) (h : C_mending fs S Q) : fs.length = 4 ∧ w_mending_switch C_neighbours { nx := fun _ S' => Q .non S', rt := fun d S' => Q d S' } (startF 7 fs) S := by
  obtain ⟨n, ps, p, a, b, rfl, g, hn, ha, hb, q⟩ := h
  refine ⟨rfl, ?_⟩
  show w_mending_switch _ _ [some (graphF n ps), some (.int p), some (.int a), some (.int b), none, none, none] S
  have la := nb_len n ps a
  have lb := nb_len n ps b
  unfold w_mending_switch
  walk_at "nx"
  refine ⟨n, ps, rfl, g, hn, ?_⟩
  walk_at "nx"
  rw [nb_at hb]
  simp only [onIt_lst]
  refine ⟨by rw [List.length_map]; exact mil (by omega), ?_⟩
  rw [nbI_map n ps b]
  refine compL_filterT (fun j : Nat => F.int (j : Int)) (fun c => decide (p < c) && (!decide (c = a ∨ c = b) && !adj ps a c)) (fun j : Nat => F.int (j : Int)) trivial _ _ (fun c hc A N hA hN => ?_) ?_
  · simp [nb_at ha]
    have adjI : (∀ x : Int, x ∈ nbI n ps a → ¬ x = (c : Int)) ↔ adj ps a c = false := by
      rw [← Bool.not_eq_true, ← nbI_mem g (i := a) (j := c)]
      exact ⟨fun h hm => h _ hm rfl, fun h x hx e => h (by rw [← e]; exact hx)⟩
    by_cases c1 : p < c
    · rw [decide_eq_true c1, Bool.true_and] at hA hN
      rw [if_pos c1]
      refine ⟨okF_row (r := [(a : Int), (b : Int)]) (by simp), ?_⟩
      by_cases c2 : c = a ∨ c = b
      · rw [decide_eq_true c2] at hN
        rw [if_neg (by omega)]
        exact hN rfl
      · rw [decide_eq_false c2] at hA hN
        rw [if_pos (by omega)]
        refine ⟨okF_row (r := nbI n ps a) (by omega), ?_⟩
        by_cases c3 : adj ps a c = false
        · rw [if_pos (adjI.mpr c3)]
          exact hA (by rw [c3]; rfl)
        · rw [if_neg fun h => c3 (adjI.mp h)]
          exact hN (by simpa using c3)
    · rw [decide_eq_false c1] at hN
      rw [if_neg c1]
      exact hN rfl
  change Q (match (nbN n ps b).filter (fun c => decide (p < c) && (!decide (c = a ∨ c = b) && !adj ps a c)) with | c :: _ => rowF [(p : Int), (a : Int), (c : Int), (b : Int)] | [] => .non) S at q
  generalize (nbN n ps b).filter (fun c => decide (p < c) && (!decide (c = a ∨ c = b) && !adj ps a c)) = L at q
  cases L with
  | nil => simpa using q
  | cons c L => simpa [rowF] using q
end DL.K28

set_option maxHeartbeats 4000000
namespace DL.K28
open PySem PySem.Spec PyProof.Rows L2 DL RSeq
local macro_rules | `(tactic| walk_at "nx") => `(tactic| ((try dsimp only); rw [sSeq_ev]; (try simp [-sSeq_ev, -compL_cons, -forL_cons])))
def C_switches_between : Ct := fun xs S Q => ∃ (n : Nat) (ps qs : Tb), xs = [graphF n ps, graphF n qs] ∧ GrOk n ps ∧ GrOk n qs ∧ n ≤ 24 ∧ (∀ i, dg n ps i = dg n qs i) ∧ ∀ rs : Tb, leadsTo n ps rs qs → rs.length ≤ ps.length → (ps = qs → rs = []) → Q (.tup (rs.map rowF)) S
theorem mono_C_switches_between : MonoC C_switches_between := fun xs S Q Q' k ⟨n, ps, qs, e, h1, h2, h3, h4, q⟩ => ⟨n, ps, qs, e, h1, h2, h3, h4, fun rs a b c => k _ _ (q rs a b c)⟩
theorem sumR_up {f : Nat → Int} (h : ∀ i, 0 ≤ f i) : ∀ {m n : Nat}, m ≤ n → sumR m f ≤ sumR n f := fun {m n} hm => by
  obtain ⟨k, rfl⟩ := Nat.le.dest hm
  clear hm
  induction k with
  | zero => exact Int.le_refl _
  | succ k ih =>
    rw [← Nat.add_assoc, sumR_succ]
    have := h (m + k)
    omega
theorem lt_nn (n : Nat) (ps : Tb) (i : Nat) : 0 ≤ lt n ps i := sumR_nonneg fun j _ => by
  split
  · cases adj ps i j <;> decide
  · exact Int.le_refl _
structure SwSt (S : Sto) (a2 a3 : Addr) (n : Nat) (p0 q0 : Tb) (p k : Nat) (ps qs A B : Tb) (S' : Sto) : Prop where
  c : Core n p0 q0 p ps qs A B
  e2 : S' a2 = some (A.map rowF)
  e3 : S' a3 = some (B.map rowF)
  ot : ∀ a, a ≠ a2 → a ≠ a3 → S' a = S a
theorem sumR_len {n p : Nat} {ps : Tb} (g : GrOk n ps) (hn : n ≤ 24) (hp : p ≤ n) : sumR p (lt n ps) ≤ 576 := by
  have h := sumR_up (lt_nn n ps) hp
  have t := total g.row g.nd
  have := gr_len2 g hn
  omega
theorem sp_switches_between (fs : List F) (S : Sto) (Q) (h : C_switches_between fs S Q) : fs.length = 2 ∧ w_switches_between C_has_pair C_neighbours C_switched C_mending { nx := fun _ S' => Q .non (restr S S'), rt := fun d S' => Q d (restr S S') } (startF 13 fs) S := by
  obtain ⟨n, p0, q0, rfl, g0, k0, hn, hd, q⟩ := h
  refine ⟨rfl, ?_⟩
  show w_switches_between _ _ _ _ _ [some (graphF n p0), some (graphF n q0), none, none, none, none, none, none, none, none, none, none, none] S
  have ix0 : ∀ (ps : Tb) (S : Sto) (Q : F → Sto → Prop), oIx (graphF n ps) (.int 0) S Q = Q (.int n) S := fun ps S Q => by simp [graphF]
  unfold w_switches_between
  walk_at "nx"
  intro a2 h2 a3 h3
  walk_at "nx"
  rw [ix0]
  have n23 : a3 ≠ a2 := fun e => by rw [e, updS_same] at h3; cases h3
  have h3' : S a3 = none := by rw [updS_ne n23] at h3; exact h3
  dsimp only
  refine ⟨by omega, ?_⟩
  rw [show ((n : Int).toNat) = n by omega]
  refine forL_rng (fun p ρ S' => ∃ (ps qs A B : Tb), SwSt S a2 a3 n p0 q0 p 0 ps qs A B S' ∧ (A.length : Int) + B.length ≤ sumR p (lt n ps) ∧ ∃ o4 o5 o6 o7 o8 o9 o10 o11 o12 : Option F, ρ = [some (graphF n ps), some (graphF n qs), some (.loc a2), some (.loc a3), o4, o5, o6, o7, o8, o9, o10, o11, o12])
    ⟨p0, q0, [], [], ⟨⟨g0, k0, fun i j h => absurd h (Nat.not_lt_zero _), hd, rfl, ⟨[], rfl, rfl⟩, fun e => ⟨e, rfl, rfl⟩⟩, by rw [updS_ne (Ne.symm n23), updS_same]; rfl, updS_same, fun a x y => by rw [updS_ne y, updS_ne x]⟩, Int.le_refl _, _, _, _, _, _, _, _, _, _, rfl⟩
    (fun _ _ _ _ => trivial) (fun p hp ρ S' N ⟨ps, qs, A, B, st, le, o4, o5, o6, o7, o8, o9, o10, o11, o12, eρ⟩ hN => ?_) (fun ρ S' ⟨ps, qs, A, B, st, le, o4, o5, o6, o7, o8, o9, o10, o11, o12, eρ⟩ => ?_)
  · subst eρ
    simp [-sSeq_ev, -compL_cons, -forL_cons]
    refine while_of (k := (gone n ps qs p).length) (fun k ρ S' => ∃ (ps qs A B : Tb), SwSt S a2 a3 n p0 q0 p 0 ps qs A B S' ∧ (gone n ps qs p).length = k ∧ (A.length : Int) + B.length + k ≤ sumR (p + 1) (lt n ps) ∧ ∃ o5 o6 o7 o8 o9 o10 o11 o12 : Option F, ρ = [some (graphF n ps), some (graphF n qs), some (.loc a2), some (.loc a3), some (.int p), o5, o6, o7, o8, o9, o10, o11, o12]) ?_ ⟨ps, qs, A, B, st, rfl, ?_, _, _, _, _, _, _, _, _, rfl⟩
    · clear st le
      rintro k ρ S' N2 ⟨ps, qs, A, B, st, ek, le, o5, o6, o7, o8, o9, o10, o11, o12, rfl⟩ hN2
      simp [-sSeq_ev, -compL_cons, -forL_cons]
      walk_at "nx"
      have BL := sumR_len st.c.gp hn (show p + 1 ≤ n by omega)
      have gone_cl : ∀ {ps qs : Tb} (gp : GrOk n ps) (gq : GrOk n qs) (i : Nat) (h : i < n), (gone n ps qs i).length ≤ 24 := fun {ps qs} gp gq i h => by
        unfold gone
        refine Nat.le_trans (List.length_filter_le ..) ?_
        have := nb_len n ps i
        unfold nbI at this
        rw [List.length_map] at this
        omega
      have sig : ∀ {qs : Tb} (gq : GrOk n qs) (c : Nat) (A : F → Sto → Prop) (N : Sto → Prop), ((decide (p < c) && !adj qs p c) = true → A (.int c) S') → ((decide (p < c) && !adj qs p c) = false → N S') → if p < c then C_has_pair [graphF n qs, F.int ↑p, F.int ↑c] S' (asB fun k S1 => if k = true then N S1 else A (F.int ↑c) S1) else N S' := fun {qs} gq c A N hA hN => by
        by_cases c1 : p < c
        · rw [decide_eq_true c1, Bool.true_and] at hA hN
          rw [if_pos c1]
          refine ⟨n, qs, p, c, rfl, gq, hn, ?_⟩
          cases c2 : adj qs p c with
          | false => exact hA (by rw [c2]; rfl)
          | true => exact hN (by rw [c2]; rfl)
        · rw [if_neg c1]
          exact hN (by rw [decide_eq_false c1]; rfl)
      refine ⟨n, ps, rfl, st.c.gp, hn, ?_⟩
      simp only [oIx_l, nb_at hp, onIt_lst]
      refine ⟨by have := nb_len n ps p; rw [List.length_map]; exact mil (by omega), ?_⟩
      rw [nbI_map n ps p]
      refine compL_filterT (fun j : Nat => F.int (j : Int)) (fun c => decide (p < c) && !adj qs p c) (fun j : Nat => F.int (j : Int)) trivial _ _ (fun c hc A N hA hN => ?_) ?_
      · simp
        exact sig st.c.gq c A N hA hN
      rw [List.nil_append]
      change sSeq _ _ _ [some (graphF n ps), some (graphF n qs), some (F.loc a2), some (F.loc a3), some (F.int ↑p), some (.lst ((gone n ps qs p).map fun j : Nat => F.int (j : Int))), o6, o7, o8, o9, o10, o11, o12] S'
      walk_at "nx"
      refine ⟨n, qs, rfl, st.c.gq, hn, ?_⟩
      simp only [oIx_l, nb_at hp, onIt_lst]
      refine ⟨by have := nb_len n qs p; rw [List.length_map]; exact mil (by omega), ?_⟩
      rw [nbI_map n qs p]
      refine compL_filterT (fun j : Nat => F.int (j : Int)) (fun c => decide (p < c) && !adj ps p c) (fun j : Nat => F.int (j : Int)) trivial _ _ (fun c hc A N hA hN => ?_) ?_
      · simp
        exact sig st.c.gp c A N hA hN
      rw [List.nil_append]
      change sSeq _ _ _ [some (graphF n ps), some (graphF n qs), some (F.loc a2), some (F.loc a3), some (F.int ↑p), some (.lst ((gone n ps qs p).map fun j : Nat => F.int (j : Int))), some (.lst ((gone n qs ps p).map fun j : Nat => F.int (j : Int))), o7, o8, o9, o10, o11, o12] S'
      have gc := gone_come st.c.gp st.c.gq st.c.low (st.c.dgs p)
      have gl := gone_cl st.c.gp st.c.gq p hp
      cases eg : gone n ps qs p with
      | nil =>
        walk_at "nx"
        refine hN _ _ ⟨ps, qs, A, B, ⟨step_p st.c eg, st.e2, st.e3, st.ot⟩, by omega, _, _, _, _, _, _, _, _, _, rfl⟩
      | cons a G =>
        rw [eg, List.length_cons] at gc ek
        cases eh : gone n qs ps p with
        | nil => rw [eh] at gc; cases gc
        | cons b H =>
          have ha : a ∈ gone n ps qs p := by rw [eg]; exact List.mem_cons_self ..
          have hb : b ∈ gone n qs ps p := by rw [eh]; exact List.mem_cons_self ..
          obtain ⟨a1, a2', a3', a4⟩ := gone_mem.mp ha
          obtain ⟨b1, b2, b3, b4⟩ := gone_mem.mp hb
          walk_at "nx"
          walk_at "nx"
          refine ⟨n, ps, p, a, b, rfl, st.c.gp, hn, a1, b1, ?_⟩
          cases ef : freeL n ps p a b with
          | cons c L =>
            have hc : c ∈ freeL n ps p a b := by rw [ef]; exact List.mem_cons_self ..
            have sw := sw_one hp ha hb hc
            obtain ⟨t1, t2, t3⟩ := step_one st.c hp ha hb hc
            try simp [-sSeq_ev, -compL_cons, -forL_cons]
            rw [if_neg (show ¬ isNon (rowF [(p : Int), (a : Int), (c : Int), (b : Int)]) = true by simp [rowF, isNon])]
            walk_at "nx"
            simp [st.e2, -sSeq_ev, -compL_cons, -forL_cons]
            refine ⟨Nat.lt_of_lt_of_le (show A.length < 1000 by omega) (mil (by decide)), ?_⟩
            refine ⟨n, ps, p, a, c, b, rfl, st.c.gp, hn, sw, ?_⟩
            try simp [-sSeq_ev, -compL_cons, -forL_cons]
            refine hN2 _ _ _ (show G.length < k by omega) ⟨behind ps p a c b, qs, A ++ [[(p : Int), (a : Int), (c : Int), (b : Int)]], B, ⟨t1, by rw [updS_same, List.map_append]; rfl, by rw [updS_ne n23]; exact st.e3, fun x y z => by rw [updS_ne y]; exact st.ot x y z⟩, by rw [eg, List.length_cons] at t2; omega, ?_, _, _, _, _, _, _, _, _, rfl⟩
            rw [t3, List.length_append]
            simp
            omega
          | nil =>
            try simp [-sSeq_ev, -compL_cons, -forL_cons]
            walk_at "nx"
            refine ⟨n, qs, p, b, a, rfl, st.c.gq, hn, b1, a1, ?_⟩
            cases eff : freeL n qs p b a with
            | nil => exact absurd eff (some_free st.c hp ha hb ef)
            | cons c L =>
              have hc : c ∈ freeL n qs p b a := by rw [eff]; exact List.mem_cons_self ..
              have sw := sw_one hp hb ha hc
              obtain ⟨t1, t2⟩ := step_other st.c hp ha hb hc
              try simp [-sSeq_ev, -compL_cons, -forL_cons]
              walk_at "nx"
              refine ⟨n, qs, p, b, c, a, rfl, st.c.gq, hn, sw, ?_⟩
              try simp [-sSeq_ev, -compL_cons, -forL_cons]
              simp only [rowF]
              walk_at "nx"
              simp [st.e3, -sSeq_ev, -compL_cons, -forL_cons]
              refine ⟨Nat.lt_of_lt_of_le (show B.length < 1000 by omega) (mil (by decide)), ?_⟩
              refine hN2 _ _ _ (show G.length < k by omega) ⟨ps, behind qs p b c a, A, B ++ [[(p : Int), (a : Int), (c : Int), (b : Int)]], ⟨t1, by rw [updS_ne (Ne.symm n23)]; exact st.e2, by rw [updS_same, List.map_append]; rfl, fun x y z => by rw [updS_ne z]; exact st.ot x y z⟩, by rw [eg, List.length_cons] at t2; omega, ?_, _, _, _, _, _, _, _, _, rfl⟩
              rw [List.length_append]
              simp
              omega
    · rw [sumR_succ]
      have := gone_le n ps qs p
      omega
  · subst eρ
    have bl := sumR_len st.c.gp hn (Nat.le_refl n)
    have fin := search_end g0 k0 st.c le
    have rs : restr S S' = S := by
      refine restr_eq fun a ha => st.ot a (fun e => ?_) fun e => ?_
      · rw [e, h2] at ha; cases ha
      · rw [e, h3'] at ha; cases ha
    simp [st.e2, st.e3, oAdd, wRev]
    refine ⟨Nat.le_trans (show A.length + B.length ≤ 1000 by omega) (mil (by decide)), ?_⟩
    rw [rs, ← List.map_reverse, ← List.map_append]
    exact q _ fin.1 fin.2.1 fin.2.2
end DL.K28

set_option maxHeartbeats 4000000
namespace DL.K28
open PySem PySem.Spec PyProof.Rows L2 DL RSeq
local macro_rules | `(tactic| walk_at "nx") => `(tactic| ((try dsimp only); rw [sSeq_ev]; (try simp [-sSeq_ev, -compL_cons, -forL_cons])))
def behV (ps : Tb) : F → Tb
  | .tup [.int a, .int b, .int c, .int d] => behind ps a.toNat b.toNat c.toNat d.toNat
  | _ => ps
def leadsL (n : Nat) (qs : Tb) : Tb → List F → Bool
  | ps, [] => decide (ps = qs)
  | ps, v :: vs => isSw n ps v && leadsL n qs (behV ps v) vs
def leadV (n : Nat) (ps qs : Tb) : F → Bool
  | .tup vs => leadsL n qs ps vs
  | _ => false
theorem leadsL_of {n : Nat} {qs : Tb} : ∀ {rs ps : Tb}, leadsTo n ps rs qs → leadsL n qs ps (rs.map rowF) = true
  | [], ps, h => decide_eq_true h
  | r :: rs, ps, ⟨a, b, c, d, e, s, h⟩ => by
    subst e
    rw [List.map_cons]
    unfold leadsL
    rw [isSw_of s, Bool.true_and]
    exact leadsL_of h
def C_leads : Ct := fun xs S Q => ∃ (n : Nat) (ps qs : Tb) (v : F), xs = [graphF n ps, graphF n qs, v] ∧ GrOk n ps ∧ GrOk n qs ∧ n ≤ 24 ∧ fz v = true ∧ Q (.bl (leadV n ps qs v)) S
theorem mono_C_leads : MonoC C_leads := fun xs S Q Q' k ⟨n, ps, qs, v, e, h1, h2, h3, h4, q⟩ => ⟨n, ps, qs, v, e, h1, h2, h3, h4, k _ _ q⟩
theorem leads_step {n : Nat} {ps : Tb} {v : F} (g : GrOk n ps) (h : isSw n ps v = true) : ∃ a b c d : Nat, v = rowF [(a : Int), (b : Int), (c : Int), (d : Int)] ∧ Sw n ps a b c d ∧ behV ps v = behind ps a b c d := by
  obtain ⟨a, b, c, d, e, s⟩ := isSw_row g h
  exact ⟨a, b, c, d, e, s, by rw [e]; rfl⟩
theorem sp_leads (fs : List F) (S : Sto) (Q) (h : C_leads fs S Q) : fs.length = 3 ∧ w_leads C_is_graph C_degrees C_is_switch C_switched { nx := fun _ S' => Q .non S', rt := fun d S' => Q d S' } (startF 4 fs) S := by
  obtain ⟨n, ps, qs, v, rfl, g, k, hn, hv, q⟩ := h
  refine ⟨rfl, ?_⟩
  show w_leads _ _ _ _ _ [some (graphF n ps), some (graphF n qs), some v, none] S
  unfold w_leads
  cases v with
  | tup vs =>
    obtain ⟨hvl, hz⟩ := fz_tup hv
    walk_at "nx"
    refine ⟨n, ps, rfl, g, hn, ?_⟩
    try simp [-sSeq_ev, -compL_cons, -forL_cons]
    walk_at "nx"
    rw [show vs = vs.map id by simp]
    refine forL_list id vs (fun ys ρ S' => S' = S ∧ ∃ ps' : Tb, GrOk n ps' ∧ (∀ zs, vs = ys ++ zs → leadsL n qs ps vs = leadsL n qs ps' zs) ∧ ∃ o3 : Option F, ρ = [some (graphF n ps'), some (graphF n qs), some (.tup (vs.map id)), o3]) ⟨rfl, ps, g, fun zs h => by rw [h]; rfl, _, rfl⟩ (fun _ _ _ _ => trivial) (fun ys v zs hx ρ S' N ⟨eS, ps', g', e, o3, eρ⟩ hN => ?_) (fun ρ S' ⟨eS, ps', g', e, o3, eρ⟩ => ?_)
    · subst eS eρ
      have e1 := e _ hx
      simp [-sSeq_ev]
      walk_at "nx"
      refine ⟨n, ps', v, rfl, g', hn, fz_mem hz (by rw [hx]; simp), ?_⟩
      cases hs : isSw n ps' v with
      | false =>
        try simp [-sSeq_ev, -compL_cons, -forL_cons]
        have e2 : leadV n ps qs (.tup vs) = false := by
          show leadsL n qs ps vs = false
          rw [e1, leadsL, hs]
          rfl
        rw [e2] at q
        exact q
      | true =>
        obtain ⟨a, b, c, d, ev, sw, eb⟩ := leads_step g' hs
        try simp [-sSeq_ev, -compL_cons, -forL_cons]
        refine ⟨n, ps', a, b, c, d, by rw [ev], g', hn, sw, ?_⟩
        refine hN _ _ ⟨rfl, behind ps' a b c d, behind_ok g' sw, fun zs' h => ?_, some v, by simp⟩
        have e3 : zs = zs' := by
          have h := hx.symm.trans h
          rw [List.append_assoc] at h
          exact (List.cons.inj (List.append_cancel_left h)).2
        rw [e1, leadsL, hs, Bool.true_and, eb, e3]
    · subst eS eρ
      have e1 := e [] (by simp)
      have e1 : leadV n ps qs (.tup vs) = decide (ps' = qs) := e1
      rw [e1] at q
      try simp [-sSeq_ev, -compL_cons, -forL_cons]
      refine ⟨okF_graph g' hn, okF_graph k hn, ?_⟩
      rw [eqF_graph]
      by_cases c : ps' = qs
      · rw [decide_eq_true c, if_pos rfl]
        rw [decide_eq_true c] at q
        refine ⟨n, ps', rfl, g', hn, ?_⟩
        refine ⟨n, qs, rfl, k, hn, ?_⟩
        subst c
        have hl := degF_len n ps'
        refine ⟨okF_row (by omega), okF_row (by omega), ?_⟩
        rw [eqF_row, decide_eq_true rfl]
        exact q
      · rw [decide_eq_false c, if_neg (by simp)]
        rw [decide_eq_false c] at q
        exact q
  | _ => rw [sSeq_ev]; simpa [-sSeq_ev, isiOk_fz hv, leadV] using q
theorem sp_law_leads (fs : List F) (S : Sto) (Q) (h : C_leads fs S Q) : fs.length = 3 ∧ w__law_leads C_is_switch C_switched { nx := fun _ S' => Q .non S', rt := fun d S' => Q d S' } (startF 4 fs) S := by
  obtain ⟨n, ps, qs, v, rfl, g, k, hn, hv, q⟩ := h
  refine ⟨rfl, ?_⟩
  show w__law_leads _ _ _ [some (graphF n ps), some (graphF n qs), some v, none] S
  unfold w__law_leads
  cases v with
  | tup vs =>
    obtain ⟨hvl, hz⟩ := fz_tup hv
    walk_at "nx"
    walk_at "nx"
    rw [show vs = vs.map id by simp]
    refine forL_list id vs (fun ys ρ S' => S' = S ∧ ∃ ps' : Tb, GrOk n ps' ∧ (∀ zs, vs = ys ++ zs → leadsL n qs ps vs = leadsL n qs ps' zs) ∧ ∃ o3 : Option F, ρ = [some (graphF n ps'), some (graphF n qs), some (.tup (vs.map id)), o3]) ⟨rfl, ps, g, fun zs h => by rw [h]; rfl, _, rfl⟩ (fun _ _ _ _ => trivial) (fun ys v zs hx ρ S' N ⟨eS, ps', g', e, o3, eρ⟩ hN => ?_) (fun ρ S' ⟨eS, ps', g', e, o3, eρ⟩ => ?_)
    · subst eS eρ
      have e1 := e _ hx
      simp [-sSeq_ev]
      walk_at "nx"
      refine ⟨n, ps', v, rfl, g', hn, fz_mem hz (by rw [hx]; simp), ?_⟩
      cases hs : isSw n ps' v with
      | false =>
        try simp [-sSeq_ev, -compL_cons, -forL_cons]
        have e2 : leadV n ps qs (.tup vs) = false := by
          show leadsL n qs ps vs = false
          rw [e1, leadsL, hs]
          rfl
        rw [e2] at q
        exact q
      | true =>
        obtain ⟨a, b, c, d, ev, sw, eb⟩ := leads_step g' hs
        try simp [-sSeq_ev, -compL_cons, -forL_cons]
        refine ⟨n, ps', a, b, c, d, by rw [ev], g', hn, sw, ?_⟩
        refine hN _ _ ⟨rfl, behind ps' a b c d, behind_ok g' sw, fun zs' h => ?_, some v, by simp⟩
        have e3 : zs = zs' := by
          have h := hx.symm.trans h
          rw [List.append_assoc] at h
          exact (List.cons.inj (List.append_cancel_left h)).2
        rw [e1, leadsL, hs, Bool.true_and, eb, e3]
    · subst eS eρ
      have e1 := e [] (by simp)
      have e1 : leadV n ps qs (.tup vs) = decide (ps' = qs) := e1
      rw [e1] at q
      try simp [-sSeq_ev, -compL_cons, -forL_cons]
      refine ⟨okF_graph g' hn, okF_graph k hn, ?_⟩
      rw [eqF_graph]
      exact q
  | _ => rw [sSeq_ev]; simpa [-sSeq_ev, isiOk_fz hv, leadV] using q
end DL.K28

set_option maxHeartbeats 4000000
namespace DL.K28
open PySem PySem.Spec PyProof.Rows L2 DL RSeq
local macro_rules | `(tactic| walk_at "nx") => `(tactic| ((try dsimp only); rw [sSeq_ev]; (try simp [-sSeq_ev, -compL_cons, -forL_cons])))
def allR (n : Nat) (m : Nat) : Tb := (List.range m).flatMap fun i => (List.range (n - (i + 1))).map fun d => pr i (i + 1 + d)
theorem allR_succ (n m : Nat) : allR n (m + 1) = allR n m ++ (List.range (n - (m + 1))).map fun d => pr m (m + 1 + d) := by
  unfold allR
  rw [List.range_succ, List.flatMap_append]
  simp
theorem allR_len (n m : Nat) : (allR n m).length ≤ m * n := by
  induction m with
  | zero => simp [allR]
  | succ m ih =>
    rw [allR_succ, List.length_append, List.length_map, List.length_range, Nat.succ_mul]
    omega
theorem allR_mem {n m : Nat} {r : List Int} (h : r ∈ allR n m) : ∃ i j : Nat, i < m ∧ i < j ∧ j < n ∧ r = pr i j := by
  unfold allR at h
  obtain ⟨i, hi, h⟩ := List.mem_flatMap.mp h
  obtain ⟨d, hd, rfl⟩ := List.mem_map.mp h
  have := List.mem_range.mp hi
  have := List.mem_range.mp hd
  exact ⟨i, i + 1 + d, by omega, by omega, by omega, rfl⟩
theorem leR_pr {i j k l : Nat} (h1 : i < j) (h2 : k < l) (h : i < k ∨ (i = k ∧ j < l)) : leR (pr i j) (pr k l) = true ∧ pr i j ≠ pr k l := by
  refine ⟨?_, pr_ne (by omega)⟩
  rw [pr_lt h1, pr_lt h2]
  unfold leR
  rw [decide_eq_true_eq, List.cons_le_cons_iff, List.cons_le_cons_iff]
  rcases h with h | ⟨e, h⟩
  · exact .inl (by omega)
  · exact .inr ⟨by omega, .inl (by omega)⟩
theorem allR_srt (n m : Nat) : (allR n m).Pairwise fun a b => leR a b = true ∧ a ≠ b := by
  induction m with
  | zero => exact .nil
  | succ m ih =>
    rw [allR_succ]
    refine List.pairwise_append.mpr ⟨ih, ?_, fun p hp q hq => ?_⟩
    · exact List.Pairwise.map _ (fun a b h => leR_pr (by omega) (by omega) (.inr ⟨rfl, by omega⟩)) List.pairwise_lt_range
    · obtain ⟨d, _, rfl⟩ := List.mem_map.mp hq
      obtain ⟨i, j, h1, h2, h3, rfl⟩ := allR_mem hp
      exact leR_pr h2 (by omega) (.inl h1)
theorem allR_ok {n : Nat} {ps : Tb} (h : ps.Sublist (allR n n)) : GrOk n ps := ⟨fun r hr => by
  obtain ⟨i, j, _, h2, h3, e⟩ := allR_mem (h.subset hr)
  exact ⟨i, j, h2, h3, e⟩, (allR_srt n n).sublist h⟩
def C_all_pairs : Ct := fun xs S Q => ∃ n : Nat, xs = [.int n] ∧ n ≤ 100 ∧ Q (.lst ((allR n n).map rowF)) S
theorem mono_C_all_pairs : MonoC C_all_pairs := fun xs S Q Q' k ⟨n, e, h, q⟩ => ⟨n, e, h, k _ _ q⟩
theorem sp_all_pairs (fs : List F) (S : Sto) (Q) (h : C_all_pairs fs S Q) : fs.length = 1 ∧ w__law_all_pairs { nx := fun _ S' => Q .non S', rt := fun d S' => Q d S' } (startF 4 fs) S := by
  obtain ⟨n, rfl, hn, q⟩ := h
  refine ⟨rfl, ?_⟩
  show w__law_all_pairs _ [some (.int n), none, none, none] S
  unfold w__law_all_pairs
  walk_at "nx"
  walk_at "nx"
  refine ⟨by omega, ?_⟩
  refine forL_rng (fun i ρ S' => S' = S ∧ ∃ o2 o3 : Option F, ρ = [some (.int n), some (.lst ((allR n i).map rowF)), o2, o3]) ⟨rfl, _, _, rfl⟩ (fun _ _ _ _ => trivial) (fun i hi ρ S' N ⟨eS, o2, o3, eρ⟩ hN => ?_) (fun ρ S' ⟨eS, o2, o3, eρ⟩ => ?_)
  · subst eS eρ
    have l0 := allR_len n i
    have l1 : i * n ≤ 100 * 100 := Nat.mul_le_mul (by omega) hn
    simp [-compL_cons]
    refine ⟨by omega, by have := mil (n := n) (by omega); omega, ?_⟩
    rw [show ((n : Int) - ((i : Int) + 1)).toNat = n - (i + 1) by omega, rngL_map]
    refine compL_mapT (fun d : Nat => F.int ((i : Int) + 1 + (d : Int))) (fun d => rowF (pr i (i + 1 + d))) trivial _ _ (fun d hd Q2 q2 => ?_) ?_
    · simp
      rw [pr_lt (by omega)] at q2
      exact q2
    · simp
      refine ⟨mil (by omega), hN _ _ ⟨rfl, some (.int i), o3, ?_⟩⟩
      rw [allR_succ, List.map_append, List.map_map]
      rfl
  · subst eS eρ
    simpa using q
def C_drawn : Ct := fun xs S Q => ∃ b c, ∃ n : Nat, xs = [.loc b, .int n] ∧ BoxAt S b c ∧ n ≤ 24 ∧ ∀ ps S', GrOk n ps → BoxAt S' b c → Fr S S' b c → Q (graphF n ps) S'
theorem mono_C_drawn : MonoC C_drawn := fun xs S Q Q' k ⟨b, c, n, e, h1, h2, q⟩ => ⟨b, c, n, e, h1, h2, fun ps S' h1 h2 h3 => k _ _ (q ps S' h1 h2 h3)⟩
theorem sp_drawn (fs : List F) (S : Sto) (Q) (h : C_drawn fs S Q) : fs.length = 2 ∧ w__law_drawn C_draw C_all_pairs { nx := fun _ S' => Q .non S', rt := fun d S' => Q d S' } (startF 4 fs) S := by
  obtain ⟨b, c, n, rfl, hb, hn, q⟩ := h
  refine ⟨rfl, ?_⟩
  show w__law_drawn _ _ _ [some (.loc b), some (.int n), none, none] S
  unfold w__law_drawn
  walk_at "nx"
  refine call_draw hb (by decide) (by decide) fun th S1 hth hb1 f1 => ?_
  simp [-compL_cons]
  refine ⟨n, rfl, by omega, ?_⟩
  have l0 := allR_len n n
  have l1 : n * n ≤ 24 * 24 := Nat.mul_le_mul hn hn
  simp [-compL_cons]
  refine ⟨mil (by omega), ?_⟩
  refine compL_part (fun S' => BoxAt S' b c ∧ Fr S S' b c) rowF (allR n n) ⟨hb1, f1⟩ (fun _ _ => trivial) (fun p hp S' A N ⟨h1, h2⟩ hA hN => ?_) (fun ys S' hs ⟨h1, h2⟩ => ?_)
  · simp
    refine call_draw h1 (by decide) (by decide) fun d S2 hd hb2 f2 => ?_
    simp
    split
    · exact hA _ ⟨hb2, h2.trans f2⟩
    · exact hN _ ⟨hb2, h2.trans f2⟩
  · exact q ys S' (allR_ok hs) h1 h2
/-! a walk of drawn switches -/
def row4 (r : List Int) : Prop := r.length = 4 ∧ ∀ x ∈ r, x.natAbs ≤ 100
theorem row4_sw {n : Nat} {ps : Tb} {a b c d : Nat} (s : Sw n ps a b c d) (hn : n ≤ 24) : row4 [(a : Int), (b : Int), (c : Int), (d : Int)] := ⟨rfl, fun x hx => by
  have := s.la
  have := s.lb
  have := s.lc
  have := s.ld
  simp at hx
  omega⟩
theorem erase_map {α β : Type} (f : α → β) : ∀ (l : List α) (k : Nat), (l.map f).eraseIdx k = (l.eraseIdx k).map f
  | [], _ => rfl
  | _ :: _, 0 => rfl
  | a :: l, k + 1 => congrArg (f a :: ·) (erase_map f l k)
theorem map_inj_of {α β : Type} {f : α → β} (hf : ∀ a b, f a = f b → a = b) : ∀ {l k : List α}, l.map f = k.map f → l = k
  | [], [], _ => rfl
  | [], _ :: _, h => by cases h
  | _ :: _, [], h => by cases h
  | a :: l, b :: k, h => by
    injection h with h1 h2
    rw [hf a b h1, map_inj_of hf h2]
theorem okF_lstR {t : Tb} (h : t.length ≤ 1000000) (h2 : ∀ r ∈ t, r.length ≤ 1000) : okF (.lst (t.map rowF)) = true :=
  okF_of (fz_lst_of (by rw [List.length_map]; exact h) fun x hx => by obtain ⟨r, hr, rfl⟩ := List.mem_map.mp hx; exact fz_rowF (h2 r hr)) (Nat.le_trans (dep_lst (n := 1) fun x hx => by obtain ⟨r, _, rfl⟩ := List.mem_map.mp hx; exact dep_row r) (by decide))
def C_wander : Ct := fun xs S Q => ∃ b c, ∃ (n k : Nat) (ps : Tb), xs = [.loc b, graphF n ps, .int k] ∧ BoxAt S b c ∧ GrOk n ps ∧ n ≤ 24 ∧ k ≤ 50 ∧ ∀ (qs rs : Tb) S', GrOk n qs → (∀ i, dg n ps i = dg n qs i) → rs.length ≤ 50 → (∀ r ∈ rs, row4 r) → BoxAt S' b c → Fr S S' b c → Q (.tup [graphF n qs, .tup (rs.map rowF)]) S'
theorem mono_C_wander : MonoC C_wander := fun xs S Q Q' k ⟨b, c, n, m, ps, e, h1, h2, h3, h4, q⟩ => ⟨b, c, n, m, ps, e, h1, h2, h3, h4, fun qs rs S' h1 h2 h3 h4 h5 h6 => k _ _ (q qs rs S' h1 h2 h3 h4 h5 h6)⟩
theorem sp_wander (fs : List F) (S : Sto) (Q) (h : C_wander fs S Q) : fs.length = 3 ∧ w__law_wander C_draw C_is_switch C_switched { nx := fun _ S' => Q .non (restr S S'), rt := fun d S' => Q d (restr S S') } (startF 13 fs) S := by
  obtain ⟨b, c, n, m, p0, rfl, hb, g0, hn, hm, q⟩ := h
  refine ⟨rfl, ?_⟩
  show w__law_wander _ _ _ _ [some (.loc b), some (graphF n p0), some (.int m), none, none, none, none, none, none, none, none, none, none] S
  unfold w__law_wander
  walk_at "nx"
  intro p hp
  have pb : p ≠ b := fun e => hb.b (by rw [← e]; exact hp)
  have pc : p ≠ c := fun e => hb.c (by rw [← e]; exact hp)
  have ix1 : ∀ (ps : Tb) (S : Sto) (Q : F → Sto → Prop), oIx (graphF n ps) (.int 1) S Q = Q (tabF ps) S := fun ps S Q => by simp [graphF]
  walk_at "nx"
  refine ⟨by omega, ?_⟩
  refine forL_rng (fun i ρ S' => BoxAt S' b c ∧ (∀ a, a ≠ b → a ≠ c → S a ≠ none → S' a = S a) ∧ ∃ (ps rs : Tb), GrOk n ps ∧ (∀ i, dg n p0 i = dg n ps i) ∧ rs.length ≤ i ∧ (∀ r ∈ rs, row4 r) ∧ S' p = some (rs.map rowF) ∧ ∃ o4 o5 o6 o7 o8 o9 o10 o11 o12 : Option F, ρ = [some (.loc b), some (graphF n ps), some (.int m), some (.loc p), o4, o5, o6, o7, o8, o9, o10, o11, o12])
    ⟨hb.upd pb pc, fun a h1 h2 h3 => updS_ne fun e => h3 (by rw [e]; exact hp), p0, [], g0, fun _ => rfl, Nat.le_refl _, fun r hr => absurd hr List.not_mem_nil, updS_same, _, _, _, _, _, _, _, _, _, rfl⟩
    (fun _ _ _ _ => trivial) (fun i hi ρ S1 N ⟨hb1, f1, ps, rs, g, hd, lr, r4, e3, o4, o5, o6, o7, o8, o9, o10, o11, o12, eρ⟩ hN => ?_) (fun ρ S1 ⟨hb1, f1, ps, rs, g, hd, lr, r4, e3, o4, o5, o6, o7, o8, o9, o10, o11, o12, eρ⟩ => ?_)
  · subst eρ
    have hl := gr_len2 g hn
    simp [-sSeq_ev, -compL_cons, -forL_cons]
    walk_at "nx"
    rw [ix1]
    unfold tabF
    try simp [-sSeq_ev, -compL_cons, -forL_cons]
    intro p5 h5
    have n5b : p5 ≠ b := fun e => hb1.b (by rw [← e]; exact h5)
    have n5c : p5 ≠ c := fun e => hb1.c (by rw [← e]; exact h5)
    have n5p : p5 ≠ p := fun e => by rw [e, e3] at h5; cases h5
    have S5 : S p5 = none := by
      cases e : S p5 with
      | none => rfl
      | some l =>
        have := f1 p5 n5b n5c (by rw [e]; simp)
        rw [h5, e] at this
        cases this
    walk_at "nx"
    have hb2 := hb1.upd (p := p5) (l := ps.map rowF) n5b n5c
    have f2 : ∀ a, a ≠ b → a ≠ c → S a ≠ none → updS S1 p5 (ps.map rowF) a = S a := fun a x y z => by rw [updS_ne fun e => z (by rw [e]; exact S5)]; exact f1 a x y z
    have e32 : updS S1 p5 (ps.map rowF) p = some (rs.map rowF) := by rw [updS_ne (Ne.symm n5p)]; exact e3
    have e5 : updS S1 p5 (ps.map rowF) p5 = some (ps.map rowF) := updS_same
    generalize updS S1 p5 (ps.map rowF) = S2 at hb2 f2 e32 e5
    refine seq_via (fun ρ S' => BoxAt S' b c ∧ (∀ a, a ≠ b → a ≠ c → S a ≠ none → S' a = S a) ∧ S' p = some (rs.map rowF) ∧ ∃ ws : Tb, ws.length ≤ 1200 ∧ (∀ r ∈ ws, isSw n ps (rowF r) = true) ∧ ∃ o5 o7 o8 o9 o10 o11 o12 : Option F, ρ = [some (.loc b), some (graphF n ps), some (.int m), some (.loc p), some (.int i), o5, some (.lst (ws.map rowF)), o7, o8, o9, o10, o11, o12]) (fun M hM => ?_) (fun ρ S3 ⟨hb3, f3, e33, ws, lw, sw, o5, o7, o8, o9, o10, o11, o12, eρ⟩ => ?_)
    · simp [e5, -sSeq_ev, -compL_cons, -forL_cons]
      split
      · rename_i h2
        walk_at "nx"
        simp [e5, -sSeq_ev, -compL_cons, -forL_cons]
        refine call_draw hb2 (by omega) (Int.lt_of_lt_of_le (show (ps.length : Int) < 1000 by omega) (by decide)) fun d S3 hd3 hb3 f3 => ?_
        have e53 : S3 p5 = some (ps.map rowF) := by rw [f3 p5 n5b n5c]; exact e5
        have hdl : d < ps.length := by omega
        obtain ⟨x, y, h1, hy, ex⟩ := g.row ps[d] (List.getElem_mem hdl)
        simp [e53, -sSeq_ev, -compL_cons, -forL_cons]
        rw [ixN_cast hdl]
        refine ⟨Int.lt_of_lt_of_le (show (d : Int) < 1000 by omega) (by decide), ?_⟩
        dsimp only
        rw [List.getElem?_eq_getElem hdl, ex, pr_lt h1]
        simp [rowF, updS_same, -sSeq_ev, -compL_cons, -forL_cons]
        have eE : (List.map rowF ps).eraseIdx d = (ps.eraseIdx d).map rowF := erase_map rowF ps d
        have hE : ∀ r ∈ ps.eraseIdx d, r ∈ ps := fun r hr => (List.eraseIdx_sublist ps d).subset hr
        have hEl : (ps.eraseIdx d).length ≤ 576 := Nat.le_trans (List.eraseIdx_sublist ps d).length_le hl
        rw [eE]
        generalize ps.eraseIdx d = L at hE hEl
        have hb4 := hb3.upd (p := p5) (l := L.map rowF) n5b n5c
        have f4 : ∀ a, a ≠ b → a ≠ c → S a ≠ none → updS S3 p5 (L.map rowF) a = S a := fun a x y z => by rw [updS_ne fun e => z (by rw [e]; exact S5), f3 a x y]; exact f2 a x y z
        have e34 : updS S3 p5 (L.map rowF) p = some (rs.map rowF) := by rw [updS_ne (Ne.symm n5p), f3 p pb pc]; exact e32
        have e54 : updS S3 p5 (L.map rowF) p5 = some (L.map rowF) := updS_same
        generalize updS S3 p5 (L.map rowF) = S4 at hb4 f4 e34 e54
        refine forL_list rowF L (fun ys ρ S' => S' = S4 ∧ ∃ ws : Tb, ws.length ≤ 2 * ys.length ∧ (∀ r ∈ ws, isSw n ps (rowF r) = true) ∧ ∃ o9 o10 o11 o12 : Option F, ρ = [some (.loc b), some (graphF n ps), some (.int m), some (.loc p), some (.int i), some (.loc p5), some (.lst (ws.map rowF)), some (.int x), some (.int y), o9, o10, o11, o12]) ⟨rfl, [], by simp, fun r hr => absurd hr List.not_mem_nil, _, _, _, _, rfl⟩ (fun _ _ _ h => by rw [h.1]; exact e54) (fun ys r zs hx ρ S' K ⟨eS, ws, lw, sw, o9, o10, o11, o12, eρ⟩ hK => ?_) (fun ρ S' ⟨eS, ws, lw, sw, o9, o10, o11, o12, eρ⟩ => ?_)
        · subst eS eρ
          obtain ⟨u, v, h3, hv, ex2⟩ := g.row r (hE r (by rw [hx]; simp))
          have ysl := congrArg List.length hx
          rw [List.length_append, List.length_cons] at ysl
          rw [ex2, pr_lt h3]
          simp [rowF, -sSeq_ev, -compL_cons, -forL_cons]
          rw [show [F.tup [F.int ↑x, F.int ↑y, F.int ↑u, F.int ↑v], F.tup [F.int ↑x, F.int ↑y, F.int ↑v, F.int ↑u]] = [[(x : Int), y, u, v], [(x : Int), y, v, u]].map rowF from rfl]
          refine compL_filterT rowF (fun r => isSw n ps (rowF r)) rowF trivial _ _ (fun r hr A N hA hN => ?_) ?_
          · simp
            refine ⟨n, ps, rowF r, rfl, g, hn, ?_, ?_⟩
            · simp at hr
              rcases hr with rfl | rfl <;> exact fz_rowF (by simp)
            · cases hs : isSw n ps (rowF r) with
              | true => exact hA hs
              | false => exact hN hs
          · rw [List.nil_append]
            have fl := List.length_filter_le (fun r => isSw n ps (rowF r)) [[(x : Int), y, u, v], [(x : Int), y, v, u]]
            have fs : ∀ r ∈ List.filter (fun r => isSw n ps (rowF r)) [[(x : Int), y, u, v], [(x : Int), y, v, u]], isSw n ps (rowF r) = true := fun r hr => (List.mem_filter.mp hr).2
            generalize List.filter (fun r => isSw n ps (rowF r)) [[(x : Int), y, u, v], [(x : Int), y, v, u]] = W at fl fs
            have fl : W.length ≤ 2 := fl
            simp
            refine ⟨mil (n := ws.length + W.length) (by omega), hK _ _ ⟨rfl, ws ++ W, by rw [List.length_append, List.length_append]; simp; omega, fun r hr => (List.mem_append.mp hr).elim (sw r) (fs r), _, _, _, _, by rw [List.map_append]⟩⟩
        · subst eS eρ
          exact hM _ _ ⟨hb4, f4, e34, ws, by omega, sw, _, _, _, _, _, _, _, rfl⟩
      · exact hM _ _ ⟨hb2, f2, e32, [], by decide, fun r hr => absurd hr List.not_mem_nil, _, _, _, _, _, _, _, rfl⟩
    subst eρ
    try simp [-sSeq_ev, -compL_cons, -forL_cons]
    have ew : eqF (F.lst (ws.map rowF)) (F.lst []) = decide (ws = []) := by
      cases ws with
      | nil => decide +kernel
      | cons w ws =>
        rw [decide_eq_false (by simp)]
        unfold eqF
        rw [py, py, show pyL [] = [] from rfl, List.map_cons, show ∀ (x : F) (l : List F), pyL (x :: l) = py x :: pyL l from fun _ _ => rfl, PyData.eqv, PyData.eqvAll]
        all_goals simp
    rw [ew]
    have lw4 : ∀ r ∈ ws, r.length ≤ 1000 := fun r hr => by
      obtain ⟨w1, w2, w3, w4, e, _⟩ := isSw_row g (sw r hr)
      have : r = [(w1 : Int), w2, w3, w4] := by
        unfold rowF at e
        injection e with e
        exact map_inj_of (fun a b h => by injection h) e
      rw [this]
      simp
    refine ⟨okF_lstR (by omega) lw4, by decide +kernel, ?_⟩
    by_cases hw : ws = []
    · rw [decide_eq_true hw, if_pos rfl]
      exact hN _ _ ⟨hb3, f3, ps, rs, g, hd, by omega, r4, e33, _, _, _, _, _, _, _, _, _, rfl⟩
    · have hw0 : 0 < ws.length := List.length_pos_iff.mpr hw
      rw [decide_eq_false hw, if_neg (by simp)]
      walk_at "nx"
      refine call_draw hb3 (by omega) (Int.lt_of_lt_of_le (show (ws.length : Int) < 2000 by omega) (by decide)) fun d S4 hd4 hb4 f4 => ?_
      have hdl : d < ws.length := by omega
      obtain ⟨w1, w2, w3, w4, ev, s⟩ := isSw_row g (sw ws[d] (List.getElem_mem hdl))
      have ed : atI (ws.map rowF) (d : Int) = some (rowF [(w1 : Int), w2, w3, w4]) := by rw [atI_cast, List.getElem?_map, List.getElem?_eq_getElem hdl, Option.map_some, ev]
      have e43 : S4 p = some (rs.map rowF) := by rw [f4 p pb pc]; exact e33
      have f4' : ∀ a, a ≠ b → a ≠ c → S a ≠ none → S4 a = S a := fun a x y z => by rw [f4 a x y]; exact f3 a x y z
      simp [ed, e43, -sSeq_ev, -compL_cons, -forL_cons]
      walk_at "nx"
      simp [e43, -sSeq_ev, -compL_cons, -forL_cons]
      refine ⟨Nat.lt_of_lt_of_le (show rs.length < 1000 by omega) (mil (by decide)), ?_⟩
      refine ⟨n, ps, w1, w2, w3, w4, rfl, g, hn, s, ?_⟩
      refine hN _ _ ⟨hb4.upd pb pc, fun a x y z => by rw [updS_ne fun e => z (by rw [e]; exact hp)]; exact f4' a x y z, behind ps w1 w2 w3 w4, rs ++ [[(w1 : Int), w2, w3, w4]], behind_ok g s, fun i => by rw [behind_dg g s]; exact hd i, by rw [List.length_append]; simp; omega, fun r hr => ?_, by rw [updS_same, List.map_append]; rfl, _, _, _, _, _, _, _, _, _, rfl⟩
      rcases List.mem_append.mp hr with h | h
      · exact r4 r h
      · rw [List.mem_singleton.mp h]; exact row4_sw s hn
  · subst eρ
    try simp [-sSeq_ev, -compL_cons, -forL_cons]
    rw [e3]
    refine q ps rs _ g hd (by omega) r4 (hb.restr hb1) (fr_restr f1)
end DL.K28

set_option maxHeartbeats 4000000
namespace DL.K28
open PySem PySem.Spec PyProof.Rows L2 DL RSeq
local macro_rules | `(tactic| walk_at "nx") => `(tactic| ((try dsimp only); rw [sSeq_ev]; (try simp [-sSeq_ev, -compL_cons, -forL_cons])))
theorem leads_four {n : Nat} (hn : n ≤ 24) {qs : Tb} : ∀ {rs ps : Tb}, leadsTo n ps rs qs → ∀ r ∈ rs, row4 r
  | [], _, _, r, h => absurd h List.not_mem_nil
  | r0 :: rs, ps, ⟨a, b, c, d, e, s, h⟩, r, hr => by
    rcases List.mem_cons.mp hr with h2 | h2
    · rw [h2, e]; exact row4_sw s hn
    · exact leads_four hn h r h2
theorem sm_rows {t : Tb} {n : Nat} (h : t.length ≤ n) (h4 : ∀ r ∈ t, row4 r) : small n (t.map rowF) := ⟨by rw [List.length_map]; exact h, fun x hx => by
  obtain ⟨r, hr, rfl⟩ := List.mem_map.mp hx
  exact fz_rowF (by rw [(h4 r hr).1]; decide)⟩
theorem four_row {r : List Int} (h : r.length = 4) : ∃ a b c d, r = [a, b, c, d] := by
  match r, h with
  | [a, b, c, d], _ => exact ⟨a, b, c, d, rfl⟩
theorem bOk_rows {t : Tb} (h : t.length ≤ 1000) (h4 : ∀ r ∈ t, row4 r) : bOk 3 (.tup (t.map rowF)) := .inr ⟨_, rfl, by rw [List.length_map]; omega, fun x hx => by
  obtain ⟨r, hr, rfl⟩ := List.mem_map.mp hx
  exact .inr ⟨_, rfl, by rw [List.length_map, (h4 r hr).1]; decide, fun y hy => by
    obtain ⟨i, hi, rfl⟩ := List.mem_map.mp hy
    have := (h4 r hr).2 i hi
    exact bOk_atom (decide_eq_true (by omega))⟩⟩
def C_fine : Ct := fun xs S Q => ∃ b c, ∃ (n : Nat) (ps qs own : Tb), xs = [.loc b, graphF n ps, graphF n qs, .tup (own.map rowF)] ∧ BoxAt S b c ∧ GrOk n ps ∧ GrOk n qs ∧ n ≤ 24 ∧ (∀ i, dg n ps i = dg n qs i) ∧ own.length ≤ 50 ∧ (∀ r ∈ own, row4 r) ∧ ∀ S', BoxAt S' b c → Fr S S' b c → Q (.bl true) S'
theorem mono_C_fine : MonoC C_fine := fun xs S Q Q' k ⟨b, c, n, ps, qs, own, e, h1, h2, h3, h4, h5, h6, h7, q⟩ => ⟨b, c, n, ps, qs, own, e, h1, h2, h3, h4, h5, h6, h7, fun S' h1 h2 => k _ _ (q S' h1 h2)⟩
theorem sp_fine (fs : List F) (S : Sto) (Q) (h : C_fine fs S Q) : fs.length = 4 ∧ w__law_fine C_switches_between C_leads (C_same 8) (C_bent 3) C_leads { nx := fun _ S' => Q .non S', rt := fun d S' => Q d S' } (startF 12 fs) S := by
  obtain ⟨b, c, n, ps, qs, own, rfl, hb, g, k, hn, hd, lo, ho, q⟩ := h
  refine ⟨rfl, ?_⟩
  show w__law_fine _ _ _ _ _ _ [some (.loc b), some (graphF n ps), some (graphF n qs), some (.tup (own.map rowF)), none, none, none, none, none, none, none, none] S
  unfold w__law_fine
  have ix1 : ∀ (ps : Tb) (S : Sto) (Q : F → Sto → Prop), oIx (graphF n ps) (.int 1) S Q = Q (tabF ps) S := fun ps S Q => by simp [graphF]
  walk_at "nx"
  refine ⟨n, ps, qs, rfl, g, k, hn, hd, fun told lt ll le => ?_⟩
  have h4 := leads_four hn lt
  have hl := gr_len2 g hn
  have st := sm_rows (show told.length ≤ 576 by omega) h4
  have so := sm_rows (show own.length ≤ 576 by omega) ho
  walk_at "nx"
  refine ⟨n, ps, qs, .tup (told.map rowF), rfl, g, k, hn, sm_fz st (by decide), ?_⟩
  rw [show leadV n ps qs (.tup (told.map rowF)) = true from leadsL_of lt]
  simp only [asB_ev]
  rw [ix1]
  unfold tabF
  try simp [-sSeq_ev, -compL_cons, -forL_cons]
  rw [if_neg (by omega), eqF_graph]
  have eN : ∀ t : Tb, eqF (F.tup (t.map rowF)) (F.tup []) = decide (t = []) := fun t => eqF_tab t []
  have okT : ∀ {t : Tb}, t.length ≤ 1000 → (∀ r ∈ t, row4 r) → okF (.tup (t.map rowF)) = true := fun {t} h1 h2 => okF_rows (by omega) fun r hr => by rw [(h2 r hr).1]; decide
  refine ⟨okF_graph g hn, okF_graph k hn, ?_⟩
  have go : ∀ {P R : Prop}, P → (if decide (ps = qs) = true then okF (F.tup (List.map rowF told)) = true ∧ okF (F.tup []) = true ∧ if eqF (F.tup (List.map rowF told)) (F.tup []) = true then P else R else P) := fun {P R} p => by
    by_cases c : ps = qs
    · rw [if_pos (decide_eq_true c)]
      refine ⟨okT (by omega) h4, by decide +kernel, ?_⟩
      rw [eN, le c, if_pos (decide_eq_true rfl)]
      exact p
    · rw [if_neg (by simpa using c)]
      exact p
  refine go ?_
  let R : List F → Slots → Prop := fun L ρ => ∃ o6 o7 o8 o9 o10 o11 : Option F, ρ = [some (.loc b), some (graphF n ps), some (graphF n qs), some (.tup (own.map rowF)), some (.tup (told.map rowF)), some (.lst L), o6, o7, o8, o9, o10, o11]
  refine seq_via (fun ρ S' => S' = S ∧ ∃ L : List F, R L ρ ∧ L.length ≤ 5 ∧ ∀ x ∈ L, fz x = true) (fun N hN => ?_) (fun ρ S2 ⟨eS, L, ⟨p6, p7, p8, p9, p10, p11, eρ⟩, lL, zL⟩ => ?_)
  · simp [-sSeq_ev, -compL_cons, -forL_cons]
    have c1 := cut_length (told.map rowF) (some (-1)) none
    rw [List.length_map] at c1
    refine ⟨mil (by omega), hN _ _ ⟨rfl, _, ⟨_, _, _, _, _, _, rfl⟩, by simp, ?_⟩⟩
    have sc : fz (.str (Str.ofString "row")) = true := by decide +kernel
    exact (sm_cons rfl (sm_cons rfl (sm_cons sc (sm_cons (sm_fz (sm_app st (sm_cut st _ _)) (by decide)) (sm_cons (sm_fz (sm_cons (sm_fz st (by decide)) sm_nil) (by decide)) sm_nil))))).2
  subst eS eρ
  refine seq_via (fun ρ S' => (BoxAt S' b c ∧ Fr S2 S' b c) ∧ ∃ L : List F, R L ρ ∧ ∀ x ∈ L, fz x = true) (fun N hN => ?_) (fun ρ S3 ⟨⟨hb3, f3⟩, L, ⟨p6, p7, p8, p9, p10, p11, eρ⟩, zL⟩ => ?_)
  · simp [-sSeq_ev, -compL_cons, -forL_cons]
    rw [show [F.tup (told.map rowF), F.tup (own.map rowF)] = [told, own].map fun t => F.tup (t.map rowF) from rfl]
    refine forL_list (fun t : Tb => F.tup (t.map rowF)) [told, own] (fun ys ρ S' => (BoxAt S' b c ∧ Fr S2 S' b c) ∧ ∃ L : List F, R L ρ ∧ L.length ≤ 5 + 8 * ys.length ∧ ∀ x ∈ L, fz x = true) ⟨⟨hb, Fr.refl⟩, L, ⟨_, _, _, _, _, _, rfl⟩, by simpa using lL, zL⟩ (fun _ _ _ _ => trivial)
      (fun ys t zs hx ρ S' M ⟨⟨hb3, f3⟩, L, ⟨r6, r7, r8, r9, r10, r11, eρ⟩, lL, zL⟩ hM => ?_) (fun ρ S' ⟨h1, L, h2, h3, h4⟩ => hN _ _ ⟨h1, L, h2, h4⟩)
    subst eρ
    have ht : t.length ≤ 576 ∧ ∀ r ∈ t, row4 r := by
      have : t ∈ [told, own] := by rw [hx]; simp
      rcases List.mem_cons.mp this with h | h
      · rw [h]; exact ⟨by omega, h4⟩
      · rw [List.mem_singleton.mp h]; exact ⟨by omega, ho⟩
    have ysl := congrArg List.length hx
    rw [List.length_append, List.length_cons, List.length_cons, List.length_cons, List.length_nil] at ysl
    have sr := sm_rows ht.1 ht.2
    simp [-sSeq_ev, -compL_cons, -forL_cons]
    walk_at "nx"
    have c1 := cut_length (t.map rowF) (some 1) (some 2)
    have c2 := cut_length (t.map rowF) none (some 1)
    have c3 := cut_length (t.map rowF) (some 2) none
    rw [List.length_map] at c1 c2 c3
    have ht1 := ht.1
    refine ⟨Nat.le_trans (show _ ≤ 2000 by omega) (mil (by decide)), ?_⟩
    refine ⟨Nat.le_trans (show _ ≤ 2000 by omega) (mil (by decide)), ?_⟩
    refine call_bent hb3 (bOk_rows (by omega) ht.2) fun v1 S4 z1 d1 hb4 f4 => ?_
    refine call_bent hb4 (bOk_rows (by omega) ht.2) fun v2 S5 z2 d2 hb5 f5 => ?_
    refine ⟨mil (by omega), mil (by omega), ?_⟩
    rw [← List.map_reverse]
    have h4r : ∀ r ∈ t.reverse, row4 r := fun r hr => ht.2 r (List.mem_reverse.mp hr)
    refine compL_mapT rowF (fun r => rowF (turnR r)) trivial t.reverse _ (fun r hr Q2 q2 => ?_) ?_
    · obtain ⟨a, b', c', d, e⟩ := four_row (h4r r hr).1
      rw [e] at q2 ⊢
      simp [rowF]
      exact q2
    rw [List.nil_append]
    refine ⟨mil (by omega), hM _ _ ⟨⟨hb5, (f3.trans f4).trans f5⟩, _, ⟨_, _, _, _, _, _, rfl⟩, by simp; omega, ?_⟩⟩
    have sT : small 576 (t.reverse.map fun r => rowF (turnR r)) := ⟨by simp; omega, fun x hx => by
      obtain ⟨r, hr, rfl⟩ := List.mem_map.mp hx
      obtain ⟨a, b', c', d, e⟩ := four_row (h4r r hr).1
      rw [e]
      exact fz_rowF (by simp [turnR])⟩
    have big : ∀ {l : List F}, small 2000 l → fz (.tup l) = true := fun h => sm_fz h (by decide)
    have up : ∀ {a : Nat} {l : List F}, small a l → a ≤ 2000 → small 2000 l := fun h k => ⟨Nat.le_trans h.1 k, h.2⟩
    rw [List.map_reverse]
    exact fzs_app zL (sm_cons (big (up sr (by decide))) (sm_cons (big (up (sm_rev sr) (by decide))) (sm_cons (big (up (sm_cut sr _ _) (by decide))) (sm_cons (big (up (sm_cut sr _ _) (by decide)))
      (sm_cons (big (up (sm_app (sm_cut sr _ _) (sm_app (sm_cut sr _ _) (sm_cut sr _ _))) (by decide))) (sm_cons z1 (sm_cons z2 (sm_cons (big (up sT (by decide))) sm_nil)))))))).2
  subst eρ
  refine seq_via (fun ρ S' => S' = S3 ∧ R L ρ) (fun N hN => ?_) (fun ρ S4 ⟨eS, ⟨q6, q7, q8, q9, q10, q11, eρ⟩⟩ => ?_)
  · simp [-sSeq_ev, -compL_cons, -forL_cons]
    refine forL_inv (fun ρ S' => S' = S3 ∧ R L ρ) _ _ _ ⟨rfl, _, _, _, _, _, _, rfl⟩ (fun _ _ _ => trivial) (fun v hv ρ S' M ⟨eS, ⟨r6, r7, r8, r9, r10, r11, eρ⟩⟩ hM => ?_) hN
    subst eS eρ
    have hf := zL v hv
    simp [-sSeq_ev, -compL_cons, -forL_cons]
    refine seq_via (fun ρ S2 => S2 = S' ∧ ∃ o6 o8 o9 o10 o11 : Option F, ρ = [some (.loc b), some (graphF n ps), some (graphF n qs), some (.tup (own.map rowF)), some (.tup (told.map rowF)), some (.lst L), o6, some v, o8, o9, o10, o11]) (fun N hN => ?_) (fun ρ S4 ⟨eS, ⟨q6, q8, q9, q10, q11, eρ⟩⟩ => ?_)
    · simp [-sSeq_ev, -compL_cons, -forL_cons]
      refine ⟨n, ps, qs, v, rfl, g, k, hn, hf, ?_⟩
      try simp [-sSeq_ev, -compL_cons, -forL_cons]
      refine ⟨n, ps, qs, v, rfl, g, k, hn, hf, ?_⟩
      refine call_same rfl rfl (Nat.zero_le _) ?_
      try simp [-sSeq_ev, -compL_cons, -forL_cons]
      exact hN _ _ ⟨rfl, _, _, _, _, _, rfl⟩
    subst eS eρ
    simp [-sSeq_ev, -compL_cons, -forL_cons]
    refine ⟨n, qs, ps, v, rfl, k, g, hn, hf, ?_⟩
    try simp [-sSeq_ev, -compL_cons, -forL_cons]
    refine ⟨n, qs, ps, v, rfl, k, g, hn, hf, ?_⟩
    refine call_same rfl rfl (Nat.zero_le _) ?_
    try simp [-sSeq_ev, -compL_cons, -forL_cons]
    exact hM _ _ ⟨rfl, _, _, _, _, _, _, rfl⟩
  subst eS eρ
  try simp [-sSeq_ev, -compL_cons, -forL_cons]
  exact q _ hb3 f3
end DL.K28

set_option maxHeartbeats 4000000
namespace DL.K28
open PySem PySem.Spec PyProof.Rows L2 DL RSeq
local macro_rules | `(tactic| walk_at "nx") => `(tactic| ((try dsimp only); rw [sSeq_ev]; (try simp [-sSeq_ev, -compL_cons, -forL_cons])))
def rings : Tb := [[0, 1], [0, 2], [1, 2], [3, 4], [3, 5], [4, 5]]
def six : Tb := [[0, 2], [0, 4], [1, 2], [1, 3], [3, 5], [4, 5]]
theorem rings_ok : GrOk 6 rings := allR_ok (by decide +kernel)
theorem six_ok : GrOk 6 six := allR_ok (by decide +kernel)
theorem sw_ring : isSw 6 rings (rowF [0, 1, 3, 4]) = true := by decide +kernel
theorem ring_six : behV rings (rowF [0, 1, 3, 4]) = six := by
  obtain ⟨a, b, c, d, e, s, eb⟩ := leads_step rings_ok sw_ring
  have hg := behind_ok rings_ok s
  rw [← eb] at hg
  refine gr_ext hg six_ok fun r => ?_
  rw [show behV rings (rowF [0, 1, 3, 4]) = behind rings 0 1 3 4 from rfl, mem_behind]
  constructor
  · rintro (⟨h, h1, h2⟩ | h | h)
    · unfold rings at h
      simp at h
      rcases h with rfl | rfl | rfl | rfl | rfl | rfl
      · exact absurd rfl h1
      · decide
      · decide
      · exact absurd rfl h2
      · decide
      · decide
    · rw [h]; decide
    · rw [h]; decide
  · intro h
    unfold six at h
    simp at h
    rcases h with rfl | rfl | rfl | rfl | rfl | rfl
    · exact .inl (by decide)
    · exact .inr (.inr rfl)
    · exact .inl (by decide)
    · exact .inr (.inl rfl)
    · exact .inl (by decide)
    · exact .inl (by decide)
theorem ring_leads : leadV 6 rings six (.tup [rowF [0, 1, 3, 4]]) = true := by
  show (isSw 6 rings (rowF [0, 1, 3, 4]) && leadsL 6 six (behV rings (rowF [0, 1, 3, 4])) []) = true
  rw [sw_ring, ring_six]
  show (true && decide (six = six)) = true
  rw [decide_eq_true rfl]
  rfl
theorem ring_no : leadV 6 rings six (.tup []) = false := by
  show decide (rings = six) = false
  exact decide_eq_false (by decide)
def C_law : Ct := fun xs S Q => ∃ ns : List Int, xs = [.rol (ns.map F.int)] ∧ ns.length ≤ 63 ∧ ∀ S', Q (.bl true) S'
theorem mono_C_law : MonoC C_law := fun xs S Q Q' k ⟨ns, e, h, q⟩ => ⟨ns, e, h, fun S' => k _ _ (q S')⟩
theorem sp_law (fs : List F) (S : Sto) (Q) (h : C_law fs S Q) : fs.length = 1 ∧ w_law C_leads C_box C_draw C_drawn C_leads C_wander C_fine { nx := fun _ S' => Q .non S', rt := fun d S' => Q d S' } (startF 8 fs) S := by
  obtain ⟨ns, rfl, hl, q⟩ := h
  refine ⟨rfl, ?_⟩
  show w_law _ _ _ _ _ _ _ _ [some (.rol (ns.map F.int)), none, none, none, none, none, none, none] S
  unfold w_law
  walk_at "nx"
  refine ⟨ns, rfl, hl, fun b c S1 hb _ _ _ => ?_⟩
  refine seq_via (fun ρ S' => BoxAt S' b c ∧ ∃ o2 o3 o4 o5, ρ = [some (.rol (ns.map F.int)), some (.loc b), o2, o3, o4, o5, none, none]) (fun N hN => ?_) (fun ρ S2 ⟨hb2, o2, o3, o4, o5, eρ⟩ => ?_)
  · simp [-sSeq_ev, -compL_cons, -forL_cons]
    refine forL_inv (fun ρ S' => BoxAt S' b c ∧ ∃ o2 o3 o4 o5, ρ = [some (.rol (ns.map F.int)), some (.loc b), o2, o3, o4, o5, none, none]) _ _ _ ⟨hb, _, _, _, _, rfl⟩ (fun _ _ _ => trivial)
      (fun v hv ρ S' M ⟨hb', o2, o3, o4, o5, eρ⟩ hM => ?_) hN
    subst eρ
    obtain ⟨most, rfl, hm⟩ : ∃ k : Nat, v = .int k ∧ k ≤ 9 := by
      simp at hv
      rcases hv with rfl | rfl
      · exact ⟨6, rfl, by decide⟩
      · exact ⟨9, rfl, by decide⟩
    simp [-sSeq_ev, -compL_cons, -forL_cons]
    walk_at "nx"
    refine call_draw hb' (by omega) (Int.lt_of_lt_of_le (show (most : Int) + 1 < 100 by omega) (by decide)) fun n S3 hn hb3 f3 => ?_
    refine ⟨b, c, n, rfl, hb3, by omega, fun ps S4 g hb4 f4 => ?_⟩
    walk_at "nx"
    refine call_draw hb4 (by decide) (by decide) fun k S5 hk hb5 f5 => ?_
    refine ⟨b, c, n, k, ps, rfl, hb5, g, by omega, by omega, fun qs rs S6 g2 hd lr r4 hb6 f6 => ?_⟩
    try simp [-sSeq_ev, -compL_cons, -forL_cons]
    refine ⟨b, c, n, ps, qs, rs, rfl, hb6, g, g2, by omega, hd, lr, r4, fun S7 hb7 f7 => ?_⟩
    try simp [-sSeq_ev, -compL_cons, -forL_cons]
    refine ⟨b, c, n, ps, ps, [], rfl, hb7, g, g, by omega, fun _ => rfl, by decide, fun r hr => absurd hr List.not_mem_nil, fun S8 hb8 f8 => ?_⟩
    try simp [-sSeq_ev, -compL_cons, -forL_cons]
    exact hM _ _ ⟨hb8, _, _, _, _, rfl⟩
  subst eρ
  walk_at "nx"
  refine call_draw hb2 (by decide) (by decide) fun n S3 hn hb3 f3 => ?_
  try simp [-sSeq_ev, -compL_cons, -forL_cons]
  refine ⟨b, c, 12 + n, by simp, hb3, by omega, fun ps S4 g hb4 f4 => ?_⟩
  walk_at "nx"
  refine call_draw hb4 (by decide) (by decide) fun k S5 hk hb5 f5 => ?_
  try simp [-sSeq_ev, -compL_cons, -forL_cons]
  refine ⟨b, c, 12 + n, 10 + k, ps, by simp, hb5, g, by omega, by omega, fun qs rs S6 g2 hd lr r4 hb6 f6 => ?_⟩
  try simp [-sSeq_ev, -compL_cons, -forL_cons]
  walk_at "nx"
  refine ⟨b, c, 12 + n, ps, qs, rs, rfl, hb6, g, g2, by omega, hd, lr, r4, fun S7 hb7 f7 => ?_⟩
  try simp [-sSeq_ev, -compL_cons, -forL_cons]
  walk_at "nx"
  walk_at "nx"
  refine ⟨6, rings, six, .tup [rowF [0, 1, 3, 4]], rfl, rings_ok, six_ok, by decide, by decide +kernel, ?_⟩
  rw [ring_leads]
  try simp [-sSeq_ev, -compL_cons, -forL_cons]
  refine ⟨6, rings, six, .tup [rowF [0, 1, 3, 4]], rfl, rings_ok, six_ok, by decide, by decide +kernel, ?_⟩
  rw [ring_leads]
  try simp [-sSeq_ev, -compL_cons, -forL_cons]
  refine ⟨6, rings, six, .tup [], rfl, rings_ok, six_ok, by decide, by decide +kernel, ?_⟩
  rw [ring_no]
  try simp [-sSeq_ev, -compL_cons, -forL_cons]
  exact q _
end DL.K28

set_option maxHeartbeats 0
namespace DL.K28
open PySem PySem.Spec PyProof.Rows L2 DL
/-! the head: facts by names; the defs in order -/
def d_is_count : He.DefD := ⟨("is_count", none), "is_count", "is_count", defArgs s_is_count, defBody s_is_count, defScope s_is_count, [], []⟩
def d_is_pair : He.DefD := ⟨("is_pair", none), "is_pair", "is_pair", defArgs s_is_pair, defBody s_is_pair, defScope s_is_pair, [], []⟩
def d_is_graph : He.DefD := ⟨("is_graph", none), "is_graph", "is_graph", defArgs s_is_graph, defBody s_is_graph, defScope s_is_graph, [], []⟩
def d_has_pair : He.DefD := ⟨("has_pair", none), "has_pair", "has_pair", defArgs s_has_pair, defBody s_has_pair, defScope s_has_pair, [], []⟩
def d_degrees : He.DefD := ⟨("degrees", none), "degrees", "degrees", defArgs s_degrees, defBody s_degrees, defScope s_degrees, [], []⟩
def d_neighbours : He.DefD := ⟨("neighbours", none), "neighbours", "neighbours", defArgs s_neighbours, defBody s_neighbours, defScope s_neighbours, [], []⟩
def d_without_pairs : He.DefD := ⟨("without_pairs", none), "without_pairs", "without_pairs", defArgs s_without_pairs, defBody s_without_pairs, defScope s_without_pairs, [], []⟩
def d_pair_of : He.DefD := ⟨("pair_of", none), "pair_of", "pair_of", defArgs s_pair_of, defBody s_pair_of, defScope s_pair_of, [], []⟩
def d_is_switch : He.DefD := ⟨("is_switch", none), "is_switch", "is_switch", defArgs s_is_switch, defBody s_is_switch, defScope s_is_switch, [], []⟩
def d_switched : He.DefD := ⟨("switched", none), "switched", "switched", defArgs s_switched, defBody s_switched, defScope s_switched, [], []⟩
def d_mending_switch : He.DefD := ⟨("mending_switch", none), "mending_switch", "mending_switch", defArgs s_mending_switch, defBody s_mending_switch, defScope s_mending_switch, [], []⟩
def d_switches_between : He.DefD := ⟨("switches_between", none), "switches_between", "switches_between", defArgs s_switches_between, defBody s_switches_between, defScope s_switches_between, [], []⟩
def d_leads : He.DefD := ⟨("leads", none), "leads", "leads", defArgs s_leads, defBody s_leads, defScope s_leads, [], []⟩
def d__law_box : He.DefD := ⟨("_law_box", none), "_law_box", "_law_box", defArgs s__law_box, defBody s__law_box, defScope s__law_box, [], []⟩
def d__law_load : He.DefD := ⟨("_law_load", none), "_law_load", "_law_load", defArgs s__law_load, defBody s__law_load, defScope s__law_load, [], []⟩
def d__law_draw : He.DefD := ⟨("_law_draw", none), "_law_draw", "_law_draw", defArgs s__law_draw, defBody s__law_draw, defScope s__law_draw, [], []⟩
def d__law_same : He.DefD := ⟨("_law_same", none), "_law_same", "_law_same", defArgs s__law_same, defBody s__law_same, defScope s__law_same, [], []⟩
def d__law_bent : He.DefD := ⟨("_law_bent", none), "_law_bent", "_law_bent", defArgs s__law_bent, defBody s__law_bent, defScope s__law_bent, [], []⟩
def d__law_all_pairs : He.DefD := ⟨("_law_all_pairs", none), "_law_all_pairs", "_law_all_pairs", defArgs s__law_all_pairs, defBody s__law_all_pairs, defScope s__law_all_pairs, [], []⟩
def d__law_drawn : He.DefD := ⟨("_law_drawn", none), "_law_drawn", "_law_drawn", defArgs s__law_drawn, defBody s__law_drawn, defScope s__law_drawn, [], []⟩
def d__law_has : He.DefD := ⟨("_law_has", none), "_law_has", "_law_has", defArgs s__law_has, defBody s__law_has, defScope s__law_has, [], []⟩
def d__law_is_switch : He.DefD := ⟨("_law_is_switch", none), "_law_is_switch", "_law_is_switch", defArgs s__law_is_switch, defBody s__law_is_switch, defScope s__law_is_switch, [], []⟩
def d__law_behind : He.DefD := ⟨("_law_behind", none), "_law_behind", "_law_behind", defArgs s__law_behind, defBody s__law_behind, defScope s__law_behind, [], []⟩
def d__law_leads : He.DefD := ⟨("_law_leads", none), "_law_leads", "_law_leads", defArgs s__law_leads, defBody s__law_leads, defScope s__law_leads, [], []⟩
def d__law_wander : He.DefD := ⟨("_law_wander", none), "_law_wander", "_law_wander", defArgs s__law_wander, defBody s__law_wander, defScope s__law_wander, [], []⟩
def d__law_fine : He.DefD := ⟨("_law_fine", none), "_law_fine", "_law_fine", defArgs s__law_fine, defBody s__law_fine, defScope s__law_fine, [], []⟩
def d_law : He.DefD := ⟨("law", none), "law", "law", defArgs s_law, defBody s_law, defScope s_law, [], []⟩
def fnL : List He.DefD := [d_is_count, d_is_pair, d_is_graph, d_has_pair, d_degrees, d_neighbours, d_without_pairs, d_pair_of, d_is_switch, d_switched, d_mending_switch, d_switches_between, d_leads, d__law_box, d__law_load, d__law_draw, d__law_same, d__law_bent, d__law_all_pairs, d__law_drawn, d__law_has, d__law_is_switch, d__law_behind, d__law_leads, d__law_wander, d__law_fine, d_law]
def faL : List He.Fa := [.glo "is_count", .glo "is_pair", .glo "is_graph", .glo "has_pair", .glo "degrees", .glo "neighbours", .glo "without_pairs", .glo "pair_of", .glo "is_switch", .glo "switched", .glo "mending_switch", .glo "switches_between", .glo "leads", .glo "_law_box", .glo "_law_load", .glo "_law_draw", .glo "_law_same", .glo "_law_bent", .glo "_law_all_pairs", .glo "_law_drawn", .glo "_law_has", .glo "_law_is_switch", .glo "_law_behind", .glo "_law_leads", .glo "_law_wander", .glo "_law_fine", .glo "law", .free "len", .free "range", .free "tuple", .free "list", .free "all", .free "any", .free "sum", .free "int", .free "bool", .free "str", .free "isinstance", .free "min", .free "max", .free "sorted", .free "enumerate", .free "zip", .free "set", .free "dict", .free "abs", .int "MAX_VERTICES" 24]
abbrev R : PySem.W.OpenRow := PySem.W.OpenLaw.row PySem.Challenge.rw_toldbysums_k28_whole_rows_of_switches
abbrev hk : PySem.W.Hook := He.hookD 4 faL fnL
def ob (s : PySem.W.SharedT) : He.AlD := He.obsDG 4 faL fnL (HandSHeadRun.getT s)
theorem ob_eq (s : PySem.W.SharedT) : ob s = hk.obs s.abs := He.obsDG_eq (HandSHeadRun.getT_eq s)
def loose0 : List PySem.Str := ["is_count", "is_pair", "is_graph", "has_pair", "degrees", "neighbours", "without_pairs", "pair_of", "is_switch", "switched", "mending_switch", "switches_between", "leads", "_law_box", "_law_load", "_law_draw", "_law_same", "_law_bent", "_law_all_pairs", "_law_drawn", "_law_has", "_law_is_switch", "_law_behind", "_law_leads", "_law_wander", "_law_fine", "MAX_VERTICES"]
def looseL : List PySem.Str := loose0
theorem run (w : World) : HandSHeadRun.RunEq R (PySem.W.view R.prog [31]) hk ob 4000 looseL w := by
  intro os
  kernel_rfl
theorem facts {P : Program} {w : World} {K : PySem.W.Frag} {h : Heap} {mg : Str → Option Value} {f : Addr} (X : K.In h) (G : h.Ns mainGlobals mg) (hfa : mg ("law" : Str) = some (.ref f)) (c : He.SaysD faL fnL K) :
    ∃ fd : FuncData, (∀ (s : Shared) (v : Value), BindsTo s fd ⟨[v], []⟩ [("script", v)]) ∧ ∀ base : Heap, K.In base → base.Ns mainGlobals mg → FnOk P w K mg base CX0 11 f fd ["script"] (spC K C_law) := by
  obtain ⟨fd_is_count, F_is_count⟩ := c.def_ 0 (d := d_is_count) rfl
  obtain ⟨fd_is_pair, F_is_pair⟩ := c.def_ 1 (d := d_is_pair) rfl
  obtain ⟨fd_is_graph, F_is_graph⟩ := c.def_ 2 (d := d_is_graph) rfl
  obtain ⟨fd_has_pair, F_has_pair⟩ := c.def_ 3 (d := d_has_pair) rfl
  obtain ⟨fd_degrees, F_degrees⟩ := c.def_ 4 (d := d_degrees) rfl
  obtain ⟨fd_neighbours, F_neighbours⟩ := c.def_ 5 (d := d_neighbours) rfl
  obtain ⟨fd_without_pairs, F_without_pairs⟩ := c.def_ 6 (d := d_without_pairs) rfl
  obtain ⟨fd_pair_of, F_pair_of⟩ := c.def_ 7 (d := d_pair_of) rfl
  obtain ⟨fd_is_switch, F_is_switch⟩ := c.def_ 8 (d := d_is_switch) rfl
  obtain ⟨fd_switched, F_switched⟩ := c.def_ 9 (d := d_switched) rfl
  obtain ⟨fd_mending_switch, F_mending_switch⟩ := c.def_ 10 (d := d_mending_switch) rfl
  obtain ⟨fd_switches_between, F_switches_between⟩ := c.def_ 11 (d := d_switches_between) rfl
  obtain ⟨fd_leads, F_leads⟩ := c.def_ 12 (d := d_leads) rfl
  obtain ⟨fd__law_box, F__law_box⟩ := c.def_ 13 (d := d__law_box) rfl
  obtain ⟨fd__law_load, F__law_load⟩ := c.def_ 14 (d := d__law_load) rfl
  obtain ⟨fd__law_draw, F__law_draw⟩ := c.def_ 15 (d := d__law_draw) rfl
  obtain ⟨fd__law_same, F__law_same⟩ := c.def_ 16 (d := d__law_same) rfl
  obtain ⟨fd__law_bent, F__law_bent⟩ := c.def_ 17 (d := d__law_bent) rfl
  obtain ⟨fd__law_all_pairs, F__law_all_pairs⟩ := c.def_ 18 (d := d__law_all_pairs) rfl
  obtain ⟨fd__law_drawn, F__law_drawn⟩ := c.def_ 19 (d := d__law_drawn) rfl
  obtain ⟨fd__law_has, F__law_has⟩ := c.def_ 20 (d := d__law_has) rfl
  obtain ⟨fd__law_is_switch, F__law_is_switch⟩ := c.def_ 21 (d := d__law_is_switch) rfl
  obtain ⟨fd__law_behind, F__law_behind⟩ := c.def_ 22 (d := d__law_behind) rfl
  obtain ⟨fd__law_leads, F__law_leads⟩ := c.def_ 23 (d := d__law_leads) rfl
  obtain ⟨fd__law_wander, F__law_wander⟩ := c.def_ 24 (d := d__law_wander) rfl
  obtain ⟨fd__law_fine, F__law_fine⟩ := c.def_ 25 (d := d__law_fine) rfl
  obtain ⟨fd_law, F_law⟩ := c.def_ 26 (d := d_law) rfl
  have B : Bl mg := ⟨He.free_ok X G (c.fact 27 (f := .free "len") rfl), He.free_ok X G (c.fact 28 (f := .free "range") rfl), He.free_ok X G (c.fact 29 (f := .free "tuple") rfl), He.free_ok X G (c.fact 30 (f := .free "list") rfl), He.free_ok X G (c.fact 31 (f := .free "all") rfl), He.free_ok X G (c.fact 32 (f := .free "any") rfl), He.free_ok X G (c.fact 33 (f := .free "sum") rfl), He.free_ok X G (c.fact 34 (f := .free "int") rfl), He.free_ok X G (c.fact 35 (f := .free "bool") rfl), He.free_ok X G (c.fact 36 (f := .free "str") rfl), He.free_ok X G (c.fact 37 (f := .free "isinstance") rfl), He.free_ok X G (c.fact 38 (f := .free "min") rfl), He.free_ok X G (c.fact 39 (f := .free "max") rfl), He.free_ok X G (c.fact 40 (f := .free "sorted") rfl), He.free_ok X G (c.fact 41 (f := .free "enumerate") rfl), He.free_ok X G (c.fact 42 (f := .free "zip") rfl), He.free_ok X G (c.fact 43 (f := .free "set") rfl), He.free_ok X G (c.fact 44 (f := .free "dict") rfl), He.free_ok X G (c.fact 45 (f := .free "abs") rfl)⟩
  have g_MAX_VERTICES := He.int_ok X G (c.fact 46 (f := .int "MAX_VERTICES" 24) rfl)
  have e := hfa.symm.trans (He.glo_ok X G (c.fact 26 (f := .glo "law") rfl))
  cases e
  have b := FunD.bindsA (ps := ["script"]) F_law fun _ _ _ _ _ _ us hl => match us, hl with | [_], _ => rfl
  refine ⟨fd_law, fun s v => b s [v] rfl, fun base _ _ => ?_⟩
  have k_is_count : Cal P w K mg base 1 "is_count" ["value", "least", "most"] C_count := cal_of F_is_count (He.glo_ok X G (c.fact 0 (f := .glo "is_count") rfl)) (F_is_count.bindsN (ps := ["value", "least", "most"]) fun _ _ _ _ _ _ us hl => match us, hl with | [_, _, _], _ => rfl) (ok_is_count B F_is_count mono_C_count (fun fs S Q h => by rw [show @w_is_count = @W_count from rfl]; exact sp_count fs S Q h))
  have k_has_pair : Cal P w K mg base 1 "has_pair" ["graph", "i", "j"] C_has_pair := cal_of F_has_pair (He.glo_ok X G (c.fact 3 (f := .glo "has_pair") rfl)) (F_has_pair.bindsN (ps := ["graph", "i", "j"]) fun _ _ _ _ _ _ us hl => match us, hl with | [_, _, _], _ => rfl) (ok_has_pair B F_has_pair mono_C_has_pair sp_has_pair)
  have k_degrees : Cal P w K mg base 1 "degrees" ["graph"] C_degrees := cal_of F_degrees (He.glo_ok X G (c.fact 4 (f := .glo "degrees") rfl)) (F_degrees.bindsN (ps := ["graph"]) fun _ _ _ _ _ _ us hl => match us, hl with | [_], _ => rfl) (ok_degrees B F_degrees mono_C_degrees sp_degrees)
  have k_neighbours : Cal P w K mg base 1 "neighbours" ["graph"] C_neighbours := cal_of F_neighbours (He.glo_ok X G (c.fact 5 (f := .glo "neighbours") rfl)) (F_neighbours.bindsN (ps := ["graph"]) fun _ _ _ _ _ _ us hl => match us, hl with | [_], _ => rfl) (ok_neighbours B F_neighbours mono_C_neighbours sp_neighbours)
  have k_without_pairs : Cal P w K mg base 1 "without_pairs" ["graph", "gone", "more"] C_without_pairs := cal_of F_without_pairs (He.glo_ok X G (c.fact 6 (f := .glo "without_pairs") rfl)) (F_without_pairs.bindsN (ps := ["graph", "gone", "more"]) fun _ _ _ _ _ _ us hl => match us, hl with | [_, _, _], _ => rfl) (ok_without_pairs B F_without_pairs mono_C_without_pairs sp_without_pairs)
  have k_pair_of : Cal P w K mg base 1 "pair_of" ["i", "j"] C_pair_of := cal_of F_pair_of (He.glo_ok X G (c.fact 7 (f := .glo "pair_of") rfl)) (F_pair_of.bindsN (ps := ["i", "j"]) fun _ _ _ _ _ _ us hl => match us, hl with | [_, _], _ => rfl) (ok_pair_of B F_pair_of mono_C_pair_of sp_pair_of)
  have k__law_box : Cal P w K mg base 1 "_law_box" ["script"] C_box := cal_of F__law_box (He.glo_ok X G (c.fact 13 (f := .glo "_law_box") rfl)) (F__law_box.bindsN (ps := ["script"]) fun _ _ _ _ _ _ us hl => match us, hl with | [_], _ => rfl) (ok__law_box B F__law_box mono_C_box (fun fs S Q h => by rw [show @w__law_box = @W_box from rfl]; exact sp_box fs S Q h))
  have k__law_load : Cal P w K mg base 1 "_law_load" ["box"] C_load := cal_of F__law_load (He.glo_ok X G (c.fact 14 (f := .glo "_law_load") rfl)) (F__law_load.bindsN (ps := ["box"]) fun _ _ _ _ _ _ us hl => match us, hl with | [_], _ => rfl) (ok__law_load B F__law_load mono_C_load (fun fs S Q h => by rw [show @w__law_load = @W_load from rfl]; exact sp_load fs S Q h))
  have k__law_all_pairs : Cal P w K mg base 1 "_law_all_pairs" ["n"] C_all_pairs := cal_of F__law_all_pairs (He.glo_ok X G (c.fact 18 (f := .glo "_law_all_pairs") rfl)) (F__law_all_pairs.bindsN (ps := ["n"]) fun _ _ _ _ _ _ us hl => match us, hl with | [_], _ => rfl) (ok__law_all_pairs B F__law_all_pairs mono_C_all_pairs sp_all_pairs)
  have k__law_has : Cal P w K mg base 1 "_law_has" ["graph", "i", "j"] C_has_pair := cal_of F__law_has (He.glo_ok X G (c.fact 20 (f := .glo "_law_has") rfl)) (F__law_has.bindsN (ps := ["graph", "i", "j"]) fun _ _ _ _ _ _ us hl => match us, hl with | [_, _, _], _ => rfl) (ok__law_has B F__law_has mono_C_has_pair sp_law_has)
  have k__law_behind : Cal P w K mg base 1 "_law_behind" ["graph", "switch"] C_switched := cal_of F__law_behind (He.glo_ok X G (c.fact 22 (f := .glo "_law_behind") rfl)) (F__law_behind.bindsN (ps := ["graph", "switch"]) fun _ _ _ _ _ _ us hl => match us, hl with | [_, _], _ => rfl) (ok__law_behind B F__law_behind mono_C_switched sp_behind)
  have k_is_pair : Cal P w K mg base 2 "is_pair" ["n", "value"] C_is_pair := cal_of F_is_pair (He.glo_ok X G (c.fact 1 (f := .glo "is_pair") rfl)) (F_is_pair.bindsN (ps := ["n", "value"]) fun _ _ _ _ _ _ us hl => match us, hl with | [_, _], _ => rfl) (ok_is_pair B k_is_count F_is_pair mono_C_is_pair sp_is_pair)
  have k_is_switch : Cal P w K mg base 2 "is_switch" ["graph", "value"] C_is_switch := cal_of F_is_switch (He.glo_ok X G (c.fact 8 (f := .glo "is_switch") rfl)) (F_is_switch.bindsN (ps := ["graph", "value"]) fun _ _ _ _ _ _ us hl => match us, hl with | [_, _], _ => rfl) (ok_is_switch B k_is_count k_has_pair F_is_switch mono_C_is_switch sp_is_switch)
  have k_switched : Cal P w K mg base 2 "switched" ["graph", "switch"] C_switched := cal_of F_switched (He.glo_ok X G (c.fact 9 (f := .glo "switched") rfl)) (F_switched.bindsN (ps := ["graph", "switch"]) fun _ _ _ _ _ _ us hl => match us, hl with | [_, _], _ => rfl) (ok_switched B k_without_pairs k_pair_of F_switched mono_C_switched sp_switched)
  have k_mending_switch : Cal P w K mg base 2 "mending_switch" ["graph", "p", "a", "b"] C_mending := cal_of F_mending_switch (He.glo_ok X G (c.fact 10 (f := .glo "mending_switch") rfl)) (F_mending_switch.bindsN (ps := ["graph", "p", "a", "b"]) fun _ _ _ _ _ _ us hl => match us, hl with | [_, _, _, _], _ => rfl) (ok_mending_switch B k_neighbours F_mending_switch mono_C_mending sp_mending)
  have k__law_draw : Cal P w K mg base 2 "_law_draw" ["box", "many"] C_draw := cal_of F__law_draw (He.glo_ok X G (c.fact 15 (f := .glo "_law_draw") rfl)) (F__law_draw.bindsN (ps := ["box", "many"]) fun _ _ _ _ _ _ us hl => match us, hl with | [_, _], _ => rfl) (ok__law_draw B k__law_load F__law_draw mono_C_draw (fun fs S Q h => by rw [show @w__law_draw = @W_draw from rfl]; exact sp_draw fs S Q h))
  have k__law_is_switch : Cal P w K mg base 2 "_law_is_switch" ["graph", "value"] C_is_switch := cal_of F__law_is_switch (He.glo_ok X G (c.fact 21 (f := .glo "_law_is_switch") rfl)) (F__law_is_switch.bindsN (ps := ["graph", "value"]) fun _ _ _ _ _ _ us hl => match us, hl with | [_, _], _ => rfl) (ok__law_is_switch B k__law_has F__law_is_switch mono_C_is_switch sp_law_is_switch)
  have k_is_graph : Cal P w K mg base 3 "is_graph" ["value"] C_is_graph := cal_of F_is_graph (He.glo_ok X G (c.fact 2 (f := .glo "is_graph") rfl)) (F_is_graph.bindsN (ps := ["value"]) fun _ _ _ _ _ _ us hl => match us, hl with | [_], _ => rfl) (ok_is_graph B g_MAX_VERTICES k_is_count k_is_pair F_is_graph mono_C_is_graph sp_is_graph)
  have k_switches_between : Cal P w K mg base 3 "switches_between" ["one", "other"] C_switches_between := cal_of F_switches_between (He.glo_ok X G (c.fact 11 (f := .glo "switches_between") rfl)) (F_switches_between.bindsN (ps := ["one", "other"]) fun _ _ _ _ _ _ us hl => match us, hl with | [_, _], _ => rfl) (ok_switches_between B k_has_pair k_neighbours k_switched k_mending_switch F_switches_between mono_C_switches_between sp_switches_between)
  have k__law_drawn : Cal P w K mg base 3 "_law_drawn" ["box", "n"] C_drawn := cal_of F__law_drawn (He.glo_ok X G (c.fact 19 (f := .glo "_law_drawn") rfl)) (F__law_drawn.bindsN (ps := ["box", "n"]) fun _ _ _ _ _ _ us hl => match us, hl with | [_, _], _ => rfl) (ok__law_drawn B k__law_draw k__law_all_pairs F__law_drawn mono_C_drawn sp_drawn)
  have k__law_leads : Cal P w K mg base 3 "_law_leads" ["one", "other", "value"] C_leads := cal_of F__law_leads (He.glo_ok X G (c.fact 23 (f := .glo "_law_leads") rfl)) (F__law_leads.bindsN (ps := ["one", "other", "value"]) fun _ _ _ _ _ _ us hl => match us, hl with | [_, _, _], _ => rfl) (ok__law_leads B k__law_is_switch k__law_behind F__law_leads mono_C_leads sp_law_leads)
  have k__law_wander : Cal P w K mg base 3 "_law_wander" ["box", "graph", "steps"] C_wander := cal_of F__law_wander (He.glo_ok X G (c.fact 24 (f := .glo "_law_wander") rfl)) (F__law_wander.bindsN (ps := ["box", "graph", "steps"]) fun _ _ _ _ _ _ us hl => match us, hl with | [_, _, _], _ => rfl) (ok__law_wander B k__law_draw k__law_is_switch k__law_behind F__law_wander mono_C_wander sp_wander)
  have k_leads : Cal P w K mg base 4 "leads" ["one", "other", "value"] C_leads := cal_of F_leads (He.glo_ok X G (c.fact 12 (f := .glo "leads") rfl)) (F_leads.bindsN (ps := ["one", "other", "value"]) fun _ _ _ _ _ _ us hl => match us, hl with | [_, _, _], _ => rfl) (ok_leads B k_is_graph k_degrees k_is_switch k_switched F_leads mono_C_leads sp_leads)
  have k__law_bent : Cal P w K mg base 6 "_law_bent" ["box", "value"] (C_bent 3) := bent_cal (fun lv hlv {_ _} k mc hC => ok__law_bent B lv hlv k__law_draw k F__law_bent mc (fun fs S Q h => by rw [show @w__law_bent = @W_bent from rfl]; exact hC fs S Q h)) F__law_bent (He.glo_ok X G (c.fact 17 (f := .glo "_law_bent") rfl)) (F__law_bent.bindsN (ps := ["box", "value"]) fun _ _ _ _ _ _ us hl => match us, hl with | [_, _], _ => rfl) 3
  have k__law_same : Cal P w K mg base 9 "_law_same" ["a", "b"] (C_same 8) := same_cal (fun lv {_ _} k mc hC => ok__law_same B lv k F__law_same mc (fun fs S Q h => by rw [show @w__law_same = @W_same from rfl]; exact hC fs S Q h)) F__law_same (He.glo_ok X G (c.fact 16 (f := .glo "_law_same") rfl)) (F__law_same.bindsN (ps := ["a", "b"]) fun _ _ _ _ _ _ us hl => match us, hl with | [_, _], _ => rfl) 8
  have k__law_fine : Cal P w K mg base 10 "_law_fine" ["box", "one", "other", "own"] C_fine := cal_of F__law_fine (He.glo_ok X G (c.fact 25 (f := .glo "_law_fine") rfl)) (F__law_fine.bindsN (ps := ["box", "one", "other", "own"]) fun _ _ _ _ _ _ us hl => match us, hl with | [_, _, _, _], _ => rfl) (ok__law_fine B k_switches_between k_leads k__law_same k__law_bent k__law_leads F__law_fine mono_C_fine sp_fine)
  exact (ok_law B k_leads k__law_box k__law_draw k__law_drawn k__law_leads k__law_wander k__law_fine F_law mono_C_law sp_law).ok
end DL.K28
open PySem PySem.W PySem.Calls PyProof.Rows
theorem PySem.Challenge.cw_toldbysums_k28_whole_rows_of_switches_holds : PySem.Challenge.rw_toldbysums_k28_whole_rows_of_switches.Holds := by
  w_on; o_law
  refine HandSHeadRun.head_any (r := OpenLaw.row PySem.Challenge.rw_toldbysums_k28_whole_rows_of_switches) (q := view (OpenLaw.row PySem.Challenge.rw_toldbysums_k28_whole_rows_of_switches).prog [31]) (H := DL.K28.hk) (ob := DL.K28.ob) (M := 4000) (loose := DL.K28.looseL) (d := HandSHeadRun.topDef (OpenLaw.row PySem.Challenge.rw_toldbysums_k28_whole_rows_of_switches).prog 31) (kwd := []) DL.K28.ob_eq
    (by kernel_rfl) (fun s => by kernel_rfl) DL.K28.run (by kernel_rfl) (by kernel_rfl) (by kernel_rfl) (by rfl) (by first | assumption | decide +kernel) (by decide +kernel) ⟨rfl, rfl, rfl, rfl, rfl, by decide +kernel⟩ ?hw ?hc
  case hw => w_witness2
  case hc =>
    refine L2.walk_ofE (l := PySem.Challenge.rw_toldbysums_k28_whole_rows_of_switches) (n := 63) (k := 11) (x := "script") (CX := L2.CX0) rfl (by decide) (by kernel_rfl) ⟨rfl, by decide, by decide⟩ ?F (fun _ _ _ _ z => z)
    intro w mg fa h Y G hmg0
    obtain ⟨K, KX, c⟩ := Y
    have hmg : mg ("law" : PySem.Str) = some (.ref fa) := by
      have e : (HandSHeadRun.topDef (OpenLaw.row PySem.Challenge.rw_toldbysums_k28_whole_rows_of_switches).prog 31).name = ("law" : PySem.Str) := by kernel_rfl
      rw [← e]
      exact hmg0
    obtain ⟨fd, hb, hF⟩ := DL.K28.facts (P := (PySem.Challenge.rw_toldbysums_k28_whole_rows_of_switches).prog) (w := w) KX G hmg c
    refine ⟨K, fd, DL.spC K DL.K28.C_law, KX, hb, fun H a ns hl _ hS => ?_, hF⟩
    exact ⟨[.rol (ns.map DL.F.int)], fun _ => none, H, .cons (.rol hS (DL.dens_ints ns)) .nil, ⟨fun _ _ e => ⟨e, rfl⟩, fun _ _ e => nomatch e⟩, ns, rfl, hl, fun S' v Z' H' _ _ d => DL.den_bl d⟩
