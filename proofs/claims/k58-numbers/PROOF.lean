import PyProof.Rows.All
import Wide.All
import OpenK.AllK
import Wide.FinOn
import HandS.ForMost
import HandS.Style
import HandS.TupAny
import HandS.TupMul
import HandS.Wide
import HandS.IsInst
import HandS.Flow
import HandS.Deep
import KE.KTupSum
import HandS.Head0
import HandS.Head1
import HandS.Head2
import HandS.HeadEnd
import HandS.HeadHook1
import HandS.HeadHook2
import HandS.Defaults
import HandS.Text
import KE.KRevSl
import HandS.Conv
import PyProof.P3In
import HandS.SortInts
import HandS.SortKw
import KE.GoesMore
import HandS.Zip
import KE.DataMinMax
import KE.SortData
import PyProof.Rows.RowBridgeK
import HandS.SetFor
import HandS.Strs
import HandS.TryOnly
import HandS.DictComp
import HandS.ExcOwn
import HandS.ExcIs
import HandS.TryMany
import HandS.HeadHook4
import PySem.Challenge.RW_toldbysums_k58_whole_numbers_of_lines
set_option Elab.async false
set_option linter.all false
set_option maxRecDepth 100000
set_option maxHeartbeats 4000000
/-! the data layer: values without a heap, frozen ones and lists that change -/
namespace DL
open PySem PySem.Spec PyProof.Rows L2

inductive F where
  | non | bl (b : Bool) | int (i : Int) | str (x : Str) | tup (l : List F) | lst (l : List F) | rol (l : List F) | loc (a : Addr)

/-- whether the text has constants that are tuples: then a tuple's object may be one of these -/
def constT : Bool := false
def TupAt (K : PySem.W.Frag) (Z : Hp) (a : Addr) (vs : List V) : Prop := Z a = some (.tup vs) ∨ (constT = true ∧ SqT K Z a vs)
theorem TupAt.sq {K : PySem.W.Frag} {Z : Hp} {a : Addr} {vs : List V} (h : TupAt K Z a vs) : SqT K Z a vs := h.elim (fun h => .inl (.inl h)) (·.2)
mutual
inductive Den (K : PySem.W.Frag) (Z : Hp) : V → F → Prop
  | non : Den K Z .non .non
  | bl (b : Bool) : Den K Z (.bl b) (.bl b)
  | int (i : Int) : Den K Z (.int i) (.int i)
  | str (x : Str) : Den K Z (.str x) (.str x)
  | tup {a : Addr} {vs : List V} {fs : List F} : TupAt K Z a vs → Dens K Z vs fs → Den K Z (.ref a) (.tup fs)
  | lst {a : Addr} {vs : List V} {fs : List F} : Z a = some (.lst vs) → Dens K Z vs fs → Den K Z (.ref a) (.lst fs)
  | rol {a : Addr} {vs : List V} {fs : List F} : SqL K Z a vs → Dens K Z vs fs → Den K Z (.ref a) (.rol fs)
  | loc (a : Addr) : Den K Z (.ref a) (.loc a)
inductive Dens (K : PySem.W.Frag) (Z : Hp) : List V → List F → Prop
  | nil : Dens K Z [] []
  | cons {v : V} {vs : List V} {f : F} {fs : List F} : Den K Z v f → Dens K Z vs fs → Dens K Z (v :: vs) (f :: fs)
end

/-- what a dict that changes holds: its keys are tuples of ints, or ints -/
inductive DC where
  | t (kvs : List (List Int × F)) | k (kvs : List (Int × F)) | m (kvs : List (List Key × F))
/-- the lists that change, the dicts that change -/
structure Sto where
  l : Addr → Option (List F)
  d : Addr → Option DC
instance : CoeFun Sto fun _ => Addr → Option (List F) := ⟨Sto.l⟩
theorem Sto.ext' {S S' : Sto} (h1 : ∀ a, S a = S' a) (h2 : ∀ a, S.d a = S'.d a) : S = S' := by
  cases S; cases S'
  simp only [Sto.mk.injEq]
  exact ⟨funext h1, funext h2⟩
abbrev Slots := List (Option F)
abbrev Sig := List (Option V)
def updS (S : Sto) (a : Addr) (l : List F) : Sto := ⟨fun b => if b = a then some l else S b, S.d⟩
def delS (S : Sto) (a : Addr) : Sto := ⟨fun b => if b = a then none else S b, S.d⟩
def updD (S : Sto) (a : Addr) (l : DC) : Sto := ⟨S.l, fun b => if b = a then some l else S.d b⟩
@[simp] theorem updS_d {S : Sto} {a : Addr} {l : List F} : (updS S a l).d = S.d := rfl
@[simp] theorem delS_d {S : Sto} {a : Addr} : (delS S a).d = S.d := rfl
@[simp] theorem updD_l {S : Sto} {a : Addr} {l : DC} : (updD S a l).l = S.l := rfl
theorem updD_same {S : Sto} {a : Addr} {l : DC} : (updD S a l).d a = some l := by unfold updD; dsimp only; rw [if_pos rfl]
theorem updD_ne {S : Sto} {a b : Addr} {l : DC} (h : b ≠ a) : (updD S a l).d b = S.d b := by unfold updD; dsimp only; rw [if_neg h]
theorem updS_same {S : Sto} {a : Addr} {l : List F} : updS S a l a = some l := by unfold updS; dsimp only; rw [if_pos rfl]
theorem updS_ne {S : Sto} {a b : Addr} {l : List F} (h : b ≠ a) : updS S a l b = S b := by unfold updS; dsimp only; rw [if_neg h]
theorem delS_same {S : Sto} {a : Addr} : delS S a a = none := by unfold delS; dsimp only; rw [if_pos rfl]
theorem delS_ne {S : Sto} {a b : Addr} (h : b ≠ a) : delS S a b = S b := by unfold delS; dsimp only; rw [if_neg h]

/-- an object that is the dict -/
def DHold (K : PySem.W.Frag) (Z : Hp) (o : HO) : DC → Prop
  | .t kvs => ∃ ks : List (List Key × V), o = .dT ks ∧ ks.map (·.1) = kvs.map (fun p => p.1.map Sum.inl) ∧ Dens K Z (ks.map (·.2)) (kvs.map (·.2))
  | .k kvs => ∃ ks : List (Key × V), o = .dK ks ∧ ks.map (·.1) = kvs.map (fun p => Sum.inl p.1) ∧ Dens K Z (ks.map (·.2)) (kvs.map (·.2))
  | .m kvs => ∃ ks : List (List Key × V), o = .dT ks ∧ ks.map (·.1) = kvs.map (fun p => p.1) ∧ Dens K Z (ks.map (·.2)) (kvs.map (·.2))
/-- nobody's list, nobody's dict -/
structure Fre (S : Sto) (a : Addr) : Prop where
  s : S a = none
  d : S.d a = none
structure RelS (K : PySem.W.Frag) (Z : Hp) (S : Sto) (H : Hp) : Prop where
  z : ∀ a o, Z a = some o → H a = some o ∧ Fre S a
  s : ∀ a fs, S a = some fs → ∃ vs, H a = some (.lst vs) ∧ Dens K Z vs fs
  d : ∀ a c, S.d a = some c → ∃ o, H a = some o ∧ DHold K Z o c
structure Ext (Z : Hp) (S : Sto) (H : Hp) (Z' : Hp) (S' : Sto) (H' : Hp) : Prop where
  z : ∀ a o, Z a = some o → Z' a = some o
  h : ∀ a o, H a = some o → Fre S a → H' a = some o ∧ Fre S' a ∧ Z' a = Z a
  d : ∀ a, H' a = none → H a = none
structure REnv (K : PySem.W.Frag) (Z : Hp) (ρ : Slots) (σ : Sig) : Prop where
  len : ρ.length = σ.length
  at_ : ∀ (i : Nat) (f : F), ρ[i]? = some (some f) → ∃ v, σ[i]? = some (some v) ∧ Den K Z v f

section
variable {K : PySem.W.Frag} {Z Z' Z1 Z2 H H' H1 H2 : Hp} {S S' S1 S2 : Sto} {ρ : Slots} {σ : Sig} {v : V} {f : F} {vs : List V} {fs : List F} {a p : Addr}
theorem Ext.refl : Ext Z S H Z S H := ⟨fun _ _ h => h, fun _ _ h hs => ⟨h, hs, rfl⟩, fun _ h => h⟩
theorem upd_none {o : HO} (h : upd H p o a = none) : H a = none := by
  by_cases e : a = p
  · subst e
    rw [upd_same] at h
    cases h
  · rwa [upd_ne e] at h
theorem Ext.trans (x : Ext Z S H Z1 S1 H1) (y : Ext Z1 S1 H1 Z2 S2 H2) : Ext Z S H Z2 S2 H2 :=
  ⟨fun a o h => y.z a o (x.z a o h), fun a o h hs => by
    obtain ⟨h1, h2, h3⟩ := x.h a o h hs
    obtain ⟨q1, q2, q3⟩ := y.h a o h1 h2
    exact ⟨q1, q2, q3.trans h3⟩, fun a h => x.d a (y.d a h)⟩
theorem Rd_ext {u : HO} (z : ∀ a o, Z a = some o → Z' a = some o) (h : Rd Z a u) : Rd Z' a u := h.elim (fun h => .inl (z _ _ h)) fun ⟨o, h⟩ => .inr ⟨o, z _ _ h⟩
theorem SqT_ext (z : ∀ a o, Z a = some o → Z' a = some o) (h : SqT K Z a vs) : SqT K Z' a vs := h.elim (fun h => .inl (Rd_ext z h)) .inr
theorem TupAt_ext (z : ∀ a o, Z a = some o → Z' a = some o) (h : TupAt K Z a vs) : TupAt K Z' a vs := h.elim (fun h => .inl (z _ _ h)) fun h => .inr ⟨h.1, SqT_ext z h.2⟩
theorem SqL_ext (z : ∀ a o, Z a = some o → Z' a = some o) (h : SqL K Z a vs) : SqL K Z' a vs := h.elim (fun h => .inl (Rd_ext z h)) .inr
mutual
theorem Den.ext (z : ∀ a o, Z a = some o → Z' a = some o) : ∀ {f : F} {v : V}, Den K Z v f → Den K Z' v f
  | .non, _, h => by cases h; exact .non
  | .bl _, _, h => by cases h; exact .bl _
  | .int _, _, h => by cases h; exact .int _
  | .str _, _, h => by cases h; exact .str _
  | .tup fs, _, h => by
    cases h with
    | tup h1 h2 => exact .tup (TupAt_ext z h1) (Dens.ext z h2)
  | .lst fs, _, h => by
    cases h with
    | lst h1 h2 => exact .lst (z _ _ h1) (Dens.ext z h2)
  | .rol fs, _, h => by
    cases h with
    | rol h1 h2 => exact .rol (SqL_ext z h1) (Dens.ext z h2)
  | .loc _, _, h => by cases h; exact .loc _
theorem Dens.ext (z : ∀ a o, Z a = some o → Z' a = some o) : ∀ {fs : List F} {vs : List V}, Dens K Z vs fs → Dens K Z' vs fs
  | [], _, h => by cases h; exact .nil
  | f :: fs, _, h => by
    cases h with
    | cons h1 h2 => exact .cons (Den.ext z h1) (Dens.ext z h2)
end
theorem Dens.length : ∀ {fs : List F} {vs : List V}, Dens K Z vs fs → vs.length = fs.length
  | [], _, h => by cases h; rfl
  | f :: fs, _, h => by
    cases h with
    | cons h1 h2 => rw [List.length_cons, List.length_cons, Dens.length h2]
theorem Dens.get : ∀ {fs : List F} {vs : List V} {i : Nat} {f : F}, Dens K Z vs fs → fs[i]? = some f → ∃ v, vs[i]? = some v ∧ Den K Z v f
  | [], _, _, _, _, e => by simp at e
  | g :: fs, _, 0, f, h, e => by
    cases h with
    | cons h1 h2 =>
      simp at e
      subst e
      exact ⟨_, rfl, h1⟩
  | g :: fs, _, i + 1, f, h, e => by
    cases h with
    | cons h1 h2 => exact Dens.get (i := i) h2 (by simpa using e)
theorem Dens.append : ∀ {fs gs : List F} {vs us : List V}, Dens K Z vs fs → Dens K Z us gs → Dens K Z (vs ++ us) (fs ++ gs)
  | [], _, _, _, h, q => by cases h; exact q
  | f :: fs, _, _, _, h, q => by
    cases h with
    | cons h1 h2 => exact .cons h1 (Dens.append h2 q)
theorem Dens.take : ∀ {fs : List F} {vs : List V} (n : Nat), Dens K Z vs fs → Dens K Z (vs.take n) (fs.take n)
  | _, _, 0, _ => .nil
  | [], _, n + 1, h => by cases h; exact .nil
  | f :: fs, _, n + 1, h => by
    cases h with
    | cons h1 h2 => exact .cons h1 (Dens.take n h2)
theorem Dens.drop : ∀ {fs : List F} {vs : List V} (n : Nat), Dens K Z vs fs → Dens K Z (vs.drop n) (fs.drop n)
  | _, _, 0, h => h
  | [], _, n + 1, h => by cases h; exact .nil
  | f :: fs, _, n + 1, h => by
    cases h with
    | cons h1 h2 => exact Dens.drop n h2
theorem Dens.set : ∀ {fs : List F} {vs : List V} (n : Nat) {v : V} {f : F}, Den K Z v f → Dens K Z vs fs → Dens K Z (vs.set n v) (fs.set n f)
  | [], _, _, _, _, _, h => by cases h; exact .nil
  | f :: fs, _, 0, _, _, d, h => by
    cases h with
    | cons h1 h2 => exact .cons d h2
  | f :: fs, _, n + 1, _, _, d, h => by
    cases h with
    | cons h1 h2 => exact .cons h1 (Dens.set n d h2)
theorem Dens.eraseIdx : ∀ {fs : List F} {vs : List V} (n : Nat), Dens K Z vs fs → Dens K Z (vs.eraseIdx n) (fs.eraseIdx n)
  | [], _, _, h => by cases h; exact .nil
  | f :: fs, _, 0, h => by
    cases h with
    | cons h1 h2 => exact h2
  | f :: fs, _, n + 1, h => by
    cases h with
    | cons h1 h2 => exact .cons h1 (Dens.eraseIdx n h2)
theorem Dens.reverse {fs : List F} {vs : List V} (h : Dens K Z vs fs) : Dens K Z vs.reverse fs.reverse := by
  induction fs generalizing vs with
  | nil => cases h; exact .nil
  | cons f fs ih =>
    cases h with
    | cons h1 h2 =>
      rw [List.reverse_cons, List.reverse_cons]
      exact (ih h2).append (.cons h1 .nil)
theorem Dens.rep {fs : List F} {vs : List V} (h : Dens K Z vs fs) : ∀ k : Nat, Dens K Z (List.replicate k vs).flatten (List.replicate k fs).flatten
  | 0 => .nil
  | k + 1 => by
    rw [List.replicate_succ, List.replicate_succ, List.flatten_cons, List.flatten_cons]
    exact h.append (h.rep k)
theorem Dens.nil_iff (h : Dens K Z vs fs) : vs = [] ↔ fs = [] := by
  have e := h.length
  constructor <;> intro q <;> subst q <;> simp at e
  · exact List.eq_nil_of_length_eq_zero e.symm
  · exact e
/-- ints, bools, texts -/
theorem Dens.ints : ∀ {ns : List Int} {vs : List V}, Dens K Z vs (ns.map F.int) → vs = ns.map V.int
  | [], _, h => by cases h; rfl
  | n :: ns, _, h => by
    cases h with
    | cons h1 h2 => cases h1; rw [Dens.ints h2]; rfl
theorem Dens.bls : ∀ {ns : List Bool} {vs : List V}, Dens K Z vs (ns.map F.bl) → vs = ns.map V.bl
  | [], _, h => by cases h; rfl
  | n :: ns, _, h => by
    cases h with
    | cons h1 h2 => cases h1; rw [Dens.bls h2]; rfl
theorem Dens.strs : ∀ {ns : List Str} {vs : List V}, Dens K Z vs (ns.map F.str) → vs = ns.map V.str
  | [], _, h => by cases h; rfl
  | n :: ns, _, h => by
    cases h with
    | cons h1 h2 => cases h1; rw [Dens.strs h2]; rfl
theorem dens_ints : ∀ (ns : List Int), Dens K Z (ns.map V.int) (ns.map F.int)
  | [] => .nil
  | n :: ns => .cons (.int n) (dens_ints ns)

theorem REnv.ext (r : REnv K Z ρ σ) (z : ∀ a o, Z a = some o → Z' a = some o) : REnv K Z' ρ σ := ⟨r.len, fun i f e => by
  obtain ⟨v, h1, h2⟩ := r.at_ i f e
  exact ⟨v, h1, h2.ext z⟩⟩
theorem REnv.set (r : REnv K Z ρ σ) (i : Nat) (d : Den K Z v f) : REnv K Z (ρ.set i (some f)) (σ.set i (some v)) := by
  refine ⟨by rw [List.length_set, List.length_set, r.len], fun j g e => ?_⟩
  by_cases hij : i = j
  · subst hij
    by_cases hl : i < ρ.length
    · rw [List.getElem?_set_self hl] at e
      cases e
      exact ⟨v, List.getElem?_set_self (by rw [← r.len]; exact hl), d⟩
    · rw [List.getElem?_eq_none (by rw [List.length_set]; omega)] at e
      cases e
  · rw [List.getElem?_set_ne hij] at e
    rw [List.getElem?_set_ne hij]
    exact r.at_ j g e
theorem RelS.nz (r : RelS K Z S H) (h : H p = none) : Z p = none := by
  cases q : Z p with
  | none => rfl
  | some o =>
    have := (r.z _ _ q).1
    rw [h] at this
    cases this
theorem DHold.nl {vs : List V} {c : DC} (h : DHold K Z (.lst vs) c) : False := by
  cases c with
  | t kvs => obtain ⟨ks, e, _⟩ := h; cases e
  | k kvs => obtain ⟨ks, e, _⟩ := h; cases e
  | m kvs => obtain ⟨ks, e, _⟩ := h; cases e
theorem DHold.ext {o : HO} {c : DC} (z : ∀ a o, Z a = some o → Z' a = some o) (h : DHold K Z o c) : DHold K Z' o c := by
  cases c with
  | t kvs => obtain ⟨ks, e, h1, h2⟩ := h; exact ⟨ks, e, h1, h2.ext z⟩
  | k kvs => obtain ⟨ks, e, h1, h2⟩ := h; exact ⟨ks, e, h1, h2.ext z⟩
  | m kvs => obtain ⟨ks, e, h1, h2⟩ := h; exact ⟨ks, e, h1, h2.ext z⟩
theorem RelS.ns (r : RelS K Z S H) (h : H p = none) : S p = none := by
  cases q : S p with
  | none => rfl
  | some o =>
    obtain ⟨vs, e, _⟩ := r.s _ _ q
    rw [h] at e
    cases e
theorem RelS.nd (r : RelS K Z S H) (h : H p = none) : S.d p = none := by
  cases q : S.d p with
  | none => rfl
  | some o =>
    obtain ⟨vs, e, _⟩ := r.d _ _ q
    rw [h] at e
    cases e
theorem RelS.nf (r : RelS K Z S H) (h : H p = none) : Fre S p := ⟨r.ns h, r.nd h⟩
theorem RelS.dl (r : RelS K Z S H) (h : H p = some (.lst vs)) : S.d p = none := by
  cases q : S.d p with
  | none => rfl
  | some o =>
    obtain ⟨o, e, d⟩ := r.d _ _ q
    rw [h] at e
    cases e
    exact d.nl.elim
/-- a new object, kept frozen -/
theorem RelS.newZ (r : RelS K Z S H) (h : H p = none) (o : HO) : RelS K (upd Z p o) S (upd H p o) ∧ Ext Z S H (upd Z p o) S (upd H p o) := by
  have hz := r.nz h
  have hx : ∀ a u, Z a = some u → upd Z p o a = some u := fun a u q => by rw [upd_ne (ne_of_none q hz)]; exact q
  refine ⟨⟨fun a u q => ?_, fun a fs q => ?_, fun a c q => ?_⟩, ⟨hx, fun a u q hq => ?_, fun a q => upd_none q⟩⟩
  · by_cases ha : a = p
    · subst ha
      rw [upd_same] at q ⊢
      exact ⟨q, r.nf h⟩
    · rw [upd_ne ha] at q ⊢
      exact r.z a u q
  · obtain ⟨vs, e, d⟩ := r.s a fs q
    exact ⟨vs, by rw [upd_ne (ne_of_none e h)]; exact e, d.ext hx⟩
  · obtain ⟨v, e, d⟩ := r.d a c q
    exact ⟨v, by rw [upd_ne (ne_of_none e h)]; exact e, d.ext hx⟩
  · have ha : a ≠ p := ne_of_none q h
    rw [upd_ne ha, upd_ne ha]
    exact ⟨q, hq, rfl⟩
/-- a new object, that nobody holds yet -/
theorem RelS.new (r : RelS K Z S H) (h : H p = none) (o : HO) : RelS K Z S (upd H p o) ∧ Ext Z S H Z S (upd H p o) := by
  have hz := r.nz h
  refine ⟨⟨fun a u q => ?_, fun a fs q => ?_, fun a c q => ?_⟩, ⟨fun _ _ q => q, fun a u q hq => ?_, fun a q => upd_none q⟩⟩
  · rw [upd_ne (ne_of_none q hz)]
    exact r.z a u q
  · obtain ⟨vs, e, d⟩ := r.s a fs q
    exact ⟨vs, by rw [upd_ne (ne_of_none e h)]; exact e, d⟩
  · obtain ⟨v, e, d⟩ := r.d a c q
    exact ⟨v, by rw [upd_ne (ne_of_none e h)]; exact e, d⟩
  · have ha : a ≠ p := ne_of_none q h
    rw [upd_ne ha]
    exact ⟨q, hq, rfl⟩
/-- a list that nobody holds is frozen; is kept as one that changes -/
theorem RelS.freeze (r : RelS K Z S H) (h : H p = some (.lst vs)) (hz : Z p = none) (hs : S p = none) : RelS K (upd Z p (.lst vs)) S H := by
  have hx : ∀ a u, Z a = some u → upd Z p (.lst vs) a = some u := fun a u q => by rw [upd_ne (ne_of_none q hz)]; exact q
  refine ⟨fun a u q => ?_, fun a fs q => ?_, fun a c q => ?_⟩
  · by_cases ha : a = p
    · subst ha
      rw [upd_same] at q
      exact ⟨h.trans q, hs, r.dl h⟩
    · rw [upd_ne ha] at q
      exact r.z a u q
  · obtain ⟨us, e, d⟩ := r.s a fs q
    exact ⟨us, e, d.ext hx⟩
  · obtain ⟨us, e, d⟩ := r.d a c q
    exact ⟨us, e, d.ext hx⟩
theorem upd_ext {o : HO} (hz : Z p = none) : ∀ a u, Z a = some u → upd Z p o a = some u := fun a u q => by rw [upd_ne (ne_of_none q hz)]; exact q
theorem fre_updS (h : Fre S a) (ha : a ≠ p) : Fre (updS S p fs) a := ⟨by rw [updS_ne ha]; exact h.s, h.d⟩
theorem fre_updD {c : DC} (h : Fre S a) (ha : a ≠ p) : Fre (updD S p c) a := ⟨h.s, by rw [updD_ne ha]; exact h.d⟩
theorem fre_delS (h : Fre S a) (ha : a ≠ p) : Fre (delS S p) a := ⟨by rw [delS_ne ha]; exact h.s, h.d⟩
theorem RelS.own (r : RelS K Z S H) (h : H p = some (.lst vs)) (hz : Z p = none) (d : Dens K Z vs fs) : RelS K Z (updS S p fs) H := by
  refine ⟨fun a u q => ?_, fun a gs q => ?_, r.d⟩
  · have ha : a ≠ p := ne_of_none q hz
    exact ⟨(r.z a u q).1, fre_updS (r.z a u q).2 ha⟩
  · by_cases ha : a = p
    · subst ha
      rw [updS_same] at q
      cases q
      exact ⟨vs, h, d⟩
    · rw [updS_ne ha] at q
      exact r.s a gs q
/-- a dict that nobody holds is kept as one that changes -/
theorem RelS.ownD {o : HO} {c : DC} (r : RelS K Z S H) (h : H p = some o) (hz : Z p = none) (d : DHold K Z o c) : RelS K Z (updD S p c) H := by
  refine ⟨fun a u q => ?_, r.s, fun a b q => ?_⟩
  · have ha : a ≠ p := ne_of_none q hz
    exact ⟨(r.z a u q).1, fre_updD (r.z a u q).2 ha⟩
  · by_cases ha : a = p
    · subst ha
      rw [updD_same] at q
      cases q
      exact ⟨o, h, d⟩
    · rw [updD_ne ha] at q
      exact r.d a b q
/-- a list that changes is changed -/
theorem RelS.write (r : RelS K Z S H) {gs : List F} {us : List V} (h : S p = some fs) (d : Dens K Z us gs) : RelS K Z (updS S p gs) (upd H p (.lst us)) ∧ Ext Z S H Z (updS S p gs) (upd H p (.lst us)) := by
  obtain ⟨vs0, e0, d0⟩ := r.s p fs h
  refine ⟨⟨fun a u q => ?_, fun a gs q => ?_, fun a c q => ?_⟩, ⟨fun _ _ q => q, fun a u q hq => ?_, fun a q => upd_none q⟩⟩
  · obtain ⟨q1, q2⟩ := r.z a u q
    have ha : a ≠ p := fun e => by subst e; rw [q2.s] at h; cases h
    rw [upd_ne ha]
    exact ⟨q1, fre_updS q2 ha⟩
  · by_cases ha : a = p
    · subst ha
      rw [updS_same] at q
      cases q
      exact ⟨us, upd_same, d⟩
    · rw [updS_ne ha] at q
      obtain ⟨ws, e, d⟩ := r.s a gs q
      exact ⟨ws, by rw [upd_ne ha]; exact e, d⟩
  · obtain ⟨o, e, d⟩ := r.d a c q
    have ha : a ≠ p := fun e2 => by subst e2; rw [e0] at e; cases e; exact d.nl.elim
    exact ⟨o, by rw [upd_ne ha]; exact e, d⟩
  · have ha : a ≠ p := fun e => by subst e; rw [hq.s] at h; cases h
    rw [upd_ne ha]
    exact ⟨q, fre_updS hq ha, rfl⟩
/-- a dict that changes is changed -/
theorem RelS.writeD (r : RelS K Z S H) {c c' : DC} {o : HO} (h : S.d p = some c) (d : DHold K Z o c') : RelS K Z (updD S p c') (upd H p o) ∧ Ext Z S H Z (updD S p c') (upd H p o) := by
  obtain ⟨o0, e0, d0⟩ := r.d p c h
  refine ⟨⟨fun a u q => ?_, fun a gs q => ?_, fun a b q => ?_⟩, ⟨fun _ _ q => q, fun a u q hq => ?_, fun a q => upd_none q⟩⟩
  · obtain ⟨q1, q2⟩ := r.z a u q
    have ha : a ≠ p := fun e => by subst e; rw [q2.d] at h; cases h
    rw [upd_ne ha]
    exact ⟨q1, fre_updD q2 ha⟩
  · obtain ⟨ws, e, d⟩ := r.s a gs q
    have ha : a ≠ p := fun e2 => by subst e2; rw [e0] at e; cases e; exact d0.nl.elim
    exact ⟨ws, by rw [upd_ne ha]; exact e, d⟩
  · by_cases ha : a = p
    · subst ha
      rw [updD_same] at q
      cases q
      exact ⟨o, upd_same, d⟩
    · rw [updD_ne ha] at q
      obtain ⟨ws, e, d⟩ := r.d a b q
      exact ⟨ws, by rw [upd_ne ha]; exact e, d⟩
  · have ha : a ≠ p := fun e => by subst e; rw [hq.d] at h; cases h
    rw [upd_ne ha]
    exact ⟨q, fre_updD hq ha, rfl⟩
/-- a list that changes is frozen -/
theorem RelS.freezeS (r : RelS K Z S H) (h : S p = some fs) : ∃ vs, H p = some (.lst vs) ∧ RelS K (upd Z p (.lst vs)) (delS S p) H ∧ Ext Z S H (upd Z p (.lst vs)) (delS S p) H ∧ Den K (upd Z p (.lst vs)) (.ref p) (.lst fs) := by
  obtain ⟨vs, e, d⟩ := r.s p fs h
  have hz : Z p = none := by
    cases q : Z p with
    | none => rfl
    | some o =>
      have := (r.z _ _ q).2.s
      rw [h] at this
      cases this
  refine ⟨vs, e, ⟨fun a u q => ?_, fun a gs q => ?_, fun a c q => ?_⟩, ⟨upd_ext hz, fun a u q hq => ?_, fun a q => q⟩, .lst upd_same (d.ext (upd_ext hz))⟩
  · by_cases ha : a = p
    · subst ha
      rw [upd_same] at q
      exact ⟨e.trans q, delS_same, r.dl e⟩
    · rw [upd_ne ha] at q
      exact ⟨(r.z a u q).1, fre_delS (r.z a u q).2 ha⟩
  · by_cases ha : a = p
    · subst ha
      rw [delS_same] at q
      cases q
    · rw [delS_ne ha] at q
      obtain ⟨us, e, d⟩ := r.s a gs q
      exact ⟨us, e, d.ext (upd_ext hz)⟩
  · obtain ⟨us, e, d⟩ := r.d a c q
    exact ⟨us, e, d.ext (upd_ext hz)⟩
  · have ha : a ≠ p := fun e => by subst e; rw [hq.s] at h; cases h
    rw [upd_ne ha]
    exact ⟨q, fre_delS hq ha, rfl⟩
theorem RelS.sqT (r : RelS K Z S H) (h : SqT K Z a vs) : SqT K H a vs := SqT_ext (fun a o q => (r.z a o q).1) h
theorem RelS.sqL (r : RelS K Z S H) (h : SqL K Z a vs) : SqL K H a vs := SqL_ext (fun a o q => (r.z a o q).1) h
/-- nothing else of the store than what was there -/
def restr (S S' : Sto) : Sto := ⟨fun a => if (S a).isSome = true then S' a else none, fun a => if (S.d a).isSome = true then S'.d a else none⟩
theorem fre_restr {S0 : Sto} (h : Fre S a) : Fre (restr S0 S) a := ⟨by
  unfold DL.restr
  dsimp only
  split
  · exact h.s
  · rfl, by
  unfold DL.restr
  dsimp only
  split
  · exact h.d
  · rfl⟩
theorem RelS.restr (r : RelS K Z' S' H') (S : Sto) : RelS K Z' (restr S S') H' := by
  refine ⟨fun a u q => ⟨(r.z a u q).1, fre_restr (r.z a u q).2⟩, fun a fs q => ?_, fun a c q => ?_⟩
  · unfold DL.restr at q
    dsimp only at q
    split at q
    · exact r.s a fs q
    · cases q
  · unfold DL.restr at q
    dsimp only at q
    split at q
    · exact r.d a c q
    · cases q
theorem Ext.restr (x : Ext Z S H Z' S' H') : Ext Z S H Z' (restr S S') H' := ⟨x.z, fun a o h hs => by
  obtain ⟨h1, h2, h3⟩ := x.h a o h hs
  exact ⟨h1, fre_restr h2, h3⟩, x.d⟩
theorem restr_self : restr S S = S := by
  refine Sto.ext' (fun a => ?_) fun a => ?_
  · unfold DL.restr
    dsimp only
    cases e : S a <;> rfl
  · unfold DL.restr
    dsimp only
    cases e : S.d a <;> rfl
end
end DL

set_option maxHeartbeats 4000000
namespace DL
open PySem PySem.Spec PyProof.Rows L2

abbrev W (α : Type) := Slots → Sto → (α → Sto → Prop) → Prop
def Mono {α : Type} (m : W α) : Prop := ∀ ρ S (Q Q' : α → Sto → Prop), (∀ d S', Q d S' → Q' d S') → m ρ S Q → m ρ S Q'
abbrev DFin (K : PySem.W.Frag) (Z : Hp) (S : Sto) (H : Hp) (Q : VK) (d : F) (S' : Sto) : Prop := ∀ v Z' H', Ext Z S H Z' S' H' → RelS K Z' S' H' → Den K Z' v d → Q v H'
abbrev DsFin (K : PySem.W.Frag) (Z : Hp) (S : Sto) (H : Hp) (Q : List V → Hp → Prop) (d : List F) (S' : Sto) : Prop := ∀ v Z' H', Ext Z S H Z' S' H' → RelS K Z' S' H' → Dens K Z' v d → Q v H'
abbrev BFin (K : PySem.W.Frag) (Z : Hp) (S : Sto) (H : Hp) (Q : Bool → Hp → Prop) (d : Bool) (S' : Sto) : Prop := ∀ Z' H', Ext Z S H Z' S' H' → RelS K Z' S' H' → Q d H'
/-- a new list at p, held by nobody -/
abbrev LFin (K : PySem.W.Frag) (Z : Hp) (S : Sto) (H : Hp) (Q : VK) (d : List F) (S' : Sto) : Prop := ∀ p vs Z' H', Ext Z S H Z' S' H' → RelS K Z' S' H' → H p = none → H' p = some (.lst vs) → Z' p = none → S' p = none → Dens K Z' vs d → Q (.ref p) H'
def tD (K : PySem.W.Frag) (m : W F) : TE := fun σ H Q => ∃ ρ S Z, REnv K Z ρ σ ∧ RelS K Z S H ∧ m ρ S (DFin K Z S H Q)
def tDs (K : PySem.W.Frag) (m : W (List F)) : TA := fun σ H Q => ∃ ρ S Z, REnv K Z ρ σ ∧ RelS K Z S H ∧ m ρ S (DsFin K Z S H Q)
def tB2 (K : PySem.W.Frag) (m : W Bool) : TT := fun σ H Q => ∃ ρ S Z, REnv K Z ρ σ ∧ RelS K Z S H ∧ m ρ S (BFin K Z S H Q)
def tL (K : PySem.W.Frag) (m : W (List F)) : TE := fun σ H Q => ∃ ρ S Z, REnv K Z ρ σ ∧ RelS K Z S H ∧ m ρ S (LFin K Z S H Q)
structure PD (X : Cx) (e : Expr) (m : W F) : Prop where
  mono : Mono m
  run : PE X e (tD X.K m)
structure PL (X : Cx) (e : Expr) (m : W (List F)) : Prop where
  mono : Mono m
  run : PE X e (tL X.K m)
structure PDs (X : Cx) (es : List Expr) (m : W (List F)) : Prop where
  mono : Mono m
  run : PA X es (tDs X.K m)
structure PB (X : Cx) (e : Expr) (m : W Bool) : Prop where
  mono : Mono m
  run : PT X e (tB2 X.K m)
structure PBW (X : Cx) (e : Expr) (m : W Bool) : Prop where
  mono : Mono m
  run : PW X e (tB2 X.K m)

theorem weakE {X : Cx} {e : Expr} {t t' : TE} (h : PE X e t) (k : ∀ σ H Q, t' σ H Q → t σ H Q) : PE X e t' := ⟨fun pins s σ H Q I q => h.run pins s σ H Q I (k σ H Q q)⟩
theorem weakT {X : Cx} {e : Expr} {t t' : TT} (h : PT X e t) (k : ∀ σ H Q, t' σ H Q → t σ H Q) : PT X e t' := ⟨fun pins s σ H Q I q => h.run pins s σ H Q I (k σ H Q q)⟩
theorem weakW {X : Cx} {e : Expr} {t t' : TT} (h : PW X e t) (k : ∀ σ H Q, t' σ H Q → t σ H Q) : PW X e t' := ⟨fun w pins s σ H Q I q => h.run w pins s σ H Q I (k σ H Q q)⟩
theorem weakA {X : Cx} {e : List Expr} {t t' : TA} (h : PA X e t) (k : ∀ σ H Q, t' σ H Q → t σ H Q) : PA X e t' := ⟨fun p pins s σ H Q I q => h.run p pins s σ H Q I (k σ H Q q)⟩

section
variable {K : PySem.W.Frag} {Z Z' H H' : Hp} {S S' : Sto} {ρ : Slots} {σ : Sig}
theorem tD_in {m : W F} (hm : Mono m) {P : F → Sto → Prop} {Q : VK} (r : REnv K Z ρ σ) (R : RelS K Z S H) (h : m ρ S P) (k : ∀ x S1 v Z1 H1, P x S1 → Ext Z S H Z1 S1 H1 → RelS K Z1 S1 H1 → Den K Z1 v x → Q v H1) : tD K m σ H Q :=
  ⟨ρ, S, Z, r, R, hm _ _ _ _ (fun x S1 p v Z1 H1 e R1 d => k x S1 v Z1 H1 p e R1 d) h⟩
theorem tDs_in {m : W (List F)} (hm : Mono m) {P : List F → Sto → Prop} {Q : List V → Hp → Prop} (r : REnv K Z ρ σ) (R : RelS K Z S H) (h : m ρ S P) (k : ∀ x S1 v Z1 H1, P x S1 → Ext Z S H Z1 S1 H1 → RelS K Z1 S1 H1 → Dens K Z1 v x → Q v H1) : tDs K m σ H Q :=
  ⟨ρ, S, Z, r, R, hm _ _ _ _ (fun x S1 p v Z1 H1 e R1 d => k x S1 v Z1 H1 p e R1 d) h⟩
theorem tB_in {m : W Bool} (hm : Mono m) {P : Bool → Sto → Prop} {Q : Bool → Hp → Prop} (r : REnv K Z ρ σ) (R : RelS K Z S H) (h : m ρ S P) (k : ∀ x S1 Z1 H1, P x S1 → Ext Z S H Z1 S1 H1 → RelS K Z1 S1 H1 → Q x H1) : tB2 K m σ H Q :=
  ⟨ρ, S, Z, r, R, hm _ _ _ _ (fun x S1 p Z1 H1 e R1 => k x S1 Z1 H1 p e R1) h⟩
theorem tL_in {m : W (List F)} (hm : Mono m) {P : List F → Sto → Prop} {Q : VK} (r : REnv K Z ρ σ) (R : RelS K Z S H) (h : m ρ S P) (k : ∀ x S1 p vs Z1 H1, P x S1 → Ext Z S H Z1 S1 H1 → RelS K Z1 S1 H1 → H p = none → H1 p = some (.lst vs) → Z1 p = none → S1 p = none → Dens K Z1 vs x → Q (.ref p) H1) : tL K m σ H Q :=
  ⟨ρ, S, Z, r, R, hm _ _ _ _ (fun x S1 q p vs Z1 H1 e R1 n1 n2 n3 n4 d => k x S1 p vs Z1 H1 q e R1 n1 n2 n3 n4 d) h⟩
end

/-! ### names, constants -/
def wVar (i : Nat) : W F := fun ρ S Q => match ρ[i]? with | some (some f) => Q f S | _ => False
def wC (f : F) : W F := fun _ S Q => Q f S
theorem mono_wVar {i : Nat} : Mono (wVar i) := fun ρ S Q Q' k h => by
  unfold wVar at h ⊢
  split at h
  · exact k _ _ h
  · exact h.elim
theorem mono_wC {f : F} : Mono (wC f) := fun ρ S Q Q' k h => k _ _ h
theorem wVar_of {ρ : Slots} {S : Sto} {Q : F → Sto → Prop} {i : Nat} (h : wVar i ρ S Q) : ∃ f, ρ[i]? = some (some f) ∧ Q f S := by
  unfold wVar at h
  split at h
  · exact ⟨_, by assumption, h⟩
  · exact h.elim
section
variable {X : Cx} {a b c e : Expr} {pos : Pos} {m ma mb mc : W F}
theorem pd_var {i : Nat} (h : PE X e (tVar i)) : PD X e (wVar i) := ⟨mono_wVar, weakE h fun σ H Q ⟨ρ, S, Z, r, R, h⟩ => by
  obtain ⟨f, e1, q⟩ := wVar_of h
  obtain ⟨v, e2, d⟩ := r.at_ i f e1
  exact ⟨v, e2, q v Z H .refl R d⟩⟩
theorem pd_const {v : V} {f : F} (h : PE X e (tC v)) (d : ∀ Z, Den X.K Z v f) : PD X e (wC f) := ⟨mono_wC, weakE h fun σ H Q ⟨ρ, S, Z, r, R, h⟩ => h v Z H .refl R (d Z)⟩
theorem pd_int {i j} : PD X (.Constant (.int i) j pos) (wC (.int i)) := pd_const pe_int fun _ => .int _
theorem pd_bl {i j} : PD X (.Constant (.bool i) j pos) (wC (.bl i)) := pd_const pe_bl fun _ => .bl _
theorem pd_non {j} : PD X (.Constant .none j pos) (wC .non) := pd_const pe_non fun _ => .non
theorem pd_str {i j} : PD X (.Constant (.str i) j pos) (wC (.str i)) := pd_const pe_str fun _ => .str _

/-! ### operators -/
abbrev DOp := F → F → Sto → (F → Sto → Prop) → Prop
def rD (K : PySem.W.Frag) (o : DOp) : R2 := fun x y H Q => ∃ d e S Z, Den K Z x d ∧ Den K Z y e ∧ RelS K Z S H ∧ o d e S (DFin K Z S H Q)
def MonoO (o : DOp) : Prop := ∀ x y S (Q Q' : F → Sto → Prop), (∀ d S', Q d S' → Q' d S') → o x y S Q → o x y S Q'
structure OpD (X : Cx) (f : Value → Value → Sem Value) (o : DOp) : Prop where
  mono : MonoO o
  run : OpR X f (rD X.K o)
structure IxD (X : Cx) (o : DOp) : Prop where
  mono : MonoO o
  run : IxR X (rD X.K o)
def wOp (o : DOp) (ma mb : W F) : W F := fun ρ S Q => ma ρ S fun x S1 => mb ρ S1 fun y S2 => o x y S2 Q
theorem mono_wOp {o : DOp} (ho : MonoO o) (ha : Mono ma) (hb : Mono mb) : Mono (wOp o ma mb) := fun ρ S Q Q' k h => ha _ _ _ _ (fun x S1 h => hb _ _ _ _ (fun y S2 h => ho _ _ _ _ _ k h) h) h
theorem tOp_in {o : DOp} (ho : MonoO o) (ha : Mono ma) (hb : Mono mb) {K : PySem.W.Frag} {σ : Sig} {H : Hp} {Q : VK} (h : tD K (wOp o ma mb) σ H Q) : tOp (rD K o) (tD K ma) (tD K mb) σ H Q := by
  obtain ⟨ρ, S, Z, r, R, h⟩ := h
  refine tD_in ha r R h fun x S1 v1 Z1 H1 p e1 R1 d1 => ?_
  refine tD_in hb (r.ext e1.z) R1 p fun y S2 v2 Z2 H2 p2 e2 R2 d2 => ?_
  exact ⟨x, y, S2, Z2, d1.ext e2.z, d2, R2, ho _ _ _ _ _ (fun z S3 q v Z' H' e3 R3 d3 => q v Z' H' ((e1.trans e2).trans e3) R3 d3) p2⟩
theorem pd_op {op : Operator} {o : DOp} (ho : OpD X (binaryOp op) o) (ha : PD X a ma) (hb : PD X b mb) : PD X (.BinOp a op b pos) (wOp o ma mb) :=
  ⟨mono_wOp ho.mono ha.mono hb.mono, weakE (pe_op ho.run ha.run hb.run) fun _ _ _ h => tOp_in ho.mono ha.mono hb.mono h⟩
theorem pd_cmp {op : CmpOp} {o : DOp} (ho : OpD X (compareOp op) o) (ha : PD X a ma) (hb : PD X b mb) (hm : behindInMarks op b = false) : PD X (.Compare a [op] [b] pos) (wOp o ma mb) :=
  ⟨mono_wOp ho.mono ha.mono hb.mono, weakE (pe_cmpR ho.run ha.run hb.run hm) fun _ _ _ h => tOp_in ho.mono ha.mono hb.mono h⟩
theorem pd_ix {o : DOp} (ho : IxD X o) (ha : PD X a ma) (hb : PD X b mb) (hs : PlainIx b) : PD X (.Subscript a b pos) (wOp o ma mb) :=
  ⟨mono_wOp ho.mono ha.mono hb.mono, weakE (pe_ix ho.run ha.run hb.run hs) fun _ _ _ h => tOp_in ho.mono ha.mono hb.mono h⟩
/-- the answer as a test -/
def asB (Q : Bool → Sto → Prop) : F → Sto → Prop := fun x S => match x with | .bl c => Q c S | _ => False
def wTst (m : W F) : W Bool := fun ρ S Q => m ρ S (asB Q)
theorem mono_asB {Q Q' : Bool → Sto → Prop} (k : ∀ d S', Q d S' → Q' d S') : ∀ d S', asB Q d S' → asB Q' d S' := fun d S' h => by
  cases d with
  | bl c => exact k _ _ h
  | _ => exact h.elim
theorem mono_wTst (h : Mono m) : Mono (wTst m) := fun ρ S Q Q' k q => h _ _ _ _ (mono_asB k) q
theorem asB_of {Q : Bool → Sto → Prop} {d : F} {S : Sto} (h : asB Q d S) : ∃ c, d = .bl c ∧ Q c S := by
  cases d with
  | bl c => exact ⟨c, rfl, h⟩
  | _ => exact h.elim
theorem den_bl {K : PySem.W.Frag} {Z : Hp} {v : V} {c : Bool} (h : Den K Z v (.bl c)) : v = .bl c := by cases h; rfl
theorem den_int {K : PySem.W.Frag} {Z : Hp} {v : V} {c : Int} (h : Den K Z v (.int c)) : v = .int c := by cases h; rfl
theorem den_str {K : PySem.W.Frag} {Z : Hp} {v : V} {c : Str} (h : Den K Z v (.str c)) : v = .str c := by cases h; rfl
theorem den_non {K : PySem.W.Frag} {Z : Hp} {v : V} (h : Den K Z v .non) : v = .non := by cases h; rfl
theorem tst_in {K : PySem.W.Frag} {σ : Sig} {H : Hp} {Q : Bool → Hp → Prop} (hm : Mono m) (h : tB2 K (wTst m) σ H Q) : tB (tD K m) σ H Q := by
  obtain ⟨ρ, S, Z, r, R, h⟩ := h
  refine tD_in hm r R h fun x S1 v1 Z1 H1 p e1 R1 d1 => ?_
  obtain ⟨c, rfl, q⟩ := asB_of p
  exact ⟨c, den_bl d1, q Z1 H1 e1 R1⟩
theorem pb_cmp {op : CmpOp} {o : DOp} (ho : OpD X (compareOp op) o) (ha : PD X a ma) (hb : PD X b mb) (hm : behindInMarks op b = false) : PB X (.Compare a [op] [b] pos) (wTst (wOp o ma mb)) :=
  ⟨mono_wTst (mono_wOp ho.mono ha.mono hb.mono), weakT (pt_cmpR ho.run ha.run hb.run hm) fun σ H Q h => by
    have h2 := tst_in (mono_wOp ho.mono ha.mono hb.mono) h
    exact tOp_in ho.mono ha.mono hb.mono h2⟩
theorem pb_val (h : PD X e m) (he : ∀ whole, isTrue e X.env whole = (do let v ← whole; standAt e.pos; holding [v] (truthy v)) := by intro _; rfl) : PB X e (wTst m) :=
  ⟨mono_wTst h.mono, weakT (pt_val h.run he) fun _ _ _ q => tst_in h.mono q⟩
/-- a chain -/
def wChain (o o' : DOp) (ma mb mc : W F) : W F := fun ρ S Q => ma ρ S fun x S1 => mb ρ S1 fun y S2 => o x y S2 (asB fun k S3 => if k = true then mc ρ S3 fun z S4 => o' y z S4 Q else Q (.bl false) S3)
theorem mono_wChain {o o' : DOp} (ho : MonoO o) (ho' : MonoO o') (ha : Mono ma) (hb : Mono mb) (hc : Mono mc) : Mono (wChain o o' ma mb mc) := fun ρ S Q Q' k h =>
  ha _ _ _ _ (fun x S1 h => hb _ _ _ _ (fun y S2 h => ho _ _ _ _ _ (mono_asB fun c S3 h => by
    cases c with
    | true => exact hc _ _ _ _ (fun z S4 h => ho' _ _ _ _ _ k h) h
    | false => exact k _ _ h) h) h) h
theorem chain_in {o o' : DOp} (ho : MonoO o) (ho' : MonoO o') (ha : Mono ma) (hb : Mono mb) (hc : Mono mc) {K : PySem.W.Frag} {σ : Sig} {H : Hp} {Q : VK} (h : tD K (wChain o o' ma mb mc) σ H Q) : tChain (rD K o) (rD K o') (tD K ma) (tD K mb) (tD K mc) σ H Q := by
  obtain ⟨ρ, S, Z, r, R, h⟩ := h
  refine tD_in ha r R h fun x S1 v1 Z1 H1 p e1 R1 d1 => ?_
  refine tD_in hb (r.ext e1.z) R1 p fun y S2 v2 Z2 H2 p2 e2 R2 d2 => ?_
  refine ⟨x, y, S2, Z2, d1.ext e2.z, d2, R2, ho _ _ _ _ _ (fun z S3 q0 v Z' H' e3 R3 d3 => ?_) p2⟩
  obtain ⟨c, rfl, q⟩ := asB_of q0
  refine ⟨c, den_bl d3, ?_⟩
  cases c with
  | true =>
    rw [if_pos rfl] at q ⊢
    refine tD_in hc ((r.ext e1.z).ext (e2.trans e3).z) R3 q fun z S4 v4 Z4 H4 p4 e4 R4 d4 => ?_
    exact ⟨y, z, S4, Z4, d2.ext (e3.trans e4).z, d4, R4, ho' _ _ _ _ _ (fun z S5 q v Z' H' e5 R5 d5 => q v Z' H' ((e1.trans e2).trans (e3.trans (e4.trans e5))) R5 d5) p4⟩
  | false =>
    rw [if_neg Bool.false_ne_true] at q ⊢
    exact q _ Z' H' ((e1.trans e2).trans e3) R3 (.bl false)
theorem pd_chain {op op' : CmpOp} {o o' : DOp} (ho : OpD X (compareOp op) o) (ho' : OpD X (compareOp op') o') (ha : PD X a ma) (hb : PD X b mb) (hc : PD X c mc)
    (hm : lastMarks [op, op'] [b, c] = false := by with_unfolding_all rfl) : PD X (.Compare a [op, op'] [b, c] pos) (wChain o o' ma mb mc) :=
  ⟨mono_wChain ho.mono ho'.mono ha.mono hb.mono hc.mono, weakE (pe_chain ho.run ho'.run ha.run hb.run hc.run hm) fun _ _ _ h => chain_in ho.mono ho'.mono ha.mono hb.mono hc.mono h⟩
theorem pb_chain {op op' : CmpOp} {o o' : DOp} (ho : OpD X (compareOp op) o) (ho' : OpD X (compareOp op') o') (ha : PD X a ma) (hb : PD X b mb) (hc : PD X c mc)
    (hm : lastMarks [op, op'] [b, c] = false := by with_unfolding_all rfl) : PB X (.Compare a [op, op'] [b, c] pos) (wTst (wChain o o' ma mb mc)) :=
  ⟨mono_wTst (mono_wChain ho.mono ho'.mono ha.mono hb.mono hc.mono), weakT (pt_chain ho.run ho'.run ha.run hb.run hc.run hm) fun _ _ _ h => chain_in ho.mono ho'.mono ha.mono hb.mono hc.mono (tst_in (mono_wChain ho.mono ho'.mono ha.mono hb.mono hc.mono) h)⟩

/-! ### and, or, not, if -/
def wAnd (ma mb : W F) : W F := fun ρ S Q => ma ρ S (asB fun k S1 => if k = true then mb ρ S1 Q else Q (.bl false) S1)
def wOr (ma mb : W F) : W F := fun ρ S Q => ma ρ S (asB fun k S1 => if k = true then Q (.bl true) S1 else mb ρ S1 Q)
def wNot (ma : W F) : W F := fun ρ S Q => ma ρ S (asB fun k S1 => Q (.bl (!k)) S1)
theorem mono_wAnd (ha : Mono ma) (hb : Mono mb) : Mono (wAnd ma mb) := fun ρ S Q Q' k h => ha _ _ _ _ (mono_asB fun c S1 h => by
  cases c with
  | true => exact hb _ _ _ _ k h
  | false => exact k _ _ h) h
theorem mono_wOr (ha : Mono ma) (hb : Mono mb) : Mono (wOr ma mb) := fun ρ S Q Q' k h => ha _ _ _ _ (mono_asB fun c S1 h => by
  cases c with
  | false => exact hb _ _ _ _ k h
  | true => exact k _ _ h) h
theorem mono_wNot (ha : Mono ma) : Mono (wNot ma) := fun ρ S Q Q' k h => ha _ _ _ _ (mono_asB fun c S1 h => k _ _ h) h
theorem pd_one {op} (h : PD X a ma) : PD X (.BoolOp op [a] pos) ma := ⟨h.mono, pe_one h.run⟩
theorem pd_and {rest : List Expr} (ha : PD X a ma) (hb : PD X (.BoolOp .And (b :: rest) pos) mb) : PD X (.BoolOp .And (a :: b :: rest) pos) (wAnd ma mb) :=
  ⟨mono_wAnd ha.mono hb.mono, weakE (pe_and ha.run hb.run) fun σ H Q ⟨ρ, S, Z, r, R, h⟩ => by
    refine tD_in ha.mono r R h fun x S1 v1 Z1 H1 p e1 R1 d1 => ?_
    obtain ⟨c, rfl, q⟩ := asB_of p
    refine ⟨c, den_bl d1, ?_⟩
    cases c with
    | true =>
      rw [if_pos rfl] at q ⊢
      exact tD_in hb.mono (r.ext e1.z) R1 q fun y S2 v2 Z2 H2 p2 e2 R2 d2 => p2 _ _ _ (e1.trans e2) R2 d2
    | false =>
      rw [if_neg Bool.false_ne_true] at q ⊢
      exact q _ Z1 H1 e1 R1 (.bl false)⟩
theorem pd_or {rest : List Expr} (ha : PD X a ma) (hb : PD X (.BoolOp .Or (b :: rest) pos) mb) : PD X (.BoolOp .Or (a :: b :: rest) pos) (wOr ma mb) :=
  ⟨mono_wOr ha.mono hb.mono, weakE (pe_or ha.run hb.run) fun σ H Q ⟨ρ, S, Z, r, R, h⟩ => by
    refine tD_in ha.mono r R h fun x S1 v1 Z1 H1 p e1 R1 d1 => ?_
    obtain ⟨c, rfl, q⟩ := asB_of p
    refine ⟨c, den_bl d1, ?_⟩
    cases c with
    | false =>
      rw [if_neg Bool.false_ne_true] at q ⊢
      exact tD_in hb.mono (r.ext e1.z) R1 q fun y S2 v2 Z2 H2 p2 e2 R2 d2 => p2 _ _ _ (e1.trans e2) R2 d2
    | true =>
      rw [if_pos rfl] at q ⊢
      exact q _ Z1 H1 e1 R1 (.bl true)⟩
theorem pd_not (ha : PD X a ma) : PD X (.UnaryOp .Not a pos) (wNot ma) :=
  ⟨mono_wNot ha.mono, weakE (pe_not ha.run) fun σ H Q ⟨ρ, S, Z, r, R, h⟩ => by
    refine tD_in ha.mono r R h fun x S1 v1 Z1 H1 p e1 R1 d1 => ?_
    obtain ⟨c, rfl, q⟩ := asB_of p
    exact ⟨c, den_bl d1, q _ Z1 H1 e1 R1 (.bl _)⟩⟩
def bAnd (ma mb : W Bool) : W Bool := fun ρ S Q => ma ρ S fun k S1 => if k = true then mb ρ S1 Q else Q false S1
def bOr (ma mb : W Bool) : W Bool := fun ρ S Q => ma ρ S fun k S1 => if k = true then Q true S1 else mb ρ S1 Q
def bNot (ma : W Bool) : W Bool := fun ρ S Q => ma ρ S fun k S1 => Q (!k) S1
section
variable {ta tb tc : W Bool}
theorem mono_bAnd (ha : Mono ta) (hb : Mono tb) : Mono (bAnd ta tb) := fun ρ S Q Q' k h => ha _ _ _ _ (fun c S1 h => by
  cases c with
  | true => exact hb _ _ _ _ k h
  | false => exact k _ _ h) h
theorem mono_bOr (ha : Mono ta) (hb : Mono tb) : Mono (bOr ta tb) := fun ρ S Q Q' k h => ha _ _ _ _ (fun c S1 h => by
  cases c with
  | false => exact hb _ _ _ _ k h
  | true => exact k _ _ h) h
theorem mono_bNot (ha : Mono ta) : Mono (bNot ta) := fun ρ S Q Q' k h => ha _ _ _ _ (fun c S1 h => k _ _ h) h
theorem PBW.pb (h : PBW X e ta) : PB X e ta := ⟨h.mono, h.run.pt⟩
theorem pb_and1 (h : PB X a ta) : PBW X (.BoolOp .And [a] pos) ta := ⟨h.mono, pw_and1 h.run⟩
theorem pb_or1 (h : PB X a ta) : PBW X (.BoolOp .Or [a] pos) ta := ⟨h.mono, pw_or1 h.run⟩
theorem pb_and {rest : List Expr} (ha : PB X a ta) (hb : PBW X (.BoolOp .And (b :: rest) pos) tb) : PBW X (.BoolOp .And (a :: b :: rest) pos) (bAnd ta tb) :=
  ⟨mono_bAnd ha.mono hb.mono, weakW (pw_and ha.run hb.run) fun σ H Q ⟨ρ, S, Z, r, R, h⟩ => by
    refine tB_in ha.mono r R h fun c S1 Z1 H1 q e1 R1 => ?_
    cases c with
    | true =>
      rw [if_pos rfl] at q ⊢
      exact tB_in hb.mono (r.ext e1.z) R1 q fun y S2 Z2 H2 p2 e2 R2 => p2 _ _ (e1.trans e2) R2
    | false =>
      rw [if_neg Bool.false_ne_true] at q ⊢
      exact q Z1 H1 e1 R1⟩
theorem pb_or {rest : List Expr} (ha : PB X a ta) (hb : PBW X (.BoolOp .Or (b :: rest) pos) tb) : PBW X (.BoolOp .Or (a :: b :: rest) pos) (bOr ta tb) :=
  ⟨mono_bOr ha.mono hb.mono, weakW (pw_or ha.run hb.run) fun σ H Q ⟨ρ, S, Z, r, R, h⟩ => by
    refine tB_in ha.mono r R h fun c S1 Z1 H1 q e1 R1 => ?_
    cases c with
    | false =>
      rw [if_neg Bool.false_ne_true] at q ⊢
      exact tB_in hb.mono (r.ext e1.z) R1 q fun y S2 Z2 H2 p2 e2 R2 => p2 _ _ (e1.trans e2) R2
    | true =>
      rw [if_pos rfl] at q ⊢
      exact q Z1 H1 e1 R1⟩
theorem pb_not (ha : PB X a ta) : PB X (.UnaryOp .Not a pos) (bNot ta) :=
  ⟨mono_bNot ha.mono, weakT (pt_not ha.run) fun σ H Q ⟨ρ, S, Z, r, R, h⟩ => tB_in ha.mono r R h fun c S1 Z1 H1 q e1 R1 => q Z1 H1 e1 R1⟩
def wIf (mt : W Bool) (ma mb : W F) : W F := fun ρ S Q => mt ρ S fun k S1 => if k = true then ma ρ S1 Q else mb ρ S1 Q
theorem mono_wIf (ht : Mono ta) (ha : Mono ma) (hb : Mono mb) : Mono (wIf ta ma mb) := fun ρ S Q Q' k h => ht _ _ _ _ (fun c S1 h => by
  cases c with
  | true => exact ha _ _ _ _ k h
  | false => exact hb _ _ _ _ k h) h
theorem pd_if (hc : PB X c ta) (ha : PD X a ma) (hb : PD X b mb) : PD X (.IfExp c a b pos) (wIf ta ma mb) :=
  ⟨mono_wIf hc.mono ha.mono hb.mono, weakE (pe_ifExp hc.run ha.run hb.run) fun σ H Q ⟨ρ, S, Z, r, R, h⟩ => by
    refine tB_in hc.mono r R h fun c S1 Z1 H1 q e1 R1 => ?_
    cases c with
    | true =>
      rw [if_pos rfl] at q ⊢
      exact tD_in ha.mono (r.ext e1.z) R1 q fun y S2 v2 Z2 H2 p2 e2 R2 d2 => p2 _ _ _ (e1.trans e2) R2 d2
    | false =>
      rw [if_neg Bool.false_ne_true] at q ⊢
      exact tD_in hb.mono (r.ext e1.z) R1 q fun y S2 v2 Z2 H2 p2 e2 R2 d2 => p2 _ _ _ (e1.trans e2) R2 d2⟩
end

/-! ### argument lists, displays, calls -/
def wNil : W (List F) := fun _ S Q => Q [] S
def wCons (ma : W F) (mr : W (List F)) : W (List F) := fun ρ S Q => ma ρ S fun x S1 => mr ρ S1 fun xs S2 => Q (x :: xs) S2
theorem pds_nil : PDs X [] wNil := ⟨fun _ _ _ _ k h => k _ _ h, weakA pa_nil fun σ H Q ⟨ρ, S, Z, r, R, h⟩ => h [] Z H .refl R .nil⟩
theorem pds_cons {es : List Expr} {mr : W (List F)} (ha : PD X e ma) (hr : PDs X es mr) (hs : starEach (e :: es) X.env = (false, eval e X.env) :: starEach es X.env := by rfl) : PDs X (e :: es) (wCons ma mr) :=
  ⟨fun _ _ _ _ k h => ha.mono _ _ _ _ (fun x S1 h => hr.mono _ _ _ _ (fun xs S2 h => k _ _ h) h) h, weakA (pa_cons ha.run hr.run hs) fun σ H Q ⟨ρ, S, Z, r, R, h⟩ => by
    refine tD_in ha.mono r R h fun x S1 v1 Z1 H1 p e1 R1 d1 => ?_
    exact tDs_in hr.mono (r.ext e1.z) R1 p fun xs S2 v2 Z2 H2 p e2 R2 d2 => p _ _ _ (e1.trans e2) R2 (.cons (d1.ext e2.z) d2)⟩
def wTup (mr : W (List F)) : W F := fun ρ S Q => mr ρ S fun xs S1 => xs.length ≤ sizeLine ∧ Q (.tup xs) S1
def wLst (mr : W (List F)) : W (List F) := fun ρ S Q => mr ρ S fun xs S1 => xs.length ≤ sizeLine ∧ Q xs S1
theorem den_newTup {K : PySem.W.Frag} {Z : Hp} {p : Addr} {vs : List V} {fs : List F} (hz : Z p = none) (d : Dens K Z vs fs) : Den K (upd Z p (.tup vs)) (.ref p) (.tup fs) := .tup (.inl upd_same) (d.ext (upd_ext hz))
theorem den_newLst {K : PySem.W.Frag} {Z : Hp} {p : Addr} {vs : List V} {fs : List F} (hz : Z p = none) (d : Dens K Z vs fs) : Den K (upd Z p (.lst vs)) (.ref p) (.lst fs) := .lst upd_same (d.ext (upd_ext hz))
theorem pd_tup {es : List Expr} {mr : W (List F)} {x1} (h : PDs X es mr) : PD X (.Tuple es x1 pos) (wTup mr) :=
  ⟨fun _ _ _ _ k q => h.mono _ _ _ _ (fun xs S1 q => ⟨q.1, k _ _ q.2⟩) q, weakE (pe_tup h.run) fun σ H Q ⟨ρ, S, Z, r, R, q⟩ => by
    refine tDs_in h.mono r R q fun xs S1 vs Z1 H1 p e1 R1 d1 => ?_
    refine ⟨by rw [d1.length]; exact p.1, fun t nt => ?_⟩
    obtain ⟨R2, e2⟩ := R1.newZ nt (.tup vs)
    exact p.2 _ _ _ (e1.trans e2) R2 (den_newTup (R1.nz nt) d1)⟩
/-- a fresh list at the end -/
theorem lfin_new {K : PySem.W.Frag} {Z Z1 H H1 : Hp} {S S1 : Sto} {Q : VK} {fs : List F} {vs : List V} {p : Addr} (e1 : Ext Z S H Z1 S1 H1) (R1 : RelS K Z1 S1 H1) (n : H1 p = none) (d : Dens K Z1 vs fs) (q : LFin K Z S H Q fs S1) : Q (.ref p) (upd H1 p (.lst vs)) := by
  obtain ⟨R2, e2⟩ := R1.new n (.lst vs)
  exact q p vs Z1 _ (e1.trans e2) R2 (e1.d p n) upd_same (R1.nz n) (R1.ns n) d
theorem pl_lst {es : List Expr} {mr : W (List F)} (h : PDs X es mr) : PL X (.List es pos) (wLst mr) :=
  ⟨fun _ _ _ _ k q => h.mono _ _ _ _ (fun xs S1 q => ⟨q.1, k _ _ q.2⟩) q, weakE (pe_lst h.run) fun σ H Q ⟨ρ, S, Z, r, R, q⟩ => by
    refine tDs_in h.mono r R q fun xs S1 vs Z1 H1 p e1 R1 d1 => ?_
    refine ⟨by rw [d1.length]; exact p.1, fun t nt => ?_⟩
    exact lfin_new e1 R1 nt d1 p.2⟩
/-- a new list kept as it is -/
def wFrz (m : W (List F)) : W F := fun ρ S Q => m ρ S fun xs S1 => Q (.lst xs) S1
theorem pd_frz {n : W (List F)} (h : PL X e n) : PD X e (wFrz n) :=
  ⟨fun _ _ _ _ k q => h.mono _ _ _ _ (fun xs S1 q => k _ _ q) q, weakE h.run fun σ H Q ⟨ρ, S, Z, r, R, q⟩ =>
    tL_in h.mono r R q fun xs S1 p vs Z1 H1 q e1 R1 n1 n2 n3 n4 d => by
      refine q _ (upd Z1 p (.lst vs)) H1 ?_ (R1.freeze n2 n3 n4) (den_newLst n3 d)
      refine ⟨fun a o h => upd_ext n3 a o (e1.z a o h), fun a o h hs => ?_, e1.d⟩
      obtain ⟨q1, q2, q3⟩ := e1.h a o h hs
      exact ⟨q1, q2, by rw [upd_ne (ne_of_none h n1)]; exact q3⟩⟩
/-- a new list that will change -/
def wOwn (m : W (List F)) : W F := fun ρ S Q => m ρ S fun xs S1 => ∀ p, S1 p = none → Q (.loc p) (updS S1 p xs)
theorem pd_own {n : W (List F)} (h : PL X e n) : PD X e (wOwn n) :=
  ⟨fun _ _ _ _ k q => h.mono _ _ _ _ (fun xs S1 q p hp => k _ _ (q p hp)) q, weakE h.run fun σ H Q ⟨ρ, S, Z, r, R, q⟩ =>
    tL_in h.mono r R q fun xs S1 p vs Z1 H1 q e1 R1 n1 n2 n3 n4 d => by
      refine q p n4 _ Z1 H1 ?_ (R1.own n2 n3 d) (.loc p)
      refine ⟨e1.z, fun a o h hs => ?_, e1.d⟩
      obtain ⟨q1, q2, q3⟩ := e1.h a o h hs
      exact ⟨q1, fre_updS q2 (ne_of_none h n1), q3⟩⟩
/-- a name whose list changes no more -/
def wVarFrz (i : Nat) : W F := fun ρ S Q => match ρ[i]? with | some (some (.loc a)) => (match S a with | some fs => Q (.lst fs) (delS S a) | none => False) | _ => False
theorem pd_varFrz {i : Nat} (h : PE X e (tVar i)) : PD X e (wVarFrz i) := by
  refine ⟨fun ρ S Q Q' k q => ?_, weakE h fun σ H Q ⟨ρ, S, Z, r, R, h⟩ => ?_⟩
  · unfold wVarFrz at q ⊢
    split at q
    · split at q
      · exact k _ _ q
      · exact q
    · exact q
  · unfold wVarFrz at h
    split at h
    · rename_i a e0
      split at h
      · rename_i fs e1
        obtain ⟨v, e2, d⟩ := r.at_ i _ e0
        cases d
        obtain ⟨vs, h1, R', e', d'⟩ := R.freezeS e1
        exact ⟨.ref a, e2, h _ _ H e' R' d'⟩
      · exact h.elim
    · exact h.elim
end
end DL

set_option maxHeartbeats 4000000
namespace DL
open PySem PySem.Spec PyProof.Rows L2

/-! ### what is a list, a tuple, by the store -/
def listW (S : Sto) : F → Option (List F) | .lst xs => some xs | .loc a => S a | _ => none
def listR (S : Sto) : F → Option (List F) | .lst xs => some xs | .rol xs => some xs | .loc a => S a | _ => none
section
variable {K : PySem.W.Frag} {Z Z' H H' : Hp} {S S' : Sto} {v : V} {d : F} {fs : List F}
theorem listW_of (R : RelS K Z S H) (h : Den K Z v d) (e : listW S d = some fs) : ∃ a vs, v = .ref a ∧ H a = some (.lst vs) ∧ Dens K Z vs fs := by
  cases h with
  | lst h1 h2 => cases e; exact ⟨_, _, rfl, (R.z _ _ h1).1, h2⟩
  | loc a =>
    obtain ⟨vs, h1, h2⟩ := R.s a fs e
    exact ⟨_, _, rfl, h1, h2⟩
  | _ => cases e
theorem listR_of (R : RelS K Z S H) (h : Den K Z v d) (e : listR S d = some fs) : ∃ a vs, v = .ref a ∧ SqL K H a vs ∧ Dens K Z vs fs := by
  cases h with
  | lst h1 h2 => cases e; exact ⟨_, _, rfl, SqL.of (R.z _ _ h1).1, h2⟩
  | rol h1 h2 => cases e; exact ⟨_, _, rfl, R.sqL h1, h2⟩
  | loc a =>
    obtain ⟨vs, h1, h2⟩ := R.s a fs e
    exact ⟨_, _, rfl, SqL.of h1, h2⟩
  | _ => cases e
theorem tup_of (R : RelS K Z S H) (h : Den K Z v (.tup fs)) : ∃ a vs, v = .ref a ∧ SqT K H a vs ∧ Dens K Z vs fs := by
  cases h with
  | tup h1 h2 => exact ⟨_, _, rfl, R.sqT h1.sq, h2⟩
/-- the end of a rule that makes a new tuple, a new list -/
theorem fin_tup {Q : VK} {p : Addr} {vs : List V} (R : RelS K Z S H) (n : H p = none) (d : Dens K Z vs fs) (q : DFin K Z S H Q (.tup fs) S) : Q (.ref p) (upd H p (.tup vs)) := by
  obtain ⟨R2, e2⟩ := R.newZ n (.tup vs)
  exact q _ _ _ e2 R2 (den_newTup (R.nz n) d)
theorem fin_lst {Q : VK} {p : Addr} {vs : List V} (R : RelS K Z S H) (n : H p = none) (d : Dens K Z vs fs) (q : DFin K Z S H Q (.lst fs) S) : Q (.ref p) (upd H p (.lst vs)) := by
  obtain ⟨R2, e2⟩ := R.newZ n (.lst vs)
  exact q _ _ _ e2 R2 (den_newLst (R.nz n) d)
theorem fin_same {Q : VK} (R : RelS K Z S H) (h : Den K Z v d) (q : DFin K Z S H Q d S) : Q v H := q v Z H .refl R h
end
theorem opWeak {X : Cx} {f : Value → Value → Sem Value} {r r' : R2} (h : OpR X f r) (k : ∀ x y H Q, r' x y H Q → r x y H Q) : OpR X f r' := fun pins s σ H x y v u Q I rx ry q => h pins s σ H x y v u Q I rx ry (k _ _ _ _ q)
theorem ixWeak {X : Cx} {r r' : R2} (h : IxR X r) (k : ∀ x y H Q, r' x y H Q → r x y H Q) : IxR X r' := fun a b pins s σ H x y v u Q I rx ry q => h a b pins s σ H x y v u Q I rx ry (k _ _ _ _ q)

section
variable {X : Cx}
/-! ### + -/
def oAdd : DOp := fun x y S Q => match x, y with
  | .int i, .int j => Q (.int (i + j)) S
  | .str i, .str j => i.length + j.length ≤ sizeLine ∧ Q (.str (i ++ j)) S
  | .tup xs, .tup ys => xs.length + ys.length ≤ sizeLine ∧ Q (.tup (xs ++ ys)) S
  | x, y => match listW S x, listW S y with
    | some xs, some ys => xs.length + ys.length ≤ sizeLine ∧ Q (.lst (xs ++ ys)) S
    | _, _ => False
theorem mono_oAdd : MonoO oAdd := fun x y S Q Q' k h => by
  unfold oAdd at h ⊢
  split at h
  · exact k _ _ h
  · exact ⟨h.1, k _ _ h.2⟩
  · exact ⟨h.1, k _ _ h.2⟩
  · split at h
    · rename_i e1 e2
      exact ⟨h.1, k _ _ h.2⟩
    · exact h.elim
theorem o_add : OpD X (binaryOp .Add) oAdd := by
  refine ⟨mono_oAdd, opWeak (OpR.or op_add (OpR.or op_add_str (OpR.or op_catA op_cat))) fun x y H Q ⟨d, e, S, Z, dx, dy, R, h⟩ => ?_⟩
  unfold oAdd at h
  split at h
  · exact .inl ⟨_, _, den_int dx, den_int dy, fin_same R (.int _) h⟩
  · exact .inr (.inl ⟨_, _, den_str dx, den_str dy, h.1, fin_same R (.str _) h.2⟩)
  · obtain ⟨a, vs, rfl, h1, h2⟩ := tup_of R dx
    obtain ⟨b, us, rfl, h3, h4⟩ := tup_of R dy
    have l1 := h2.length
    have l2 := h4.length
    obtain ⟨hz, h⟩ := h
    rename_i fs gs _h0
    refine .inr (.inr (.inl ⟨a, b, vs, us, rfl, rfl, h1, h3, by omega, ?_⟩))
    refine ⟨fun e0 => ?_, fun e0 e1 => ?_, fun e0 e1 p np => fin_tup R np (h2.append h4) h⟩
    · have : fs = [] := h2.nil_iff.mp e0
      subst this
      exact fin_same R dy h
    · have : gs = [] := h4.nil_iff.mp e1
      subst this
      exact fin_same R dx (by rwa [List.append_nil] at h)
  · split at h
    · rename_i e1 e2
      obtain ⟨a, vs, rfl, h1, h2⟩ := listW_of R dx e1
      obtain ⟨b, us, rfl, h3, h4⟩ := listW_of R dy e2
      have l1 := h2.length
      have l2 := h4.length
      exact .inr (.inr (.inr ⟨a, b, vs, us, rfl, rfl, h1, h3, by omega, fun p np => fin_lst R np (h2.append h4) h.2⟩))
    · exact h.elim
/-! ### -, *, //, % -/
def oSub : DOp := fun x y S Q => match x, y with | .int i, .int j => Q (.int (i - j)) S | _, _ => False
def mulOk (i j : Int) : Prop := CMul i j ∨ CMulW i j
def oMul : DOp := fun x y S Q => match x, y with
  | .int i, .int j => mulOk i j ∧ Q (.int (i * j)) S
  | .tup xs, .int k => (-(2 ^ 63) ≤ k ∧ k < 2 ^ 63 ∧ xs.length * k.toNat ≤ sizeLine) ∧ Q (.tup (List.replicate k.toNat xs).flatten) S
  | x, .int k => match listW S x with
    | some xs => (-(2 ^ 63) ≤ k ∧ k < 2 ^ 63 ∧ xs.length * k.toNat ≤ sizeLine) ∧ Q (.lst (List.replicate k.toNat xs).flatten) S
    | _ => False
  | _, _ => False
def oDiv : DOp := fun x y S Q => match x, y with | .int i, .int j => CDivW i j ∧ Q (.int (i / j)) S | _, _ => False
def oMod : DOp := fun x y S Q => match x, y with | .int i, .int j => 0 < j ∧ Q (.int (i % j)) S | _, _ => False
def oPow : DOp := fun x y S Q => match x, y with | .int i, .int j => CPow i j ∧ Q (.int (i ^ j.toNat)) S | _, _ => False
theorem o_sub : OpD X (binaryOp .Sub) oSub := by
  refine ⟨fun x y S Q Q' k h => ?_, opWeak op_sub fun x y H Q ⟨d, e, S, Z, dx, dy, R, h⟩ => ?_⟩
  · unfold oSub at h ⊢
    split at h
    · exact k _ _ h
    · exact h.elim
  · unfold oSub at h
    split at h
    · exact ⟨_, _, den_int dx, den_int dy, fin_same R (.int _) h⟩
    · exact h.elim
theorem o_div : OpD X (binaryOp .FloorDiv) oDiv := by
  refine ⟨fun x y S Q Q' k h => ?_, opWeak op_fdivW fun x y H Q ⟨d, e, S, Z, dx, dy, R, h⟩ => ?_⟩
  · unfold oDiv at h ⊢
    split at h
    · exact ⟨h.1, k _ _ h.2⟩
    · exact h.elim
  · unfold oDiv at h
    split at h
    · exact ⟨_, _, den_int dx, den_int dy, h.1, fin_same R (.int _) h.2⟩
    · exact h.elim
theorem o_mod : OpD X (binaryOp .Mod) oMod := by
  refine ⟨fun x y S Q Q' k h => ?_, opWeak op_mod fun x y H Q ⟨d, e, S, Z, dx, dy, R, h⟩ => ?_⟩
  · unfold oMod at h ⊢
    split at h
    · exact ⟨h.1, k _ _ h.2⟩
    · exact h.elim
  · unfold oMod at h
    split at h
    · exact ⟨_, _, den_int dx, den_int dy, h.1, fin_same R (.int _) h.2⟩
    · exact h.elim
theorem o_pow : OpD X (binaryOp .Pow) oPow := by
  refine ⟨fun x y S Q Q' k h => ?_, opWeak op_pow fun x y H Q ⟨d, e, S, Z, dx, dy, R, h⟩ => ?_⟩
  · unfold oPow at h ⊢
    split at h
    · exact ⟨h.1, k _ _ h.2⟩
    · exact h.elim
  · unfold oPow at h
    split at h
    · exact ⟨_, _, den_int dx, den_int dy, h.1, fin_same R (.int _) h.2⟩
    · exact h.elim
end
end DL
namespace L2
open PySem PySem.Spec PyProof.Rows

theorem tuple_mulS (l : Addr) (items : Array Value) (n : Nat) (dd : Option Addr) (sl : Array (Option Value)) (x : Int) (u : Tok) (c0 : (decide (x < -(2 ^ 63)) || decide (x ≥ 2 ^ 63)) = false) (c1 : (items.isEmpty || x == 1) = true) :
    Meets (Builtin.«tuple.__mul__» ⟨[.ref l, .int x u], []⟩) (fun _ R s => s.heap.get? l = some { cls := .type "tuple", dict := dd, data := .seq items n, slots := sl } ∧
      R (.ok (.ret (Value.ref l))) s) :=
  .of_wp fun prog w A R s h => by
    obtain ⟨hp, g, d, tk, os⟩ := s
    obtain ⟨hl, h⟩ := h
    have f1 := AutoSeq1.idx_int
    wp_walk using wpAny_loadPart' hl
    repeat (first
      | (refine wpAny_ite_false (decide_eq_false (by rw [c0]; exact Bool.false_ne_true)) ?_; wp_walk using wpAny_loadPart' hl)
      | (refine wpAny_ite_true (decide_eq_true c1) ?_; wp_walk using wpAny_loadPart' hl))
    exact ⟨_, rfl, h⟩
theorem tuple_mul0 (l : Addr) (items : Array Value) (n : Nat) (dd : Option Addr) (sl : Array (Option Value)) (x : Int) (u : Tok) (c0 : (decide (x < -(2 ^ 63)) || decide (x ≥ 2 ^ 63)) = false) (c1 : (items.isEmpty || x == 1) = false) (c2 : (decide (x ≤ 0) || items.isEmpty) = true) :
    Meets (Builtin.«tuple.__mul__» ⟨[.ref l, .int x u], []⟩) (fun _ R s => s.heap.get? l = some { cls := .type "tuple", dict := dd, data := .seq items n, slots := sl } ∧
      R (.ok (.ret (Value.ref s.heap.objs.size))) { s with heap := s.heap.push { cls := Value.type "tuple", data := Data.seq #[] }, toks := s.toks }) :=
  .of_wp fun prog w A R s h => by
    obtain ⟨hp, g, d, tk, os⟩ := s
    obtain ⟨hl, h⟩ := h
    have f1 := AutoSeq1.idx_int
    wp_walk using wpAny_loadPart' hl
    repeat (first
      | (refine wpAny_ite_false (decide_eq_false (by rw [c0]; exact Bool.false_ne_true)) ?_; wp_walk using wpAny_loadPart' hl)
      | (refine wpAny_ite_false (decide_eq_false (by rw [c1]; exact Bool.false_ne_true)) ?_; wp_walk using wpAny_loadPart' hl)
      | (refine wpAny_ite_true (decide_eq_true c2) ?_; wp_walk using wpAny_loadPart' hl))
    exact ⟨_, rfl, h⟩


/-- a tuple times an int, any -/
def rRepA (K : PySem.W.Frag) : R2 := fun x y H Q => ∃ l k xs, x = .ref l ∧ y = .int k ∧ SqT K H l xs ∧ -(2 ^ 63) ≤ k ∧ k < 2 ^ 63 ∧ xs.length * k.toNat ≤ sizeLine ∧
  (xs = [] ∨ k = 1 → Q (.ref l) H) ∧ (xs ≠ [] → k ≠ 1 → ∀ p, H p = none → Q (.ref p) (upd H p (.tup (List.replicate k.toNat xs).flatten)))
theorem op_repA {X : Cx} : OpR X (binaryOp .Mult) (rRepA X.K) := by
  intro pins s σ H x y v u Q I rx ry h
  obtain ⟨l, k, xs, rfl, rfl, hT, h1, h2, hz, q1, q2⟩ := h
  cases rx
  obtain ⟨t, rfl⟩ := ry
  obtain ⟨its, r, ⟨⟨cls, dd, data, sl⟩, ho, hc, n, hd⟩, hs⟩ := I.tuple hT
  simp only at hc hd
  subst hc hd
  have hle : its.length = xs.length := r.length.symm
  have hsz0 : its.toArray.size = xs.length := by rw [List.size_toArray, hle]
  have c0 : (decide (k < -(2 ^ 63)) || decide (k ≥ 2 ^ 63)) = false := by
    rw [decide_eq_false (by omega), decide_eq_false (by omega)] <;> rfl
  by_cases hsame : xs = [] ∨ k = 1
  · have c1 : (its.toArray.isEmpty || k == 1) = true := by
      rcases hsame with e | e
      · subst e
        have : its = [] := List.eq_nil_of_length_eq_zero hle
        subst this
        rfl
      · subst e
        simp
    exact wpAny_binaryOp_repeat_ref (T := "tuple") (U := "int") (by decide) ⟨_, ho, rfl⟩ (fun s' => typeIs_int s' k t) noFill_tuple_mul F.fills_int_mul F.slot_int_rmul repeat_tuple F.slot_int_index.lookup
      (call_meets F.slot_int_rmul (typeIs_int s k t) F.entry_int_rmul (F.args_int_rmul_2 _ _) (int_rmul_tuple k t l its.toArray n dd sl)
        ⟨ho, rfl, ⟨_, ho, rfl⟩, call_meets F.slot_tuple_mul ⟨_, ho, rfl⟩ F.entry_tuple_mul (F.args_tuple_mul_2 _ _) (tuple_mulS l its.toArray n dd sl k t c0 c1) ⟨ho, ⟨.ref l, H, I, rfl, q1 hsame⟩⟩⟩)
  · have hne : xs ≠ [] := fun e => hsame (.inl e)
    have hk1 : k ≠ 1 := fun e => hsame (.inr e)
    have hn : its ≠ [] := fun e => hne (by
      rw [e] at hle
      exact List.eq_nil_of_length_eq_zero hle.symm)
    have hi : its.toArray.isEmpty = false := by
      cases its with
      | nil => exact absurd rfl hn
      | cons a b => rfl
    have c1 : (its.toArray.isEmpty || k == 1) = false := by
      rw [hi, Bool.false_or]
      exact beq_eq_false_iff_ne.mpr hk1
    by_cases hk0 : k ≤ 0
    · have c2 : (decide (k ≤ 0) || its.toArray.isEmpty) = true := by rw [decide_eq_true hk0, Bool.true_or]
      have hk : k.toNat = 0 := by omega
      refine wpAny_binaryOp_repeat_ref (T := "tuple") (U := "int") (by decide) ⟨_, ho, rfl⟩ (fun s' => typeIs_int s' k t) noFill_tuple_mul F.fills_int_mul F.slot_int_rmul repeat_tuple F.slot_int_index.lookup
        (call_meets F.slot_int_rmul (typeIs_int s k t) F.entry_int_rmul (F.args_int_rmul_2 _ _) (int_rmul_tuple k t l its.toArray n dd sl)
          ⟨ho, rfl, ⟨_, ho, rfl⟩, call_meets F.slot_tuple_mul ⟨_, ho, rfl⟩ F.entry_tuple_mul (F.args_tuple_mul_2 _ _) (tuple_mul0 l its.toArray n dd sl k t c0 c1 c2) ⟨ho, ?_⟩⟩)
      have q := q2 hne hk1
      rw [hk] at q
      refine ⟨.ref s.heap.objs.size, _, I.laid (t' := s.toks) (o := .tup []) (fun b ob q => Heap.get?_push_of_some _ q) (Nat.le_refl _) ?_, rfl, q _ (I.hok.fresh (Nat.le_refl _))⟩
      exact ⟨Nat.zero_le _, [], .nil, IsTup.new _ _⟩
    · have flen : (List.replicate k.toNat its).flatten.length ≤ sizeLine := by
        rw [PyProof.Rows.lm_len_rep_flat, hle, Nat.mul_comm]
        exact hz
      have hm : ((its.toArray.size : Nat) : Int) * k ≤ (sizeLine : Nat) := by
        rw [hsz0]
        have e : k = (k.toNat : Int) := by omega
        rw [e]
        exact_mod_cast hz
      have c2 : (decide (k ≤ 0) || its.toArray.isEmpty) = false := by
        rw [hi, Bool.or_false]
        exact decide_eq_false hk0
      have hl := sizeLine_eq
      have c4 : Builtin.Tuple.tupleTooMany (((its.toArray.size : Nat) : Int) * k) = false := by
        unfold Builtin.Tuple.tupleTooMany
        exact decide_eq_false (by omega)
      refine wpAny_binaryOp_repeat_ref (T := "tuple") (U := "int") (by decide) ⟨_, ho, rfl⟩ (fun s' => typeIs_int s' k t) noFill_tuple_mul F.fills_int_mul F.slot_int_rmul repeat_tuple F.slot_int_index.lookup
        (call_meets F.slot_int_rmul (typeIs_int s k t) F.entry_int_rmul (F.args_int_rmul_2 _ _) (int_rmul_tuple k t l its.toArray n dd sl)
          ⟨ho, rfl, ⟨_, ho, rfl⟩, call_meets F.slot_tuple_mul ⟨_, ho, rfl⟩ F.entry_tuple_mul (F.args_tuple_mul_2 _ _) (tuple_mulW l its.toArray n dd sl k t c0 c1 c2 (by omega) c4 (by rw [size_rep, List.size_toArray]; exact flen)) ⟨ho, ?_⟩⟩)
      rw [size_rep]
      refine ⟨.ref s.heap.objs.size, _, I.laid (t' := s.toks) (o := .tup (List.replicate k.toNat xs).flatten) (fun b ob q => Heap.get?_push_of_some _ q) (Nat.le_refl _) ?_, rfl, q2 hne hk1 _ (I.hok.fresh (Nat.le_refl _))⟩
      exact ⟨by rw [PyProof.Rows.lm_len_rep_flat, Nat.mul_comm]; exact hz, _, r.rep k.toNat, IsTup.new _ _⟩
end L2
namespace DL
open PySem PySem.Spec PyProof.Rows L2
section
variable {X : Cx}
theorem flat_rep1 {α : Type} (xs : List α) : (List.replicate 1 xs).flatten = xs := by simp
theorem flat_rep_nil {α : Type} (k : Nat) : (List.replicate k ([] : List α)).flatten = [] := by
  induction k with
  | zero => rfl
  | succ k ih => rw [List.replicate_succ, List.flatten_cons, ih]; rfl
theorem o_mul : OpD X (binaryOp .Mult) oMul := by
  refine ⟨fun x y S Q Q' k h => ?_, opWeak (OpR.or op_mul (OpR.or op_mulW (OpR.or op_repA op_rep))) fun x y H Q ⟨d, e, S, Z, dx, dy, R, h⟩ => ?_⟩
  · unfold oMul at h ⊢
    split at h
    · exact ⟨h.1, k _ _ h.2⟩
    · exact ⟨h.1, k _ _ h.2⟩
    · split at h
      · exact ⟨h.1, k _ _ h.2⟩
      · exact h.elim
    · exact h.elim
  · unfold oMul at h
    split at h
    · rcases h with ⟨h | h, q⟩
      · exact .inl ⟨_, _, den_int dx, den_int dy, h, fin_same R (.int _) q⟩
      · exact .inr (.inl ⟨_, _, den_int dx, den_int dy, h, fin_same R (.int _) q⟩)
    · obtain ⟨⟨h1, h2, hz⟩, q⟩ := h
      obtain ⟨a, vs, rfl, ha, hd⟩ := tup_of R dx
      have l1 := hd.length
      rename_i fs k _h0
      refine .inr (.inr (.inl ⟨a, k, vs, rfl, den_int dy, ha, h1, h2, by rw [l1]; exact hz, fun e => ?_, fun _ _ p np => fin_tup R np (hd.rep k.toNat) q⟩))
      rcases e with e | e
      · have : fs = [] := hd.nil_iff.mp e
        subst this
        rw [flat_rep_nil] at q
        exact fin_same R dx q
      · subst e
        rw [show (1 : Int).toNat = 1 from rfl, flat_rep1] at q
        exact fin_same R dx q
    · split at h
      · rename_i fs e1
        obtain ⟨⟨h1, h2, hz⟩, q⟩ := h
        obtain ⟨a, vs, rfl, ha, hd⟩ := listW_of R dx e1
        have l1 := hd.length
        exact .inr (.inr (.inr ⟨a, _, vs, rfl, den_int dy, ha, h1, h2, by rw [l1]; exact hz, fun p np => fin_lst R np (hd.rep _) q⟩))
      · exact h.elim
    · exact h.elim

/-! ### comparisons -/
def oLt : DOp := fun x y S Q => match x, y with | .int i, .int j => Q (.bl (decide (i < j))) S | _, _ => False
def oLe : DOp := fun x y S Q => match x, y with | .int i, .int j => Q (.bl (decide (i ≤ j))) S | _, _ => False
def oGt : DOp := fun x y S Q => match x, y with | .int i, .int j => Q (.bl (decide (j < i))) S | _, _ => False
def oGe : DOp := fun x y S Q => match x, y with | .int i, .int j => Q (.bl (decide (j ≤ i))) S | _, _ => False
theorem o_lt : OpD X (compareOp .Lt) oLt := by
  refine ⟨fun x y S Q Q' k h => ?_, opWeak op_lt fun x y H Q ⟨d, e, S, Z, dx, dy, R, h⟩ => ?_⟩
  · unfold oLt at h ⊢
    split at h
    · exact k _ _ h
    · exact h.elim
  · unfold oLt at h
    split at h
    · exact ⟨_, _, den_int dx, den_int dy, fin_same R (.bl _) h⟩
    · exact h.elim
theorem o_le : OpD X (compareOp .LtE) oLe := by
  refine ⟨fun x y S Q Q' k h => ?_, opWeak op_le fun x y H Q ⟨d, e, S, Z, dx, dy, R, h⟩ => ?_⟩
  · unfold oLe at h ⊢
    split at h
    · exact k _ _ h
    · exact h.elim
  · unfold oLe at h
    split at h
    · exact ⟨_, _, den_int dx, den_int dy, fin_same R (.bl _) h⟩
    · exact h.elim
theorem o_gt : OpD X (compareOp .Gt) oGt := by
  refine ⟨fun x y S Q Q' k h => ?_, opWeak op_gt fun x y H Q ⟨d, e, S, Z, dx, dy, R, h⟩ => ?_⟩
  · unfold oGt at h ⊢
    split at h
    · exact k _ _ h
    · exact h.elim
  · unfold oGt at h
    split at h
    · exact ⟨_, _, den_int dx, den_int dy, fin_same R (.bl _) h⟩
    · exact h.elim
theorem o_ge : OpD X (compareOp .GtE) oGe := by
  refine ⟨fun x y S Q Q' k h => ?_, opWeak op_ge fun x y H Q ⟨d, e, S, Z, dx, dy, R, h⟩ => ?_⟩
  · unfold oGe at h ⊢
    split at h
    · exact k _ _ h
    · exact h.elim
  · unfold oGe at h
    split at h
    · exact ⟨_, _, den_int dx, den_int dy, fin_same R (.bl _) h⟩
    · exact h.elim
def isNon : F → Bool | .non => true | _ => false
/-- None and bools alone -/
def oIs : DOp := fun x y S Q => match y with
  | .non => Q (.bl (isNon x)) S
  | .bl b => (match x with | .bl a => Q (.bl (decide (a = b))) S | _ => False)
  | _ => False
def oIsNot : DOp := fun x y S Q => match y with
  | .non => Q (.bl (!isNon x)) S
  | .bl b => (match x with | .bl a => Q (.bl (!decide (a = b))) S | _ => False)
  | _ => False
theorem den_isNon {K : PySem.W.Frag} {Z : Hp} {v : V} {d : F} (h : Den K Z v d) : decide (v = V.non) = isNon d := by
  cases h <;> simp [isNon]
theorem o_is : OpD X (compareOp .Is) oIs := by
  refine ⟨fun x y S Q Q' k h => ?_, opWeak (OpR.or op_isN op_isBl) fun x y H Q ⟨d, e, S, Z, dx, dy, R, h⟩ => ?_⟩
  · unfold oIs at h ⊢
    split at h
    · exact k _ _ h
    · split at h
      · exact k _ _ h
      · exact h.elim
    · exact h.elim
  · unfold oIs at h
    split at h
    · refine .inl ⟨den_non dy, ?_⟩
      rw [den_isNon dx]
      exact fin_same R (.bl _) h
    · split at h
      · exact .inr ⟨_, _, den_bl dx, den_bl dy, fin_same R (.bl _) h⟩
      · exact h.elim
    · exact h.elim
theorem o_isnot : OpD X (compareOp .IsNot) oIsNot := by
  refine ⟨fun x y S Q Q' k h => ?_, opWeak (OpR.or op_notN op_notBl) fun x y H Q ⟨d, e, S, Z, dx, dy, R, h⟩ => ?_⟩
  · unfold oIsNot at h ⊢
    split at h
    · exact k _ _ h
    · split at h
      · exact k _ _ h
      · exact h.elim
    · exact h.elim
  · unfold oIsNot at h
    split at h
    · refine .inl ⟨den_non dy, ?_⟩
      rw [den_isNon dx]
      exact fin_same R (.bl _) h
    · split at h
      · exact .inr ⟨_, _, den_bl dx, den_bl dy, fin_same R (.bl _) h⟩
      · exact h.elim
    · exact h.elim
end
/-! as the library's data -/
mutual
def py : F → PyData
  | .non => .none
  | .bl b => .bool b
  | .int i => .int i
  | .str x => .str x
  | .tup l => .tuple (pyL l)
  | .lst l => .list (pyL l)
  | .rol l => .list (pyL l)
  | .loc _ => .dict []
def pyL : List F → List PyData
  | [] => []
  | x :: r => py x :: pyL r
end
mutual
theorem Den.dp {K : PySem.W.Frag} {Z H : Hp} {S : Sto} (R : RelS K Z S H) : ∀ {f : F} {v : V}, Den K Z v f → (py f).canLay0 = true → Dp K H v (py f)
  | .non, _, h, _ => by cases h; exact .non
  | .bl _, _, h, _ => by cases h; exact .bl _
  | .int _, _, h, _ => by cases h; exact .int _
  | .str _, _, h, _ => by cases h; exact .str _
  | .tup fs, _, h, c => by
    cases h with
    | tup h1 h2 => exact .tup (R.sqT h1.sq) (Dens.dp R h2 c)
  | .lst fs, _, h, c => by
    cases h with
    | lst h1 h2 => exact .lst (SqL.of (R.z _ _ h1).1) (Dens.dp R h2 c)
  | .rol fs, _, h, c => by
    cases h with
    | rol h1 h2 => exact .lst (R.sqL h1) (Dens.dp R h2 c)
  | .loc _, _, h, c => by cases c
theorem Dens.dp {K : PySem.W.Frag} {Z H : Hp} {S : Sto} (R : RelS K Z S H) : ∀ {fs : List F} {vs : List V}, Dens K Z vs fs → PyData.canLayAll0 (pyL fs) = true → DpAll K H vs (pyL fs)
  | [], _, h, _ => by cases h; exact .nil
  | f :: fs, _, h, c => by
    have c' : ((py f).canLay0 && PyData.canLayAll0 (pyL fs)) = true := c
    rw [Bool.and_eq_true] at c'
    cases h with
    | cons h1 h2 => exact .cons (Den.dp R h1 c'.1) (Dens.dp R h2 c'.2)
end
def okF (x : F) : Bool := SeqAt.shaped (py x)
def eqF (x y : F) : Bool := PyData.eqv (py x) (py y)
def oEq : DOp := fun x y S Q => okF x = true ∧ okF y = true ∧ Q (.bl (eqF x y)) S
def oNe : DOp := fun x y S Q => okF x = true ∧ okF y = true ∧ Q (.bl (!eqF x y)) S
section
variable {X : Cx}
theorem o_eq (hu : X.A.units + 64 < cLine) : OpD X (compareOp .Eq) oEq :=
  ⟨fun x y S Q Q' k h => ⟨h.1, h.2.1, k _ _ h.2.2⟩, opWeak (op_eqD hu) fun x y H Q ⟨d, e, S, Z, dx, dy, R, h1, h2, h⟩ =>
    ⟨_, _, dx.dp R (SeqAt.canLay_of_shaped h1), dy.dp R (SeqAt.canLay_of_shaped h2), h1, h2, fin_same R (.bl _) h⟩⟩
theorem o_ne (hu : X.A.units + 64 < cLine) : OpD X (compareOp .NotEq) oNe :=
  ⟨fun x y S Q Q' k h => ⟨h.1, h.2.1, k _ _ h.2.2⟩, opWeak (op_neD hu) fun x y H Q ⟨d, e, S, Z, dx, dy, R, h1, h2, h⟩ =>
    ⟨_, _, dx.dp R (SeqAt.canLay_of_shaped h1), dy.dp R (SeqAt.canLay_of_shaped h2), h1, h2, fin_same R (.bl _) h⟩⟩
/-! ### places -/
def oIx : DOp := fun x y S Q => match y with
  | .int i => (match x with
    | .tup xs => (match atI xs i with | some z => Q z S | none => False)
    | .str z => z.length ≤ sizeLine ∧ (match atI z.cps.toList i with | some c => Q (.str ⟨#[c]⟩) S | none => False)
    | x => (match listR S x with
      | some xs => (match atI xs i with | some z => Q z S | none => False)
      | none => False))
  | _ => False
theorem atI_den {K : PySem.W.Frag} {Z : Hp} {vs : List V} {fs : List F} {i : Int} {f : F} (d : Dens K Z vs fs) (h : atI fs i = some f) : ∃ v, atI vs i = some v ∧ Den K Z v f := by
  unfold atI at h ⊢
  rw [d.length]
  cases e : ixN fs.length i with
  | none => rw [e] at h; cases h
  | some j =>
    rw [e] at h
    exact d.get h
theorem ix_all : IxD X oIx := by
  refine ⟨fun x y S Q Q' k h => ?_, ixWeak ix_seq fun x y H Q ⟨d, e, S, Z, dx, dy, R, h⟩ => ?_⟩
  · unfold oIx at h ⊢
    split at h
    · split at h
      · split at h
        · exact k _ _ h
        · exact h.elim
      · refine ⟨h.1, ?_⟩
        have h := h.2
        split at h
        · exact k _ _ h
        · exact h.elim
      · split at h
        · split at h
          · exact k _ _ h
          · exact h.elim
        · exact h.elim
    · exact h.elim
  · unfold oIx at h
    split at h
    · split at h
      · split at h
        · rename_i e1
          obtain ⟨a, vs, rfl, h1, h2⟩ := tup_of R dx
          obtain ⟨w, e2, dw⟩ := atI_den h2 e1
          exact .inr (.inl ⟨a, vs, _, w, rfl, den_int dy, h1, e2, fin_same R dw h⟩)
        · exact h.elim
      · obtain ⟨hz, h⟩ := h
        split at h
        · rename_i e1
          exact .inr (.inr ⟨_, _, _, den_str dx, den_int dy, hz, e1, fin_same R (.str _) h⟩)
        · exact h.elim
      · split at h
        · rename_i e0
          split at h
          · rename_i e1
            obtain ⟨a, vs, rfl, h1, h2⟩ := listR_of R dx e0
            obtain ⟨w, e2, dw⟩ := atI_den h2 e1
            exact .inl ⟨a, vs, _, w, rfl, den_int dy, h1, e2, fin_same R dw h⟩
          · exact h.elim
        · exact h.elim
    · exact h.elim
end
end DL

set_option maxHeartbeats 4000000
namespace DL
open PySem PySem.Spec PyProof.Rows L2

/-! ### slices -/
def tP (K : PySem.W.Frag) (m : W (Option Int)) : TO := fun σ H Q => ∃ ρ S Z, REnv K Z ρ σ ∧ RelS K Z S H ∧ m ρ S (fun o S' => ∀ Z' H', Ext Z S H Z' S' H' → RelS K Z' S' H' → Q o H')
structure PP (X : Cx) (e : Option Expr) (m : W (Option Int)) : Prop where
  mono : Mono m
  run : PO X e (tP X.K m)
def wNoPart : W (Option Int) := fun _ S Q => Q none S
def asI (Q : Int → Sto → Prop) : F → Sto → Prop := fun x S => match x with | .int c => Q c S | _ => False
theorem mono_asI {Q Q' : Int → Sto → Prop} (k : ∀ d S', Q d S' → Q' d S') : ∀ d S', asI Q d S' → asI Q' d S' := fun d S' h => by
  cases d with
  | int c => exact k _ _ h
  | _ => exact h.elim
theorem asI_of {Q : Int → Sto → Prop} {d : F} {S : Sto} (h : asI Q d S) : ∃ c, d = .int c ∧ Q c S := by
  cases d with
  | int c => exact ⟨c, rfl, h⟩
  | _ => exact h.elim
def wPart (m : W F) : W (Option Int) := fun ρ S Q => m ρ S (asI fun i S1 => Q (some i) S1)
section
variable {X : Cx} {a b c e : Expr} {pos : Pos} {m ma mb mc : W F}
theorem weakO {e : Option Expr} {t t' : TO} (h : PO X e t) (k : ∀ σ H Q, t' σ H Q → t σ H Q) : PO X e t' := ⟨fun pins s σ H Q I q => h.run pins s σ H Q I (k σ H Q q)⟩
theorem pp_none : PP X none wNoPart := ⟨fun _ _ _ _ k h => k _ _ h, weakO po_none fun σ H Q ⟨ρ, S, Z, r, R, h⟩ => h Z H .refl R⟩
theorem pp_some (h : PD X e m) : PP X (some e) (wPart m) := ⟨fun _ _ _ _ k q => h.mono _ _ _ _ (mono_asI fun _ _ q => k _ _ q) q, weakO (po_some h.run) fun σ H Q ⟨ρ, S, Z, r, R, q⟩ => by
  refine tD_in h.mono r R q fun x S1 v1 Z1 H1 p e1 R1 d1 => ?_
  obtain ⟨c, rfl, q⟩ := asI_of p
  exact ⟨c, den_int d1, q Z1 H1 e1 R1⟩⟩
/-- the items of xs[lo:hi] -/
def cut {α : Type} (xs : List α) (lo hi : Option Int) : List α := (xs.drop (HT.sIx xs.length 0 lo)).take (HT.sIx xs.length xs.length hi - HT.sIx xs.length 0 lo)
theorem cut_whole {α : Type} {xs : List α} {lo hi : Option Int} (h : HT.sIx xs.length 0 lo = 0 ∧ HT.sIx xs.length xs.length hi = xs.length) : cut xs lo hi = xs := by
  unfold cut
  rw [h.1, h.2]
  simp
theorem Dens.cut {K : PySem.W.Frag} {Z : Hp} {vs : List V} {fs : List F} (d : Dens K Z vs fs) (lo hi : Option Int) : Dens K Z (cutV vs lo hi) (DL.cut fs lo hi) := by
  unfold cutV DL.cut
  rw [d.length]
  exact (d.drop _).take _
abbrev DSl := F → Option Int → Option Int → Sto → (F → Sto → Prop) → Prop
def oSl : DSl := fun x lo hi S Q => match x with
  | .tup xs => Q (.tup (cut xs lo hi)) S
  | .str z => z.length ≤ sizeLine ∧ Q (.str (cutS z lo hi)) S
  | x => match listR S x with
    | some xs => Q (.lst (cut xs lo hi)) S
    | none => False
def wSl (me : W F) (ml mh : W (Option Int)) : W F := fun ρ S Q => me ρ S fun x S1 => ml ρ S1 fun l S2 => mh ρ S2 fun u S3 => oSl x l u S3 Q
theorem mono_oSl {x l u} {S : Sto} {Q Q' : F → Sto → Prop} (k : ∀ d S', Q d S' → Q' d S') (h : oSl x l u S Q) : oSl x l u S Q' := by
  unfold oSl at h ⊢
  split at h
  · exact k _ _ h
  · exact ⟨h.1, k _ _ h.2⟩
  · split at h
    · exact k _ _ h
    · exact h.elim
theorem slWeak {r r' : V → Option Int → Option Int → Hp → VK → Prop} (h : SlR X r) (k : ∀ x l u H Q, r' x l u H Q → r x l u H Q) : SlR X r' := fun pins s σ H x v vl vu lo hi sl Q I rx hs pl pu q => h pins s σ H x v vl vu lo hi sl Q I rx hs pl pu (k _ _ _ _ _ q)
theorem sl_in {K : PySem.W.Frag} {x : V} {lo hi : Option Int} {H : Hp} {Q : VK} {d : F} {S : Sto} {Z : Hp} (dx : Den K Z x d) (R : RelS K Z S H) (h : oSl d lo hi S (DFin K Z S H Q)) : rSlA K x lo hi H Q ∨ rSlS x lo hi H Q ∨ rSlL K x lo hi H Q := by
  unfold oSl at h
  split at h
  · rename_i fs
    obtain ⟨a, vs, rfl, h1, h2⟩ := tup_of R dx
    have hl := h2.length
    refine .inl ⟨a, vs, rfl, h1, fun hw => ?_, fun hw p np => fin_tup R np (h2.cut lo hi) h⟩
    rw [hl] at hw
    rw [cut_whole hw] at h
    exact fin_same R dx h
  · exact .inr (.inl ⟨_, den_str dx, h.1, fin_same R (.str _) h.2⟩)
  · split at h
    · rename_i fs e1
      obtain ⟨a, vs, rfl, h1, h2⟩ := listR_of R dx e1
      exact .inr (.inr ⟨a, vs, rfl, h1, fun p np => fin_lst R np (h2.cut lo hi) h⟩)
    · exact h.elim
theorem pd_slice {lo hi : Option Expr} {ml mh : W (Option Int)} {p2 : Pos} (he : PD X e m) (hl : PP X lo ml) (hh : PP X hi mh) : PD X (.Subscript e (.Slice lo hi none p2) pos) (wSl m ml mh) :=
  ⟨fun _ _ _ _ k q => he.mono _ _ _ _ (fun _ _ q => hl.mono _ _ _ _ (fun _ _ q => hh.mono _ _ _ _ (fun _ _ q => mono_oSl k q) q) q) q,
   weakE (pe_slice (SlR.or sl_tupA (SlR.or sl_str sl_list)) he.run hl.run hh.run) fun σ H Q ⟨ρ, S, Z, r, R, q⟩ => by
    refine tD_in he.mono r R q fun x S1 v1 Z1 H1 p e1 R1 d1 => ?_
    refine ⟨ρ, S1, Z1, r.ext e1.z, R1, hl.mono _ _ _ _ (fun l S2 p Z2 H2 e2 R2 => ?_) p⟩
    refine ⟨ρ, S2, Z2, (r.ext e1.z).ext e2.z, R2, hh.mono _ _ _ _ (fun u S3 p Z3 H3 e3 R3 => ?_) p⟩
    exact sl_in (d1.ext (e2.trans e3).z) R3 (mono_oSl (fun z S4 q v Z' H' e4 R4 d4 => q v Z' H' ((e1.trans e2).trans (e3.trans e4)) R4 d4) p)⟩
/-- a new list from a slice -/
def oSlL (x : F) (lo hi : Option Int) (S : Sto) (Q : List F → Sto → Prop) : Prop := match listR S x with | some xs => Q (cut xs lo hi) S | none => False
def wSlL (me : W F) (ml mh : W (Option Int)) : W (List F) := fun ρ S Q => me ρ S fun x S1 => ml ρ S1 fun l S2 => mh ρ S2 fun u S3 => oSlL x l u S3 Q
theorem mono_oSlL {x l u} {S : Sto} {Q Q' : List F → Sto → Prop} (k : ∀ d S', Q d S' → Q' d S') (h : oSlL x l u S Q) : oSlL x l u S Q' := by
  unfold oSlL at h ⊢
  split at h
  · exact k _ _ h
  · exact h.elim
theorem pl_slice {lo hi : Option Expr} {ml mh : W (Option Int)} {p2 : Pos} (he : PD X e m) (hl : PP X lo ml) (hh : PP X hi mh) : PL X (.Subscript e (.Slice lo hi none p2) pos) (wSlL m ml mh) :=
  ⟨fun _ _ _ _ k q => he.mono _ _ _ _ (fun _ _ q => hl.mono _ _ _ _ (fun _ _ q => hh.mono _ _ _ _ (fun _ _ q => mono_oSlL k q) q) q) q,
   weakE (pe_slice sl_list he.run hl.run hh.run) fun σ H Q ⟨ρ, S, Z, r, R, q⟩ => by
    refine tD_in he.mono r R q fun x S1 v1 Z1 H1 p e1 R1 d1 => ?_
    refine ⟨ρ, S1, Z1, r.ext e1.z, R1, hl.mono _ _ _ _ (fun l S2 p Z2 H2 e2 R2 => ?_) p⟩
    refine ⟨ρ, S2, Z2, (r.ext e1.z).ext e2.z, R2, hh.mono _ _ _ _ (fun u S3 p Z3 H3 e3 R3 => ?_) p⟩
    unfold oSlL at p
    split at p
    · rename_i fs e0
      obtain ⟨a, vs, rfl, h1, h2⟩ := listR_of R3 (d1.ext (e2.trans e3).z) e0
      exact ⟨a, vs, rfl, h1, fun q nq => lfin_new ((e1.trans e2).trans e3) R3 nq (h2.cut l u) p⟩
    · exact p.elim⟩

/-! ### calls of built-ins -/
abbrev DCall := List F → Sto → (F → Sto → Prop) → Prop
abbrev DCallL := List F → Sto → (List F → Sto → Prop) → Prop
def rC (K : PySem.W.Frag) (c : DCall) : List V → Hp → VK → Prop := fun vs H Q => ∃ ds S Z, Dens K Z vs ds ∧ RelS K Z S H ∧ c ds S (DFin K Z S H Q)
def rCL (K : PySem.W.Frag) (c : DCallL) : List V → Hp → VK → Prop := fun vs H Q => ∃ ds S Z, Dens K Z vs ds ∧ RelS K Z S H ∧ c ds S (LFin K Z S H Q)
def MonoC {α : Type} (c : List F → Sto → (α → Sto → Prop) → Prop) : Prop := ∀ xs S (Q Q' : α → Sto → Prop), (∀ d S', Q d S' → Q' d S') → c xs S Q → c xs S Q'
structure CallD (X : Cx) (f : Value) (c : DCall) : Prop where
  mono : MonoC c
  run : CallR X f (rC X.K c)
structure CallL (X : Cx) (f : Value) (c : DCallL) : Prop where
  mono : MonoC c
  run : CallR X f (rCL X.K c)
def wCall {α : Type} (c : List F → Sto → (α → Sto → Prop) → Prop) (ms : W (List F)) : W α := fun ρ S Q => ms ρ S fun xs S1 => c xs S1 Q
theorem mono_wCall {α : Type} {c : List F → Sto → (α → Sto → Prop) → Prop} {ms : W (List F)} (hc : MonoC c) (hm : Mono ms) : Mono (wCall c ms) := fun _ _ _ _ k q => hm _ _ _ _ (fun _ _ q => hc _ _ _ _ k q) q
theorem call_in {K : PySem.W.Frag} {c : DCall} {ms : W (List F)} (hc : MonoC c) (hm : Mono ms) {σ : Sig} {H : Hp} {Q : VK} (h : tD K (wCall c ms) σ H Q) : tCB (rC K c) (tDs K ms) σ H Q := by
  obtain ⟨ρ, S, Z, r, R, h⟩ := h
  refine tDs_in hm r R h fun xs S1 vs Z1 H1 p e1 R1 d1 => ?_
  exact ⟨xs, S1, Z1, d1, R1, hc _ _ _ _ (fun z S2 q v Z' H' e2 R2 d2 => q v Z' H' (e1.trans e2) R2 d2) p⟩
theorem callL_in {K : PySem.W.Frag} {c : DCallL} {ms : W (List F)} (hc : MonoC c) (hm : Mono ms) {σ : Sig} {H : Hp} {Q : VK} (h : tL K (wCall c ms) σ H Q) : tCB (rCL K c) (tDs K ms) σ H Q := by
  obtain ⟨ρ, S, Z, r, R, h⟩ := h
  refine tDs_in hm r R h fun xs S1 vs Z1 H1 p e1 R1 d1 => ?_
  exact ⟨xs, S1, Z1, d1, R1, hc _ _ _ _ (fun z S2 q p vs Z' H' e2 R2 n1 n2 n3 n4 d2 => q p vs Z' H' (e1.trans e2) R2 (e1.d p n1) n2 n3 n4 d2) p⟩
variable {es : List Expr} {ms : W (List F)} {x : Str} {p : Pos} {T id : String}
theorem pd_callB {c : DCall} (hc : CallD X (.builtin id) c) (hg : Gl X x) (hm : X.mg x = none) (hv : bootBuiltins x = some (.builtin id)) (ha : PDs X (e :: es) ms) (hn : x ≠ "__name__" := by decide) (hdb : (x == ("__debug__" : Str)) = false := by decide)
    (hs : starEach (e :: es) X.env = (false, eval e X.env) :: starEach es X.env := by rfl) (hplain : (backTo pos (starEach es X.env)).any (·.1) = false := by rfl) : PD X (.Call (.Name x p) (e :: es) [] pos) (wCall c ms) :=
  ⟨mono_wCall hc.mono ha.mono, weakE (pe_callB hc.run hg hm hv ha.run hn hdb hs hplain) fun _ _ _ h => call_in hc.mono ha.mono h⟩
theorem pd_callTy {c : DCall} (hc : CallD X (.type T) c) (hg : Gl X x) (hm : X.mg x = none) (hv : bootBuiltins x = some (.type T)) (ha : PDs X (e :: es) ms) (hn : x ≠ "__name__" := by decide) (hdb : (x == ("__debug__" : Str)) = false := by decide)
    (hs : starEach (e :: es) X.env = (false, eval e X.env) :: starEach es X.env := by rfl) (hplain : (backTo pos (starEach es X.env)).any (·.1) = false := by rfl) : PD X (.Call (.Name x p) (e :: es) [] pos) (wCall c ms) :=
  ⟨mono_wCall hc.mono ha.mono, weakE (pe_callTy hc.run hg hm hv ha.run hn hdb hs hplain) fun _ _ _ h => call_in hc.mono ha.mono h⟩
theorem pl_callTy {c : DCallL} (hc : CallL X (.type T) c) (hg : Gl X x) (hm : X.mg x = none) (hv : bootBuiltins x = some (.type T)) (ha : PDs X (e :: es) ms) (hn : x ≠ "__name__" := by decide) (hdb : (x == ("__debug__" : Str)) = false := by decide)
    (hs : starEach (e :: es) X.env = (false, eval e X.env) :: starEach es X.env := by rfl) (hplain : (backTo pos (starEach es X.env)).any (·.1) = false := by rfl) : PL X (.Call (.Name x p) (e :: es) [] pos) (wCall c ms) :=
  ⟨mono_wCall hc.mono ha.mono, weakE (pe_callTy hc.run hg hm hv ha.run hn hdb hs hplain) fun _ _ _ h => callL_in hc.mono ha.mono h⟩
theorem pl_callB {c : DCallL} (hc : CallL X (.builtin id) c) (hg : Gl X x) (hm : X.mg x = none) (hv : bootBuiltins x = some (.builtin id)) (ha : PDs X (e :: es) ms) (hn : x ≠ "__name__" := by decide) (hdb : (x == ("__debug__" : Str)) = false := by decide)
    (hs : starEach (e :: es) X.env = (false, eval e X.env) :: starEach es X.env := by rfl) (hplain : (backTo pos (starEach es X.env)).any (·.1) = false := by rfl) : PL X (.Call (.Name x p) (e :: es) [] pos) (wCall c ms) :=
  ⟨mono_wCall hc.mono ha.mono, weakE (pe_callB hc.run hg hm hv ha.run hn hdb hs hplain) fun _ _ _ h => callL_in hc.mono ha.mono h⟩
theorem callWeak {f : Value} {r r' : List V → Hp → VK → Prop} (h : CallR X f r) (k : ∀ xs H Q, r' xs H Q → r xs H Q) : CallR X f r' := fun pins s σ H xs us Q I rs q => h pins s σ H xs us Q I rs (k _ _ _ q)
theorem dens1 {K : PySem.W.Frag} {Z : Hp} {vs : List V} {d : F} (h : Dens K Z vs [d]) : ∃ v, vs = [v] ∧ Den K Z v d := by
  cases h with
  | cons h1 h2 => cases h2; exact ⟨_, rfl, h1⟩
theorem dens2 {K : PySem.W.Frag} {Z : Hp} {vs : List V} {d e : F} (h : Dens K Z vs [d, e]) : ∃ v w, vs = [v, w] ∧ Den K Z v d ∧ Den K Z w e := by
  cases h with
  | cons h1 h2 =>
    obtain ⟨w, rfl, h3⟩ := dens1 h2
    exact ⟨_, _, rfl, h1, h3⟩
/-- what has a length, items -/
def seqR (S : Sto) : F → Option (List F) | .tup xs => some xs | x => listR S x
theorem seqR_of {K : PySem.W.Frag} {Z H : Hp} {S : Sto} {v : V} {d : F} {fs : List F} (R : RelS K Z S H) (h : Den K Z v d) (e : seqR S d = some fs) : ∃ a vs, v = .ref a ∧ (SqL K H a vs ∨ SqT K H a vs) ∧ Dens K Z vs fs := by
  unfold seqR at e
  split at e
  · cases e
    obtain ⟨a, vs, h1, h2, h3⟩ := tup_of R h
    exact ⟨a, vs, h1, .inr h2, h3⟩
  · obtain ⟨a, vs, h1, h2, h3⟩ := listR_of R h e
    exact ⟨a, vs, h1, .inl h2, h3⟩
def cLen : DCall := fun xs S Q => match xs with
  | [.str z] => z.length ≤ sizeLine ∧ Q (.int z.length) S
  | [x] => (match seqR S x with | some fs => Q (.int fs.length) S | none => False)
  | _ => False
theorem c_len : CallD X (.builtin "len") cLen := by
  refine ⟨fun xs S Q Q' k h => ?_, callWeak (CallR.or call_len_seq call_len_str) fun vs H Q ⟨ds, S, Z, dv, R, h⟩ => ?_⟩
  · unfold cLen at h ⊢
    split at h
    · exact ⟨h.1, k _ _ h.2⟩
    · split at h
      · exact k _ _ h
      · exact h.elim
    · exact h.elim
  · unfold cLen at h
    split at h
    · obtain ⟨v, rfl, d⟩ := dens1 dv
      exact .inr ⟨_, by rw [den_str d], h.1, fin_same R (.int _) h.2⟩
    · obtain ⟨v, rfl, d⟩ := dens1 dv
      split at h
      · rename_i fs e0
        obtain ⟨a, us, rfl, h1, h2⟩ := seqR_of R d e0
        exact .inl ⟨a, us, rfl, h1, fin_same R (.int _) (by rw [h2.length]; exact h)⟩
      · exact h.elim
    · exact h.elim
def cTuple : DCall := fun xs S Q => match xs with
  | [.tup fs] => Q (.tup fs) S
  | [x] => (match listR S x with | some fs => Q (.tup fs) S | none => False)
  | _ => False
theorem c_tuple : CallD X (.type "tuple") cTuple := by
  refine ⟨fun xs S Q Q' k h => ?_, callWeak call_tuple_of fun vs H Q ⟨ds, S, Z, dv, R, h⟩ => ?_⟩
  · unfold cTuple at h ⊢
    split at h
    · exact k _ _ h
    · split at h
      · exact k _ _ h
      · exact h.elim
    · exact h.elim
  · unfold cTuple at h
    split at h
    · obtain ⟨v, rfl, d⟩ := dens1 dv
      obtain ⟨a, us, rfl, h1, h2⟩ := tup_of R d
      exact ⟨a, us, rfl, .inr ⟨h1, fin_same R d h⟩⟩
    · obtain ⟨v, rfl, d⟩ := dens1 dv
      split at h
      · rename_i fs e0
        obtain ⟨a, us, rfl, h1, h2⟩ := listR_of R d e0
        exact ⟨a, us, rfl, .inl ⟨h1, fun p np => fin_tup R np h2 h⟩⟩
      · exact h.elim
    · exact h.elim
def cList : DCallL := fun xs S Q => match xs with
  | [x] => (match seqR S x with | some fs => Q fs S | none => False)
  | _ => False
theorem c_list : CallL X (.type "list") cList := by
  refine ⟨fun xs S Q Q' k h => ?_, callWeak call_list_of fun vs H Q ⟨ds, S, Z, dv, R, h⟩ => ?_⟩
  · unfold cList at h ⊢
    split at h
    · split at h
      · exact k _ _ h
      · exact h.elim
    · exact h.elim
  · unfold cList at h
    split at h
    · obtain ⟨v, rfl, d⟩ := dens1 dv
      split at h
      · rename_i fs e0
        obtain ⟨a, us, rfl, h1, h2⟩ := seqR_of R d e0
        exact ⟨a, us, rfl, h1, fun p np => lfin_new .refl R np h2 h⟩
      · exact h.elim
    · exact h.elim
def cInt : DCall := fun xs S Q => match xs with
  | [.int i] => Q (.int i) S
  | [.bl b] => Q (.int (if b = true then 1 else 0)) S
  | _ => False
theorem c_int : CallD X (.type "int") cInt := by
  refine ⟨fun xs S Q Q' k h => ?_, callWeak call_int1 fun vs H Q ⟨ds, S, Z, dv, R, h⟩ => ?_⟩
  · unfold cInt at h ⊢
    split at h
    · exact k _ _ h
    · exact k _ _ h
    · exact h.elim
  · unfold cInt at h
    split at h
    · obtain ⟨v, rfl, d⟩ := dens1 dv
      exact .inl ⟨_, by rw [den_int d], fin_same R (.int _) h⟩
    · obtain ⟨v, rfl, d⟩ := dens1 dv
      exact .inr ⟨_, by rw [den_bl d], fin_same R (.int _) h⟩
    · exact h.elim
def cSum : DCall := fun xs S Q => match xs with
  | [x] => (match seqR S x with | some fs => ∃ ns : List Int, fs = ns.map F.int ∧ Q (.int ns.sum) S | none => False)
  | _ => False
def rSumT (K : PySem.W.Frag) : List V → Hp → VK → Prop := fun vs H Q => ∃ (a : Addr) (ns : List Int), vs = [V.ref a] ∧ SqT K H a (ns.map V.int) ∧ Q (.int ns.sum) H
theorem cr_sumT (hc : X.calm = true) : CallR X (.builtin "sum") (rSumT X.K) := by
  intro pins s σ H vs us Q I r h
  obtain ⟨a, ns, rfl, hs, q⟩ := h
  obtain ⟨its, rv, hl, _⟩ := I.tuple hs
  rw [Vals.ref1 r]
  have hi := rv.ints
  obtain ⟨xs, e⟩ := hi.allInts.items
  have hn : numsOf (intItems xs).toList = ns := by rw [← e]; exact hi.numsOf
  rw [nums_intItems] at hn
  rw [e] at hl
  refine PySem.W.ktm_sumG (I.ok.hd hc) hl fun h' tk t' hk => ?_
  rw [preSum_eq, List.take_of_length_le (by simp), hn]
  exact ⟨.int _, H, I.kept hk, ⟨_, rfl⟩, q⟩
theorem c_sum (hc : X.calm = true) : CallD X (.builtin "sum") cSum := by
  refine ⟨fun xs S Q Q' k h => ?_, callWeak (CallR.or (cr_sum hc) (cr_sumT hc)) fun vs H Q ⟨ds, S, Z, dv, R, h⟩ => ?_⟩
  · unfold cSum at h ⊢
    split at h
    · split at h
      · obtain ⟨ns, e, q⟩ := h
        exact ⟨ns, e, k _ _ q⟩
      · exact h.elim
    · exact h.elim
  · unfold cSum at h
    split at h
    · obtain ⟨v, rfl, d⟩ := dens1 dv
      split at h
      · rename_i fs e0
        obtain ⟨ns, rfl, q⟩ := h
        obtain ⟨a, us, rfl, h1, h2⟩ := seqR_of R d e0
        have := h2.ints
        subst this
        rcases h1 with h1 | h1
        · exact .inl ⟨a, ns, rfl, h1, fin_same R (.int _) q⟩
        · exact .inr ⟨a, ns, rfl, h1, fin_same R (.int _) q⟩
      · exact h.elim
    · exact h.elim
def cAll : DCall := fun xs S Q => match xs with
  | [x] => (match listR S x with | some fs => ∃ bs : List Bool, fs = bs.map F.bl ∧ Q (.bl (bs.all _root_.id)) S | none => False)
  | _ => False
def cAny : DCall := fun xs S Q => match xs with
  | [x] => (match listR S x with | some fs => ∃ bs : List Bool, fs = bs.map F.bl ∧ Q (.bl (bs.any _root_.id)) S | none => False)
  | _ => False
theorem c_all (hc : X.calm = true) : CallD X (.builtin "all") cAll := by
  refine ⟨fun xs S Q Q' k h => ?_, callWeak (cr_all hc) fun vs H Q ⟨ds, S, Z, dv, R, h⟩ => ?_⟩
  · unfold cAll at h ⊢
    split at h
    · split at h
      · obtain ⟨ns, e, q⟩ := h
        exact ⟨ns, e, k _ _ q⟩
      · exact h.elim
    · exact h.elim
  · unfold cAll at h
    split at h
    · obtain ⟨v, rfl, d⟩ := dens1 dv
      split at h
      · rename_i fs e0
        obtain ⟨ns, rfl, q⟩ := h
        obtain ⟨a, us, rfl, h1, h2⟩ := listR_of R d e0
        have := h2.bls
        subst this
        exact ⟨a, ns, rfl, h1, fin_same R (.bl _) q⟩
      · exact h.elim
    · exact h.elim
theorem c_any (hc : X.calm = true) : CallD X (.builtin "any") cAny := by
  refine ⟨fun xs S Q Q' k h => ?_, callWeak (cr_any hc) fun vs H Q ⟨ds, S, Z, dv, R, h⟩ => ?_⟩
  · unfold cAny at h ⊢
    split at h
    · split at h
      · obtain ⟨ns, e, q⟩ := h
        exact ⟨ns, e, k _ _ q⟩
      · exact h.elim
    · exact h.elim
  · unfold cAny at h
    split at h
    · obtain ⟨v, rfl, d⟩ := dens1 dv
      split at h
      · rename_i fs e0
        obtain ⟨ns, rfl, q⟩ := h
        obtain ⟨a, us, rfl, h1, h2⟩ := listR_of R d e0
        have := h2.bls
        subst this
        exact ⟨a, ns, rfl, h1, fin_same R (.bl _) q⟩
      · exact h.elim
    · exact h.elim
/-- isinstance(e, T) -/
def tyOf : F → String
  | .non => "NoneType" | .bl _ => "bool" | .int _ => "int" | .str _ => "str" | .tup _ => "tuple" | .lst _ => "list" | .rol _ => "list" | .loc _ => "list"
def isTy (T : String) (x : F) : Bool := match x with
  | .non => T == "NoneType" | .bl _ => T == "bool" || T == "int" | .int _ => T == "int" | .str _ => T == "str" | .tup _ => T == "tuple" | .lst _ => T == "list" | .rol _ => T == "list" | .loc _ => T == "list"
def isiOk (S : Sto) : F → Prop | .loc a => (S a).isSome = true | _ => True
def wIsi (T : String) (ma : W F) : W F := fun ρ S Q => ma ρ S fun x S1 => isiOk S1 x ∧ Q (.bl (isTy T x)) S1
def kitAll (T : String) : Bool := [("NoneType", F.non), ("bool", .bl true), ("int", .int 0), ("str", .str ⟨#[]⟩), ("tuple", .tup []), ("list", .lst [])].all fun p => decide (kitB p.1 T = some (isTy T p.2))
theorem kitAll_of {T : String} (h : kitAll T = true) (x : F) : kitB (tyOf x) T = some (isTy T x) := by
  simp only [kitAll, List.all_cons, List.all_nil, Bool.and_true, Bool.and_eq_true, decide_eq_true_eq] at h
  obtain ⟨h1, h2, h3, h4, h5, h6⟩ := h
  cases x with
  | non => exact h1
  | bl b => exact h2
  | int i => exact h3
  | str s => exact h4
  | tup l => exact h5
  | lst l => exact h6
  | rol l => exact h6
  | loc a => exact h6
theorem tyX_of {K : PySem.W.Frag} {Z H : Hp} {S : Sto} {v : V} {d : F} (R : RelS K Z S H) (h : Den K Z v d) (hl : isiOk S d) : TyX K H v (.type (tyOf d)) := by
  cases h with
  | non => exact .base .non
  | bl b => exact .base (.bl b)
  | int i => exact .base (.int i)
  | str x => exact .base (.str x)
  | tup h1 h2 =>
    rcases R.sqT h1.sq with (h | ⟨o, h⟩) | ⟨o, its, n, h, hc, _⟩
    · exact .base (.tup h)
    · exact .fTuple h
    · exact .kTuple h hc
  | lst h1 h2 => exact .base (.lst (R.z _ _ h1).1)
  | rol h1 h2 =>
    rcases R.sqL h1 with (h | ⟨o, h⟩) | ⟨o, its, n, h, hc, _⟩
    · exact .base (.lst h)
    · exact .base (.frz h)
    · exact .kList h hc
  | loc a =>
    cases e : S a with
    | none =>
      have hl : (S a).isSome = true := hl
      rw [e] at hl
      cases hl
    | some fs =>
      obtain ⟨vs, h, _⟩ := R.s a fs e
      exact .base (.lst h)
theorem pd_isi {T : String} {y : Str} {p q pos : Pos} (hk : kitAll T = true) (hg : Gl X "isinstance") (hm : X.mg "isinstance" = none) (hg2 : Gl X y) (hm2 : X.mg y = none) (hv : bootBuiltins y = some (.type T)) (ha : PD X a ma)
    (hn : y ≠ "__name__" := by decide) (hd : (y == ("__debug__" : Str)) = false := by decide)
    (hs : starEach [a, .Name y q] X.env = (false, eval a X.env) :: starEach [.Name y q] X.env := by rfl) (hs2 : starEach [.Name y q] X.env = (false, eval (.Name y q) X.env) :: starEach [] X.env := by rfl) (hplain : (backTo pos (starEach [.Name y q] X.env)).any (·.1) = false := by rfl) :
    PD X (.Call (.Name "isinstance" p) [a, .Name y q] [] pos) (wIsi T ma) :=
  ⟨fun _ _ _ _ k h => ha.mono _ _ _ _ (fun _ _ h => ⟨h.1, k _ _ h.2⟩) h,
   weakE (pe_callB call_isi hg hm (by decide +kernel) (pa_cons ha.run (pa_cons (pe_bltn (v := .ty T) hg2 hm2 hv rfl hn hd) pa_nil hs2) hs) (by decide) (by decide) hs hplain) fun σ H Q ⟨ρ, S, Z, r, R, h⟩ => by
    refine tD_in ha.mono r R h fun x S1 v1 Z1 H1 p e1 R1 d1 => ?_
    exact ⟨v1, .ty T, .type (tyOf x), .type T, isTy T x, rfl, .ty T, tyX_of R1 d1 p.1, kit_ty (kitAll_of hk x), p.2 _ _ _ e1 R1 (.bl _)⟩⟩

/-! ### methods -/
abbrev DMt := F → List F → Sto → (F → Sto → Prop) → Prop
def rM (K : PySem.W.Frag) (c : DMt) : V → List V → Hp → VK → Prop := fun v vs H Q => ∃ d ds S Z, Den K Z v d ∧ Dens K Z vs ds ∧ RelS K Z S H ∧ c d ds S (DFin K Z S H Q)
def MonoM (c : DMt) : Prop := ∀ d xs S (Q Q' : F → Sto → Prop), (∀ d S', Q d S' → Q' d S') → c d xs S Q → c d xs S Q'
structure MtD (X : Cx) (id : String) (c : DMt) : Prop where
  mono : MonoM c
  run : MtR X id (rM X.K c)
theorem mtWeak {id : String} {r r' : V → List V → Hp → VK → Prop} (h : MtR X id r) (k : ∀ x xs H Q, r' x xs H Q → r x xs H Q) : MtR X id r' := fun pins s σ H x xs v us Q I rx rs q => h pins s σ H x xs v us Q I rx rs (k _ _ _ _ q)
def wMt (c : DMt) (mo : W F) (ms : W (List F)) : W F := fun ρ S Q => mo ρ S fun x S1 => (listR S1 x).isSome = true ∧ ms ρ S1 fun xs S2 => c x xs S2 Q
def wMt0 (c : DMt) (mo : W F) : W F := fun ρ S Q => mo ρ S fun x S1 => (listR S1 x).isSome = true ∧ c x [] S1 Q
theorem ty_list {K : PySem.W.Frag} {Z H : Hp} {S : Sto} {v : V} {d : F} (R : RelS K Z S H) (h : Den K Z v d) (hl : (listR S d).isSome = true) : tyV K "list" v H := by
  cases e : listR S d with
  | none => rw [e] at hl; cases hl
  | some fs =>
    obtain ⟨a, vs, rfl, h1, _⟩ := listR_of R h e
    exact .inl ⟨rfl, vs, h1⟩
variable {o : Expr} {mo : W F} {name : Str} {apos cpos : Pos}
theorem pd_mt {c : DMt} (slot : Slot "list" name id) (hty : typeOf (.builtin id) = pure (.type "method_descriptor")) (hm : MtD X id c) (ho : PD X o mo) (ha : PDs X (e :: es) ms)
    (hbase : attributeBase o name X.env (eval o X.env) = eval o X.env := by rfl)
    (hfew : ((backTo cpos (starEach (e :: es) X.env)).all (fun x => !x.1) && (backToKw cpos (keywordEach [] X.env)).all (fun x => x.1.isSome)
      && decide ((e :: es).length + ([] : List Keyword).length + (if ([] : List Keyword).isEmpty then 0 else 1) < 30)) = true := by rfl)
    (hline : (apos.endLine == cpos.line) = true := by rfl) (hs : starEach (e :: es) X.env = (false, eval e X.env) :: starEach es X.env := by rfl) (hplain : (backTo cpos (starEach es X.env)).any (·.1) = false := by rfl) :
    PD X (.Call (.Attribute o name apos) (e :: es) [] cpos) (wMt c mo ms) :=
  ⟨fun _ _ _ _ k h => ho.mono _ _ _ _ (fun _ _ h => ⟨h.1, ha.mono _ _ _ _ (fun _ _ h => hm.mono _ _ _ _ _ k h) h.2⟩) h,
   weakE (pe_bm PySem.F.plainAttrs_list slot hty hm.run ho.run ha.run hbase hfew hline hs hplain) fun σ H Q ⟨ρ, S, Z, r, R, h⟩ => by
    refine tD_in ho.mono r R h fun x S1 v1 Z1 H1 p e1 R1 d1 => ⟨ty_list R1 d1 p.1, ?_⟩
    refine tDs_in ha.mono (r.ext e1.z) R1 p.2 fun xs S2 vs Z2 H2 p2 e2 R2 d2 => ?_
    exact ⟨x, xs, S2, Z2, d1.ext e2.z, d2, R2, hm.mono _ _ _ _ _ (fun z S3 q v Z' H' e3 R3 d3 => q v Z' H' ((e1.trans e2).trans e3) R3 d3) p2⟩⟩
theorem pd_mt0 {c : DMt} (slot : Slot "list" name id) (hty : typeOf (.builtin id) = pure (.type "method_descriptor")) (hm : MtD X id c) (ho : PD X o mo)
    (hbase : attributeBase o name X.env (eval o X.env) = eval o X.env := by rfl) (hline : (apos.endLine == cpos.line) = true := by rfl) :
    PD X (.Call (.Attribute o name apos) [] [] cpos) (wMt0 c mo) :=
  ⟨fun _ _ _ _ k h => ho.mono _ _ _ _ (fun _ _ h => ⟨h.1, hm.mono _ _ _ _ _ k h.2⟩) h,
   weakE (pe_bm0 PySem.F.plainAttrs_list slot hty hm.run ho.run hbase hline) fun σ H Q ⟨ρ, S, Z, r, R, h⟩ => by
    refine tD_in ho.mono r R h fun x S1 v1 Z1 H1 p e1 R1 d1 => ⟨ty_list R1 d1 p.1, ?_⟩
    exact ⟨x, [], S1, Z1, d1, .nil, R1, hm.mono _ _ _ _ _ (fun z S3 q v Z' H' e3 R3 d3 => q v Z' H' (e1.trans e3) R3 d3) p.2⟩⟩
/-- the end of a rule that changes a list -/
theorem fin_write {K : PySem.W.Frag} {Z H : Hp} {S : Sto} {a : Addr} {fs gs : List F} {vs us : List V} {Q : VK} {d : F} {v : V} (R : RelS K Z S H) (e : S a = some fs) (du : Dens K Z us gs) (dd : Den K Z v d) (q : DFin K Z S H Q d (updS S a gs)) : Q v (upd H a (.lst us)) := by
  obtain ⟨R2, e2⟩ := R.write e du
  exact q v Z _ e2 R2 dd
def mAppend : DMt := fun x xs S Q => match x, xs with
  | .loc a, [y] => (match S a with | some fs => fs.length < sizeLine ∧ Q .non (updS S a (fs ++ [y])) | none => False)
  | _, _ => False
theorem m_append : MtD X "list.append" mAppend := by
  refine ⟨fun d xs S Q Q' k h => ?_, mtWeak mt_append fun v vs H Q ⟨d, ds, S, Z, dv, dvs, R, h⟩ => ?_⟩
  · unfold mAppend at h ⊢
    split at h
    · split at h
      · exact ⟨h.1, k _ _ h.2⟩
      · exact h.elim
    · exact h.elim
  · unfold mAppend at h
    split at h
    · split at h
      · rename_i e0
        obtain ⟨w, rfl, dw⟩ := dens1 dvs
        cases dv
        obtain ⟨us, h1, h2⟩ := R.s _ _ e0
        exact ⟨_, us, w, rfl, rfl, h1, by rw [h2.length]; exact h.1, fin_write (vs := us) R e0 (h2.append (.cons dw .nil)) .non h.2⟩
      · exact h.elim
    · exact h.elim
/-- xs.pop(i) -/
def mPopAt : DMt := fun x xs S Q => match x, xs with
  | .loc a, [.int i] => (match S a with
    | some fs => (-(2 ^ 63) ≤ i ∧ i < 2 ^ 63) ∧ (match ixN fs.length i with
      | some j => (match fs[j]? with | some y => Q y (updS S a (fs.eraseIdx j)) | none => False)
      | none => False)
    | none => False)
  | _, _ => False
theorem m_popAt : MtD X "list.pop" mPopAt := by
  refine ⟨fun d xs S Q Q' k h => ?_, mtWeak mt_popAt fun v vs H Q ⟨d, ds, S, Z, dv, dvs, R, h⟩ => ?_⟩
  · unfold mPopAt at h ⊢
    split at h
    · split at h
      · refine ⟨h.1, ?_⟩
        have h := h.2
        split at h
        · split at h
          · exact k _ _ h
          · exact h.elim
        · exact h.elim
      · exact h.elim
    · exact h.elim
  · unfold mPopAt at h
    split at h
    · split at h
      · rename_i e0
        obtain ⟨⟨i1, i2⟩, h⟩ := h
        obtain ⟨w, rfl, dw⟩ := dens1 dvs
        cases dv
        obtain ⟨us, h1, h2⟩ := R.s _ _ e0
        split at h
        · rename_i ej
          split at h
          · rename_i ey
            obtain ⟨w2, e2, d2⟩ := h2.get ey
            obtain ⟨s1, _⟩ := ixN_seq ej
            exact ⟨_, us, _, _, w2, rfl, by rw [den_int dw], h1, i1, i2, by rw [h2.length]; exact s1, e2, fin_write (vs := us) R e0 (h2.eraseIdx _) d2 h⟩
          · exact h.elim
        · exact h.elim
      · exact h.elim
    · exact h.elim
/-- xs.pop() -/
def mPop : DMt := fun x xs S Q => match x, xs with
  | .loc a, [] => (match S a with
    | some fs => (match fs[fs.length - 1]? with | some y => Q y (updS S a fs.dropLast) | none => False)
    | none => False)
  | _, _ => False
theorem Dens.dropLast {K : PySem.W.Frag} {Z : Hp} {vs : List V} {fs : List F} (d : Dens K Z vs fs) : Dens K Z vs.dropLast fs.dropLast := by
  rw [List.dropLast_eq_take, List.dropLast_eq_take, d.length]
  exact d.take _
theorem m_pop : MtD X "list.pop" mPop := by
  refine ⟨fun d xs S Q Q' k h => ?_, mtWeak mt_pop fun v vs H Q ⟨d, ds, S, Z, dv, dvs, R, h⟩ => ?_⟩
  · unfold mPop at h ⊢
    split at h
    · split at h
      · split at h
        · exact k _ _ h
        · exact h.elim
      · exact h.elim
    · exact h.elim
  · unfold mPop at h
    split at h
    · split at h
      · rename_i e0
        cases dvs
        cases dv
        obtain ⟨us, h1, h2⟩ := R.s _ _ e0
        split at h
        · rename_i ey
          obtain ⟨w2, e2, d2⟩ := h2.get ey
          exact ⟨_, us, w2, rfl, rfl, h1, by rw [h2.length]; exact e2, fin_write (vs := us) R e0 h2.dropLast d2 h⟩
        · exact h.elim
      · exact h.elim
    · exact h.elim
end
end DL

set_option maxHeartbeats 4000000
namespace DL
open PySem PySem.Spec PyProof.Rows L2

/-! ### what is walked -/
structure ItD where
  items : List F
  gd : Sto → Prop
structure Wk (K : PySem.W.Frag) (Z0 : Hp) (J : It) (it : ItD) : Prop where
  go : ∀ Z S H (i : Nat) f, (∀ a o, Z0 a = some o → Z a = some o) → RelS K Z S H → it.gd S → it.items[i]? = some f → J.go i H ∧ ∀ x H', J.yld i H x H' → ∃ Z', Ext Z S H Z' S H' ∧ RelS K Z' S H' ∧ Den K Z' x f
  stop : ∀ Z S H (i : Nat), (∀ a o, Z0 a = some o → Z a = some o) → RelS K Z S H → it.gd S → it.items.length ≤ i → J.stop i H
theorem Wk.ext {K : PySem.W.Frag} {Z0 Z1 : Hp} {J : It} {it : ItD} (h : Wk K Z0 J it) (z : ∀ a o, Z0 a = some o → Z1 a = some o) : Wk K Z1 J it :=
  ⟨fun Z S H i f k => h.go Z S H i f fun a o q => k a o (z a o q), fun Z S H i k => h.stop Z S H i fun a o q => k a o (z a o q)⟩
def tI (K : PySem.W.Frag) (m : W ItD) : TI := fun σ H R => ∃ ρ S Z, REnv K Z ρ σ ∧ RelS K Z S H ∧ m ρ S (fun it S' => ∀ J Z' H', Ext Z S H Z' S' H' → RelS K Z' S' H' → Wk K Z' J it → R J H')
structure PID (X : Cx) (tg iter : Expr) (m : W ItD) : Prop where
  mono : Mono m
  run : PI X tg iter (tI X.K m)
section
variable {X : Cx} {tg e e2 : Expr} {m m2 : W F} {p pos : Pos}
theorem weakI {iter : Expr} {t t' : TI} (h : PI X tg iter t) (k : ∀ σ H R, t' σ H R → t σ H R) : PI X tg iter t' := ⟨fun pins s σ H R I q => h.run pins s σ H R I (k σ H R q)⟩
def iSeq (K : PySem.W.Frag) (tl : TE) : TI := fun σ H R => tl σ H fun x H1 => (∃ a, x = .ref a ∧ (∃ xs, SqL K H1 a xs) ∧ R (Itl K a) H1) ∨ (∃ a, x = .ref a ∧ (∃ xs, SqT K H1 a xs) ∧ R (Itt K a) H1) ∨ ∃ z, x = .str z ∧ R (Its z) H1
theorem pi_seq {l : Expr} {tl : TE} (hl : PE X l tl) : PI X tg l (iSeq X.K tl) := by
  refine ⟨fun pins s σ H R I h => ?_⟩
  refine thn (hl.run pins s σ H _ I h) fun v s1 ⟨x, H1, I1, r1, q1⟩ => ?_
  rcases q1 with ⟨a, e, ⟨xs, hq⟩, q⟩ | ⟨a, e, ⟨xs, hq⟩, q⟩ | ⟨z, e, q⟩
  · subst e
    cases r1
    obtain ⟨its, rv, p, hz⟩ := I1.list hq
    refine wpAny_pyIter_list p.isList ?_
    refine ⟨s1.heap.objs.size, [s1.heap.objs.size], _, _, H1, rfl, I1.kept (t' := s1.toks) fun b o e => Heap.get?_push_of_some _ e, turn_list a _, ⟨_, Heap.get?_push_size _ rfl, rfl, rfl⟩, fun b hb => ?_, q⟩
    have e : b = s1.heap.objs.size := by simpa using hb
    subst e
    exact I1.fpOk (Nat.le_refl _) (I1.hok.fresh (Nat.le_refl _))
  · subst e
    cases r1
    obtain ⟨its, rv, p, hz⟩ := I1.tuple hq
    refine wpAny_pyIter_tuple (show s1.heap.IsTuple a its.toArray from p) ?_
    refine ⟨s1.heap.objs.size, [s1.heap.objs.size], _, _, H1, rfl, I1.kept (t' := s1.toks) fun b o e => Heap.get?_push_of_some _ e, turn_tuple a _, ⟨_, Heap.get?_push_size _ rfl, rfl, rfl⟩, fun b hb => ?_, q⟩
    have e : b = s1.heap.objs.size := by simpa using hb
    subst e
    exact I1.fpOk (Nat.le_refl _) (I1.hok.fresh (Nat.le_refl _))
  · subst e
    obtain ⟨t, rfl⟩ := r1
    cases ha : z.cps.all (· < 128)
    · exact wpAny_pyIter_wide ha (pi_one (tk := s1.toks) I1 _ (turn_str _ z t "str_iterator" (.inr rfl)) ⟨_, Heap.get?_push_size _ rfl, rfl, rfl⟩ q)
    · exact wpAny_pyIter_ascii ha (pi_one (tk := s1.toks) I1 _ (turn_str _ z t "str_ascii_iterator" (.inl rfl)) ⟨_, Heap.get?_push_size _ rfl, rfl, rfl⟩ q)
/-- the items of a value, and what must stay while they are walked -/
def itOf (S : Sto) : F → Option ItD
  | .tup xs => some ⟨xs, fun _ => True⟩
  | .lst xs => some ⟨xs, fun _ => True⟩
  | .rol xs => some ⟨xs, fun _ => True⟩
  | .str z => some ⟨z.cps.toList.map fun c => .str ⟨#[c]⟩, fun _ => True⟩
  | .loc a => (S a).map fun xs => ⟨xs, fun S => S a = some xs⟩
  | _ => none
def onIt (S : Sto) (x : F) (Q : ItD → Sto → Prop) : Prop := match itOf S x with | some it => Q it S | none => False
theorem onIt_of {S : Sto} {x : F} {Q : ItD → Sto → Prop} (h : onIt S x Q) : ∃ it, itOf S x = some it ∧ Q it S := by
  unfold onIt at h
  split at h
  · exact ⟨_, by assumption, h⟩
  · exact h.elim
theorem mono_onIt {S : Sto} {x : F} {Q Q' : ItD → Sto → Prop} (k : ∀ d S', Q d S' → Q' d S') (h : onIt S x Q) : onIt S x Q' := by
  obtain ⟨it, e, q⟩ := onIt_of h
  unfold onIt
  rw [e]
  exact k _ _ q
theorem den_get {K : PySem.W.Frag} {Z : Hp} {vs : List V} {fs : List F} (d : Dens K Z vs fs) {i : Nat} {f : F} {x : V} (e : fs[i]? = some f) (h : vs[i]? = some x) : Den K Z x f := by
  obtain ⟨v, e1, dv⟩ := d.get e
  rw [h] at e1
  cases e1
  exact dv
theorem seq_in {K : PySem.W.Frag} {v : V} {d : F} {Z H : Hp} {S : Sto} {R : It → Hp → Prop} (D : Den K Z v d) (Rs : RelS K Z S H) (h : onIt S d (fun it S' => ∀ J Z' H', Ext Z S H Z' S' H' → RelS K Z' S' H' → Wk K Z' J it → R J H')) :
    (∃ a, v = .ref a ∧ (∃ xs, SqL K H a xs) ∧ R (Itl K a) H) ∨ (∃ a, v = .ref a ∧ (∃ xs, SqT K H a xs) ∧ R (Itt K a) H) ∨ ∃ z, v = .str z ∧ R (Its z) H := by
  obtain ⟨it, e, q⟩ := onIt_of h
  cases D with
  | tup h1 h2 =>
    cases e
    rename_i a vs fs
    refine .inr (.inl ⟨a, rfl, ⟨vs, Rs.sqT h1.sq⟩, q _ Z H .refl Rs ⟨fun Z1 S1 H1 i f z R1 _ e => ⟨?_, fun x H' y => ?_⟩, fun Z1 S1 H1 i z R1 _ hl => ?_⟩⟩)
    · obtain ⟨v, e1, _⟩ := h2.get e
      exact ⟨vs, v, R1.sqT (SqT_ext z h1.sq), e1⟩
    · obtain ⟨rfl, y⟩ := y
      exact ⟨Z1, .refl, R1, (den_get h2 e (y vs (R1.sqT (SqT_ext z h1.sq)))).ext z⟩
    · exact ⟨vs, R1.sqT (SqT_ext z h1.sq), by rw [h2.length]; exact hl⟩
  | lst h1 h2 =>
    cases e
    rename_i a vs fs
    have h1 : SqL K Z a vs := SqL.of h1
    refine .inl ⟨a, rfl, ⟨vs, Rs.sqL h1⟩, q _ Z H .refl Rs ⟨fun Z1 S1 H1 i f z R1 _ e => ⟨?_, fun x H' y => ?_⟩, fun Z1 S1 H1 i z R1 _ hl => ?_⟩⟩
    · obtain ⟨v, e1, _⟩ := h2.get e
      exact ⟨vs, v, R1.sqL (SqL_ext z h1), e1⟩
    · obtain ⟨rfl, y⟩ := y
      exact ⟨Z1, .refl, R1, (den_get h2 e (y vs (R1.sqL (SqL_ext z h1)))).ext z⟩
    · exact ⟨vs, R1.sqL (SqL_ext z h1), by rw [h2.length]; exact hl⟩
  | rol h1 h2 =>
    cases e
    rename_i a vs fs
    refine .inl ⟨a, rfl, ⟨vs, Rs.sqL h1⟩, q _ Z H .refl Rs ⟨fun Z1 S1 H1 i f z R1 _ e => ⟨?_, fun x H' y => ?_⟩, fun Z1 S1 H1 i z R1 _ hl => ?_⟩⟩
    · obtain ⟨v, e1, _⟩ := h2.get e
      exact ⟨vs, v, R1.sqL (SqL_ext z h1), e1⟩
    · obtain ⟨rfl, y⟩ := y
      exact ⟨Z1, .refl, R1, (den_get h2 e (y vs (R1.sqL (SqL_ext z h1)))).ext z⟩
    · exact ⟨vs, R1.sqL (SqL_ext z h1), by rw [h2.length]; exact hl⟩
  | str z =>
    cases e
    refine .inr (.inr ⟨z, rfl, q _ Z H .refl Rs ⟨fun Z1 S1 H1 i f zz R1 _ e => ⟨?_, fun x H' y => ?_⟩, fun Z1 S1 H1 i zz R1 _ hl => ?_⟩⟩)
    · have e : (z.cps.toList.map fun c => F.str ⟨#[c]⟩)[i]? = some f := e
      rw [List.getElem?_map] at e
      cases q : z.cps.toList[i]? with
      | none => rw [q] at e; cases e
      | some c =>
        obtain ⟨hi, _⟩ := List.getElem?_eq_some_iff.mp q
        show i < z.cps.size
        simpa using hi
    · obtain ⟨rfl, c, hc, rfl⟩ := y
      have e : (z.cps.toList.map fun c => F.str ⟨#[c]⟩)[i]? = some f := e
      rw [List.getElem?_map, show z.cps.toList[i]? = some c by simpa using hc] at e
      cases e
      exact ⟨Z1, .refl, R1, .str _⟩
    · show z.cps.size ≤ i
      simpa using hl
  | loc a =>
    cases e0 : S a with
    | none =>
      have e : (S a).map (fun xs => (⟨xs, fun S => S a = some xs⟩ : ItD)) = some it := e
      rw [e0] at e
      cases e
    | some fs =>
      have e : (S a).map (fun xs => (⟨xs, fun S => S a = some xs⟩ : ItD)) = some it := e
      rw [e0] at e
      cases e
      obtain ⟨vs0, h1, _⟩ := Rs.s a fs e0
      refine .inl ⟨a, rfl, ⟨vs0, SqL.of h1⟩, q _ Z H .refl Rs ⟨fun Z1 S1 H1 i f z R1 g e => ?_, fun Z1 S1 H1 i z R1 g hl => ?_⟩⟩
      · obtain ⟨vs, h1, h2⟩ := R1.s a fs g
        refine ⟨?_, fun x H' y => ?_⟩
        · obtain ⟨v, e1, _⟩ := h2.get e
          exact ⟨vs, v, SqL.of h1, e1⟩
        · obtain ⟨rfl, y⟩ := y
          exact ⟨Z1, .refl, R1, den_get h2 e (y vs (SqL.of h1))⟩
      · obtain ⟨vs, h1, h2⟩ := R1.s a fs g
        exact ⟨vs, SqL.of h1, by rw [h2.length]; exact hl⟩
  | _ => cases e
def wIt (m : W F) : W ItD := fun ρ S Q => m ρ S fun x S1 => onIt S1 x Q
theorem pid_seq (h : PD X e m) : PID X tg e (wIt m) := ⟨fun _ _ _ _ k q => h.mono _ _ _ _ (fun _ _ q => mono_onIt k q) q, weakI (pi_seq h.run) fun σ H R ⟨ρ, S, Z, r, Rs, q⟩ => by
  refine tD_in h.mono r Rs q fun x S1 v1 Z1 H1 p e1 R1 d1 => ?_
  exact seq_in d1 R1 (mono_onIt (fun it S2 q J Z' H' e2 R2 w => q J Z' H' (e1.trans e2) R2 w) p)⟩
/-- lo, lo + 1, .. -/
def rngL (lo : Int) (n : Nat) : List F := (List.range n).map fun i => F.int (lo + (i : Nat))
theorem wk_range {K : PySem.W.Frag} {Z : Hp} (lo : Int) (n : Nat) : Wk K Z (Itr lo n) ⟨rngL lo n, fun _ => True⟩ :=
  ⟨fun Z1 S1 H1 i f z R1 _ e => by
    have e : ((List.range n).map fun i => F.int (lo + (i : Nat)))[i]? = some f := e
    rw [List.getElem?_map] at e
    by_cases hi : i < n
    · rw [List.getElem?_range hi] at e
      cases e
      exact ⟨hi, fun x H' y => by obtain ⟨rfl, rfl⟩ := y; exact ⟨Z1, .refl, R1, .int _⟩⟩
    · rw [List.getElem?_eq_none (by simpa using hi)] at e
      exact absurd e (by intro q; cases q),
   fun Z1 S1 H1 i z R1 _ hl => by
    have hl : ((List.range n).map fun i => F.int (lo + (i : Nat))).length ≤ i := hl
    rw [List.length_map, List.length_range] at hl
    exact hl⟩
def wRange1 (ms : W (List F)) : W ItD := fun ρ S Q => ms ρ S fun xs S1 => match xs with
  | [.int j] => (-(2 ^ 62) ≤ j ∧ j < 2 ^ 62) ∧ Q ⟨rngL 0 j.toNat, fun _ => True⟩ S1
  | _ => False
def wRange2 (ms : W (List F)) : W ItD := fun ρ S Q => ms ρ S fun xs S1 => match xs with
  | [.int i, .int j] => (-(2 ^ 62) ≤ i ∧ i < 2 ^ 62 ∧ -(2 ^ 62) ≤ j ∧ j < 2 ^ 62) ∧ Q ⟨rngL i (j - i).toNat, fun _ => True⟩ S1
  | _ => False
theorem pid_range1 {ms : W (List F)} (hg : Gl X "range") (hm : X.mg "range" = none) (ha : PDs X [e] ms) (hs : starEach [e] X.env = [(false, eval e X.env)] := by rfl) : PID X tg (.Call (.Name "range" p) [e] [] pos) (wRange1 ms) :=
  ⟨fun _ _ _ _ k q => ha.mono _ _ _ _ (fun xs S1 q => by
    split at q
    · exact ⟨q.1, k _ _ q.2⟩
    · exact q.elim) q, weakI (pi_range1 hg hm ha.run hs) fun σ H R ⟨ρ, S, Z, r, Rs, q⟩ => by
    refine tDs_in ha.mono r Rs q fun xs S1 vs Z1 H1 p e1 R1 d1 => ?_
    split at p
    · obtain ⟨v, rfl, d⟩ := dens1 d1
      exact ⟨_, by rw [den_int d], p.1.1, p.1.2, p.2 _ Z1 H1 e1 R1 (wk_range 0 _)⟩
    · exact p.elim⟩
theorem pid_range2 {a b : Expr} {ms : W (List F)} (hg : Gl X "range") (hm : X.mg "range" = none) (ha : PDs X [a, b] ms) (hs : starEach [a, b] X.env = [(false, eval a X.env), (false, eval b X.env)] := by rfl) (hs2 : starEach [b] X.env = [(false, eval b X.env)] := by rfl) :
    PID X tg (.Call (.Name "range" p) [a, b] [] pos) (wRange2 ms) :=
  ⟨fun _ _ _ _ k q => ha.mono _ _ _ _ (fun xs S1 q => by
    split at q
    · exact ⟨q.1, k _ _ q.2⟩
    · exact q.elim) q, weakI (pi_range2 hg hm ha.run hs hs2) fun σ H R ⟨ρ, S, Z, r, Rs, q⟩ => by
    refine tDs_in ha.mono r Rs q fun xs S1 vs Z1 H1 p e1 R1 d1 => ?_
    split at p
    · obtain ⟨v, w, rfl, d, d2⟩ := dens2 d1
      exact ⟨_, _, by rw [den_int d, den_int d2], p.1, p.2 _ Z1 H1 e1 R1 (wk_range _ _)⟩
    · exact p.elim⟩

/-! ### targets -/
abbrev DG := F → Slots → Sto → (Slots → Sto → Prop) → Prop
def agree (vs : List Nat) (σ σ' : Sig) : Prop := σ.length = σ'.length ∧ ∀ j, j ∉ vs → σ[j]? = σ'[j]?
def tG (K : PySem.W.Frag) (vs : List Nat) (g : DG) : TG := fun v σ H Q => ∃ f ρ S Z, REnv K Z ρ σ ∧ RelS K Z S H ∧ Den K Z v f ∧ g f ρ S (fun ρ' S' => ∀ σ' Z' H', agree vs σ σ' → Ext Z S H Z' S' H' → REnv K Z' ρ' σ' → RelS K Z' S' H' → Q σ' H')
def MonoG (g : DG) : Prop := ∀ f ρ S (Q Q' : Slots → Sto → Prop), (∀ r s, Q r s → Q' r s) → g f ρ S Q → g f ρ S Q'
structure PGD (X : Cx) (vs : List Nat) (tg : Expr) (g : DG) : Prop where
  mono : MonoG g
  run : PG X tg (tG X.K vs g)
theorem weakG {t t' : TG} (h : PG X tg t) (k : ∀ v σ H Q, t' v σ H Q → t v σ H Q) : PG X tg t' := ⟨fun pins s σ H v u Q I r q => h.run pins s σ H v u Q I r (k _ _ _ _ q)⟩
def gN (i : Nat) : DG := fun f ρ S Q => Q (ρ.set i (some f)) S
theorem agree_set {vs : List Nat} {i : Nat} (hi : i ∈ vs) (σ : Sig) (v : Option V) : agree vs σ (σ.set i v) := ⟨by rw [List.length_set], fun j hj => by
  have : i ≠ j := fun e => hj (e ▸ hi)
  rw [List.getElem?_set_ne this]⟩
theorem agree.trans {vs : List Nat} {σ σ1 σ2 : Sig} (a : agree vs σ σ1) (b : agree vs σ1 σ2) : agree vs σ σ2 := ⟨a.1.trans b.1, fun j hj => (a.2 j hj).trans (b.2 j hj)⟩
theorem agree.refl {vs : List Nat} {σ : Sig} : agree vs σ σ := ⟨rfl, fun _ _ => rfl⟩
theorem pgd_name {i : Nat} {vs : List Nat} (h : PG X tg (gName i)) (hi : i ∈ vs) : PGD X vs tg (gN i) :=
  ⟨fun _ _ _ _ _ k q => k _ _ q, weakG h fun v σ H Q ⟨f, ρ, S, Z, r, R, d, q⟩ => q _ Z H (agree_set hi σ _) .refl (r.set i d) R⟩
abbrev DGs := List F → Slots → Sto → (Slots → Sto → Prop) → Prop
def tGs (K : PySem.W.Frag) (vs : List Nat) (g : DGs) : TGs := fun v σ H Q => ∃ f ρ S Z, REnv K Z ρ σ ∧ RelS K Z S H ∧ Dens K Z v f ∧ g f ρ S (fun ρ' S' => ∀ σ' Z' H', agree vs σ σ' → Ext Z S H Z' S' H' → REnv K Z' ρ' σ' → RelS K Z' S' H' → Q σ' H')
structure PGDs (X : Cx) (vs : List Nat) (tg : List Expr) (g : DGs) : Prop where
  mono : ∀ f ρ S (Q Q' : Slots → Sto → Prop), (∀ r s, Q r s → Q' r s) → g f ρ S Q → g f ρ S Q'
  run : PGs X tg (tGs X.K vs g)
def gNil2 : DGs := fun fs ρ S Q => fs = [] ∧ Q ρ S
def gCons2 (g : DG) (gs : DGs) : DGs := fun fs ρ S Q => match fs with | f :: r => g f ρ S fun ρ1 S1 => gs r ρ1 S1 Q | [] => False
theorem pgds_nil {vs : List Nat} : PGDs X vs [] gNil2 := ⟨fun _ _ _ _ _ k q => ⟨q.1, k _ _ q.2⟩, ⟨fun pins s σ H v u Q I r ⟨f, ρ, S, Z, re, R, d, hf, q⟩ => by
  subst hf
  cases d
  exact pgs_nil.run pins s σ H [] u Q I r ⟨rfl, q σ Z H .refl .refl re R⟩⟩⟩
theorem pgds_cons {vs : List Nat} {es : List Expr} {g : DG} {gs : DGs} (h1 : PGD X vs e g) (h2 : PGDs X vs es gs)
    (hs : (assignEach (e :: es) X.env).map (·.2) = assign e X.env :: (assignEach es X.env).map (·.2) := by rfl) : PGDs X vs (e :: es) (gCons2 g gs) := by
  refine ⟨fun f ρ S Q Q' k q => ?_, ⟨fun pins s σ H v u Q I r ⟨f, ρ, S, Z, re, R, d, q⟩ => ?_⟩⟩
  · unfold gCons2 at q ⊢
    split at q
    · exact h1.mono _ _ _ _ _ (fun _ _ q => h2.mono _ _ _ _ _ k q) q
    · exact q.elim
  · unfold gCons2 at q
    split at q
    · cases d with
      | cons d1 d2 =>
        refine (pgs_cons h1.run h2.run hs).run pins s σ H _ u Q I r ⟨_, _, rfl, _, ρ, S, Z, re, R, d1, h1.mono _ _ _ _ _ (fun ρ1 S1 q σ1 Z1 H1 a1 e1 r1 R1 => ?_) q⟩
        exact ⟨_, ρ1, S1, Z1, r1, R1, d2.ext e1.z, h2.mono _ _ _ _ _ (fun ρ2 S2 q σ2 Z2 H2 a2 e2 r2 R2 => q σ2 Z2 H2 (a1.trans a2) (e1.trans e2) r2 R2) q⟩
    · exact q.elim
def gTup2 (n : Nat) (gs : DGs) : DG := fun f ρ S Q => match f with | .tup fs => fs.length = n ∧ gs fs ρ S Q | _ => False
theorem pgd_tup {vs : List Nat} {es : List Expr} {k : Nat} {gs : DGs} {n : Nat} (hc : X.calm = true) (h : PGDs X vs es gs)
    (hn : (assignEach es X.env).length = n := by rfl) (hst : (assignEach es X.env).findIdx? (·.1) = none := by rfl) : PGD X vs (.Tuple es k pos) (gTup2 n gs) := by
  refine ⟨fun f ρ S Q Q' k q => ?_, weakG (pg_tup hc h.run hn hst) fun v σ H Q ⟨f, ρ, S, Z, r, R, d, q⟩ => ?_⟩
  · unfold gTup2 at q ⊢
    split at q
    · exact ⟨q.1, h.mono _ _ _ _ _ k q.2⟩
    · exact q.elim
  · unfold gTup2 at q
    split at q
    · obtain ⟨a, us, rfl, h1, h2⟩ := tup_of R d
      exact ⟨a, us, rfl, h1, by rw [h2.length]; exact q.1, _, ρ, S, Z, r, R, h2, q.2⟩
    · exact q.elim

/-! ### list comprehensions, one clause -/
def wipeF (ρ : Slots) : List Nat → Slots
  | [] => ρ
  | v :: vs => (wipeF ρ vs).set v none
theorem wipeF_length (ρ : Slots) : ∀ vs : List Nat, (wipeF ρ vs).length = ρ.length
  | [] => rfl
  | v :: vs => by unfold wipeF; rw [List.length_set, wipeF_length ρ vs]
theorem wipe_at {σ : Sig} {j : Nat} : ∀ {vs : List Nat}, j ∉ vs → (wipe σ vs)[j]? = σ[j]?
  | [], _ => rfl
  | v :: vs, h => by
    simp only [List.mem_cons, not_or] at h
    unfold wipe
    rw [List.getElem?_set_ne (Ne.symm h.1)]
    exact wipe_at h.2
theorem wipeF_some {ρ : Slots} {i : Nat} {x : F} : ∀ {vs : List Nat}, (wipeF ρ vs)[i]? = some (some x) → ρ[i]? = some (some x) ∧ i ∉ vs
  | [], h => ⟨h, by simp⟩
  | v :: vs, h => by
    unfold wipeF at h
    by_cases hi : v = i
    · subst hi
      by_cases hv : v < (wipeF ρ vs).length
      · rw [List.getElem?_set_self hv] at h; cases h
      · rw [List.getElem?_eq_none (by simpa using hv)] at h; cases h
    · rw [List.getElem?_set_ne hi] at h
      obtain ⟨h1, h2⟩ := wipeF_some h
      exact ⟨h1, by simp only [List.mem_cons, not_or]; exact ⟨fun e => hi e.symm, h2⟩⟩
theorem REnv.wipe {K : PySem.W.Frag} {Z : Hp} {ρ : Slots} {σ : Sig} (r : REnv K Z ρ σ) (vs : List Nat) : REnv K Z (wipeF ρ vs) (L2.wipe σ vs) :=
  ⟨by rw [wipeF_length, wipe_length, r.len], fun i f e => by
    obtain ⟨h1, h2⟩ := wipeF_some e
    obtain ⟨v, e1, d⟩ := r.at_ i f h1
    exact ⟨v, by rw [wipe_at h2]; exact e1, d⟩⟩
theorem wipe_in {σ : Sig} {j : Nat} : ∀ {vs : List Nat}, j ∈ vs → (L2.wipe σ vs)[j]? = if j < σ.length then some none else none
  | v :: vs, h => by
    unfold L2.wipe
    by_cases hj : v = j
    · subst hj
      split
      · rw [List.getElem?_set_self (by rw [wipe_length]; assumption)]
      · rw [List.getElem?_eq_none (by rw [List.length_set, wipe_length]; omega)]
    · rw [List.getElem?_set_ne hj]
      rcases List.mem_cons.mp h with rfl | h
      · exact absurd rfl hj
      · exact wipe_in h
theorem wipe_agree {vs : List Nat} {σ σ' : Sig} (h : agree vs (L2.wipe σ vs) σ') : L2.wipe σ' vs = L2.wipe σ vs := by
  obtain ⟨hl, h⟩ := h
  have hlen : σ.length = σ'.length := by rw [← hl, wipe_length]
  apply List.ext_getElem?
  intro j
  by_cases hj : j ∈ vs
  · rw [wipe_in hj, wipe_in hj, hlen]
  · rw [wipe_at hj, ← h j hj]
def compL (gd : Sto → Prop) (g : DG) (mt : W Bool) (me : W F) (ρ : Slots) : List F → List F → Sto → (List F → Sto → Prop) → Prop
  | [], acc, S, Q => gd S ∧ Q acc S
  | x :: r, acc, S, Q => gd S ∧ g x ρ S fun ρ2 S2 => mt ρ2 S2 fun b S3 => if b = true then me ρ2 S3 fun y S4 => compL gd g mt me ρ r (acc ++ [y]) S4 Q else compL gd g mt me ρ r acc S3 Q
theorem mono_compL {gd : Sto → Prop} {g : DG} {mt : W Bool} {me : W F} (hg : MonoG g) (ht : Mono mt) (he : Mono me) {ρ : Slots} {Q Q' : List F → Sto → Prop} (k : ∀ d S', Q d S' → Q' d S') : ∀ (xs acc : List F) (S : Sto), compL gd g mt me ρ xs acc S Q → compL gd g mt me ρ xs acc S Q'
  | [], acc, S, h => ⟨h.1, k _ _ h.2⟩
  | x :: r, acc, S, h => ⟨h.1, hg _ _ _ _ _ (fun ρ2 S2 h => ht _ _ _ _ (fun b S3 h => by
    cases b with
    | true => exact he _ _ _ _ (fun y S4 h => mono_compL hg ht he k r _ _ h) h
    | false => exact mono_compL hg ht he k r _ _ h) h) h.2⟩
def wComp (own : List Nat) (mi : W ItD) (g : DG) (mt : W Bool) (me : W F) : W (List F) := fun ρ S Q => mi ρ S fun it S1 => it.items.length ≤ sizeLine ∧ compL it.gd g mt me (wipeF ρ own) it.items [] S1 Q
theorem mono_wComp {own : List Nat} {mi : W ItD} {g : DG} {mt : W Bool} {me : W F} (hi : Mono mi) (hg : MonoG g) (ht : Mono mt) (he : Mono me) : Mono (wComp own mi g mt me) := fun _ _ _ _ k h =>
  hi _ _ _ _ (fun it S1 h => ⟨h.1, mono_compL hg ht he k _ _ _ h.2⟩) h
theorem Ext.build {Z S H Z' S' H'} (e : Ext Z S H Z' S' H') {D : Addr} (h : H D = none) (o : HO) : Ext Z S H Z' S' (upd H' D o) := ⟨e.z, fun a u q hs => by
  rw [upd_ne (ne_of_none q h)]
  exact e.h a u q hs, fun a q => e.d a (upd_none q)⟩
theorem RelS.build {K : PySem.W.Frag} {Z S H} (r : RelS K Z S H) {D : Addr} (hz : Z D = none) (hs : Fre S D) (o : HO) : RelS K Z S (upd H D o) := ⟨fun a u q => by
  rw [upd_ne (ne_of_none q hz)]
  exact r.z a u q, fun a fs q => by
  obtain ⟨vs, e, d⟩ := r.s a fs q
  have : a ≠ D := fun z => by subst z; rw [hs.s] at q; cases q
  exact ⟨vs, by rw [upd_ne this]; exact e, d⟩, fun a c q => by
  obtain ⟨v, e, d⟩ := r.d a c q
  have : a ≠ D := fun z => by subst z; rw [hs.d] at q; cases q
  exact ⟨v, by rw [upd_ne this]; exact e, d⟩⟩
/-- the tests of a clause -/
structure PTsD (X : Cx) (ifs : List Expr) (m : W Bool) : Prop where
  mono : Mono m
  run : PTs X ifs (tB2 X.K m)
def wYes : W Bool := fun _ S Q => Q true S
theorem ptsd_nil : PTsD X [] wYes := ⟨fun _ _ _ _ k h => k _ _ h, ⟨fun pins s σ H Q I ⟨ρ, S, Z, r, R, h⟩ => pts_nil.run pins s σ H Q I (h Z H .refl R)⟩⟩
theorem ptsd_one {c : Expr} {mt : W Bool} (h : PB X c mt) : PTsD X [c] mt := ⟨h.mono, pts_one h.run⟩
theorem comp_in {K : PySem.W.Frag} {own : List Nat} {mi : W ItD} {g : DG} {mt : W Bool} {me : W F} (hi : Mono mi) (hg : MonoG g) (ht : Mono mt) (he : Mono me) {σ : Sig} {H : Hp} {Q : VK} (h : tL K (wComp own mi g mt me) σ H Q) :
    tLc (tI K mi) (tG K own g) (tB2 K mt) (tD K me) own σ H Q := by
  obtain ⟨ρ, S, Z, r, R, h⟩ := h
  refine ⟨ρ, S, Z, r, R, hi _ _ _ _ (fun it S1 p J Z1 H1 e1 R1 wk D hD => ?_) h⟩
  obtain ⟨hlen, p⟩ := p
  have hD0 : H D = none := e1.d D hD
  refine ⟨fun i m Hc => ∃ Z2 S2 accV acc, m = it.items.length - i ∧ i ≤ it.items.length ∧ RelS K Z2 S2 Hc ∧ Ext Z S H Z2 S2 Hc ∧ (∀ a o, Z1 a = some o → Z2 a = some o) ∧ Hc D = some (.lst accV) ∧ Z2 D = none ∧ Fre S2 D ∧ Dens K Z2 accV acc ∧ acc.length ≤ i ∧
      compL it.gd g mt me (wipeF ρ own) (it.items.drop i) acc S2 (LFin K Z S H Q), ⟨_, Z1, S1, [], [], rfl, Nat.zero_le _, R1.build (R1.nz hD) (R1.nf hD) _, e1.build hD0 _, fun _ _ q => q, upd_same, R1.nz hD, R1.nf hD, .nil, Nat.le_refl _, p⟩, ?_⟩
  rintro i m Hc ⟨Z2, S2, accV, acc, rfl, hi2, R2, e2, z12, hDc, hZ2, hS2, dacc, hal, p⟩
  by_cases hlt : i < it.items.length
  · have hx : it.items[i]? = some it.items[i] := List.getElem?_eq_getElem hlt
    rw [List.drop_eq_getElem_cons hlt] at p
    obtain ⟨gdS, p⟩ := p
    obtain ⟨go, yl⟩ := wk.go Z2 S2 Hc i _ z12 R2 gdS hx
    refine .inr ⟨go, _, fun H' q => q, fun x H3 y => ?_⟩
    obtain ⟨Z3, e3, R3, d3⟩ := yl x H3 y
    refine ⟨_, wipeF ρ own, S2, Z3, ((r.ext (e2.trans e3).z).wipe own), R3, d3, hg _ _ _ _ _ (fun ρ4 S4 p σ4 Z4 H4 a4 e4 r4 R4 => ?_) p⟩
    refine ⟨wipe_agree a4, ρ4, S4, Z4, r4, R4, ht _ _ _ _ (fun b S5 p Z5 H5 e5 R5 => ?_) p⟩
    have keepD : ∀ {Z6 S6 H6}, Ext Z2 S2 Hc Z6 S6 H6 → H6 D = some (.lst accV) ∧ Fre S6 D ∧ Z6 D = none := fun e => by
      obtain ⟨q1, q2, q3⟩ := e.h D _ hDc hS2
      exact ⟨q1, q2, q3.trans hZ2⟩
    cases b with
    | true =>
      rw [if_pos rfl] at p
      refine iteT ?_
      refine ⟨ρ4, S5, Z5, r4.ext e5.z, R5, he _ _ _ _ (fun yv S6 p v6 Z6 H6 e6 R6 d6 => ?_) p⟩
      have ee := e3.trans (e4.trans (e5.trans e6))
      obtain ⟨k1, k2, k3⟩ := keepD ee
      have dl := dacc.length
      refine ⟨accV, k1, by omega, it.items.length - (i + 1), by omega, Z6, S6, accV ++ [v6], acc ++ [yv], rfl, by omega, R6.build k3 k2 _, (e2.trans ee).build hD0 _, fun a o q => ee.z a o (z12 a o q), upd_same, k3, k2, (dacc.ext ee.z).append (.cons d6 .nil), by rw [List.length_append]; simp only [List.length_cons, List.length_nil]; omega, p⟩
    | false =>
      rw [if_neg Bool.false_ne_true] at p
      refine iteF ?_
      have ee := e3.trans (e4.trans e5)
      obtain ⟨k1, k2, k3⟩ := keepD ee
      exact ⟨it.items.length - (i + 1), by omega, Z5, S5, accV, acc, rfl, by omega, R5, e2.trans ee, fun a o q => ee.z a o (z12 a o q), k1, k3, k2, dacc.ext ee.z, by omega, p⟩
  · have ei : i = it.items.length := by omega
    subst ei
    rw [List.drop_length] at p
    obtain ⟨gdS, p⟩ := p
    exact .inl ⟨wk.stop Z2 S2 Hc _ z12 R2 gdS (Nat.le_refl _), p D accV Z2 Hc e2 R2 hD0 hDc hZ2 hS2.s dacc⟩
variable {elt iter : Expr} {ifs : List Expr} {scope : Scope}
theorem pl_lc {own : List (Str × Nat)} {mi : W ItD} {g : DG} {mt : W Bool} {me : W F} (hc : X.calm = true) (hN : X.N.Nodup) (hi : PID X tg iter mi) (ok : BlkOk X.N X.env.scope scope own)
    (hg : ∀ (s : Shared) (H : Hp) (C : Addr) (cl : List (Str × Addr)) (fp : List Addr), PGD (X.blk s H scope (compEnvC scope cl C X.env) fp) (own.map (·.2)) tg g) (ht : ∀ (s : Shared) (H : Hp) (C : Addr) (cl : List (Str × Addr)) (fp : List Addr), PTsD (X.blk s H scope (compEnvC scope cl C X.env) fp) ifs mt)
    (he : ∀ (s : Shared) (H : Hp) (C : Addr) (cl : List (Str × Addr)) (fp : List Addr), PD (X.blk s H scope (compEnvC scope cl C X.env) fp) elt me) (hs : ∀ x, foldedSetIterable iter X.env x = pure x := by intro _; rfl) :
    PL X (.ListComp elt [⟨tg, iter, ifs, 0⟩] scope pos) (wComp (own.map (·.2)) mi g mt me) :=
  have s0 : Shared := X.s_0
  ⟨mono_wComp hi.mono (hg s0 X.H_0 0 [] []).mono (ht s0 X.H_0 0 [] []).mono (he s0 X.H_0 0 [] []).mono,
   weakE (pe_lc hc hN hi.run ok (fun s H C cl fp => (hg s H C cl fp).run) (fun s H C cl fp => (ht s H C cl fp).run) (fun s H C cl fp => (he s H C cl fp).run) hs)
    fun _ _ _ h => comp_in hi.mono (hg s0 X.H_0 0 [] []).mono (ht s0 X.H_0 0 [] []).mono (he s0 X.H_0 0 [] []).mono h⟩
end
end DL

set_option maxHeartbeats 4000000
namespace DL
open PySem PySem.Spec PyProof.Rows L2

/-! ### calls of defs -/
abbrev Ct := DCall
def spC (K : PySem.W.Frag) (C : Ct) : Sp := fun vs H Q _ => ∃ fs S Z, Dens K Z vs fs ∧ RelS K Z S H ∧ C fs S (DFin K Z S H Q)
structure FnD (P : Program) (w : World) (K : PySem.W.Frag) (mg : Str → Option Value) (base : Heap) (k : Nat) (f : Addr) (fd : FuncData) (ps : List Str) (C : Ct) : Prop where
  mono : MonoC C
  ok : FnOk P w K mg base CX0 k f fd ps (spC K C)
section
variable {X : Cx} {e : Expr} {es : List Expr} {p pos : Pos} {x : Str} {ms : W (List F)} {m : W F}
variable {k : Nat} {f : Addr} {fd : FuncData} {ps : List Str} {C : Ct}
theorem pd_call (G : FnD X.prog X.w X.K X.mg X.base k f fd ps C) (hr : Room k X.A) (hg : Gl X x) (hm : X.mg x = some (.ref f)) (hk : PySem.W.keepIn X.K (.ref f) = true) (hb : Binds X.K fd ps []) (ha : PDs X (e :: es) ms) (hdb : (x == ("__debug__" : Str)) = false := by decide)
    (hs : starEach (e :: es) X.env = (false, eval e X.env) :: starEach es X.env := by rfl) (hplain : (backTo pos (starEach es X.env)).any (·.1) = false := by rfl) : PD X (.Call (.Name x p) (e :: es) [] pos) (wCall C ms) :=
  ⟨mono_wCall G.mono ha.mono, weakE (pe_call G.ok hr hg hm hk hb .nil pass0 ha.run hdb hs hplain) fun σ H Q ⟨ρ, S, Z, r, R, h⟩ => by
    refine tDs_in ha.mono r R h fun xs S1 vs Z1 H1 p e1 R1 d1 => ?_
    refine ⟨xs, S1, Z1, by rw [List.append_nil]; exact d1, R1, G.mono _ _ _ _ (fun z S2 q v Z' H' e2 R2 d2 => q v Z' H' (e1.trans e2) R2 d2) p⟩⟩
theorem FnD.lift {P : Program} {w : World} {K : PySem.W.Frag} {mg : Str → Option Value} {base : Heap} (G : FnD P w K mg base k f fd ps C) {j : Nat} (h : k ≤ j) : FnD P w K mg base j f fd ps C := ⟨G.mono, G.ok.mono h⟩
/-- a weaker contract -/
theorem FnD.imp {P : Program} {w : World} {K : PySem.W.Frag} {mg : Str → Option Value} {base : Heap} {C' : Ct} (G : FnD P w K mg base k f fd ps C) (hm : MonoC C') (h : ∀ fs S Q, C' fs S Q → C fs S Q) : FnD P w K mg base k f fd ps C' :=
  ⟨hm, G.ok.imp fun vs H Q E ⟨fs, S, Z, d, R, q⟩ => ⟨fs, S, Z, d, R, h _ _ _ q⟩⟩

/-! ### statements -/
structure EndsD where
  nx : Slots → Sto → Prop
  rt : F → Sto → Prop
  bk : Slots → Sto → Prop := fun _ _ => False
  ct : Slots → Sto → Prop := fun _ _ => False
  /-- an exception of this class -/
  ex : Value → Slots → Sto → Prop := fun _ _ _ => False
structure EndsD.le (D D' : EndsD) : Prop where
  nx : ∀ r s, D.nx r s → D'.nx r s
  rt : ∀ r s, D.rt r s → D'.rt r s
  bk : ∀ r s, D.bk r s → D'.bk r s
  ct : ∀ r s, D.ct r s → D'.ct r s
  ex : ∀ c r s, D.ex c r s → D'.ex c r s
abbrev WS := EndsD → Slots → Sto → Prop
def MonoS (m : WS) : Prop := ∀ D D' ρ S, m D ρ S → D.le D' → m D' ρ S
abbrev XW := Value → Sig → Hp → Prop
/-- what an exception meets here -/
def TkX (X : Cx) (W : XW) : Prop := Takes X fun c d σ H => d = none ∧ W c σ H
theorem tkX_no {X : Cx} : TkX X fun _ _ _ => False := fun u s' ⟨_, _, _, _, _, _, _, _, _, _, _, _, _, _, _, _, w⟩ => w.2.elim
abbrev EFin (K : PySem.W.Frag) (W : XW) (Z : Hp) (S : Sto) (H : Hp) (D : Ends) : EndsD where
  nx := fun ρ' S' => ∀ σ' Z' H', Ext Z S H Z' S' H' → REnv K Z' ρ' σ' → RelS K Z' S' H' → D.nx σ' H'
  rt := fun d S' => ∀ v Z' H', Ext Z S H Z' S' H' → RelS K Z' S' H' → Den K Z' v d → D.rt v H'
  bk := fun ρ' S' => ∀ σ' Z' H', Ext Z S H Z' S' H' → REnv K Z' ρ' σ' → RelS K Z' S' H' → D.bk σ' H'
  ct := fun ρ' S' => ∀ σ' Z' H', Ext Z S H Z' S' H' → REnv K Z' ρ' σ' → RelS K Z' S' H' → D.ct σ' H'
  ex := fun c ρ' S' => ∀ σ' Z' H', Ext Z S H Z' S' H' → REnv K Z' ρ' σ' → RelS K Z' S' H' → W c σ' H'
def tS (K : PySem.W.Frag) (W : XW) (m : WS) : TS := fun D σ H => ∃ ρ S Z, REnv K Z ρ σ ∧ RelS K Z S H ∧ m (EFin K W Z S H D) ρ S
structure PSD (X : Cx) (st : Stmt) (m : WS) : Prop where
  mono : MonoS m
  run : ∀ W, TkX X W → PS X st (tS X.K W m)
structure PSsD (X : Cx) (st : List Stmt) (m : WS) : Prop where
  mono : MonoS m
  run : ∀ W, TkX X W → PSs X st (tS X.K W m)
theorem weakS {st : Stmt} {t t' : TS} (h : PS X st t) (k : ∀ D σ H, t' D σ H → t D σ H) : PS X st t' := ⟨fun pins s σ H D I q => h.run pins s σ H D I (k D σ H q)⟩
theorem weakSs {st : List Stmt} {t t' : TS} (h : PSs X st t) (k : ∀ D σ H, t' D σ H → t D σ H) : PSs X st t' := ⟨fun pins s σ H D I q => h.run pins s σ H D I (k D σ H q)⟩
/-- the ends as seen from a later world -/
theorem efin_ext {K : PySem.W.Frag} {W : XW} {Z Z1 H H1 : Hp} {S S1 : Sto} {D : Ends} (e1 : Ext Z S H Z1 S1 H1) : (EFin K W Z S H D).le (EFin K W Z1 S1 H1 D) :=
  ⟨fun r s q σ' Z' H' e => q σ' Z' H' (e1.trans e), fun r s q v Z' H' e => q v Z' H' (e1.trans e), fun r s q σ' Z' H' e => q σ' Z' H' (e1.trans e), fun r s q σ' Z' H' e => q σ' Z' H' (e1.trans e), fun c r s q σ' Z' H' e => q σ' Z' H' (e1.trans e)⟩
def sNext : WS := fun D ρ S => D.nx ρ S
def sSeq (t u : WS) : WS := fun D ρ S => t { D with nx := u D } ρ S
theorem mono_sSeq {t u : WS} (ht : MonoS t) (hu : MonoS u) : MonoS (sSeq t u) := fun D D' ρ S h l => ht _ _ _ _ h ⟨fun r s q => hu _ _ _ _ q l, l.rt, l.bk, l.ct, l.ex⟩
theorem pssd_nil : PSsD X [] sNext := ⟨fun D D' ρ S h l => l.nx _ _ h, fun W tk => weakSs pss_nil fun D σ H ⟨ρ, S, Z, r, R, h⟩ => h σ Z H .refl r R⟩
theorem sseq_in {K : PySem.W.Frag} {W : XW} {t u : WS} (ht : MonoS t) (hu : MonoS u) {D : Ends} {σ : Sig} {H : Hp} (h : tS K W (sSeq t u) D σ H) : tSeq (tS K W t) (tS K W u) D σ H := by
  obtain ⟨ρ, S, Z, r, R, h⟩ := h
  refine ⟨ρ, S, Z, r, R, ht _ _ _ _ h ⟨fun ρ1 S1 q σ1 Z1 H1 e1 r1 R1 => ?_, fun _ _ q => q, fun _ _ q => q, fun _ _ q => q, fun _ _ _ q => q⟩⟩
  exact ⟨ρ1, S1, Z1, r1, R1, hu _ _ _ _ q (efin_ext e1)⟩
theorem pssd_cons {st : Stmt} {rest : List Stmt} {t u : WS} (h1 : PSD X st t) (h2 : PSsD X rest u) : PSsD X (st :: rest) (sSeq t u) :=
  ⟨mono_sSeq h1.mono h2.mono, fun W tk => weakSs (pss_cons (h1.run W tk) (h2.run W tk)) fun D σ H h => sseq_in h1.mono h2.mono h⟩
theorem pssd_one {st : Stmt} {t : WS} (h1 : PSD X st t) : PSsD X [st] t := ⟨h1.mono, fun W tk => pss_one (h1.run W tk)⟩
def sBreak : WS := fun D ρ S => D.bk ρ S
def sCont : WS := fun D ρ S => D.ct ρ S
theorem psd_pass : PSD X (.Pass pos) sNext := ⟨fun D D' ρ S h l => l.nx _ _ h, fun W tk => weakS ps_pass fun D σ H ⟨ρ, S, Z, r, R, h⟩ => h σ Z H .refl r R⟩
theorem psd_break : PSD X (.Break pos) sBreak := ⟨fun D D' ρ S h l => l.bk _ _ h, fun W tk => weakS ps_break fun D σ H ⟨ρ, S, Z, r, R, h⟩ => h σ Z H .refl r R⟩
theorem psd_continue : PSD X (.Continue pos) sCont := ⟨fun D D' ρ S h l => l.ct _ _ h, fun W tk => weakS ps_continue fun D σ H ⟨ρ, S, Z, r, R, h⟩ => h σ Z H .refl r R⟩
def sExpr (m : W F) : WS := fun D ρ S => m ρ S fun _ S1 => D.nx ρ S1
theorem psd_expr (he : PD X e m) (hs : swapsWith e none pos.line X.env = pure false := by rfl) : PSD X (.Expr e pos) (sExpr m) :=
  ⟨fun D D' ρ S h l => he.mono _ _ _ _ (fun _ _ q => l.nx _ _ q) h, fun W tk => weakS (ps_expr he.run hs) fun D σ H ⟨ρ, S, Z, r, R, h⟩ =>
    tD_in he.mono r R h fun y S1 v1 Z1 H1 q e1 R1 d1 => q σ Z1 H1 e1 (r.ext e1.z) R1⟩
def sRet (m : W F) : WS := fun D ρ S => m ρ S fun d S1 => D.rt d S1
theorem psd_ret (he : PD X e m) : PSD X (.Return (some e) pos) (sRet m) :=
  ⟨fun D D' ρ S h l => he.mono _ _ _ _ (fun _ _ q => l.rt _ _ q) h, fun W tk => weakS (ps_ret he.run) fun D σ H ⟨ρ, S, Z, r, R, h⟩ =>
    tD_in he.mono r R h fun y S1 v1 Z1 H1 q e1 R1 d1 => q v1 Z1 H1 e1 R1 d1⟩
def sRetN : WS := fun D ρ S => D.rt .non S
theorem psd_retN : PSD X (.Return none pos) sRetN := ⟨fun D D' ρ S h l => l.rt _ _ h, fun W tk => weakS ps_retN fun D σ H ⟨ρ, S, Z, r, R, h⟩ => h .non Z H .refl R .non⟩
def sIf (mt : W Bool) (t u : WS) : WS := fun D ρ S => mt ρ S fun b S1 => if b = true then t D ρ S1 else u D ρ S1
theorem psd_if {c : Expr} {a b : List Stmt} {mt : W Bool} {t u : WS} (hc : PB X c mt) (ha : PSsD X a t) (hb : PSsD X b u) : PSD X (.If c a b pos) (sIf mt t u) :=
  ⟨fun D D' ρ S h l => hc.mono _ _ _ _ (fun b S1 q => by
    cases b with
    | true => exact ha.mono _ _ _ _ q l
    | false => exact hb.mono _ _ _ _ q l) h, fun W tk => weakS (ps_if hc.run (ha.run W tk) (hb.run W tk)) fun D σ H ⟨ρ, S, Z, r, R, h⟩ => by
    refine tB_in hc.mono r R h fun b S1 Z1 H1 q e1 R1 => ?_
    cases b with
    | true => exact iteT ⟨ρ, S1, Z1, r.ext e1.z, R1, ha.mono _ _ _ _ q (efin_ext e1)⟩
    | false => exact iteF ⟨ρ, S1, Z1, r.ext e1.z, R1, hb.mono _ _ _ _ q (efin_ext e1)⟩⟩
/-- target = value -/
def sAsg (m : W F) (g : DG) : WS := fun D ρ S => m ρ S fun d S1 => g d ρ S1 D.nx
theorem asg_in {K : PySem.W.Frag} {U : XW} {vs : List Nat} {g : DG} {m : W F} (hm : Mono m) (hg : MonoG g) {D : Ends} {σ : Sig} {H : Hp} (h : tS K U (sAsg m g) D σ H) : tAsg (tD K m) (tG K vs g) D σ H := by
  obtain ⟨ρ, S, Z, r, R, h⟩ := h
  refine tD_in hm r R h fun y S1 v1 Z1 H1 q e1 R1 d1 => ?_
  exact ⟨y, ρ, S1, Z1, r.ext e1.z, R1, d1, hg _ _ _ _ _ (fun ρ' S' q σ' Z' H' _ e2 r2 R2 => q σ' Z' H' (e1.trans e2) r2 R2) q⟩
theorem mono_sAsg {g : DG} (hm : Mono m) (hg : MonoG g) : MonoS (sAsg m g) := fun D D' ρ S h l => hm _ _ _ _ (fun _ _ q => hg _ _ _ _ _ l.nx q) h
theorem psd_asg {tg : Expr} {vs : List Nat} {g : DG} (he : PD X e m) (hg : PGD X vs tg g) (hs : swapsWithSole [tg] e pos.line X.env = pure false := by rfl) (hw : swappedStores [tg] e X.env = pure none := by rfl)
    (h1 : (assignEach [tg] X.env).map (·.2) = [assign tg X.env] := by rfl) : PSD X (.Assign [tg] e pos) (sAsg m g) :=
  ⟨mono_sAsg he.mono hg.mono, fun W tk => weakS (ps_asg he.run hg.run hs hw h1) fun D σ H h => asg_in he.mono hg.mono h⟩
theorem gName_in {K : PySem.W.Frag} {i : Nat} : ∀ v σ H Q, tG K [i] (gN i) v σ H Q → gName i v σ H Q := fun v σ H Q ⟨f, ρ, S, Z, r, R, d, q⟩ => q _ Z H (agree_set (List.mem_cons_self ..) σ _) .refl (r.set i d) R
theorem mono_gN {i : Nat} : MonoG (gN i) := fun _ _ _ _ _ k q => k _ _ q
theorem psd_set {i : Nat} {pos' : Pos} (hN : X.N.Nodup) (hi : X.N[i]? = some x) (hx : Loc X.env.scope x) (he : PD X e m) (hs : swapsWith e (some (.Name x pos')) pos.line X.env = pure false := by rfl) (hf : X.fn x = true ∨ X.env.scope.names.lookup x = some .local := by first | exact .inl rfl | exact .inr rfl | assumption) :
    PSD X (.Assign [.Name x pos'] e pos) (sAsg m (gN i)) :=
  ⟨mono_sAsg he.mono mono_gN, fun W tk => weakS (ps_set hN hi hx he.run hs hf) fun D σ H ⟨ρ, S, Z, r, R, h⟩ => by
    refine tD_in he.mono r R h fun y S1 v1 Z1 H1 q e1 R1 d1 => ?_
    exact q _ Z1 H1 e1 ((r.ext e1.z).set i d1) R1⟩
/-- a, b = x, y (plain local names) -/
def sPar (is : List Nat) (ms : W (List F)) : WS := fun D ρ S => ms ρ S fun xs S1 => xs.length = is.length ∧ D.nx ((is.zip xs).foldl (fun r p => r.set p.1 (some p.2)) ρ) S1
theorem psd_par {i j : Nat} {x y : Str} {a b : Expr} {px py pt : Pos} {kt k2 pt2} (hc : X.calm = true) (hN : X.N.Nodup) (hi : X.N[i]? = some x) (hj : X.N[j]? = some y) (hij : i ≠ j)
    (hx : X.env.scope.names.lookup x = some .local) (hy : X.env.scope.names.lookup y = some .local) (ha : PDs X [a, b] ms)
    (hw : swappedStores [.Tuple [.Name x px, .Name y py] kt pt] (.Tuple [a, b] k2 pt2) X.env = pure (some [x, y]))
    (hs : swapsWithSole [.Tuple [.Name x px, .Name y py] kt pt] (.Tuple [a, b] k2 pt2) pos.line X.env = pure false := by rfl) :
    PSD X (.Assign [.Tuple [.Name x px, .Name y py] kt pt] (.Tuple [a, b] k2 pt2) pos) (sPar [i, j] ms) :=
  ⟨fun D D' ρ S h l => ha.mono _ _ _ _ (fun _ _ q => ⟨q.1, l.nx _ _ q.2⟩) h, fun W tk => weakS (ps_par hc hN hi hj hij hx hy ha.run hw hs) fun D σ H ⟨ρ, S, Z, r, R, h⟩ => by
    refine tDs_in ha.mono r R h fun xs S1 vs Z1 H1 q e1 R1 d1 => ?_
    match xs, q, d1 with
    | [u, v], q, d1 =>
      obtain ⟨v1, v2, rfl, d1, d2⟩ := dens2 d1
      exact ⟨v1, v2, rfl, q.2 _ Z1 H1 e1 (((r.ext e1.z).set i d1).set j d2) R1⟩⟩
theorem psd_par3 {i j l : Nat} {x y z : Str} {a b c : Expr} {px py pz pt : Pos} {kt k2 pt2} (hc : X.calm = true) (hN : X.N.Nodup) (hi : X.N[i]? = some x) (hj : X.N[j]? = some y) (hl : X.N[l]? = some z) (hij : i ≠ j) (hil : i ≠ l) (hjl : j ≠ l)
    (hx : X.env.scope.names.lookup x = some .local) (hy : X.env.scope.names.lookup y = some .local) (hz : X.env.scope.names.lookup z = some .local) (ha : PDs X [a, b, c] ms)
    (hw : swappedStores [.Tuple [.Name x px, .Name y py, .Name z pz] kt pt] (.Tuple [a, b, c] k2 pt2) X.env = pure (some [x, y, z]))
    (hs : swapsWithSole [.Tuple [.Name x px, .Name y py, .Name z pz] kt pt] (.Tuple [a, b, c] k2 pt2) pos.line X.env = pure false := by rfl) :
    PSD X (.Assign [.Tuple [.Name x px, .Name y py, .Name z pz] kt pt] (.Tuple [a, b, c] k2 pt2) pos) (sPar [i, j, l] ms) :=
  ⟨fun D D' ρ S h l => ha.mono _ _ _ _ (fun _ _ q => ⟨q.1, l.nx _ _ q.2⟩) h, fun W tk => weakS (ps_par3 hc hN hi hj hl hij hil hjl hx hy hz ha.run hw hs) fun D σ H ⟨ρ, S, Z, r, R, h⟩ => by
    refine tDs_in ha.mono r R h fun xs S1 vs Z1 H1 q e1 R1 d1 => ?_
    match xs, q, d1 with
    | [u, v, w], q, d1 =>
      cases d1 with
      | cons d0 d1 =>
        obtain ⟨v1, v2, rfl, d1, d2⟩ := dens2 d1
        exact ⟨_, v1, v2, rfl, q.2 _ Z1 H1 e1 ((((r.ext e1.z).set i d0).set j d1).set l d2) R1⟩⟩
theorem mono_wFrz {n : W (List F)} (h : Mono n) : Mono (wFrz n) := fun _ _ _ _ k q => h _ _ _ _ (fun xs S1 q => k _ _ q) q
theorem mono_wOwn {n : W (List F)} (h : Mono n) : Mono (wOwn n) := fun _ _ _ _ k q => h _ _ _ _ (fun xs S1 q p hp => k _ _ (q p hp)) q
/-- name = [..], the name a local: kept as it is, or as one that changes -/
theorem psd_setLcF {i : Nat} {y : Str} {py : Pos} {elt tg iter : Expr} {ifs : List Expr} {scope : Scope} {own : List (Str × Nat)} {spos : Pos} {mi : W ItD} {g : DG} {mt : W Bool} {me : W F} (hc : X.calm = true) (hN : X.N.Nodup) (hy : X.N[i]? = some y) (hyl : X.env.scope.names.lookup y = some .local)
    (hsw : swapsWith (.ListComp elt [⟨tg, iter, ifs, 0⟩] scope pos) (some (.Name y py)) spos.line X.env = pure true) (hi : PID X tg iter mi) (ok : BlkOk X.N X.env.scope scope own)
    (hg : ∀ (s : Shared) (H : Hp) (C : Addr) (cl : List (Str × Addr)) (fp : List Addr), PGD (X.blk s H scope (compEnvC scope cl C X.env) fp) (own.map (·.2)) tg g) (ht : ∀ (s : Shared) (H : Hp) (C : Addr) (cl : List (Str × Addr)) (fp : List Addr), PTsD (X.blk s H scope (compEnvC scope cl C X.env) fp) ifs mt)
    (he : ∀ (s : Shared) (H : Hp) (C : Addr) (cl : List (Str × Addr)) (fp : List Addr), PD (X.blk s H scope (compEnvC scope cl C X.env) fp) elt me) (hs : ∀ x, foldedSetIterable iter X.env x = pure x := by intro _; rfl) :
    PSD X (.Assign [.Name y py] (.ListComp elt [⟨tg, iter, ifs, 0⟩] scope pos) spos) (sAsg (wFrz (wComp (own.map (·.2)) mi g mt me)) (gN i)) :=
  have s0 : Shared := X.s_0
  have mm := mono_wComp (own := own.map (·.2)) hi.mono (hg s0 X.H_0 0 [] []).mono (ht s0 X.H_0 0 [] []).mono (he s0 X.H_0 0 [] []).mono
  ⟨mono_sAsg (mono_wFrz mm) mono_gN,
   fun W tk => weakS (ps_setLc hc hN hy hyl hsw hi.run ok (fun s H C cl fp => (hg s H C cl fp).run) (fun s H C cl fp => (ht s H C cl fp).run) (fun s H C cl fp => (he s H C cl fp).run) hs)
    fun D σ H ⟨ρ, S, Z, r, R, h⟩ => by
      refine comp_in hi.mono (hg s0 X.H_0 0 [] []).mono (ht s0 X.H_0 0 [] []).mono (he s0 X.H_0 0 [] []).mono (tL_in mm r R h fun xs S1 p vs Z1 H1 q e1 R1 n1 n2 n3 n4 d => ?_)
      refine q (σ.set i (some (.ref p))) (upd Z1 p (.lst vs)) H1 ?_ (((r.ext e1.z).ext (upd_ext n3)).set i (den_newLst n3 d)) (R1.freeze n2 n3 n4)
      refine ⟨fun a o h => upd_ext n3 a o (e1.z a o h), fun a o h hs => ?_, e1.d⟩
      obtain ⟨q1, q2, q3⟩ := e1.h a o h hs
      exact ⟨q1, q2, by rw [upd_ne (ne_of_none h n1)]; exact q3⟩⟩
theorem psd_setLcO {i : Nat} {y : Str} {py : Pos} {elt tg iter : Expr} {ifs : List Expr} {scope : Scope} {own : List (Str × Nat)} {spos : Pos} {mi : W ItD} {g : DG} {mt : W Bool} {me : W F} (hc : X.calm = true) (hN : X.N.Nodup) (hy : X.N[i]? = some y) (hyl : X.env.scope.names.lookup y = some .local)
    (hsw : swapsWith (.ListComp elt [⟨tg, iter, ifs, 0⟩] scope pos) (some (.Name y py)) spos.line X.env = pure true) (hi : PID X tg iter mi) (ok : BlkOk X.N X.env.scope scope own)
    (hg : ∀ (s : Shared) (H : Hp) (C : Addr) (cl : List (Str × Addr)) (fp : List Addr), PGD (X.blk s H scope (compEnvC scope cl C X.env) fp) (own.map (·.2)) tg g) (ht : ∀ (s : Shared) (H : Hp) (C : Addr) (cl : List (Str × Addr)) (fp : List Addr), PTsD (X.blk s H scope (compEnvC scope cl C X.env) fp) ifs mt)
    (he : ∀ (s : Shared) (H : Hp) (C : Addr) (cl : List (Str × Addr)) (fp : List Addr), PD (X.blk s H scope (compEnvC scope cl C X.env) fp) elt me) (hs : ∀ x, foldedSetIterable iter X.env x = pure x := by intro _; rfl) :
    PSD X (.Assign [.Name y py] (.ListComp elt [⟨tg, iter, ifs, 0⟩] scope pos) spos) (sAsg (wOwn (wComp (own.map (·.2)) mi g mt me)) (gN i)) :=
  have s0 : Shared := X.s_0
  have mm := mono_wComp (own := own.map (·.2)) hi.mono (hg s0 X.H_0 0 [] []).mono (ht s0 X.H_0 0 [] []).mono (he s0 X.H_0 0 [] []).mono
  ⟨mono_sAsg (mono_wOwn mm) mono_gN,
   fun W tk => weakS (ps_setLc hc hN hy hyl hsw hi.run ok (fun s H C cl fp => (hg s H C cl fp).run) (fun s H C cl fp => (ht s H C cl fp).run) (fun s H C cl fp => (he s H C cl fp).run) hs)
    fun D σ H ⟨ρ, S, Z, r, R, h⟩ => by
      refine comp_in hi.mono (hg s0 X.H_0 0 [] []).mono (ht s0 X.H_0 0 [] []).mono (he s0 X.H_0 0 [] []).mono (tL_in mm r R h fun xs S1 p vs Z1 H1 q e1 R1 n1 n2 n3 n4 d => ?_)
      refine q p n4 (σ.set i (some (.ref p))) Z1 H1 ?_ ((r.ext e1.z).set i (.loc p)) (R1.own n2 n3 d)
      refine ⟨e1.z, fun a o h hs => ?_, e1.d⟩
      obtain ⟨q1, q2, q3⟩ := e1.h a o h hs
      exact ⟨q1, fre_updS q2 (ne_of_none h n1), q3⟩⟩
/-- xs[i] = v, a list that changes -/
def oSetL (o i v : F) (S : Sto) (Q : Sto → Prop) : Prop := match o, i with
  | .loc a, .int k => (match S a with
    | some fs => (match ixN fs.length k with | some j => Q (updS S a (fs.set j v)) | none => False)
    | none => False)
  | _, _ => False
theorem mono_oSetL {o i v : F} {S : Sto} {Q Q' : Sto → Prop} (k : ∀ S', Q S' → Q' S') (h : oSetL o i v S Q) : oSetL o i v S Q' := by
  unfold oSetL at h ⊢
  split at h
  · split at h
    · split at h
      · exact k _ h
      · exact h.elim
    · exact h.elim
  · exact h.elim
def gSubL (mo mi : W F) : DG := fun v ρ S Q => mo ρ S fun o S1 => mi ρ S1 fun i S2 => oSetL o i v S2 fun S3 => Q ρ S3
theorem pgd_sub {o i : Expr} {mo mi : W F} (ho : PD X o mo) (hi : PD X i mi)
    (ha : ∀ v, assign (.Subscript o i pos) X.env v = (do
      let ov ← holding [v] (eval o X.env)
      let iv ← holding [v, ov] (eval i X.env)
      standAt pos
      holding [v, ov, iv] (setItem ov iv v)
      release [v, ov, iv] []) := by intro _; rfl) : PGD X [] (.Subscript o i pos) (gSubL mo mi) :=
  ⟨fun f ρ S Q Q' k q => ho.mono _ _ _ _ (fun _ _ q => hi.mono _ _ _ _ (fun _ _ q => mono_oSetL (k _) q) q) q,
   weakG (pg_sub ho.run hi.run set_list ha) fun v σ H Q ⟨f, ρ, S, Z, r, R, d, q⟩ => by
    refine tD_in ho.mono r R q fun ov S1 v1 Z1 H1 q e1 R1 d1 => ?_
    refine tD_in hi.mono (r.ext e1.z) R1 q fun iv S2 v2 Z2 H2 q e2 R2 d2 => ?_
    unfold oSetL at q
    split at q
    · split at q
      · rename_i fs e0
        split at q
        · rename_i j ej
          have d1 := d1
          cases d1
          obtain ⟨us, h1, h2⟩ := R2.s _ _ e0
          have dv : Den X.K Z2 v f := d.ext (e1.trans e2).z
          obtain ⟨R3, e3⟩ := R2.write e0 (h2.set j dv)
          exact ⟨_, us, _, _, rfl, den_int d2, h1, by rw [h2.length]; exact ej, q σ Z2 _ agree.refl ((e1.trans e2).trans e3) (r.ext (e1.trans e2).z) R3⟩
        · exact q.elim
      · exact q.elim
    · exact q.elim⟩
/-- name op= e -/
abbrev DIp := DOp
structure IpD (X : Cx) (op : Operator) (o : DOp) : Prop where
  mono : MonoO o
  run : PIp X op (rD X.K o)
def sAug (i : Nat) (m : W F) (o : DOp) : WS := fun D ρ S => match ρ[i]? with
  | some (some y) => m ρ S fun z S1 => o y z S1 fun d S2 => D.nx (ρ.set i (some d)) S2
  | _ => False
theorem psd_aug {i : Nat} {op : Operator} {o : DOp} {pos' : Pos} (hN : X.N.Nodup) (hi : X.N[i]? = some x) (hx : Loc X.env.scope x) (he : PD X e m) (ho : IpD X op o) (hf : X.fn x = true ∨ X.env.scope.names.lookup x = some .local := by first | exact .inl rfl | exact .inr rfl | assumption) :
    PSD X (.AugAssign (.Name x pos') op e pos) (sAug i m o) := by
  refine ⟨fun D D' ρ S h l => ?_, fun W tk => weakS (ps_aug hN hi hx he.run ho.run hf) fun D σ H ⟨ρ, S, Z, r, R, h⟩ => ?_⟩
  · unfold sAug at h ⊢
    split at h
    · exact he.mono _ _ _ _ (fun _ _ q => ho.mono _ _ _ _ _ (fun _ _ q => l.nx _ _ q) q) h
    · exact h.elim
  · unfold sAug at h
    split at h
    · rename_i y ey
      obtain ⟨v, ev, dv⟩ := r.at_ i y ey
      refine ⟨v, ev, tD_in he.mono r R h fun z S1 v1 Z1 H1 q e1 R1 d1 => ?_⟩
      exact ⟨y, z, S1, Z1, dv.ext e1.z, d1, R1, ho.mono _ _ _ _ _ (fun d S2 q w Z2 H2 e2 R2 d2 => q _ Z2 H2 (e1.trans e2) ((r.ext (e1.trans e2).z).set i d2) R2) q⟩
    · exact h.elim
def ipAdd : DOp := fun x y S Q => match x, y with | .int i, .int j => Q (.int (i + j)) S | _, _ => False
def ipSub : DOp := fun x y S Q => match x, y with | .int i, .int j => Q (.int (i - j)) S | _, _ => False
theorem ipd_add : IpD X .Add ipAdd := by
  refine ⟨fun x y S Q Q' k h => ?_, fun pins s σ H x y v u Q I rx ry ⟨d, e, S, Z, dx, dy, R, h⟩ => ?_⟩
  · unfold ipAdd at h ⊢
    split at h
    · exact k _ _ h
    · exact h.elim
  · unfold ipAdd at h
    split at h
    · exact ip_add pins s σ H x y v u Q I rx ry ⟨_, _, den_int dx, den_int dy, fin_same R (.int _) h⟩
    · exact h.elim
theorem ipd_sub : IpD X .Sub ipSub := by
  refine ⟨fun x y S Q Q' k h => ?_, fun pins s σ H x y v u Q I rx ry ⟨d, e, S, Z, dx, dy, R, h⟩ => ?_⟩
  · unfold ipSub at h ⊢
    split at h
    · exact k _ _ h
    · exact h.elim
  · unfold ipSub at h
    split at h
    · exact ip_sub pins s σ H x y v u Q I rx ry ⟨_, _, den_int dx, den_int dy, fin_same R (.int _) h⟩
    · exact h.elim

/-! ### for -/
def forL (gd : Sto → Prop) (g : DG) (mb : WS) : List F → WS
  | [], D, ρ, S => gd S ∧ D.nx ρ S
  | x :: r, D, ρ, S => gd S ∧ g x ρ S fun ρ1 S1 => mb { D with nx := forL gd g mb r D, ct := forL gd g mb r D, bk := D.nx } ρ1 S1
theorem mono_forL {gd : Sto → Prop} {g : DG} {mb : WS} (hg : MonoG g) (hb : MonoS mb) : ∀ xs : List F, MonoS (forL gd g mb xs)
  | [] => fun D D' ρ S h l => ⟨h.1, l.nx _ _ h.2⟩
  | x :: r => fun D D' ρ S h l => by
    refine ⟨h.1, hg _ _ _ _ _ (fun ρ1 S1 q => ?_) h.2⟩
    exact hb _ _ _ _ q ⟨fun _ _ q => mono_forL hg hb r _ _ _ _ q l, l.rt, l.nx, fun _ _ q => mono_forL hg hb r _ _ _ _ q l, l.ex⟩
def sFor (mi : W ItD) (g : DG) (mb : WS) : WS := fun D ρ S => mi ρ S fun it S1 => forL it.gd g mb it.items D ρ S1
theorem psd_for {tg iter : Expr} {body : List Stmt} {mi : W ItD} {g : DG} {vs : List Nat} {mb : WS} (hp : PassesOwn (model X.prog X.w) X.A X.env X.xe) (hc : X.calm = true) (hi : PID X tg iter mi) (hg : PGD X vs tg g) (hb : PSsD X body mb)
    (hs : ∀ x, foldedSetIterable iter X.env x = pure x := by intro _; rfl) : PSD X (.For tg iter body [] pos) (sFor mi g mb) := by
  refine ⟨fun D D' ρ S h l => hi.mono _ _ _ _ (fun it S1 q => mono_forL hg.mono hb.mono _ _ _ _ _ q l) h, fun W tk => weakS (ps_for hp hc hi.run hg.run (hb.run W tk) hs) fun D σ H ⟨ρ, S, Z, r, R, h⟩ => ?_⟩
  refine ⟨ρ, S, Z, r, R, hi.mono _ _ _ _ (fun it S1 p J Z1 H1 e1 R1 wk => ?_) h⟩
  refine ⟨fun i m σc Hc => ∃ ρ2 Z2 S2, m = it.items.length - i ∧ i ≤ it.items.length ∧ REnv X.K Z2 ρ2 σc ∧ RelS X.K Z2 S2 Hc ∧ Ext Z S H Z2 S2 Hc ∧ (∀ a o, Z1 a = some o → Z2 a = some o) ∧ forL it.gd g mb (it.items.drop i) (EFin X.K W Z S H D) ρ2 S2,
    ⟨_, ρ, Z1, S1, rfl, Nat.zero_le _, r.ext e1.z, R1, e1, fun _ _ q => q, p⟩, ?_⟩
  rintro i m σc Hc ⟨ρ2, Z2, S2, rfl, hi2, r2, R2, e2, z12, p⟩
  by_cases hlt : i < it.items.length
  · have hx : it.items[i]? = some it.items[i] := List.getElem?_eq_getElem hlt
    rw [List.drop_eq_getElem_cons hlt] at p
    obtain ⟨gdS, p⟩ := p
    obtain ⟨go, yl⟩ := wk.go Z2 S2 Hc i _ z12 R2 gdS hx
    refine .inr ⟨go, _, fun σ' H' q => q, fun x H3 y => ?_⟩
    obtain ⟨Z3, e3, R3, d3⟩ := yl x H3 y
    refine ⟨_, ρ2, S2, Z3, r2.ext e3.z, R3, d3, hg.mono _ _ _ _ _ (fun ρ4 S4 p σ4 Z4 H4 _ e4 r4 R4 => ?_) p⟩
    have ee := (e2.trans e3).trans e4
    refine ⟨ρ4, S4, Z4, r4, R4, hb.mono _ _ _ _ p ⟨fun ρ5 S5 q σ5 Z5 H5 e5 r5 R5 => ?_, fun d S5 q v Z5 H5 e5 => q v Z5 H5 (ee.trans e5), fun ρ5 S5 q σ5 Z5 H5 e5 => q σ5 Z5 H5 (ee.trans e5), fun ρ5 S5 q σ5 Z5 H5 e5 r5 R5 => ?_, fun c r5 S5 q σ5 Z5 H5 e5 => q σ5 Z5 H5 (ee.trans e5)⟩⟩
    · exact ⟨it.items.length - (i + 1), by omega, ρ5, Z5, S5, rfl, by omega, r5, R5, ee.trans e5, fun a o q => e5.z a o (e4.z a o (e3.z a o (z12 a o q))), q⟩
    · exact ⟨it.items.length - (i + 1), by omega, ρ5, Z5, S5, rfl, by omega, r5, R5, ee.trans e5, fun a o q => e5.z a o (e4.z a o (e3.z a o (z12 a o q))), q⟩
  · have ei : i = it.items.length := by omega
    subst ei
    rw [List.drop_length] at p
    obtain ⟨gdS, p⟩ := p
    exact .inl ⟨wk.stop Z2 S2 Hc _ z12 R2 gdS (Nat.le_refl _), p σc Z2 Hc e2 r2 R2⟩

/-! ### while: n turns at most -/
def whileN (mt : W Bool) (mb : WS) : Nat → WS
  | 0, _, _, _ => False
  | n + 1, D, ρ, S => mt ρ S fun b S1 => if b = true then mb { D with nx := whileN mt mb n D, ct := whileN mt mb n D, bk := D.nx } ρ S1 else D.nx ρ S1
def sWhile (mt : W Bool) (mb : WS) : WS := fun D ρ S => ∃ n, whileN mt mb n D ρ S
theorem mono_whileN {mt : W Bool} {mb : WS} (ht : Mono mt) (hb : MonoS mb) : ∀ n, MonoS (whileN mt mb n)
  | 0 => fun D D' ρ S h l => h.elim
  | n + 1 => fun D D' ρ S h l => ht _ _ _ _ (fun b S1 q => by
    cases b with
    | true => exact hb _ _ _ _ q ⟨fun _ _ q => mono_whileN ht hb n _ _ _ _ q l, l.rt, l.nx, fun _ _ q => mono_whileN ht hb n _ _ _ _ q l, l.ex⟩
    | false => exact l.nx _ _ q) h
theorem psd_while {c : Expr} {body : List Stmt} {mt : W Bool} {mb : WS} (hp : PassesOwn (model X.prog X.w) X.A X.env X.xe) (hc : PB X c mt) (hb : PSsD X body mb) : PSD X (.While c body [] pos) (sWhile mt mb) := by
  refine ⟨fun D D' ρ S ⟨n, h⟩ l => ⟨n, mono_whileN hc.mono hb.mono n _ _ _ _ h l⟩, fun W tk => weakS (ps_while hp hc.run (hb.run W tk)) fun D σ H ⟨ρ, S, Z, r, R, n, h⟩ => ?_⟩
  refine ⟨fun m σc Hc => ∃ ρ2 Z2 S2, REnv X.K Z2 ρ2 σc ∧ RelS X.K Z2 S2 Hc ∧ Ext Z S H Z2 S2 Hc ∧ whileN mt mb m (EFin X.K W Z S H D) ρ2 S2, ⟨n, ρ, Z, S, r, R, .refl, h⟩, ?_⟩
  rintro m σc Hc ⟨ρ2, Z2, S2, r2, R2, e2, p⟩
  cases m with
  | zero => exact p.elim
  | succ n =>
    refine tB_in hc.mono r2 R2 p fun b S3 Z3 H3 q e3 R3 => ?_
    have ee := e2.trans e3
    cases b with
    | true =>
      refine iteT ⟨_, fun σ' H' q => q, ρ2, S3, Z3, r2.ext e3.z, R3, hb.mono _ _ _ _ q ⟨fun ρ5 S5 q σ5 Z5 H5 e5 r5 R5 => ?_, fun d S5 q v Z5 H5 e5 => q v Z5 H5 (ee.trans e5), fun ρ5 S5 q σ5 Z5 H5 e5 => q σ5 Z5 H5 (ee.trans e5), fun ρ5 S5 q σ5 Z5 H5 e5 r5 R5 => ?_, fun c r5 S5 q σ5 Z5 H5 e5 => q σ5 Z5 H5 (ee.trans e5)⟩⟩
      · exact ⟨n, Nat.lt_succ_self n, ρ5, Z5, S5, r5, R5, ee.trans e5, q⟩
      · exact ⟨n, Nat.lt_succ_self n, ρ5, Z5, S5, r5, R5, ee.trans e5, q⟩
    | false => exact iteF (q σc Z3 H3 ee (r2.ext e3.z) R3)
end

/-! ### a def by its body -/
def startF (n : Nat) (fs : List F) : Slots := fs.map some ++ List.replicate (n - fs.length) none
theorem renv_start {K : PySem.W.Frag} {Z : Hp} {vs : List V} {fs : List F} (d : Dens K Z vs fs) (N : List Str) : REnv K Z (startF N.length fs) (L2.start N vs) := by
  have hl := d.length
  refine ⟨by unfold startF L2.start; simp [hl], fun i f e => ?_⟩
  unfold startF at e
  unfold L2.start
  by_cases hi : i < fs.length
  · rw [List.getElem?_append_left (by simpa using hi), List.getElem?_map] at e
    cases q : fs[i]? with
    | none => rw [q] at e; cases e
    | some g =>
      rw [q] at e
      cases e
      obtain ⟨v, e1, dv⟩ := d.get q
      refine ⟨v, ?_, dv⟩
      rw [List.getElem?_append_left (by simpa [hl] using hi), List.getElem?_map, e1]
      rfl
  · rw [List.getElem?_append_right (by simpa using hi)] at e
    have := List.mem_of_getElem? e
    rw [List.mem_replicate] at this
    cases this.2
section
variable {P : Program} {w : World} {K : PySem.W.Frag} {mg : Str → Option Value} {base : Heap}
/-- THE RULE. drop: what the def made is left behind (true), or handed on -/
theorem fnD {x qual : Str} {params : Arguments} {body : List Stmt} {scope : Scope} {f : Addr} {fd : FuncData} {N ps : List Str} {k : Nat} {C : Ct} (drop : Bool) (F : FunD K x qual params body scope [] [] f fd) (S : FnScope N ps scope) (mc : MonoC C) (m : WS)
    (hb : ∀ (cdv : Value) (A : Around) (outer : List Env) (s : Shared) (H : Hp), Room k (A.deeper (envOfC qual scope s.heap.objs.size f cdv)) →
      PSsD (cxOf CX0 P w K mg base N qual scope f cdv A outer s H E0).nox body m)
    (hC : ∀ fs S Q, C fs S Q → fs.length = ps.length ∧ m { nx := fun _ S' => Q .non (if drop = true then restr S S' else S'), rt := fun d S' => Q d (if drop = true then restr S S' else S') } (startF N.length fs) S) : FnD P w K mg base (k + 1) f fd ps C := by
  refine ⟨mc, F.ok S (fun vs H Q E ⟨fs, S, Z, d, R, q⟩ => by rw [d.length]; exact (hC _ _ _ q).1) fun cdv A outer s H vs Q E hr ⟨fs, S, Z, d, R, q⟩ => ?_⟩
  have hB := hb cdv A outer s H hr
  refine ⟨tS K (fun _ _ _ => False) m, PSs.nox ?_, _, S, Z, renv_start d N, R, hB.mono _ _ _ _ (hC _ _ _ q).2 ⟨fun ρ' S' q σ' Z' H' e r' R' => ?_, fun d' S' q v Z' H' e R' d2 => ?_, fun _ _ q => False.elim q, fun _ _ q => False.elim q, fun _ _ _ q => False.elim q⟩⟩
  · exact hB.run _ tkX_no
  · cases drop with
    | true => exact q .non Z' H' e.restr (R'.restr S) .non
    | false => exact q .non Z' H' e R' .non
  · cases drop with
    | true => exact q v Z' H' e.restr (R'.restr S) d2
    | false => exact q v Z' H' e R' d2
end
end DL

set_option maxHeartbeats 4000000
namespace DL
open PySem PySem.Spec PyProof.Rows L2

/-- a def of the text that may be called by its name, and what it promises -/
structure Cal (P : Program) (w : World) (K : PySem.W.Frag) (mg : Str → Option Value) (base : Heap) (k : Nat) (x : Str) (ps : List Str) (C : Ct) : Prop where
  ex : ∃ f fd, PySem.W.keepIn K (.ref f) = true ∧ mg x = some (.ref f) ∧ L2.Binds K fd ps [] ∧ FnD P w K mg base k f fd ps C
/-- built-ins that the text does not hide -/
structure Bl (mg : Str → Option Value) : Prop where
  len : mg "len" = none
  range : mg "range" = none
  tuple : mg "tuple" = none
  list : mg "list" = none
  all : mg "all" = none
  any : mg "any" = none
  sum : mg "sum" = none
  int : mg "int" = none
  bool : mg "bool" = none
  str : mg "str" = none
  isinstance : mg "isinstance" = none
  min : mg "min" = none
  max : mg "max" = none
  sorted : mg "sorted" = none
  enumerate : mg "enumerate" = none
  zip : mg "zip" = none
  set : mg "set" = none
  dict : mg "dict" = none
  abs : mg "abs" = none
section
variable {X : Cx} {e a : Expr} {es : List Expr} {p pos : Pos} {x : Str} {ms : W (List F)} {m ma : W F} {k j : Nat} {ps : List Str} {C : Ct}
theorem pd_cal (G : Cal X.prog X.w X.K X.mg X.base k x ps C) (hr : Room j X.A) (hg : Gl X x) (ha : PDs X (e :: es) ms) (hl : k ≤ j := by decide) (hdb : (x == ("__debug__" : Str)) = false := by decide)
    (hs : starEach (e :: es) X.env = (false, eval e X.env) :: starEach es X.env := by rfl) (hplain : (backTo pos (starEach es X.env)).any (·.1) = false := by rfl) : PD X (.Call (.Name x p) (e :: es) [] pos) (wCall C ms) := by
  obtain ⟨f, fd, hk, hm, hb, F⟩ := G.ex
  exact pd_call F (hr.mono hl) hg hm hk hb ha hdb hs hplain
theorem pd_gint {i : Int} (h : ∃ t, X.mg x = some (.int i t)) (hg : Gl X x) (hd : (x == ("__debug__" : Str)) = false := by decide) : PD X (.Name x pos) (wC (.int i)) := by
  obtain ⟨t, h⟩ := h
  exact pd_const (pe_glob (v := .int i) hg h ⟨t, rfl⟩ hd) fun _ => .int i
theorem pd_gstr {i : Str} (h : ∃ t, X.mg x = some (.str i t)) (hg : Gl X x) (hd : (x == ("__debug__" : Str)) = false := by decide) : PD X (.Name x pos) (wC (.str i)) := by
  obtain ⟨t, h⟩ := h
  exact pd_const (pe_glob (v := .str i) hg h ⟨t, rfl⟩ hd) fun _ => .str i
/-- a constant of the text, whatever it is -/
theorem pd_gval {a : Addr} {f : F} (h : X.mg x = some (.ref a)) (d : ∀ Z, Den X.K Z (.ref a) f) (hg : Gl X x) (hd : (x == ("__debug__" : Str)) = false := by decide) : PD X (.Name x pos) (wC f) := pd_const (pe_glob (v := .ref a) hg h rfl hd) d
def wNeg (m : W F) : W F := fun ρ S Q => m ρ S (asI fun i S1 => Q (.int (-i)) S1)
theorem pd_neg (h : PD X e m) : PD X (.UnaryOp .USub e pos) (wNeg m) :=
  ⟨fun _ _ _ _ k q => h.mono _ _ _ _ (mono_asI fun _ _ q => k _ _ q) q, weakE (pe_un un_neg h.run) fun σ H Q ⟨ρ, S, Z, r, R, q⟩ => by
    refine tD_in h.mono r R q fun x S1 v1 Z1 H1 p e1 R1 d1 => ?_
    obtain ⟨c, rfl, q⟩ := asI_of p
    exact ⟨c, den_int d1, q _ Z1 H1 e1 R1 (.int _)⟩⟩
end
section
variable {P : Program} {w : World} {K : PySem.W.Frag} {mg : Str → Option Value} {base : Heap}
theorem cal_of {x qual : Str} {params : Arguments} {body : List Stmt} {scope : Scope} {f : Addr} {fd : FuncData} {ps : List Str} {k : Nat} {C : Ct} (F : FunD K x qual params body scope [] [] f fd) (g : mg x = some (.ref f)) (b : L2.Binds K fd ps []) (G : FnD P w K mg base k f fd ps C) : Cal P w K mg base k x ps C := ⟨f, fd, F.kp, g, b, G⟩
end
end DL

set_option maxHeartbeats 4000000
namespace DL
open PySem PySem.Spec PyProof.Rows L2
/-! rows for evaluation -/
section
variable {ρ : Slots} {S : Sto} {Q : F → Sto → Prop} {QL : List F → Sto → Prop} {QB : Bool → Sto → Prop} {QI : ItD → Sto → Prop} {f : F} {o : Option F} {i : Nat} {m ma mb mc me : W F} {ms mr ml : W (List F)} {mt ta tb : W Bool} {D : EndsD} {t u : WS} {x y : F} {xs ys : List F}
@[simp, simp ↓] theorem wVar_0 : wVar 0 (some f :: ρ) S Q = Q f S := (rfl)
@[simp, simp ↓] theorem wVar_s : wVar (i + 1) (o :: ρ) S Q = wVar i ρ S Q := by
  unfold wVar
  rw [List.getElem?_cons_succ]
@[simp, simp ↓] theorem wC_ev : wC f ρ S Q = Q f S := (rfl)
@[simp, simp ↓] theorem asB_ev {c : Bool} : asB QB (.bl c) S = QB c S := (rfl)
@[simp, simp ↓] theorem asI_ev {Q : Int → Sto → Prop} {c : Int} : asI Q (.int c) S = Q c S := (rfl)
@[simp, simp ↓] theorem wOp_ev {op : DOp} : wOp op ma mb ρ S Q = ma ρ S fun x S1 => mb ρ S1 fun y S2 => op x y S2 Q := (rfl)
@[simp, simp ↓] theorem wTst_ev : wTst m ρ S QB = m ρ S (asB QB) := (rfl)
@[simp, simp ↓] theorem wChain_ev {op op' : DOp} : wChain op op' ma mb mc ρ S Q = ma ρ S fun x S1 => mb ρ S1 fun y S2 => op x y S2 (asB fun k S3 => if k = true then mc ρ S3 fun z S4 => op' y z S4 Q else Q (.bl false) S3) := (rfl)
@[simp, simp ↓] theorem wAnd_ev : wAnd ma mb ρ S Q = ma ρ S (asB fun k S1 => if k = true then mb ρ S1 Q else Q (.bl false) S1) := (rfl)
@[simp, simp ↓] theorem wOr_ev : wOr ma mb ρ S Q = ma ρ S (asB fun k S1 => if k = true then Q (.bl true) S1 else mb ρ S1 Q) := (rfl)
@[simp, simp ↓] theorem wNot_ev : wNot ma ρ S Q = ma ρ S (asB fun k S1 => Q (.bl (!k)) S1) := (rfl)
@[simp, simp ↓] theorem bAnd_ev : bAnd ta tb ρ S QB = ta ρ S fun k S1 => if k = true then tb ρ S1 QB else QB false S1 := (rfl)
@[simp, simp ↓] theorem bOr_ev : bOr ta tb ρ S QB = ta ρ S fun k S1 => if k = true then QB true S1 else tb ρ S1 QB := (rfl)
@[simp, simp ↓] theorem bNot_ev : bNot ta ρ S QB = ta ρ S fun k S1 => QB (!k) S1 := (rfl)
@[simp, simp ↓] theorem wIf_ev : wIf mt ma mb ρ S Q = mt ρ S fun k S1 => if k = true then ma ρ S1 Q else mb ρ S1 Q := (rfl)
@[simp, simp ↓] theorem wNil_ev : wNil ρ S QL = QL [] S := (rfl)
@[simp, simp ↓] theorem wCons_ev : wCons ma mr ρ S QL = ma ρ S fun x S1 => mr ρ S1 fun xs S2 => QL (x :: xs) S2 := (rfl)
theorem lit_line {n : Nat} (h : n ≤ 1000) : n ≤ sizeLine := Nat.le_of_lt (small1000 h)
@[simp, simp ↓] theorem wTup_ev : wTup mr ρ S Q = mr ρ S fun xs S1 => xs.length ≤ sizeLine ∧ Q (.tup xs) S1 := (rfl)
@[simp, simp ↓] theorem wLst_ev : wLst mr ρ S QL = mr ρ S fun xs S1 => xs.length ≤ sizeLine ∧ QL xs S1 := (rfl)
@[simp, simp ↓] theorem wFrz_ev : wFrz ml ρ S Q = ml ρ S fun xs S1 => Q (.lst xs) S1 := (rfl)
@[simp, simp ↓] theorem wOwn_ev : wOwn ml ρ S Q = ml ρ S fun xs S1 => ∀ p, S1 p = none → Q (.loc p) (updS S1 p xs) := (rfl)
@[simp, simp ↓] theorem wNoPart_ev {Q : Option Int → Sto → Prop} : wNoPart ρ S Q = Q none S := (rfl)
@[simp, simp ↓] theorem wPart_ev {Q : Option Int → Sto → Prop} : wPart m ρ S Q = m ρ S (asI fun i S1 => Q (some i) S1) := (rfl)
@[simp, simp ↓] theorem wSl_ev {pl ph : W (Option Int)} : wSl me pl ph ρ S Q = me ρ S fun x S1 => pl ρ S1 fun l S2 => ph ρ S2 fun u S3 => oSl x l u S3 Q := (rfl)
@[simp, simp ↓] theorem wSlL_ev {pl ph : W (Option Int)} : wSlL me pl ph ρ S QL = me ρ S fun x S1 => pl ρ S1 fun l S2 => ph ρ S2 fun u S3 => oSlL x l u S3 QL := (rfl)
@[simp, simp ↓] theorem wCall_ev {c : DCall} : wCall c ms ρ S Q = ms ρ S fun xs S1 => c xs S1 Q := (rfl)
@[simp, simp ↓] theorem wCallL_ev {c : DCallL} : wCall c ms ρ S QL = ms ρ S fun xs S1 => c xs S1 QL := (rfl)
@[simp, simp ↓] theorem wNeg_ev : wNeg m ρ S Q = m ρ S (asI fun i S1 => Q (.int (-i)) S1) := (rfl)
@[simp, simp ↓] theorem wIsi_ev {T : String} : wIsi T ma ρ S Q = ma ρ S fun x S1 => isiOk S1 x ∧ Q (.bl (isTy T x)) S1 := (rfl)
@[simp, simp ↓] theorem wMt_ev {c : DMt} : wMt c m ms ρ S Q = m ρ S fun x S1 => (listR S1 x).isSome = true ∧ ms ρ S1 fun xs S2 => c x xs S2 Q := (rfl)
@[simp, simp ↓] theorem wMt0_ev {c : DMt} : wMt0 c m ρ S Q = m ρ S fun x S1 => (listR S1 x).isSome = true ∧ c x [] S1 Q := (rfl)
@[simp, simp ↓] theorem wIt_ev : wIt m ρ S QI = m ρ S fun x S1 => onIt S1 x QI := (rfl)
@[simp, simp ↓] theorem wComp_ev {own : List Nat} {mi : W ItD} {g : DG} : wComp own mi g mt me ρ S QL = mi ρ S fun it S1 => it.items.length ≤ sizeLine ∧ compL it.gd g mt me (wipeF ρ own) it.items [] S1 QL := (rfl)
@[simp, simp ↓] theorem wYes_ev : wYes ρ S QB = QB true S := (rfl)
@[simp, simp ↓] theorem sNext_ev : sNext D ρ S = D.nx ρ S := (rfl)
@[simp, simp ↓] theorem sSeq_ev : sSeq t u D ρ S = t { nx := u D, rt := D.rt, bk := D.bk, ct := D.ct, ex := D.ex } ρ S := (rfl)
@[simp, simp ↓] theorem sBreak_ev : sBreak D ρ S = D.bk ρ S := (rfl)
@[simp, simp ↓] theorem sCont_ev : sCont D ρ S = D.ct ρ S := (rfl)
@[simp, simp ↓] theorem sExpr_ev : sExpr m D ρ S = m ρ S fun _ S1 => D.nx ρ S1 := (rfl)
@[simp, simp ↓] theorem sRet_ev : sRet m D ρ S = m ρ S fun d S1 => D.rt d S1 := (rfl)
@[simp, simp ↓] theorem sRetN_ev : sRetN D ρ S = D.rt .non S := (rfl)
@[simp, simp ↓] theorem sIf_ev : sIf mt t u D ρ S = mt ρ S fun b S1 => if b = true then t D ρ S1 else u D ρ S1 := (rfl)
@[simp, simp ↓] theorem sAsg_ev {g : DG} : sAsg m g D ρ S = m ρ S fun d S1 => g d ρ S1 D.nx := (rfl)
@[simp, simp ↓] theorem gN_0 {QS : Slots → Sto → Prop} : gN 0 f (o :: ρ) S QS = QS (some f :: ρ) S := (rfl)
@[simp, simp ↓] theorem gN_s {QS : Slots → Sto → Prop} : gN (i + 1) f (o :: ρ) S QS = gN i f ρ S (fun ρ' S' => QS (o :: ρ') S') := (rfl)
theorem gN_ev {QS : Slots → Sto → Prop} : gN i f ρ S QS = QS (ρ.set i (some f)) S := rfl
@[simp, simp ↓] theorem gTup2_ev {n : Nat} {gs : DGs} {QS : Slots → Sto → Prop} : gTup2 n gs (.tup xs) ρ S QS = (xs.length = n ∧ gs xs ρ S QS) := (rfl)
@[simp, simp ↓] theorem gNil2_ev {QS : Slots → Sto → Prop} : gNil2 [] ρ S QS = QS ρ S := by
  unfold gNil2
  simp
@[simp, simp ↓] theorem gCons2_ev {g : DG} {gs : DGs} {QS : Slots → Sto → Prop} : gCons2 g gs (x :: xs) ρ S QS = g x ρ S fun ρ1 S1 => gs xs ρ1 S1 QS := (rfl)
def parL : List Nat → List F → Slots → Sto → (Slots → Sto → Prop) → Prop
  | [], [], ρ, S, K => K ρ S
  | i :: is, x :: xs, ρ, S, K => gN i x ρ S fun ρ' S' => parL is xs ρ' S' K
  | _, _, _, _, _ => False
@[simp, simp ↓] theorem parL_nil {K : Slots → Sto → Prop} : parL [] [] ρ S K = K ρ S := (rfl)
@[simp, simp ↓] theorem parL_cons {is : List Nat} {K : Slots → Sto → Prop} : parL (i :: is) (x :: xs) ρ S K = gN i x ρ S fun ρ' S' => parL is xs ρ' S' K := (rfl)
theorem parL_eq {K : Slots → Sto → Prop} {S : Sto} : ∀ {is : List Nat} {xs : List F} {ρ : Slots}, (xs.length = is.length ∧ K ((is.zip xs).foldl (fun r p => r.set p.1 (some p.2)) ρ) S) = parL is xs ρ S K
  | [], [], ρ => by simp [parL]
  | [], _ :: _, ρ => by simp [parL]
  | _ :: _, [], ρ => by simp [parL]
  | i :: is, x :: xs, ρ => by
    have h := parL_eq (K := K) (S := S) (is := is) (xs := xs) (ρ := ρ.set i (some x))
    rw [parL_cons, gN_ev, ← h]
    simp
@[simp, simp ↓] theorem sPar_ev {is : List Nat} : sPar is ms D ρ S = ms ρ S fun xs S1 => parL is xs ρ S1 D.nx := by
  unfold sPar
  congr
  funext xs S1
  exact parL_eq
@[simp, simp ↓] theorem gSubL_ev {mo mi : W F} {QS : Slots → Sto → Prop} : gSubL mo mi f ρ S QS = mo ρ S fun o S1 => mi ρ S1 fun i S2 => oSetL o i f S2 fun S3 => QS ρ S3 := (rfl)
@[simp, simp ↓] theorem sAug_0 {op : DOp} : sAug 0 m op D (some f :: ρ) S = m (some f :: ρ) S fun z S1 => op f z S1 fun d S2 => D.nx (some d :: ρ) S2 := (rfl)
theorem sAug_ev {op : DOp} (h : ρ[i]? = some (some f)) : sAug i m op D ρ S = m ρ S fun z S1 => op f z S1 fun d S2 => D.nx (ρ.set i (some d)) S2 := by
  unfold sAug
  rw [h]
@[simp, simp ↓] theorem sFor_ev {mi : W ItD} {g : DG} : sFor mi g t D ρ S = mi ρ S fun it S1 => forL it.gd g t it.items D ρ S1 := (rfl)
@[simp, simp ↓] theorem forL_nil {gd : Sto → Prop} {g : DG} : forL gd g t [] D ρ S = (gd S ∧ D.nx ρ S) := (rfl)
@[simp, simp ↓] theorem forL_cons {gd : Sto → Prop} {g : DG} : forL gd g t (x :: xs) D ρ S = (gd S ∧ g x ρ S fun ρ1 S1 => t { nx := forL gd g t xs D, rt := D.rt, bk := D.nx, ct := forL gd g t xs D, ex := D.ex } ρ1 S1) := (rfl)
@[simp, simp ↓] theorem compL_nil {gd : Sto → Prop} {g : DG} {acc : List F} : compL gd g mt me ρ [] acc S QL = (gd S ∧ QL acc S) := (rfl)
@[simp, simp ↓] theorem compL_cons {gd : Sto → Prop} {g : DG} {acc : List F} : compL gd g mt me ρ (x :: xs) acc S QL = (gd S ∧ g x ρ S fun ρ2 S2 => mt ρ2 S2 fun b S3 => if b = true then me ρ2 S3 fun y S4 => compL gd g mt me ρ xs (acc ++ [y]) S4 QL else compL gd g mt me ρ xs acc S3 QL) := (rfl)
@[simp, simp ↓] theorem wRange1_ev : wRange1 ms ρ S QI = ms ρ S fun xs S1 => match xs with | [.int j] => (-(2 ^ 62) ≤ j ∧ j < 2 ^ 62) ∧ QI ⟨rngL 0 j.toNat, fun _ => True⟩ S1 | _ => False := (rfl)
@[simp, simp ↓] theorem wRange2_ev : wRange2 ms ρ S QI = ms ρ S fun xs S1 => match xs with | [.int i, .int j] => (-(2 ^ 62) ≤ i ∧ i < 2 ^ 62 ∧ -(2 ^ 62) ≤ j ∧ j < 2 ^ 62) ∧ QI ⟨rngL i (j - i).toNat, fun _ => True⟩ S1 | _ => False := (rfl)
@[simp, simp ↓] theorem onIt_tup : onIt S (.tup xs) QI = QI ⟨xs, fun _ => True⟩ S := (rfl)
@[simp, simp ↓] theorem onIt_lst : onIt S (.lst xs) QI = QI ⟨xs, fun _ => True⟩ S := (rfl)
@[simp, simp ↓] theorem onIt_rol : onIt S (.rol xs) QI = QI ⟨xs, fun _ => True⟩ S := (rfl)
/-! operators -/
@[simp, simp ↓] theorem oAdd_ii {i j : Int} : oAdd (.int i) (.int j) S Q = Q (.int (i + j)) S := (rfl)
@[simp, simp ↓] theorem oAdd_tt : oAdd (.tup xs) (.tup ys) S Q = (xs.length + ys.length ≤ sizeLine ∧ Q (.tup (xs ++ ys)) S) := (rfl)
@[simp, simp ↓] theorem oAdd_ll : oAdd (.lst xs) (.lst ys) S Q = (xs.length + ys.length ≤ sizeLine ∧ Q (.lst (xs ++ ys)) S) := (rfl)
@[simp, simp ↓] theorem oAdd_ss {i j : Str} : oAdd (.str i) (.str j) S Q = (i.length + j.length ≤ sizeLine ∧ Q (.str (i ++ j)) S) := (rfl)
@[simp, simp ↓] theorem oSub_ii {i j : Int} : oSub (.int i) (.int j) S Q = Q (.int (i - j)) S := (rfl)
@[simp, simp ↓] theorem oMul_ii {i j : Int} : oMul (.int i) (.int j) S Q = (mulOk i j ∧ Q (.int (i * j)) S) := (rfl)
@[simp, simp ↓] theorem oMul_ti {k : Int} : oMul (.tup xs) (.int k) S Q = ((-(2 ^ 63) ≤ k ∧ k < 2 ^ 63 ∧ xs.length * k.toNat ≤ sizeLine) ∧ Q (.tup (List.replicate k.toNat xs).flatten) S) := (rfl)
@[simp, simp ↓] theorem oDiv_ii {i j : Int} : oDiv (.int i) (.int j) S Q = (CDivW i j ∧ Q (.int (i / j)) S) := (rfl)
@[simp, simp ↓] theorem oMod_ii {i j : Int} : oMod (.int i) (.int j) S Q = (0 < j ∧ Q (.int (i % j)) S) := (rfl)
@[simp, simp ↓] theorem oPow_ii {i j : Int} : oPow (.int i) (.int j) S Q = (CPow i j ∧ Q (.int (i ^ j.toNat)) S) := (rfl)
@[simp, simp ↓] theorem oLt_ii {i j : Int} : oLt (.int i) (.int j) S Q = Q (.bl (decide (i < j))) S := (rfl)
@[simp, simp ↓] theorem oLe_ii {i j : Int} : oLe (.int i) (.int j) S Q = Q (.bl (decide (i ≤ j))) S := (rfl)
@[simp, simp ↓] theorem oGt_ii {i j : Int} : oGt (.int i) (.int j) S Q = Q (.bl (decide (j < i))) S := (rfl)
@[simp, simp ↓] theorem oGe_ii {i j : Int} : oGe (.int i) (.int j) S Q = Q (.bl (decide (j ≤ i))) S := (rfl)
@[simp, simp ↓] theorem oIs_n : oIs x .non S Q = Q (.bl (isNon x)) S := (rfl)
@[simp, simp ↓] theorem oIs_b {a b : Bool} : oIs (.bl a) (.bl b) S Q = Q (.bl (decide (a = b))) S := (rfl)
@[simp, simp ↓] theorem oIsNot_n : oIsNot x .non S Q = Q (.bl (!isNon x)) S := (rfl)
@[simp, simp ↓] theorem oIsNot_b {a b : Bool} : oIsNot (.bl a) (.bl b) S Q = Q (.bl (!decide (a = b))) S := (rfl)
@[simp] theorem isNon_non : isNon .non = true := rfl
@[simp] theorem isNon_bl {b} : isNon (.bl b) = false := rfl
@[simp] theorem isNon_int {b} : isNon (.int b) = false := rfl
@[simp] theorem isNon_str {b} : isNon (.str b) = false := rfl
@[simp] theorem isNon_tup {b} : isNon (.tup b) = false := rfl
@[simp] theorem isNon_lst {b} : isNon (.lst b) = false := rfl
@[simp, simp ↓] theorem oEq_ev : oEq x y S Q = (okF x = true ∧ okF y = true ∧ Q (.bl (eqF x y)) S) := (rfl)
@[simp, simp ↓] theorem oNe_ev : oNe x y S Q = (okF x = true ∧ okF y = true ∧ Q (.bl (!eqF x y)) S) := (rfl)
@[simp] theorem okF_non : okF .non = true := by simp [okF, SeqAt.shaped, py, PyData.canLay0, PyData.depth]
@[simp] theorem okF_bl {b} : okF (.bl b) = true := by simp [okF, SeqAt.shaped, py, PyData.canLay0, PyData.depth]
@[simp] theorem okF_int {i} : okF (.int i) = true := by simp [okF, SeqAt.shaped, py, PyData.canLay0, PyData.depth]
@[simp] theorem eqF_ii {i j : Int} : eqF (.int i) (.int j) = (i == j) := by simp [eqF, py, PyData.eqv]
@[simp] theorem eqF_bb {i j : Bool} : eqF (.bl i) (.bl j) = (i == j) := by simp [eqF, py, PyData.eqv]
@[simp] theorem eqF_ss {i j : Str} : eqF (.str i) (.str j) = (i == j) := by simp [eqF, py, PyData.eqv]
@[simp, simp ↓] theorem oIx_t {i : Int} : oIx (.tup xs) (.int i) S Q = (match atI xs i with | some z => Q z S | none => False) := (rfl)
@[simp, simp ↓] theorem oIx_l {i : Int} : oIx (.lst xs) (.int i) S Q = (match atI xs i with | some z => Q z S | none => False) := (rfl)
@[simp, simp ↓] theorem oIx_r {i : Int} : oIx (.rol xs) (.int i) S Q = (match atI xs i with | some z => Q z S | none => False) := (rfl)
@[simp, simp ↓] theorem oIx_loc {a : Addr} {i : Int} : oIx (.loc a) (.int i) S Q = (match S a with | some xs => (match atI xs i with | some z => Q z S | none => False) | none => False) := (rfl)
@[simp, simp ↓] theorem oSl_t {lo hi : Option Int} : oSl (.tup xs) lo hi S Q = Q (.tup (cut xs lo hi)) S := (rfl)
@[simp, simp ↓] theorem oSl_s {z : Str} {lo hi : Option Int} : oSl (.str z) lo hi S Q = (z.length ≤ sizeLine ∧ Q (.str (cutS z lo hi)) S) := (rfl)
@[simp, simp ↓] theorem oSl_l {lo hi : Option Int} : oSl (.lst xs) lo hi S Q = Q (.lst (cut xs lo hi)) S := (rfl)
@[simp, simp ↓] theorem oSl_r {lo hi : Option Int} : oSl (.rol xs) lo hi S Q = Q (.lst (cut xs lo hi)) S := (rfl)
@[simp, simp ↓] theorem cLen_t : cLen [.tup xs] S Q = Q (.int xs.length) S := (rfl)
@[simp, simp ↓] theorem cLen_l : cLen [.lst xs] S Q = Q (.int xs.length) S := (rfl)
@[simp, simp ↓] theorem cLen_r : cLen [.rol xs] S Q = Q (.int xs.length) S := (rfl)
@[simp, simp ↓] theorem cLen_s {z : Str} : cLen [.str z] S Q = (z.length ≤ sizeLine ∧ Q (.int z.length) S) := (rfl)
@[simp, simp ↓] theorem cLen_loc {a : Addr} : cLen [.loc a] S Q = (match S a with | some fs => Q (.int fs.length) S | none => False) := (rfl)
@[simp, simp ↓] theorem cTuple_t : cTuple [.tup xs] S Q = Q (.tup xs) S := (rfl)
@[simp, simp ↓] theorem cTuple_l : cTuple [.lst xs] S Q = Q (.tup xs) S := (rfl)
@[simp, simp ↓] theorem cTuple_loc {a : Addr} : cTuple [.loc a] S Q = (match S a with | some fs => Q (.tup fs) S | none => False) := (rfl)
@[simp, simp ↓] theorem cList_t : cList [.tup xs] S QL = QL xs S := (rfl)
@[simp, simp ↓] theorem cList_l : cList [.lst xs] S QL = QL xs S := (rfl)
@[simp, simp ↓] theorem cList_r : cList [.rol xs] S QL = QL xs S := (rfl)
@[simp, simp ↓] theorem cInt_i {i : Int} : cInt [.int i] S Q = Q (.int i) S := (rfl)
@[simp, simp ↓] theorem cInt_b {b : Bool} : cInt [.bl b] S Q = Q (.int (if b = true then 1 else 0)) S := (rfl)
theorem map_inj {α β : Type} {g : α → β} (hg : ∀ a b, g a = g b → a = b) : ∀ {as bs : List α}, as.map g = bs.map g → as = bs
  | [], [], _ => rfl
  | [], _ :: _, h => by cases h
  | _ :: _, [], h => by cases h
  | a :: as, b :: bs, h => by
    rw [List.map_cons, List.map_cons, List.cons.injEq] at h
    rw [hg _ _ h.1, map_inj hg h.2]
theorem sum_ev {ns : List Int} : (∃ ks : List Int, ns.map F.int = ks.map F.int ∧ Q (.int ks.sum) S) = Q (.int ns.sum) S := by
  apply propext
  constructor
  · rintro ⟨ks, e, q⟩
    rwa [map_inj (fun a b h => F.int.inj h) e]
  · exact fun q => ⟨ns, rfl, q⟩
@[simp, simp ↓] theorem cSum_t {ns : List Int} : cSum [.tup (ns.map F.int)] S Q = Q (.int ns.sum) S := sum_ev
@[simp, simp ↓] theorem cSum_l {ns : List Int} : cSum [.lst (ns.map F.int)] S Q = Q (.int ns.sum) S := sum_ev
theorem bls_ev {ns : List Bool} {g : List Bool → Bool} : (∃ ks : List Bool, ns.map F.bl = ks.map F.bl ∧ Q (.bl (g ks)) S) = Q (.bl (g ns)) S := by
  apply propext
  constructor
  · rintro ⟨ks, e, q⟩
    rwa [map_inj (fun a b h => F.bl.inj h) e]
  · exact fun q => ⟨ns, rfl, q⟩
@[simp, simp ↓] theorem cAll_l {ns : List Bool} : cAll [.lst (ns.map F.bl)] S Q = Q (.bl (ns.all id)) S := bls_ev (g := fun ks => ks.all id)
@[simp, simp ↓] theorem cAny_l {ns : List Bool} : cAny [.lst (ns.map F.bl)] S Q = Q (.bl (ns.any id)) S := bls_ev (g := fun ks => ks.any id)
@[simp, simp ↓] theorem mAppend_ev {a : Addr} : mAppend (.loc a) [y] S Q = (match S a with | some fs => fs.length < sizeLine ∧ Q .non (updS S a (fs ++ [y])) | none => False) := (rfl)
@[simp, simp ↓] theorem mPopAt_ev {a : Addr} {i : Int} : mPopAt (.loc a) [.int i] S Q = (match S a with
    | some fs => (-(2 ^ 63) ≤ i ∧ i < 2 ^ 63) ∧ (match ixN fs.length i with
      | some j => (match fs[j]? with | some y => Q y (updS S a (fs.eraseIdx j)) | none => False)
      | none => False)
    | none => False) := rfl
@[simp, simp ↓] theorem mPop_ev {a : Addr} : mPop (.loc a) [] S Q = (match S a with
    | some fs => (match fs[fs.length - 1]? with | some y => Q y (updS S a fs.dropLast) | none => False)
    | none => False) := rfl
@[simp, simp ↓] theorem oSetL_ev {a : Addr} {k : Int} {v : F} {QS : Sto → Prop} : oSetL (.loc a) (.int k) v S QS = (match S a with
    | some fs => (match ixN fs.length k with | some j => QS (updS S a (fs.set j v)) | none => False)
    | none => False) := rfl
@[simp, simp ↓] theorem listR_loc {a : Addr} : listR S (.loc a) = S a := (rfl)
@[simp, simp ↓] theorem listR_lst : listR S (.lst xs) = some xs := (rfl)
/-! types -/
@[simp] theorem ty_int_non : isTy "int" .non = false := rfl
@[simp] theorem ty_int_bl {b} : isTy "int" (.bl b) = true := rfl
@[simp] theorem ty_int_int {b} : isTy "int" (.int b) = true := rfl
@[simp] theorem ty_int_str {b} : isTy "int" (.str b) = false := rfl
@[simp] theorem ty_int_tup {b} : isTy "int" (.tup b) = false := rfl
@[simp] theorem ty_int_lst {b} : isTy "int" (.lst b) = false := rfl
@[simp] theorem ty_int_rol {b} : isTy "int" (.rol b) = false := rfl
@[simp] theorem ty_int_loc {b} : isTy "int" (.loc b) = false := rfl
@[simp] theorem ty_bool_non : isTy "bool" .non = false := rfl
@[simp] theorem ty_bool_bl {b} : isTy "bool" (.bl b) = true := rfl
@[simp] theorem ty_bool_int {b} : isTy "bool" (.int b) = false := rfl
@[simp] theorem ty_bool_str {b} : isTy "bool" (.str b) = false := rfl
@[simp] theorem ty_bool_tup {b} : isTy "bool" (.tup b) = false := rfl
@[simp] theorem ty_bool_lst {b} : isTy "bool" (.lst b) = false := rfl
@[simp] theorem ty_bool_rol {b} : isTy "bool" (.rol b) = false := rfl
@[simp] theorem ty_bool_loc {b} : isTy "bool" (.loc b) = false := rfl
@[simp] theorem ty_str_non : isTy "str" .non = false := rfl
@[simp] theorem ty_str_bl {b} : isTy "str" (.bl b) = false := rfl
@[simp] theorem ty_str_int {b} : isTy "str" (.int b) = false := rfl
@[simp] theorem ty_str_str {b} : isTy "str" (.str b) = true := rfl
@[simp] theorem ty_str_tup {b} : isTy "str" (.tup b) = false := rfl
@[simp] theorem ty_str_lst {b} : isTy "str" (.lst b) = false := rfl
@[simp] theorem ty_str_rol {b} : isTy "str" (.rol b) = false := rfl
@[simp] theorem ty_str_loc {b} : isTy "str" (.loc b) = false := rfl
@[simp] theorem ty_tuple_non : isTy "tuple" .non = false := rfl
@[simp] theorem ty_tuple_bl {b} : isTy "tuple" (.bl b) = false := rfl
@[simp] theorem ty_tuple_int {b} : isTy "tuple" (.int b) = false := rfl
@[simp] theorem ty_tuple_str {b} : isTy "tuple" (.str b) = false := rfl
@[simp] theorem ty_tuple_tup {b} : isTy "tuple" (.tup b) = true := rfl
@[simp] theorem ty_tuple_lst {b} : isTy "tuple" (.lst b) = false := rfl
@[simp] theorem ty_tuple_rol {b} : isTy "tuple" (.rol b) = false := rfl
@[simp] theorem ty_tuple_loc {b} : isTy "tuple" (.loc b) = false := rfl
@[simp] theorem ty_list_non : isTy "list" .non = false := rfl
@[simp] theorem ty_list_bl {b} : isTy "list" (.bl b) = false := rfl
@[simp] theorem ty_list_int {b} : isTy "list" (.int b) = false := rfl
@[simp] theorem ty_list_str {b} : isTy "list" (.str b) = false := rfl
@[simp] theorem ty_list_tup {b} : isTy "list" (.tup b) = false := rfl
@[simp] theorem ty_list_lst {b} : isTy "list" (.lst b) = true := rfl
@[simp] theorem ty_list_rol {b} : isTy "list" (.rol b) = true := rfl
@[simp] theorem ty_list_loc {b} : isTy "list" (.loc b) = true := rfl
@[simp] theorem isiOk_non : isiOk S .non := trivial
@[simp] theorem isiOk_bl {b} : isiOk S (.bl b) := trivial
@[simp] theorem isiOk_int {b} : isiOk S (.int b) := trivial
@[simp] theorem isiOk_str {b} : isiOk S (.str b) := trivial
@[simp] theorem isiOk_tup {b} : isiOk S (.tup b) := trivial
@[simp] theorem isiOk_lst {b} : isiOk S (.lst b) := trivial
@[simp] theorem isiOk_rol {b} : isiOk S (.rol b) := trivial
/-! places -/
@[simp] theorem atI_lit {α : Type} {xs : List α} {n : Nat} : atI xs (no_index (OfNat.ofNat n) : Int) = xs[n]? := by
  show atI xs (n : Int) = xs[n]?
  unfold atI ixN
  rw [if_pos (Int.natCast_nonneg n)]
  split
  · rfl
  · rename_i h
    rw [List.getElem?_eq_none (by omega)]
    rfl
@[simp] theorem atI_0 {α : Type} {xs : List α} : atI xs 0 = xs[0]? := atI_lit (n := 0)
@[simp] theorem atI_1 {α : Type} {xs : List α} : atI xs 1 = xs[1]? := atI_lit (n := 1)
theorem atI_cast {α : Type} {xs : List α} {n : Nat} : atI xs ((n : Nat) : Int) = xs[n]? := atI_lit
theorem atI_pos {α : Type} {xs : List α} {i : Int} (h : 0 ≤ i) : atI xs i = xs[i.toNat]? := by
  have e : i = (i.toNat : Int) := by omega
  rw [e]
  exact atI_cast
@[simp] theorem ixN_lit {n k : Nat} : ixN n (no_index (OfNat.ofNat k) : Int) = if k < n then some k else none := by
  show ixN n (k : Int) = _
  unfold ixN
  rw [if_pos (Int.natCast_nonneg k)]
  by_cases h : k < n
  · rw [if_pos h, if_pos (by omega)]
    rfl
  · rw [if_neg h, if_neg (by omega)]
@[simp] theorem ixN_0 {n : Nat} : ixN n 0 = if 0 < n then some 0 else none := ixN_lit (k := 0)
@[simp] theorem ixN_1 {n : Nat} : ixN n 1 = if 1 < n then some 1 else none := ixN_lit (k := 1)
@[simp] theorem upd_same_ev {a : Addr} {l : List F} : updS S a l a = some l := updS_same
end
theorem oIx_mem {xs : List F} {d : Nat} {S : Sto} {Q : F → Sto → Prop} (hd : d < xs.length) (h : ∀ z, z ∈ xs → Q z S) : oIx (.lst xs) (.int (d : Int)) S Q := by
  simp [atI_cast, List.getElem?_eq_getElem hd]
  exact h _ (List.getElem_mem hd)
theorem mulOk_l {i j : Int} (h : -(2 ^ 64) < i ∧ i < 2 ^ 64) : mulOk i j := .inl (.inl h)
theorem mulOk_r {i j : Int} (h : -(2 ^ 64) < j ∧ j < 2 ^ 64) : mulOk i j := .inl (.inr h)
theorem divOk {i j : Int} (h : 0 < j) (h2 : j < 2 ^ 30) : CDivW i j := wide_div (b := 30) h (by omega) (by decide) (by decide)
@[simp] theorem wipeF_nil {ρ : Slots} : wipeF ρ [] = ρ := rfl
@[simp] theorem wipeF_cons {ρ : Slots} {v : Nat} {vs : List Nat} : wipeF ρ (v :: vs) = (wipeF ρ vs).set v none := rfl
@[simp] theorem sl_0 : (0 ≤ sizeLine) = True := eq_true (lit_line (by decide))
@[simp] theorem sl_1 : (1 ≤ sizeLine) = True := eq_true (lit_line (by decide))
@[simp] theorem sl_2 : (2 ≤ sizeLine) = True := eq_true (lit_line (by decide))
@[simp] theorem sl_3 : (3 ≤ sizeLine) = True := eq_true (lit_line (by decide))
@[simp] theorem sl_4 : (4 ≤ sizeLine) = True := eq_true (lit_line (by decide))
@[simp] theorem sl_5 : (5 ≤ sizeLine) = True := eq_true (lit_line (by decide))
@[simp] theorem sl_6 : (6 ≤ sizeLine) = True := eq_true (lit_line (by decide))
@[simp] theorem sl_7 : (7 ≤ sizeLine) = True := eq_true (lit_line (by decide))
@[simp] theorem sl_8 : (8 ≤ sizeLine) = True := eq_true (lit_line (by decide))
@[simp] theorem sl_9 : (9 ≤ sizeLine) = True := eq_true (lit_line (by decide))
@[simp] theorem sl_10 : (10 ≤ sizeLine) = True := eq_true (lit_line (by decide))
@[simp] theorem sl_11 : (11 ≤ sizeLine) = True := eq_true (lit_line (by decide))
@[simp] theorem sl_12 : (12 ≤ sizeLine) = True := eq_true (lit_line (by decide))
@[simp] theorem sl_13 : (13 ≤ sizeLine) = True := eq_true (lit_line (by decide))
@[simp] theorem sl_14 : (14 ≤ sizeLine) = True := eq_true (lit_line (by decide))
@[simp] theorem sl_15 : (15 ≤ sizeLine) = True := eq_true (lit_line (by decide))
@[simp] theorem sl_16 : (16 ≤ sizeLine) = True := eq_true (lit_line (by decide))
@[simp] theorem sl_17 : (17 ≤ sizeLine) = True := eq_true (lit_line (by decide))
@[simp] theorem sl_18 : (18 ≤ sizeLine) = True := eq_true (lit_line (by decide))
@[simp] theorem sl_19 : (19 ≤ sizeLine) = True := eq_true (lit_line (by decide))
@[simp] theorem sl_20 : (20 ≤ sizeLine) = True := eq_true (lit_line (by decide))
@[simp] theorem sl_21 : (21 ≤ sizeLine) = True := eq_true (lit_line (by decide))
@[simp] theorem sl_22 : (22 ≤ sizeLine) = True := eq_true (lit_line (by decide))
@[simp] theorem sl_23 : (23 ≤ sizeLine) = True := eq_true (lit_line (by decide))
@[simp] theorem sl_24 : (24 ≤ sizeLine) = True := eq_true (lit_line (by decide))
@[simp] theorem sl_25 : (25 ≤ sizeLine) = True := eq_true (lit_line (by decide))
@[simp] theorem sl_26 : (26 ≤ sizeLine) = True := eq_true (lit_line (by decide))
@[simp] theorem sl_27 : (27 ≤ sizeLine) = True := eq_true (lit_line (by decide))
@[simp] theorem sl_28 : (28 ≤ sizeLine) = True := eq_true (lit_line (by decide))
@[simp] theorem sl_29 : (29 ≤ sizeLine) = True := eq_true (lit_line (by decide))
@[simp] theorem sl_30 : (30 ≤ sizeLine) = True := eq_true (lit_line (by decide))
@[simp] theorem sl_31 : (31 ≤ sizeLine) = True := eq_true (lit_line (by decide))
@[simp] theorem sl_32 : (32 ≤ sizeLine) = True := eq_true (lit_line (by decide))
@[simp] theorem sl_33 : (33 ≤ sizeLine) = True := eq_true (lit_line (by decide))
@[simp] theorem sl_34 : (34 ≤ sizeLine) = True := eq_true (lit_line (by decide))
@[simp] theorem sl_35 : (35 ≤ sizeLine) = True := eq_true (lit_line (by decide))
@[simp] theorem sl_36 : (36 ≤ sizeLine) = True := eq_true (lit_line (by decide))
@[simp] theorem sl_37 : (37 ≤ sizeLine) = True := eq_true (lit_line (by decide))
@[simp] theorem sl_38 : (38 ≤ sizeLine) = True := eq_true (lit_line (by decide))
@[simp] theorem sl_39 : (39 ≤ sizeLine) = True := eq_true (lit_line (by decide))
@[simp] theorem sl_40 : (40 ≤ sizeLine) = True := eq_true (lit_line (by decide))
@[simp] theorem sl_41 : (41 ≤ sizeLine) = True := eq_true (lit_line (by decide))
@[simp] theorem sl_42 : (42 ≤ sizeLine) = True := eq_true (lit_line (by decide))
@[simp] theorem sl_43 : (43 ≤ sizeLine) = True := eq_true (lit_line (by decide))
@[simp] theorem sl_44 : (44 ≤ sizeLine) = True := eq_true (lit_line (by decide))
@[simp] theorem sl_45 : (45 ≤ sizeLine) = True := eq_true (lit_line (by decide))
@[simp] theorem sl_46 : (46 ≤ sizeLine) = True := eq_true (lit_line (by decide))
@[simp] theorem sl_47 : (47 ≤ sizeLine) = True := eq_true (lit_line (by decide))
@[simp] theorem sl_48 : (48 ≤ sizeLine) = True := eq_true (lit_line (by decide))
@[simp] theorem sl_49 : (49 ≤ sizeLine) = True := eq_true (lit_line (by decide))
@[simp] theorem sl_50 : (50 ≤ sizeLine) = True := eq_true (lit_line (by decide))
@[simp] theorem sl_51 : (51 ≤ sizeLine) = True := eq_true (lit_line (by decide))
@[simp] theorem sl_52 : (52 ≤ sizeLine) = True := eq_true (lit_line (by decide))
@[simp] theorem sl_53 : (53 ≤ sizeLine) = True := eq_true (lit_line (by decide))
@[simp] theorem sl_54 : (54 ≤ sizeLine) = True := eq_true (lit_line (by decide))
@[simp] theorem sl_55 : (55 ≤ sizeLine) = True := eq_true (lit_line (by decide))
@[simp] theorem sl_56 : (56 ≤ sizeLine) = True := eq_true (lit_line (by decide))
@[simp] theorem sl_57 : (57 ≤ sizeLine) = True := eq_true (lit_line (by decide))
@[simp] theorem sl_58 : (58 ≤ sizeLine) = True := eq_true (lit_line (by decide))
@[simp] theorem sl_59 : (59 ≤ sizeLine) = True := eq_true (lit_line (by decide))
@[simp] theorem sl_60 : (60 ≤ sizeLine) = True := eq_true (lit_line (by decide))
@[simp] theorem sl_61 : (61 ≤ sizeLine) = True := eq_true (lit_line (by decide))
@[simp] theorem sl_62 : (62 ≤ sizeLine) = True := eq_true (lit_line (by decide))
@[simp] theorem sl_63 : (63 ≤ sizeLine) = True := eq_true (lit_line (by decide))
@[simp] theorem sl_64 : (64 ≤ sizeLine) = True := eq_true (lit_line (by decide))
/-! data that no list changes in -/
mutual
def fz : F → Bool
  | .loc _ => false
  | .tup l => decide (l.length ≤ 1000000) && fzL l
  | .lst l => decide (l.length ≤ 1000000) && fzL l
  | .rol l => decide (l.length ≤ 1000000) && fzL l
  | .non => true
  | .bl _ => true
  | .int _ => true
  | .str x => PyData.strOk x
def fzL : List F → Bool
  | [] => true
  | x :: r => fz x && fzL r
end
theorem fzL_all : ∀ {l : List F}, fzL l = l.all fz
  | [] => rfl
  | x :: r => by rw [fzL, List.all_cons, fzL_all]
theorem isiOk_fz {S : Sto} {v : F} (h : fz v = true) : isiOk S v := by
  cases v <;> first | trivial | (simp [fz] at h)
end DL

set_option maxHeartbeats 4000000
namespace DL
open PySem PySem.Spec PyProof.Rows L2
/-! ### walks over lists, their turns' worth known -/
section
variable {gd : Sto → Prop} {g : DG} {mt : W Bool} {me : W F} {ρ : Slots}
theorem compL_map (h : F → F) {S : Sto} (hgd : gd S) {QL : List F → Sto → Prop} : ∀ (xs acc : List F), (∀ x, x ∈ xs → ∀ Q : F → Sto → Prop, Q (h x) S → g x ρ S fun ρ2 S2 => me ρ2 S2 Q) → QL (acc ++ xs.map h) S → compL gd g wYes me ρ xs acc S QL
  | [], acc, _, q => ⟨hgd, by simpa using q⟩
  | x :: r, acc, ht, q => by
    refine ⟨hgd, ?_⟩
    simp only [wYes, if_true]
    exact ht x (List.mem_cons_self ..) _ (compL_map h hgd r (acc ++ [h x]) (fun y hy => ht y (List.mem_cons_of_mem _ hy)) (by simpa using q))
/-- with a test that is worth p -/
theorem compL_filter (p : F → Bool) (h : F → F) {S : Sto} (hgd : gd S) {QL : List F → Sto → Prop} : ∀ (xs acc : List F),
    (∀ x, x ∈ xs → ∀ (A : F → Sto → Prop) (N : Sto → Prop), (p x = true → A (h x) S) → (p x = false → N S) → g x ρ S fun ρ2 S2 => mt ρ2 S2 fun b S3 => if b = true then me ρ2 S3 A else N S3) →
    QL (acc ++ (xs.filter p).map h) S → compL gd g mt me ρ xs acc S QL
  | [], acc, _, q => ⟨hgd, by simpa using q⟩
  | x :: r, acc, ht, q => by
    refine ⟨hgd, ?_⟩
    refine ht x (List.mem_cons_self ..) _ _ (fun e => ?_) (fun e => ?_)
    · exact compL_filter p h hgd r (acc ++ [h x]) (fun y hy => ht y (List.mem_cons_of_mem _ hy)) (by simpa [List.filter_cons, e] using q)
    · exact compL_filter p h hgd r acc (fun y hy => ht y (List.mem_cons_of_mem _ hy)) (by simpa [List.filter_cons, e] using q)
/-- turns that change the store: what holds of what is made so far and the store -/
theorem compL_inv (I : List F → Sto → Prop) {QL : List F → Sto → Prop} : ∀ (xs acc : List F) (S : Sto), (∀ acc S, I acc S → gd S) →
    (∀ x, x ∈ xs → ∀ acc S (Q : F → Sto → Prop), I acc S → (∀ y S3, I (acc ++ [y]) S3 → Q y S3) → g x ρ S fun ρ2 S2 => me ρ2 S2 Q) → I acc S →
    (∀ acc' S', I acc' S' → acc'.length = acc.length + xs.length → QL acc' S') → compL gd g wYes me ρ xs acc S QL
  | [], acc, S, hg, ht, hi, q => ⟨hg _ _ hi, q _ _ hi rfl⟩
  | x :: r, acc, S, hg, ht, hi, q => by
    refine ⟨hg _ _ hi, ?_⟩
    simp only [wYes, if_true]
    refine ht x (List.mem_cons_self ..) acc S _ hi fun y S3 h => ?_
    exact compL_inv I r (acc ++ [y]) S3 hg (fun z hz => ht z (List.mem_cons_of_mem _ hz)) h (fun acc' S' h' e => q acc' S' h' (by rw [e, List.length_append, List.length_cons, List.length_cons, List.length_nil]; omega))
/-- items by a function -/
theorem compL_mapT {α : Type} (e h : α → F) {S : Sto} (hgd : gd S) {QL : List F → Sto → Prop} (xs : List α) (acc : List F) (ht : ∀ x, x ∈ xs → ∀ Q : F → Sto → Prop, Q (h x) S → g (e x) ρ S fun ρ2 S2 => me ρ2 S2 Q) (q : QL (acc ++ xs.map h) S) : compL gd g wYes me ρ (xs.map e) acc S QL := by
  induction xs generalizing acc with
  | nil => exact ⟨hgd, by simpa using q⟩
  | cons x r ih =>
    refine ⟨hgd, ?_⟩
    simp only [wYes, if_true]
    exact ht x (List.mem_cons_self ..) _ (ih (acc ++ [h x]) (fun y hy => ht y (List.mem_cons_of_mem _ hy)) (by simpa using q))
theorem compL_filterT {α : Type} (e : α → F) (p : α → Bool) (h : α → F) {S : Sto} (hgd : gd S) {QL : List F → Sto → Prop} (xs : List α) (acc : List F)
    (ht : ∀ x, x ∈ xs → ∀ (A : F → Sto → Prop) (N : Sto → Prop), (p x = true → A (h x) S) → (p x = false → N S) → g (e x) ρ S fun ρ2 S2 => mt ρ2 S2 fun b S3 => if b = true then me ρ2 S3 A else N S3)
    (q : QL (acc ++ (xs.filter p).map h) S) : compL gd g mt me ρ (xs.map e) acc S QL := by
  induction xs generalizing acc with
  | nil => exact ⟨hgd, by simpa using q⟩
  | cons x r ih =>
    refine ⟨hgd, ?_⟩
    refine ht x (List.mem_cons_self ..) _ _ (fun e => ?_) (fun e => ?_)
    · exact ih (acc ++ [h x]) (fun y hy => ht y (List.mem_cons_of_mem _ hy)) (by simpa [List.filter_cons, e] using q)
    · exact ih acc (fun y hy => ht y (List.mem_cons_of_mem _ hy)) (by simpa [List.filter_cons, e] using q)
/-- a for, by what holds of the slots and the store -/
theorem forL_inv {gd : Sto → Prop} {g : DG} {t : WS} {D : EndsD} (I : Slots → Sto → Prop) : ∀ (xs : List F) (ρ : Slots) (S : Sto), I ρ S → (∀ ρ S, I ρ S → gd S) →
    (∀ x, x ∈ xs → ∀ ρ S (N : Slots → Sto → Prop), I ρ S → (∀ ρ' S', I ρ' S' → N ρ' S') → g x ρ S fun ρ1 S1 => t { nx := N, rt := D.rt, bk := D.nx, ct := N, ex := D.ex } ρ1 S1) → (∀ ρ S, I ρ S → D.nx ρ S) → forL gd g t xs D ρ S
  | [], ρ, S, hi, hg, hs, hf => ⟨hg _ _ hi, hf _ _ hi⟩
  | x :: r, ρ, S, hi, hg, hs, hf => ⟨hg _ _ hi, hs x (List.mem_cons_self ..) ρ S _ hi fun ρ' S' h => forL_inv I r ρ' S' h hg (fun y hy => hs y (List.mem_cons_of_mem _ hy)) hf⟩
theorem rngL_map (lo : Int) (n : Nat) : rngL lo n = (List.range n).map fun i => F.int (lo + (i : Nat)) := rfl
end
/-! ### the law's box and its draws; sameness -/
def W_box : WS :=
  (sRet (wOwn (wLst (wCons (wOwn (wCall cList (wCons (wSl (wVar 0) wNoPart (wPart (wC (.int 63)))) wNil))) (wCons (wC (.int 0)) (wCons (wOp oAdd (wC (.int 4711)) (wCall cLen (wCons (wVar 0) wNil))) wNil))))))
def W_load : WS :=
  (sSeq (sAsg (wOp oIx (wVar 0) (wC (.int 0))) (gN 1))
    (sSeq (sIf (wTst (wOp oGt (wCall cLen (wCons (wVar 1) wNil)) (wC (.int 0)))) (sSeq (sAsg (wCall cInt (wCons (wMt mPopAt (wVar 1) (wCons (wC (.int 0)) wNil)) wNil)) (gN 2))
    (sSeq (sAsg (wIf (wTst (wOp oGe (wVar 2) (wC (.int 0)))) (wOp oMul (wC (.int 2)) (wVar 2)) (wOp oSub (wOp oMul (wNeg (wC (.int 2))) (wVar 2)) (wC (.int 1)))) (gN 3))
    (sSeq (sIf (wTst (wOp oGe (wVar 3) (wC (.int 1000000000000000000)))) (sRet (wVar 3)) sNext)
    (sAsg (wOp oMod (wCall cInt (wCons (wOp oAdd (wOp oAdd (wOp oMul (wOp oIx (wVar 0) (wC (.int 2))) (wC (.int 69621))) (wOp oMul (wVar 3) (wC (.int 48271)))) (wC (.int 11))) wNil)) (wC (.int 2147483647))) (gSubL (wVar 0) (wC (.int 2))))))) sNext)
    (sSeq (sAsg (wOp oMod (wCall cInt (wCons (wOp oAdd (wOp oMul (wOp oIx (wVar 0) (wC (.int 2))) (wC (.int 48271))) (wC (.int 17))) wNil)) (wC (.int 2147483629))) (gN 4))
    (sSeq (sAsg (wOp oMod (wCall cInt (wCons (wOp oAdd (wOp oMul (wVar 4) (wC (.int 69621))) (wC (.int 5))) wNil)) (wC (.int 2147483587))) (gN 5))
    (sSeq (sAsg (wOp oMod (wCall cInt (wCons (wOp oAdd (wOp oMul (wVar 5) (wC (.int 40692))) (wC (.int 3))) wNil)) (wC (.int 2147483563))) (gSubL (wVar 0) (wC (.int 2))))
    (sRet (wOp oAdd (wOp oAdd (wOp oMul (wVar 4) (wC (.int 4611686014132420609))) (wOp oMul (wVar 5) (wC (.int 2147483647)))) (wOp oIx (wVar 0) (wC (.int 2))))))))))
def W_draw (c__law_load : Ct) : WS :=
  (sSeq (sIf (wTst (wOp oLt (wOp oIx (wVar 0) (wC (.int 1))) (wVar 1))) (sAsg (wCall c__law_load (wCons (wVar 0) wNil)) (gSubL (wVar 0) (wC (.int 1)))) sNext)
    (sSeq (sAsg (wOp oMod (wCall cInt (wCons (wOp oIx (wVar 0) (wC (.int 1))) wNil)) (wVar 1)) (gN 2))
    (sSeq (sAsg (wOp oDiv (wOp oIx (wVar 0) (wC (.int 1))) (wVar 1)) (gSubL (wVar 0) (wC (.int 1))))
    (sRet (wVar 2)))))
def W_same (c__law_same : Ct) : WS :=
  (sSeq (sIf (bOr (bAnd (wTst (wIsi "tuple" (wVar 0))) (wTst (wIsi "tuple" (wVar 1)))) (bAnd (wTst (wIsi "list" (wVar 0))) (wTst (wIsi "list" (wVar 1))))) (sRet (wAnd (wOp oEq (wCall cLen (wCons (wVar 0) wNil)) (wCall cLen (wCons (wVar 1) wNil))) (wCall cAll (wCons (wFrz (wComp [2] (wRange1 (wCons (wCall cLen (wCons (wVar 0) wNil)) wNil)) (gN 2) wYes (wCall c__law_same (wCons (wOp oIx (wVar 0) (wVar 2)) (wCons (wOp oIx (wVar 1) (wVar 2)) wNil))))) wNil)))) sNext)
    (sSeq (sIf (bOr (wTst (wIsi "bool" (wVar 0))) (wTst (wIsi "bool" (wVar 1)))) (sRet (wAnd (wIsi "bool" (wVar 0)) (wAnd (wIsi "bool" (wVar 1)) (wOp oEq (wVar 0) (wVar 1))))) sNext)
    (sSeq (sIf (bOr (bAnd (wTst (wIsi "int" (wVar 0))) (wTst (wIsi "int" (wVar 1)))) (bAnd (wTst (wIsi "str" (wVar 0))) (wTst (wIsi "str" (wVar 1))))) (sRet (wOp oEq (wVar 0) (wVar 1))) sNext)
    (sRet (wAnd (wOp oIs (wVar 0) (wC .non)) (wOp oIs (wVar 1) (wC .non)))))))
def BoxAt (S : Sto) (b c : Addr) : Prop := b ≠ c ∧ ∃ (x y : Int) (cells : List Int), S b = some [.loc c, .int x, .int y] ∧ S c = some (cells.map F.int)
/-- all but the box stands -/
def Fr (S S' : Sto) (b c : Addr) : Prop := ∀ a, a ≠ b → a ≠ c → S' a = S a
theorem Fr.refl {S : Sto} {b c : Addr} : Fr S S b c := fun _ _ _ => rfl
theorem Fr.trans {S S1 S2 : Sto} {b c : Addr} (h : Fr S S1 b c) (k : Fr S1 S2 b c) : Fr S S2 b c := fun a x y => (k a x y).trans (h a x y)
theorem BoxAt.b {S : Sto} {b c : Addr} (h : BoxAt S b c) : S b ≠ none := by
  obtain ⟨_, x, y, cs, e, _⟩ := h
  rw [e]
  simp
theorem BoxAt.c {S : Sto} {b c : Addr} (h : BoxAt S b c) : S c ≠ none := by
  obtain ⟨_, x, y, cs, _, e⟩ := h
  rw [e]
  simp
def C_box : Ct := fun xs S Q => ∃ ns : List Int, xs = [.rol (ns.map F.int)] ∧ ns.length ≤ 63 ∧ ∀ b c S', BoxAt S' b c → S b = none → S c = none → Fr S S' b c → Q (.loc b) S'
theorem mono_C_box : MonoC C_box := fun xs S Q Q' k ⟨ns, e, h, q⟩ => ⟨ns, e, h, fun b c S' h1 h2 h3 h4 => k _ _ (q b c S' h1 h2 h3 h4)⟩
theorem cut_map {α β : Type} (f : α → β) (xs : List α) (lo hi : Option Int) : cut (xs.map f) lo hi = (cut xs lo hi).map f := by
  unfold cut
  rw [List.length_map, List.map_take, List.map_drop]
theorem cut_length {α : Type} (xs : List α) (lo hi : Option Int) : (cut xs lo hi).length ≤ xs.length := by
  unfold cut
  rw [List.length_take, List.length_drop]
  omega
theorem sp_box (fs : List F) (S : Sto) (Q) (h : C_box fs S Q) : fs.length = 1 ∧ W_box { nx := fun _ S' => Q .non S', rt := fun d S' => Q d S' } (startF 1 fs) S := by
  obtain ⟨ns, rfl, hl, q⟩ := h
  refine ⟨rfl, ?_⟩
  show W_box _ [some (.rol (ns.map F.int))] S
  simp [W_box]
  refine fun c hc b hb => ?_
  have hbc : b ≠ c := fun e => by
    subst e
    rw [updS_same] at hb
    cases hb
  rw [updS_ne hbc] at hb
  refine q b c _ ⟨hbc, 0, _, cut ns none (some 63), updS_same, ?_⟩ hb hc fun a h1 h2 => ?_
  · rw [updS_ne hbc.symm, updS_same, cut_map]
  · rw [updS_ne h1, updS_ne h2]
def C_load : Ct := fun xs S Q => ∃ b c, xs = [.loc b] ∧ BoxAt S b c ∧ ∀ (d : Int) S', BoxAt S' b c → Fr S S' b c → Q (.int d) S'
theorem mono_C_load : MonoC C_load := fun xs S Q Q' k ⟨b, c, e, h, q⟩ => ⟨b, c, e, h, fun d S' h1 h2 => k _ _ (q d S' h1 h2)⟩
theorem sp_load (fs : List F) (S : Sto) (Q) (h : C_load fs S Q) : fs.length = 1 ∧ W_load { nx := fun _ S' => Q .non S', rt := fun d S' => Q d S' } (startF 6 fs) S := by
  obtain ⟨b, c, rfl, ⟨hbc, x, y, cells, hb, hc⟩, q⟩ := h
  refine ⟨rfl, ?_⟩
  show W_load _ [some (.loc b), none, none, none, none, none] S
  have hcb : c ≠ b := fun e => hbc e.symm
  have fin : ∀ (S1 : Sto) (x1 y1 : Int) (cs : List Int) (d : Int), S1 b = some [.loc c, .int x1, .int y1] → S1 c = some (cs.map F.int) → (∀ a, a ≠ b → a ≠ c → S1 a = S a) → Q (.int d) S1 :=
    fun S1 x1 y1 cs d h1 h2 h3 => q d S1 ⟨hbc, x1, y1, cs, h1, h2⟩ h3
  cases cells with
  | nil =>
    simp [W_load, hb, hc, mulOk, CMul]
    exact fin _ _ _ [] _ updS_same (by rw [updS_ne hcb]; exact hc) fun a h1 h2 => by rw [updS_ne h1]
  | cons z cs =>
    simp [W_load, hb, hc, mulOk, CMul, updS_ne hbc, updS_ne hcb]
    have f1 : ∀ v w : Int, ∀ d, Q (.int d) (updS (updS (updS S c (cs.map F.int)) b [.loc c, .int x, .int v]) b [.loc c, .int x, .int w]) := fun v w d =>
      fin _ _ _ cs _ updS_same (by rw [updS_ne hcb, updS_ne hcb, updS_same]) fun a h1 h2 => by rw [updS_ne h1, updS_ne h1, updS_ne h2]
    have f2 : ∀ d, Q (.int d) (updS S c (cs.map F.int)) := fun d => fin _ x y cs _ (by rw [updS_ne hbc]; exact hb) updS_same fun a h1 h2 => by rw [updS_ne h2]
    split
    · split
      · exact f2 _
      · exact f1 _ _ _
    · split
      · exact f2 _
      · exact f1 _ _ _
def C_draw : Ct := fun xs S Q => ∃ b c many, xs = [.loc b, .int many] ∧ BoxAt S b c ∧ 0 < many ∧ many < 2 ^ 30 ∧ ∀ (d : Nat) S', (d : Int) < many → BoxAt S' b c → Fr S S' b c → Q (.int (d : Int)) S'
theorem mono_C_draw : MonoC C_draw := fun xs S Q Q' k ⟨b, c, m, e, h, m1, m2, q⟩ => ⟨b, c, m, e, h, m1, m2, fun d S' h2 h3 h4 => k _ _ (q d S' h2 h3 h4)⟩
theorem call_draw {S : Sto} {Q : F → Sto → Prop} {b c : Addr} {many : Int} (h : BoxAt S b c) (h1 : 0 < many) (h2 : many < 2 ^ 30) (q : ∀ (d : Nat) S', (d : Int) < many → BoxAt S' b c → Fr S S' b c → Q (.int (d : Int)) S') : C_draw [.loc b, .int many] S Q := ⟨b, c, many, rfl, h, h1, h2, q⟩
theorem sp_draw (fs : List F) (S : Sto) (Q) (h : C_draw fs S Q) : fs.length = 2 ∧ W_draw C_load { nx := fun _ S' => Q .non S', rt := fun d S' => Q d S' } (startF 3 fs) S := by
  obtain ⟨b, c, many, rfl, hbox, m1, m2, q⟩ := h
  refine ⟨rfl, ?_⟩
  show W_draw _ _ [some (.loc b), some (.int many), none] S
  have rest : ∀ S1, BoxAt S1 b c → Fr S S1 b c → (sSeq (sAsg (wOp oMod (wCall cInt (wCons (wOp oIx (wVar 0) (wC (.int 1))) wNil)) (wVar 1)) (gN 2))
    (sSeq (sAsg (wOp oDiv (wOp oIx (wVar 0) (wC (.int 1))) (wVar 1)) (gSubL (wVar 0) (wC (.int 1))))
    (sRet (wVar 2)))) { nx := fun _ S' => Q .non S', rt := fun d S' => Q d S' } [some (.loc b), some (.int many), none] S1 := by
    rintro S1 ⟨hbc, x, y, cells, hb, hc⟩ fr
    simp [hb]
    refine ⟨m1, divOk m1 m2, ?_⟩
    have e0 := Int.emod_nonneg x (show many ≠ 0 by omega)
    have e1 := Int.emod_lt_of_pos x m1
    have e2 : x % many = ((x % many).toNat : Int) := by omega
    rw [e2]
    refine q _ _ (by omega) ⟨hbc, _, y, cells, updS_same, ?_⟩ (fr.trans fun a h1 h2 => updS_ne h1)
    rw [updS_ne hbc.symm]
    exact hc
  have hbox' := hbox
  obtain ⟨hbc, x, y, cells, hb, hc⟩ := hbox'
  unfold W_draw
  rw [sSeq_ev]
  simp only [sIf_ev, wTst_ev, wOp_ev, wVar_0, wC_ev, oIx_loc, hb, atI_1, List.getElem?_cons_succ, List.getElem?_cons_zero, wVar_s, oLt_ii, asB_ev, decide_eq_true_eq]
  split
  · simp only [sAsg_ev, wCall_ev, wCons_ev, wVar_0, wNil_ev]
    refine ⟨b, c, rfl, hbox, fun d S1 h1 fr => ?_⟩
    have h1' := h1
    obtain ⟨_, x1, y1, cells1, hb1, hc1⟩ := h1'
    simp only [gSubL_ev, wVar_0, wC_ev, oSetL_ev, hb1, ixN_1]
    simp
    have := rest _ ⟨hbc, d, y1, cells1, updS_same, by rw [updS_ne hbc.symm]; exact hc1⟩ (fr.trans fun a h1 h2 => updS_ne h1)
    simpa using this
  · exact rest S hbox Fr.refl
mutual
def dep : F → Nat
  | .tup l => depL l + 1
  | .lst l => depL l + 1
  | .rol l => depL l + 1
  | _ => 0
def depL : List F → Nat
  | [] => 0
  | x :: r => max (dep x) (depL r)
end
theorem dep_mem : ∀ {l : List F} {x : F}, x ∈ l → dep x ≤ depL l
  | y :: r, x, h => by
    unfold depL
    rcases List.mem_cons.mp h with e | h
    · rw [e]
      omega
    · have := dep_mem h
      omega
theorem fz_mem {l : List F} {x : F} (h : fzL l = true) (hx : x ∈ l) : fz x = true := by
  rw [fzL_all] at h
  exact List.all_eq_true.mp h x hx
/-- two equal values, of this depth at most -/
def C_same (n : Nat) : Ct := fun xs S Q => ∃ a, xs = [a, a] ∧ fz a = true ∧ dep a ≤ n ∧ Q (.bl true) S
theorem mono_C_same {n : Nat} : MonoC (C_same n) := fun xs S Q Q' k ⟨a, e, h1, h2, q⟩ => ⟨a, e, h1, h2, k _ _ q⟩
theorem call_same {n : Nat} {S : Sto} {Q : F → Sto → Prop} {a b : F} (e : a = b) (h1 : fz a = true) (h2 : dep a ≤ n) (q : Q (.bl true) S) : C_same n [a, b] S Q := by
  subst e
  exact ⟨a, rfl, h1, h2, q⟩
theorem mem_rng {lo : Int} {n : Nat} {x : F} (h : x ∈ rngL lo n) : ∃ k : Nat, k < n ∧ x = .int (lo + k) := by
  unfold rngL at h
  obtain ⟨k, hk, e⟩ := List.mem_map.mp h
  exact ⟨k, List.mem_range.mp hk, e.symm⟩
@[simp] theorem rngL_length {lo : Int} {n : Nat} : (rngL lo n).length = n := by simp [rngL]
theorem fz_tup {l : List F} (h : fz (.tup l) = true) : l.length ≤ 1000000 ∧ fzL l = true := by
  unfold fz at h
  rw [Bool.and_eq_true, decide_eq_true_eq] at h
  exact h
theorem fz_lst {l : List F} (h : fz (.lst l) = true) : l.length ≤ 1000000 ∧ fzL l = true := by
  unfold fz at h
  rw [Bool.and_eq_true, decide_eq_true_eq] at h
  exact h
theorem fz_rol {l : List F} (h : fz (.rol l) = true) : l.length ≤ 1000000 ∧ fzL l = true := by
  unfold fz at h
  rw [Bool.and_eq_true, decide_eq_true_eq] at h
  exact h
theorem mil {n : Nat} (h : n ≤ 1000000) : n ≤ sizeLine := by
  rw [sizeLine_eq]
  omega
theorem all_true {α : Type} (l : List α) : (l.map fun _ => F.bl true) = (l.map fun _ => true).map F.bl := by
  rw [List.map_map]
  rfl
theorem okF_str {x : Str} (h : PyData.strOk x = true) : okF (.str x) = true := by simp [okF, SeqAt.shaped, py, PyData.canLay0, PyData.depth, h]
theorem same_in {S : Sto} {Q : F → Sto → Prop} {n : Nat} {gd : Sto → Prop} (hgd : gd S) {l : List F} {a : F} (hl : fzL l = true) (hd : depL l ≤ n) (ix : ∀ (i : Int) (S : Sto) (Q : F → Sto → Prop), oIx a (.int i) S Q = (match atI l i with | some z => Q z S | none => False)) (q : Q (.bl true) S) :
    compL gd (gN 2) wYes (wCall (C_same n) (wCons (wOp oIx (wVar 0) (wVar 2)) (wCons (wOp oIx (wVar 1) (wVar 2)) wNil))) [some a, some a, none] (rngL 0 l.length) [] S (fun xs S1 => cAll [.lst xs] S1 Q) := by
  refine compL_map (fun _ => .bl true) hgd _ _ (fun x hx Q2 q2 => ?_) ?_
  · obtain ⟨k, hk, rfl⟩ := mem_rng hx
    have e : l[k]? = some l[k] := List.getElem?_eq_getElem hk
    have hm : l[k] ∈ l := List.getElem_mem hk
    simp [ix, atI_cast, e]
    exact call_same rfl (fz_mem hl hm) (Nat.le_trans (dep_mem hm) hd) q2
  · rw [List.nil_append, all_true, cAll_l]
    have : ((rngL 0 l.length).map fun _ => true).all id = true := by simp
    rw [this]
    exact q
theorem sp_same (n : Nat) (fs : List F) (S : Sto) (Q) (h : C_same (n + 1) fs S Q) : fs.length = 2 ∧ W_same (C_same n) { nx := fun _ S' => Q .non S', rt := fun d S' => Q d S' } (startF 3 fs) S := by
  obtain ⟨a, rfl, hz, hd, q⟩ := h
  refine ⟨rfl, ?_⟩
  show W_same _ _ [some a, some a, none] S
  cases a with
  | tup l =>
    obtain ⟨hl, hz⟩ := fz_tup hz
    simp [W_same]
    refine ⟨by omega, mil hl, ?_⟩
    exact same_in trivial hz (by unfold dep at hd; omega) (fun _ _ _ => rfl) q
  | lst l =>
    obtain ⟨hl, hz⟩ := fz_lst hz
    simp [W_same]
    refine ⟨by omega, mil hl, ?_⟩
    exact same_in trivial hz (by unfold dep at hd; omega) (fun _ _ _ => rfl) q
  | rol l =>
    obtain ⟨hl, hz⟩ := fz_rol hz
    simp [W_same]
    refine ⟨by omega, mil hl, ?_⟩
    exact same_in trivial hz (by unfold dep at hd; omega) (fun _ _ _ => rfl) q
  | loc a => simp [fz] at hz
  | str x =>
    unfold fz at hz
    simpa [W_same, okF_str hz] using q
  | _ => simpa [W_same] using q
def C_never : Ct := fun _ _ _ => False
theorem sp_same0 (fs : List F) (S : Sto) (Q) (h : C_same 0 fs S Q) : fs.length = 2 ∧ W_same C_never { nx := fun _ S' => Q .non S', rt := fun d S' => Q d S' } (startF 3 fs) S := by
  obtain ⟨a, rfl, hz, hd, q⟩ := h
  refine ⟨rfl, ?_⟩
  show W_same _ _ [some a, some a, none] S
  cases a with
  | tup l => simp [dep] at hd
  | lst l => simp [dep] at hd
  | rol l => simp [dep] at hd
  | loc a => simp [fz] at hz
  | str x =>
    unfold fz at hz
    simpa [W_same, okF_str hz] using q
  | _ => simpa [W_same] using q
section
variable {P : Program} {w : World} {K : PySem.W.Frag} {mg : Str → Option Value} {base : Heap}
theorem cal_never {x qual : Str} {params : Arguments} {body : List Stmt} {scope : Scope} {f : Addr} {fd : FuncData} {ps : List Str} (F : FunD K x qual params body scope [] [] f fd) (g : mg x = some (.ref f)) (b : L2.Binds K fd ps []) : Cal P w K mg base 0 x ps C_never :=
  ⟨f, fd, F.kp, g, b, fun _ _ _ _ _ h => h.elim, ⟨fun vs H Q E ⟨_, _, _, _, _, h⟩ => h.elim, fun A outer s H args us vs Q E _ _ _ _ ⟨_, _, _, _, _, h⟩ => h.elim⟩⟩
theorem same_cal {params : Arguments} {body : List Stmt} {scope : Scope} {f : Addr} {fd : FuncData}
    (ok : ∀ (lv : Nat) {Crec C : Ct}, Cal P w K mg base lv "_law_same" ["a", "b"] Crec → MonoC C → (∀ fs S Q, C fs S Q → fs.length = 2 ∧ W_same Crec { nx := fun _ S' => Q .non S', rt := fun d S' => Q d S' } (startF 3 fs) S) → FnD P w K mg base (lv + 1) f fd ["a", "b"] C)
    (F : FunD K "_law_same" "_law_same" params body scope [] [] f fd) (g : mg "_law_same" = some (.ref f)) (b : L2.Binds K fd ["a", "b"] []) : ∀ n, Cal P w K mg base (n + 1) "_law_same" ["a", "b"] (C_same n)
  | 0 => cal_of F g b (ok 0 (cal_never F g b) mono_C_same sp_same0)
  | n + 1 => cal_of F g b (ok (n + 1) (same_cal ok F g b n) mono_C_same (sp_same n))
end
end DL

set_option maxHeartbeats 4000000
namespace HT
open PySem PySem.Spec PyProof.Rows L2
section
variable {prog : Program} {w : World} {A : Around} {E : Value → Shared → Prop} {s : Shared}
theorem sliceApplied_rev {sl : Addr} {vl vu vs : Value} {n : Nat} {Q : Int × Int × Nat → Shared → Prop} (hs : s.heap.IsSliceOf sl vl vu vs) (pl : IsPart vl none) (pu : IsPart vu none) (ps : IsPart vs (some (-1)))
    (h : Q ((n : Int) - 1, -1, n) s) : wpAny (model prog w) A (Builtin.Slice.sliceApplied (.ref sl) (pure (n : Int))) Q E s := by
  obtain ⟨os, hos, hcs, hds⟩ := id hs
  unfold Builtin.Slice.sliceApplied Builtin.Slice.sliceFields
  refine wpAny_bind (wpAny_bind (wpAny_field hos hds (x := vl) rfl (wpAny_bind (wpAny_field hos hds (x := vu) rfl (wpAny_bind (wpAny_field hos hds (x := vs) rfl (wpAny_pure ?_)))))))
  refine wpAny_bind (slicePart_ ps ?_)
  show wpAny _ _ (if ((-1 : Int) == 0) = true then _ else _) _ _ s
  rw [if_neg (by decide)]
  refine wpAny_bind (slicePart_ pl (wpAny_bind (slicePart_ pu (wpAny_bind (wpAny_pure ?_)))))
  have e : Builtin.Slice.slicePlaces ((n : Int) - 1) (-1) (-1) = n := by
    unfold Builtin.Slice.slicePlaces
    rw [if_neg (by decide)]
    by_cases h0 : n = 0
    · subst h0
      rfl
    · rw [if_pos (by omega)]
      simp
  show wpAny _ _ (pure ((n : Int) - 1, (-1 : Int), Builtin.Slice.slicePlaces ((n : Int) - 1) (-1) (-1))) _ _ s
  rw [e]
  exact wpAny_pure h
theorem pick_rev (xs : Array Value) : ((List.range xs.size).filterMap fun (m : Nat) => xs[(((xs.size : Nat) : Int) - 1 + (m : Int) * (-1)).toNat]?).toArray = xs.toList.reverse.toArray := by
  have e : (fun (m : Nat) => xs[(((xs.size : Nat) : Int) - 1 + (m : Int) * (-1)).toNat]?) = (fun (k : Nat) => xs[k]?) ∘ fun (m : Nat) => (((xs.size : Nat) : Int) - 1 + (m : Int) * (-1)).toNat := rfl
  rw [e, ← List.filterMap_map]
  have e2 : (List.range xs.size).map (fun m : Nat => (((xs.size : Nat) : Int) - 1 + (m : Int) * (-1)).toNat) = (List.range xs.size).reverse := by
    rw [← PySem.W.krv_range]
    refine List.map_congr_left fun m hm => ?_
    have := List.mem_range.mp hm
    omega
  rw [e2, List.filterMap_reverse, PySem.W.krv_all]
theorem getItem_tuple_rev {t sl : Addr} {items : Array Value} {vl vu vs : Value} {Q : Value → Shared → Prop} (ht : IsTup s.heap t items) (hs : s.heap.IsSliceOf sl vl vu vs) (pl : IsPart vl none) (pu : IsPart vu none) (ps : IsPart vs (some (-1)))
    (h : Q (.ref s.heap.objs.size) { s with heap := s.heap.push { cls := .type "tuple", data := .seq items.toList.reverse.toArray } })
    (hsz : items.size ≤ sizeLine) : wpAny (model prog w) A (getItem (.ref t) (.ref sl)) Q E s := by
  have htake : sizeOk (.seq items.toList.reverse.toArray) := by
    show items.toList.reverse.toArray.size ≤ sizeLine
    rw [List.size_toArray, List.length_reverse, Array.length_toList]
    omega
  obtain ⟨os, hos, hcs, hds⟩ := id hs
  have hTs : s.TypeIs (.ref sl) "slice" := ⟨os, hos, hcs⟩
  unfold getItem
  try with_reducible refine wpAny_holding ?_
  first | refine wpAny_bind (wpAny_pure ?_) | skip
  refine wpAny_bind (wpAny_sequenceKey ht.typeIs (by decide) ?_)
  refine wpAny_bind (wpAny_callSpecial?_slot (name := Str.ofString "__getitem__") ht.typeIs PyProof.Rows.slot_tuple_getitem
    (wpAny_call_entry PyProof.Rows.slot_tuple_getitem ht.typeIs entry_tuple_getitem ?_ (args_tuple_getitem _ _)))
  show wpAny _ _ (Builtin.Tuple.tupleItemsOf (.ref t) >>= _) _ _ s
  refine wpAny_bind (tupleItemsOf_ ht ?_)
  refine wpAny_bind (wpAny_typeOf hTs ?_)
  rw [if_pos (by decide)]
  refine wpAny_bind (sliceApplied_rev hs pl pu ps ?_)
  show wpAny _ _ (if ((((items.size : Nat) : Int) - 1) == 0 && (-1 : Int) == 1 && items.size == items.size) = true then _ else _) _ _ s
  rw [if_neg (by simp), pick_rev]
  first
    | exact wpAny_bind (m := Builtin.Tuple.tupleExact _) (wpAny_newObj_type (wpAny_pure ⟨_, rfl, wpAny_pure h⟩) htake)
    | exact wpAny_bind (m := Builtin.Tuple.tupleExact _) (wpAny_newObj_type (wpAny_bind (wpAny_pure (wpAny_pure ⟨_, rfl, wpAny_pure h⟩))) htake)
    | exact wpAny_bind (wpAny_bind (m := Builtin.Tuple.tupleExact _) (wpAny_newObj_type (wpAny_pure (wpAny_pure ⟨_, rfl, wpAny_pure h⟩)) htake))
    | exact wpAny_bind (wpAny_bind (m := Builtin.Tuple.tupleExact _) (wpAny_newObj_type (wpAny_pure ⟨_, rfl, wpAny_pure h⟩) htake))
end
section
variable {X : Cx}
def tRevT (K : PySem.W.Frag) (te : TE) : TE := fun σ H Q => te σ H fun x H1 => ∃ a xs, x = .ref a ∧ SqT K H1 a xs ∧ ∀ p, H1 p = none → Q (.ref p) (upd H1 p (.tup xs.reverse))
theorem pe_revT {e : Expr} {te : TE} {k : Nat} {p1 p2 p3 pos : Pos} (he : PE X e te) : PE X (.Subscript e (.Slice none none (some (.UnaryOp .USub (.Constant (.int 1) k p1) p2)) p3) pos) (tRevT X.K te) := by
  refine ⟨fun pins s σ H Q I h => ?_⟩
  refine Subscript_ (thn (he.run pins s σ H _ I h) fun v s1 ⟨x, H1, I1, r1, q1⟩ => ?_)
  obtain ⟨a, xs, ex, hx, q⟩ := q1
  subst ex
  cases r1
  have hst : PO X (some (.UnaryOp .USub (.Constant (.int 1) k p1) p2)) (tPart (tUn (rU fun i => .int (-i)) (tC (.int 1)))) := po_some (pe_un un_neg pe_int)
  refine wpAny_Slice (thn (po_none.run pins s1 σ H1 (fun o H2 => o = none ∧ H2 = H1) I1 ⟨rfl, rfl⟩) fun vl s2 ⟨l, H2, I2, pl, el, e2⟩ => ?_)
  subst el e2
  refine thn (po_none.run pins s2 σ H2 (fun o H3 => o = none ∧ H3 = H2) I2 ⟨rfl, rfl⟩) fun vu s3 ⟨u, H3, I3, pu, eu, e3⟩ => ?_
  subst eu e3
  refine thn (hst.run pins s3 σ H3 (fun o H4 => o = some (-1) ∧ H4 = H3) I3 ⟨1, rfl, -1, rfl, rfl, rfl⟩) fun vs s4 ⟨o, H4, I4, ps, eo, e4⟩ => ?_
  subst eo e4
  have I5 : Inv X pins σ H4 { s4 with heap := s4.heap.push { cls := .type "slice", data := .fields #[vl, vu, vs] } } := I4.kept (t' := s4.toks) fun b ob q => Heap.get?_push_of_some _ q
  obtain ⟨its, r, ht, hz⟩ := I5.tuple hx
  have hlen := r.length
  show wpAny (model X.prog X.w) X.A (subscriptTail e (.Slice none none (some (.UnaryOp .USub (.Constant (.int 1) k p1) p2)) p3) (.ref a) (.ref s4.heap.objs.size)) (EP X pins σ Q) X.xe { s4 with heap := s4.heap.push { cls := .type "slice", data := .fields #[vl, vu, vs] } }
  refine tail_any (ops := [.ref a, .ref s4.heap.objs.size]) ht.typeIs PyProof.Rows.slot_tuple_getitem.lookup ?_ (by with_unfolding_all rfl)
  refine getItem_tuple_rev ht (Heap.IsSliceOf.new _ vl vu vs) pl pu ps ?_ (by rw [List.size_toArray]; omega)
  refine ⟨.ref _, _, I5.laid (t' := s4.toks) (o := .tup xs.reverse) (fun b ob q => Heap.get?_push_of_some _ q) (Nat.le_refl _) ?_, rfl, q _ (I5.hok.fresh (Nat.le_refl _))⟩
  exact ⟨by rw [List.length_reverse]; exact hz, _, r.reverse, IsTup.new _ _⟩
end
end HT
namespace DL
open PySem PySem.Spec PyProof.Rows L2
section
variable {X : Cx} {e : Expr} {m : W F} {pos : Pos}
/-- an expression that is never reached -/
def wBad : W F := fun _ _ _ => False
theorem pd_never : PD X e wBad := ⟨fun _ _ _ _ _ h => h.elim, ⟨fun pins s σ H Q I ⟨_, _, _, _, _, h⟩ => h.elim⟩⟩
def asT (Q : List F → Sto → Prop) : F → Sto → Prop := fun x S => match x with | .tup c => Q c S | _ => False
theorem mono_asT {Q Q' : List F → Sto → Prop} (k : ∀ d S', Q d S' → Q' d S') : ∀ d S', asT Q d S' → asT Q' d S' := fun d S' h => by
  cases d with
  | tup c => exact k _ _ h
  | _ => exact h.elim
theorem asT_of {Q : List F → Sto → Prop} {d : F} {S : Sto} (h : asT Q d S) : ∃ c, d = .tup c ∧ Q c S := by
  cases d with
  | tup c => exact ⟨c, rfl, h⟩
  | _ => exact h.elim
/-- t[::-1] -/
def wRev (m : W F) : W F := fun ρ S Q => m ρ S (asT fun xs S1 => Q (.tup xs.reverse) S1)
theorem pd_rev {k : Nat} {p1 p2 p3 : Pos} (h : PD X e m) : PD X (.Subscript e (.Slice none none (some (.UnaryOp .USub (.Constant (.int 1) k p1) p2)) p3) pos) (wRev m) :=
  ⟨fun _ _ _ _ k q => h.mono _ _ _ _ (mono_asT fun _ _ q => k _ _ q) q, weakE (HT.pe_revT h.run) fun σ H Q ⟨ρ, S, Z, r, R, q⟩ => by
    refine tD_in h.mono r R q fun x S1 v1 Z1 H1 p e1 R1 d1 => ?_
    obtain ⟨fs, rfl, q⟩ := asT_of p
    obtain ⟨a, vs, rfl, h1, h2⟩ := tup_of R1 d1
    refine ⟨a, vs, rfl, h1, fun t nt => ?_⟩
    obtain ⟨R2, e2⟩ := R1.newZ nt (.tup vs.reverse)
    exact q _ _ _ (e1.trans e2) R2 (den_newTup (R1.nz nt) h2.reverse)⟩
@[simp, simp ↓] theorem wRev_ev {ρ : Slots} {S : Sto} {Q : F → Sto → Prop} : wRev m ρ S Q = m ρ S (asT fun xs S1 => Q (.tup xs.reverse) S1) := (rfl)
@[simp, simp ↓] theorem asT_ev {S : Sto} {Q : List F → Sto → Prop} {c : List F} : asT Q (.tup c) S = Q c S := (rfl)
def cMax2 : DCall := fun xs S Q => match xs with | [.int i, .int j] => Q (.int (if j > i then j else i)) S | _ => False
def cMin2 : DCall := fun xs S Q => match xs with | [.int i, .int j] => Q (.int (if j < i then j else i)) S | _ => False
theorem c_max2 (hc : X.calm = true) : CallD X (.builtin "max") cMax2 := by
  refine ⟨fun xs S Q Q' k h => ?_, callWeak (call_max2 hc) fun vs H Q ⟨ds, S, Z, dv, R, h⟩ => ?_⟩
  · unfold cMax2 at h ⊢
    split at h
    · exact k _ _ h
    · exact h.elim
  · unfold cMax2 at h
    split at h
    · obtain ⟨v, w, rfl, d, d2⟩ := dens2 dv
      exact ⟨_, _, by rw [den_int d, den_int d2], fin_same R (.int _) h⟩
    · exact h.elim
theorem c_min2 (hc : X.calm = true) : CallD X (.builtin "min") cMin2 := by
  refine ⟨fun xs S Q Q' k h => ?_, callWeak (call_min2 hc) fun vs H Q ⟨ds, S, Z, dv, R, h⟩ => ?_⟩
  · unfold cMin2 at h ⊢
    split at h
    · exact k _ _ h
    · exact h.elim
  · unfold cMin2 at h
    split at h
    · obtain ⟨v, w, rfl, d, d2⟩ := dens2 dv
      exact ⟨_, _, by rw [den_int d, den_int d2], fin_same R (.int _) h⟩
    · exact h.elim
@[simp, simp ↓] theorem cMax2_ev {S : Sto} {Q : F → Sto → Prop} {i j : Int} : cMax2 [.int i, .int j] S Q = Q (.int (if j > i then j else i)) S := (rfl)
@[simp, simp ↓] theorem cMin2_ev {S : Sto} {Q : F → Sto → Prop} {i j : Int} : cMin2 [.int i, .int j] S Q = Q (.int (if j < i then j else i)) S := (rfl)
/-- str(n) -/
def cStr : DCall := fun xs S Q => match xs with | [.int i] => i.natAbs.log2 < 1920 ∧ Q (.str (toString i)) S | _ => False
theorem c_str : CallD X (.type "str") cStr := by
  refine ⟨fun xs S Q Q' k h => ?_, callWeak call_str_int fun vs H Q ⟨ds, S, Z, dv, R, h⟩ => ?_⟩
  · unfold cStr at h ⊢
    split at h
    · exact ⟨h.1, k _ _ h.2⟩
    · exact h.elim
  · unfold cStr at h
    split at h
    · obtain ⟨v, rfl, d⟩ := dens1 dv
      exact ⟨_, by rw [den_int d], h.1, fin_same R (.str _) h.2⟩
    · exact h.elim
@[simp, simp ↓] theorem cStr_ev {S : Sto} {Q : F → Sto → Prop} {i : Int} : cStr [.int i] S Q = (i.natAbs.log2 < 1920 ∧ Q (.str (toString i)) S) := (rfl)
theorem strOk_of (s : String) : PyData.strOk (Str.ofString s) = true := by
  unfold PyData.strOk
  rw [Str.ofString_eq_toList]
  have key : ∀ ch : Char, ch.toNat < 1114112 := fun ch => by
    rcases ch.valid with h | ⟨_, h⟩
    · have h : ch.val.toNat < 0xd800 := h
      show ch.val.toNat < 0x110000
      omega
    · exact h
  simp
  intro c _
  exact key c
end
/-! ### upper -/
def wUpper (m : W F) : W F := fun ρ S Q => m ρ S fun x S1 => match x with | .str z => z.length ≤ 5592405 ∧ Q (.str (Txt.upper z)) S1 | _ => False
theorem pd_upper {X : Cx} {o : Expr} {m : W F} {apos pos : Pos} (ho : PD X o m) (hbase : attributeBase o "upper" X.env (eval o X.env) = eval o X.env := by rfl) (hline : (apos.endLine == pos.line) = true := by rfl) :
    PD X (.Call (.Attribute o "upper" apos) [] [] pos) (wUpper m) :=
  ⟨fun _ _ _ _ k q => ho.mono _ _ _ _ (fun x S1 q => by
    split at q
    · exact ⟨q.1, k _ _ q.2⟩
    · exact q.elim) q, weakE (pe_upper ho.run hbase hline) fun σ H Q ⟨ρ, S, Z, r, R, q⟩ => by
    refine tD_in ho.mono r R q fun x S1 v Z1 H1 p e1 R1 d1 => ?_
    split at p
    · cases d1
      exact ⟨⟨_, rfl⟩, _, rfl, rfl, p.1, p.2 _ _ _ e1 R1 (.str _)⟩
    · exact p.elim⟩
section
variable {ρ : Slots} {S : Sto} {Q : F → Sto → Prop} {m : W F}
@[simp, simp ↓] theorem wUpper_ev : wUpper m ρ S Q = m ρ S fun x S1 => match x with | .str z => z.length ≤ 5592405 ∧ Q (.str (Txt.upper z)) S1 | _ => False := (rfl)
end
end DL

set_option maxHeartbeats 4000000
namespace DL
open PySem PySem.Spec PyProof.Rows L2
/-! facts of plain data -/
theorem all_bl {α : Type} (l : List α) (p : α → Bool) : (l.map fun x => F.bl (p x)) = (l.map p).map F.bl := by
  rw [List.map_map]
  rfl
theorem rep_flat {α : Type} (x : α) : ∀ n : Nat, (List.replicate n [x]).flatten = List.replicate n x
  | 0 => rfl
  | n + 1 => by rw [List.replicate_succ, List.flatten_cons, rep_flat x n, List.replicate_succ]; rfl
theorem sIx_lo {n k : Nat} (h : k ≤ n) : HT.sIx n 0 (some (k : Int)) = k := by rw [HT.sIx_nat]; omega
theorem sIx_hi {n k : Nat} (h : k ≤ n) : HT.sIx n n (some (k : Int)) = k := by rw [HT.sIx_nat]; omega
theorem cut_to {α : Type} (xs : List α) {k : Nat} (h : k ≤ xs.length) : cut xs none (some (k : Int)) = xs.take k := by
  unfold cut
  rw [sIx_hi h, HT.sIx_none]
  simp
theorem cut_from {α : Type} (xs : List α) {k : Nat} (h : k ≤ xs.length) : cut xs (some (k : Int)) none = xs.drop k := by
  unfold cut
  rw [sIx_lo h, HT.sIx_none]
  exact List.take_of_length_le (by rw [List.length_drop]; omega)
theorem cut_from1 {α : Type} (xs : List α) {k : Nat} (h : k + 1 ≤ xs.length) : cut xs (some ((k : Int) + 1)) none = xs.drop (k + 1) := cut_from xs h
theorem cut_tail {α : Type} (xs : List α) : cut xs (some 1) none = xs.tail := by
  cases xs with
  | nil => rfl
  | cons x r => exact cut_from1 (x :: r) (k := 0) (by simp)
theorem set_cut {α : Type} (xs : List α) {k : Nat} (h : k < xs.length) (v : α) : xs.take k ++ [v] ++ xs.drop (k + 1) = xs.set k v := by
  rw [List.set_eq_take_append_cons_drop, if_pos h]
  simp
theorem set_cutF {α : Type} (xs : List α) {k : Nat} (h : k < xs.length) (v : α) : cut xs none (some (k : Int)) ++ v :: cut xs (some ((k : Int) + 1)) none = xs.set k v := by
  rw [cut_to _ (by omega), cut_from1 _ (by omega), ← set_cut xs h v]
  simp
theorem cut_last {α : Type} (xs : List α) : cut xs none (some (-1)) = xs.dropLast := by
  unfold cut
  rw [HT.sIx_none, List.dropLast_eq_take]
  have : HT.sIx xs.length xs.length (some (-1)) = xs.length - 1 := by
    unfold HT.sIx
    simp
    omega
  rw [this]
  simp
theorem cut_mem {α : Type} {xs : List α} {lo hi : Option Int} {x : α} (h : x ∈ cut xs lo hi) : x ∈ xs := List.mem_of_mem_drop (List.mem_of_mem_take h)
theorem fzL_append {l r : List F} : fzL (l ++ r) = (fzL l && fzL r) := by
  rw [fzL_all, fzL_all, fzL_all, List.all_append]
theorem fzL_of {l : List F} (h : ∀ x ∈ l, fz x = true) : fzL l = true := by
  rw [fzL_all, List.all_eq_true]
  exact h
theorem fz_tup_of {l : List F} (h : l.length ≤ 1000000) (k : ∀ x ∈ l, fz x = true) : fz (.tup l) = true := by
  unfold fz
  rw [fzL_of k, Bool.and_true]
  exact decide_eq_true h
theorem fz_lst_of {l : List F} (h : l.length ≤ 1000000) (k : ∀ x ∈ l, fz x = true) : fz (.lst l) = true := by
  unfold fz
  rw [fzL_of k, Bool.and_true]
  exact decide_eq_true h
theorem fz_ints (r : List Int) : fzL (r.map F.int) = true := by
  rw [fzL_all, List.all_map]
  exact List.all_eq_true.mpr fun _ _ => rfl
theorem fz_tupI {r : List Int} (h : r.length ≤ 1000000) : fz (.tup (r.map F.int)) = true := by
  unfold fz
  rw [fz_ints, List.length_map, Bool.and_true]
  exact decide_eq_true h
theorem fz_set {l : List F} {j : Nat} {z : F} (hl : fzL l = true) (hz : fz z = true) : fzL (l.set j z) = true := by
  rw [fzL_all] at hl ⊢
  rw [List.all_eq_true] at hl ⊢
  intro x hx
  rcases List.mem_or_eq_of_mem_set hx with h | h
  · exact hl x h
  · rw [h]
    exact hz
theorem depL_le {l : List F} {n : Nat} (h : ∀ x ∈ l, dep x ≤ n) : depL l ≤ n := by
  induction l with
  | nil => exact Nat.zero_le _
  | cons x r ih =>
    unfold depL
    exact Nat.max_le.mpr ⟨h x (List.mem_cons_self ..), ih fun y hy => h y (List.mem_cons_of_mem _ hy)⟩
theorem dep_tup {l : List F} {n : Nat} (h : ∀ x ∈ l, dep x ≤ n) : dep (.tup l) ≤ n + 1 := by
  unfold dep
  have := depL_le h
  omega
theorem dep_lst {l : List F} {n : Nat} (h : ∀ x ∈ l, dep x ≤ n) : dep (.lst l) ≤ n + 1 := by
  unfold dep
  have := depL_le h
  omega
theorem dep_tupI (r : List Int) : dep (.tup (r.map F.int)) ≤ 1 := dep_tup fun x hx => by
  obtain ⟨i, _, rfl⟩ := List.mem_map.mp hx
  exact Nat.zero_le _
theorem range_get {α β : Type} (t : List α) (d : α) (f : α → β) : (List.range t.length).map (fun i => f (t.getD i d)) = t.map f := by
  apply List.ext_getElem?
  intro i
  rw [List.getElem?_map, List.getElem?_map]
  by_cases h : i < t.length
  · rw [List.getElem?_range h, List.getElem?_eq_getElem h]
    simp [List.getD, List.getElem?_eq_getElem h]
  · rw [List.getElem?_eq_none (by simpa using h), List.getElem?_eq_none (by omega)]
    rfl
mutual
theorem can_of : ∀ (x : F), fz x = true → (py x).canLay0 = true
  | .non, _ => by simp [py, PyData.canLay0]
  | .bl _, _ => by simp [py, PyData.canLay0]
  | .int _, _ => by simp [py, PyData.canLay0]
  | .str x, h => by
    unfold fz at h
    simpa [py, PyData.canLay0] using h
  | .tup l, h => by
    unfold fz at h
    rw [Bool.and_eq_true] at h
    simp only [py, PyData.canLay0]
    exact canL_of l h.2
  | .lst l, h => by
    unfold fz at h
    rw [Bool.and_eq_true] at h
    simp only [py, PyData.canLay0]
    exact canL_of l h.2
  | .rol l, h => by
    unfold fz at h
    rw [Bool.and_eq_true] at h
    simp only [py, PyData.canLay0]
    exact canL_of l h.2
  | .loc _, h => by simp [fz] at h
theorem canL_of : ∀ (l : List F), fzL l = true → PyData.canLayAll0 (pyL l) = true
  | [], _ => by simp [pyL, PyData.canLayAll0]
  | x :: r, h => by
    unfold fzL at h
    rw [Bool.and_eq_true] at h
    simp only [pyL, PyData.canLayAll0]
    rw [can_of x h.1, canL_of r h.2]
    rfl
end
mutual
theorem depth_of : ∀ (x : F), fz x = true → (py x).depth ≤ dep x
  | .non, _ => by simp [py, PyData.depth, dep]
  | .bl _, _ => by simp [py, PyData.depth, dep]
  | .int _, _ => by simp [py, PyData.depth, dep]
  | .str _, _ => by simp [py, PyData.depth, dep]
  | .tup l, h => by
    simp only [py, PyData.depth, dep]
    have := depthL_of l (fz_tup h).2
    omega
  | .lst l, h => by
    simp only [py, PyData.depth, dep]
    have := depthL_of l (fz_lst h).2
    omega
  | .rol l, h => by
    simp only [py, PyData.depth, dep]
    have := depthL_of l (fz_rol h).2
    omega
  | .loc _, h => by simp [fz] at h
theorem depthL_of : ∀ (l : List F), fzL l = true → PyData.depthAll (pyL l) ≤ depL l
  | [], _ => by simp [pyL, PyData.depthAll, depL]
  | x :: r, h => by
    simp only [pyL, PyData.depthAll, depL]
    unfold fzL at h
    rw [Bool.and_eq_true] at h
    have := depth_of x h.1
    have := depthL_of r h.2
    omega
end
theorem okF_of {x : F} (h : fz x = true) (d : dep x ≤ 63) : okF x = true := by
  unfold okF SeqAt.shaped
  rw [can_of x h, Bool.true_and]
  exact decide_eq_true (Nat.le_trans (depth_of x h) (by omega))
theorem okF_tupI {r : List Int} (h : r.length ≤ 1000000) : okF (.tup (r.map F.int)) = true := okF_of (fz_tupI h) (Nat.le_trans (dep_tupI r) (by decide))
theorem eqF_nil {l : List F} : eqF (.tup l) (.tup []) = l.isEmpty := by
  cases l <;> simp [eqF, py, pyL, PyData.eqv, PyData.eqvAll]
@[simp] theorem isNon_rol {b} : isNon (.rol b) = false := rfl
@[simp] theorem isNon_loc {b} : isNon (.loc b) = false := rfl
theorem isNon_iff {x : F} : isNon x = true ↔ x = .non := by
  cases x <;> simp [isNon]
/-- a count, as the program means it -/
def isCount : F → Int → Int → Bool
  | .int i, l, m => decide (l ≤ i) && decide (i ≤ m)
  | _, _, _ => false
theorem isCount_int {x : F} {l m : Int} (h : isCount x l m = true) : ∃ i, x = .int i ∧ l ≤ i ∧ i ≤ m := by
  cases x with
  | int i =>
    simp [isCount] at h
    exact ⟨i, rfl, h.1, h.2⟩
  | _ => cases h
theorem counts_int {xs : List F} {l m : Int} (h : (xs.all fun x => isCount x l m) = true) : ∃ ns : List Int, xs = ns.map F.int ∧ ∀ i ∈ ns, l ≤ i ∧ i ≤ m := by
  induction xs with
  | nil => exact ⟨[], rfl, fun _ h => by cases h⟩
  | cons x r ih =>
    rw [List.all_cons, Bool.and_eq_true] at h
    obtain ⟨i, rfl, h1⟩ := isCount_int h.1
    obtain ⟨ns, rfl, h2⟩ := ih h.2
    refine ⟨i :: ns, rfl, fun j hj => ?_⟩
    rcases List.mem_cons.mp hj with e | e
    · rw [e]
      exact h1
    · exact h2 j e
def W_count : WS :=
  (sRet (wAnd (wIsi "int" (wVar 0)) (wAnd (wNot (wIsi "bool" (wVar 0))) (wChain oLe oLe (wVar 1) (wVar 0) (wVar 2)))))
def C_count : Ct := fun xs S Q => ∃ v l m, xs = [v, .int l, .int m] ∧ fz v = true ∧ Q (.bl (isCount v l m)) S
theorem mono_C_count : MonoC C_count := fun xs S Q Q' k ⟨v, l, m, e, h, q⟩ => ⟨v, l, m, e, h, k _ _ q⟩
theorem sp_count (fs : List F) (S : Sto) (Q) (h : C_count fs S Q) : fs.length = 3 ∧ W_count { nx := fun _ S' => Q .non S', rt := fun d S' => Q d S' } (startF 3 fs) S := by
  obtain ⟨v, l, m, rfl, hv, q⟩ := h
  refine ⟨rfl, ?_⟩
  show W_count _ [some v, some (.int l), some (.int m)] S
  cases v with
  | int i =>
    simp [W_count, isiOk_fz hv]
    by_cases h1 : l ≤ i
    · simpa [isCount, h1] using q
    · simpa [isCount, h1] using q
  | _ => simpa [W_count, isiOk_fz hv, isCount] using q
theorem call_count {S : Sto} {Q : F → Sto → Prop} {v : F} {l m : Int} (hv : fz v = true) (q : Q (.bl (isCount v l m)) S) : C_count [v, .int l, .int m] S Q := ⟨v, l, m, rfl, hv, q⟩
/-! more rows -/
theorem milI {i : Int} (h : i ≤ 1000000) : i ≤ (sizeLine : Int) := by
  rw [sizeLine_eq]
  omega
section
variable {ρ : Slots} {S : Sto} {Q : F → Sto → Prop} {D : EndsD}
@[simp, simp ↓] theorem ipAdd_ii {i j : Int} : ipAdd (.int i) (.int j) S Q = Q (.int (i + j)) S := (rfl)
@[simp, simp ↓] theorem ipSub_ii {i j : Int} : ipSub (.int i) (.int j) S Q = Q (.int (i - j)) S := (rfl)
theorem restr_eq {S S' : Sto} (h : ∀ a, (S a).isSome = true → S' a = S a) (hd : ∀ a, (S.d a).isSome = true → S'.d a = S.d a := by first | exact fun _ _ => rfl | assumption) : restr S S' = S := by
  refine Sto.ext' (fun a => ?_) fun a => ?_
  · unfold restr
    dsimp only
    cases e : S a with
    | none => rfl
    | some l =>
      have := h a (by rw [e]; rfl)
      simp [this, e]
  · unfold restr
    dsimp only
    cases e : S.d a with
    | none => rfl
    | some l =>
      have := hd a (by rw [e]; rfl)
      simp [this, e]
theorem restr_new {S : Sto} {p : Addr} {l : List F} (h : S p = none) : restr S (updS S p l) = S := restr_eq fun a ha => by
  refine updS_ne fun e => ?_
  subst e
  rw [h] at ha
  cases ha
theorem forL_fold {α σ : Type} {gd : Sto → Prop} {g : DG} {t : WS} (e : α → F) (st : σ → α → σ) (I : σ → Slots → Sto → Prop) : ∀ (xs : List α) (a : σ) (ρ : Slots) (S : Sto), I a ρ S → (∀ a ρ S, I a ρ S → gd S) →
    (∀ x, x ∈ xs → ∀ a ρ S (N : Slots → Sto → Prop), I a ρ S → (∀ ρ' S', I (st a x) ρ' S' → N ρ' S') → g (e x) ρ S fun ρ1 S1 => t { nx := N, rt := D.rt, bk := D.nx, ct := N, ex := D.ex } ρ1 S1) → (∀ ρ S, I (xs.foldl st a) ρ S → D.nx ρ S) → forL gd g t (xs.map e) D ρ S
  | [], a, ρ, S, hi, hg, hs, hf => ⟨hg _ _ _ hi, hf _ _ hi⟩
  | x :: r, a, ρ, S, hi, hg, hs, hf => ⟨hg _ _ _ hi, hs x (List.mem_cons_self ..) a ρ S _ hi fun ρ' S' h => forL_fold e st I r (st a x) ρ' S' h hg (fun y hy => hs y (List.mem_cons_of_mem _ hy)) hf⟩
end
/-! bending -/
def W_bentRest (c__law_draw : Ct) : WS :=
  (sSeq (sAsg (wCall c__law_draw (wCons (wVar 0) (wCons (wC (.int 8)) wNil))) (gN 3))
    (sSeq (sIf (wTst (wIsi "tuple" (wVar 1))) (sRet (wOp oIx (wFrz (wLst (wCons (wOp oAdd (wVar 1) (wSl (wVar 1) wNoPart (wPart (wC (.int 1))))) (wCons (wSl (wVar 1) (wPart (wC (.int 1))) wNoPart) (wCons (wRev (wVar 1)) (wCons (wOp oAdd (wVar 1) (wTup (wCons (wC (.int 0)) wNil))) (wCons (wOp oAdd (wSl (wVar 1) wNoPart (wPart (wC (.int 1)))) (wVar 1)) (wCons (wSl (wVar 1) wNoPart (wPart (wNeg (wC (.int 1))))) (wCons (wC .non) (wCons (wSl (wVar 1) wNoPart (wPart (wC (.int 1)))) wNil)))))))))) (wVar 3))) sNext)
    (sSeq (sIf (bAnd (wTst (wIsi "int" (wVar 1))) (bNot (wTst (wIsi "bool" (wVar 1))))) (sRet (wOp oIx (wFrz (wLst (wCons (wOp oAdd (wVar 1) (wC (.int 1))) (wCons (wOp oSub (wVar 1) (wC (.int 1))) (wCons (wNeg (wVar 1)) (wCons (wOp oEq (wVar 1) (wC (.int 1))) (wCons (wC .non) (wCons (wCall cStr (wCons (wVar 1) wNil)) (wCons (wTup (wCons (wVar 1) wNil)) (wCons (wOp oAdd (wVar 1) (wC (.int 1001))) wNil)))))))))) (wVar 3))) sNext)
    (sSeq (sIf (wTst (wIsi "str" (wVar 1))) (sRet (wOp oIx (wFrz (wLst (wCons (wOp oAdd (wVar 1) (wC (.str ("a" : Str)))) (wCons (wSl (wVar 1) (wPart (wC (.int 1))) wNoPart) (wCons (wC (.str ("any" : Str))) (wCons (wUpper (wVar 1)) (wCons (wC (.int 0)) (wCons (wC (.str ("" : Str))) (wCons (wOp oAdd (wVar 1) (wC (.str ("z0z0z0z0" : Str)))) (wCons (wTup (wCons (wVar 1) wNil)) wNil)))))))))) (wVar 3))) sNext)
    (sRet (wOp oIx (wFrz (wLst (wCons (wC (.int 0)) (wCons (wC (.int 1)) (wCons (wC .non) (wCons (wC (.bl true)) (wCons (wC (.bl false)) (wCons (wC (.str ("a" : Str))) (wCons (wTup wNil) (wCons (wNeg (wC (.int 1))) wNil)))))))))) (wVar 3)))))))
def W_bent (c__law_draw : Ct) (c__law_bent : Ct) : WS :=
  (sSeq (sIf (bAnd (wTst (wIsi "tuple" (wVar 1))) (bAnd (wTst (wOp oGt (wCall cLen (wCons (wVar 1) wNil)) (wC (.int 0)))) (wTst (wOp oGt (wCall c__law_draw (wCons (wVar 0) (wCons (wC (.int 5)) wNil))) (wC (.int 0)))))) (sSeq (sAsg (wCall c__law_draw (wCons (wVar 0) (wCons (wCall cLen (wCons (wVar 1) wNil)) wNil))) (gN 2))
    (sRet (wOp oAdd (wOp oAdd (wSl (wVar 1) wNoPart (wPart (wVar 2))) (wTup (wCons (wCall c__law_bent (wCons (wVar 0) (wCons (wOp oIx (wVar 1) (wVar 2)) wNil))) wNil))) (wSl (wVar 1) (wPart (wOp oAdd (wVar 2) (wC (.int 1)))) wNoPart)))) sNext)
    (W_bentRest c__law_draw))
def bAtom : F → Bool
  | .non => true
  | .bl _ => true
  | .int i => decide (i.natAbs ≤ 1000000)
  | .str x => decide (x.length ≤ 100) && PyData.strOk x && PyData.strOk (x ++ ("a" : Str)) && PyData.strOk (cutS x (some 1) none) && PyData.strOk (Txt.upper x) && PyData.strOk (x ++ ("z0z0z0z0" : Str))
  | _ => false
theorem bAtom_str {x : Str} (h : bAtom (.str x) = true) : x.length ≤ 100 ∧ PyData.strOk x = true ∧ PyData.strOk (x ++ ("a" : Str)) = true ∧ PyData.strOk (cutS x (some 1) none) = true ∧ PyData.strOk (Txt.upper x) = true ∧ PyData.strOk (x ++ ("z0z0z0z0" : Str)) = true := by
  unfold bAtom at h
  simp only [Bool.and_eq_true, decide_eq_true_eq] at h
  obtain ⟨⟨⟨⟨⟨h1, h2⟩, h3⟩, h4⟩, h5⟩, h6⟩ := h
  exact ⟨h1, h2, h3, h4, h5, h6⟩
def bOk : Nat → F → Prop
  | 0, v => bAtom v = true
  | n + 1, v => bAtom v = true ∨ ∃ xs, v = .tup xs ∧ xs.length ≤ 100000 ∧ ∀ x ∈ xs, bOk n x
theorem bAtom_fz {v : F} (h : bAtom v = true) : fz v = true := by
  cases v <;> first | rfl | exact (bAtom_str h).2.1 | cases h
theorem bAtom_dep {v : F} (h : bAtom v = true) : dep v = 0 := by
  cases v <;> first | rfl | cases h
theorem bOk_fz : ∀ {n : Nat} {v : F}, bOk n v → fz v = true ∧ dep v ≤ n
  | 0, v, h => ⟨bAtom_fz h, Nat.le_of_eq (bAtom_dep h)⟩
  | n + 1, v, h => by
    rcases h with h | ⟨xs, rfl, h1, h2⟩
    · exact ⟨bAtom_fz h, by rw [bAtom_dep h]; omega⟩
    · exact ⟨fz_tup_of (by omega) fun x hx => (bOk_fz (h2 x hx)).1, dep_tup fun x hx => (bOk_fz (h2 x hx)).2⟩
theorem bOk_atom {n : Nat} {v : F} (h : bAtom v = true) : bOk n v := by
  cases n with
  | zero => exact h
  | succ n => exact .inl h
theorem bOk_cases {n : Nat} {v : F} (h : bOk n v) : bAtom v = true ∨ ∃ k xs, n = k + 1 ∧ v = .tup xs ∧ xs.length ≤ 100000 ∧ ∀ x ∈ xs, fz x = true ∧ dep x ≤ k := by
  cases n with
  | zero => exact .inl h
  | succ n =>
    rcases h with h | ⟨xs, rfl, h1, h2⟩
    · exact .inl h
    · exact .inr ⟨n, xs, rfl, rfl, h1, fun x hx => bOk_fz (h2 x hx)⟩
theorem log_small {i : Int} (h : i.natAbs ≤ 1000000) : i.natAbs.log2 < 1920 := by
  by_cases h0 : i.natAbs = 0
  · rw [h0]
    decide
  · have h1 : i.natAbs < 2 ^ 20 := by omega
    have := (Nat.log2_lt h0).mpr h1
    omega
theorem fz_toStr (i : Int) : fz (.str (toString i : String)) = true := by
  unfold fz
  exact strOk_of _
theorem one_ok {v : F} {n : Nat} (h : fz v = true) (hd : dep v ≤ n) : fz (.tup [v]) = true ∧ dep (.tup [v]) ≤ n + 1 :=
  ⟨fz_tup_of (by simp) fun y hy => by rw [List.mem_singleton.mp hy]; exact h, dep_tup fun y hy => by rw [List.mem_singleton.mp hy]; exact hd⟩
theorem bentRest {D : EndsD} {b c : Addr} {v : F} {o2 o3 : Option F} {S1 : Sto} {n : Nat} (hb : BoxAt S1 b c) (hv : bOk n v) (q : ∀ v' S', fz v' = true → dep v' ≤ n + 1 → BoxAt S' b c → Fr S1 S' b c → D.rt v' S') :
    W_bentRest C_draw D [some (.loc b), some v, o2, o3] S1 := by
  unfold W_bentRest
  rw [sSeq_ev]; simp [-sSeq_ev]
  refine call_draw hb (by decide) (by decide) fun d S2 hd hb2 f2 => ?_
  have hd' : d < 8 := by omega
  have fin : ∀ v', fz v' = true ∧ dep v' ≤ n + 1 → D.rt v' S2 := fun v' h => q v' S2 h.1 h.2 hb2 f2
  rcases bOk_cases hv with ha | ⟨k, xs, rfl, rfl, h1, h2⟩
  · cases v with
    | non =>
      simp
      refine oIx_mem (by simpa using hd') fun z hz => fin z ?_
      simp at hz
      rcases hz with rfl | rfl | rfl | rfl | rfl | rfl | rfl | rfl <;> exact ⟨by decide +kernel, Nat.le_trans (show _ ≤ 1 by decide +kernel) (by omega)⟩
    | bl x =>
      simp
      refine oIx_mem (by simpa using hd') fun z hz => fin z ?_
      simp at hz
      rcases hz with rfl | rfl | rfl | rfl | rfl | rfl | rfl | rfl <;> exact ⟨by decide +kernel, Nat.le_trans (show _ ≤ 1 by decide +kernel) (by omega)⟩
    | int i =>
      have hi : i.natAbs ≤ 1000000 := of_decide_eq_true ha
      have l1 := one_ok (v := .int i) (n := n) rfl (Nat.zero_le _)
      simp
      refine ⟨log_small hi, ?_⟩
      refine oIx_mem (by simpa using hd') fun z hz => fin z ?_
      simp at hz
      rcases hz with rfl | rfl | rfl | rfl | rfl | rfl | rfl | rfl <;> first | exact l1 | exact ⟨rfl, Nat.zero_le _⟩ | exact ⟨fz_toStr i, Nat.zero_le _⟩
    | str x =>
      obtain ⟨a1, a2, a3, a4, a5, a6⟩ := bAtom_str ha
      have l1 := one_ok (v := .str x) (n := n) a2 (Nat.zero_le _)
      simp
      refine ⟨mil (by have := (by decide : ("a" : Str).length = 1); omega), mil (by omega), by omega, mil (by have := (by decide : ("z0z0z0z0" : Str).length = 8); omega), ?_⟩
      refine oIx_mem (by simpa using hd') fun z hz => fin z ?_
      simp at hz
      rcases hz with rfl | rfl | rfl | rfl | rfl | rfl | rfl | rfl <;> first | exact l1 | exact ⟨a3, Nat.zero_le _⟩ | exact ⟨a4, Nat.zero_le _⟩ | exact ⟨a5, Nat.zero_le _⟩ | exact ⟨a6, Nat.zero_le _⟩ | exact ⟨by decide +kernel, Nat.zero_le _⟩
    | _ => cases ha
  · have l1 := cut_length xs none (some 1)
    have ok : ∀ l : List F, l.length ≤ 1000000 → (∀ x ∈ l, fz x = true ∧ dep x ≤ k) → fz (.tup l) = true ∧ dep (.tup l) ≤ k + 1 + 1 := fun l a1 a2 =>
      ⟨fz_tup_of a1 fun x hx => (a2 x hx).1, Nat.le_trans (dep_tup fun x hx => (a2 x hx).2) (by omega)⟩
    have cutOk : ∀ lo hi, fz (.tup (cut xs lo hi)) = true ∧ dep (.tup (cut xs lo hi)) ≤ k + 1 + 1 := fun lo hi => ok _ (Nat.le_trans (cut_length ..) (by omega)) fun x hx => h2 x (cut_mem hx)
    have app : ∀ l r : List F, l.length ≤ 100000 → r.length ≤ 100000 → (∀ x ∈ l, fz x = true ∧ dep x ≤ k) → (∀ x ∈ r, fz x = true ∧ dep x ≤ k) → fz (.tup (l ++ r)) = true ∧ dep (.tup (l ++ r)) ≤ k + 1 + 1 := fun l r a1 a2 a3 a4 =>
      ok _ (by rw [List.length_append]; omega) fun x hx => (List.mem_append.mp hx).elim (a3 x) (a4 x)
    simp
    refine ⟨mil (by omega), mil (by omega), mil (by omega), ?_⟩
    refine oIx_mem (by simpa using hd') fun z hz => fin z ?_
    simp at hz
    rcases hz with rfl | rfl | rfl | rfl | rfl | rfl | rfl | rfl
    · exact app _ _ h1 (by omega) h2 fun x hx => h2 x (cut_mem hx)
    · exact cutOk _ _
    · exact ok _ (by rw [List.length_reverse]; omega) fun x hx => h2 x (List.mem_reverse.mp hx)
    · exact app _ _ h1 (by simp) h2 fun x hx => by rw [List.mem_singleton.mp hx]; exact ⟨rfl, Nat.zero_le _⟩
    · exact app _ _ (by omega) h1 (fun x hx => h2 x (cut_mem hx)) h2
    · exact cutOk _ _
    · exact ⟨rfl, Nat.zero_le _⟩
    · exact cutOk _ _
def C_bent (n : Nat) : Ct := fun xs S Q => ∃ b c v, xs = [.loc b, v] ∧ BoxAt S b c ∧ bOk n v ∧ ∀ v' S', fz v' = true → dep v' ≤ n + 1 → BoxAt S' b c → Fr S S' b c → Q v' S'
theorem mono_C_bent {n : Nat} : MonoC (C_bent n) := fun xs S Q Q' k ⟨b, c, v, e, h1, h2, q⟩ => ⟨b, c, v, e, h1, h2, fun v' S' h1 h4 h2 h3 => k _ _ (q v' S' h1 h4 h2 h3)⟩
theorem call_bent {n : Nat} {b c : Addr} {S : Sto} {Q : F → Sto → Prop} {v : F} (h : BoxAt S b c) (hv : bOk n v) (q : ∀ v' S', fz v' = true → dep v' ≤ n + 1 → BoxAt S' b c → Fr S S' b c → Q v' S') : C_bent n [.loc b, v] S Q := ⟨b, c, v, rfl, h, hv, q⟩
theorem sp_bent0 (fs : List F) (S : Sto) (Q) (h : C_bent 0 fs S Q) : fs.length = 2 ∧ W_bent C_draw C_never { nx := fun _ S' => Q .non S', rt := fun d S' => Q d S' } (startF 4 fs) S := by
  obtain ⟨b, c, v, rfl, hb, hv, q⟩ := h
  refine ⟨rfl, ?_⟩
  show W_bent _ _ _ [some (.loc b), some v, none, none] S
  have := bentRest (D := { nx := fun _ S' => Q .non S', rt := fun d S' => Q d S' }) (o2 := none) (o3 := none) hb hv q
  unfold W_bent
  rw [sSeq_ev]
  have hv : bAtom v = true := hv
  cases v with
  | non => simpa [-sSeq_ev] using this
  | bl x => simpa [-sSeq_ev] using this
  | int i => simpa [-sSeq_ev] using this
  | str x => simpa [-sSeq_ev] using this
  | _ => cases hv
theorem sp_bent (n : Nat) (fs : List F) (S : Sto) (Q) (h : C_bent (n + 1) fs S Q) : fs.length = 2 ∧ W_bent C_draw (C_bent n) { nx := fun _ S' => Q .non S', rt := fun d S' => Q d S' } (startF 4 fs) S := by
  obtain ⟨b, c, v, rfl, hb, hv, q⟩ := h
  refine ⟨rfl, ?_⟩
  show W_bent _ _ _ [some (.loc b), some v, none, none] S
  have rest : ∀ S1, BoxAt S1 b c → Fr S S1 b c → W_bentRest C_draw { nx := fun _ S' => Q .non S', rt := fun d S' => Q d S' } [some (.loc b), some v, none, none] S1 := fun S1 h1 f1 =>
    bentRest h1 hv fun v' S' a1 a4 a2 a3 => q v' S' a1 a4 a2 (f1.trans a3)
  unfold W_bent
  rw [sSeq_ev]
  have hv' : bAtom v = true ∨ ∃ xs, v = .tup xs ∧ xs.length ≤ 100000 ∧ ∀ x ∈ xs, bOk n x := hv
  rcases hv' with ha | ⟨xs, rfl, h1, h2⟩
  · cases v with
    | non => simpa [-sSeq_ev] using rest S hb Fr.refl
    | bl x => simpa [-sSeq_ev] using rest S hb Fr.refl
    | int i => simpa [-sSeq_ev] using rest S hb Fr.refl
    | str x => simpa [-sSeq_ev] using rest S hb Fr.refl
    | _ => cases ha
  · by_cases h0 : 0 < xs.length
    · have h0' : (0 : Int) < xs.length := by omega
      simp [-sSeq_ev, h0]
      refine call_draw hb (by decide) (by decide) fun d S1 hd hb1 f1 => ?_
      simp [-sSeq_ev]
      split
      · rename_i hd0
        rw [sSeq_ev]
        simp
        refine call_draw hb1 h0' (by omega) fun at' S2 ha hb2 f2 => ?_
        have hat : at' < xs.length := by omega
        have e1 : xs[at']? = some xs[at'] := List.getElem?_eq_getElem hat
        simp [atI_cast, e1]
        refine call_bent hb2 (h2 _ (List.getElem_mem hat)) fun v' S3 hz hdz hb3 f3 => ?_
        have l1 := cut_length xs none (some (at' : Int))
        have l2 := cut_length xs (some ((at' : Int) + 1)) none
        have hxs : ∀ x ∈ xs, fz x = true ∧ dep x ≤ n := fun x hx => bOk_fz (h2 x hx)
        simp [set_cutF _ hat]
        refine ⟨mil (by omega), mil (by omega), q _ S3 ?_ ?_ hb3 ((f1.trans f2).trans f3)⟩
        · unfold fz
          rw [fz_set (fzL_of fun x hx => (hxs x hx).1) hz, List.length_set, Bool.and_true]
          exact decide_eq_true (by omega)
        · refine Nat.le_trans (dep_tup (n := n + 1) fun x hx => ?_) (by omega)
          rcases List.mem_or_eq_of_mem_set hx with h | h
          · have := (hxs x h).2
            omega
          · rw [h]
            exact hdz
      · exact rest S1 hb1 f1
    · simpa [-sSeq_ev, h0] using rest S hb Fr.refl
section
variable {P : Program} {w : World} {K : PySem.W.Frag} {mg : Str → Option Value} {base : Heap}
theorem cal_never_at (lv : Nat) {x qual : Str} {params : Arguments} {body : List Stmt} {scope : Scope} {f : Addr} {fd : FuncData} {ps : List Str} (F : FunD K x qual params body scope [] [] f fd) (g : mg x = some (.ref f)) (b : L2.Binds K fd ps []) : Cal P w K mg base lv x ps C_never :=
  ⟨f, fd, F.kp, g, b, fun _ _ _ _ _ h => h.elim, ⟨fun vs H Q E ⟨_, _, _, _, _, h⟩ => h.elim, fun A outer s H args us vs Q E _ _ _ _ ⟨_, _, _, _, _, h⟩ => h.elim⟩⟩
theorem bent_cal {params : Arguments} {body : List Stmt} {scope : Scope} {f : Addr} {fd : FuncData}
    (ok : ∀ (lv : Nat), 2 ≤ lv → ∀ {Crec C : Ct}, Cal P w K mg base lv "_law_bent" ["box", "value"] Crec → MonoC C → (∀ fs S Q, C fs S Q → fs.length = 2 ∧ W_bent C_draw Crec { nx := fun _ S' => Q .non S', rt := fun d S' => Q d S' } (startF 4 fs) S) → FnD P w K mg base (lv + 1) f fd ["box", "value"] C)
    (F : FunD K "_law_bent" "_law_bent" params body scope [] [] f fd) (g : mg "_law_bent" = some (.ref f)) (b : L2.Binds K fd ["box", "value"] []) : ∀ n, Cal P w K mg base (n + 3) "_law_bent" ["box", "value"] (C_bent n)
  | 0 => cal_of F g b (ok 2 (Nat.le_refl 2) (cal_never_at 2 F g b) mono_C_bent sp_bent0)
  | n + 1 => cal_of F g b (ok (n + 3) (by omega) (bent_cal ok F g b n) mono_C_bent (sp_bent n))
end
end DL

set_option maxHeartbeats 4000000
namespace DL
open PySem PySem.Spec PyProof.Rows L2
theorem un65 {k : Nat} {A : Around} (r : Room k A) : A.units + 65 < cLine := by
  have := r.un
  omega
section
variable {X : Cx} {e a b : Expr} {m ma mb : W F} {pos : Pos}
/-! ### in -/
def oIn : DOp := fun x y S Q => okF x = true ∧ (match seqR S y with | some ys => okF (.tup ys) = true ∧ Q (.bl (ys.any fun z => eqF z x)) S | none => False)
def oNotIn : DOp := fun x y S Q => okF x = true ∧ (match seqR S y with | some ys => okF (.tup ys) = true ∧ Q (.bl (!ys.any fun z => eqF z x)) S | none => False)
theorem any_pyL {ys : List F} {x : F} : ((pyL ys).any fun z => PyData.eqv z (py x)) = ys.any fun z => eqF z x := by
  induction ys with
  | nil => rfl
  | cons y r ih => rw [pyL, List.any_cons, List.any_cons, ih]; rfl
def rInSq (K : PySem.W.Frag) (neg : Bool) : R2 := fun x y H Q => ∃ d ds, Dp K H x d ∧ (Dp K H y (.list ds) ∨ Dp K H y (.tuple ds)) ∧ SeqAt.shaped d = true ∧ PyData.canLayAll0 ds = true ∧ Q (.bl (if neg = true then !ds.any fun z => PyData.eqv z d else ds.any fun z => PyData.eqv z d)) H
theorem op_inSq (hu : X.A.units + 65 < cLine) : OpR X (compareOp .In) (rInSq X.K false) := by
  intro pins s σ H x y v u Q I rx ry h
  obtain ⟨d, ds, hd, he, sd, se, q⟩ := h
  obtain ⟨as, r1⟩ := Dp.reads I d x v hd rx
  rcases he with he | he
  · obtain ⟨bs, r2⟩ := Dp.reads I (.list ds) y u he ry
    exact SeqAt.in_list_reads r2 r1 se (SeqAt.canLay_of_shaped sd) (room_in_shaped sd hu) ⟨.bl _, H, I, rfl, q⟩
  · obtain ⟨bs, r2⟩ := Dp.reads I (.tuple ds) y u he ry
    exact SeqAt.in_tuple_reads r2 r1 se (SeqAt.canLay_of_shaped sd) (room_in_shaped sd hu) ⟨.bl _, H, I, rfl, q⟩
theorem op_notinSq (hu : X.A.units + 65 < cLine) : OpR X (compareOp .NotIn) (rInSq X.K true) := by
  intro pins s σ H x y v u Q I rx ry h
  obtain ⟨d, ds, hd, he, sd, se, q⟩ := h
  obtain ⟨as, r1⟩ := Dp.reads I d x v hd rx
  rcases he with he | he
  · obtain ⟨bs, r2⟩ := Dp.reads I (.list ds) y u he ry
    exact SeqAt.notIn_list_reads r2 r1 se (SeqAt.canLay_of_shaped sd) (room_in_shaped sd hu) ⟨.bl _, H, I, rfl, q⟩
  · obtain ⟨bs, r2⟩ := Dp.reads I (.tuple ds) y u he ry
    exact SeqAt.notIn_tuple_reads r2 r1 se (SeqAt.canLay_of_shaped sd) (room_in_shaped sd hu) ⟨.bl _, H, I, rfl, q⟩
theorem can_tup {ys : List F} (h : okF (.tup ys) = true) : PyData.canLayAll0 (pyL ys) = true := by
  have := SeqAt.canLay_of_shaped h
  simpa [py, PyData.canLay0] using this
theorem seq_dp {K : PySem.W.Frag} {Z H : Hp} {S : Sto} {v : V} {d : F} {fs : List F} (R : RelS K Z S H) (h : Den K Z v d) (e : seqR S d = some fs) (c : PyData.canLayAll0 (pyL fs) = true) : Dp K H v (.list (pyL fs)) ∨ Dp K H v (.tuple (pyL fs)) := by
  obtain ⟨a, vs, rfl, h1, h2⟩ := seqR_of R h e
  rcases h1 with h1 | h1
  · exact .inl (.lst h1 (Dens.dp R h2 c))
  · exact .inr (.tup h1 (Dens.dp R h2 c))
theorem o_in (hu : X.A.units + 65 < cLine) : OpD X (compareOp .In) oIn := by
  refine ⟨fun x y S Q Q' k h => ?_, opWeak (op_inSq hu) fun x y H Q ⟨d, e, S, Z, dx, dy, R, h1, h⟩ => ?_⟩
  · unfold oIn at h ⊢
    refine ⟨h.1, ?_⟩
    have h := h.2
    split at h
    · exact ⟨h.1, k _ _ h.2⟩
    · exact h.elim
  · split at h
    · rename_i ys e0
      have c := can_tup h.1
      exact ⟨py d, pyL ys, dx.dp R (SeqAt.canLay_of_shaped h1), seq_dp R dy e0 c, h1, c, by rw [if_neg (by decide), any_pyL]; exact fin_same R (.bl _) h.2⟩
    · exact h.elim
theorem o_notin (hu : X.A.units + 65 < cLine) : OpD X (compareOp .NotIn) oNotIn := by
  refine ⟨fun x y S Q Q' k h => ?_, opWeak (op_notinSq hu) fun x y H Q ⟨d, e, S, Z, dx, dy, R, h1, h⟩ => ?_⟩
  · unfold oNotIn at h ⊢
    refine ⟨h.1, ?_⟩
    have h := h.2
    split at h
    · exact ⟨h.1, k _ _ h.2⟩
    · exact h.elim
  · split at h
    · rename_i ys e0
      have c := can_tup h.1
      exact ⟨py d, pyL ys, dx.dp R (SeqAt.canLay_of_shaped h1), seq_dp R dy e0 c, h1, c, by rw [if_pos rfl, any_pyL]; exact fin_same R (.bl _) h.2⟩
    · exact h.elim
/-! ### truth -/
def truF (S : Sto) : F → Option Bool
  | .non => some false
  | .bl b => some b
  | .int i => some (i != 0)
  | .tup l => some (!l.isEmpty)
  | .lst l => some (!l.isEmpty)
  | .rol l => some (!l.isEmpty)
  | .loc a => (S a).map fun l => !l.isEmpty
  | .str _ => none
def asTru (Q : Bool → Sto → Prop) : F → Sto → Prop := fun x S => match truF S x with | some k => Q k S | none => False
def wTru (m : W F) : W Bool := fun ρ S Q => m ρ S (asTru Q)
theorem mono_asTru {Q Q' : Bool → Sto → Prop} (k : ∀ b S, Q b S → Q' b S) : ∀ x S, asTru Q x S → asTru Q' x S := fun x S h => by
  unfold asTru at h ⊢
  split at h
  · exact k _ _ h
  · exact h.elim
theorem pb_tru (h : PD X e m) (he : ∀ whole, isTrue e X.env whole = (do let v ← whole; standAt e.pos; holding [v] (truthy v)) := by intro _; rfl) : PB X e (wTru m) :=
  ⟨fun _ _ _ _ k q => h.mono _ _ _ _ (mono_asTru k) q, weakT (pt_truth h.run he) fun σ H Q ⟨ρ, S, Z, r, R, q⟩ => by
    refine tD_in h.mono r R q fun x S1 v Z1 H1 p e1 R1 d1 => ?_
    unfold asTru at p
    split at p
    · rename_i k e0
      refine ⟨k, ?_, p _ _ e1 R1⟩
      cases x with
      | non => cases d1; cases e0; rfl
      | bl b => cases d1; cases e0; rfl
      | int i => cases d1; cases e0; rfl
      | str z => cases e0
      | tup l =>
        obtain ⟨a, us, rfl, h1, h2⟩ := seqR_of (S := S1) R1 d1 (fs := l) rfl
        cases e0
        have hl : us.isEmpty = l.isEmpty := by cases h2 <;> rfl
        rcases h1 with h1 | h1
        · exact .inl ⟨us, h1, by rw [hl]⟩
        · exact .inr (.inl ⟨us, h1, by rw [hl]⟩)
      | lst l =>
        obtain ⟨a, us, rfl, h1, h2⟩ := seqR_of (S := S1) R1 d1 (fs := l) rfl
        cases e0
        have hl : us.isEmpty = l.isEmpty := by cases h2 <;> rfl
        rcases h1 with h1 | h1
        · exact .inl ⟨us, h1, by rw [hl]⟩
        · exact .inr (.inl ⟨us, h1, by rw [hl]⟩)
      | rol l =>
        obtain ⟨a, us, rfl, h1, h2⟩ := seqR_of (S := S1) R1 d1 (fs := l) rfl
        cases e0
        have hl : us.isEmpty = l.isEmpty := by cases h2 <;> rfl
        rcases h1 with h1 | h1
        · exact .inl ⟨us, h1, by rw [hl]⟩
        · exact .inr (.inl ⟨us, h1, by rw [hl]⟩)
      | loc c =>
        cases e2 : S1 c with
        | none => simp [truF, e2] at e0
        | some l =>
          obtain ⟨a, us, rfl, h1, h2⟩ := seqR_of (S := S1) R1 d1 (fs := l) e2
          have e3 : truF S1 (.loc c) = some (!l.isEmpty) := by
            show Option.map (fun l => !l.isEmpty) (S1 c) = _
            rw [e2]
            rfl
          rw [e3] at e0
          cases e0
          have hl : us.isEmpty = l.isEmpty := by cases h2 <;> rfl
          rcases h1 with h1 | h1
          · exact .inl ⟨us, h1, by rw [hl]⟩
          · exact .inr (.inl ⟨us, h1, by rw [hl]⟩)
    · exact p.elim⟩
/-! ### list(range(..)) -/
def wListRg (m : W F) : W (List F) := fun ρ S Q => m ρ S (asI fun n S1 => RgOk 0 n ∧ Q (rngL 0 n.toNat) S1)
theorem dens_map {α : Type} {K : PySem.W.Frag} {Z : Hp} {f : α → V} {g : α → F} (h : ∀ a, Den K Z (f a) (g a)) : ∀ l : List α, Dens K Z (l.map f) (l.map g)
  | [] => .nil
  | a :: l => .cons (h a) (dens_map h l)
theorem pl_listRg {p pos pos2 : Pos} (hc : X.calm = true) (hg : Gl X "list") (hm : X.mg "list" = none) (hg2 : Gl X "range") (hm2 : X.mg "range" = none) (ha : PD X a ma)
    (na : starEach [.Call (.Name "range" p) [a] [] pos2] X.env = (false, eval (.Call (.Name "range" p) [a] [] pos2) X.env) :: starEach [] X.env := by rfl)
    (na2 : starEach [a] X.env = (false, eval a X.env) :: starEach [] X.env := by rfl) {p3 : Pos} : PL X (.Call (.Name "list" p3) [.Call (.Name "range" p) [a] [] pos2] [] pos) (wListRg ma) :=
  ⟨fun _ _ _ _ k q => ha.mono _ _ _ _ (mono_asI fun _ _ q => ⟨q.1, k _ _ q.2⟩) q, weakE (pe_listRg hc hg hm (prg_1 hg2 hm2 ha.run na2) na) fun σ H Q ⟨ρ, S, Z, r, R, q⟩ => by
    refine tD_in ha.mono r R q fun x S1 v Z1 H1 p e1 R1 d1 => ?_
    cases x with
    | int n =>
      refine ⟨n, den_int d1, p.1, fun q nq => ?_⟩
      refine lfin_new e1 R1 nq ?_ p.2
      unfold rgV rngL
      rw [show n - 0 = n by omega]
      exact dens_map (fun _ => .int _) _
    | _ => exact p.elim⟩
end
section
variable {ρ : Slots} {S : Sto} {Q : F → Sto → Prop} {QB : Bool → Sto → Prop} {QL : List F → Sto → Prop} {m : W F} {x : F} {xs ys : List F}
@[simp, simp ↓] theorem wTru_ev : wTru m ρ S QB = m ρ S (asTru QB) := (rfl)
@[simp, simp ↓] theorem asTru_t : asTru QB (.tup xs) S = QB (!xs.isEmpty) S := (rfl)
@[simp, simp ↓] theorem asTru_l : asTru QB (.lst xs) S = QB (!xs.isEmpty) S := (rfl)
@[simp, simp ↓] theorem asTru_b {b : Bool} : asTru QB (.bl b) S = QB b S := (rfl)
@[simp, simp ↓] theorem asTru_n : asTru QB .non S = QB false S := (rfl)
@[simp, simp ↓] theorem asTru_i {i : Int} : asTru QB (.int i) S = QB (i != 0) S := (rfl)
@[simp, simp ↓] theorem wListRg_ev : wListRg m ρ S QL = m ρ S (asI fun n S1 => RgOk 0 n ∧ QL (rngL 0 n.toNat) S1) := (rfl)
@[simp, simp ↓] theorem oIn_t : oIn x (.tup ys) S Q = (okF x = true ∧ okF (.tup ys) = true ∧ Q (.bl (ys.any fun z => eqF z x)) S) := (rfl)
@[simp, simp ↓] theorem oIn_l : oIn x (.lst ys) S Q = (okF x = true ∧ okF (.tup ys) = true ∧ Q (.bl (ys.any fun z => eqF z x)) S) := (rfl)
@[simp, simp ↓] theorem oNotIn_t : oNotIn x (.tup ys) S Q = (okF x = true ∧ okF (.tup ys) = true ∧ Q (.bl (!ys.any fun z => eqF z x)) S) := (rfl)
@[simp, simp ↓] theorem oNotIn_l : oNotIn x (.lst ys) S Q = (okF x = true ∧ okF (.tup ys) = true ∧ Q (.bl (!ys.any fun z => eqF z x)) S) := (rfl)
end
end DL

set_option maxHeartbeats 4000000
namespace DL
open PySem PySem.Spec PyProof.Rows L2
/-! ### the law's tape -/
def W_mix : WS :=
  (sSeq (sAsg (wOp oMod (wCall cInt (wCons (wOp oAdd (wOp oMul (wVar 0) (wC (.int 6364136223846793005))) (wC (.int 1442695040888963407))) wNil)) (wC (.int 18446744073709551616))) (gN 0))
    (sRet (wOp oMod (wCall cInt (wCons (wOp oAdd (wOp oDiv (wOp oMul (wVar 0) (wVar 0)) (wC (.int 4294967296))) (wOp oMul (wVar 0) (wC (.int 69621)))) wNil)) (wC (.int 18446744073709551557)))))
def W_tape : WS :=
  (sRet (wOwn (wLst (wCons (wOwn (wCall cList (wCons (wSl (wVar 0) wNoPart (wPart (wC (.int 80)))) wNil))) (wCons (wC (.int 0)) (wCons (wC (.int 0)) (wCons (wOp oAdd (wC (.int 1)) (wCall cLen (wCons (wVar 0) wNil))) wNil)))))))
def W_take (c__law_mix : Ct) : WS :=
  (sSeq (sIf (wTst (wOp oLt (wOp oIx (wVar 0) (wC (.int 2))) (wVar 1))) (sIf (wTst (wOp oLt (wOp oIx (wVar 0) (wC (.int 1))) (wCall cLen (wCons (wOp oIx (wVar 0) (wC (.int 0))) wNil)))) (sSeq (sAsg (wOp oIx (wOp oIx (wVar 0) (wC (.int 0))) (wOp oIx (wVar 0) (wC (.int 1)))) (gN 2))
    (sSeq (sAsg (wIf (wTst (wOp oGe (wVar 2) (wC (.int 0)))) (wOp oMul (wC (.int 2)) (wVar 2)) (wOp oSub (wOp oMul (wNeg (wC (.int 2))) (wVar 2)) (wC (.int 1)))) (gN 2))
    (sSeq (sAsg (wOp oAdd (wOp oIx (wVar 0) (wC (.int 1))) (wC (.int 1))) (gSubL (wVar 0) (wC (.int 1))))
    (sSeq (sAsg (wCall c__law_mix (wCons (wOp oAdd (wOp oIx (wVar 0) (wC (.int 3))) (wVar 2)) wNil)) (gSubL (wVar 0) (wC (.int 3))))
    (sAsg (wIf (wTst (wOp oGe (wVar 2) (wOp oPow (wC (.int 10)) (wC (.int 18))))) (wVar 2) (wCall c__law_mix (wCons (wOp oAdd (wCall c__law_mix (wCons (wVar 2) wNil)) (wOp oIx (wVar 0) (wC (.int 1)))) wNil))) (gSubL (wVar 0) (wC (.int 2)))))))) (sSeq (sAsg (wCall c__law_mix (wCons (wOp oAdd (wOp oIx (wVar 0) (wC (.int 3))) (wC (.int 1))) wNil)) (gSubL (wVar 0) (wC (.int 3))))
    (sAsg (wOp oIx (wVar 0) (wC (.int 3))) (gSubL (wVar 0) (wC (.int 2)))))) sNext)
    (sSeq (sAsg (wOp oMod (wCall cInt (wCons (wOp oIx (wVar 0) (wC (.int 2))) wNil)) (wVar 1)) (gN 3))
    (sSeq (sAsg (wOp oDiv (wOp oIx (wVar 0) (wC (.int 2))) (wVar 1)) (gSubL (wVar 0) (wC (.int 2))))
    (sRet (wVar 3)))))
def TapeAt (S : Sto) (b c : Addr) : Prop := b ≠ c ∧ ∃ (i : Nat) (x y : Int) (cells : List Int), S b = some [.loc c, .int (i : Int), .int x, .int y] ∧ S c = some (cells.map F.int)
def C_mix : Ct := fun xs S Q => ∃ n : Int, xs = [.int n] ∧ ∀ d : Int, Q (.int d) S
theorem mono_C_mix : MonoC C_mix := fun xs S Q Q' k ⟨n, e, q⟩ => ⟨n, e, fun d => k _ _ (q d)⟩
theorem sp_mix (fs : List F) (S : Sto) (Q) (h : C_mix fs S Q) : fs.length = 1 ∧ W_mix { nx := fun _ S' => Q .non S', rt := fun d S' => Q d S' } (startF 1 fs) S := by
  obtain ⟨n, rfl, q⟩ := h
  refine ⟨rfl, ?_⟩
  show W_mix _ [some (.int n)] S
  unfold W_mix
  rw [sSeq_ev]
  simp
  refine ⟨mulOk_r (by decide), ?_⟩
  generalize n * 6364136223846793005 + 1442695040888963407 = x
  have h0 := Int.emod_nonneg x (show (18446744073709551616 : Int) ≠ 0 by decide)
  have h1 := Int.emod_lt_of_pos x (show (0 : Int) < 18446744073709551616 by decide)
  generalize x % 18446744073709551616 = y at h0 h1
  refine ⟨mulOk_l ⟨by omega, by omega⟩, wide_div (b := 33) (by decide) (by decide) (by decide) (by decide), mulOk_r (by decide), q _⟩
def C_tape : Ct := fun xs S Q => ∃ ns : List Int, xs = [.rol (ns.map F.int)] ∧ ns.length ≤ 1000 ∧ ∀ b c S', TapeAt S' b c → S b = none → S c = none → Fr S S' b c → Q (.loc b) S'
theorem mono_C_tape : MonoC C_tape := fun xs S Q Q' k ⟨ns, e, h, q⟩ => ⟨ns, e, h, fun b c S' h1 h2 h3 h4 => k _ _ (q b c S' h1 h2 h3 h4)⟩
theorem sp_tape (fs : List F) (S : Sto) (Q) (h : C_tape fs S Q) : fs.length = 1 ∧ W_tape { nx := fun _ S' => Q .non S', rt := fun d S' => Q d S' } (startF 1 fs) S := by
  obtain ⟨ns, rfl, hl, q⟩ := h
  refine ⟨rfl, ?_⟩
  show W_tape _ [some (.rol (ns.map F.int))] S
  simp [W_tape]
  refine fun c hc b hb => ?_
  have hbc : b ≠ c := fun e => by
    subst e
    rw [updS_same] at hb
    cases hb
  rw [updS_ne hbc] at hb
  refine q b c _ ⟨hbc, 0, _, _, cut ns none (some 80), updS_same, ?_⟩ hb hc fun a h1 h2 => ?_
  · rw [updS_ne hbc.symm, updS_same, cut_map]
  · rw [updS_ne h1, updS_ne h2]
def C_take : Ct := fun xs S Q => ∃ b c many, xs = [.loc b, .int many] ∧ TapeAt S b c ∧ 0 < many ∧ many < 2 ^ 30 ∧ ∀ (d : Nat) S', (d : Int) < many → TapeAt S' b c → Fr S S' b c → Q (.int (d : Int)) S'
theorem mono_C_take : MonoC C_take := fun xs S Q Q' k ⟨b, c, m, e, h, m1, m2, q⟩ => ⟨b, c, m, e, h, m1, m2, fun d S' h2 h3 h4 => k _ _ (q d S' h2 h3 h4)⟩
theorem call_take {S : Sto} {Q : F → Sto → Prop} {b c : Addr} {many : Int} (h : TapeAt S b c) (h1 : 0 < many) (h2 : many < 2 ^ 30) (q : ∀ (d : Nat) S', (d : Int) < many → TapeAt S' b c → Fr S S' b c → Q (.int (d : Int)) S') : C_take [.loc b, .int many] S Q := ⟨b, c, many, rfl, h, h1, h2, q⟩
theorem call_mix {S : Sto} {Q : F → Sto → Prop} {n : Int} (q : ∀ d : Int, Q (.int d) S) : C_mix [.int n] S Q := ⟨n, rfl, q⟩
theorem cpow_18 : CPow 10 18 := ⟨by decide, by decide, by decide⟩
theorem sp_take (fs : List F) (S : Sto) (Q) (h : C_take fs S Q) : fs.length = 2 ∧ W_take C_mix { nx := fun _ S' => Q .non S', rt := fun d S' => Q d S' } (startF 4 fs) S := by
  obtain ⟨b, c, many, rfl, hbox, m1, m2, q⟩ := h
  refine ⟨rfl, ?_⟩
  show W_take _ _ [some (.loc b), some (.int many), none, none] S
  have rest : ∀ S1 o, TapeAt S1 b c → Fr S S1 b c → (sSeq (sAsg (wOp oMod (wCall cInt (wCons (wOp oIx (wVar 0) (wC (.int 2))) wNil)) (wVar 1)) (gN 3))
    (sSeq (sAsg (wOp oDiv (wOp oIx (wVar 0) (wC (.int 2))) (wVar 1)) (gSubL (wVar 0) (wC (.int 2))))
    (sRet (wVar 3)))) { nx := fun _ S' => Q .non S', rt := fun d S' => Q d S' } [some (.loc b), some (.int many), o, none] S1 := by
    rintro S1 o ⟨hbc, i, x, y, cells, hb, hc⟩ fr
    simp [hb]
    refine ⟨m1, divOk m1 m2, ?_⟩
    have e0 := Int.emod_nonneg x (show many ≠ 0 by omega)
    have e1 := Int.emod_lt_of_pos x m1
    have e2 : x % many = ((x % many).toNat : Int) := by omega
    rw [e2]
    refine q _ _ (by omega) ⟨hbc, i, _, y, cells, updS_same, ?_⟩ (fr.trans fun a h1 h2 => updS_ne h1)
    rw [updS_ne hbc.symm]
    exact hc
  have hbox' := hbox
  obtain ⟨hbc, i, x, y, cells, hb, hc⟩ := hbox'
  have hcb : c ≠ b := fun e => hbc e.symm
  have fin : ∀ (S1 : Sto) (o : Option F) (i1 : Nat) (x1 y1 : Int), S1 b = some [.loc c, .int (i1 : Int), .int x1, .int y1] → (∀ a, a ≠ b → S1 a = S a) → (sSeq (sAsg (wOp oMod (wCall cInt (wCons (wOp oIx (wVar 0) (wC (.int 2))) wNil)) (wVar 1)) (gN 3))
    (sSeq (sAsg (wOp oDiv (wOp oIx (wVar 0) (wC (.int 2))) (wVar 1)) (gSubL (wVar 0) (wC (.int 2))))
    (sRet (wVar 3)))) { nx := fun _ S' => Q .non S', rt := fun d S' => Q d S' } [some (.loc b), some (.int many), o, none] S1 := fun S1 o i1 x1 y1 h1 h2 =>
    rest S1 o ⟨hbc, i1, x1, y1, cells, h1, by rw [h2 c hcb]; exact hc⟩ fun a ha _ => h2 a ha
  unfold W_take
  rw [sSeq_ev]
  simp [hb, hc, -sSeq_ev]
  split
  · split
    · rename_i h1 h2
      have h2' : i < cells.length := by omega
      have e1 : cells[i]? = some cells[i] := List.getElem?_eq_getElem h2'
      rw [sSeq_ev]
      simp [hb, hc, atI_cast, e1, -sSeq_ev]
      have mid : ∀ z : Int, (sSeq (sAsg (wOp oAdd (wOp oIx (wVar 0) (wC (.int 1))) (wC (.int 1))) (gSubL (wVar 0) (wC (.int 1))))
          (sSeq (sAsg (wCall C_mix (wCons (wOp oAdd (wOp oIx (wVar 0) (wC (.int 3))) (wVar 2)) wNil)) (gSubL (wVar 0) (wC (.int 3))))
          (sAsg (wIf (wTst (wOp oGe (wVar 2) (wOp oPow (wC (.int 10)) (wC (.int 18))))) (wVar 2) (wCall C_mix (wCons (wOp oAdd (wCall C_mix (wCons (wVar 2) wNil)) (wOp oIx (wVar 0) (wC (.int 1)))) wNil))) (gSubL (wVar 0) (wC (.int 2))))))
          { nx := sSeq (sAsg (wOp oMod (wCall cInt (wCons (wOp oIx (wVar 0) (wC (.int 2))) wNil)) (wVar 1)) (gN 3))
              (sSeq (sAsg (wOp oDiv (wOp oIx (wVar 0) (wC (.int 2))) (wVar 1)) (gSubL (wVar 0) (wC (.int 2))))
              (sRet (wVar 3))) { nx := fun x S' => Q F.non S', rt := fun d S' => Q d S' }, rt := fun d S' => Q d S' } [some (.loc b), some (.int many), some (.int z), none] S := fun z => by
        rw [sSeq_ev]
        simp [hb, -sSeq_ev]
        rw [sSeq_ev]
        simp [hb, -sSeq_ev]
        refine call_mix fun d => ?_
        simp [-sSeq_ev, cpow_18]
        split
        · refine fin _ _ (i + 1) z d ?_ fun a ha => by rw [updS_ne ha, updS_ne ha, updS_ne ha]
          rw [updS_same]
          simp
        · refine call_mix fun d1 => ?_
          simp [-sSeq_ev]
          refine call_mix fun d2 => ?_
          simp [-sSeq_ev]
          refine fin _ _ (i + 1) d2 d ?_ fun a ha => by rw [updS_ne ha, updS_ne ha, updS_ne ha]
          rw [updS_same]
          simp
      rw [sSeq_ev]
      simp [-sSeq_ev, mulOk, CMul]
      split
      · exact mid _
      · exact mid _
    · rw [sSeq_ev]
      simp [hb, -sSeq_ev]
      refine call_mix fun d => ?_
      simp [hb, -sSeq_ev]
      refine fin _ _ i d d ?_ fun a ha => by rw [updS_ne ha, updS_ne ha]
      rw [updS_same]
  · exact rest S none hbox Fr.refl
def W_spoiltRest (c__law_take : Ct) : WS :=
  (sSeq (sAsg (wFrz (wLst (wCons (wC .non) (wCons (wTup wNil) (wCons (wC (.int 0)) (wCons (wC (.int 1)) (wCons (wC (.bl true)) (wCons (wC (.bl false)) (wCons (wC (.str ("a" : Str))) (wCons (wNeg (wC (.int 1))) (wCons (wTup (wCons (wC (.int 0)) wNil)) (wCons (wTup (wCons (wTup (wCons (wC (.int 0)) (wCons (wC (.int 0)) wNil))) wNil)) wNil)))))))))))) (gN 3))
    (sSeq (sIf (wTst (wIsi "int" (wVar 1))) (sAsg (wOp oAdd (wVar 3) (wFrz (wLst (wCons (wOp oAdd (wVar 1) (wC (.int 1))) (wCons (wOp oSub (wVar 1) (wC (.int 1))) (wCons (wOp oEq (wVar 1) (wC (.int 1))) (wCons (wOp oAdd (wVar 1) (wC (.int 1))) wNil))))))) (gN 3)) sNext)
    (sSeq (sIf (wTst (wIsi "tuple" (wVar 1))) (sAsg (wOp oAdd (wVar 3) (wFrz (wLst (wCons (wSl (wVar 1) wNoPart (wPart (wNeg (wC (.int 1))))) (wCons (wOp oAdd (wVar 1) (wSl (wVar 1) (wPart (wNeg (wC (.int 1)))) wNoPart)) (wCons (wRev (wVar 1)) (wCons (wOp oAdd (wVar 1) (wTup (wCons (wTup (wCons (wC (.int 0)) (wCons (wC (.int 0)) wNil))) wNil))) (wCons (wTup (wCons (wVar 1) wNil)) (wCons (wSl (wVar 1) (wPart (wC (.int 1))) wNoPart) wNil))))))))) (gN 3)) sNext)
    (sRet (wOp oIx (wVar 3) (wCall c__law_take (wCons (wVar 0) (wCons (wCall cLen (wCons (wVar 3) wNil)) wNil))))))))
def W_spoilt (c__law_take : Ct) (c__law_spoilt : Ct) : WS :=
  (sSeq (sIf (bAnd (wTst (wIsi "tuple" (wVar 1))) (bAnd (wTst (wOp oGt (wCall cLen (wCons (wVar 1) wNil)) (wC (.int 0)))) (wTst (wOp oGt (wCall c__law_take (wCons (wVar 0) (wCons (wC (.int 4)) wNil))) (wC (.int 0)))))) (sSeq (sAsg (wCall c__law_take (wCons (wVar 0) (wCons (wCall cLen (wCons (wVar 1) wNil)) wNil))) (gN 2))
    (sSeq (sIf (wTst (wOp oEq (wCall c__law_take (wCons (wVar 0) (wCons (wC (.int 8)) wNil))) (wC (.int 0)))) (sRet (wOp oAdd (wSl (wVar 1) wNoPart (wPart (wVar 2))) (wSl (wVar 1) (wPart (wOp oAdd (wVar 2) (wC (.int 1)))) wNoPart))) sNext)
    (sRet (wOp oAdd (wOp oAdd (wSl (wVar 1) wNoPart (wPart (wVar 2))) (wTup (wCons (wCall c__law_spoilt (wCons (wVar 0) (wCons (wOp oIx (wVar 1) (wVar 2)) wNil))) wNil))) (wSl (wVar 1) (wPart (wOp oAdd (wVar 2) (wC (.int 1)))) wNoPart))))) sNext)
    (W_spoiltRest c__law_take))
def sAtom : F → Bool
  | .non => true
  | .int _ => true
  | _ => false
def sOk : Nat → F → Prop
  | 0, v => sAtom v = true
  | n + 1, v => sAtom v = true ∨ ∃ xs, v = .tup xs ∧ xs.length ≤ 100000 ∧ ∀ x ∈ xs, sOk n x
theorem sAtom_fz {v : F} (h : sAtom v = true) : fz v = true ∧ dep v = 0 := by
  cases v <;> first | exact ⟨rfl, rfl⟩ | cases h
theorem sOk_fz : ∀ {n : Nat} {v : F}, sOk n v → fz v = true ∧ dep v ≤ n
  | 0, v, h => ⟨(sAtom_fz h).1, Nat.le_of_eq (sAtom_fz h).2⟩
  | n + 1, v, h => by
    rcases h with h | ⟨xs, rfl, h1, h2⟩
    · exact ⟨(sAtom_fz h).1, by rw [(sAtom_fz h).2]; omega⟩
    · exact ⟨fz_tup_of (by omega) fun x hx => (sOk_fz (h2 x hx)).1, dep_tup fun x hx => (sOk_fz (h2 x hx)).2⟩
theorem sOk_atom {n : Nat} {v : F} (h : sAtom v = true) : sOk n v := by
  cases n with
  | zero => exact h
  | succ n => exact .inl h
theorem sOk_cases {n : Nat} {v : F} (h : sOk n v) : sAtom v = true ∨ ∃ k xs, n = k + 1 ∧ v = .tup xs ∧ xs.length ≤ 100000 ∧ ∀ x ∈ xs, fz x = true ∧ dep x ≤ k := by
  cases n with
  | zero => exact .inl h
  | succ n =>
    rcases h with h | ⟨xs, rfl, h1, h2⟩
    · exact .inl h
    · exact .inr ⟨n, xs, rfl, rfl, h1, fun x hx => sOk_fz (h2 x hx)⟩
def sBase : List F := [.non, .tup [], .int 0, .int 1, .bl true, .bl false, .str ("a" : Str), .int (-1), .tup [.int 0], .tup [.tup [.int 0, .int 0]]]
theorem sBase_ok : ∀ z ∈ sBase, fz z = true ∧ dep z ≤ 2 := by
  intro z hz
  simp [sBase] at hz
  rcases hz with rfl | rfl | rfl | rfl | rfl | rfl | rfl | rfl | rfl | rfl <;> exact ⟨by decide +kernel, by decide +kernel⟩
theorem spoiltRest {D : EndsD} {b c : Addr} {v : F} {o2 o3 : Option F} {S1 : Sto} {n : Nat} (hb : TapeAt S1 b c) (hv : sOk n v) (q : ∀ v' S', fz v' = true → dep v' ≤ n + 3 → TapeAt S' b c → Fr S1 S' b c → D.rt v' S') :
    W_spoiltRest C_take D [some (.loc b), some v, o2, o3] S1 := by
  have fin : ∀ L : List F, L.length ≤ 100 → 0 < L.length → (∀ z ∈ L, fz z = true ∧ dep z ≤ n + 3) → C_take [.loc b, .int L.length] S1 fun y S2 => oIx (.lst L) y S2 fun d S' => D.rt d S' := fun L l1 l2 hL =>
    call_take hb (by omega) (by omega) fun d S2 hd hb2 f2 => oIx_mem (by omega) fun z hz => q z S2 (hL z hz).1 (hL z hz).2 hb2 f2
  have base : ∀ z ∈ sBase, fz z = true ∧ dep z ≤ n + 3 := fun z hz => ⟨(sBase_ok z hz).1, by have := (sBase_ok z hz).2; omega⟩
  unfold W_spoiltRest
  rw [sSeq_ev]; simp [-sSeq_ev]
  rcases sOk_cases hv with ha | ⟨k, xs, rfl, rfl, h1, h2⟩
  · cases v with
    | non =>
      rw [sSeq_ev]; simp [-sSeq_ev]
      rw [sSeq_ev]; simp [-sSeq_ev]
      exact fin sBase (by decide) (by decide) base
    | int i =>
      rw [sSeq_ev]; simp [-sSeq_ev]
      rw [sSeq_ev]; simp [-sSeq_ev]
      refine fin (sBase ++ [.int (i + 1), .int (i - 1), .bl (i == 1), .int (i + 1)]) (by simp [sBase]) (by simp [sBase]) fun z hz => ?_
      rcases List.mem_append.mp hz with h | h
      · exact base z h
      · simp at h
        rcases h with rfl | rfl | rfl | rfl <;> exact ⟨rfl, Nat.zero_le _⟩
    | _ => cases ha
  · have hx : fz (.tup xs) = true := fz_tup_of (by omega) fun x hx => (h2 x hx).1
    have hd : dep (.tup xs) ≤ k + 1 := dep_tup fun x hx => (h2 x hx).2
    have l1 := cut_length xs (some (-1)) none
    rw [sSeq_ev]; simp [-sSeq_ev]
    rw [sSeq_ev]; simp [-sSeq_ev]
    refine ⟨mil (by omega), mil (by omega), ?_⟩
    have cutOk : ∀ lo hi, fz (.tup (cut xs lo hi)) = true ∧ dep (.tup (cut xs lo hi)) ≤ k + 1 + 3 := fun lo hi =>
      ⟨fz_tup_of (Nat.le_trans (cut_length ..) (by omega)) fun x hx => (h2 x (cut_mem hx)).1, Nat.le_trans (dep_tup fun x hx => (h2 x (cut_mem hx)).2) (by omega)⟩
    refine fin (sBase ++ [.tup (cut xs none (some (-1))), .tup (xs ++ cut xs (some (-1)) none), .tup xs.reverse, .tup (xs ++ [.tup [.int 0, .int 0]]), .tup [.tup xs], .tup (cut xs (some 1) none)]) (by simp [sBase]) (by simp [sBase]) fun z hz => ?_
    rcases List.mem_append.mp hz with h | h
    · exact base z h
    · simp at h
      rcases h with rfl | rfl | rfl | rfl | rfl | rfl
      · exact cutOk _ _
      · have hm : ∀ x ∈ xs ++ cut xs (some (-1)) none, fz x = true ∧ dep x ≤ k := fun x hx => by
          rcases List.mem_append.mp hx with h | h
          · exact h2 x h
          · exact h2 x (cut_mem h)
        exact ⟨fz_tup_of (by rw [List.length_append]; omega) fun x hx => (hm x hx).1, Nat.le_trans (dep_tup fun x hx => (hm x hx).2) (by omega)⟩
      · exact ⟨fz_tup_of (by rw [List.length_reverse]; omega) fun x hx => (h2 x (List.mem_reverse.mp hx)).1, Nat.le_trans (dep_tup fun x hx => (h2 x (List.mem_reverse.mp hx)).2) (by omega)⟩
      · have hm : ∀ x ∈ xs ++ [.tup [.int 0, .int 0]], fz x = true ∧ dep x ≤ k + 1 := fun x hx => by
          rcases List.mem_append.mp hx with h | h
          · exact ⟨(h2 x h).1, by have := (h2 x h).2; omega⟩
          · rw [List.mem_singleton.mp h]
            exact ⟨by decide +kernel, Nat.le_trans (show _ ≤ 1 by decide +kernel) (by omega)⟩
        exact ⟨fz_tup_of (by simp; omega) fun x hx => (hm x hx).1, Nat.le_trans (dep_tup fun x hx => (hm x hx).2) (by omega)⟩
      · exact ⟨fz_tup_of (by simp) fun x hx' => by rw [List.mem_singleton.mp hx']; exact hx, Nat.le_trans (dep_tup (n := k + 1) fun x hx' => by rw [List.mem_singleton.mp hx']; exact hd) (by omega)⟩
      · exact cutOk _ _
def C_spoilt (n : Nat) : Ct := fun xs S Q => ∃ b c v, xs = [.loc b, v] ∧ TapeAt S b c ∧ sOk n v ∧ ∀ v' S', fz v' = true → dep v' ≤ n + 3 → TapeAt S' b c → Fr S S' b c → Q v' S'
theorem mono_C_spoilt {n : Nat} : MonoC (C_spoilt n) := fun xs S Q Q' k ⟨b, c, v, e, h1, h2, q⟩ => ⟨b, c, v, e, h1, h2, fun v' S' h1 h2 h3 h4 => k _ _ (q v' S' h1 h2 h3 h4)⟩
theorem call_spoilt {n : Nat} {b c : Addr} {S : Sto} {Q : F → Sto → Prop} {v : F} (h : TapeAt S b c) (hv : sOk n v) (q : ∀ v' S', fz v' = true → dep v' ≤ n + 3 → TapeAt S' b c → Fr S S' b c → Q v' S') : C_spoilt n [.loc b, v] S Q := ⟨b, c, v, rfl, h, hv, q⟩
theorem sp_spoilt0 (fs : List F) (S : Sto) (Q) (h : C_spoilt 0 fs S Q) : fs.length = 2 ∧ W_spoilt C_take C_never { nx := fun _ S' => Q .non S', rt := fun d S' => Q d S' } (startF 4 fs) S := by
  obtain ⟨b, c, v, rfl, hb, hv, q⟩ := h
  refine ⟨rfl, ?_⟩
  show W_spoilt _ _ _ [some (.loc b), some v, none, none] S
  have := spoiltRest (D := { nx := fun _ S' => Q .non S', rt := fun d S' => Q d S' }) (o2 := none) (o3 := none) hb hv q
  unfold W_spoilt
  rw [sSeq_ev]
  have hv : sAtom v = true := hv
  cases v with
  | non => simpa [-sSeq_ev] using this
  | int i => simpa [-sSeq_ev] using this
  | _ => cases hv
theorem sp_spoilt (n : Nat) (fs : List F) (S : Sto) (Q) (h : C_spoilt (n + 1) fs S Q) : fs.length = 2 ∧ W_spoilt C_take (C_spoilt n) { nx := fun _ S' => Q .non S', rt := fun d S' => Q d S' } (startF 4 fs) S := by
  obtain ⟨b, c, v, rfl, hb, hv, q⟩ := h
  refine ⟨rfl, ?_⟩
  show W_spoilt _ _ _ [some (.loc b), some v, none, none] S
  have rest : ∀ S1, TapeAt S1 b c → Fr S S1 b c → W_spoiltRest C_take { nx := fun _ S' => Q .non S', rt := fun d S' => Q d S' } [some (.loc b), some v, none, none] S1 := fun S1 h1 f1 =>
    spoiltRest h1 hv fun v' S' a1 a4 a2 a3 => q v' S' a1 a4 a2 (f1.trans a3)
  unfold W_spoilt
  rw [sSeq_ev]
  have hv' : sAtom v = true ∨ ∃ xs, v = .tup xs ∧ xs.length ≤ 100000 ∧ ∀ x ∈ xs, sOk n x := hv
  rcases hv' with ha | ⟨xs, rfl, h1, h2⟩
  · cases v with
    | non => simpa [-sSeq_ev] using rest S hb Fr.refl
    | int i => simpa [-sSeq_ev] using rest S hb Fr.refl
    | _ => cases ha
  · by_cases h0 : 0 < xs.length
    · have h0' : (0 : Int) < xs.length := by omega
      simp [-sSeq_ev, h0]
      refine call_take hb (by decide) (by decide) fun d S1 hd hb1 f1 => ?_
      simp [-sSeq_ev]
      split
      · rename_i hd0
        rw [sSeq_ev]
        simp [-sSeq_ev]
        refine call_take hb1 h0' (by omega) fun at' S2 ha hb2 f2 => ?_
        have hat : at' < xs.length := by omega
        have e1 : xs[at']? = some xs[at'] := List.getElem?_eq_getElem hat
        rw [sSeq_ev]
        simp [-sSeq_ev]
        refine call_take hb2 (by decide) (by decide) fun e S3 he hb3 f3 => ?_
        have l1 := cut_length xs none (some (at' : Int))
        have l2 := cut_length xs (some ((at' : Int) + 1)) none
        have hxs : ∀ x ∈ xs, fz x = true ∧ dep x ≤ n := fun x hx => sOk_fz (h2 x hx)
        simp
        split
        · refine ⟨mil (by omega), q _ S3 ?_ ?_ hb3 ((f1.trans f2).trans f3)⟩
          · refine fz_tup_of (by rw [List.length_append]; omega) fun x hx => ?_
            rcases List.mem_append.mp hx with h | h
            · exact (hxs x (cut_mem h)).1
            · exact (hxs x (cut_mem h)).1
          · refine Nat.le_trans (dep_tup (n := n) fun x hx => ?_) (by omega)
            rcases List.mem_append.mp hx with h | h
            · exact (hxs x (cut_mem h)).2
            · exact (hxs x (cut_mem h)).2
        · simp [atI_cast, e1]
          refine call_spoilt hb3 (h2 _ (List.getElem_mem hat)) fun v' S4 hz hdz hb4 f4 => ?_
          simp [set_cutF _ hat]
          refine ⟨mil (by omega), mil (by omega), q _ S4 ?_ ?_ hb4 (((f1.trans f2).trans f3).trans f4)⟩
          · unfold fz
            rw [fz_set (fzL_of fun x hx => (hxs x hx).1) hz, List.length_set, Bool.and_true]
            exact decide_eq_true (by omega)
          · refine Nat.le_trans (dep_tup (n := n + 3) fun x hx => ?_) (by omega)
            rcases List.mem_or_eq_of_mem_set hx with h | h
            · have := (hxs x h).2
              omega
            · rw [h]
              exact hdz
      · exact rest S1 hb1 f1
    · simpa [-sSeq_ev, h0] using rest S hb Fr.refl
section
variable {P : Program} {w : World} {K : PySem.W.Frag} {mg : Str → Option Value} {base : Heap}
theorem spoilt_cal {params : Arguments} {body : List Stmt} {scope : Scope} {f : Addr} {fd : FuncData}
    (ok : ∀ (lv : Nat), 2 ≤ lv → ∀ {Crec C : Ct}, Cal P w K mg base lv "_law_spoilt" ["tape", "value"] Crec → MonoC C → (∀ fs S Q, C fs S Q → fs.length = 2 ∧ W_spoilt C_take Crec { nx := fun _ S' => Q .non S', rt := fun d S' => Q d S' } (startF 4 fs) S) → FnD P w K mg base (lv + 1) f fd ["tape", "value"] C)
    (F : FunD K "_law_spoilt" "_law_spoilt" params body scope [] [] f fd) (g : mg "_law_spoilt" = some (.ref f)) (b : L2.Binds K fd ["tape", "value"] []) : ∀ n, Cal P w K mg base (n + 3) "_law_spoilt" ["tape", "value"] (C_spoilt n)
  | 0 => cal_of F g b (ok 2 (Nat.le_refl 2) (cal_never_at 2 F g b) mono_C_spoilt sp_spoilt0)
  | n + 1 => cal_of F g b (ok (n + 3) (by omega) (spoilt_cal ok F g b n) mono_C_spoilt (sp_spoilt n))
end
end DL

set_option maxHeartbeats 4000000
namespace DL
open PySem PySem.Spec PyProof.Rows L2
/-! ### tables of ints -/
def W_is_row (c_is_count : Ct) : WS :=
  (sRet (wAnd (wIsi "tuple" (wVar 0)) (wAnd (wOp oEq (wCall cLen (wCons (wVar 0) wNil)) (wVar 1)) (wCall cAll (wCons (wFrz (wComp [2] (wIt (wVar 0)) (gN 2) wYes (wCall c_is_count (wCons (wVar 2) (wCons (wC (.int 0)) (wCons (wC (.int 1)) wNil)))))) wNil)))))
def W_is_table (c_is_row : Ct) : WS :=
  (sSeq (sIf (bOr (bNot (wTst (wIsi "tuple" (wVar 0)))) (bOr (bNot (wTst (wChain oLe oLe (wC (.int 1)) (wCall cLen (wCons (wVar 0) wNil)) (wC (.int 16))))) (bNot (wTst (wIsi "tuple" (wOp oIx (wVar 0) (wC (.int 0)))))))) (sRet (wC (.bl false))) sNext)
    (sSeq (sAsg (wCall cLen (wCons (wOp oIx (wVar 0) (wC (.int 0))) wNil)) (gN 1))
    (sRet (wAnd (wChain oLe oLe (wC (.int 1)) (wVar 1) (wC (.int 16))) (wCall cAll (wCons (wFrz (wComp [2] (wIt (wVar 0)) (gN 2) wYes (wCall c_is_row (wCons (wVar 2) (wCons (wVar 1) wNil))))) wNil))))))
def W_row_sums : WS :=
  (sRet (wCall cTuple (wCons (wFrz (wComp [1] (wIt (wVar 0)) (gN 1) wYes (wCall cSum (wCons (wVar 1) wNil)))) wNil)))
def W_turned : WS :=
  (sRet (wCall cTuple (wCons (wFrz (wComp [1] (wRange1 (wCons (wCall cLen (wCons (wOp oIx (wVar 0) (wC (.int 0))) wNil)) wNil)) (gN 1) wYes (wCall cTuple (wCons (wFrz (wComp [2] (wIt (wVar 0)) (gN 2) wYes (wOp oIx (wVar 2) (wVar 1)))) wNil)))) wNil)))
def W_column_sums (c_row_sums : Ct) (c_turned : Ct) : WS :=
  (sRet (wCall c_row_sums (wCons (wCall c_turned (wCons (wVar 0) wNil)) wNil)))
def W_with_cell : WS :=
  (sSeq (sAsg (wOp oAdd (wOp oAdd (wSl (wOp oIx (wVar 0) (wVar 1)) wNoPart (wPart (wVar 2))) (wTup (wCons (wVar 3) wNil))) (wSl (wOp oIx (wVar 0) (wVar 1)) (wPart (wOp oAdd (wVar 2) (wC (.int 1)))) wNoPart)) (gN 4))
    (sRet (wOp oAdd (wOp oAdd (wSl (wVar 0) wNoPart (wPart (wVar 1))) (wTup (wCons (wVar 4) wNil))) (wSl (wVar 0) (wPart (wOp oAdd (wVar 1) (wC (.int 1)))) wNoPart))))
def W_sums : WS :=
  (sRet (wTup (wCons (wCall cTuple (wCons (wFrz (wComp [1] (wIt (wVar 0)) (gN 1) wYes (wCall cSum (wCons (wVar 1) wNil)))) wNil)) (wCons (wCall cTuple (wCons (wFrz (wComp [2] (wRange1 (wCons (wCall cLen (wCons (wOp oIx (wVar 0) (wC (.int 0))) wNil)) wNil)) (gN 2) wYes (wCall cSum (wCons (wFrz (wComp [1] (wIt (wVar 0)) (gN 1) wYes (wOp oIx (wVar 1) (wVar 2)))) wNil)))) wNil)) wNil))))
def isRow : F → Int → Bool
  | .tup xs, n => ((xs.length : Int) == n) && xs.all (fun c => isCount c 0 1)
  | _, _ => false
def isTab : F → Bool
  | .tup (.tup r :: xs) => decide (xs.length + 1 ≤ 16) && (decide (1 ≤ r.length ∧ r.length ≤ 16) && (F.tup r :: xs).all (fun c => isRow c r.length))
  | _ => false
def C_is_row : Ct := fun xs S Q => ∃ v n, xs = [v, .int n] ∧ fz v = true ∧ Q (.bl (isRow v n)) S
def C_is_table : Ct := fun xs S Q => ∃ v, xs = [v] ∧ fz v = true ∧ Q (.bl (isTab v)) S
theorem mono_C_is_row : MonoC C_is_row := fun xs S Q Q' k ⟨v, n, e, h, q⟩ => ⟨v, n, e, h, k _ _ q⟩
theorem mono_C_is_table : MonoC C_is_table := fun xs S Q Q' k ⟨v, e, h, q⟩ => ⟨v, e, h, k _ _ q⟩
theorem sp_is_row (fs : List F) (S : Sto) (Q) (h : C_is_row fs S Q) : fs.length = 2 ∧ W_is_row C_count { nx := fun _ S' => Q .non S', rt := fun d S' => Q d S' } (startF 3 fs) S := by
  obtain ⟨v, n, rfl, hv, q⟩ := h
  refine ⟨rfl, ?_⟩
  show W_is_row _ _ [some v, some (.int n), none] S
  cases v with
  | tup xs =>
    obtain ⟨hl, hz⟩ := fz_tup hv
    simp [W_is_row]
    split
    · rename_i e
      refine ⟨mil hl, ?_⟩
      refine compL_map (fun x => .bl (isCount x 0 1)) trivial _ _ (fun x hx Q2 q2 => ?_) ?_
      · simp
        exact ⟨x, 0, 1, rfl, fz_mem hz hx, q2⟩
      · rw [List.nil_append, show (xs.map fun x => F.bl (isCount x 0 1)) = (xs.map fun x => isCount x 0 1).map F.bl by rw [List.map_map]; rfl, cAll_l]
        simpa [isRow, e, List.all_map] using q
    · rename_i e
      have : ((xs.length : Int) == n) = false := beq_eq_false_iff_ne.mpr e
      simpa [isRow, this] using q
  | _ => simpa [W_is_row, isiOk_fz hv, isRow] using q
theorem sp_is_table (fs : List F) (S : Sto) (Q) (h : C_is_table fs S Q) : fs.length = 1 ∧ W_is_table C_is_row { nx := fun _ S' => Q .non S', rt := fun d S' => Q d S' } (startF 3 fs) S := by
  obtain ⟨v, rfl, hv, q⟩ := h
  refine ⟨rfl, ?_⟩
  show W_is_table _ _ [some v, none, none] S
  cases v with
  | tup xs =>
    obtain ⟨hl, hz⟩ := fz_tup hv
    cases xs with
    | nil => simpa [W_is_table, isTab] using q
    | cons r xs =>
      have hr : fz r = true := fz_mem hz (List.mem_cons_self ..)
      have c1 : (1 : Int) ≤ xs.length + 1 := by omega
      by_cases h16 : xs.length + 1 ≤ 16
      · have c2 : (xs.length : Int) + 1 ≤ 16 := by omega
        cases r with
        | tup r =>
          by_cases h1 : 1 ≤ r.length
          · have c3 : (1 : Int) ≤ r.length := by omega
            by_cases h2 : r.length ≤ 16
            · have c4 : (r.length : Int) ≤ 16 := by omega
              simp [W_is_table, -compL_cons, c1, c2, c3, c4]
              refine ⟨mil hl, ?_⟩
              refine compL_map (fun x => .bl (isRow x r.length)) trivial _ _ (fun x hx Q2 q2 => ?_) ?_
              · simp
                exact ⟨x, r.length, rfl, fz_mem hz hx, q2⟩
              · rw [List.nil_append, all_bl, cAll_l]
                simpa [isTab, h16, h1, h2] using q
            · have c4 : ¬ (r.length : Int) ≤ 16 := by omega
              simpa [W_is_table, -compL_cons, c1, c2, c3, c4, isTab, h2] using q
          · have c3 : ¬ (1 : Int) ≤ r.length := by omega
            simpa [W_is_table, -compL_cons, c1, c2, c3, isTab, h1] using q
        | _ => simpa [W_is_table, -compL_cons, isiOk_fz hr, c1, c2, isTab] using q
      · have c2 : ¬ (xs.length : Int) + 1 ≤ 16 := by omega
        cases r <;> simpa [W_is_table, -compL_cons, isiOk_fz hr, c1, c2, isTab, h16] using q
  | _ => simpa [W_is_table, isiOk_fz hv, isTab] using q
/-! tables of ints -/
abbrev Tb := List (List Int)
def rowF (r : List Int) : F := .tup (r.map F.int)
def tabF (t : Tb) : F := .tup (t.map rowF)
def turn (t : Tb) (n : Nat) : Tb := (List.range n).map fun j => t.map fun r => r.getD j 0
structure Rect (t : Tb) (m n : Nat) : Prop where
  len : t.length = m
  row : ∀ r ∈ t, r.length = n
  m1 : 1 ≤ m
  m2 : m ≤ 16
  n1 : 1 ≤ n
  n2 : n ≤ 16
theorem Rect.cons {t : Tb} {m n : Nat} (h : Rect t m n) : ∃ r t', t = r :: t' ∧ r.length = n := by
  cases t with
  | nil =>
    have := h.len
    have := h.m1
    simp at *
    omega
  | cons r t => exact ⟨r, t, rfl, h.row r (List.mem_cons_self ..)⟩
def C_row_sums : Ct := fun xs S Q => ∃ t m n, xs = [tabF t] ∧ Rect t m n ∧ Q (.tup (t.map fun r => .int r.sum)) S
def C_turned : Ct := fun xs S Q => ∃ t m n, xs = [tabF t] ∧ Rect t m n ∧ Q (tabF (turn t n)) S
def C_column_sums : Ct := fun xs S Q => ∃ t m n, xs = [tabF t] ∧ Rect t m n ∧ Q (.tup ((turn t n).map fun r => .int r.sum)) S
def setc (t : Tb) (i j : Nat) (v : Int) : Tb := t.set i ((t.getD i []).set j v)
def C_with_cell : Ct := fun xs S Q => ∃ t m n, ∃ i j : Nat, ∃ v : Int, xs = [tabF t, .int i, .int j, .int v] ∧ Rect t m n ∧ i < m ∧ j < n ∧ Q (tabF (setc t i j v)) S
theorem mono_C_row_sums : MonoC C_row_sums := fun xs S Q Q' k ⟨t, m, n, e, h, q⟩ => ⟨t, m, n, e, h, k _ _ q⟩
theorem mono_C_turned : MonoC C_turned := fun xs S Q Q' k ⟨t, m, n, e, h, q⟩ => ⟨t, m, n, e, h, k _ _ q⟩
theorem mono_C_column_sums : MonoC C_column_sums := fun xs S Q Q' k ⟨t, m, n, e, h, q⟩ => ⟨t, m, n, e, h, k _ _ q⟩
theorem mono_C_with_cell : MonoC C_with_cell := fun xs S Q Q' k ⟨t, m, n, i, j, v, e, h, h2, h3, q⟩ => ⟨t, m, n, i, j, v, e, h, h2, h3, k _ _ q⟩
theorem sp_row_sums (fs : List F) (S : Sto) (Q) (h : C_row_sums fs S Q) : fs.length = 1 ∧ W_row_sums { nx := fun _ S' => Q .non S', rt := fun d S' => Q d S' } (startF 2 fs) S := by
  obtain ⟨t, m, n, rfl, hr, q⟩ := h
  refine ⟨rfl, ?_⟩
  show W_row_sums _ [some (tabF t), none] S
  have hl := hr.len
  have hm := hr.m2
  simp [W_row_sums, tabF]
  refine ⟨mil (by omega), ?_⟩
  refine compL_mapT rowF (fun r => .int r.sum) trivial _ _ (fun r _ Q2 q2 => ?_) q
  simpa [rowF] using q2
theorem sp_turned (fs : List F) (S : Sto) (Q) (h : C_turned fs S Q) : fs.length = 1 ∧ W_turned { nx := fun _ S' => Q .non S', rt := fun d S' => Q d S' } (startF 3 fs) S := by
  obtain ⟨t, m, n, rfl, hr, q⟩ := h
  refine ⟨rfl, ?_⟩
  show W_turned _ [some (tabF t), none, none] S
  have hl := hr.len
  have hm := hr.m2
  have hn := hr.n2
  obtain ⟨r0, t', et, e0⟩ := hr.cons
  have e1 : (t.map rowF)[0]? = some (rowF r0) := by rw [et]; rfl
  simp [W_turned, tabF, -compL_cons, -List.getElem?_map, e1]
  simp [rowF, -compL_cons, e0]
  refine ⟨by omega, mil (by omega), ?_⟩
  refine compL_mapT (fun i : Nat => F.int (0 + (i : Int))) (fun j => rowF (t.map fun r => r.getD j 0)) trivial (List.range n) _ (fun j hj Q2 q2 => ?_) ?_
  · have hj := List.mem_range.mp hj
    simp
    refine ⟨mil (by omega), ?_⟩
    refine compL_mapT rowF (fun r => .int (r.getD j 0)) trivial _ _ (fun r hr' Q3 q3 => ?_) ?_
    · have : j < r.length := by rw [hr.row r hr']; exact hj
      have e : r[j]? = some r[j] := List.getElem?_eq_getElem this
      simpa [rowF, atI_cast, e, List.getD] using q3
    · simpa [rowF, List.map_map, Function.comp_def] using q2
  · simpa [tabF, turn, List.map_map, Function.comp_def] using q
theorem turn_rect {t : Tb} {m n : Nat} (h : Rect t m n) : Rect (turn t n) n m := by
  refine ⟨by simp [turn], fun r hr => ?_, h.n1, h.n2, h.m1, h.m2⟩
  unfold turn at hr
  obtain ⟨j, _, rfl⟩ := List.mem_map.mp hr
  rw [List.length_map, h.len]
theorem sp_column_sums (fs : List F) (S : Sto) (Q) (h : C_column_sums fs S Q) : fs.length = 1 ∧ W_column_sums C_row_sums C_turned { nx := fun _ S' => Q .non S', rt := fun d S' => Q d S' } (startF 1 fs) S := by
  obtain ⟨t, m, n, rfl, hr, q⟩ := h
  refine ⟨rfl, ?_⟩
  show W_column_sums _ _ _ [some (tabF t)] S
  simp [W_column_sums]
  exact ⟨t, m, n, rfl, hr, turn t n, n, m, rfl, turn_rect hr, q⟩
theorem sp_with_cell (fs : List F) (S : Sto) (Q) (h : C_with_cell fs S Q) : fs.length = 4 ∧ W_with_cell { nx := fun _ S' => Q .non S', rt := fun d S' => Q d S' } (startF 5 fs) S := by
  obtain ⟨t, m, n, i, j, v, rfl, hr, hi, hj, q⟩ := h
  refine ⟨rfl, ?_⟩
  show W_with_cell _ [some (tabF t), some (.int i), some (.int j), some (.int v), none] S
  have hl := hr.len
  have hm := hr.m2
  have hn := hr.n2
  have hi' : i < t.length := by omega
  have e1 : t[i]? = some t[i] := List.getElem?_eq_getElem hi'
  have hrow : t[i].length = n := hr.row _ (List.getElem_mem hi')
  have a1 : cut (t[i].map F.int) none (some (j : Int)) = (t[i].take j).map F.int := by rw [cut_to _ (by rw [List.length_map]; omega), List.map_take]
  have a2 : cut (t[i].map F.int) (some ((j : Int) + 1)) none = (t[i].drop (j + 1)).map F.int := by rw [cut_from1 _ (by rw [List.length_map]; omega), List.map_drop]
  have a3 : cut (t.map rowF) none (some (i : Int)) = (t.take i).map rowF := by rw [cut_to _ (by rw [List.length_map]; omega), List.map_take]
  have a4 : cut (t.map rowF) (some ((i : Int) + 1)) none = (t.drop (i + 1)).map rowF := by rw [cut_from1 _ (by rw [List.length_map]; omega), List.map_drop]
  simp [W_with_cell, tabF, atI_cast, e1, a3, a4]
  simp [rowF, a1, a2]
  refine ⟨mil (by omega), mil (by omega), mil (by omega), mil (by omega), ?_⟩
  have b1 : (t[i].take j).map F.int ++ F.int v :: (t[i].drop (j + 1)).map F.int = (t[i].set j v).map F.int := by
    rw [← set_cut t[i] (by omega) v]
    simp
  have b2 : tabF (setc t i j v) = .tup ((t.take i).map rowF ++ rowF (t[i].set j v) :: (t.drop (i + 1)).map rowF) := by
    unfold tabF setc
    rw [List.getD_eq_getElem?_getD, e1]
    rw [show (some t[i]).getD [] = t[i] from rfl, ← set_cut t hi' _]
    simp
  rw [b2] at q
  simpa [rowF, ← b1] using q
/-! the law's own -/
structure Tab (t : Tb) (m n : Nat) : Prop extends Rect t m n where
  bit : ∀ r ∈ t, ∀ x ∈ r, x = 0 ∨ x = 1
def C_sums : Ct := fun xs S Q => ∃ t m n, xs = [tabF t] ∧ Rect t m n ∧ Q (.tup [.tup (t.map fun r => .int r.sum), .tup ((turn t n).map fun r => .int r.sum)]) S
theorem mono_C_sums : MonoC C_sums := fun xs S Q Q' k ⟨t, m, n, e, h, q⟩ => ⟨t, m, n, e, h, k _ _ q⟩
theorem sp_sums (fs : List F) (S : Sto) (Q) (h : C_sums fs S Q) : fs.length = 1 ∧ W_sums { nx := fun _ S' => Q .non S', rt := fun d S' => Q d S' } (startF 3 fs) S := by
  obtain ⟨t, m, n, rfl, hr, q⟩ := h
  refine ⟨rfl, ?_⟩
  show W_sums _ [some (tabF t), none, none] S
  have hl := hr.len
  have hm := hr.m2
  have hn := hr.n2
  obtain ⟨r0, t', et, e0⟩ := hr.cons
  have e1 : (t.map rowF)[0]? = some (rowF r0) := by rw [et]; rfl
  simp [W_sums, tabF, -compL_cons]
  refine ⟨mil (by omega), ?_⟩
  refine compL_mapT rowF (fun r => .int r.sum) trivial _ _ (fun r _ Q2 q2 => by simpa [rowF] using q2) ?_
  have e2 : t[0]? = some r0 := by rw [et]; rfl
  simp [rowF, -compL_cons, e0, e2]
  refine ⟨by omega, mil (by omega), ?_⟩
  refine compL_mapT (fun i : Nat => F.int (0 + (i : Int))) (fun j => .int (t.map fun r => r.getD j 0).sum) trivial (List.range n) _ (fun j hj Q2 q2 => ?_) ?_
  · have hj := List.mem_range.mp hj
    simp
    refine ⟨mil (by omega), ?_⟩
    refine compL_mapT rowF (fun r => .int (r.getD j 0)) trivial _ _ (fun r hr' Q3 q3 => ?_) ?_
    · have : j < r.length := by rw [hr.row r hr']; exact hj
      have e : r[j]? = some r[j] := List.getElem?_eq_getElem this
      simpa [rowF, atI_cast, e, List.getD] using q3
    · rw [List.nil_append, show (t.map fun r => F.int (r.getD j 0)) = (t.map fun r => r.getD j 0).map F.int by rw [List.map_map]; rfl, cSum_l]
      exact q2
  · simp
    simpa [turn, List.map_map, Function.comp_def] using q
theorem fz_row {r : List Int} (h : r.length ≤ 1000000) : fz (rowF r) = true := by
  unfold rowF fz
  rw [fz_ints, List.length_map, Bool.and_true]
  exact decide_eq_true h
@[simp, simp ↓] theorem cLen_tab {t : Tb} {S : Sto} {Q : F → Sto → Prop} : cLen [tabF t] S Q = Q (.int t.length) S := by
  simp [tabF]
@[simp, simp ↓] theorem cLen_row {t : List Int} {S : Sto} {Q : F → Sto → Prop} : cLen [rowF t] S Q = Q (.int t.length) S := by
  simp [rowF]
theorem ix_tab {t : Tb} {i : Nat} {r : List Int} {S : Sto} {Q : F → Sto → Prop} (h : t[i]? = some r) : oIx (tabF t) (.int (i : Int)) S Q = Q (rowF r) S := by
  simp [tabF, atI_cast, h]
theorem ix_row {t : List Int} {i : Nat} {r : Int} {S : Sto} {Q : F → Sto → Prop} (h : t[i]? = some r) : oIx (rowF t) (.int (i : Int)) S Q = Q (.int r) S := by
  simp [rowF, atI_cast, h]
theorem isRow_ok {r : List Int} {n : Nat} (hl : r.length = n) (h : ∀ x ∈ r, x = 0 ∨ x = 1) : isRow (rowF r) n = true := by
  show (_ && _) = true
  rw [Bool.and_eq_true]
  refine ⟨by simp [hl], ?_⟩
  rw [List.all_map, List.all_eq_true]
  intro x hx
  rcases h x hx with rfl | rfl <;> rfl
theorem isTab_ok {t : Tb} {m n : Nat} (h : Tab t m n) : isTab (tabF t) = true := by
  obtain ⟨r0, t', et, e0⟩ := h.toRect.cons
  have hl := h.len
  have hm := h.m2
  have hn := h.n2
  have hn1 := h.n1
  have : (t.map rowF).all (fun c => isRow c n) = true := by
    rw [List.all_map, List.all_eq_true]
    exact fun r hr => isRow_ok (h.row r hr) (h.bit r hr)
  unfold tabF
  rw [et] at this hl ⊢
  simp only [List.map_cons, List.length_cons] at this hl ⊢
  show (decide _ && (decide _ && _)) = true
  rw [Bool.and_eq_true, Bool.and_eq_true, decide_eq_true_eq, decide_eq_true_eq, List.length_map, List.length_map, e0]
  exact ⟨by omega, ⟨by omega, by omega⟩, this⟩
theorem fz_tab {t : Tb} {m n : Nat} (h : Rect t m n) : fz (tabF t) = true := by
  have hl := h.len
  have hm := h.m2
  have hn := h.n2
  unfold tabF fz
  rw [List.length_map, Bool.and_eq_true, decide_eq_true_eq, fzL_all, List.all_map, List.all_eq_true]
  exact ⟨by omega, fun r hr => fz_row (by rw [h.row r hr]; omega)⟩
theorem dep_row (r : List Int) : dep (rowF r) ≤ 1 := by
  unfold rowF dep
  have : depL (r.map F.int) ≤ 0 := depL_le fun x hx => by
    obtain ⟨i, _, rfl⟩ := List.mem_map.mp hx
    exact Nat.zero_le _
  omega
theorem dep_tab (t : Tb) : dep (tabF t) ≤ 2 := by
  unfold tabF dep
  have : depL (t.map rowF) ≤ 1 := depL_le fun x hx => by
    obtain ⟨i, _, rfl⟩ := List.mem_map.mp hx
    exact dep_row i
  omega
theorem fz_sums {t : Tb} {k : Nat} (hl : t.length = k) (h : k ≤ 16) : fz (.tup (t.map fun r => .int r.sum)) = true := by
  have : (t.map fun r => F.int r.sum) = (t.map List.sum).map F.int := by rw [List.map_map]; rfl
  rw [this]
  exact fz_row (by rw [List.length_map]; omega)
theorem dep_sums (t : Tb) (k : Nat) : dep (.tup (t.map fun r => .int r.sum)) ≤ k + 1 := by
  have : (t.map fun r => F.int r.sum) = (t.map List.sum).map F.int := by rw [List.map_map]; rfl
  rw [this]
  exact Nat.le_trans (dep_row _) (by omega)
theorem setc_tab {t : Tb} {m n i j : Nat} (h : Tab t m n) (hi : i < m) (hj : j < n) {v : Int} (hv : v = 0 ∨ v = 1) : Tab (setc t i j v) m n := by
  have hl := h.len
  have hit : i < t.length := by omega
  have hr : t.getD i [] ∈ t := by
    rw [List.getD_eq_getElem?_getD, List.getElem?_eq_getElem hit]
    exact List.getElem_mem hit
  refine ⟨⟨by rw [setc, List.length_set]; exact hl, fun r hr2 => ?_, h.m1, h.m2, h.n1, h.n2⟩, fun r hr2 x hx => ?_⟩
  · rcases List.mem_or_eq_of_mem_set hr2 with h2 | h2
    · exact h.row r h2
    · rw [h2, List.length_set]
      exact h.row _ hr
  · rcases List.mem_or_eq_of_mem_set hr2 with h2 | h2
    · exact h.bit r h2 x hx
    · rw [h2] at hx
      rcases List.mem_or_eq_of_mem_set hx with h3 | h3
      · exact h.bit _ hr x h3
      · rw [h3]
        exact hv
theorem setc_get {t : Tb} {m n i j a b : Nat} (h : Tab t m n) (hi : i < m) (hj : j < n) (ha : a < m) (hb : b < n) {v : Int} : ((setc t i j v).getD a []).getD b 0 = if a = i ∧ b = j then v else (t.getD a []).getD b 0 := by
  have hl := h.len
  have hit : i < t.length := by omega
  have hr : (t.getD i []).length = n := by
    rw [List.getD_eq_getElem?_getD, List.getElem?_eq_getElem hit]
    exact h.row _ (List.getElem_mem hit)
  unfold setc
  by_cases e : a = i
  · subst e
    rw [List.getD_eq_getElem?_getD (l := t.set _ _), List.getElem?_set_self hit]
    show ((t.getD a []).set j v).getD b 0 = _
    by_cases e2 : b = j
    · subst e2
      rw [if_pos ⟨rfl, rfl⟩, List.getD_eq_getElem?_getD, List.getElem?_set_self (by omega)]
      rfl
    · rw [if_neg (fun z => e2 z.2), List.getD_eq_getElem?_getD, List.getElem?_set_ne (Ne.symm e2), ← List.getD_eq_getElem?_getD]
  · rw [if_neg (fun z => e z.1), List.getD_eq_getElem?_getD (l := t.set _ _), List.getElem?_set_ne (Ne.symm e), ← List.getD_eq_getElem?_getD]
/-! ### of a tape: a table; a row mixed -/
def W_tableT (c__law_take : Ct) : WS :=
  (sSeq (sAsg (wOp oAdd (wC (.int 1)) (wCall c__law_take (wCons (wVar 0) (wCons (wC (.int 4)) wNil)))) (gN 3))
    (sRet (wCall cTuple (wCons (wFrz (wComp [4] (wRange1 (wCons (wVar 1) wNil)) (gN 4) wYes (wCall cTuple (wCons (wFrz (wComp [5] (wRange1 (wCons (wVar 2) wNil)) (gN 5) wYes (wCall cInt (wCons (wOp oLt (wCall c__law_take (wCons (wVar 0) (wCons (wC (.int 5)) wNil))) (wVar 3)) wNil)))) wNil)))) wNil))))
def W_mixed (c__law_take : Ct) : WS :=
  (sSeq (sAsg (wOwn (wCall cList (wCons (wVar 1) wNil))) (gN 2))
    (sRet (wFrz (wComp [3] (wRange1 (wCons (wCall cLen (wCons (wVar 1) wNil)) wNil)) (gN 3) wYes (wMt mPopAt (wVar 2) (wCons (wCall c__law_take (wCons (wVar 0) (wCons (wCall cLen (wCons (wVar 2) wNil)) wNil))) wNil))))))
def C_tableT : Ct := fun xs S Q => ∃ b c, ∃ m n : Nat, xs = [.loc b, .int (m : Int), .int (n : Int)] ∧ TapeAt S b c ∧ 1 ≤ m ∧ m ≤ 16 ∧ 1 ≤ n ∧ n ≤ 16 ∧ ∀ t S', Tab t m n → TapeAt S' b c → Fr S S' b c → Q (tabF t) S'
theorem mono_C_tableT : MonoC C_tableT := fun xs S Q Q' k ⟨b, c, m, n, e, h, h1, h2, h3, h4, q⟩ => ⟨b, c, m, n, e, h, h1, h2, h3, h4, fun t S' h1 h2 h3 => k _ _ (q t S' h1 h2 h3)⟩
theorem sp_tableT (fs : List F) (S : Sto) (Q) (h : C_tableT fs S Q) : fs.length = 3 ∧ W_tableT C_take { nx := fun _ S' => Q .non S', rt := fun d S' => Q d S' } (startF 6 fs) S := by
  obtain ⟨b, c, m, n, rfl, hb, m1, m2, n1, n2, q⟩ := h
  refine ⟨rfl, ?_⟩
  show W_tableT _ _ [some (.loc b), some (.int m), some (.int n), none, none, none] S
  simp [W_tableT, -compL_cons]
  refine call_take hb (by decide) (by decide) fun sh S3 _ hb3 f3 => ?_
  simp [-compL_cons]
  refine ⟨by omega, mil (by omega), ?_⟩
  refine compL_inv (fun acc S' => TapeAt S' b c ∧ Fr S S' b c ∧ ∃ t : Tb, acc = t.map rowF ∧ ∀ r ∈ t, r.length = n ∧ ∀ x ∈ r, x = 0 ∨ x = 1) _ _ _ (fun _ _ _ => trivial)
    (fun x hx acc S4 Q4 ⟨hb4, f4, t, et, ht⟩ q4 => ?_) ⟨hb3, f3, [], rfl, fun r hr => by cases hr⟩ (fun acc' S5 ⟨hb5, f5, t, et, ht⟩ hlen => ?_)
  · obtain ⟨k, hk, rfl⟩ := mem_rng hx
    simp [-compL_cons]
    refine ⟨by omega, mil (by omega), ?_⟩
    refine compL_inv (fun acc S' => TapeAt S' b c ∧ Fr S S' b c ∧ ∃ r : List Int, acc = r.map F.int ∧ ∀ x ∈ r, x = 0 ∨ x = 1) _ _ _ (fun _ _ _ => trivial)
      (fun x hx acc2 S6 Q6 ⟨hb6, f6, r, er, hr⟩ q6 => ?_) ⟨hb4, f4, [], rfl, fun x hx => by cases hx⟩ (fun acc2 S7 ⟨hb7, f7, r, er, hr⟩ hlen2 => ?_)
    · obtain ⟨k2, hk2, rfl⟩ := mem_rng hx
      simp
      refine call_take hb6 (by decide) (by decide) fun d S8 _ hb8 f8 => ?_
      refine q6 _ _ ⟨hb8, f6.trans f8, r ++ [if (d : Int) < 1 + sh then 1 else 0], by simp [er], fun x hx => ?_⟩
      rcases List.mem_append.mp hx with hx | hx
      · exact hr x hx
      · rw [List.mem_singleton] at hx
        subst hx
        split
        · exact .inr rfl
        · exact .inl rfl
    · subst er
      refine q4 _ _ ⟨hb7, f7, t ++ [r], by simp [et, rowF], fun r2 hr2 => ?_⟩
      rcases List.mem_append.mp hr2 with hr2 | hr2
      · exact ht r2 hr2
      · rw [List.mem_singleton] at hr2
        subst hr2
        refine ⟨?_, hr⟩
        simpa using hlen2
  · subst et
    have hl : t.length = m := by simpa using hlen
    exact q t S5 ⟨⟨hl, fun r hr => (ht r hr).1, by omega, by omega, by omega, by omega⟩, fun r hr => (ht r hr).2⟩ hb5 f5
/-- a comprehension with a test whose turns change the store: what holds at each place -/
theorem compL_finv {gd : Sto → Prop} {g : DG} {mt : W Bool} {me : W F} {ρ : Slots} (I : Nat → List F → Sto → Prop) {QL : List F → Sto → Prop} : ∀ (xs : List F) (j : Nat) (acc : List F) (S : Sto), (∀ j acc S, I j acc S → gd S) →
    (∀ (k : Nat) (x : F), xs[k]? = some x → ∀ acc S (A : F → Sto → Prop) (N : Sto → Prop), I (j + k) acc S → (∀ y S', I (j + k + 1) (acc ++ [y]) S' → A y S') → (∀ S', I (j + k + 1) acc S' → N S') → g x ρ S fun ρ2 S2 => mt ρ2 S2 fun b S3 => if b = true then me ρ2 S3 A else N S3) → I j acc S →
    (∀ acc' S', I (j + xs.length) acc' S' → QL acc' S') → compL gd g mt me ρ xs acc S QL
  | [], j, acc, S, hg, ht, hi, q => ⟨hg _ _ _ hi, q _ _ hi⟩
  | x :: r, j, acc, S, hg, ht, hi, q => by
    refine ⟨hg _ _ _ hi, ?_⟩
    have rc : ∀ acc' S', I (j + 0 + 1) acc' S' → compL gd g mt me ρ r acc' S' QL := fun acc' S' h =>
      compL_finv I r (j + 1) acc' S' hg (fun k y hk acc S A N hi hA hN => ht (k + 1) y (by rw [List.getElem?_cons_succ]; exact hk) acc S A N (by rw [show j + (k + 1) = j + 1 + k by omega]; exact hi)
        (fun z S' h => hA z S' (by rw [show j + 1 + k + 1 = j + (k + 1) + 1 by omega]; exact h)) (fun S' h => hN S' (by rw [show j + 1 + k + 1 = j + (k + 1) + 1 by omega]; exact h))) h
        (fun acc' S' h => q acc' S' (by rw [List.length_cons, show j + (r.length + 1) = j + 1 + r.length by omega]; exact h))
    exact ht 0 x rfl acc S _ _ hi (fun y S' h => rc _ _ h) (fun S' h => rc _ _ h)
theorem restr_at {S S' : Sto} {a : Addr} (h : S a ≠ none) : restr S S' a = S' a := by
  unfold restr
  dsimp only
  rw [if_pos (by cases e : S a with | none => exact absurd e h | some _ => rfl)]
theorem TapeAt.b {S : Sto} {b c : Addr} (h : TapeAt S b c) : S b ≠ none := by
  obtain ⟨_, i, x, y, cs, e, _⟩ := h
  rw [e]
  simp
theorem TapeAt.c {S : Sto} {b c : Addr} (h : TapeAt S b c) : S c ≠ none := by
  obtain ⟨_, i, x, y, cs, _, e⟩ := h
  rw [e]
  simp
theorem TapeAt.restr {S S' : Sto} {b c : Addr} (h0 : TapeAt S b c) (h : TapeAt S' b c) : TapeAt (restr S S') b c := by
  obtain ⟨n, i, x, y, cs, e1, e2⟩ := h
  exact ⟨n, i, x, y, cs, by rw [restr_at h0.b]; exact e1, by rw [restr_at h0.c]; exact e2⟩
theorem fr_restr {S S' : Sto} {b c : Addr} (h : ∀ a, a ≠ b → a ≠ c → S a ≠ none → S' a = S a) : Fr S (restr S S') b c := fun a h1 h2 => by
  cases e : S a with
  | none =>
    unfold restr
    dsimp only
    rw [e]
    rfl
  | some l =>
    have hn : S a ≠ none := by rw [e]; simp
    rw [restr_at hn, h a h1 h2 hn, e]
theorem erase_map {α β : Type} (f : α → β) : ∀ (l : List α) (i : Nat), (l.map f).eraseIdx i = (l.eraseIdx i).map f
  | [], i => by simp
  | x :: r, 0 => rfl
  | x :: r, i + 1 => by rw [List.map_cons, List.eraseIdx_cons_succ, List.eraseIdx_cons_succ, List.map_cons, erase_map f r i]
theorem erase_perm {α : Type} : ∀ (l : List α) (d : Nat) (h : d < l.length), (l[d] :: l.eraseIdx d).Perm l
  | x :: r, 0, _ => .refl _
  | x :: r, d + 1, h => by
    have h' : d < r.length := by simpa using h
    have := erase_perm r d h'
    rw [List.eraseIdx_cons_succ, List.getElem_cons_succ]
    exact (List.Perm.swap ..).trans (this.cons x)
/-- a row, mixed -/
def C_mixed : Ct := fun xs S Q => ∃ b c, ∃ ns : List Int, ∃ v, xs = [.loc b, v] ∧ seqR S v = some (ns.map F.int) ∧ (v = .tup (ns.map F.int) ∨ v = .lst (ns.map F.int)) ∧ ns.length ≤ 1000 ∧ TapeAt S b c ∧ ∀ (ms : List Int) S', ms.Perm ns → TapeAt S' b c → Fr S S' b c → Q (.lst (ms.map F.int)) S'
theorem mono_C_mixed : MonoC C_mixed := fun xs S Q Q' k ⟨b, c, ns, v, e, h, h1, h2, h3, q⟩ => ⟨b, c, ns, v, e, h, h1, h2, h3, fun ms S' h1 h2 h3 => k _ _ (q ms S' h1 h2 h3)⟩
theorem sp_mixed (fs : List F) (S : Sto) (Q) (h : C_mixed fs S Q) : fs.length = 2 ∧ W_mixed C_take { nx := fun _ S' => Q .non (restr S S'), rt := fun d S' => Q d (restr S S') } (startF 4 fs) S := by
  obtain ⟨b, c, ns, v, rfl, hs, hv, hl, hb, q⟩ := h
  refine ⟨rfl, ?_⟩
  show W_mixed _ _ [some (.loc b), some v, none, none] S
  unfold W_mixed
  rw [sSeq_ev]
  have key : ∀ p, S p = none → compL (fun _ => True) (gN 3) wYes (wMt mPopAt (wVar 2) (wCons (wCall C_take (wCons (wVar 0) (wCons (wCall cLen (wCons (wVar 2) wNil)) wNil))) wNil)) [some (.loc b), some v, some (.loc p), none] (rngL 0 ns.length) [] (updS S p (ns.map F.int)) fun xs S1 => Q (.lst xs) (restr S S1) := fun p hp => by
    have hbp : b ≠ p := fun e => hb.b (by rw [e]; exact hp)
    have hcp : c ≠ p := fun e => hb.c (by rw [e]; exact hp)
    have hb0 : TapeAt (updS S p (ns.map F.int)) b c := by
      obtain ⟨n, i, x, y, cs, e1, e2⟩ := hb
      exact ⟨n, i, x, y, cs, by rw [updS_ne hbp]; exact e1, by rw [updS_ne hcp]; exact e2⟩
    refine compL_finv (fun j acc S' => TapeAt S' b c ∧ (∀ a, a ≠ b → a ≠ c → a ≠ p → S' a = S a) ∧ ∃ ds ls : List Int, acc = ds.map F.int ∧ S' p = some (ls.map F.int) ∧ (ds ++ ls).Perm ns ∧ ls.length + j = ns.length) _ 0 [] _ (fun _ _ _ _ => trivial)
      (fun k x hk acc S' A N ⟨h1, h2, ds, ls, e1, e2, hp', hlen⟩ hA hN => ?_) ⟨hb0, fun a _ _ h => updS_ne h, [], ns, rfl, updS_same, .refl _, by simp⟩ (fun acc' S' ⟨h1, h2, ds, ls, e1, e2, hp', hlen⟩ => ?_)
    · have hk' : k < ns.length := by
        have := (List.getElem?_eq_some_iff.mp hk).1
        simpa using this
      simp [e2]
      refine call_take h1 (by omega) (by omega) fun d S2 hd h3 f3 => ?_
      have e3 : S2 p = some (ls.map F.int) := by rw [f3 p (Ne.symm hbp) (Ne.symm hcp)]; exact e2
      have hd' : d < ls.length := by omega
      have hget : ls[d]? = some ls[d] := List.getElem?_eq_getElem hd'
      have hix : ixN ls.length (d : Int) = some d := by
        unfold ixN
        rw [if_pos (by omega), if_pos (by omega)]
        simp
      simp [e3, hix, hget]
      refine ⟨by omega, hA _ _ ⟨?_, ?_, ds ++ [ls[d]], ls.eraseIdx d, by rw [e1]; simp, ?_, ?_, ?_⟩⟩
      · obtain ⟨n, i, x, y, cs, e4, e5⟩ := h3
        exact ⟨n, i, x, y, cs, by rw [updS_ne hbp]; exact e4, by rw [updS_ne hcp]; exact e5⟩
      · intro a a1 a2 a3
        rw [updS_ne a3, f3 a a1 a2, h2 a a1 a2 a3]
      · rw [updS_same, erase_map]
      · refine List.Perm.trans ?_ hp'
        rw [List.append_assoc]
        exact List.Perm.append_left ds (erase_perm ls d hd')
      · rw [List.length_eraseIdx_of_lt hd']
        omega
    · have hz : ls = [] := by
        have : ls.length = 0 := by rw [rngL_length] at hlen; omega
        exact List.length_eq_zero_iff.mp this
      subst hz
      rw [List.append_nil] at hp'
      subst e1
      exact q ds _ hp' (hb.restr h1) (fr_restr fun a a1 a2 a3 => h2 a a1 a2 fun e => a3 (by rw [e]; exact hp))
  rcases hv with rfl | rfl
  · simp [-compL_cons]
    exact fun p hp => ⟨by omega, mil (by omega), key p hp⟩
  · simp [-compL_cons]
    exact fun p hp => ⟨by omega, mil (by omega), key p hp⟩
end DL

set_option maxHeartbeats 4000000
namespace DL
open PySem PySem.Spec PyProof.Rows L2
/-! ### zip and enumerate of lists that stand -/
def frzL : F → Option (List F)
  | .lst xs => some xs
  | .rol xs => some xs
  | _ => none
def zipL : List F → List F → List F
  | x :: xs, y :: ys => .tup [x, y] :: zipL xs ys
  | _, _ => []
def enumL (i : Nat) : List F → List F
  | x :: xs => .tup [.int (i : Nat), x] :: enumL (i + 1) xs
  | [] => []
theorem zipL_get : ∀ {xs ys : List F} {i : Nat} {f : F}, (zipL xs ys)[i]? = some f → ∃ x y, xs[i]? = some x ∧ ys[i]? = some y ∧ f = .tup [x, y]
  | x :: xs, y :: ys, 0, f, h => ⟨x, y, rfl, rfl, (Option.some.inj h).symm⟩
  | x :: xs, y :: ys, i + 1, f, h => zipL_get (xs := xs) (ys := ys) h
  | [], _, i, f, h => by cases h
  | _ :: _, [], i, f, h => by cases h
theorem zipL_len : ∀ {xs ys : List F}, (zipL xs ys).length = min xs.length ys.length
  | x :: xs, y :: ys => by rw [zipL, List.length_cons, zipL_len, List.length_cons, List.length_cons]; omega
  | [], ys => by simp [zipL]
  | _ :: _, [] => by simp [zipL]
theorem enumL_get : ∀ {xs : List F} {k i : Nat} {f : F}, (enumL k xs)[i]? = some f → ∃ x, xs[i]? = some x ∧ f = .tup [.int ((k + i : Nat) : Int), x]
  | x :: xs, k, 0, f, h => ⟨x, rfl, (Option.some.inj h).symm⟩
  | x :: xs, k, i + 1, f, h => by
    obtain ⟨y, h1, h2⟩ := enumL_get (xs := xs) (k := k + 1) (i := i) h
    exact ⟨y, h1, by rw [h2, show k + 1 + i = k + (i + 1) by omega]⟩
  | [], _, _, _, h => by cases h
theorem enumL_len : ∀ {xs : List F} {k : Nat}, (enumL k xs).length = xs.length
  | x :: xs, k => by rw [enumL, List.length_cons, enumL_len, List.length_cons]
  | [], _ => rfl
theorem frz_sq {K : PySem.W.Frag} {Z H : Hp} {S : Sto} {v : V} {d : F} {fs : List F} (R : RelS K Z S H) (h : Den K Z v d) (e : frzL d = some fs) : ∃ a vs, v = .ref a ∧ Dens K Z vs fs ∧ ∀ Z' S' H', (∀ a o, Z a = some o → Z' a = some o) → RelS K Z' S' H' → SqL K H' a vs := by
  cases h with
  | lst h1 h2 => cases e; exact ⟨_, _, rfl, h2, fun Z' S' H' z R' => SqL.of (R'.z _ _ (z _ _ h1)).1⟩
  | rol h1 h2 => cases e; exact ⟨_, _, rfl, h2, fun Z' S' H' z R' => R'.sqL (SqL_ext z h1)⟩
  | _ => cases e
section
variable {X : Cx} {e e2 : Expr} {p pos tpos : Pos} {elts : List Expr} {kk : Nat} {ms : W (List F)}
def wZip (ms : W (List F)) : W ItD := fun ρ S Q => ms ρ S fun xs S1 => match xs with
  | [x, y] => (match frzL x, frzL y with | some xs, some ys => Q ⟨zipL xs ys, fun _ => True⟩ S1 | _, _ => False)
  | _ => False
def wEnum (ms : W (List F)) : W ItD := fun ρ S Q => ms ρ S fun xs S1 => match xs with
  | [x] => (match frzL x with | some xs => Q ⟨enumL 0 xs, fun _ => True⟩ S1 | _ => False)
  | _ => False
theorem pid_enum (hg : Gl X "enumerate") (hm : X.mg "enumerate" = none) (ha : PDs X [e] ms) (hs : starEach [e] X.env = [(false, eval e X.env)] := by rfl) : PID X (.Tuple elts kk tpos) (.Call (.Name "enumerate" p) [e] [] pos) (wEnum ms) :=
  ⟨fun _ _ _ _ k q => ha.mono _ _ _ _ (fun xs S1 q => by
    split at q
    · split at q
      · exact k _ _ q
      · exact q.elim
    · exact q.elim) q, weakI (pi_enum hg hm ha.run hs) fun σ H R ⟨ρ, S, Z, r, Rs, q⟩ => by
    refine tDs_in ha.mono r Rs q fun xs S1 vs Z1 H1 p e1 R1 d1 => ?_
    split at p
    · obtain ⟨v, rfl, d⟩ := dens1 d1
      split at p
      · rename_i fs e0
        obtain ⟨a, us, rfl, h2, h3⟩ := frz_sq R1 d e0
        refine ⟨a, us, rfl, h3 _ _ _ (fun _ _ q => q) R1, p _ Z1 H1 e1 R1 ⟨fun Z2 S2 H2 i f z R2 _ ef => ?_, fun Z2 S2 H2 i z R2 _ hl => ?_⟩⟩
        · obtain ⟨x, ex, rfl⟩ := enumL_get ef
          obtain ⟨v, ev, _⟩ := h2.get ex
          refine ⟨⟨us, v, h3 _ _ _ z R2, ev⟩, fun w H' ⟨T, u, e4, nT, e5, hu⟩ => ?_⟩
          have eu := hu us (h3 _ _ _ z R2)
          subst e4 e5
          obtain ⟨R3, x3⟩ := R2.newZ nT (.tup [.int (i : Nat), u])
          refine ⟨_, x3, R3, ?_⟩
          rw [Nat.zero_add]
          exact den_newTup (R2.nz nT) (.cons (.int _) (.cons ((den_get h2 ex eu).ext z) .nil))
        · exact ⟨us, h3 _ _ _ z R2, by rw [h2.length]; rw [← enumL_len (xs := fs) (k := 0)]; exact hl⟩
      · exact p.elim
    · exact p.elim⟩
theorem dens2' {K : PySem.W.Frag} {Z : Hp} {vs : List V} {d d2 : F} (h : Dens K Z vs [d, d2]) : ∃ v v2, vs = [v, v2] ∧ Den K Z v d ∧ Den K Z v2 d2 := by
  cases h with
  | cons h1 h2 =>
    cases h2 with
    | cons h2 h3 =>
      cases h3
      exact ⟨_, _, rfl, h1, h2⟩
theorem pid_zip (hg : Gl X "zip") (hm : X.mg "zip" = none) (ha : PDs X [e, e2] ms)
    (hs : starEach [e, e2] X.env = (false, eval e X.env) :: starEach [e2] X.env := by rfl) (hpl : (backTo pos (starEach [e2] X.env)).any (·.1) = false := by rfl) : PID X (.Tuple elts kk tpos) (.Call (.Name "zip" p) [e, e2] [] pos) (wZip ms) :=
  ⟨fun _ _ _ _ k q => ha.mono _ _ _ _ (fun xs S1 q => by
    split at q
    · split at q
      · exact k _ _ q
      · exact q.elim
    · exact q.elim) q, weakI (pi_zip hg hm ha.run hs hpl) fun σ H R ⟨ρ, S, Z, r, Rs, q⟩ => by
    refine tDs_in ha.mono r Rs q fun xs S1 vs Z1 H1 p e1 R1 d1 => ?_
    split at p
    · obtain ⟨v, v2, rfl, d, d2⟩ := dens2' d1
      split at p
      · rename_i fs gs e0 e02
        obtain ⟨a, us, rfl, h2, h3⟩ := frz_sq R1 d e0
        obtain ⟨b, ws, rfl, g2, g3⟩ := frz_sq R1 d2 e02
        refine ⟨a, b, us, ws, rfl, h3 _ _ _ (fun _ _ q => q) R1, g3 _ _ _ (fun _ _ q => q) R1, p _ Z1 H1 e1 R1 ⟨fun Z2 S2 H2 i f z R2 _ ef => ?_, fun Z2 S2 H2 i z R2 _ hl => ?_⟩⟩
        · obtain ⟨x, y, ex, ey, rfl⟩ := zipL_get ef
          obtain ⟨v, ev, _⟩ := h2.get ex
          obtain ⟨v', ev', _⟩ := g2.get ey
          refine ⟨⟨us, ws, v, v', h3 _ _ _ z R2, g3 _ _ _ z R2, ev, ev'⟩, fun w H' ⟨T, u, u', e4, nT, e5, hu, hu'⟩ => ?_⟩
          have eu := hu us (h3 _ _ _ z R2)
          have eu' := hu' ws (g3 _ _ _ z R2)
          subst e4 e5
          obtain ⟨R3, x3⟩ := R2.newZ nT (.tup [u, u'])
          exact ⟨_, x3, R3, den_newTup (R2.nz nT) (.cons ((den_get h2 ex eu).ext z) (.cons ((den_get g2 ey eu').ext z) .nil))⟩
        · refine ⟨us, ws, h3 _ _ _ z R2, g3 _ _ _ z R2, ?_⟩
          have hl : (zipL fs gs).length ≤ i := hl
          rw [zipL_len] at hl
          rw [h2.length, g2.length]
          omega
      · exact p.elim
    · exact p.elim⟩
end
section
variable {ρ : Slots} {S : Sto} {QI : ItD → Sto → Prop} {ms : W (List F)}
@[simp, simp ↓] theorem wZip_ev : wZip ms ρ S QI = ms ρ S fun xs S1 => match xs with
  | [x, y] => (match frzL x, frzL y with | some xs, some ys => QI ⟨zipL xs ys, fun _ => True⟩ S1 | _, _ => False)
  | _ => False := (rfl)
@[simp, simp ↓] theorem wEnum_ev : wEnum ms ρ S QI = ms ρ S fun xs S1 => match xs with
  | [x] => (match frzL x with | some xs => QI ⟨enumL 0 xs, fun _ => True⟩ S1 | _ => False)
  | _ => False := (rfl)
@[simp] theorem frzL_l {xs : List F} : frzL (.lst xs) = some xs := rfl
end
/-! ### sorted of ints -/
def cSorted : DCallL := fun xs S Q => match xs with
  | [x] => (match listR S x with | some fs => ∃ ns : List Int, fs = ns.map F.int ∧ ∀ ms : List Int, ms.Perm ns → ms.Pairwise (· ≤ ·) → Q (ms.map F.int) S | none => False)
  | _ => False
theorem c_sorted {X : Cx} : CallL X (.builtin "sorted") cSorted := by
  refine ⟨fun xs S Q Q' k h => ?_, callWeak cr_sortedI fun vs H Q ⟨ds, S, Z, dv, R, h⟩ => ?_⟩
  · unfold cSorted at h ⊢
    split at h
    · split at h
      · obtain ⟨ns, e, q⟩ := h
        exact ⟨ns, e, fun ms h1 h2 => k _ _ (q ms h1 h2)⟩
      · exact h.elim
    · exact h.elim
  · unfold cSorted at h
    split at h
    · obtain ⟨v, rfl, d⟩ := dens1 dv
      split at h
      · rename_i fs e0
        obtain ⟨ns, rfl, q⟩ := h
        obtain ⟨a, us, rfl, h1, h2⟩ := listR_of R d e0
        have := h2.ints
        subst this
        exact ⟨a, ns, rfl, h1, fun ms p k1 k2 np => lfin_new .refl R np (dens_ints ms) (q ms k1 k2)⟩
      · exact h.elim
    · exact h.elim
/-- sorted(xs, reverse=True) -/
def wSortedRev (m : W F) : W (List F) := fun ρ S Q => m ρ S fun x S1 => match listR S1 x with
  | some fs => ∃ ns : List Int, fs = ns.map F.int ∧ ∀ ms : List Int, ms.Perm ns → ms.Pairwise (· ≥ ·) → Q (ms.map F.int) S1
  | none => False
theorem pl_sortedRev {X : Cx} {e : Expr} {m : W F} {p pos kpos bpos : Pos} {k : Nat} (hg : Gl X "sorted") (hm : X.mg "sorted" = none) (ha : PD X e m)
    (he : backTo pos (starEach [e] X.env) = (false, eval e X.env) :: backTo pos (starEach [] X.env) := by rfl) (hpl : (backTo pos (starEach [e] X.env)).any (·.1) = false := by rfl) (hst : starEach [e] X.env = (false, eval e X.env) :: starEach [] X.env := by rfl) :
    PL X (.Call (.Name "sorted" p) [e] [⟨some "reverse", .Constant (.bool true) k bpos, kpos⟩] pos) (wSortedRev m) :=
  ⟨fun _ _ _ _ k q => ha.mono _ _ _ _ (fun x S1 q => by
    split at q
    · obtain ⟨ns, e, q⟩ := q
      exact ⟨ns, e, fun ms h1 h2 => k _ _ (q ms h1 h2)⟩
    · exact q.elim) q, weakE (pe_callBK (cr_sortedRev (b := true)) hg hm (by rfl) (pa_cons ha.run pa_nil (hs := hst)) (pk_cons pe_bl pk_nil) (by decide) (by decide) he hpl) fun σ H Q ⟨ρ, S, Z, r, R, q⟩ => by
    refine tD_in ha.mono r R q fun x S1 v Z1 H1 p e1 R1 d1 => ?_
    split at p
    · rename_i fs e0
      obtain ⟨ns, rfl, q⟩ := p
      obtain ⟨a, us, rfl, h1, h2⟩ := listR_of R1 d1 e0
      have := h2.ints
      subst this
      exact ⟨a, ns, rfl, rfl, h1, fun ms p k1 k2 np => lfin_new e1 R1 np (dens_ints ms) (q ms k1 k2)⟩
    · exact p.elim⟩
section
variable {ρ : Slots} {S : Sto} {QL : List F → Sto → Prop} {m : W F} {xs : List F}
@[simp, simp ↓] theorem wSortedRev_ev : wSortedRev m ρ S QL = m ρ S fun x S1 => match listR S1 x with
  | some fs => ∃ ns : List Int, fs = ns.map F.int ∧ ∀ ms : List Int, ms.Perm ns → ms.Pairwise (· ≥ ·) → QL (ms.map F.int) S1
  | none => False := (rfl)
theorem cSorted_l {ns : List Int} (q : ∀ ms : List Int, ms.Perm ns → ms.Pairwise (· ≤ ·) → QL (ms.map F.int) S) : cSorted [.lst (ns.map F.int)] S QL := ⟨ns, rfl, q⟩
end
/-! ### extend -/
def mExtend : DMt := fun x xs S Q => match x, xs with
  | .loc a, [y] => (match S a, listW S y with | some fs, some gs => fs.length + gs.length ≤ sizeLine ∧ Q .non (updS S a (fs ++ gs)) | _, _ => False)
  | _, _ => False
theorem m_extend {X : Cx} : MtD X "list.extend" mExtend := by
  refine ⟨fun d xs S Q Q' k h => ?_, mtWeak mt_extend fun v vs H Q ⟨d, ds, S, Z, dv, dvs, R, h⟩ => ?_⟩
  · unfold mExtend at h ⊢
    split at h
    · split at h
      · exact ⟨h.1, k _ _ h.2⟩
      · exact h.elim
    · exact h.elim
  · unfold mExtend at h
    split at h
    · split at h
      · rename_i e0 e1
        obtain ⟨w, rfl, dw⟩ := dens1 dvs
        cases dv
        obtain ⟨us, h1, h2⟩ := R.s _ _ e0
        obtain ⟨b, ws, rfl, g1, g2⟩ := listW_of R dw e1
        exact ⟨_, b, us, ws, rfl, rfl, h1, g1, by rw [h2.length, g2.length]; exact h.1, fin_write (vs := us) R e0 (h2.append g2) .non h.2⟩
      · exact h.elim
    · exact h.elim
@[simp, simp ↓] theorem mExtend_l {a : Addr} {gs : List F} {S : Sto} {Q : F → Sto → Prop} : mExtend (.loc a) [.lst gs] S Q = (match S a with | some fs => fs.length + gs.length ≤ sizeLine ∧ Q .non (updS S a (fs ++ gs)) | none => False) := by
  show (match S a, (some gs : Option (List F)) with | some fs, some gs => fs.length + gs.length ≤ sizeLine ∧ Q .non (updS S a (fs ++ gs)) | _, _ => False) = _
  cases S a <;> rfl
end DL

set_option maxHeartbeats 4000000
namespace HT
open PySem PySem.Spec PyProof.Rows L2
/-! ### enumerate of a tuple -/
theorem meets_enumT (q : Addr) (items : Array Value) :
    Meets (Builtin.«enumerate.__new__» ⟨[.type "enumerate", .ref q], []⟩) (fun _ R s => s.heap.IsTuple q items ∧
      R (.ok (.ret (.ref (s.heap.push { cls := .type "tuple_iterator", data := .fields #[.ref q, .int 0 0] }).objs.size)))
        { s with heap := (s.heap.push { cls := .type "tuple_iterator", data := .fields #[.ref q, .int 0 0] }).push { cls := .type "enumerate", data := .fields #[.none, .bool false, .ref s.heap.objs.size, rawInt 0, .none, .none] } }) :=
  .of_wp fun prog w A R s h => by
    obtain ⟨hp, g, d, tk, os⟩ := s
    obtain ⟨hl, h⟩ := h
    have hsub := sub_enumerate
    obtain ⟨o, ho, hc, hn⟩ := id hl
    have hT : Heap.IsTuple (Shared.heap ⟨hp, g, d, tk, os⟩) q items := hl
    wp_walk using AutoSeq1.wpAny_loadPart' ho
    refine wpAny_stack_any fun st => wpAny_pure ?_
    split
    · rename_i c _ _ _ _ _
      cases (c == Value.type "enumerate")
      · wp_walk using AutoSeq1.wpAny_loadPart' ho, wpAny_pyIter_tuple hT
        exact ⟨_, rfl, h⟩
      · wp_walk using AutoSeq1.wpAny_loadPart' ho, wpAny_pyIter_tuple hT
        exact ⟨_, rfl, h⟩
    · wp_walk using AutoSeq1.wpAny_loadPart' ho, wpAny_pyIter_tuple hT
      exact ⟨_, rfl, h⟩
section
variable {prog : Program} {w : World} {A : Around} {E : Value → Shared → Prop} {s : Shared}
theorem call_enumT {q : Addr} {items : Array Value} {Q : Value → Shared → Prop} (hL : s.heap.IsTuple q items)
    (h : ∀ h', IsEnum h' (s.heap.objs.size + 1) s.heap.objs.size 0 .none → h'.IsTupleIter s.heap.objs.size q 0 → (∀ b o, s.heap.get? b = some o → h'.get? b = some o) → Q (.ref (s.heap.objs.size + 1)) { s with heap := h' }) :
    wpAny (model prog w) A (call (.type "enumerate") [.ref q]) Q E s := by
  refine callType_new F.called_enumerate (by decide) (F.typeCall_enumerate_1 _) (F.newCall_enumerate_1 _) (fun obj => F.args_object_init_2 obj _) F.entry_enumerate_new (meets_enumT q items) ⟨hL, ?_⟩
  have hz : (s.heap.push { cls := .type "tuple_iterator", data := .fields #[.ref q, .int 0 0] }).objs.size = s.heap.objs.size + 1 := Heap.size_push ..
  show _ ∧ _
  rw [hz]
  have he := Heap.get?_push_size (s.heap.push { cls := .type "tuple_iterator", data := .fields #[.ref q, .int 0 0] }) (o := { cls := .type "enumerate", data := .fields #[.none, .bool false, .ref s.heap.objs.size, rawInt 0, .none, .none] }) rfl
  rw [hz] at he
  refine ⟨⟨_, he, rfl⟩, h _ he ⟨_, Heap.get?_push_of_some _ (Heap.get?_push_size _ rfl), rfl, rfl⟩ fun b o x => Heap.get?_push_of_some _ (Heap.get?_push_of_some _ x)⟩
end
/-- the tuple at a, each item in a new pair -/
def IteT (K : PySem.W.Frag) (a : Addr) : It :=
  ⟨fun i H => ∃ (xs : List V) (x : V), SqT K H a xs ∧ xs[i]? = some x, fun i H v H' => ∃ T x, v = .ref T ∧ H T = none ∧ H' = upd H T (.tup [.int (i : Nat), x]) ∧ ∀ xs, SqT K H a xs → xs[i]? = some x, fun i H => ∃ xs : List V, SqT K H a xs ∧ xs.length ≤ i⟩
theorem turn_enumT {P : Program} {w : World} {K : PySem.W.Frag} {elts : List Expr} {kk : Nat} {tpos : Pos} (a e it : Addr) :
    Turn P w K (.Tuple elts kk tpos) (IteT K a) [e, it] e (fun i h => (∃ old, IsEnum h e it ((i : Nat) : Int) old) ∧ h.IsTupleIter it a i ∧ e ≠ it ∧ a ≠ it ∧ a ≠ e) where
  mem := by simp
  obj := fun i h st b hb => by
    obtain ⟨⟨old, he⟩, ⟨o, ho, hc, hd⟩, _⟩ := st
    rcases (by simpa using hb : b = e ∨ b = it) with z | z
    · subst z
      exact ⟨_, he, fun v q => nomatch q⟩
    · subst z
      exact ⟨o, ho, fun v q => by rw [hd] at q; cases q⟩
  keep := fun i h h' st k => by
    obtain ⟨⟨old, he⟩, hi, r⟩ := st
    exact ⟨⟨old, k e (by simp) _ he⟩, hi.at fun o q => k it (by simp) o q, r⟩
  item := by
    intro X hP hw hK hc i pins s σ H E I hf st hg
    subst hP hw hK
    obtain ⟨⟨old, he⟩, hit, hne, hai, hae⟩ := st
    obtain ⟨xs, x, hq, hx⟩ := hg
    obtain ⟨its, rv, p, hz⟩ := I.tuple hq
    obtain ⟨u, hu, ru⟩ := rv.get hx
    have hel : e < s.heap.objs.size := Heap.lt_size he
    have hil : it < s.heap.objs.size := by
      obtain ⟨_, q, _⟩ := hit
      exact Heap.lt_size q
    have hlt : i < its.toArray.size := by
      have := (List.getElem?_eq_some_iff.mp hu).1
      simpa using this
    refine wpAny_pyNext_enum_itemD (Draws.tuple (A := X.A.in1) (I.ok.hd hc) it a hai its.toArray) he ⟨hit, p⟩ hlt hne (by simp [hne, Ne.symm hae]) fun y h' tk hy ho st1 hT hsz hk => ?_
    have hy : its.toArray[i]? = some y := hy
    have ey : y = u := by
      have e1 : its.toArray[i]? = some u := by simpa using hu
      exact Option.some.inj (hy.symm.trans e1)
    subst ey
    refine ⟨_, rfl, wpAny_letOwnedTupleGo_enum (s := { s with heap := h', toks := tk + 1 }) ho fun h'' he' sb => ?_⟩
    have hT2 : h''.get? s.heap.objs.size = some { cls := .type "tuple", data := .seq #[.int i tk, y] } := (sb.2 _ (Nat.ne_of_gt hel)).trans hT
    have new : ObjOk X.prog X.w (upd H s.heap.objs.size (.tup [.int (i : Nat), x])) h'' s.heap.objs.size (.tup [.int (i : Nat), x]) :=
      ⟨by show 2 ≤ sizeLine; decide, [.int i tk, y], .cons ⟨_, rfl⟩ (.cons ru .nil), ⟨_, hT2, rfl, _, rfl⟩⟩
    have I1 : Inv X pins σ (upd H s.heap.objs.size (.tup [.int (i : Nat), x])) { s with heap := h'', toks := tk + 1 } :=
      I.turnedNew (ch := [e, it]) (fun b ob hb q => (sb.2 b (fun z => hb (by simp [z]))).trans (hk b ob (fun z => hb (by simp [z])) (fun z => hb (by simp [z])) q)) hf (Nat.le_refl _) new
    refine ⟨.ref s.heap.objs.size, _, I1, rfl, ⟨_, x, rfl, I.hok.fresh (Nat.le_refl _), rfl, fun ys hy => by rw [I.tuple_inj hy hq]; exact hx⟩, ⟨⟨y, ?_⟩, st1.1.at fun o q => (sb.2 it (Ne.symm hne)).trans q, hne, hai, hae⟩, fun b hb => ?_⟩
    · rw [show ((i + 1 : Nat) : Int) = (i : Int) + 1 by omega]
      exact he'
    · have hb' : b < s.heap.objs.size := by
        rcases (by simpa using hb : b = e ∨ b = it) with z | z
        · rw [z]; exact hel
        · rw [z]; exact hil
      rw [upd_ne (Nat.ne_of_lt hb')]
      exact (hf b hb).1
  done := by
    intro X hP hw hK hc i pins s σ H E I hf st hg
    subst hP hw hK
    obtain ⟨⟨old, he⟩, hit, hne, hai, hae⟩ := st
    obtain ⟨xs, hq, hx⟩ := hg
    obtain ⟨its, rv, p, hz⟩ := I.tuple hq
    have hT : s.TypeIs (.ref e) "enumerate" := ⟨_, he, rfl⟩
    have hn : its.toArray[i]? = none := by
      have := rv.length
      simp
      omega
    unfold pyNext
    refine wpAny_bind (wpAny_attempt (wpAny_callSpecial?_slot (name := Str.ofString "__next__") hT F.slot_enumerate_next (wpAny_call_entry F.slot_enumerate_next hT F.entry_enumerate_next ?_ (F.args_enumerate_next_1 _))))
    show wpAny _ _ (field (.ref e) 2 >>= _) _ _ _
    refine wpAny_bind (wpAny_field he rfl (x := .ref it) rfl ?_)
    refine wpAny_bind (wpAny_nextOf_tuple_end (I.ok.hd hc) hit p hn fun h' x he' hx' => ?_)
    obtain ⟨o, ho, hcl⟩ := hx'
    refine wpAny_bind (wpAny_isInstance (T := "StopIteration") (b := true) ⟨o, ho, hcl⟩ isSubtype_stop ?_)
    obtain ⟨f0, f1, f2, f3, f4, f5⟩ := hf it (by simp)
    exact wpAny_pure ⟨rfl, I.turned (t' := s.toks) (fun b o hb q => he' b o hb q) f0 f1 f3 f4 f5⟩
  self := fun A i s Q E st h => by
    obtain ⟨⟨_, he⟩, _⟩ := st
    exact wpAny_pyIter_enum he h
/-- enumerate of a list or of a tuple -/
def iEnumA (K : PySem.W.Frag) (ta : TA) : TI := fun σ H R => ta σ H fun vs H1 => ∃ a xs, vs = [.ref a] ∧ ((SqL K H1 a xs ∧ R (Ite K a) H1) ∨ (SqT K H1 a xs ∧ R (IteT K a) H1))
theorem pi_enumA {X : Cx} {e : Expr} {ta : TA} {p pos tpos : Pos} {elts : List Expr} {kk : Nat} (hg : Gl X "enumerate") (hm : X.mg "enumerate" = none) (ha : PA X [e] ta) (hs : starEach [e] X.env = [(false, eval e X.env)] := by rfl) :
    PI X (.Tuple elts kk tpos) (.Call (.Name "enumerate" p) [e] [] pos) (iEnumA X.K ta) := by
  refine ⟨fun pins s σ H R I h => ?_⟩
  refine Call_ (ld_blt I hg hm boot_enumerate (PyProof.Rows.callWith_type1 (thn (ha.run pos pins s σ H _ I h) fun us s1 ⟨vs, H1, I1, r1, q1⟩ => ?_) hs rfl))
  obtain ⟨a, xs, ex, q1⟩ := q1
  subst ex
  have fresh : ∀ b, b ∈ [s1.heap.objs.size + 1, s1.heap.objs.size] → FpOk X pins H1 b := fun b hb => by
    have hle : s1.heap.objs.size ≤ b := by
      rcases (by simpa using hb : b = s1.heap.objs.size + 1 ∨ b = s1.heap.objs.size) with z | z
      · rw [z]; exact Nat.le_add_right _ _
      · rw [z]; exact Nat.le_refl _
    exact I1.fpOk hle (I1.hok.fresh hle)
  cases r1 with
  | cons r rr =>
    cases rr
    cases r
    rcases q1 with ⟨hq, q⟩ | ⟨hq, q⟩
    · obtain ⟨its, rv, p', hz⟩ := I1.list hq
      refine call_enumerate_list p'.isList fun h' he hit hsz hk => wpAny_pyIter_enum he ?_
      exact ⟨s1.heap.objs.size + 1, _, _, _, H1, rfl, I1.kept (t' := s1.toks) hk, turn_enum a (s1.heap.objs.size + 1) s1.heap.objs.size, ⟨⟨.none, he⟩, hit, Nat.succ_ne_self _⟩, fresh, q⟩
    · obtain ⟨its, rv, p', hz⟩ := I1.tuple hq
      have hal : a < s1.heap.objs.size := by
        obtain ⟨o, ho, _⟩ := id p'
        exact Heap.lt_size ho
      refine call_enumT p' fun h' he hit hk => wpAny_pyIter_enum he ?_
      exact ⟨s1.heap.objs.size + 1, _, _, _, H1, rfl, I1.kept (t' := s1.toks) hk, turn_enumT a (s1.heap.objs.size + 1) s1.heap.objs.size, ⟨⟨.none, he⟩, hit, Nat.succ_ne_self _, Nat.ne_of_lt hal, Nat.ne_of_lt (Nat.lt_succ_of_lt hal)⟩, fresh, q⟩
/-! ### max and min of a tuple of ints -/
def rMaxT (K : PySem.W.Frag) : List V → Hp → VK → Prop := fun vs H Q => ∃ (a : Addr) (ns : List Int), vs = [V.ref a] ∧ SqT K H a (ns.map V.int) ∧ ns ≠ [] ∧ ∀ m, m ∈ ns → (∀ y, y ∈ ns → y ≤ m) → Q (.int m) H
def rMinT (K : PySem.W.Frag) : List V → Hp → VK → Prop := fun vs H Q => ∃ (a : Addr) (ns : List Int), vs = [V.ref a] ∧ SqT K H a (ns.map V.int) ∧ ns ≠ [] ∧ ∀ m, m ∈ ns → (∀ y, y ∈ ns → m ≤ y) → Q (.int m) H
section
variable {X : Cx}
theorem ra_ints {h : Heap} : ∀ {vs : List Value} {ns : List Int}, IntsAre vs ns → ∃ as, ReadsAll h vs (ns.map PyData.int) as
  | _, _, .nil => ⟨_, .nil⟩
  | _, _, .cons n t r => by
    obtain ⟨as, q⟩ := ra_ints (h := h) r
    exact ⟨_, .cons (.int n t) q⟩
theorem alike_ints (ns : List Int) : PySem.W.AlikeAll (ns.map PyData.int) := by
  refine ⟨fun x hx y hy => ?_, fun x hx => ?_⟩
  · obtain ⟨i, _, rfl⟩ := List.mem_map.mp hx
    obtain ⟨j, _, rfl⟩ := List.mem_map.mp hy
    rfl
  · obtain ⟨i, _, rfl⟩ := List.mem_map.mp hx
    exact fun e => nomatch e
theorem depth_ints : ∀ ns : List Int, PyData.depthAll (ns.map PyData.int) = 0
  | [] => rfl
  | n :: r => by
    rw [List.map_cons, PyData.depthAll, depth_ints r]
    rfl
theorem reads_int {h : Heap} {v : Value} {k : Int} {bs : List Addr} (r : Reads h v (.int k) bs) : ∃ t, v = .int k t := by
  cases r
  exact ⟨_, rfl⟩
theorem fold_max (n : Int) : ∀ ns : List Int, ns.foldl max n ∈ n :: ns ∧ ∀ y ∈ n :: ns, y ≤ ns.foldl max n
  | [] => ⟨List.mem_cons_self .., fun y hy => by rw [List.mem_singleton.mp hy]; exact Int.le_refl _⟩
  | k :: r => by
    obtain ⟨h1, h2⟩ := fold_max (max n k) r
    rw [List.foldl_cons]
    refine ⟨?_, fun y hy => ?_⟩
    · rcases List.mem_cons.mp h1 with e | e
      · rw [e]
        rcases Int.le_total n k with h | h
        · rw [Int.max_eq_right h]; exact List.mem_cons_of_mem _ (List.mem_cons_self ..)
        · rw [Int.max_eq_left h]; exact List.mem_cons_self ..
      · exact List.mem_cons_of_mem _ (List.mem_cons_of_mem _ e)
    · have h3 := h2 (max n k) (List.mem_cons_self ..)
      rcases List.mem_cons.mp hy with e | e
      · subst e; omega
      · rcases List.mem_cons.mp e with e | e
        · subst e; omega
        · exact h2 y (List.mem_cons_of_mem _ e)
theorem fold_min (n : Int) : ∀ ns : List Int, ns.foldl min n ∈ n :: ns ∧ ∀ y ∈ n :: ns, ns.foldl min n ≤ y
  | [] => ⟨List.mem_cons_self .., fun y hy => by rw [List.mem_singleton.mp hy]; exact Int.le_refl _⟩
  | k :: r => by
    obtain ⟨h1, h2⟩ := fold_min (min n k) r
    rw [List.foldl_cons]
    refine ⟨?_, fun y hy => ?_⟩
    · rcases List.mem_cons.mp h1 with e | e
      · rw [e]
        rcases Int.le_total n k with h | h
        · rw [Int.min_eq_left h]; exact List.mem_cons_self ..
        · rw [Int.min_eq_right h]; exact List.mem_cons_of_mem _ (List.mem_cons_self ..)
      · exact List.mem_cons_of_mem _ (List.mem_cons_of_mem _ e)
    · have h3 := h2 (min n k) (List.mem_cons_self ..)
      rcases List.mem_cons.mp hy with e | e
      · subst e; omega
      · rcases List.mem_cons.mp e with e | e
        · subst e; omega
        · exact h2 y (List.mem_cons_of_mem _ e)
theorem cr_maxT (hc : X.calm = true) (hu : X.A.units + 65 < cLine) : CallR X (.builtin "max") (rMaxT X.K) := by
  intro pins s σ H vs us Q I r h
  obtain ⟨a, ns, rfl, hs, hne, q⟩ := h
  obtain ⟨its, rv, hl, _⟩ := I.tuple hs
  rw [Vals.ref1 r]
  have hi := rv.ints
  obtain ⟨as, ra⟩ := ra_ints (h := s.heap) hi
  cases ns with
  | nil => exact absurd rfl hne
  | cons n ns =>
    refine PySem.W.max_tuple_data (vs := its.toArray) (I.ok.hd hc) hl ra (alike_ints (n :: ns)) (by rw [show PyData.int n :: List.map PyData.int ns = (n :: ns).map PyData.int from rfl, depth_ints]; omega) fun i v h' tk bs hv rd hk => ?_
    rw [PySem.W.maxD_ints] at rd
    obtain ⟨t, rfl⟩ := reads_int rd
    obtain ⟨h1, h2⟩ := fold_max n ns
    exact ⟨.int _, H, I.kept hk, ⟨_, rfl⟩, q _ h1 h2⟩
theorem cr_minT (hc : X.calm = true) (hu : X.A.units + 65 < cLine) : CallR X (.builtin "min") (rMinT X.K) := by
  intro pins s σ H vs us Q I r h
  obtain ⟨a, ns, rfl, hs, hne, q⟩ := h
  obtain ⟨its, rv, hl, _⟩ := I.tuple hs
  rw [Vals.ref1 r]
  have hi := rv.ints
  obtain ⟨as, ra⟩ := ra_ints (h := s.heap) hi
  cases ns with
  | nil => exact absurd rfl hne
  | cons n ns =>
    refine PySem.W.min_tuple_data (vs := its.toArray) (I.ok.hd hc) hl ra (alike_ints (n :: ns)) (by rw [show PyData.int n :: List.map PyData.int ns = (n :: ns).map PyData.int from rfl, depth_ints]; omega) fun i v h' tk bs hv rd hk => ?_
    rw [PySem.W.minD_ints] at rd
    obtain ⟨t, rfl⟩ := reads_int rd
    obtain ⟨h1, h2⟩ := fold_min n ns
    exact ⟨.int _, H, I.kept hk, ⟨_, rfl⟩, q _ h1 h2⟩
end
end HT
namespace DL
open PySem PySem.Spec PyProof.Rows L2
/-! ### tuple(range(..)) -/
def wTupRg (m : W F) : W F := fun ρ S Q => m ρ S (asI fun n S1 => RgOk 0 n ∧ Q (.tup (rngL 0 n.toNat)) S1)
theorem pd_tupRg {X : Cx} {a : Expr} {ma : W F} {p pos pos2 : Pos} (hc : X.calm = true) (hg : Gl X "tuple") (hm : X.mg "tuple" = none) (hg2 : Gl X "range") (hm2 : X.mg "range" = none) (ha : PD X a ma)
    (na : starEach [.Call (.Name "range" p) [a] [] pos2] X.env = (false, eval (.Call (.Name "range" p) [a] [] pos2) X.env) :: starEach [] X.env := by rfl)
    (na2 : starEach [a] X.env = (false, eval a X.env) :: starEach [] X.env := by rfl) {p3 : Pos} : PD X (.Call (.Name "tuple" p3) [.Call (.Name "range" p) [a] [] pos2] [] pos) (wTupRg ma) :=
  ⟨fun _ _ _ _ k q => ha.mono _ _ _ _ (mono_asI fun _ _ q => ⟨q.1, k _ _ q.2⟩) q, weakE (pe_tupRg hc hg hm (prg_1 hg2 hm2 ha.run na2) na) fun σ H Q ⟨ρ, S, Z, r, R, q⟩ => by
    refine tD_in ha.mono r R q fun x S1 v Z1 H1 p e1 R1 d1 => ?_
    cases x with
    | int n =>
      refine ⟨n, den_int d1, p.1, fun q nq => ?_⟩
      refine fin_tup R1 nq ?_ (by
        have := p.2
        exact fun v Z' H' e2 R2 d2 => this v Z' H' (e1.trans e2) R2 d2)
      unfold rgV rngL
      rw [show n - 0 = n by omega]
      exact dens_map (fun _ => .int _) _
    | _ => exact p.elim⟩
section
variable {ρ : Slots} {S : Sto} {Q : F → Sto → Prop} {m : W F}
@[simp, simp ↓] theorem wTupRg_ev : wTupRg m ρ S Q = m ρ S (asI fun n S1 => RgOk 0 n ∧ Q (.tup (rngL 0 n.toNat)) S1) := (rfl)
end
/-! ### max and min of one list or tuple of ints -/
def cMax1 : DCall := fun xs S Q => match xs with
  | [x] => (match seqR S x with | some fs => ∃ ns : List Int, fs = ns.map F.int ∧ ns ≠ [] ∧ ∀ m, m ∈ ns → (∀ y ∈ ns, y ≤ m) → Q (.int m) S | none => False)
  | _ => False
def cMin1 : DCall := fun xs S Q => match xs with
  | [x] => (match seqR S x with | some fs => ∃ ns : List Int, fs = ns.map F.int ∧ ns ≠ [] ∧ ∀ m, m ∈ ns → (∀ y ∈ ns, m ≤ y) → Q (.int m) S | none => False)
  | _ => False
theorem c_max1 {X : Cx} (hc : X.calm = true) (hu : X.A.units + 65 < cLine) : CallD X (.builtin "max") cMax1 := by
  refine ⟨fun xs S Q Q' k h => ?_, callWeak (CallR.or (cr_max hc) (HT.cr_maxT hc hu)) fun vs H Q ⟨ds, S, Z, dv, R, h⟩ => ?_⟩
  · unfold cMax1 at h ⊢
    split at h
    · split at h
      · obtain ⟨ns, e, hn, q⟩ := h
        exact ⟨ns, e, hn, fun m h1 h2 => k _ _ (q m h1 h2)⟩
      · exact h.elim
    · exact h.elim
  · unfold cMax1 at h
    split at h
    · obtain ⟨v, rfl, d⟩ := dens1 dv
      split at h
      · rename_i fs e0
        obtain ⟨ns, rfl, hn, q⟩ := h
        obtain ⟨a, us, rfl, h1, h2⟩ := seqR_of R d e0
        have := h2.ints
        subst this
        have fin := fun m h1 h2 => fin_same R (.int m) (q m h1 h2)
        rcases h1 with h1 | h1
        · exact .inl ⟨a, ns, rfl, h1, List.length_pos_iff.mpr hn, fin⟩
        · exact .inr ⟨a, ns, rfl, h1, hn, fin⟩
      · exact h.elim
    · exact h.elim
theorem c_min1 {X : Cx} (hc : X.calm = true) (hu : X.A.units + 65 < cLine) : CallD X (.builtin "min") cMin1 := by
  refine ⟨fun xs S Q Q' k h => ?_, callWeak (CallR.or (cr_min hc) (HT.cr_minT hc hu)) fun vs H Q ⟨ds, S, Z, dv, R, h⟩ => ?_⟩
  · unfold cMin1 at h ⊢
    split at h
    · split at h
      · obtain ⟨ns, e, hn, q⟩ := h
        exact ⟨ns, e, hn, fun m h1 h2 => k _ _ (q m h1 h2)⟩
      · exact h.elim
    · exact h.elim
  · unfold cMin1 at h
    split at h
    · obtain ⟨v, rfl, d⟩ := dens1 dv
      split at h
      · rename_i fs e0
        obtain ⟨ns, rfl, hn, q⟩ := h
        obtain ⟨a, us, rfl, h1, h2⟩ := seqR_of R d e0
        have := h2.ints
        subst this
        have fin := fun m h1 h2 => fin_same R (.int m) (q m h1 h2)
        rcases h1 with h1 | h1
        · exact .inl ⟨a, ns, rfl, h1, List.length_pos_iff.mpr hn, fin⟩
        · exact .inr ⟨a, ns, rfl, h1, hn, fin⟩
      · exact h.elim
    · exact h.elim
section
variable {S : Sto} {Q : F → Sto → Prop} {ns : List Int}
theorem cMax1_t (hn : ns ≠ []) (q : ∀ m, m ∈ ns → (∀ y ∈ ns, y ≤ m) → Q (.int m) S) : cMax1 [.tup (ns.map F.int)] S Q := ⟨ns, rfl, hn, q⟩
theorem cMax1_l (hn : ns ≠ []) (q : ∀ m, m ∈ ns → (∀ y ∈ ns, y ≤ m) → Q (.int m) S) : cMax1 [.lst (ns.map F.int)] S Q := ⟨ns, rfl, hn, q⟩
theorem cMin1_t (hn : ns ≠ []) (q : ∀ m, m ∈ ns → (∀ y ∈ ns, m ≤ y) → Q (.int m) S) : cMin1 [.tup (ns.map F.int)] S Q := ⟨ns, rfl, hn, q⟩
theorem cMin1_l (hn : ns ≠ []) (q : ∀ m, m ∈ ns → (∀ y ∈ ns, m ≤ y) → Q (.int m) S) : cMin1 [.lst (ns.map F.int)] S Q := ⟨ns, rfl, hn, q⟩
end
/-! ### enumerate and zip of lists and tuples that stand -/
def stdL : F → Option (Bool × List F)
  | .lst xs => some (false, xs)
  | .rol xs => some (false, xs)
  | .tup xs => some (true, xs)
  | _ => none
theorem std_sq {K : PySem.W.Frag} {Z H : Hp} {S : Sto} {v : V} {d : F} {t : Bool} {fs : List F} (R : RelS K Z S H) (h : Den K Z v d) (e : stdL d = some (t, fs)) :
    ∃ a vs, v = .ref a ∧ Dens K Z vs fs ∧ ∀ Z' S' H', (∀ a o, Z a = some o → Z' a = some o) → RelS K Z' S' H' → if t = true then SqT K H' a vs else SqL K H' a vs := by
  cases d with
  | lst xs =>
    cases e
    obtain ⟨a, vs, rfl, h2, h3⟩ := frz_sq R h rfl
    exact ⟨a, vs, rfl, h2, fun Z' S' H' z R' => h3 Z' S' H' z R'⟩
  | rol xs =>
    cases e
    obtain ⟨a, vs, rfl, h2, h3⟩ := frz_sq R h rfl
    exact ⟨a, vs, rfl, h2, fun Z' S' H' z R' => h3 Z' S' H' z R'⟩
  | tup xs =>
    cases e
    cases h with
    | tup h1 h2 => exact ⟨_, _, rfl, h2, fun Z' S' H' z R' => R'.sqT (SqT_ext z h1.sq)⟩
  | _ => cases e
section
variable {X : Cx} {e e2 : Expr} {p pos tpos : Pos} {elts : List Expr} {kk : Nat} {ms : W (List F)}
def wEnumA (ms : W (List F)) : W ItD := fun ρ S Q => ms ρ S fun xs S1 => match xs with
  | [x] => (match stdL x with | some (_, xs) => Q ⟨enumL 0 xs, fun _ => True⟩ S1 | _ => False)
  | _ => False
theorem pid_enumA (hg : Gl X "enumerate") (hm : X.mg "enumerate" = none) (ha : PDs X [e] ms) (hs : starEach [e] X.env = [(false, eval e X.env)] := by rfl) : PID X (.Tuple elts kk tpos) (.Call (.Name "enumerate" p) [e] [] pos) (wEnumA ms) :=
  ⟨fun _ _ _ _ k q => ha.mono _ _ _ _ (fun xs S1 q => by
    split at q
    · split at q
      · exact k _ _ q
      · exact q.elim
    · exact q.elim) q, weakI (HT.pi_enumA hg hm ha.run hs) fun σ H R ⟨ρ, S, Z, r, Rs, q⟩ => by
    refine tDs_in ha.mono r Rs q fun xs S1 vs Z1 H1 p e1 R1 d1 => ?_
    split at p
    · obtain ⟨v, rfl, d⟩ := dens1 d1
      split at p
      · rename_i t fs e0
        obtain ⟨a, us, rfl, h2, h3⟩ := std_sq R1 d e0
        cases t with
        | false =>
          refine ⟨a, us, rfl, .inl ⟨h3 _ _ _ (fun _ _ q => q) R1, p _ Z1 H1 e1 R1 ⟨fun Z2 S2 H2 i f z R2 _ ef => ?_, fun Z2 S2 H2 i z R2 _ hl => ?_⟩⟩⟩
          · obtain ⟨x, ex, rfl⟩ := enumL_get ef
            obtain ⟨v, ev, _⟩ := h2.get ex
            refine ⟨⟨us, v, h3 _ _ _ z R2, ev⟩, fun w H' ⟨T, u, e4, nT, e5, hu⟩ => ?_⟩
            have eu := hu us (h3 _ _ _ z R2)
            subst e4 e5
            obtain ⟨R3, x3⟩ := R2.newZ nT (.tup [.int (i : Nat), u])
            refine ⟨_, x3, R3, ?_⟩
            rw [Nat.zero_add]
            exact den_newTup (R2.nz nT) (.cons (.int _) (.cons ((den_get h2 ex eu).ext z) .nil))
          · exact ⟨us, h3 _ _ _ z R2, by rw [h2.length]; rw [← enumL_len (xs := fs) (k := 0)]; exact hl⟩
        | true =>
          refine ⟨a, us, rfl, .inr ⟨h3 _ _ _ (fun _ _ q => q) R1, p _ Z1 H1 e1 R1 ⟨fun Z2 S2 H2 i f z R2 _ ef => ?_, fun Z2 S2 H2 i z R2 _ hl => ?_⟩⟩⟩
          · obtain ⟨x, ex, rfl⟩ := enumL_get ef
            obtain ⟨v, ev, _⟩ := h2.get ex
            refine ⟨⟨us, v, h3 _ _ _ z R2, ev⟩, fun w H' ⟨T, u, e4, nT, e5, hu⟩ => ?_⟩
            have eu := hu us (h3 _ _ _ z R2)
            subst e4 e5
            obtain ⟨R3, x3⟩ := R2.newZ nT (.tup [.int (i : Nat), u])
            refine ⟨_, x3, R3, ?_⟩
            rw [Nat.zero_add]
            exact den_newTup (R2.nz nT) (.cons (.int _) (.cons ((den_get h2 ex eu).ext z) .nil))
          · exact ⟨us, h3 _ _ _ z R2, by rw [h2.length]; rw [← enumL_len (xs := fs) (k := 0)]; exact hl⟩
      · exact p.elim
    · exact p.elim⟩
def wZipA (ms : W (List F)) : W ItD := fun ρ S Q => ms ρ S fun xs S1 => match xs with
  | [x, y] => (match stdL x, stdL y with | some (a, xs), some (b, ys) => a = b ∧ Q ⟨zipL xs ys, fun _ => True⟩ S1 | _, _ => False)
  | _ => False
theorem pid_zipA (hg : Gl X "zip") (hm : X.mg "zip" = none) (ha : PDs X [e, e2] ms)
    (hs : starEach [e, e2] X.env = (false, eval e X.env) :: starEach [e2] X.env := by rfl) (hpl : (backTo pos (starEach [e2] X.env)).any (·.1) = false := by rfl) : PID X (.Tuple elts kk tpos) (.Call (.Name "zip" p) [e, e2] [] pos) (wZipA ms) :=
  ⟨fun _ _ _ _ k q => ha.mono _ _ _ _ (fun xs S1 q => by
    split at q
    · split at q
      · exact ⟨q.1, k _ _ q.2⟩
      · exact q.elim
    · exact q.elim) q, weakI (RZ.pi_zipA hg hm ha.run hs hpl) fun σ H R ⟨ρ, S, Z, r, Rs, q⟩ => by
    refine tDs_in ha.mono r Rs q fun xs S1 vs Z1 H1 p e1 R1 d1 => ?_
    split at p
    · obtain ⟨v, v2, rfl, d, d2⟩ := dens2' d1
      split at p
      · rename_i t fs t2 gs e0 e02
        obtain ⟨rfl, p⟩ := p
        obtain ⟨a, us, rfl, h2, h3⟩ := std_sq R1 d e0
        obtain ⟨b, ws, rfl, g2, g3⟩ := std_sq R1 d2 e02
        have len : ∀ i, (zipL fs gs).length ≤ i → us.length ≤ i ∨ ws.length ≤ i := fun i hl => by
          rw [zipL_len] at hl
          rw [h2.length, g2.length]
          omega
        cases t with
        | false =>
          refine ⟨a, b, us, ws, rfl, .inl ⟨h3 _ _ _ (fun _ _ q => q) R1, g3 _ _ _ (fun _ _ q => q) R1, p _ Z1 H1 e1 R1 ⟨fun Z2 S2 H2 i f z R2 _ ef => ?_, fun Z2 S2 H2 i z R2 _ hl => ?_⟩⟩⟩
          · obtain ⟨x, y, ex, ey, rfl⟩ := zipL_get ef
            obtain ⟨v, ev, _⟩ := h2.get ex
            obtain ⟨v', ev', _⟩ := g2.get ey
            refine ⟨⟨us, ws, v, v', h3 _ _ _ z R2, g3 _ _ _ z R2, ev, ev'⟩, fun w H' ⟨T, u, u', e4, nT, e5, hu, hu'⟩ => ?_⟩
            have eu := hu us (h3 _ _ _ z R2)
            have eu' := hu' ws (g3 _ _ _ z R2)
            subst e4 e5
            obtain ⟨R3, x3⟩ := R2.newZ nT (.tup [u, u'])
            exact ⟨_, x3, R3, den_newTup (R2.nz nT) (.cons ((den_get h2 ex eu).ext z) (.cons ((den_get g2 ey eu').ext z) .nil))⟩
          · exact ⟨us, ws, h3 _ _ _ z R2, g3 _ _ _ z R2, len i hl⟩
        | true =>
          refine ⟨a, b, us, ws, rfl, .inr ⟨h3 _ _ _ (fun _ _ q => q) R1, g3 _ _ _ (fun _ _ q => q) R1, p _ Z1 H1 e1 R1 ⟨fun Z2 S2 H2 i f z R2 _ ef => ?_, fun Z2 S2 H2 i z R2 _ hl => ?_⟩⟩⟩
          · obtain ⟨x, y, ex, ey, rfl⟩ := zipL_get ef
            obtain ⟨v, ev, _⟩ := h2.get ex
            obtain ⟨v', ev', _⟩ := g2.get ey
            refine ⟨⟨us, ws, v, v', h3 _ _ _ z R2, g3 _ _ _ z R2, ev, ev'⟩, fun w H' ⟨T, u, u', e4, nT, e5, hu, hu'⟩ => ?_⟩
            have eu := hu us (h3 _ _ _ z R2)
            have eu' := hu' ws (g3 _ _ _ z R2)
            subst e4 e5
            obtain ⟨R3, x3⟩ := R2.newZ nT (.tup [u, u'])
            exact ⟨_, x3, R3, den_newTup (R2.nz nT) (.cons ((den_get h2 ex eu).ext z) (.cons ((den_get g2 ey eu').ext z) .nil))⟩
          · exact ⟨us, ws, h3 _ _ _ z R2, g3 _ _ _ z R2, len i hl⟩
      · exact p.elim
    · exact p.elim⟩
end
section
variable {ρ : Slots} {S : Sto} {QI : ItD → Sto → Prop} {ms : W (List F)} {xs : List F}
@[simp, simp ↓] theorem wZipA_ev : wZipA ms ρ S QI = ms ρ S fun xs S1 => match xs with
  | [x, y] => (match stdL x, stdL y with | some (a, xs), some (b, ys) => a = b ∧ QI ⟨zipL xs ys, fun _ => True⟩ S1 | _, _ => False)
  | _ => False := (rfl)
@[simp, simp ↓] theorem wEnumA_ev : wEnumA ms ρ S QI = ms ρ S fun xs S1 => match xs with
  | [x] => (match stdL x with | some (_, xs) => QI ⟨enumL 0 xs, fun _ => True⟩ S1 | _ => False)
  | _ => False := (rfl)
@[simp] theorem stdL_l : stdL (.lst xs) = some (false, xs) := rfl
@[simp] theorem stdL_t : stdL (.tup xs) = some (true, xs) := rfl
end
/-- enumerate of ints -/
theorem enumL_ints (ns : List Int) : ∀ k, enumL k (ns.map F.int) = (ns.zipIdx k).map fun p => F.tup [.int (p.2 : Nat), .int p.1] := by
  induction ns with
  | nil => intro k; rfl
  | cons n r ih => intro k; rw [List.map_cons, enumL, ih, List.zipIdx_cons, List.map_cons]
/-! ### and, shifts -/
def oBand : DOp := fun x y S Q => match x, y with | .int i, .int j => Q (.int (Builtin.bitAnd i j)) S | _, _ => False
def oShl : DOp := fun x y S Q => match x, y with | .int i, .int j => CPow i j ∧ Q (.int (i * 2 ^ j.toNat)) S | _, _ => False
def oShr : DOp := fun x y S Q => match x, y with | .int i, .int j => 0 ≤ j ∧ Q (.int (i / 2 ^ j.toNat)) S | _, _ => False
section
variable {X : Cx}
theorem o_band : OpD X (binaryOp .BitAnd) oBand := by
  refine ⟨fun x y S Q Q' k h => ?_, opWeak op_and fun x y H Q ⟨d, e, S, Z, dx, dy, R, h⟩ => ?_⟩
  · unfold oBand at h ⊢
    split at h
    · exact k _ _ h
    · exact h.elim
  · unfold oBand at h
    split at h
    · exact ⟨_, _, den_int dx, den_int dy, fin_same R (.int _) h⟩
    · exact h.elim
theorem o_shl : OpD X (binaryOp .LShift) oShl := by
  refine ⟨fun x y S Q Q' k h => ?_, opWeak op_shl fun x y H Q ⟨d, e, S, Z, dx, dy, R, h⟩ => ?_⟩
  · unfold oShl at h ⊢
    split at h
    · exact ⟨h.1, k _ _ h.2⟩
    · exact h.elim
  · unfold oShl at h
    split at h
    · exact ⟨_, _, den_int dx, den_int dy, h.1, fin_same R (.int _) h.2⟩
    · exact h.elim
theorem o_shr : OpD X (binaryOp .RShift) oShr := by
  refine ⟨fun x y S Q Q' k h => ?_, opWeak op_shr fun x y H Q ⟨d, e, S, Z, dx, dy, R, h⟩ => ?_⟩
  · unfold oShr at h ⊢
    split at h
    · exact ⟨h.1, k _ _ h.2⟩
    · exact h.elim
  · unfold oShr at h
    split at h
    · exact ⟨_, _, den_int dx, den_int dy, h.1, fin_same R (.int _) h.2⟩
    · exact h.elim
end
section
variable {S : Sto} {Q : F → Sto → Prop} {i j : Int}
@[simp, simp ↓] theorem oBand_ii : oBand (.int i) (.int j) S Q = Q (.int (Builtin.bitAnd i j)) S := (rfl)
@[simp, simp ↓] theorem oShl_ii : oShl (.int i) (.int j) S Q = (CPow i j ∧ Q (.int (i * 2 ^ j.toNat)) S) := (rfl)
@[simp, simp ↓] theorem oShr_ii : oShr (.int i) (.int j) S Q = (0 ≤ j ∧ Q (.int (i / 2 ^ j.toNat)) S) := (rfl)
@[simp] theorem bitAnd_one : Builtin.bitAnd i 1 = i % 2 := bitAnd_m1 i
end
/-! ### new lists by * and + -/
def wMulL (ma mb : W F) : W (List F) := fun ρ S Q => ma ρ S fun x S1 => mb ρ S1 fun y S2 => match listW S2 x, y with
  | some xs, .int k => (-(2 ^ 63) ≤ k ∧ k < 2 ^ 63 ∧ xs.length * k.toNat ≤ sizeLine) ∧ Q (List.replicate k.toNat xs).flatten S2
  | _, _ => False
def wAddL (ma mb : W F) : W (List F) := fun ρ S Q => ma ρ S fun x S1 => mb ρ S1 fun y S2 => match listW S2 x, listW S2 y with
  | some xs, some ys => xs.length + ys.length ≤ sizeLine ∧ Q (xs ++ ys) S2
  | _, _ => False
section
variable {X : Cx} {a b : Expr} {ma mb : W F} {pos : Pos}
theorem pl_mulL (ha : PD X a ma) (hb : PD X b mb) : PL X (.BinOp a .Mult b pos) (wMulL ma mb) :=
  ⟨fun _ _ _ _ k q => ha.mono _ _ _ _ (fun _ _ q => hb.mono _ _ _ _ (fun _ _ q => by
    split at q
    · exact ⟨q.1, k _ _ q.2⟩
    · exact q.elim) q) q, weakE (pe_op op_rep ha.run hb.run) fun σ H Q ⟨ρ, S, Z, r, R, q⟩ => by
    refine tD_in ha.mono r R q fun x S1 v1 Z1 H1 p e1 R1 d1 => ?_
    refine tD_in hb.mono (r.ext e1.z) R1 p fun y S2 v2 Z2 H2 p2 e2 R2 d2 => ?_
    split at p2
    · rename_i xs k e
      obtain ⟨⟨h1, h2, hz⟩, q⟩ := p2
      obtain ⟨a, vs, rfl, ha, hd⟩ := listW_of R2 (d1.ext e2.z) e
      exact ⟨a, _, vs, rfl, den_int d2, ha, h1, h2, by rw [hd.length]; exact hz, fun p np => lfin_new (e1.trans e2) R2 np (hd.rep _) q⟩
    · exact p2.elim⟩
theorem pl_addL (ha : PD X a ma) (hb : PD X b mb) : PL X (.BinOp a .Add b pos) (wAddL ma mb) :=
  ⟨fun _ _ _ _ k q => ha.mono _ _ _ _ (fun _ _ q => hb.mono _ _ _ _ (fun _ _ q => by
    split at q
    · exact ⟨q.1, k _ _ q.2⟩
    · exact q.elim) q) q, weakE (pe_op op_cat ha.run hb.run) fun σ H Q ⟨ρ, S, Z, r, R, q⟩ => by
    refine tD_in ha.mono r R q fun x S1 v1 Z1 H1 p e1 R1 d1 => ?_
    refine tD_in hb.mono (r.ext e1.z) R1 p fun y S2 v2 Z2 H2 p2 e2 R2 d2 => ?_
    split at p2
    · rename_i xs ys e e'
      obtain ⟨hz, q⟩ := p2
      obtain ⟨a, vs, rfl, ha, hd⟩ := listW_of R2 (d1.ext e2.z) e
      obtain ⟨b, us, rfl, hb, hd'⟩ := listW_of R2 d2 e'
      exact ⟨a, b, vs, us, rfl, rfl, ha, hb, by rw [hd.length, hd'.length]; exact hz, fun p np => lfin_new (e1.trans e2) R2 np (hd.append hd') q⟩
    · exact p2.elim⟩
end
section
variable {ρ : Slots} {S : Sto} {QL : List F → Sto → Prop} {ma mb : W F}
@[simp, simp ↓] theorem wMulL_ev : wMulL ma mb ρ S QL = ma ρ S fun x S1 => mb ρ S1 fun y S2 => match listW S2 x, y with
  | some xs, .int k => (-(2 ^ 63) ≤ k ∧ k < 2 ^ 63 ∧ xs.length * k.toNat ≤ sizeLine) ∧ QL (List.replicate k.toNat xs).flatten S2
  | _, _ => False := (rfl)
@[simp, simp ↓] theorem wAddL_ev : wAddL ma mb ρ S QL = ma ρ S fun x S1 => mb ρ S1 fun y S2 => match listW S2 x, listW S2 y with
  | some xs, some ys => xs.length + ys.length ≤ sizeLine ∧ QL (xs ++ ys) S2
  | _, _ => False := (rfl)
@[simp] theorem listW_lst {xs : List F} : listW S (.lst xs) = some xs := rfl
@[simp] theorem listW_loc {a : Addr} : listW S (.loc a) = S a := rfl
end
end DL

set_option maxHeartbeats 4000000
namespace DL
open PySem PySem.Spec PyProof.Rows L2
/-! rising rows of places, and sums at places -/
def iv : F → Int
  | .int i => i
  | _ => 0
def incr (ns : List Int) : Bool := (List.range (ns.length - 1)).all fun k => decide (ns.getD k 0 < ns.getD (k + 1) 0)
def isLines (count : Int) : F → Bool
  | .tup xs => (xs.all fun c => isCount c 0 (count - 1)) && incr (xs.map iv)
  | _ => false
theorem iv_map (ns : List Int) : (ns.map F.int).map iv = ns := by
  rw [List.map_map]
  exact List.map_id'' (fun _ => rfl) ns
theorem incr_walk {gd : Sto → Prop} {S : Sto} (hgd : gd S) {o0 : Option F} {ns : List Int} {QL : List F → Sto → Prop} (q : QL (((List.range (ns.length - 1)).map fun k => decide (ns.getD k 0 < ns.getD (k + 1) 0)).map F.bl) S) :
    compL gd (gN 2) wYes (wOp oLt (wOp oIx (wVar 1) (wVar 2)) (wOp oIx (wVar 1) (wOp oAdd (wVar 2) (wC (.int 1))))) [o0, some (.tup (ns.map F.int)), none] (rngL 0 (ns.length - 1)) [] S QL := by
  refine compL_mapT (fun i : Nat => F.int (0 + (i : Int))) (fun k => .bl (decide (ns.getD k 0 < ns.getD (k + 1) 0))) hgd (List.range (ns.length - 1)) _ (fun k hk Q2 q2 => ?_) (by rw [List.nil_append, all_bl]; exact q)
  have hk := List.mem_range.mp hk
  have h1 : ns[k]? = some ns[k] := List.getElem?_eq_getElem (by omega)
  have h2 : ns[k + 1]? = some ns[k + 1] := List.getElem?_eq_getElem (by omega)
  have h3 : atI (ns.map F.int) (k : Int) = some (.int ns[k]) := by rw [atI_cast, List.getElem?_map, h1]; rfl
  have h4 : atI (ns.map F.int) ((k : Int) + 1) = some (.int ns[k + 1]) := by rw [show (k : Int) + 1 = ((k + 1 : Nat) : Int) by omega, atI_cast, List.getElem?_map, h2]; rfl
  simp [h3, h4]
  simpa [List.getD, h1, h2] using q2
theorem lines_true {xs : List F} {count : Int} (h : (xs.all fun c => isCount c 0 (count - 1)) = true) : ∃ ns : List Int, xs = ns.map F.int ∧ ∀ i ∈ ns, 0 ≤ i ∧ i < count := by
  obtain ⟨ns, rfl, h2⟩ := counts_int h
  exact ⟨ns, rfl, fun i hi => by have := h2 i hi; omega⟩
/-! sums at places -/
def selS (rs ks : List Int) : Int := (ks.map fun k => rs.getD k.toNat 0).sum
def inR (n : Nat) (ks : List Int) : Prop := ∀ k ∈ ks, 0 ≤ k ∧ k < (n : Int)
theorem sel_walk {gd : Sto → Prop} {S : Sto} (hgd : gd S) {i : Nat} {e : W F} {ρ : Slots} {rs ks : List Int} {QL : List F → Sto → Prop} (hk : inR rs.length ks)
    (he : ∀ k : Int, ∀ Q : F → Sto → Prop, oIx (.tup (rs.map F.int)) (.int k) S Q → gN i (.int k) ρ S fun ρ2 S2 => e ρ2 S2 Q) (q : QL ((ks.map fun k => rs.getD k.toNat 0).map F.int) S) :
    compL gd (gN i) wYes e ρ (ks.map F.int) [] S QL := by
  refine compL_mapT F.int (fun k => F.int (rs.getD k.toNat 0)) hgd ks _ (fun k hk' Q2 q2 => ?_) (by rw [List.nil_append]; rw [List.map_map] at q; exact q)
  refine he k Q2 ?_
  obtain ⟨h0, h1⟩ := hk k hk'
  have e1 : rs[k.toNat]? = some rs[k.toNat] := List.getElem?_eq_getElem (by omega)
  have e2 : atI (rs.map F.int) k = some (.int rs[k.toNat]) := by rw [atI_pos h0, List.getElem?_map, e1]; rfl
  simp [e2]
  simpa [List.getD, e1] using q2
theorem mul_small {a b : Int} (h : -(2 ^ 60) < a ∧ a < 2 ^ 60) : mulOk a b := mulOk_l ⟨by omega, by omega⟩
theorem lines_ok {n : Nat} {v : F} (h : isLines n v = true) : ∃ ns : List Int, v = .tup (ns.map F.int) ∧ inR n ns ∧ incr ns = true := by
  cases v with
  | tup xs =>
    have h : ((xs.all fun c => isCount c 0 (n - 1)) && incr (xs.map iv)) = true := h
    rw [Bool.and_eq_true] at h
    obtain ⟨ns, rfl, h2⟩ := lines_true h.1
    exact ⟨ns, rfl, h2, by have := h.2; rwa [iv_map] at this⟩
  | _ => cases h
theorem two {xs : List F} (h : (xs.length : Int) = 2) : ∃ a b, xs = [a, b] := by
  match xs, h with
  | [a, b], _ => exact ⟨a, b, rfl⟩
  | [], h => simp at h
  | [a], h => simp at h
  | a :: b :: c :: r, h => simp at h; omega
theorem any_in (ks : List Int) (i : Int) : ((ks.map F.int).any fun z => eqF z (.int i)) = decide (i ∈ ks) := by
  rw [Bool.eq_iff_iff, decide_eq_true_eq, List.any_map, List.any_eq_true]
  constructor
  · rintro ⟨x, hx, h⟩
    have h : eqF (.int x) (.int i) = true := h
    rw [eqF_ii, beq_iff_eq] at h
    rw [← h]
    exact hx
  · exact fun h => ⟨i, h, by show eqF (.int i) (.int i) = true; rw [eqF_ii]; simp⟩
theorem oIn_i {ks : List Int} {i : Int} {S : Sto} {Q : F → Sto → Prop} (h : ks.length ≤ 1000000) : oIn (.int i) (.tup (ks.map F.int)) S Q = Q (.bl (decide (i ∈ ks))) S := by
  rw [oIn_t, any_in, okF_tupI h, okF_int]
  simp
theorem oNotIn_i {ks : List Int} {i : Int} {S : Sto} {Q : F → Sto → Prop} (h : ks.length ≤ 1000000) : oNotIn (.int i) (.tup (ks.map F.int)) S Q = Q (.bl (!decide (i ∈ ks))) S := by
  rw [oNotIn_t, any_in, okF_tupI h, okF_int]
  simp
def sumR (n : Nat) (f : Nat → Int) : Int := ((List.range n).map f).sum
theorem sumR_zero (f : Nat → Int) : sumR 0 f = 0 := rfl
theorem sumR_succ (n : Nat) (f : Nat → Int) : sumR (n + 1) f = sumR n f + f n := by
  unfold sumR
  rw [List.range_succ, List.map_append, List.sum_append]
  simp
theorem sumR_congr {n : Nat} {f g : Nat → Int} (h : ∀ i, i < n → f i = g i) : sumR n f = sumR n g := by
  induction n with
  | zero => rfl
  | succ n ih => rw [sumR_succ, sumR_succ, ih fun i hi => h i (by omega), h n (by omega)]
theorem sumR_add (n : Nat) (f g : Nat → Int) : sumR n (fun i => f i + g i) = sumR n f + sumR n g := by
  induction n with
  | zero => rfl
  | succ n ih => rw [sumR_succ, sumR_succ, sumR_succ, ih]; omega
theorem sumR_sub (n : Nat) (f g : Nat → Int) : sumR n (fun i => f i - g i) = sumR n f - sumR n g := by
  induction n with
  | zero => rfl
  | succ n ih => rw [sumR_succ, sumR_succ, sumR_succ, ih]; omega
theorem sumR_const (n : Nat) (c : Int) : sumR n (fun _ => c) = n * c := by
  induction n with
  | zero => simp [sumR_zero]
  | succ n ih => rw [sumR_succ, ih]; rw [show ((n + 1 : Nat) : Int) = n + 1 by omega, Int.add_mul]; omega
theorem sumR_nonneg {n : Nat} {f : Nat → Int} (h : ∀ i, i < n → 0 ≤ f i) : 0 ≤ sumR n f := by
  induction n with
  | zero => exact Int.le_refl _
  | succ n ih =>
    rw [sumR_succ]
    have := ih fun i hi => h i (by omega)
    have := h n (by omega)
    omega
theorem sumR_zero_all {n : Nat} {f : Nat → Int} (h : ∀ i, i < n → 0 ≤ f i) (hz : sumR n f = 0) : ∀ i, i < n → f i = 0 := by
  induction n with
  | zero => intro i hi; omega
  | succ n ih =>
    rw [sumR_succ] at hz
    have h1 := sumR_nonneg (n := n) (f := f) fun i hi => h i (by omega)
    have h2 := h n (by omega)
    intro i hi
    by_cases e : i = n
    · rw [e]; omega
    · exact ih (fun i hi => h i (by omega)) (by omega) i (by omega)
theorem sumR_one {n k : Nat} (hk : k < n) (c : Int) : sumR n (fun i => if i = k then c else 0) = c := by
  induction n with
  | zero => omega
  | succ n ih =>
    rw [sumR_succ]
    by_cases e : k = n
    · subst e
      rw [sumR_congr (g := fun _ => 0) fun i hi => if_neg (by omega), sumR_const]
      simp
    · rw [ih (by omega), if_neg (fun h => e h.symm)]
      omega
theorem sumR_swap (m n : Nat) (f : Nat → Nat → Int) : sumR m (fun i => sumR n (f i)) = sumR n (fun j => sumR m (fun i => f i j)) := by
  induction m with
  | zero => rw [sumR_zero, sumR_congr (g := fun _ => 0) fun j _ => sumR_zero _, sumR_const]; simp
  | succ m ih =>
    rw [sumR_succ, ih, ← sumR_add]
    exact sumR_congr fun j _ => (sumR_succ m _).symm
/-- a sum over distinct places -/
theorem sum_sel {n : Nat} (f : Nat → Int) : ∀ (ks : List Int), inR n ks → ks.Nodup → (ks.map fun k => f k.toNat).sum = sumR n fun i => if (i : Int) ∈ ks then f i else 0
  | [], _, _ => by
    rw [sumR_congr (g := fun _ => 0) fun i _ => by simp, sumR_const]
    simp
  | k :: r, h, nd => by
    obtain ⟨k0, k1⟩ := h k (List.mem_cons_self ..)
    have ih := sum_sel f r (fun y hy => h y (List.mem_cons_of_mem _ hy)) (List.nodup_cons.mp nd).2
    rw [List.map_cons, List.sum_cons, ih, ← sumR_one (n := n) (k := k.toNat) (by omega) (f k.toNat), ← sumR_add]
    refine sumR_congr fun i hi => ?_
    have hk : k ∉ r := (List.nodup_cons.mp nd).1
    by_cases e : i = k.toNat
    · have e2 : (i : Int) = k := by omega
      rw [if_pos e, if_neg (by rw [e2]; exact hk), if_pos (by rw [e2]; exact List.mem_cons_self ..), e]
      omega
    · have e2 : (i : Int) ≠ k := by omega
      rw [if_neg e]
      by_cases e3 : (i : Int) ∈ r
      · rw [if_pos e3, if_pos (List.mem_cons_of_mem _ e3)]; omega
      · rw [if_neg e3, if_neg (fun h => (List.mem_cons.mp h).elim e2 e3)]; omega
theorem len_sel {n : Nat} {ks : List Int} (h : inR n ks) (nd : ks.Nodup) : (ks.length : Int) = sumR n fun i => if (i : Int) ∈ ks then 1 else 0 := by
  rw [← sum_sel (fun _ => 1) ks h nd]
  induction ks with
  | nil => rfl
  | cons k r ih => rw [List.map_cons, List.sum_cons, ← ih (fun y hy => h y (List.mem_cons_of_mem _ hy)) (List.nodup_cons.mp nd).2, List.length_cons]; omega
/-! loops by index -/
theorem forL_idx {gd : Sto → Prop} {g : DG} {t : WS} {D : EndsD} (e : Nat → F) (n : Nat) (I : Nat → Slots → Sto → Prop) (hg : ∀ i ρ S, I i ρ S → gd S)
    (hs : ∀ i, i < n → ∀ ρ S (N : Slots → Sto → Prop), I i ρ S → (∀ ρ' S', I (i + 1) ρ' S' → N ρ' S') → g (e i) ρ S fun ρ1 S1 => t { nx := N, rt := D.rt, bk := D.nx, ct := N, ex := D.ex } ρ1 S1)
    (hf : ∀ ρ S, I n ρ S → D.nx ρ S) : ∀ (k i : Nat) (ρ : Slots) (S : Sto), i + k = n → I i ρ S → forL gd g t ((List.range' i k).map e) D ρ S
  | 0, i, ρ, S, hk, hi => by
    have : i = n := by omega
    subst this
    exact ⟨hg _ _ _ hi, hf _ _ hi⟩
  | k + 1, i, ρ, S, hk, hi => ⟨hg _ _ _ hi, hs i (by omega) ρ S _ hi fun ρ' S' h => forL_idx e n I hg hs hf k (i + 1) ρ' S' (by omega) h⟩
theorem forL_rng {gd : Sto → Prop} {g : DG} {t : WS} {D : EndsD} {ρ : Slots} {S : Sto} {n : Nat} (I : Nat → Slots → Sto → Prop) (h0 : I 0 ρ S) (hg : ∀ i ρ S, I i ρ S → gd S)
    (hs : ∀ i, i < n → ∀ ρ S (N : Slots → Sto → Prop), I i ρ S → (∀ ρ' S', I (i + 1) ρ' S' → N ρ' S') → g (.int (0 + (i : Int))) ρ S fun ρ1 S1 => t { nx := N, rt := D.rt, bk := D.nx, ct := N, ex := D.ex } ρ1 S1)
    (hf : ∀ ρ S, I n ρ S → D.nx ρ S) : forL gd g t (rngL 0 n) D ρ S := by
  rw [rngL_map, List.range_eq_range']
  exact forL_idx (fun i : Nat => F.int (0 + (i : Int))) n I hg hs hf n 0 ρ S (by omega) h0
theorem forL_list {α : Type} {gd : Sto → Prop} {g : DG} {t : WS} {D : EndsD} {ρ : Slots} {S : Sto} (e : α → F) (xs : List α) (I : List α → Slots → Sto → Prop) (h0 : I [] ρ S) (hg : ∀ i ρ S, I i ρ S → gd S)
    (hs : ∀ ys x zs, xs = ys ++ x :: zs → ∀ ρ S (N : Slots → Sto → Prop), I ys ρ S → (∀ ρ' S', I (ys ++ [x]) ρ' S' → N ρ' S') → g (e x) ρ S fun ρ1 S1 => t { nx := N, rt := D.rt, bk := D.nx, ct := N, ex := D.ex } ρ1 S1)
    (hf : ∀ ρ S, I xs ρ S → D.nx ρ S) : forL gd g t (xs.map e) D ρ S := by
  have gen : ∀ (zs ys : List α) (ρ : Slots) (S : Sto), xs = ys ++ zs → I ys ρ S → forL gd g t (zs.map e) D ρ S := by
    intro zs
    induction zs with
    | nil =>
      intro ys ρ S hx hi
      rw [List.append_nil] at hx
      subst hx
      exact ⟨hg _ _ _ hi, hf _ _ hi⟩
    | cons x zs ih =>
      intro ys ρ S hx hi
      exact ⟨hg _ _ _ hi, hs ys x zs hx ρ S _ hi fun ρ' S' h => ih (ys ++ [x]) ρ' S' (by rw [hx]; simp) h⟩
  exact gen xs [] ρ S rfl h0
theorem updS_updS {S : Sto} {a : Addr} {l m : List F} : updS (updS S a l) a m = updS S a m := by
  refine Sto.ext' (fun b => ?_) fun _ => rfl
  unfold updS
  dsimp only
  split <;> rfl
theorem updD_updD {S : Sto} {a : Addr} {l m : DC} : updD (updD S a l) a m = updD S a m := by
  refine Sto.ext' (fun _ => rfl) fun b => ?_
  unfold updD
  dsimp only
  split <;> rfl
theorem ixN_cast {n k : Nat} (h : k < n) : ixN n (k : Int) = some k := by
  unfold ixN
  simp
  omega
/-- a drawn part of a list -/
theorem compL_part {α : Type} {gd : Sto → Prop} {g : DG} {mt : W Bool} {me : W F} {ρ : Slots} {S : Sto} (J : Sto → Prop) (e : α → F) (xs : List α) {QL : List F → Sto → Prop} (hJ : J S) (hg : ∀ S, J S → gd S)
    (ht : ∀ x, x ∈ xs → ∀ S (A : F → Sto → Prop) (N : Sto → Prop), J S → (∀ S', J S' → A (e x) S') → (∀ S', J S' → N S') → g (e x) ρ S fun ρ2 S2 => mt ρ2 S2 fun b S3 => if b = true then me ρ2 S3 A else N S3)
    (hq : ∀ (ys : List α) S', ys.Sublist xs → J S' → QL (ys.map e) S') : compL gd g mt me ρ (xs.map e) [] S QL := by
  refine compL_finv (fun j acc S' => J S' ∧ ∃ ys, acc = ys.map e ∧ ys.Sublist (xs.take j)) _ 0 [] _ (fun _ _ _ h => hg _ h.1) (fun k x hx acc S' A N ⟨hj, ys, ea, hs⟩ hA hN => ?_) ⟨hJ, [], rfl, List.nil_sublist _⟩ (fun acc S' ⟨hj, ys, ea, hs⟩ => ?_)
  · rw [ea]
    refine hq ys S' ?_ hj
    rw [Nat.zero_add, List.length_map, List.take_length] at hs
    exact hs
  · rw [List.getElem?_map] at hx
    obtain ⟨y, hy, rfl⟩ := Option.map_eq_some_iff.mp hx
    rw [Nat.zero_add] at hA hN hs
    have tk : xs.take (k + 1) = xs.take k ++ [y] := by rw [List.take_add_one, hy]; rfl
    refine ht y (List.mem_of_getElem? hy) S' A N hj (fun S'' h => hA _ _ ⟨h, ys ++ [y], ?_, ?_⟩) (fun S'' h => hN _ ⟨h, ys, ea, ?_⟩)
    · rw [ea, List.map_append]; rfl
    · rw [tk]; exact hs.append (List.Sublist.refl _)
    · rw [tk]; exact hs.trans (List.sublist_append_left ..)
/-- a block cut at a point: what holds there -/
theorem seq_via {a r : WS} {D : EndsD} {ρ : Slots} {S : Sto} (P : Slots → Sto → Prop) (h1 : ∀ N : Slots → Sto → Prop, (∀ ρ' S', P ρ' S' → N ρ' S') → a { D with nx := N } ρ S) (h2 : ∀ ρ' S', P ρ' S' → r D ρ' S') : sSeq a r D ρ S := h1 _ h2
theorem BoxAt.restr {S S' : Sto} {b c : Addr} (h0 : BoxAt S b c) (h : BoxAt S' b c) : BoxAt (restr S S') b c := by
  obtain ⟨hne, x, y, cells, h1, h2⟩ := h
  exact ⟨hne, x, y, cells, by rw [restr_at h0.b]; exact h1, by rw [restr_at h0.c]; exact h2⟩
end DL

set_option maxHeartbeats 4000000
namespace DL
open PySem PySem.Spec PyProof.Rows L2
/-! while: at most k turns are left -/
theorem while_of {mt : W Bool} {mb : WS} {D : EndsD} (I : Nat → Slots → Sto → Prop)
    (step : ∀ k ρ S (N : Slots → Sto → Prop), I k ρ S → (∀ ρ' S' k', k' < k → I k' ρ' S' → N ρ' S') → mt ρ S fun b S1 => if b = true then mb { D with nx := N, ct := N, bk := D.nx } ρ S1 else D.nx ρ S1)
    {k : Nat} {ρ : Slots} {S : Sto} (h0 : I k ρ S) : sWhile mt mb D ρ S := by
  have gen : ∀ n k ρ S, k ≤ n → I k ρ S → whileN mt mb (n + 1) D ρ S := by
    intro n
    induction n with
    | zero =>
      intro k ρ S hk hi
      exact step k ρ S _ hi fun ρ' S' k' h => absurd h (by omega)
    | succ n ih =>
      intro k ρ S hk hi
      exact step k ρ S _ hi fun ρ' S' k' h hi' => ih k' ρ' S' (by omega) hi'
  exact ⟨k + 1, gen k k ρ S (Nat.le_refl k) h0⟩
section
variable {ρ : Slots} {S : Sto} {Q : F → Sto → Prop}
end
theorem cut_take {α : Type} (xs : List α) (k : Nat) : cut xs none (some (k : Int)) = xs.take k := by
  unfold cut
  rw [HT.sIx_none, HT.sIx_nat]
  simp
theorem oAdd_W {x : F} {ws gs : List F} {S : Sto} {Q : F → Sto → Prop} (h : listW S x = some ws) : oAdd x (.lst gs) S Q = (ws.length + gs.length ≤ sizeLine ∧ Q (.lst (ws ++ gs)) S) := by
  cases x with
  | lst l => cases h; rfl
  | loc a =>
    have h : S a = some ws := h
    unfold oAdd
    simp [h]
  | _ => cases h
theorem BoxAt.upd {S : Sto} {b c p : Addr} {l : List F} (h : BoxAt S b c) (h1 : p ≠ b) (h2 : p ≠ c) : BoxAt (updS S p l) b c := by
  obtain ⟨hne, x, y, cells, e1, e2⟩ := h
  exact ⟨hne, x, y, cells, by rw [updS_ne (fun e => h1 e.symm)]; exact e1, by rw [updS_ne (fun e => h2 e.symm)]; exact e2⟩
theorem TapeAt.upd {S : Sto} {b c p : Addr} {l : List F} (h : TapeAt S b c) (h1 : p ≠ b) (h2 : p ≠ c) : TapeAt (updS S p l) b c := by
  obtain ⟨hne, i, x, y, cells, e1, e2⟩ := h
  exact ⟨hne, i, x, y, cells, by rw [updS_ne (fun e => h1 e.symm)]; exact e1, by rw [updS_ne (fun e => h2 e.symm)]; exact e2⟩
/-- a returned list that changes: what stands behind -/
@[simp, simp ↓] theorem wVarFrz_ev {i : Nat} {ρ : Slots} {S : Sto} {Q : F → Sto → Prop} : wVarFrz i ρ S Q = match ρ[i]? with | some (some (.loc a)) => (match S a with | some fs => Q (.lst fs) (delS S a) | none => False) | _ => False := (rfl)
theorem restr_del {S S' : Sto} {p : Addr} (h : S p = none) (k : ∀ a, a ≠ p → (S a).isSome = true → S' a = S a) (hd : ∀ a, (S.d a).isSome = true → S'.d a = S.d a := by first | exact fun _ _ => rfl | assumption) : restr S (delS S' p) = S := by
  refine restr_eq (fun a ha => ?_) hd
  have hne : a ≠ p := fun e => by rw [e, h] at ha; cases ha
  rw [delS_ne hne]
  exact k a hne ha
@[simp] theorem sAug_evm {i : Nat} {m : W F} {op : DOp} {D : EndsD} {ρ : Slots} {S : Sto} : sAug i m op D ρ S = match ρ[i]? with
  | some (some f) => m ρ S fun z S1 => op f z S1 fun d S2 => D.nx (ρ.set i (some d)) S2
  | _ => False := (rfl)
theorem enumL_rng : ∀ (rs : List Int) (k : Nat), enumL k (rs.map F.int) = (List.range rs.length).map fun i : Nat => F.tup [.int ((k + i : Nat) : Int), .int (rs.getD i 0)]
  | [], _ => rfl
  | r :: rs, k => by
    rw [List.map_cons, enumL, enumL_rng rs (k + 1), List.length_cons, List.range_succ_eq_map, List.map_cons, List.map_map]
    congr 1
    refine List.map_congr_left fun i _ => ?_
    show F.tup [.int ((k + 1 + i : Nat) : Int), _] = F.tup [.int ((k + (i + 1) : Nat) : Int), _]
    rw [show k + 1 + i = k + (i + 1) by omega]
    rfl
theorem sum_filter {α : Type} (p : α → Bool) (f : α → Int) : ∀ l : List α, ((l.filter p).map f).sum = (l.map fun x => if p x = true then f x else 0).sum
  | [] => rfl
  | x :: l => by
    rw [List.filter_cons, List.map_cons, List.sum_cons, ← sum_filter p f l]
    split <;> simp
end DL

set_option maxHeartbeats 4000000
namespace DL
open PySem PySem.Spec PyProof.Rows L2
/-! partitions: what the defs of partitions compute, and their plain law -/
def W_is_partition : WS :=
  (sSeq (sIf (bNot (wTst (wIsi "tuple" (wVar 0)))) (sRet (wC (.bl false))) sNext)
    (sSeq (sIf (bNot (wTst (wCall cAll (wCons (wFrz (wComp [1] (wIt (wVar 0)) (gN 1) wYes (wAnd (wIsi "int" (wVar 1)) (wAnd (wNot (wIsi "bool" (wVar 1))) (wOp oGt (wVar 1) (wC (.int 0))))))) wNil)))) (sRet (wC (.bl false))) sNext)
    (sRet (wCall cAll (wCons (wFrz (wComp [2] (wRange1 (wCons (wOp oSub (wCall cLen (wCons (wVar 0) wNil)) (wC (.int 1))) wNil)) (gN 2) wYes (wOp oGe (wOp oIx (wVar 0) (wVar 2)) (wOp oIx (wVar 0) (wOp oAdd (wVar 2) (wC (.int 1))))))) wNil)))))
def W_size_of : WS :=
  (sRet (wCall cSum (wCons (wVar 0) wNil)))
def W_conjugate : WS :=
  (sSeq (sAsg (wIf (wTru (wVar 0)) (wOp oIx (wVar 0) (wC (.int 0))) (wC (.int 0))) (gN 1))
    (sRet (wCall cTuple (wCons (wFrz (wComp [2] (wRange2 (wCons (wC (.int 1)) (wCons (wOp oAdd (wVar 1) (wC (.int 1))) wNil))) (gN 2) wYes (wCall cLen (wCons (wFrz (wComp [3] (wIt (wVar 0)) (gN 3) (wTst (wOp oGe (wVar 3) (wVar 2))) (wVar 3))) wNil)))) wNil))))
def W_sorted_down : WS :=
  (sRet (wCall cTuple (wCons (wFrz (wSortedRev (wFrz (wComp [1] (wIt (wVar 0)) (gN 1) (wTst (wOp oGt (wVar 1) (wC (.int 0)))) (wVar 1))))) wNil)))
def W_sums_of : WS :=
  (sSeq (sAsg (wOwn (wLst wNil)) (gN 2))
    (sSeq (sAsg (wC (.int 0)) (gN 3))
    (sSeq (sFor (wRange1 (wCons (wVar 1) wNil)) (gN 4) (sSeq (sAug 3 (wIf (wTst (wOp oLt (wVar 4) (wCall cLen (wCons (wVar 0) wNil)))) (wOp oIx (wVar 0) (wVar 4)) (wC (.int 0))) ipAdd)
    (sExpr (wMt mAppend (wVar 2) (wCons (wVar 3) wNil)))))
    (sRet (wVarFrz 2)))))
def W_dominates (c_size_of : Ct) (c_sums_of : Ct) : WS :=
  (sSeq (sIf (wTst (wOp oNe (wCall c_size_of (wCons (wVar 0) wNil)) (wCall c_size_of (wCons (wVar 1) wNil)))) (sRet (wC (.bl false))) sNext)
    (sSeq (sAsg (wCall cMax2 (wCons (wCall cLen (wCons (wVar 0) wNil)) (wCons (wCall cLen (wCons (wVar 1) wNil)) wNil))) (gN 2))
    (sRet (wCall cAll (wCons (wFrz (wComp [3, 4] (wZipA (wCons (wCall c_sums_of (wCons (wVar 0) (wCons (wVar 2) wNil))) (wCons (wCall c_sums_of (wCons (wVar 1) (wCons (wVar 2) wNil))) wNil))) (gTup2 2 (gCons2 (gN 3) (gCons2 (gN 4) gNil2))) wYes (wOp oGe (wVar 3) (wVar 4)))) wNil)))))
def W_heads : WS :=
  (sSeq (sPar [2, 3] (wCons (wOwn (wLst wNil)) (wCons (wC (.int 0)) wNil)))
    (sSeq (sFor (wRange1 (wCons (wVar 1) wNil)) (gN 4) (sSeq (sAsg (wOp oAdd (wVar 3) (wIf (wTst (wOp oLt (wVar 4) (wCall cLen (wCons (wVar 0) wNil)))) (wOp oIx (wVar 0) (wVar 4)) (wC (.int 0)))) (gN 3))
    (sExpr (wMt mAppend (wVar 2) (wCons (wVar 3) wNil)))))
    (sRet (wVarFrz 2))))
def W_over (c__law_heads : Ct) : WS :=
  (sSeq (sAsg (wCall cMax2 (wCons (wCall cLen (wCons (wVar 0) wNil)) (wCons (wCall cLen (wCons (wVar 1) wNil)) wNil))) (gN 2))
    (sSeq (sAsg (wTup (wCons (wCall c__law_heads (wCons (wVar 0) (wCons (wVar 2) wNil))) (wCons (wCall c__law_heads (wCons (wVar 1) (wCons (wVar 2) wNil))) wNil))) (gTup2 2 (gCons2 (gN 3) (gCons2 (gN 4) gNil2))))
    (sRet (wAnd (wOp oEq (wCall cSum (wCons (wVar 0) wNil)) (wCall cSum (wCons (wVar 1) wNil))) (wCall cAll (wCons (wFrz (wComp [5] (wRange1 (wCons (wVar 2) wNil)) (gN 5) wYes (wOp oGe (wOp oIx (wVar 3) (wVar 5)) (wOp oIx (wVar 4) (wVar 5))))) wNil))))))
def W_columns : WS :=
  (sRet (wCall cTuple (wCons (wFrz (wComp [1] (wRange1 (wCons (wCall cMax1 (wCons (wOp oAdd (wVar 0) (wTup (wCons (wC (.int 0)) wNil))) wNil)) wNil)) (gN 1) wYes (wCall cLen (wCons (wFrz (wComp [2] (wIt (wVar 0)) (gN 2) (wTst (wOp oGt (wVar 2) (wVar 1))) (wVar 2))) wNil)))) wNil)))
def W_lawpart : WS :=
  (sSeq (sIf (bOr (bNot (wTst (wIsi "tuple" (wVar 0)))) (bNot (wTst (wCall cAll (wCons (wFrz (wComp [1] (wIt (wVar 0)) (gN 1) wYes (wAnd (wIsi "int" (wVar 1)) (wAnd (wNot (wIsi "bool" (wVar 1))) (wOp oGt (wVar 1) (wC (.int 0))))))) wNil))))) (sRet (wC (.bl false))) sNext)
    (sRet (wCall cAll (wCons (wFrz (wComp [2] (wRange1 (wCons (wOp oSub (wCall cLen (wCons (wVar 0) wNil)) (wC (.int 1))) wNil)) (gN 2) wYes (wOp oGe (wOp oIx (wVar 0) (wVar 2)) (wOp oIx (wVar 0) (wOp oAdd (wVar 2) (wC (.int 1))))))) wNil))))
def W_partition (c__law_take : Ct) : WS :=
  (sSeq (sPar [2, 3] (wCons (wOwn (wLst wNil)) (wCons (wVar 1) wNil)))
    (sSeq (sWhile (wTst (wOp oGt (wVar 1) (wC (.int 0)))) (sSeq (sAsg (wOp oAdd (wC (.int 1)) (wCall c__law_take (wCons (wVar 0) (wCons (wCall cMin2 (wCons (wVar 1) (wCons (wVar 3) wNil))) wNil)))) (gN 4))
    (sSeq (sIf (wTst (wOp oGt (wCall c__law_take (wCons (wVar 0) (wCons (wC (.int 3)) wNil))) (wC (.int 0)))) (sAsg (wCall cMin2 (wCons (wVar 4) (wCons (wOp oAdd (wC (.int 1)) (wCall c__law_take (wCons (wVar 0) (wCons (wCall cMin2 (wCons (wVar 1) (wCons (wVar 3) wNil))) wNil)))) wNil))) (gN 4)) sNext)
    (sSeq (sExpr (wMt mAppend (wVar 2) (wCons (wVar 4) wNil)))
    (sPar [1, 3] (wCons (wOp oSub (wVar 1) (wVar 4)) (wCons (wVar 1) wNil)))))))
    (sRet (wCall cTuple (wCons (wFrz (wSortedRev (wVar 2))) wNil)))))
/-! the plain law of partitions -/
def falls (r : List Int) : Prop := r.Pairwise (· ≥ ·)
def cnt (k : Int) (r : List Int) : Nat := (r.filter fun x => decide (k ≤ x)).length
def conjM (M : Nat) (r : List Int) : List Int := (List.range M).map fun k : Nat => (cnt ((k : Int) + 1) r : Int)
def conj (r : List Int) : List Int := conjM (r.headD 0).toNat r
def minN (x : Int) (m : Nat) : Int := if x ≤ m then x else m
def Part (r : List Int) : Prop := falls r ∧ ∀ x ∈ r, 0 < x
theorem cnt_cons (k x : Int) (r : List Int) : cnt k (x :: r) = cnt k r + if k ≤ x then 1 else 0 := by
  unfold cnt
  rw [List.filter_cons]
  by_cases h : k ≤ x
  · rw [if_pos (decide_eq_true h), if_pos h]; rfl
  · rw [if_neg (by simpa using h), if_neg h]; rfl
theorem head_max {r : List Int} (h : falls r) : ∀ x ∈ r, x ≤ r.headD 0 := by
  cases r with
  | nil => intro x hx; cases hx
  | cons y r =>
    intro x hx
    rcases List.mem_cons.mp hx with e | e
    · rw [e]; exact Int.le_refl _
    · exact List.rel_of_pairwise_cons h e
theorem ones_sum (x : Int) (hx : 0 ≤ x) : ∀ m : Nat, ((List.range m).map fun k : Nat => if (k : Int) + 1 ≤ x then (1 : Int) else 0).sum = minN x m
  | 0 => by
    unfold minN
    simp
    omega
  | m + 1 => by
    rw [List.range_succ, List.map_append, List.sum_append, ones_sum x hx m]
    unfold minN
    simp
    split <;> split <;> split <;> omega
theorem conjM_take (M m : Nat) : ∀ r : List Int, (∀ x ∈ r, 0 ≤ x ∧ x ≤ M) → ((conjM M r).take m).sum = (r.map fun x => minN x m).sum
  | [], _ => by
    have : ∀ l : List Nat, (l.map fun k : Nat => ((cnt ((k : Int) + 1) [] : Nat) : Int)).sum = 0 := fun l => by
      induction l with
      | nil => rfl
      | cons x l ih => rw [List.map_cons, List.sum_cons, ih]; rfl
    unfold conjM
    rw [← List.map_take, this]
    rfl
  | x :: r, h => by
    have ih := conjM_take M m r fun y hy => h y (List.mem_cons_of_mem _ hy)
    obtain ⟨h0, h1⟩ := h x (List.mem_cons_self ..)
    rw [List.map_cons, List.sum_cons, ← ih]
    unfold conjM
    rw [← List.map_take, ← List.map_take, List.take_range]
    have : ∀ l : List Nat, (l.map fun k : Nat => ((cnt ((k : Int) + 1) (x :: r) : Nat) : Int)).sum = (l.map fun k : Nat => if (k : Int) + 1 ≤ x then (1 : Int) else 0).sum + (l.map fun k : Nat => ((cnt ((k : Int) + 1) r : Nat) : Int)).sum := fun l => by
      induction l with
      | nil => rfl
      | cons k l ih =>
        rw [List.map_cons, List.sum_cons, ih, List.map_cons, List.sum_cons, List.map_cons, List.sum_cons, cnt_cons]
        split <;> omega
    rw [this, ones_sum x h0]
    congr 1
    unfold minN
    split <;> split <;> omega
theorem conj_take {r : List Int} (h : Part r) (m : Nat) : ((conj r).take m).sum = (r.map fun x => minN x m).sum := conjM_take _ m r fun x hx => by
  have := head_max h.1 x hx
  have := h.2 x hx
  omega
def Dom (a b : List Int) : Prop := a.sum = b.sum ∧ ∀ m : Nat, (b.take m).sum ≤ (a.take m).sum
def pos (t : Int) : Int := if 0 ≤ t then t else 0
theorem minN_pos (m : Nat) : ∀ r : List Int, (r.map fun x => minN x m).sum = r.sum - (r.map fun x => pos (x - m)).sum
  | [] => rfl
  | x :: r => by
    rw [List.map_cons, List.sum_cons, minN_pos m r, List.map_cons, List.sum_cons, List.sum_cons]
    unfold minN pos
    split <;> split <;> omega
theorem pos_upper (m : Nat) : ∀ b : List Int, falls b → ∃ j : Nat, (b.map fun x => pos (x - m)).sum = (b.take j).sum - j * m ∧ j ≤ b.length
  | [], _ => ⟨0, by simp, Nat.le_refl _⟩
  | x :: r, h => by
    by_cases c : x ≤ m
    · refine ⟨0, ?_, Nat.zero_le _⟩
      have : ∀ l : List Int, (∀ y ∈ l, y ≤ m) → (l.map fun x => pos (x - m)).sum = 0 := fun l hl => by
        induction l with
        | nil => rfl
        | cons y l ih =>
          rw [List.map_cons, List.sum_cons, ih fun z hz => hl z (List.mem_cons_of_mem _ hz)]
          have := hl y (List.mem_cons_self ..)
          unfold pos
          split <;> omega
      rw [this _ fun y hy => by
        rcases List.mem_cons.mp hy with e | e
        · rw [e]; exact c
        · have : x ≥ y := List.rel_of_pairwise_cons h e
          omega]
      simp
    · obtain ⟨j, hj, hl⟩ := pos_upper m r (List.Pairwise.of_cons h)
      refine ⟨j + 1, ?_, by rw [List.length_cons]; omega⟩
      rw [List.map_cons, List.sum_cons, hj, List.take_succ_cons, List.sum_cons]
      have e : ((j + 1 : Nat) : Int) * m = j * m + m := by rw [show ((j + 1 : Nat) : Int) = j + 1 by omega, Int.add_mul]; omega
      rw [e]
      unfold pos
      rw [if_pos (by omega)]
      omega
theorem pos_sum (m : Nat) : ∀ a : List Int, 0 ≤ (a.map fun x => pos (x - m)).sum
  | [] => Int.le_refl _
  | x :: r => by
    have := pos_sum m r
    rw [List.map_cons, List.sum_cons]
    unfold pos at this ⊢
    split <;> omega
theorem pos_lower (m : Nat) : ∀ (a : List Int) (j : Nat), (a.take j).sum - j * m ≤ (a.map fun x => pos (x - m)).sum
  | a, 0 => by
    have := pos_sum m a
    simp
    exact this
  | [], j + 1 => by
    have : 0 ≤ ((j + 1 : Nat) : Int) * m := Int.mul_nonneg (by omega) (by omega)
    simp at this ⊢
    omega
  | x :: r, j + 1 => by
    have ih := pos_lower m r j
    have e : ((j + 1 : Nat) : Int) * m = j * m + m := by rw [show ((j + 1 : Nat) : Int) = j + 1 by omega, Int.add_mul]; omega
    rw [e, List.take_succ_cons, List.sum_cons, List.map_cons, List.sum_cons]
    generalize (List.map (fun x => pos (x - m)) r).sum = z at ih ⊢
    unfold pos
    split <;> omega
theorem minN_all {r : List Int} {M : Nat} (h : ∀ x ∈ r, x ≤ M) : (r.map fun x => minN x M).sum = r.sum := by
  induction r with
  | nil => rfl
  | cons x r ih =>
    rw [List.map_cons, List.sum_cons, List.sum_cons, ih fun y hy => h y (List.mem_cons_of_mem _ hy)]
    unfold minN
    rw [if_pos (h x (List.mem_cons_self ..))]
theorem conj_sum {r : List Int} (h : Part r) : (conj r).sum = r.sum := by
  have e := conj_take h (r.headD 0).toNat
  rw [List.take_of_length_le (by unfold conj conjM; simp)] at e
  rw [e, minN_all]
  intro x hx
  have := head_max h.1 x hx
  omega
theorem dom_conj {a b : List Int} (ha : Part a) (hb : Part b) (h : Dom a b) : Dom (conj b) (conj a) := by
  refine ⟨by rw [conj_sum ha, conj_sum hb, h.1], fun m => ?_⟩
  rw [conj_take ha, conj_take hb, minN_pos, minN_pos, h.1]
  obtain ⟨j, hj, _⟩ := pos_upper m b hb.1
  have h1 := pos_lower m a j
  have h2 := h.2 j
  omega
theorem cnt_at : ∀ {r : List Int}, falls r → ∀ (i : Nat) (k : Int), i < r.length → (i + 1 ≤ cnt k r ↔ k ≤ r.getD i 0)
  | [], _, i, k, hi => absurd hi (by simp)
  | x :: r, h, 0, k, _ => by
    rw [cnt_cons]
    show 0 + 1 ≤ _ ↔ k ≤ x
    by_cases c : k ≤ x
    · rw [if_pos c]
      exact ⟨fun _ => c, fun _ => by omega⟩
    · rw [if_neg c]
      have : cnt k r = 0 := by
        unfold cnt
        rw [List.length_eq_zero_iff, List.filter_eq_nil_iff]
        intro y hy
        have : x ≥ y := List.rel_of_pairwise_cons h hy
        simp
        omega
      rw [this]
      exact ⟨fun h => by omega, fun h => absurd h c⟩
  | x :: r, h, i + 1, k, hi => by
    have ih := cnt_at (List.Pairwise.of_cons h) i k (by simpa using hi)
    rw [cnt_cons]
    show i + 1 + 1 ≤ _ ↔ k ≤ r.getD i 0
    by_cases c : k ≤ x
    · rw [if_pos c, ← ih]
      omega
    · rw [if_neg c]
      have hm : r.getD i 0 ∈ r := by
        rw [List.getD_eq_getElem?_getD, List.getElem?_eq_getElem (by simpa using hi)]
        exact List.getElem_mem _
      have h1 : x ≥ r.getD i 0 := List.rel_of_pairwise_cons h hm
      constructor
      · intro h2
        exact ih.mp (by omega)
      · intro h2
        omega
theorem cnt_len {r : List Int} (h : Part r) : cnt 1 r = r.length := by
  unfold cnt
  rw [List.filter_eq_self.mpr fun x hx => decide_eq_true (by have := h.2 x hx; omega)]
theorem cnt_mono (r : List Int) {k l : Int} (h : k ≤ l) : cnt l r ≤ cnt k r := by
  induction r with
  | nil => exact Nat.le_refl _
  | cons x r ih =>
    rw [cnt_cons, cnt_cons]
    split <;> split <;> omega
theorem conj_len (r : List Int) : (conj r).length = (r.headD 0).toNat := by simp [conj, conjM]
theorem conj_part {r : List Int} (h : Part r) : Part (conj r) := by
  refine ⟨?_, fun x hx => ?_⟩
  · unfold falls conj conjM
    refine List.Pairwise.map _ (fun a b (hab : a < b) => ?_) List.pairwise_lt_range
    have := cnt_mono r (k := (a : Int) + 1) (l := (b : Int) + 1) (by omega)
    omega
  · obtain ⟨k, hk, rfl⟩ := List.mem_map.mp hx
    have hk := List.mem_range.mp hk
    cases r with
    | nil => simp at hk
    | cons y r =>
      have : 0 + 1 ≤ cnt ((k : Int) + 1) (y :: r) := (cnt_at h.1 0 _ (by simp)).mpr (by
        show (k : Int) + 1 ≤ y
        have : k < y.toNat := hk
        omega)
      omega
theorem cnt_range (M : Nat) (c : Nat → Nat) (i v : Nat) (hv : v ≤ M) (h : ∀ k, k < M → (i + 1 ≤ c k ↔ k + 1 ≤ v)) : cnt ((i : Int) + 1) ((List.range M).map fun k => (c k : Int)) = v := by
  unfold cnt
  rw [List.filter_map, List.length_map]
  have e : (List.range M).filter ((fun x : Int => decide ((i : Int) + 1 ≤ x)) ∘ fun k => (c k : Int)) = (List.range M).filter fun k => decide (k < v) := by
    refine List.filter_congr fun k hk => ?_
    have := h k (List.mem_range.mp hk)
    show decide ((i : Int) + 1 ≤ (c k : Int)) = decide (k < v)
    rw [decide_eq_decide]
    constructor
    · intro z; have := this.mp (by omega); omega
    · intro z; have := this.mpr (by omega); omega
  rw [e]
  have : ∀ M, v ≤ M → ((List.range M).filter fun k => decide (k < v)).length = v := fun M hM => by
    induction M with
    | zero => simp; omega
    | succ M ih =>
      rw [List.range_succ, List.filter_append, List.length_append]
      by_cases c : v ≤ M
      · rw [ih c, List.filter_eq_nil_iff.mpr (by simp; omega)]
        simp
      · have ev : v = M + 1 := by omega
        subst ev
        rw [List.filter_eq_self.mpr (fun k hk => decide_eq_true (by have := List.mem_range.mp hk; omega)), List.filter_eq_self.mpr (by simp)]
        simp
  exact this M hv
theorem conj_conj {r : List Int} (h : Part r) : conj (conj r) = r := by
  have hl : (conj (conj r)).length = r.length := by
    rw [conj_len]
    cases r with
    | nil => rfl
    | cons y r =>
      have hy := h.2 y (List.mem_cons_self ..)
      have : (conj (y :: r)).headD 0 = (cnt 1 (y :: r) : Int) := by
        unfold conj conjM
        obtain ⟨n, hn⟩ : ∃ n : Nat, ((y :: r).headD 0).toNat = n + 1 := ⟨y.toNat - 1, by show y.toNat = _; omega⟩
        rw [hn, List.range_succ_eq_map]
        rfl
      rw [this, cnt_len h]
      simp
  refine List.ext_getElem hl fun i h1 h2 => ?_
  have hi : i < r.length := h2
  have hv : r.getD i 0 = r[i] := by rw [List.getD_eq_getElem?_getD, List.getElem?_eq_getElem hi]; rfl
  have hm := List.getElem_mem hi
  have h0 := h.2 _ hm
  have hmx := head_max h.1 _ hm
  have e : (conj (conj r))[i] = (cnt ((i : Int) + 1) (conj r) : Int) := by
    unfold conj conjM
    simp
  rw [e]
  have := cnt_range (r.headD 0).toNat (fun k => cnt ((k : Int) + 1) r) i r[i].toNat (by omega) fun k hk => by
    have := cnt_at h.1 i ((k : Int) + 1) hi
    rw [this, hv]
    omega
  have : cnt ((i : Int) + 1) (conj r) = r[i].toNat := this
  rw [this]
  omega
theorem dom_conj_iff {a b : List Int} (ha : Part a) (hb : Part b) : Dom (conj b) (conj a) ↔ Dom a b :=
  ⟨fun h => by have := dom_conj (conj_part hb) (conj_part ha) h; rwa [conj_conj ha, conj_conj hb] at this, dom_conj ha hb⟩
local macro_rules | `(tactic| walk_at "nx") => `(tactic| ((try dsimp only); rw [sSeq_ev]; (try simp [-sSeq_ev, -compL_cons, -forL_cons])))
def isPosF : F → Bool
  | .int i => decide (0 < i)
  | _ => false
def fallB (ns : List Int) : Bool := (List.range (ns.length - 1)).all fun k => decide (ns.getD (k + 1) 0 ≤ ns.getD k 0)
def isPart : F → Bool
  | .tup xs => xs.all isPosF && fallB (xs.map iv)
  | _ => false
def C_is_partition : Ct := fun xs S Q => ∃ v, xs = [v] ∧ fz v = true ∧ Q (.bl (isPart v)) S
theorem mono_C_is_partition : MonoC C_is_partition := fun xs S Q Q' k ⟨v, e, h, q⟩ => ⟨v, e, h, k _ _ q⟩
theorem pos_ints {xs : List F} (h : xs.all isPosF = true) : ∃ ns : List Int, xs = ns.map F.int := by
  induction xs with
  | nil => exact ⟨[], rfl⟩
  | cons x r ih =>
    rw [List.all_cons, Bool.and_eq_true] at h
    obtain ⟨ns, rfl⟩ := ih h.2
    cases x with
    | int i => exact ⟨i :: ns, rfl⟩
    | _ => cases h.1
theorem fall_walkG {gd : Sto → Prop} {S : Sto} (hgd : gd S) {g : DG} {e : W F} {ρ : Slots} {ns : List Int} {QL : List F → Sto → Prop}
    (he : ∀ k : Nat, ∀ Q : F → Sto → Prop, (oIx (.tup (ns.map F.int)) (.int (k : Int)) S fun a S1 => oIx (.tup (ns.map F.int)) (.int ((k : Int) + 1)) S1 fun b S2 => oGe a b S2 Q) → g (.int (0 + (k : Int))) ρ S fun ρ2 S2 => e ρ2 S2 Q)
    (q : QL (((List.range (ns.length - 1)).map fun k => decide (ns.getD (k + 1) 0 ≤ ns.getD k 0)).map F.bl) S) :
    compL gd g wYes e ρ (rngL 0 (ns.length - 1)) [] S QL := by
  refine compL_mapT (fun i : Nat => F.int (0 + (i : Int))) (fun k => .bl (decide (ns.getD (k + 1) 0 ≤ ns.getD k 0))) hgd (List.range (ns.length - 1)) _ (fun k hk Q2 q2 => ?_) (by rw [List.nil_append, all_bl]; exact q)
  have hk := List.mem_range.mp hk
  have h1 : ns[k]? = some ns[k] := List.getElem?_eq_getElem (by omega)
  have h2 : ns[k + 1]? = some ns[k + 1] := List.getElem?_eq_getElem (by omega)
  have h3 : atI (ns.map F.int) (k : Int) = some (.int ns[k]) := by rw [atI_cast, List.getElem?_map, h1]; rfl
  have h4 : atI (ns.map F.int) ((k : Int) + 1) = some (.int ns[k + 1]) := by rw [show (k : Int) + 1 = ((k + 1 : Nat) : Int) by omega, atI_cast, List.getElem?_map, h2]; rfl
  have := he k Q2 (by
    simp [h3, h4]
    simpa [List.getD, h1, h2] using q2)
  simpa using this
theorem sp_is_partition (fs : List F) (S : Sto) (Q) (h : C_is_partition fs S Q) : fs.length = 1 ∧ W_is_partition { nx := fun _ S' => Q .non S', rt := fun d S' => Q d S' } (startF 3 fs) S := by
  obtain ⟨v, rfl, hv, q⟩ := h
  refine ⟨rfl, ?_⟩
  show W_is_partition _ [some v, none, none] S
  unfold W_is_partition
  rw [sSeq_ev]
  cases v with
  | tup xs =>
    obtain ⟨hl, hz⟩ := fz_tup hv
    simp [-sSeq_ev]
    rw [sSeq_ev]
    simp [-sSeq_ev, -compL_cons, -wAnd_ev]
    refine ⟨mil hl, ?_⟩
    refine compL_map (fun x => .bl (isPosF x)) trivial _ _ (fun x hx Q2 q2 => ?_) ?_
    · have hxz := fz_mem hz hx
      cases x <;> simpa [isiOk_fz hxz, isPosF] using q2
    · rw [List.nil_append, all_bl, cAll_l]
      have e : ((xs.map isPosF).all id) = xs.all isPosF := by rw [List.all_map]; rfl
      rw [e]
      cases h1 : xs.all isPosF with
      | true =>
        obtain ⟨ns, rfl⟩ := pos_ints h1
        rw [show isPart (.tup (ns.map F.int)) = ((ns.map F.int).all isPosF && _) from rfl, h1, iv_map] at q
        rw [List.length_map] at hl
        simp [-compL_cons]
        have := mil hl
        refine ⟨by omega, by omega, ?_⟩
        refine fall_walkG trivial (fun k Q hQ => by simpa using hQ) ?_
        rw [cAll_l, List.all_map]
        exact q
      | false =>
        rw [show isPart (.tup xs) = (xs.all isPosF && _) from rfl, h1] at q
        simpa using q
  | _ => simpa [-sSeq_ev, isiOk_fz hv, isPart] using q
theorem sp_law_is_partition (fs : List F) (S : Sto) (Q) (h : C_is_partition fs S Q) : fs.length = 1 ∧ W_lawpart { nx := fun _ S' => Q .non S', rt := fun d S' => Q d S' } (startF 3 fs) S := by
  obtain ⟨v, rfl, hv, q⟩ := h
  refine ⟨rfl, ?_⟩
  show W_lawpart _ [some v, none, none] S
  unfold W_lawpart
  rw [sSeq_ev]
  cases v with
  | tup xs =>
    obtain ⟨hl, hz⟩ := fz_tup hv
    simp [-sSeq_ev, -compL_cons, -wAnd_ev]
    refine ⟨mil hl, ?_⟩
    refine compL_map (fun x => .bl (isPosF x)) trivial _ _ (fun x hx Q2 q2 => ?_) ?_
    · have hxz := fz_mem hz hx
      cases x <;> simpa [isiOk_fz hxz, isPosF] using q2
    · rw [List.nil_append, all_bl, cAll_l]
      have e : ((xs.map isPosF).all id) = xs.all isPosF := by rw [List.all_map]; rfl
      rw [e]
      cases h1 : xs.all isPosF with
      | true =>
        obtain ⟨ns, rfl⟩ := pos_ints h1
        rw [show isPart (.tup (ns.map F.int)) = ((ns.map F.int).all isPosF && _) from rfl, h1, iv_map] at q
        rw [List.length_map] at hl
        simp [-compL_cons]
        have := mil hl
        refine ⟨by omega, by omega, ?_⟩
        refine fall_walkG trivial (fun k Q hQ => by simpa using hQ) ?_
        rw [cAll_l, List.all_map]
        exact q
      | false =>
        rw [show isPart (.tup xs) = (xs.all isPosF && _) from rfl, h1] at q
        simpa using q
  | _ => simpa [-sSeq_ev, isiOk_fz hv, isPart] using q
def C_size_of : Ct := fun xs S Q => ∃ r : List Int, xs = [rowF r] ∧ Q (.int r.sum) S
theorem mono_C_size_of : MonoC C_size_of := fun xs S Q Q' k ⟨v, e, q⟩ => ⟨v, e, k _ _ q⟩
theorem sp_size_of (fs : List F) (S : Sto) (Q) (h : C_size_of fs S Q) : fs.length = 1 ∧ W_size_of { nx := fun _ S' => Q .non S', rt := fun d S' => Q d S' } (startF 1 fs) S := by
  obtain ⟨r, rfl, q⟩ := h
  refine ⟨rfl, ?_⟩
  show W_size_of _ [some (rowF r)] S
  unfold W_size_of
  simp [rowF]
  exact q
def C_conjugate : Ct := fun xs S Q => ∃ r : List Int, xs = [rowF r] ∧ r.length ≤ 1000 ∧ 0 ≤ r.headD 0 ∧ r.headD 0 ≤ 1000 ∧ Q (rowF (conj r)) S
theorem mono_C_conjugate : MonoC C_conjugate := fun xs S Q Q' k ⟨v, e, h1, h0, h2, q⟩ => ⟨v, e, h1, h0, h2, k _ _ q⟩
theorem sp_conjugate (fs : List F) (S : Sto) (Q) (h : C_conjugate fs S Q) : fs.length = 1 ∧ W_conjugate { nx := fun _ S' => Q .non S', rt := fun d S' => Q d S' } (startF 4 fs) S := by
  obtain ⟨r, rfl, h1, h0, h2, q⟩ := h
  refine ⟨rfl, ?_⟩
  show W_conjugate _ [some (rowF r), none, none, none] S
  unfold W_conjugate
  have key : ∀ M : Int, M = r.headD 0 → (sRet (wCall cTuple (wCons (wFrz (wComp [2] (wRange2 (wCons (wC (.int 1)) (wCons (wOp oAdd (wVar 1) (wC (.int 1))) wNil))) (gN 2) wYes (wCall cLen (wCons (wFrz (wComp [3] (wIt (wVar 0)) (gN 3) (wTst (wOp oGe (wVar 3) (wVar 2))) (wVar 3))) wNil)))) wNil)))
      { nx := fun _ S' => Q .non S', rt := fun d S' => Q d S' } [some (rowF r), some (.int M), none, none] S := fun M hM => by
    rw [← hM] at h0 h2
    have eM : (conj r) = (List.range M.toNat).map fun k : Nat => (cnt ((k : Int) + 1) r : Int) := by rw [hM]; rfl
    simp [-compL_cons]
    refine ⟨⟨by omega, by omega⟩, milI (by omega), ?_⟩
    rw [rngL_map]
    refine compL_mapT (fun i : Nat => F.int (1 + (i : Int))) (fun k : Nat => .int (cnt ((k : Int) + 1) r)) trivial _ _ (fun k hk Q2 q2 => ?_) ?_
    · simp [rowF, -compL_cons]
      refine ⟨mil (by omega), ?_⟩
      refine compL_filterT F.int (fun x => decide ((k : Int) + 1 ≤ x)) F.int trivial r _ (fun x hx A N hA hN => ?_) ?_
      · simp at hA hN ⊢
        split
        · exact hA (by omega)
        · exact hN (by omega)
      · rw [List.nil_append]
        simpa [cnt] using q2
    · rw [List.nil_append]
      rw [eM, rowF, List.map_map] at q
      exact q
  cases r with
  | nil =>
    rw [sSeq_ev]
    simp [rowF, -sRet_ev]
    exact key 0 rfl
  | cons x r =>
    have e0 : atI (F.int x :: r.map F.int) 0 = some (F.int x) := atI_cast (n := 0)
    rw [sSeq_ev]
    simp [rowF, -sRet_ev, e0]
    exact key x rfl
def C_sorted_down : Ct := fun xs S Q => ∃ r : List Int, xs = [rowF r] ∧ r.length ≤ 1000 ∧ ∀ ms : List Int, ms.Perm (r.filter fun x => decide (0 < x)) → ms.Pairwise (· ≥ ·) → Q (rowF ms) S
theorem mono_C_sorted_down : MonoC C_sorted_down := fun xs S Q Q' k ⟨v, e, h, q⟩ => ⟨v, e, h, fun ms h1 h2 => k _ _ (q ms h1 h2)⟩
theorem sp_sorted_down (fs : List F) (S : Sto) (Q) (h : C_sorted_down fs S Q) : fs.length = 1 ∧ W_sorted_down { nx := fun _ S' => Q .non S', rt := fun d S' => Q d S' } (startF 2 fs) S := by
  obtain ⟨r, rfl, h1, q⟩ := h
  refine ⟨rfl, ?_⟩
  show W_sorted_down _ [some (rowF r), none] S
  unfold W_sorted_down
  simp [rowF, -compL_cons]
  refine ⟨mil (by omega), ?_⟩
  refine compL_filterT F.int (fun x => decide (0 < x)) F.int trivial r _ (fun x hx A N hA hN => ?_) ?_
  · simp at hA hN ⊢
    split
    · exact hA ‹_›
    · exact hN (by omega)
  · rw [List.nil_append]
    refine ⟨_, rfl, fun ms k1 k2 => ?_⟩
    simpa [rowF] using q ms k1 k2
def heads (r : List Int) (n : Nat) : List Int := (List.range n).map fun k => (r.take (k + 1)).sum
theorem heads_succ (r : List Int) (n : Nat) : heads r (n + 1) = heads r n ++ [(r.take (n + 1)).sum] := by
  unfold heads
  rw [List.range_succ, List.map_append]
  rfl
theorem take_sum (r : List Int) (n : Nat) : (r.take (n + 1)).sum = (r.take n).sum + if n < r.length then r.getD n 0 else 0 := by
  by_cases h : n < r.length
  · rw [if_pos h, List.take_add_one, List.getElem?_eq_getElem h, List.sum_append]
    simp [List.getD, List.getElem?_eq_getElem h]
  · rw [if_neg h, List.take_of_length_le (by omega), List.take_of_length_le (by omega)]
    omega
def C_sums_of : Ct := fun xs S Q => ∃ (r : List Int) (n : Nat), xs = [rowF r, .int n] ∧ r.length ≤ 1000 ∧ n ≤ 1000 ∧ Q (.lst ((heads r n).map F.int)) S
theorem mono_C_sums_of : MonoC C_sums_of := fun xs S Q Q' k ⟨v, n, e, h1, h2, q⟩ => ⟨v, n, e, h1, h2, k _ _ q⟩
theorem restr_updel {S : Sto} {p : Addr} {l : List F} (h : S p = none) : restr S (delS (updS S p l) p) = S := restr_del h fun a ha _ => updS_ne ha
theorem sp_sums_of (fs : List F) (S : Sto) (Q) (h : C_sums_of fs S Q) : fs.length = 2 ∧ W_sums_of { nx := fun _ S' => Q .non (restr S S'), rt := fun d S' => Q d (restr S S') } (startF 5 fs) S := by
  obtain ⟨r, n, rfl, h1, h2, q⟩ := h
  refine ⟨rfl, ?_⟩
  show W_sums_of _ [some (rowF r), some (.int n), none, none, none] S
  unfold W_sums_of
  walk_at "nx"
  intro p hp
  walk_at "nx"
  walk_at "nx"
  refine ⟨by omega, ?_⟩
  refine forL_rng (fun i ρ S' => S' = updS S p ((heads r i).map F.int) ∧ ∃ o4 : Option F, ρ = [some (rowF r), some (.int n), some (.loc p), some (.int (r.take i).sum), o4]) ⟨rfl, _, rfl⟩ (fun _ _ _ _ => trivial)
    (fun i hi ρ S' N ⟨eS, o4, eρ⟩ hN => ?_) (fun ρ S' ⟨eS, o4, eρ⟩ => ?_)
  · subst eS eρ
    have lh : (heads r i).length = i := by simp [heads]
    have fin : ∀ t : Int, t = (r.take (i + 1)).sum → N [some (rowF r), some (.int n), some (.loc p), some (.int t), some (.int i)] (updS S p ((heads r i).map F.int ++ [.int t])) := fun t ht =>
      hN _ _ ⟨by rw [heads_succ, ht, List.map_append]; rfl, some (.int i), by rw [ht]⟩
    rw [take_sum] at fin
    by_cases c : i < r.length
    · rw [if_pos c] at fin
      have e1 : r[i]? = some r[i] := List.getElem?_eq_getElem c
      have e3 : r.getD i 0 = r[i] := by simp [List.getD, e1]
      have c' : (i : Int) < r.length := by omega
      simp [c, ix_row e1, lh, updS_updS]
      refine ⟨by have := mil (n := i + 1) (by omega); omega, fin _ (by rw [e3])⟩
    · rw [if_neg c] at fin
      simp [c, lh, updS_updS]
      refine ⟨by have := mil (n := i + 1) (by omega); omega, ?_⟩
      simpa using fin _ rfl
  · subst eS eρ
    simp
    rw [restr_updel hp]
    exact q
theorem sp_heads (fs : List F) (S : Sto) (Q) (h : C_sums_of fs S Q) : fs.length = 2 ∧ W_heads { nx := fun _ S' => Q .non (restr S S'), rt := fun d S' => Q d (restr S S') } (startF 5 fs) S := by
  obtain ⟨r, n, rfl, h1, h2, q⟩ := h
  refine ⟨rfl, ?_⟩
  show W_heads _ [some (rowF r), some (.int n), none, none, none] S
  unfold W_heads
  walk_at "nx"
  intro p hp
  walk_at "nx"
  refine ⟨by omega, ?_⟩
  refine forL_rng (fun i ρ S' => S' = updS S p ((heads r i).map F.int) ∧ ∃ o4 : Option F, ρ = [some (rowF r), some (.int n), some (.loc p), some (.int (r.take i).sum), o4]) ⟨rfl, _, rfl⟩ (fun _ _ _ _ => trivial)
    (fun i hi ρ S' N ⟨eS, o4, eρ⟩ hN => ?_) (fun ρ S' ⟨eS, o4, eρ⟩ => ?_)
  · subst eS eρ
    have lh : (heads r i).length = i := by simp [heads]
    have fin : ∀ t : Int, t = (r.take (i + 1)).sum → N [some (rowF r), some (.int n), some (.loc p), some (.int t), some (.int i)] (updS S p ((heads r i).map F.int ++ [.int t])) := fun t ht =>
      hN _ _ ⟨by rw [heads_succ, ht, List.map_append]; rfl, some (.int i), by rw [ht]⟩
    rw [take_sum] at fin
    by_cases c : i < r.length
    · rw [if_pos c] at fin
      have e1 : r[i]? = some r[i] := List.getElem?_eq_getElem c
      have e3 : r.getD i 0 = r[i] := by simp [List.getD, e1]
      have c' : (i : Int) < r.length := by omega
      simp [c, ix_row e1, lh, updS_updS]
      refine ⟨by have := mil (n := i + 1) (by omega); omega, fin _ (by rw [e3])⟩
    · rw [if_neg c] at fin
      simp [c, lh, updS_updS]
      refine ⟨by have := mil (n := i + 1) (by omega); omega, ?_⟩
      simpa using fin _ rfl
  · subst eS eρ
    simp
    rw [restr_updel hp]
    exact q
/-! dominance -/
def domB (a b : List Int) : Bool := decide (a.sum = b.sum) && (List.range (max a.length b.length)).all fun k => decide ((b.take (k + 1)).sum ≤ (a.take (k + 1)).sum)
theorem domB_iff {a b : List Int} : domB a b = true ↔ Dom a b := by
  unfold domB Dom
  rw [Bool.and_eq_true, decide_eq_true_eq, List.all_eq_true]
  refine and_congr_right fun he => ⟨fun h m => ?_, fun h k _ => decide_eq_true (h _)⟩
  cases m with
  | zero => simp
  | succ k =>
    by_cases c : k < max a.length b.length
    · exact of_decide_eq_true (h k (List.mem_range.mpr c))
    · rw [List.take_of_length_le (by omega), List.take_of_length_le (by omega), he]
      exact Int.le_refl _
theorem domB_congr {a b c d : List Int} (h : Dom a b ↔ Dom c d) : domB a b = domB c d := by
  rw [Bool.eq_iff_iff, domB_iff, domB_iff, h]
theorem heads_get {r : List Int} {n k : Nat} (h : k < n) : (heads r n)[k]? = some (r.take (k + 1)).sum := by
  unfold heads
  rw [List.getElem?_map, List.getElem?_range h]
  rfl
theorem heads_len (r : List Int) (n : Nat) : (heads r n).length = n := by simp [heads]
def C_dominates : Ct := fun xs S Q => ∃ a b : List Int, xs = [rowF a, rowF b] ∧ a.length ≤ 1000 ∧ b.length ≤ 1000 ∧ Q (.bl (domB a b)) S
theorem mono_C_dominates : MonoC C_dominates := fun xs S Q Q' k ⟨a, b, e, h1, h2, q⟩ => ⟨a, b, e, h1, h2, k _ _ q⟩
theorem max_ite (i j : Nat) : (if i < j then (j : Int) else (i : Int)) = ((max i j : Nat) : Int) := by
  split <;> omega
theorem zipL_heads (a b : List Int) (n : Nat) : zipL ((heads a n).map F.int) ((heads b n).map F.int) = (List.range n).map fun k => F.tup [.int (a.take (k + 1)).sum, .int (b.take (k + 1)).sum] := by
  have gen : ∀ l : List Nat, zipL ((l.map fun k => (a.take (k + 1)).sum).map F.int) ((l.map fun k => (b.take (k + 1)).sum).map F.int) = l.map fun k => F.tup [.int (a.take (k + 1)).sum, .int (b.take (k + 1)).sum] := fun l => by
    induction l with
    | nil => rfl
    | cons x l ih => rw [List.map_cons, List.map_cons, List.map_cons, List.map_cons, zipL, ih, List.map_cons]
  exact gen _
theorem sp_dominates (fs : List F) (S : Sto) (Q) (h : C_dominates fs S Q) : fs.length = 2 ∧ W_dominates C_size_of C_sums_of { nx := fun _ S' => Q .non S', rt := fun d S' => Q d S' } (startF 5 fs) S := by
  obtain ⟨a, b, rfl, h1, h2, q⟩ := h
  refine ⟨rfl, ?_⟩
  show W_dominates _ _ _ [some (rowF a), some (rowF b), none, none, none] S
  unfold W_dominates
  walk_at "nx"
  refine ⟨a, rfl, ?_⟩
  refine ⟨b, rfl, ?_⟩
  simp [-sSeq_ev, -compL_cons, -forL_cons]
  by_cases c : a.sum = b.sum
  · rw [if_pos c]
    have e : domB a b = ((List.range (max a.length b.length)).map fun k => decide ((b.take (k + 1)).sum ≤ (a.take (k + 1)).sum)).all id := by
      unfold domB
      rw [decide_eq_true c, Bool.true_and, List.all_map]
      rfl
    walk_at "nx"
    rw [max_ite]
    refine ⟨a, _, rfl, h1, by omega, ?_⟩
    refine ⟨b, _, rfl, h2, by omega, ?_⟩
    simp [-compL_cons]
    rw [zipL_heads]
    refine ⟨by simpa using mil (by omega), ?_⟩
    refine compL_mapT (fun k : Nat => F.tup [.int (a.take (k + 1)).sum, .int (b.take (k + 1)).sum]) (fun k => .bl (decide ((b.take (k + 1)).sum ≤ (a.take (k + 1)).sum))) trivial _ _ (fun k hk Q2 q2 => ?_) ?_
    · simpa using q2
    · rw [List.nil_append, all_bl, cAll_l, ← e]
      exact q
  · rw [if_neg c]
    have e : domB a b = false := by
      unfold domB
      rw [decide_eq_false c, Bool.false_and]
    rw [e] at q
    exact q
theorem sp_over (fs : List F) (S : Sto) (Q) (h : C_dominates fs S Q) : fs.length = 2 ∧ W_over C_sums_of { nx := fun _ S' => Q .non S', rt := fun d S' => Q d S' } (startF 6 fs) S := by
  obtain ⟨a, b, rfl, h1, h2, q⟩ := h
  refine ⟨rfl, ?_⟩
  show W_over _ _ [some (rowF a), some (rowF b), none, none, none, none] S
  unfold W_over
  walk_at "nx"
  rw [max_ite]
  walk_at "nx"
  refine ⟨a, _, rfl, h1, by omega, ?_⟩
  simp [-sSeq_ev, -compL_cons, -forL_cons]
  refine ⟨b, _, rfl, h2, by omega, ?_⟩
  simp [rowF, -compL_cons]
  by_cases c : a.sum = b.sum
  · rw [if_pos c]
    have e : domB a b = ((List.range (max a.length b.length)).map fun k => decide ((b.take (k + 1)).sum ≤ (a.take (k + 1)).sum)).all id := by
      unfold domB
      rw [decide_eq_true c, Bool.true_and, List.all_map]
      rfl
    refine ⟨by omega, mil (by omega), ?_⟩
    rw [rngL_map]
    refine compL_mapT (fun i : Nat => F.int (0 + (i : Int))) (fun k => .bl (decide ((b.take (k + 1)).sum ≤ (a.take (k + 1)).sum))) trivial _ _ (fun k hk Q2 q2 => ?_) ?_
    · have hk := List.mem_range.mp hk
      have e1 : atI ((heads a (max a.length b.length)).map F.int) (k : Int) = some (.int (a.take (k + 1)).sum) := by rw [atI_cast, List.getElem?_map, heads_get hk]; rfl
      have e2 : atI ((heads b (max a.length b.length)).map F.int) (k : Int) = some (.int (b.take (k + 1)).sum) := by rw [atI_cast, List.getElem?_map, heads_get hk]; rfl
      simp [e1, e2]
      exact q2
    · rw [List.nil_append, all_bl, cAll_l, ← e]
      exact q
  · rw [if_neg c]
    have e : domB a b = false := by
      unfold domB
      rw [decide_eq_false c, Bool.false_and]
    rw [e] at q
    exact q
theorem max_len {a b : Nat} : a ≤ max a b := by omega
def C_columns : Ct := fun xs S Q => ∃ r : List Int, xs = [rowF r] ∧ r.length ≤ 1000 ∧ Part r ∧ r.headD 0 ≤ 1000 ∧ Q (rowF (conj r)) S
theorem mono_C_columns : MonoC C_columns := fun xs S Q Q' k ⟨v, e, h1, h0, h2, q⟩ => ⟨v, e, h1, h0, h2, k _ _ q⟩
theorem sp_columns (fs : List F) (S : Sto) (Q) (h : C_columns fs S Q) : fs.length = 1 ∧ W_columns { nx := fun _ S' => Q .non S', rt := fun d S' => Q d S' } (startF 3 fs) S := by
  obtain ⟨r, rfl, h1, hp, h2, q⟩ := h
  refine ⟨rfl, ?_⟩
  show W_columns _ [some (rowF r), none, none] S
  unfold W_columns
  simp [rowF, -compL_cons]
  refine ⟨mil (by omega), ?_⟩
  rw [show r.map F.int ++ [F.int 0] = (r ++ [0]).map F.int by rw [List.map_append]; rfl]
  refine cMax1_t (by simp) fun M hM hmax => ?_
  have eM : M = r.headD 0 := by
    have hd : 0 ≤ r.headD 0 := by
      cases r with
      | nil => exact Int.le_refl _
      | cons x r => have := hp.2 x (List.mem_cons_self ..); show 0 ≤ x; omega
    have a1 : r.headD 0 ≤ M := hmax _ (by
      cases r with
      | nil => simp
      | cons x r => simp)
    have a2 : M ≤ r.headD 0 := by
      rcases List.mem_append.mp hM with h | h
      · exact head_max hp.1 M h
      · rw [List.mem_singleton.mp h]; exact hd
    omega
  have hd : 0 ≤ M := hmax 0 (by simp)
  rw [← eM] at h2
  have eC : (conj r) = (List.range M.toNat).map fun k : Nat => (cnt ((k : Int) + 1) r : Int) := by rw [eM]; rfl
  simp [-compL_cons]
  refine ⟨⟨by omega, by omega⟩, milI (by omega), ?_⟩
  rw [rngL_map]
  refine compL_mapT (fun i : Nat => F.int (0 + (i : Int))) (fun k : Nat => .int (cnt ((k : Int) + 1) r)) trivial _ _ (fun k hk Q2 q2 => ?_) ?_
  · simp [-compL_cons]
    refine ⟨mil (by omega), ?_⟩
    refine compL_filterT F.int (fun x => decide ((k : Int) + 1 ≤ x)) F.int trivial r _ (fun x hx A N hA hN => ?_) ?_
    · simp at hA hN ⊢
      split
      · exact hA (by omega)
      · exact hN (by omega)
    · rw [List.nil_append]
      simpa [cnt] using q2
  · rw [List.nil_append]
    rw [eC, rowF, List.map_map] at q
    exact q
theorem perm_sum {l m : List Int} (h : l.Perm m) : l.sum = m.sum := by
  induction h with
  | nil => rfl
  | cons x _ ih => rw [List.sum_cons, List.sum_cons, ih]
  | swap x y l => rw [List.sum_cons, List.sum_cons, List.sum_cons, List.sum_cons]; omega
  | trans _ _ h1 h2 => rw [h1, h2]
theorem sum_len {r : List Int} (h : ∀ x ∈ r, 0 < x) : (r.length : Int) ≤ r.sum := by
  induction r with
  | nil => exact Int.le_refl _
  | cons x r ih =>
    have := ih fun y hy => h y (List.mem_cons_of_mem _ hy)
    have := h x (List.mem_cons_self ..)
    rw [List.length_cons, List.sum_cons]
    omega
theorem head_le {r : List Int} (h : ∀ x ∈ r, 0 < x) : 0 ≤ r.headD 0 ∧ r.headD 0 ≤ r.sum := by
  cases r with
  | nil => exact ⟨Int.le_refl _, Int.le_refl _⟩
  | cons x r =>
    have := sum_len fun y hy => h y (List.mem_cons_of_mem _ hy)
    have := h x (List.mem_cons_self ..)
    show 0 ≤ x ∧ x ≤ (x :: r).sum
    rw [List.sum_cons]
    omega
def C_partition : Ct := fun xs S Q => ∃ b c, ∃ n : Nat, xs = [.loc b, .int n] ∧ TapeAt S b c ∧ n ≤ 1000 ∧ ∀ r S', Part r → r.sum = n → TapeAt S' b c → Fr S S' b c → Q (rowF r) S'
theorem mono_C_partition : MonoC C_partition := fun xs S Q Q' k ⟨b, c, n, e, h1, h2, q⟩ => ⟨b, c, n, e, h1, h2, fun r S' h1 h2 h3 h4 => k _ _ (q r S' h1 h2 h3 h4)⟩
theorem sp_partition (fs : List F) (S : Sto) (Q) (h : C_partition fs S Q) : fs.length = 2 ∧ W_partition C_take { nx := fun _ S' => Q .non (restr S S'), rt := fun d S' => Q d (restr S S') } (startF 5 fs) S := by
  obtain ⟨b, c, n, rfl, hb, hn, q⟩ := h
  refine ⟨rfl, ?_⟩
  show W_partition _ _ [some (.loc b), some (.int n), none, none, none] S
  unfold W_partition
  walk_at "nx"
  intro p hp
  have hpb : p ≠ b := fun e => hb.b (by rw [← e]; exact hp)
  have hpc : p ≠ c := fun e => hb.c (by rw [← e]; exact hp)
  refine seq_via (fun ρ S' => TapeAt S' b c ∧ (∀ a, a ≠ b → a ≠ c → a ≠ p → S' a = S a) ∧ ∃ (rs : List Int) (o1 o3 o4 : Option F), S' p = some (rs.map F.int) ∧ (∀ x ∈ rs, 0 < x) ∧ rs.sum = n ∧ ρ = [some (.loc b), o1, some (.loc p), o3, o4]) (fun N hN => ?_) (fun ρ S2 ⟨hb2, f2, rs, o1, o3, o4, hvs, hpos, hsum, eρ⟩ => ?_)
  · refine while_of (fun k ρ S' => TapeAt S' b c ∧ (∀ a, a ≠ b → a ≠ c → a ≠ p → S' a = S a) ∧ ∃ (rs : List Int) (most : Int) (o4 : Option F), S' p = some (rs.map F.int) ∧ (∀ x ∈ rs, 0 < x) ∧ rs.sum + k = n ∧ (k : Int) ≤ most ∧ most ≤ 1000 ∧ ρ = [some (.loc b), some (.int k), some (.loc p), some (.int most), o4]) ?_
      (k := n) ⟨hb.upd hpb hpc, fun a h1 h2 h3 => updS_ne h3, [], n, none, updS_same, fun _ h => (nomatch h), by simp, Int.le_refl _, by omega, rfl⟩
    intro k ρ S' M ⟨hb', f', rs, most, o4, hvs, hpos, hsum, hm1, hm2, eρ⟩ hM
    subst eρ
    have hlen := sum_len hpos
    by_cases hk : 0 < k
    · have emin : ∀ m : Int, (k : Int) ≤ m → (if m < (k : Int) then m else (k : Int)) = k := fun m hm => if_neg (by omega)
      simp [hk, -sSeq_ev, emin most hm1]
      rw [sSeq_ev]
      simp [-sSeq_ev, emin most hm1]
      refine call_take hb' (by omega) (by omega) fun d S3 hd hb3 f3 => ?_
      have fin : ∀ (v : Int) (S4 : Sto), TapeAt S4 b c → Fr S3 S4 b c → 1 ≤ v → v ≤ k → (sSeq (sExpr (wMt mAppend (wVar 2) (wCons (wVar 4) wNil))) (sPar [1, 3] (wCons (wOp oSub (wVar 1) (wVar 4)) (wCons (wVar 1) wNil))))
          { nx := M, rt := fun d S' => Q d (restr S S'), bk := N, ct := M } [some (.loc b), some (.int k), some (.loc p), some (.int most), some (.int v)] S4 := fun v S4 hb4 f4 v1 v2 => by
        have e4 : S4 p = some (rs.map F.int) := by rw [f4 p hpb hpc, f3 p hpb hpc]; exact hvs
        walk_at "nx"
        rw [e4]
        simp
        refine ⟨by have := mil (n := rs.length + 1) (by omega); omega, ?_⟩
        rw [show rs.map F.int ++ [F.int v] = (rs ++ [v]).map F.int by rw [List.map_append]; rfl, show (k : Int) - v = (((k : Int) - v).toNat : Int) by omega]
        refine hM _ _ ((k : Int) - v).toNat (by omega) ⟨hb4.upd hpb hpc, fun a h1 h2 h3 => by rw [updS_ne h3, f4 a h1 h2, f3 a h1 h2]; exact f' a h1 h2 h3, rs ++ [v], k, _, updS_same, fun x hx => ?_, ?_, by omega, by omega, rfl⟩
        · rcases List.mem_append.mp hx with h | h
          · exact hpos x h
          · rw [List.mem_singleton.mp h]; omega
        · rw [List.sum_append]
          simp
          omega
      simp [-sSeq_ev]
      rw [sSeq_ev]
      simp [-sSeq_ev, emin most hm1]
      refine call_take hb3 (by decide) (by decide) fun e S4 he hb4 f4 => ?_
      simp [-sSeq_ev, emin most hm1]
      split
      · refine call_take hb4 (by omega) (by omega) fun g S5 hg hb5 f5 => ?_
        simp [-sSeq_ev]
        have := fin (if 1 + (g : Int) < 1 + (d : Int) then 1 + (g : Int) else 1 + (d : Int)) S5 hb5 (f4.trans f5) (by split <;> omega) (by split <;> omega)
        simpa [-sSeq_ev] using this
      · exact fin (1 + (d : Int)) S4 hb4 f4 (by omega) (by omega)
    · have hk0 : k = 0 := by omega
      subst hk0
      simp
      exact hN _ _ ⟨hb', f', rs, _, _, _, hvs, hpos, by omega, rfl⟩
  subst eρ
  simp [-sSeq_ev, -compL_cons, -forL_cons]
  rw [hvs]
  refine ⟨rs, rfl, fun ms k1 k2 => ?_⟩
  exact q ms _ ⟨k2, fun x hx => hpos x (k1.mem_iff.mp hx)⟩ (by rw [perm_sum k1, hsum]) (hb.restr hb2) (fr_restr fun a h1 h2 h3 => f2 a h1 h2 fun e => h3 (by rw [e]; exact hp))
theorem falls_uniq : ∀ {l m : List Int}, l.Perm m → l.Pairwise (· ≥ ·) → m.Pairwise (· ≥ ·) → l = m
  | [], m, h, _, _ => by rw [List.nil_perm.mp h]
  | x :: l, [], h, _, _ => by cases h.length_eq
  | x :: l, y :: m, h, h1, h2 => by
    have e1 : x ≤ y := by
      rcases List.mem_cons.mp (h.mem_iff.mp (List.mem_cons_self ..)) with e | e
      · omega
      · have : y ≥ x := List.rel_of_pairwise_cons h2 e
        exact this
    have e2 : y ≤ x := by
      rcases List.mem_cons.mp (h.mem_iff.mpr (List.mem_cons_self ..)) with e | e
      · omega
      · have : x ≥ y := List.rel_of_pairwise_cons h1 e
        exact this
    have e : x = y := by omega
    subst e
    rw [falls_uniq (List.Perm.cons_inv h) (List.Pairwise.of_cons h1) (List.Pairwise.of_cons h2)]
theorem sum_rep (n : Nat) : (List.replicate n (1 : Int)).sum = n := by
  induction n with
  | zero => rfl
  | succ n ih => rw [List.replicate_succ, List.sum_cons, ih]; omega
theorem part_one {n : Nat} (h : 0 < n) : Part [(n : Int)] := ⟨List.pairwise_singleton .., fun x hx => by rw [List.mem_singleton.mp hx]; omega⟩
theorem part_rep (n : Nat) : Part (List.replicate n (1 : Int)) := ⟨List.pairwise_replicate.mpr (.inr (Int.le_refl _)), fun x hx => by rw [(List.mem_replicate.mp hx).2]; decide⟩
end DL

set_option maxHeartbeats 4000000
namespace DL
open PySem PySem.Spec PyProof.Rows L2
local macro_rules | `(tactic| walk_at "nx") => `(tactic| ((try dsimp only); rw [sSeq_ev]; (try simp [-sSeq_ev, -compL_cons, -forL_cons])))
/-! all partitions of a number -/
def W_partitions (c__law_partitions : Ct) : WS :=
  (sSeq (sIf (wTst (wOp oEq (wVar 0) (wC (.int 0)))) (sRet (wFrz (wLst (wCons (wTup wNil) wNil)))) sNext)
    (sSeq (sAsg (wOwn (wLst wNil)) (gN 2))
    (sSeq (sFor (wRange2 (wCons (wC (.int 1)) (wCons (wOp oAdd (wCall cMin2 (wCons (wVar 0) (wCons (wVar 1) wNil))) (wC (.int 1))) wNil))) (gN 3) (sExpr (wMt mExtend (wVar 2) (wCons (wFrz (wComp [4] (wIt (wCall c__law_partitions (wCons (wOp oSub (wVar 0) (wVar 3)) (wCons (wVar 3) wNil)))) (gN 4) wYes (wOp oAdd (wTup (wCons (wVar 3) wNil)) (wVar 4)))) wNil))))
    (sRet (wVarFrz 2)))))
def partsF : Nat → Nat → Nat → List (List Int)
  | 0, _, _ => [[]]
  | n + 1, s, m => if s = 0 then [[]] else (List.range (min s m)).flatMap fun i => (partsF n (s - (i + 1)) (i + 1)).map fun r => ((i + 1 : Nat) : Int) :: r
theorem partsF_mem : ∀ {n s m : Nat} {r : List Int}, s ≤ n → (r ∈ partsF n s m ↔ Part r ∧ r.sum = s ∧ r.headD 0 ≤ m)
  | 0, s, m, r, hs => by
    have : s = 0 := by omega
    subst this
    unfold partsF
    rw [List.mem_singleton]
    constructor
    · intro e
      subst e
      exact ⟨⟨List.Pairwise.nil, fun x hx => absurd hx (List.not_mem_nil)⟩, rfl, by simp⟩
    · rintro ⟨hp, h1, _⟩
      have := sum_len hp.2
      exact List.length_eq_zero_iff.mp (by omega)
  | n + 1, s, m, r, hs => by
    unfold partsF
    by_cases c : s = 0
    · subst c
      rw [if_pos rfl, List.mem_singleton]
      constructor
      · intro e
        subst e
        exact ⟨⟨List.Pairwise.nil, fun x hx => absurd hx (List.not_mem_nil)⟩, rfl, by simp⟩
      · rintro ⟨hp, h1, _⟩
        have := sum_len hp.2
        exact List.length_eq_zero_iff.mp (by omega)
    · rw [if_neg c, List.mem_flatMap]
      constructor
      · rintro ⟨i, hi, h⟩
        have hi := List.mem_range.mp hi
        obtain ⟨r', h', rfl⟩ := List.mem_map.mp h
        obtain ⟨h1, h2, h3⟩ := (partsF_mem (by omega)).mp h'
        refine ⟨⟨List.Pairwise.cons (fun y hy => ?_) h1.1, fun x hx => ?_⟩, ?_, ?_⟩
        · have := head_max h1.1 y hy
          show ((i + 1 : Nat) : Int) ≥ y
          omega
        · rcases List.mem_cons.mp hx with e | e
          · rw [e]; omega
          · exact h1.2 x e
        · rw [List.sum_cons, h2]
          omega
        · show ((i + 1 : Nat) : Int) ≤ m
          omega
      · rintro ⟨hp, h1, h2⟩
        cases r with
        | nil => simp at h1; omega
        | cons x r =>
          have hx := hp.2 x (List.mem_cons_self ..)
          have hx2 : x ≤ m := h2
          have hr := sum_len fun y hy => hp.2 y (List.mem_cons_of_mem _ hy)
          rw [List.sum_cons] at h1
          refine ⟨x.toNat - 1, List.mem_range.mpr (by omega), List.mem_map.mpr ⟨r, (partsF_mem (by omega)).mpr ⟨⟨List.Pairwise.of_cons hp.1, fun y hy => hp.2 y (List.mem_cons_of_mem _ hy)⟩, by omega, ?_⟩, ?_⟩⟩
          · cases r with
            | nil => show (0 : Int) ≤ _; omega
            | cons y r =>
              have : x ≥ y := List.rel_of_pairwise_cons hp.1 (List.mem_cons_self ..)
              show y ≤ _
              omega
          · rw [show ((x.toNat - 1 + 1 : Nat) : Int) = x by omega]
theorem nodup_flat {α β : Type} (f : α → List β) : ∀ l : List α, l.Nodup → (∀ x ∈ l, (f x).Nodup) → (∀ x ∈ l, ∀ y ∈ l, ∀ z, z ∈ f x → z ∈ f y → x = y) → (l.flatMap f).Nodup
  | [], _, _, _ => List.Pairwise.nil
  | x :: l, nd, h1, h2 => by
    rw [List.flatMap_cons]
    refine List.nodup_append.mpr ⟨h1 x (List.mem_cons_self ..), nodup_flat f l (List.nodup_cons.mp nd).2 (fun y hy => h1 y (List.mem_cons_of_mem _ hy)) (fun y hy w hw => h2 y (List.mem_cons_of_mem _ hy) w (List.mem_cons_of_mem _ hw)), fun z hz w hw e => ?_⟩
    subst e
    obtain ⟨y, hy, hw⟩ := List.mem_flatMap.mp hw
    have := h2 x (List.mem_cons_self ..) y (List.mem_cons_of_mem _ hy) z hz hw
    subst this
    exact (List.nodup_cons.mp nd).1 hy
theorem partsF_nodup : ∀ (n s m : Nat), (partsF n s m).Nodup
  | 0, s, m => List.pairwise_singleton ..
  | n + 1, s, m => by
    unfold partsF
    split
    · exact List.pairwise_singleton ..
    · refine nodup_flat _ _ List.nodup_range (fun i _ => ?_) (fun i _ j _ r hi hj => ?_)
      · exact List.Pairwise.map _ (fun a b h e => h (List.cons.inj e).2) (partsF_nodup n _ _)
      · obtain ⟨r1, _, rfl⟩ := List.mem_map.mp hi
        obtain ⟨r2, _, e⟩ := List.mem_map.mp hj
        have := (List.cons.inj e).1
        omega
theorem filter_one {α : Type} (p : α → Bool) (x : α) : ∀ l : List α, l.Nodup → x ∈ l → (∀ y ∈ l, p y = true ↔ y = x) → l.filter p = [x]
  | [], _, h, _ => absurd h List.not_mem_nil
  | y :: l, nd, h, hp => by
    rw [List.filter_cons]
    by_cases e : y = x
    · subst e
      rw [if_pos ((hp y (List.mem_cons_self ..)).mpr rfl), List.filter_eq_nil_iff.mpr fun z hz hpz => (List.nodup_cons.mp nd).1 (by rw [← (hp z (List.mem_cons_of_mem _ hz)).mp hpz]; exact hz)]
    · rw [if_neg fun z => e ((hp y (List.mem_cons_self ..)).mp z), filter_one p x l (List.nodup_cons.mp nd).2 ((List.mem_cons.mp h).resolve_left fun z => e z.symm) fun z hz => hp z (List.mem_cons_of_mem _ hz)]
theorem partsF_len : ∀ (n s m : Nat), s ≤ n → (partsF n s m).length ≤ 2 ^ s
  | 0, s, m, h => by
    have : s = 0 := by omega
    subst this
    exact Nat.le_refl _
  | n + 1, s, m, h => by
    unfold partsF
    split
    · exact Nat.two_pow_pos s
    · have gen : ∀ k, k ≤ s → ((List.range k).flatMap fun i => (partsF n (s - (i + 1)) (i + 1)).map fun r => ((i + 1 : Nat) : Int) :: r).length + 2 ^ (s - k) ≤ 2 ^ s := fun k => by
        induction k with
        | zero => intro _; simp
        | succ k ih =>
          intro hk
          have := ih (by omega)
          have l := partsF_len n (s - (k + 1)) (k + 1) (by omega)
          rw [List.range_succ, List.flatMap_append, List.length_append]
          simp only [List.flatMap_cons, List.flatMap_nil, List.append_nil, List.length_map]
          have e : 2 ^ (s - k) = 2 ^ (s - (k + 1)) + 2 ^ (s - (k + 1)) := by
            rw [show s - k = (s - (k + 1)) + 1 by omega, Nat.pow_succ]
            omega
          omega
      have := gen (min s m) (by omega)
      have := Nat.two_pow_pos (s - min s m)
      omega
def flatP (n s i : Nat) : List (List Int) := (List.range i).flatMap fun i => (partsF n (s - (i + 1)) (i + 1)).map fun r => ((i + 1 : Nat) : Int) :: r
theorem flatP_succ (n s i : Nat) : flatP n s (i + 1) = flatP n s i ++ (partsF n (s - (i + 1)) (i + 1)).map fun r => ((i + 1 : Nat) : Int) :: r := by
  unfold flatP
  rw [List.range_succ, List.flatMap_append]
  simp
def C_parts (n : Nat) : Ct := fun xs S Q => ∃ s m : Nat, xs = [.int s, .int m] ∧ s ≤ n ∧ s ≤ 12 ∧ m ≤ 12 ∧ Q (.lst ((partsF n s m).map rowF)) S
theorem mono_C_parts {n : Nat} : MonoC (C_parts n) := fun xs S Q Q' k ⟨s, m, e, h1, h2, h3, q⟩ => ⟨s, m, e, h1, h2, h3, k _ _ q⟩
theorem sp_parts0 (fs : List F) (S : Sto) (Q) (h : C_parts 0 fs S Q) : fs.length = 2 ∧ W_partitions C_never { nx := fun _ S' => Q .non (restr S S'), rt := fun d S' => Q d (restr S S') } (startF 5 fs) S := by
  obtain ⟨s, m, rfl, h1, h2, h3, q⟩ := h
  refine ⟨rfl, ?_⟩
  show W_partitions _ _ [some (.int s), some (.int m), none, none, none] S
  have : s = 0 := by omega
  subst this
  unfold W_partitions
  walk_at "nx"
  rw [restr_eq fun _ _ => rfl]
  exact q
theorem sp_parts (n : Nat) (fs : List F) (S : Sto) (Q) (h : C_parts (n + 1) fs S Q) : fs.length = 2 ∧ W_partitions (C_parts n) { nx := fun _ S' => Q .non (restr S S'), rt := fun d S' => Q d (restr S S') } (startF 5 fs) S := by
  obtain ⟨s, m, rfl, h1, h2, h3, q⟩ := h
  refine ⟨rfl, ?_⟩
  show W_partitions _ _ [some (.int s), some (.int m), none, none, none] S
  unfold W_partitions
  by_cases c : s = 0
  · subst c
    walk_at "nx"
    rw [restr_eq fun _ _ => rfl]
    exact q
  · walk_at "nx"
    rw [if_neg c]
    walk_at "nx"
    intro p hp
    walk_at "nx"
    have emin : (if m < s then (m : Int) else (s : Int)) = ((min s m : Nat) : Int) := by split <;> omega
    rw [emin]
    refine ⟨⟨by omega, by omega⟩, ?_⟩
    rw [rngL_map, List.range_eq_range']
    refine forL_idx (fun i : Nat => F.int (1 + (i : Int))) (min s m) (fun i ρ S' => S' = updS S p ((flatP n s i).map rowF) ∧ (flatP n s i).length ≤ i * 2 ^ 12 ∧ ∃ o3 o4 : Option F, ρ = [some (.int s), some (.int m), some (.loc p), o3, o4])
      (fun _ _ _ _ => trivial) (fun i hi ρ S' N ⟨eS, hl, o3, o4, eρ⟩ hN => ?_) (fun ρ S' ⟨eS, hl, o3, o4, eρ⟩ => ?_) _ 0 _ _ (by omega) ⟨rfl, by simp [flatP], _, _, rfl⟩
    · subst eS eρ
      simp
      rw [restr_updel hp]
      rw [partsF, if_neg c] at q
      exact q
    · subst eS eρ
      have l1 := partsF_len n (s - (i + 1)) (i + 1) (by omega)
      have l2 : 2 ^ (s - (i + 1)) ≤ 2 ^ 12 := Nat.pow_le_pow_right (by decide) (by omega)
      have l3 : i * 2 ^ 12 ≤ 12 * 2 ^ 12 := Nat.mul_le_mul_right _ (by omega)
      have e1 : (1 : Int) + (i : Int) = ((i + 1 : Nat) : Int) := by omega
      simp only [e1]
      have e2 : (s : Int) - ((i + 1 : Nat) : Int) = ((s - (i + 1) : Nat) : Int) := by omega
      simp [-compL_cons, -Int.natCast_add]
      rw [e2]
      refine ⟨s - (i + 1), i + 1, rfl, by omega, by omega, by omega, ?_⟩
      simp [-compL_cons, -Int.natCast_add, updS_same]
      refine ⟨mil (by omega), ?_⟩
      refine compL_mapT rowF (fun r => rowF (((i + 1 : Nat) : Int) :: r)) trivial _ _ (fun r hr Q2 q2 => ?_) ?_
      · have hr2 := (partsF_mem (by omega)).mp hr
        have := sum_len hr2.1.2
        simp [rowF]
        refine ⟨by have := mil (n := r.length + 1) (by omega); omega, ?_⟩
        simpa [rowF] using q2
      · rw [updS_same, List.nil_append]
        dsimp only
        rw [updS_updS]
        have ea : (flatP n s i).map rowF ++ (partsF n (s - (i + 1)) (i + 1)).map (fun r => rowF (((i + 1 : Nat) : Int) :: r)) = (flatP n s (i + 1)).map rowF := by
          rw [flatP_succ, List.map_append, List.map_map]
          rfl
        refine ⟨?_, hN _ _ ⟨by rw [ea], ?_, _, _, rfl⟩⟩
        · rw [List.length_map, List.length_map]
          exact mil (by omega)
        · rw [flatP_succ, List.length_append, List.length_map]
          omega
section
variable {P : Program} {w : World} {K : PySem.W.Frag} {mg : Str → Option Value} {base : Heap}
theorem parts_cal {params : Arguments} {body : List Stmt} {scope : Scope} {f : Addr} {fd : FuncData}
    (ok : ∀ (lv : Nat), ∀ {Crec C : Ct}, Cal P w K mg base lv "_law_partitions" ["size", "most"] Crec → MonoC C → (∀ fs S Q, C fs S Q → fs.length = 2 ∧ W_partitions Crec { nx := fun _ S' => Q .non (restr S S'), rt := fun d S' => Q d (restr S S') } (startF 5 fs) S) → FnD P w K mg base (lv + 1) f fd ["size", "most"] C)
    (F : FunD K "_law_partitions" "_law_partitions" params body scope [] [] f fd) (g : mg "_law_partitions" = some (.ref f)) (b : L2.Binds K fd ["size", "most"] []) : ∀ n, Cal P w K mg base (n + 1) "_law_partitions" ["size", "most"] (C_parts n)
  | 0 => cal_of F g b (ok 0 (cal_never_at 0 F g b) mono_C_parts sp_parts0)
  | n + 1 => cal_of F g b (ok (n + 1) (parts_cal ok F g b n) mono_C_parts (sp_parts n))
end
theorem part_small {r : List Int} (h : Part r) : (r.length : Int) ≤ r.sum ∧ 0 ≤ r.headD 0 ∧ r.headD 0 ≤ r.sum := ⟨sum_len h.2, head_le h.2⟩
theorem fz_rows {l : List (List Int)} (hl : l.length ≤ 1000000) (h : ∀ r ∈ l, r.length ≤ 1000000) : fz (.lst (l.map rowF)) = true := fz_lst_of (by rw [List.length_map]; exact hl) fun x hx => by
  obtain ⟨r, hr, rfl⟩ := List.mem_map.mp hx
  exact fz_row (h r hr)
theorem dep_rows (l : List (List Int)) : dep (.lst (l.map rowF)) ≤ 8 := Nat.le_trans (dep_lst (n := 1) fun x hx => by
  obtain ⟨r, hr, rfl⟩ := List.mem_map.mp hx
  exact dep_row r) (by decide)
end DL

set_option maxHeartbeats 4000000
namespace DL
open PySem PySem.Spec PyProof.Rows L2
/-! ### comprehensions of two clauses -/
def compM (gd : Sto → Prop) (g : DG) (mt : W Bool) (mi1 : W ItD) (g1 : DG) (mt1 : W Bool) (me : W F) (vs1 : List Nat) (ρ : Slots) : List F → List F → Sto → (List F → Sto → Prop) → Prop
  | [], acc, S, Q => gd S ∧ Q acc S
  | x :: r, acc, S, Q => gd S ∧ g x ρ S fun ρ2 S2 => mt ρ2 S2 fun b S3 => if b = true then
      mi1 ρ2 S3 fun it S4 => acc.length + it.items.length ≤ sizeLine ∧ compL it.gd g1 mt1 me (wipeF ρ2 vs1) it.items acc S4 fun acc' S5 => compM gd g mt mi1 g1 mt1 me vs1 ρ r acc' S5 Q
    else compM gd g mt mi1 g1 mt1 me vs1 ρ r acc S3 Q
section
variable {gd : Sto → Prop} {g g1 : DG} {mt mt1 : W Bool} {mi mi1 : W ItD} {me : W F} {vs1 : List Nat}
theorem mono_compM (hg : MonoG g) (ht : Mono mt) (hi1 : Mono mi1) (hg1 : MonoG g1) (ht1 : Mono mt1) (he : Mono me) {ρ : Slots} {Q Q' : List F → Sto → Prop} (k : ∀ d S', Q d S' → Q' d S') :
    ∀ (xs acc : List F) (S : Sto), compM gd g mt mi1 g1 mt1 me vs1 ρ xs acc S Q → compM gd g mt mi1 g1 mt1 me vs1 ρ xs acc S Q'
  | [], acc, S, h => ⟨h.1, k _ _ h.2⟩
  | x :: r, acc, S, h => ⟨h.1, hg _ _ _ _ _ (fun ρ2 S2 h => ht _ _ _ _ (fun b S3 h => by
    cases b with
    | true => exact hi1 _ _ _ _ (fun it S4 h => ⟨h.1, mono_compL hg1 ht1 he (fun d S' h => mono_compM hg ht hi1 hg1 ht1 he k r _ _ h) _ _ _ h.2⟩) h
    | false => exact mono_compM hg ht hi1 hg1 ht1 he k r _ _ h) h) h.2⟩
def wComp2 (own vs1 : List Nat) (mi : W ItD) (g : DG) (mt : W Bool) (mi1 : W ItD) (g1 : DG) (mt1 : W Bool) (me : W F) : W (List F) := fun ρ S Q => mi ρ S fun it S1 => compM it.gd g mt mi1 g1 mt1 me vs1 (wipeF ρ own) it.items [] S1 Q
theorem mono_wComp2 {own : List Nat} (hi : Mono mi) (hg : MonoG g) (ht : Mono mt) (hi1 : Mono mi1) (hg1 : MonoG g1) (ht1 : Mono mt1) (he : Mono me) : Mono (wComp2 own vs1 mi g mt mi1 g1 mt1 me) := fun _ _ _ _ k h =>
  hi _ _ _ _ (fun it S1 h => mono_compM hg ht hi1 hg1 ht1 he k _ _ _ h) h
theorem comp2_in {K : PySem.W.Frag} {own : List Nat} (hi : Mono mi) (hg : MonoG g) (ht : Mono mt) (hi1 : Mono mi1) (hg1 : MonoG g1) (ht1 : Mono mt1) (he : Mono me) {σ : Sig} {H : Hp} {Q : VK} (h : tL K (wComp2 own vs1 mi g mt mi1 g1 mt1 me) σ H Q) :
    tLc2 (tI K mi) (tG K own g) (tB2 K mt) (tI K mi1) (tG K vs1 g1) (tB2 K mt1) (tD K me) own vs1 σ H Q := by
  obtain ⟨ρ, S, Z, r, R, h⟩ := h
  refine ⟨ρ, S, Z, r, R, hi _ _ _ _ (fun it S1 p J Z1 H1 e1 R1 wk D hD => ?_) h⟩
  have hD0 : H D = none := e1.d D hD
  refine ⟨fun i m Hc => ∃ Z2 S2 accV acc, m = it.items.length - i ∧ i ≤ it.items.length ∧ RelS K Z2 S2 Hc ∧ Ext Z S H Z2 S2 Hc ∧ (∀ a o, Z1 a = some o → Z2 a = some o) ∧ Hc D = some (.lst accV) ∧ Z2 D = none ∧ Fre S2 D ∧ Dens K Z2 accV acc ∧
      compM it.gd g mt mi1 g1 mt1 me vs1 (wipeF ρ own) (it.items.drop i) acc S2 (LFin K Z S H Q), ⟨_, Z1, S1, [], [], rfl, Nat.zero_le _, R1.build (R1.nz hD) (R1.nf hD) _, e1.build hD0 _, fun _ _ q => q, upd_same, R1.nz hD, R1.nf hD, .nil, p⟩, ?_⟩
  rintro i m Hc ⟨Z2, S2, accV, acc, rfl, hi2, R2, e2, z12, hDc, hZ2, hS2, dacc, p⟩
  by_cases hlt : i < it.items.length
  · have hx : it.items[i]? = some it.items[i] := List.getElem?_eq_getElem hlt
    rw [List.drop_eq_getElem_cons hlt] at p
    obtain ⟨gdS, p⟩ := p
    obtain ⟨go, yl⟩ := wk.go Z2 S2 Hc i _ z12 R2 gdS hx
    refine .inr ⟨go, _, fun H' q => q, fun x H3 y => ?_⟩
    obtain ⟨Z3, e3, R3, d3⟩ := yl x H3 y
    refine ⟨_, wipeF ρ own, S2, Z3, ((r.ext (e2.trans e3).z).wipe own), R3, d3, hg _ _ _ _ _ (fun ρ4 S4 p σ4 Z4 H4 a4 e4 r4 R4 => ?_) p⟩
    refine ⟨wipe_agree a4, ρ4, S4, Z4, r4, R4, ht _ _ _ _ (fun b S5 p Z5 H5 e5 R5 => ?_) p⟩
    have ee5 := e3.trans (e4.trans e5)
    cases b with
    | true =>
      rw [if_pos rfl] at p
      refine iteT ?_
      refine ⟨ρ4, S5, Z5, r4.ext e5.z, R5, hi1 _ _ _ _ (fun it1 S6 p J1 Z6 H6 e6 R6 wk1 => ?_) p⟩
      obtain ⟨hlen, p⟩ := p
      have ee6 := ee5.trans e6
      obtain ⟨q1, q2, q3⟩ := ee6.h D _ hDc hS2
      refine ⟨fun j k Hd => ∃ Z7 S7 accV7 acc7, k = it1.items.length - j ∧ j ≤ it1.items.length ∧ RelS K Z7 S7 Hd ∧ Ext Z S H Z7 S7 Hd ∧ (∀ a o, Z6 a = some o → Z7 a = some o) ∧ Hd D = some (.lst accV7) ∧ Z7 D = none ∧ Fre S7 D ∧ Dens K Z7 accV7 acc7 ∧ acc7.length + (it1.items.length - j) ≤ sizeLine ∧
          compL it1.gd g1 mt1 me (wipeF ρ4 vs1) (it1.items.drop j) acc7 S7 fun acc' S8 => compM it.gd g mt mi1 g1 mt1 me vs1 (wipeF ρ own) (it.items.drop (i + 1)) acc' S8 (LFin K Z S H Q),
        ⟨_, Z6, S6, accV, acc, rfl, Nat.zero_le _, R6, e2.trans ee6, fun _ _ q => q, q1, q3.trans hZ2, q2, dacc.ext ee6.z, by omega, p⟩, ?_⟩
      rintro j k Hd ⟨Z7, S7, accV7, acc7, rfl, hj2, R7, e7, z67, hDd, hZ7, hS7, dacc7, hal, p⟩
      by_cases hlt1 : j < it1.items.length
      · have hx1 : it1.items[j]? = some it1.items[j] := List.getElem?_eq_getElem hlt1
        rw [List.drop_eq_getElem_cons hlt1] at p
        obtain ⟨gdS1, p⟩ := p
        obtain ⟨go1, yl1⟩ := wk1.go Z7 S7 Hd j _ z67 R7 gdS1 hx1
        refine .inr ⟨go1, _, fun H' q => q, fun x1 H8 y1 => ?_⟩
        obtain ⟨Z8, e8, R8, d8⟩ := yl1 x1 H8 y1
        have z58 : ∀ a o, Z5 a = some o → Z8 a = some o := fun a o q => e8.z a o (z67 a o (e6.z a o q))
        refine ⟨_, wipeF ρ4 vs1, S7, Z8, (((r4.ext e5.z).ext z58).wipe vs1), R8, d8, hg1 _ _ _ _ _ (fun ρ9 S9 p σ9 Z9 H9 a9 e9 r9 R9 => ?_) p⟩
        refine ⟨wipe_agree a9, ρ9, S9, Z9, r9, R9, ht1 _ _ _ _ (fun b S10 p Z10 H10 e10 R10 => ?_) p⟩
        cases b with
        | true =>
          rw [if_pos rfl] at p
          refine iteT ?_
          refine ⟨ρ9, S10, Z10, r9.ext e10.z, R10, he _ _ _ _ (fun yv S11 p v11 Z11 H11 e11 R11 d11 => ?_) p⟩
          have ee := e8.trans (e9.trans (e10.trans e11))
          obtain ⟨k1, k2, k3⟩ := ee.h D _ hDd hS7
          have dl := dacc7.length
          have k3' := k3.trans hZ7
          refine ⟨accV7, k1, by omega, it1.items.length - (j + 1), by omega, Z11, S11, accV7 ++ [v11], acc7 ++ [yv], rfl, by omega, R11.build k3' k2 _, (e7.trans ee).build hD0 _, fun a o q => ee.z a o (z67 a o q), upd_same, k3', k2, (dacc7.ext ee.z).append (.cons d11 .nil), by rw [List.length_append]; simp only [List.length_cons, List.length_nil]; omega, p⟩
        | false =>
          rw [if_neg Bool.false_ne_true] at p
          refine iteF ?_
          have ee := e8.trans (e9.trans e10)
          obtain ⟨k1, k2, k3⟩ := ee.h D _ hDd hS7
          exact ⟨it1.items.length - (j + 1), by omega, Z10, S10, accV7, acc7, rfl, by omega, R10, e7.trans ee, fun a o q => ee.z a o (z67 a o q), k1, k3.trans hZ7, k2, dacc7.ext ee.z, by omega, p⟩
      · have ej : j = it1.items.length := by omega
        subst ej
        rw [List.drop_length] at p
        obtain ⟨gdS1, p⟩ := p
        refine .inl ⟨wk1.stop Z7 S7 Hd _ z67 R7 gdS1 (Nat.le_refl _), it.items.length - (i + 1), by omega, Z7, S7, accV7, acc7, rfl, by omega, R7, e7, fun a o q => z67 a o (ee6.z a o (z12 a o q)), hDd, hZ7, hS7, dacc7, p⟩
    | false =>
      rw [if_neg Bool.false_ne_true] at p
      refine iteF ?_
      obtain ⟨k1, k2, k3⟩ := ee5.h D _ hDc hS2
      exact ⟨it.items.length - (i + 1), by omega, Z5, S5, accV, acc, rfl, by omega, R5, e2.trans ee5, fun a o q => ee5.z a o (z12 a o q), k1, k3.trans hZ2, k2, dacc.ext ee5.z, p⟩
  · have ei : i = it.items.length := by omega
    subst ei
    rw [List.drop_length] at p
    obtain ⟨gdS, p⟩ := p
    exact .inl ⟨wk.stop Z2 S2 Hc _ z12 R2 gdS (Nat.le_refl _), p D accV Z2 Hc e2 R2 hD0 hDc hZ2 hS2.s dacc⟩
end
section
variable {X : Cx} {elt iter tg iter1 tg1 : Expr} {ifs ifs1 : List Expr} {scope : Scope} {pos : Pos}
theorem pl_lc2 {own : List (Str × Nat)} {vs1 : List Nat} {mi mi1 : W ItD} {g g1 : DG} {mt mt1 : W Bool} {me : W F} (hc : X.calm = true) (hN : X.N.Nodup) (hi : PID X tg iter mi) (ok : BlkOk X.N X.env.scope scope own) (hv : ∀ i ∈ vs1, i ∈ own.map (·.2))
    (hg : ∀ (s : Shared) (H : Hp) (C : Addr) (cl : List (Str × Addr)) (fp : List Addr), PGD (X.blk s H scope (compEnvC scope cl C X.env) fp) (own.map (·.2)) tg g) (ht : ∀ (s : Shared) (H : Hp) (C : Addr) (cl : List (Str × Addr)) (fp : List Addr), PTsD (X.blk s H scope (compEnvC scope cl C X.env) fp) ifs mt)
    (hi1 : ∀ (s : Shared) (H : Hp) (C : Addr) (cl : List (Str × Addr)) (fp : List Addr), PID (X.blk s H scope (compEnvC scope cl C X.env) fp) tg1 iter1 mi1)
    (hg1 : ∀ (s : Shared) (H : Hp) (C : Addr) (cl : List (Str × Addr)) (fp : List Addr), PGD (X.blk s H scope (compEnvC scope cl C X.env) fp) vs1 tg1 g1) (ht1 : ∀ (s : Shared) (H : Hp) (C : Addr) (cl : List (Str × Addr)) (fp : List Addr), PTsD (X.blk s H scope (compEnvC scope cl C X.env) fp) ifs1 mt1)
    (he : ∀ (s : Shared) (H : Hp) (C : Addr) (cl : List (Str × Addr)) (fp : List Addr), PD (X.blk s H scope (compEnvC scope cl C X.env) fp) elt me) (hs : ∀ x, foldedSetIterable iter X.env x = pure x := by intro _; rfl) (hs1 : ∀ env x, foldedSetIterable iter1 env x = pure x := by intro _ _; rfl) :
    PL X (.ListComp elt [⟨tg, iter, ifs, 0⟩, ⟨tg1, iter1, ifs1, 0⟩] scope pos) (wComp2 (own.map (·.2)) vs1 mi g mt mi1 g1 mt1 me) :=
  have s0 : Shared := X.s_0
  ⟨mono_wComp2 hi.mono (hg s0 X.H_0 0 [] []).mono (ht s0 X.H_0 0 [] []).mono (hi1 s0 X.H_0 0 [] []).mono (hg1 s0 X.H_0 0 [] []).mono (ht1 s0 X.H_0 0 [] []).mono (he s0 X.H_0 0 [] []).mono,
   weakE (pe_lc2 hc hN hi.run ok hv (fun s H C cl fp => (hg s H C cl fp).run) (fun s H C cl fp => (ht s H C cl fp).run) (fun s H C cl fp => (hi1 s H C cl fp).run) (fun s H C cl fp => (hg1 s H C cl fp).run) (fun s H C cl fp => (ht1 s H C cl fp).run) (fun s H C cl fp => (he s H C cl fp).run) hs hs1)
    fun _ _ _ h => comp2_in hi.mono (hg s0 X.H_0 0 [] []).mono (ht s0 X.H_0 0 [] []).mono (hi1 s0 X.H_0 0 [] []).mono (hg1 s0 X.H_0 0 [] []).mono (ht1 s0 X.H_0 0 [] []).mono (he s0 X.H_0 0 [] []).mono h⟩
end
section
variable {own vs1 : List Nat} {mi mi1 : W ItD} {g g1 : DG} {mt mt1 : W Bool} {me : W F} {ρ : Slots} {S : Sto} {QL : List F → Sto → Prop}
@[simp, simp ↓] theorem wComp2_ev : wComp2 own vs1 mi g mt mi1 g1 mt1 me ρ S QL = mi ρ S fun it S1 => compM it.gd g mt mi1 g1 mt1 me vs1 (wipeF ρ own) it.items [] S1 QL := (rfl)
/-- an outer walk whose turns keep the store: each adds its items -/
theorem compM_map {α : Type} {gd : Sto → Prop} (hgd : gd S) (e : α → F) (f : α → List F) : ∀ (xs : List α) (acc : List F), (∀ x, x ∈ xs → ∀ (acc : List F) (N : List F → Sto → Prop), N (acc ++ f x) S → g (e x) ρ S fun ρ2 S2 => mt ρ2 S2 fun b S3 => if b = true then
      mi1 ρ2 S3 fun it S4 => acc.length + it.items.length ≤ sizeLine ∧ compL it.gd g1 mt1 me (wipeF ρ2 vs1) it.items acc S4 N else N acc S3) →
    QL (acc ++ xs.flatMap f) S → compM gd g mt mi1 g1 mt1 me vs1 ρ (xs.map e) acc S QL
  | [], acc, _, q => ⟨hgd, by simpa using q⟩
  | x :: r, acc, ht, q => ⟨hgd, ht x (List.mem_cons_self ..) acc _ (compM_map hgd e f r (acc ++ f x) (fun y hy => ht y (List.mem_cons_of_mem _ hy)) (by rw [List.flatMap_cons] at q; rw [List.append_assoc]; exact q))⟩
end
theorem compM_mapB {α : Type} {g g1 : DG} {mt mt1 : W Bool} {mi1 : W ItD} {me : W F} {vs1 : List Nat} {ρ : Slots} {S : Sto} {QL : List F → Sto → Prop} {gd : Sto → Prop} (hgd : gd S) (B : Nat) (e : α → F) (f : α → List F) : ∀ (xs : List α) (acc : List F), acc.length + (xs.flatMap f).length ≤ B →
    (∀ x, x ∈ xs → ∀ (acc : List F) (N : List F → Sto → Prop), acc.length ≤ B → N (acc ++ f x) S → g (e x) ρ S fun ρ2 S2 => mt ρ2 S2 fun b S3 => if b = true then
      mi1 ρ2 S3 fun it S4 => acc.length + it.items.length ≤ sizeLine ∧ compL it.gd g1 mt1 me (wipeF ρ2 vs1) it.items acc S4 N else N acc S3) →
    QL (acc ++ xs.flatMap f) S → compM gd g mt mi1 g1 mt1 me vs1 ρ (xs.map e) acc S QL
  | [], acc, _, _, q => ⟨hgd, by simpa using q⟩
  | x :: r, acc, hB, ht, q => by
    rw [List.flatMap_cons, List.length_append] at hB
    exact ⟨hgd, ht x (List.mem_cons_self ..) acc _ (by omega) (compM_mapB hgd B e f r (acc ++ f x) (by rw [List.length_append]; omega) (fun y hy => ht y (List.mem_cons_of_mem _ hy)) (by rw [List.flatMap_cons] at q; rw [List.append_assoc]; exact q))⟩
/-- the items of a list that was just set -/
@[simp] theorem onIt_upd {S : Sto} {a : Addr} {l : List F} {Q : ItD → Sto → Prop} : onIt (updS S a l) (.loc a) Q = Q ⟨l, fun S' => S' a = some l⟩ (updS S a l) := by
  unfold onIt itOf
  dsimp only
  rw [updS_same]
  rfl
end DL

set_option maxHeartbeats 4000000
namespace HT
open PySem PySem.Spec PyProof.Rows L2
/-! ### sorted of data, any number of items -/
theorem each_vals : ∀ {us : List Value} {ps : List (V × PyData)}, Vals (ps.map Prod.fst) us → PySem.W.EachIs (fun u (p : V × PyData) => RelV p.1 u) us ps
  | _, [], h => by cases h; exact .nil
  | _, p :: ps, h => by
    cases h with
    | cons h1 h2 => exact .cons h1 (each_vals h2)
theorem vals_each : ∀ {us : List Value} {ps : List (V × PyData)}, PySem.W.EachIs (fun u (p : V × PyData) => RelV p.1 u) us ps → Vals (ps.map Prod.fst) us
  | _, _, .nil => .nil
  | _, _, .cons h1 h2 => .cons h1 (vals_each h2)
section
variable {X : Cx}
theorem each_reads {pins : List (Addr × Obj)} {σ : L2.St} {H : Hp} {s : Shared} (I : Inv X pins σ H s) : ∀ {us : List Value} {ps : List (V × PyData)}, Vals (ps.map Prod.fst) us → (∀ p ∈ ps, Dp X.K H p.1 p.2) → PySem.W.EachIs (fun u (p : V × PyData) => ∃ as, Reads s.heap u p.2 as) us ps
  | _, [], h, _ => by cases h; exact .nil
  | _, p :: ps, h, hp => by
    cases h with
    | cons h1 h2 => exact .cons (Dp.reads I p.2 p.1 _ (hp p (List.mem_cons_self ..)) h1) (each_reads I h2 fun q hq => hp q (List.mem_cons_of_mem _ hq))
def rSortD (K : PySem.W.Frag) : List V → Hp → VK → Prop := fun vs H Q => ∃ (a : Addr) (ps : List (V × PyData)), vs = [V.ref a] ∧ SqL K H a (ps.map Prod.fst) ∧ (∀ p ∈ ps, Dp K H p.1 p.2 ∧ p.2.depth ≤ 62) ∧ PySem.W.AllAlike (ps.map Prod.snd) ∧ PySem.W.Sortable (ps.map Prod.snd) ∧
  ∀ q : Addr, H q = none → Q (.ref q) (upd H q (.lst ((ps.mergeSort (PySem.W.dataLe false Prod.snd)).map Prod.fst)))
theorem cr_sortD (hu : X.A.units + 65 < cLine) : CallR X (.builtin "sorted") (rSortD X.K) := by
  intro pins s σ H vs us Q I r h
  obtain ⟨a, ps, rfl, hs, hp, hal, hk, q⟩ := h
  obtain ⟨its, rv, hl, hz⟩ := I.list hs
  rw [Vals.ref1 r]
  rw [List.length_map] at hz
  refine PySem.W.sorted_data (β := V × PyData) (enc := Prod.snd) (R := fun u p => RelV p.1 u) hl.isList (each_vals rv) (each_reads I rv fun p h => (hp p h).1) hal hk hz (fun p h => by have := (hp p h).2; omega) fun out hlen ho => ?_
  obtain ⟨ep, he'⟩ := PyProof.Rows.sortedAll_at s.heap its out.toArray
  have hv := vals_each ho
  have hlen' : ((ps.mergeSort (PySem.W.dataLe false Prod.snd)).map Prod.fst).length ≤ sizeLine := by rw [List.length_map, List.length_mergeSort]; exact hz
  exact ⟨.ref _, upd H (s.heap.objs.size + 1) (.lst ((ps.mergeSort (PySem.W.dataLe false Prod.snd)).map Prod.fst)), I.laid (t' := s.toks) (fun _ _ => PyProof.Rows.sortedAll_old) (Nat.le_succ _) ⟨hlen', out, ep, hv, he'⟩, rfl, q _ (I.hok.fresh (Nat.le_succ _))⟩
end
section
variable {X : Cx}
def rMinD (K : PySem.W.Frag) : List V → Hp → VK → Prop := fun vs H Q => ∃ (a : Addr) (ps : List (V × PyData)), vs = [V.ref a] ∧ SqL K H a (ps.map Prod.fst) ∧ (∀ p ∈ ps, Dp K H p.1 p.2 ∧ p.2.depth ≤ 62) ∧ PySem.W.AlikeAll (ps.map Prod.snd) ∧ ps ≠ [] ∧
  ∀ p ∈ ps, (∃ d ds, ps.map Prod.snd = d :: ds ∧ p.2 = PySem.W.minD d ds) → Q p.1 H
theorem dpAll_of {K : PySem.W.Frag} {H : Hp} : ∀ {ps : List (V × PyData)}, (∀ p ∈ ps, Dp K H p.1 p.2) → DpAll K H (ps.map Prod.fst) (ps.map Prod.snd)
  | [], _ => .nil
  | p :: ps, h => .cons (h p (List.mem_cons_self ..)) (dpAll_of fun q hq => h q (List.mem_cons_of_mem _ hq))
theorem depthAll_le {n : Nat} : ∀ {ds : List PyData}, (∀ d ∈ ds, d.depth ≤ n) → PyData.depthAll ds ≤ n
  | [], _ => by rw [PyData.depthAll]; exact Nat.zero_le _
  | d :: ds, h => by
    rw [PyData.depthAll]
    exact Nat.max_le.mpr ⟨h d (List.mem_cons_self ..), depthAll_le fun e he => h e (List.mem_cons_of_mem _ he)⟩
theorem cr_minD (hc : X.calm = true) (hu : X.A.units + 65 < cLine) : CallR X (.builtin "min") (rMinD X.K) := by
  intro pins s σ H vs us Q I r h
  obtain ⟨a, ps, rfl, hs, hp, hal, hne, q⟩ := h
  obtain ⟨its, rv, hl, hz⟩ := I.list hs
  rw [Vals.ref1 r]
  obtain ⟨as, ra⟩ := Dp.readsAll I _ _ _ (dpAll_of fun p h => (hp p h).1) rv
  obtain ⟨p0, ps', rfl⟩ := List.exists_cons_of_ne_nil hne
  have hd : PyData.depthAll (p0.2 :: ps'.map Prod.snd) ≤ 62 := depthAll_le fun d hd => by
    obtain ⟨p, hp', rfl⟩ := List.mem_map.mp (show d ∈ (p0 :: ps').map Prod.snd from hd)
    exact (hp p hp').2
  refine PySem.W.min_list_data (vs := its.toArray) (I.ok.hd hc) hl.isList (x := p0.2) (xs := ps'.map Prod.snd) ra hal (by omega) fun i v h' tk bs hv rd hk => ?_
  have hv : its[i]? = some v := by simpa using hv
  have hlen := rv.length
  rw [List.length_map] at hlen
  have hi : i < (p0 :: ps').length := by
    have := (List.getElem?_eq_some_iff.mp hv).1
    omega
  have e1 : ((p0 :: ps').map Prod.fst)[i]? = some (p0 :: ps')[i].1 := by rw [List.getElem?_map, List.getElem?_eq_getElem hi]; rfl
  obtain ⟨u, hu', ru⟩ := rv.get e1
  rw [hv] at hu'
  cases hu'
  have hm : (p0 :: ps')[i] ∈ p0 :: ps' := List.getElem_mem hi
  obtain ⟨as', rd0⟩ := Dp.reads I _ _ _ (hp _ hm).1 ru
  obtain ⟨ee, _⟩ := PyProof.Rows.reads_det (fun b o e _ => hk b o e) rd0 rd
  exact ⟨_, H, I.kept hk, ru, q _ hm ⟨_, _, rfl, ee.symm⟩⟩
end
end HT
namespace DL
open PySem PySem.Spec PyProof.Rows L2
def leF (a b : F) : Bool := PySem.W.dataLe false py a b
def cSortD : DCallL := fun xs S Q => match xs with
  | [x] => (match listR S x with | some fs => (∀ f ∈ fs, fz f = true ∧ dep f ≤ 60) ∧ PySem.W.AllAlike (fs.map py) ∧ PySem.W.Sortable (fs.map py) ∧ Q (fs.mergeSort leF) S | none => False)
  | _ => False
theorem dens_zip {K : PySem.W.Frag} {Z : Hp} : ∀ {us : List V} {fs : List F}, Dens K Z us fs → (us.zip fs).map Prod.fst = us ∧ (us.zip fs).map Prod.snd = fs ∧ ∀ p ∈ us.zip fs, Den K Z p.1 p.2
  | _, _, .nil => ⟨rfl, rfl, fun _ h => (nomatch h)⟩
  | _, _, .cons h1 h2 => by
    obtain ⟨a, b, c⟩ := dens_zip h2
    refine ⟨by rw [List.zip_cons_cons, List.map_cons, a], by rw [List.zip_cons_cons, List.map_cons, b], fun p hp => ?_⟩
    rw [List.zip_cons_cons] at hp
    rcases List.mem_cons.mp hp with e | e
    · rw [e]; exact h1
    · exact c p e
theorem dens_of {K : PySem.W.Frag} {Z : Hp} : ∀ {qs : List (V × F)}, (∀ p ∈ qs, Den K Z p.1 p.2) → Dens K Z (qs.map Prod.fst) (qs.map Prod.snd)
  | [], _ => .nil
  | p :: qs, h => .cons (h p (List.mem_cons_self ..)) (dens_of fun q hq => h q (List.mem_cons_of_mem _ hq))
theorem c_sortD {X : Cx} (hu : X.A.units + 65 < cLine) : CallL X (.builtin "sorted") cSortD := by
  refine ⟨fun xs S Q Q' k h => ?_, callWeak (HT.cr_sortD hu) fun vs H Q ⟨ds, S, Z, dv, R, h⟩ => ?_⟩
  · unfold cSortD at h ⊢
    split at h
    · split at h
      · obtain ⟨h1, h2, h3, q⟩ := h
        exact ⟨h1, h2, h3, k _ _ q⟩
      · exact h.elim
    · exact h.elim
  · unfold cSortD at h
    split at h
    · obtain ⟨v, rfl, d⟩ := dens1 dv
      split at h
      · rename_i fs e0
        obtain ⟨h1, h2, h3, q⟩ := h
        obtain ⟨a, us, rfl, g1, g2⟩ := listR_of R d e0
        obtain ⟨z1, z2, z3⟩ := dens_zip g2
        have m1 : ((us.zip fs).map fun p => (p.1, py p.2)).map Prod.fst = us := by rw [List.map_map]; exact z1
        have m2 : ((us.zip fs).map fun p => (p.1, py p.2)).map Prod.snd = fs.map py := by
          rw [List.map_map]
          have : (Prod.snd ∘ fun p : V × F => (p.1, py p.2)) = py ∘ Prod.snd := rfl
          rw [this, ← List.map_map, z2]
        have s1 : ((us.zip fs).mergeSort fun p q => leF p.2 q.2).map (fun p : V × F => (p.1, py p.2)) = ((us.zip fs).map fun p => (p.1, py p.2)).mergeSort (PySem.W.dataLe false Prod.snd) := List.map_mergeSort fun a _ b _ => rfl
        have s2 : ((us.zip fs).mergeSort fun p q => leF p.2 q.2).map Prod.snd = fs.mergeSort leF := by
          rw [List.map_mergeSort (s := leF) fun a _ b _ => rfl, z2]
        refine ⟨a, (us.zip fs).map fun p => (p.1, py p.2), rfl, by rw [m1]; exact g1, fun p hp => ?_, by rw [m2]; exact h2, by rw [m2]; exact h3, fun q' np => ?_⟩
        · obtain ⟨p0, hp0, rfl⟩ := List.mem_map.mp hp
          have hf : p0.2 ∈ fs := by rw [← z2]; exact List.mem_map.mpr ⟨p0, hp0, rfl⟩
          obtain ⟨f1, f2⟩ := h1 _ hf
          exact ⟨(z3 p0 hp0).dp R (can_of _ f1), by have := depth_of _ f1; show (py p0.2).depth ≤ 62; omega⟩
        · rw [← s1, List.map_map]
          rw [← s2] at q
          have dn := dens_of (qs := (us.zip fs).mergeSort fun p q => leF p.2 q.2) fun p hp => z3 p (List.mem_mergeSort.mp hp)
          exact lfin_new .refl R np dn q
      · exact h.elim
    · exact h.elim
/-! rows of ints in order -/
def leR (a b : List Int) : Bool := decide (a ≤ b)
theorem py_row (r : List Int) : py (rowF r) = .tuple (r.map .int) := by
  unfold rowF
  rw [py]
  congr 1
  induction r with
  | nil => rfl
  | cons x r ih => rw [List.map_cons, pyL, ih]; rfl
theorem leF_row (a b : List Int) : leF (rowF a) (rowF b) = leR a b := by
  show (!PySem.W.dataLt (py (rowF b)) (py (rowF a))) = _
  rw [py_row, py_row, PySem.W.dataLt_tuple]
  have := PySem.W.dataLt_ints b a
  unfold PySem.W.rowLt at this
  rw [this]
  unfold leR
  rw [Bool.eq_iff_iff]
  simp
theorem cSortD_rows {x : F} {rs : List (List Int)} {S : Sto} {QL : List F → Sto → Prop} (hx : listR S x = some (rs.map rowF)) (h : ∀ r ∈ rs, r ≠ [] ∧ r.length ≤ 1000000) (q : QL ((rs.mergeSort leR).map rowF) S) : cSortD [x] S QL := by
  show match listR S x with | some fs => _ | none => False
  rw [hx]
  refine ⟨fun f hf => ?_, ?_, ?_, ?_⟩
  · obtain ⟨r, hr, rfl⟩ := List.mem_map.mp hf
    exact ⟨fz_row (h r hr).2, Nat.le_trans (dep_row r) (by decide)⟩
  · intro d hd d' hd'
    simp only [List.map_map, List.mem_map] at hd hd'
    obtain ⟨r, _, rfl⟩ := hd
    obtain ⟨r', _, rfl⟩ := hd'
    show PySem.W.alike (py (rowF r)) (py (rowF r')) = true
    rw [py_row, py_row]
    simp only [PySem.W.alike]
    exact PySem.W.alike_ints r r'
  · refine .inl fun d hd => ?_
    simp only [List.map_map, List.mem_map] at hd
    obtain ⟨r, hr, rfl⟩ := hd
    show ∃ x t, py (rowF r) = .tuple (x :: t)
    rw [py_row]
    cases r with
    | nil => exact absurd rfl (h [] hr).1
    | cons x r => exact ⟨_, _, rfl⟩
  · have : (rs.map rowF).mergeSort leF = (rs.mergeSort leR).map rowF := (List.map_mergeSort fun a _ b _ => (leF_row a b).symm).symm
    rw [this]
    exact q
/-! min of data -/
def cMinD : DCall := fun xs S Q => match xs with
  | [x] => (match listR S x with | some fs => (∀ f ∈ fs, fz f = true ∧ dep f ≤ 60) ∧ PySem.W.AlikeAll (fs.map py) ∧ fs ≠ [] ∧ ∀ f ∈ fs, (∃ d ds, fs.map py = d :: ds ∧ py f = PySem.W.minD d ds) → Q f S | none => False)
  | _ => False
theorem c_minD {X : Cx} (hc : X.calm = true) (hu : X.A.units + 65 < cLine) : CallD X (.builtin "min") cMinD := by
  refine ⟨fun xs S Q Q' k h => ?_, callWeak (HT.cr_minD hc hu) fun vs H Q ⟨ds, S, Z, dv, R, h⟩ => ?_⟩
  · unfold cMinD at h ⊢
    split at h
    · split at h
      · obtain ⟨h1, h2, h3, q⟩ := h
        exact ⟨h1, h2, h3, fun f hf e => k _ _ (q f hf e)⟩
      · exact h.elim
    · exact h.elim
  · unfold cMinD at h
    split at h
    · obtain ⟨v, rfl, d⟩ := dens1 dv
      split at h
      · rename_i fs e0
        obtain ⟨h1, h2, h3, q⟩ := h
        obtain ⟨a, us, rfl, g1, g2⟩ := listR_of R d e0
        obtain ⟨z1, z2, z3⟩ := dens_zip g2
        have m1 : ((us.zip fs).map fun p => (p.1, py p.2)).map Prod.fst = us := by rw [List.map_map]; exact z1
        have m2 : ((us.zip fs).map fun p => (p.1, py p.2)).map Prod.snd = fs.map py := by
          rw [List.map_map]
          have : (Prod.snd ∘ fun p : V × F => (p.1, py p.2)) = py ∘ Prod.snd := rfl
          rw [this, ← List.map_map, z2]
        refine ⟨a, (us.zip fs).map fun p => (p.1, py p.2), rfl, by rw [m1]; exact g1, fun p hp => ?_, by rw [m2]; exact h2, fun e => h3 ?_, fun p hp ⟨d, ds, e, e2⟩ => ?_⟩
        · obtain ⟨p0, hp0, rfl⟩ := List.mem_map.mp hp
          have hf : p0.2 ∈ fs := by rw [← z2]; exact List.mem_map.mpr ⟨p0, hp0, rfl⟩
          obtain ⟨f1, f2⟩ := h1 _ hf
          exact ⟨(z3 p0 hp0).dp R (can_of _ f1), by have := depth_of _ f1; show (py p0.2).depth ≤ 62; omega⟩
        · rw [e] at m2
          exact List.map_eq_nil_iff.mp m2.symm
        · obtain ⟨p0, hp0, rfl⟩ := List.mem_map.mp hp
          have hf : p0.2 ∈ fs := by rw [← z2]; exact List.mem_map.mpr ⟨p0, hp0, rfl⟩
          exact fin_same R (z3 p0 hp0) (q _ hf ⟨d, ds, by rw [← m2]; exact e, e2⟩)
      · exact h.elim
    · exact h.elim
theorem leR_total (a b : List Int) : (leR a b || leR b a) = true := by
  unfold leR
  rw [Bool.or_eq_true, decide_eq_true_eq, decide_eq_true_eq]
  exact List.le_total a b
theorem leR_trans {a b c : List Int} (h1 : leR a b = true) (h2 : leR b c = true) : leR a c = true := decide_eq_true (List.le_trans (of_decide_eq_true h1) (of_decide_eq_true h2))
theorem leR_anti {a b : List Int} (h1 : leR a b = true) (h2 : leR b a = true) : a = b := List.le_antisymm (of_decide_eq_true h1) (of_decide_eq_true h2)
theorem sortR_pw (rs : List (List Int)) : (rs.mergeSort leR).Pairwise fun a b => leR a b = true := List.pairwise_mergeSort (le := leR) (fun _ _ _ => leR_trans) leR_total rs
theorem srt_uniq {α : Type} {le : α → α → Prop} (anti : ∀ a b, le a b → le b a → a = b) : ∀ {l m : List α}, l.Perm m → l.Pairwise le → m.Pairwise le → l = m
  | [], m, h, _, _ => by rw [List.nil_perm.mp h]
  | x :: l, [], h, _, _ => by cases h.length_eq
  | x :: l, y :: m, h, h1, h2 => by
    have e : x = y := by
      rcases List.mem_cons.mp (h.mem_iff.mp (List.mem_cons_self ..)) with e | e
      · exact e
      · rcases List.mem_cons.mp (h.mem_iff.mpr (List.mem_cons_self ..)) with e' | e'
        · exact e'.symm
        · exact anti x y (List.rel_of_pairwise_cons h1 e') (List.rel_of_pairwise_cons h2 e)
    subst e
    rw [srt_uniq anti (List.Perm.cons_inv h) (List.Pairwise.of_cons h1) (List.Pairwise.of_cons h2)]
theorem sortR_perm {rs ts : List (List Int)} (h : rs.Perm ts) : rs.mergeSort leR = ts.mergeSort leR :=
  srt_uniq (fun _ _ => leR_anti) ((List.mergeSort_perm rs leR).trans (h.trans (List.mergeSort_perm ts leR).symm)) (sortR_pw rs) (sortR_pw ts)
theorem py_row_inj {a b : List Int} (h : py (rowF a) = py (rowF b)) : a = b := by
  rw [py_row, py_row] at h
  have h := PyData.tuple.inj h
  have gen : ∀ {a b : List Int}, a.map PyData.int = b.map PyData.int → a = b := by
    intro a
    induction a with
    | nil => intro b h; cases b with
      | nil => rfl
      | cons y b => cases h
    | cons x a ih => intro b h; cases b with
      | nil => cases h
      | cons y b =>
        rw [List.map_cons, List.map_cons] at h
        rw [PyData.int.inj (List.cons.inj h).1, ih (List.cons.inj h).2]
  exact gen h
theorem minD_row (a : List Int) (rs : List (List Int)) : ∃ m, m ∈ a :: rs ∧ (∀ y ∈ a :: rs, leR m y = true) ∧ PySem.W.minD (py (rowF a)) (rs.map fun r => py (rowF r)) = py (rowF m) := by
  induction rs generalizing a with
  | nil => exact ⟨a, List.mem_cons_self .., fun y hy => by rw [List.mem_singleton.mp hy]; exact decide_eq_true (List.le_refl a), rfl⟩
  | cons r rs ih =>
    have hlt : PySem.W.dataLt (py (rowF r)) (py (rowF a)) = !leR a r := by
      have := leF_row a r
      show _ = !leR a r
      rw [← this]
      show _ = !(!PySem.W.dataLt (py (rowF r)) (py (rowF a)))
      simp
    have step : PySem.W.minD (py (rowF a)) ((r :: rs).map fun r => py (rowF r)) = PySem.W.minD (py (rowF (if leR a r = true then a else r))) (rs.map fun r => py (rowF r)) := by
      unfold PySem.W.minD
      rw [List.map_cons, List.foldl_cons, hlt]
      congr 1
      cases leR a r <;> rfl
    obtain ⟨m, h1, h2, h3⟩ := ih (if leR a r = true then a else r)
    have hx := h2 _ (List.mem_cons_self ..)
    refine ⟨m, ?_, fun y hy => ?_, step.trans h3⟩
    · rcases List.mem_cons.mp h1 with e | e
      · rw [e]
        split
        · exact List.mem_cons_self ..
        · exact List.mem_cons_of_mem _ (List.mem_cons_self ..)
      · exact List.mem_cons_of_mem _ (List.mem_cons_of_mem _ e)
    · have tot := leR_total a r
      rcases List.mem_cons.mp hy with e | e
      · subst e
        by_cases c : leR y r = true
        · rw [if_pos c] at hx; exact hx
        · rw [if_neg c] at hx
          have c : leR y r = false := by simpa using c
          rw [c, Bool.false_or] at tot
          exact leR_trans hx tot
      · rcases List.mem_cons.mp e with e | e
        · subst e
          by_cases c : leR a y = true
          · rw [if_pos c] at hx; exact leR_trans hx c
          · rw [if_neg c] at hx; exact hx
        · exact h2 y (List.mem_cons_of_mem _ e)
theorem cMinD_rows {x : F} {rs : List (List Int)} {S : Sto} {Q : F → Sto → Prop} (hx : listR S x = some (rs.map rowF)) (hne : rs ≠ []) (h : ∀ r ∈ rs, r.length ≤ 1000000) (q : ∀ r ∈ rs, (∀ y ∈ rs, leR r y = true) → Q (rowF r) S) : cMinD [x] S Q := by
  show match listR S x with | some fs => _ | none => False
  rw [hx]
  refine ⟨fun f hf => ?_, ⟨fun d hd d' hd' => ?_, fun d hd => ?_⟩, fun e => hne (List.map_eq_nil_iff.mp e), fun f hf ⟨d, ds, e, e2⟩ => ?_⟩
  · obtain ⟨r, hr, rfl⟩ := List.mem_map.mp hf
    exact ⟨fz_row (h r hr), Nat.le_trans (dep_row r) (by decide)⟩
  · simp only [List.map_map, List.mem_map] at hd hd'
    obtain ⟨r, _, rfl⟩ := hd
    obtain ⟨r', _, rfl⟩ := hd'
    show PySem.W.alike (py (rowF r)) (py (rowF r')) = true
    rw [py_row, py_row]
    simp only [PySem.W.alike]
    exact PySem.W.alike_ints r r'
  · simp only [List.map_map, List.mem_map] at hd
    obtain ⟨r, _, rfl⟩ := hd
    show py (rowF r) ≠ .none
    rw [py_row]
    exact fun e => nomatch e
  · obtain ⟨r, hr, rfl⟩ := List.mem_map.mp hf
    cases rs with
    | nil => exact absurd rfl hne
    | cons a rs =>
      obtain ⟨m, m1, m2, m3⟩ := minD_row a rs
      have e : py (rowF a) :: rs.map (fun r => py (rowF r)) = d :: ds := by rw [← e, List.map_map]; rfl
      obtain ⟨rfl, rfl⟩ := List.cons.inj e
      rw [m3] at e2
      rw [py_row_inj e2]
      exact q m m1 m2
/-- the least of a list is the first of its order -/
theorem least_head {rs : List (List Int)} {r : List Int} (hr : r ∈ rs) (h : ∀ y ∈ rs, leR r y = true) : (rs.mergeSort leR).head? = some r := by
  have hp := List.mergeSort_perm rs leR
  have hpw := sortR_pw rs
  cases e : rs.mergeSort leR with
  | nil =>
    rw [e] at hp
    rw [List.nil_perm.mp hp] at hr
    cases hr
  | cons x l =>
    rw [e] at hp hpw
    have hx : x ∈ rs := hp.mem_iff.mp (List.mem_cons_self ..)
    have h1 := h x hx
    have h2 : leR x r = true := by
      rcases List.mem_cons.mp (hp.mem_iff.mpr hr) with e | e
      · rw [e]; exact decide_eq_true (List.le_refl x)
      · exact List.rel_of_pairwise_cons hpw e
    rw [leR_anti h1 h2]
    rfl
/-! equality where a list that changes may stand -/
def derF (S : Sto) : F → Option F
  | .loc a => (S a).map F.lst
  | x => some x
theorem der_dp {K : PySem.W.Frag} {Z H : Hp} {S : Sto} (R : RelS K Z S H) {d d' : F} {v : V} (h : Den K Z v d) (e : derF S d = some d') (c : (py d').canLay0 = true) : Dp K H v (py d') := by
  cases d with
  | loc a =>
    cases h
    obtain ⟨fs, e1, rfl⟩ := Option.map_eq_some_iff.mp e
    obtain ⟨vs, h1, h2⟩ := R.s _ _ e1
    have c' : PyData.canLayAll0 (pyL fs) = true := by simpa [py, PyData.canLay0] using c
    have : Dp K H (.ref a) (.list (pyL fs)) := .lst (.inl (.inl h1)) (Dens.dp R h2 c')
    simpa [py] using this
  | _ => cases e; exact h.dp R c
def oNeL : DOp := fun x y S Q => match derF S x, derF S y with | some x', some y' => okF x' = true ∧ okF y' = true ∧ Q (.bl (!eqF x' y')) S | _, _ => False
def oEqL : DOp := fun x y S Q => match derF S x, derF S y with | some x', some y' => okF x' = true ∧ okF y' = true ∧ Q (.bl (eqF x' y')) S | _, _ => False
section
variable {X : Cx}
theorem o_neL (hu : X.A.units + 64 < cLine) : OpD X (compareOp .NotEq) oNeL := by
  refine ⟨fun x y S Q Q' k h => ?_, opWeak (op_neD hu) fun x y H Q ⟨d, e, S, Z, dx, dy, R, h⟩ => ?_⟩
  · unfold oNeL at h ⊢
    split at h
    · exact ⟨h.1, h.2.1, k _ _ h.2.2⟩
    · exact h.elim
  · unfold oNeL at h
    split at h
    · rename_i e1 e2
      obtain ⟨h1, h2, h⟩ := h
      exact ⟨_, _, der_dp R dx e1 (SeqAt.canLay_of_shaped h1), der_dp R dy e2 (SeqAt.canLay_of_shaped h2), h1, h2, fin_same R (.bl _) h⟩
    · exact h.elim
theorem o_eqL (hu : X.A.units + 64 < cLine) : OpD X (compareOp .Eq) oEqL := by
  refine ⟨fun x y S Q Q' k h => ?_, opWeak (op_eqD hu) fun x y H Q ⟨d, e, S, Z, dx, dy, R, h⟩ => ?_⟩
  · unfold oEqL at h ⊢
    split at h
    · exact ⟨h.1, h.2.1, k _ _ h.2.2⟩
    · exact h.elim
  · unfold oEqL at h
    split at h
    · rename_i e1 e2
      obtain ⟨h1, h2, h⟩ := h
      exact ⟨_, _, der_dp R dx e1 (SeqAt.canLay_of_shaped h1), der_dp R dy e2 (SeqAt.canLay_of_shaped h2), h1, h2, fin_same R (.bl _) h⟩
    · exact h.elim
end
section
variable {S : Sto} {Q : F → Sto → Prop} {x y : F}
@[simp, simp ↓] theorem oNeL_ev : oNeL x y S Q = match derF S x, derF S y with | some x', some y' => okF x' = true ∧ okF y' = true ∧ Q (.bl (!eqF x' y')) S | _, _ => False := (rfl)
@[simp, simp ↓] theorem oEqL_ev : oEqL x y S Q = match derF S x, derF S y with | some x', some y' => okF x' = true ∧ okF y' = true ∧ Q (.bl (eqF x' y')) S | _, _ => False := (rfl)
@[simp] theorem derF_loc {a : Addr} : derF S (.loc a) = (S a).map F.lst := rfl
@[simp] theorem derF_lst {l : List F} : derF S (.lst l) = some (.lst l) := rfl
@[simp] theorem derF_tup {l : List F} : derF S (.tup l) = some (.tup l) := rfl
theorem eqF_lnil {l : List F} : eqF (.lst l) (.lst []) = l.isEmpty := by
  cases l <;> simp [eqF, py, pyL, PyData.eqv, PyData.eqvAll]
end
end DL

set_option maxHeartbeats 4000000
namespace RSeq
open PySem PySem.Spec PyProof.Rows L2 Srt SrtO SrtR
/-! ### sorted of a list or a tuple of ints -/
def IsSq (h : Heap) (a : Addr) (its : Array Value) : Prop := ∃ o, h.get? a = some o ∧ (o.cls = .type "list" ∨ o.cls = .type "tuple") ∧ ∃ n, o.data = .seq its n
section
variable {prog : Program} {w : World} {A : Around} {E : Value → Shared → Prop} {s : Shared}
theorem collect_sq {l : Addr} {vs : List Value} {Q : List Value → Shared → Prop} (hl : IsSq s.heap l vs.toArray) (hsz : vs.length ≤ sizeLine)
    (h : Q vs { s with heap := (s.heap.push (seqObj "list" #[] 0)).update s.heap.objs.size (Obj.mapSeq (· ++ vs.toArray)) }) :
    wpAny (model prog w) A (collect (.ref l)) Q E s := by
  obtain ⟨o, ho, hc, n, hd⟩ := id hl
  unfold collect
  refine wpAny_bind (wpAny_runValue (codeAny_builtin entry_proto_collect' ?_))
  show wpAny _ _ (do again (.builtin "list.__iadd__" ⟨[← newList [], .ref l], []⟩)) _ _ s
  refine wpAny_bind (wpAny_newList (wpAny_pure ⟨Code.quiet_builtin _ (by decide +kernel), codeAny_builtin entry_list_iadd' ?_⟩))
  show wpAny _ _ (Builtin.List.listExtendWith (.ref s.heap.objs.size) (.ref l) (.ref s.heap.objs.size)) _ _ { s with heap := s.heap.push (seqObj "list" #[] 0) }
  unfold Builtin.List.listExtendWith
  have ho' : (s.heap.push (seqObj "list" #[] 0)).get? l = some o := Heap.get?_push_of_some _ ho
  have fin : wpAny (model prog w) A (do
      let o ← load s.heap.objs.size
      match o.data with
      | .seq xs _ => pure xs.toList
      | _ => unsupported "internal:collect") Q E { s with heap := (s.heap.push (seqObj "list" #[] 0)).update s.heap.objs.size (Obj.mapSeq (· ++ vs.toArray)) } := by
    refine wpAny_bind (wpAny_load (get?_update_seq (Heap.get?_push_size _ rfl) _) ?_)
    show wpAny _ _ (pure ((#[] : Array Value) ++ vs.toArray).toList) Q E _
    rw [show ((#[] : Array Value) ++ vs.toArray).toList = vs by simp]
    exact wpAny_pure h
  rcases hc with hc | hc
  · refine wpAny_bind (wpAny_typeOf (T := "list") ⟨o, ho', hc⟩ ?_)
    have ht : (Value.type "list" == Value.type "list") = true := by rfl
    rw [if_pos (by rw [ht]; simp)]
    refine wpAny_bind (listItems_at ho' hd ?_)
    refine wpAny_bind (listItems_at (xs := #[]) (n := 0) (Heap.get?_push_size _ rfl) rfl ?_)
    rw [if_neg (by simp)]
    refine wpAny_bind (listUpdate_at (xs := #[]) (n := 0) (Heap.get?_push_size _ rfl) rfl ?_ (Nat.zero_le _) (by show (#[] ++ vs.toArray).size ≤ sizeLine + 1; simp only [Array.size_append, List.size_toArray, List.length_nil]; omega))
    exact wpAny_pure fin
  · refine wpAny_bind (wpAny_typeOf (T := "tuple") ⟨o, ho', hc⟩ ?_)
    have ht : (Value.type "tuple" == Value.type "tuple") = true := by rfl
    rw [if_pos (by rw [ht]; simp)]
    refine wpAny_bind (listItems_at ho' hd ?_)
    refine wpAny_bind (listItems_at (xs := #[]) (n := 0) (Heap.get?_push_size _ rfl) rfl ?_)
    rw [if_neg (by simp)]
    refine wpAny_bind (listUpdate_at (xs := #[]) (n := 0) (Heap.get?_push_size _ rfl) rfl ?_ (Nat.zero_le _) (by show (#[] ++ vs.toArray).size ≤ sizeLine + 1; simp only [Array.size_append, List.size_toArray, List.length_nil]; omega))
    exact wpAny_pure fin
theorem sorted_sqK {l : Addr} {vs : List Value} {b : Bool} {kw : List (Str × Value)} {ltv : Value → Value → Bool} {Q : Value → Shared → Prop} (hk : ∀ a, Builtin.«list.sort» ⟨[.ref a], kw⟩ = Builtin.«list.sort» ⟨[.ref a], [(Str.ofString "reverse", .bool b)]⟩)
    (ha1 : argsOk "sorted" ⟨[.ref l], kw⟩) (ha2 : ∀ a, argsOk "list.sort" ⟨[a], kw⟩) (O : Swo ltv) (hl : IsSq s.heap l vs.toArray) (hz : vs.length ≤ sizeLine)
    (hS : 2 ≤ vs.length → ∀ (h₁ : Heap) (a : Addr), h₁.get? a = some (seqObj "list" vs.toArray 0) → (∀ b o, s.heap.get? b = some o → b ≠ a ∧ h₁.get? b = some o) → SortableO prog w A.in1.in1 { s with heap := h₁ } a vs ltv)
    (h : ∀ out : List Value, Srtd ltv out → Stb ltv out (if b = true then vs.reverse else vs) → Q (.ref (s.heap.objs.size + 1)) { s with heap := sortedAll s.heap vs (if b = true then out.toArray.reverse else out.toArray) }) :
    wpAny (model prog w) A (call (.builtin "sorted") [.ref l] kw) Q E s := by
  refine call_function_entry_kw kind_sorted plain_sorted entry_sorted ha1 ?_
  unfold Builtin.«sorted»
  refine wpAny_bind (m := checkCount "sorted" 1 1 _) (wpAny_pure ?_)
  refine wpAny_bind (collect_sq hl hz ?_)
  refine wpAny_bind (wpAny_newList ?_ hz)
  have hsz : ((s.heap.push (seqObj "list" #[] 0)).update s.heap.objs.size (Obj.mapSeq (· ++ vs.toArray))).objs.size = s.heap.objs.size + 1 := by
    rw [Heap.size_update, size_push']
  have hoL : (((s.heap.push (seqObj "list" #[] 0)).update s.heap.objs.size (Obj.mapSeq (· ++ vs.toArray))).push (seqObj "list" vs.toArray 0)).get? (s.heap.objs.size + 1) = some (seqObj "list" vs.toArray 0) := by
    rw [← hsz]; exact Heap.get?_push_size _ rfl
  have keep : ∀ b o, s.heap.get? b = some o → b ≠ s.heap.objs.size + 1 ∧ (((s.heap.push (seqObj "list" #[] 0)).update s.heap.objs.size (Obj.mapSeq (· ++ vs.toArray))).push (seqObj "list" vs.toArray 0)).get? b = some o := fun b o q => by
    have hlt : b < s.heap.objs.size := Heap.lt_size q
    refine ⟨Nat.ne_of_lt (Nat.lt_succ_of_lt hlt), Heap.get?_push_of_some _ ?_⟩
    rw [Heap.get?_update_ne _ _ _ _ (Nat.ne_of_lt hlt)]
    exact Heap.get?_push_of_some _ q
  show wpAny _ _ _ _ _ { s with heap := ((s.heap.push (seqObj "list" #[] 0)).update s.heap.objs.size (Obj.mapSeq (· ++ vs.toArray))).push (seqObj "list" vs.toArray 0) }
  rw [hsz]
  refine wpAny_bind (wpAny_holding (wpAny_call_entry_kw slot_list_sort ⟨_, hoL, rfl⟩ entry_list_sort ?_ (ha2 _)))
  rw [hk]
  refine list_sort_ordR O hoL hz (fun h2 => hS h2 _ _ hoL keep) fun out hs hb => ⟨_, rfl, ?_⟩
  exact wpAny_pure ⟨_, rfl, h out hs hb⟩
end
section
variable {X : Cx}
theorem sq_of {pins : List (Addr × Obj)} {s : Shared} {σ : L2.St} {H : Hp} {a : Addr} {xs : List V} (I : Inv X pins σ H s) (h : SqL X.K H a xs ∨ SqT X.K H a xs) : ∃ its : List Value, Vals xs its ∧ IsSq s.heap a its.toArray ∧ xs.length ≤ sizeLine := by
  rcases h with h | h
  · obtain ⟨its, rv, hl, hz⟩ := I.list h
    obtain ⟨o, h1, h2, h3⟩ := hl.isList
    exact ⟨its, rv, ⟨o, h1, .inl h2, h3⟩, hz⟩
  · obtain ⟨its, rv, ⟨o, h1, h2, h3⟩, hz⟩ := I.tuple h
    exact ⟨its, rv, ⟨o, h1, .inr h2, h3⟩, hz⟩
def rSortA (K : PySem.W.Frag) (b : Bool) (zs0 : List V) : List V → List V → Hp → VK → Prop := fun vs zs H Q => ∃ (a : Addr) (ns : List Int), vs = [V.ref a] ∧ zs = zs0 ∧ (SqL K H a (ns.map V.int) ∨ SqT K H a (ns.map V.int)) ∧
  ∀ (ns' : List Int) (p : Addr), ns'.Perm ns → OrdB b ns' → H p = none → Q (.ref p) (upd H p (.lst (ns'.map V.int)))
theorem sorted_runA {b : Bool} {kw : List (Str × Value)} {pins : List (Addr × Obj)} {s : Shared} {σ : L2.St} {H : Hp} {a : Addr} {ns : List Int} {Q : VK} (I : Inv X pins σ H s) (hs : SqL X.K H a (ns.map V.int) ∨ SqT X.K H a (ns.map V.int))
    (hk : ∀ a, Builtin.«list.sort» ⟨[.ref a], kw⟩ = Builtin.«list.sort» ⟨[.ref a], [(Str.ofString "reverse", .bool b)]⟩) (ha1 : argsOk "sorted" ⟨[.ref a], kw⟩) (ha2 : ∀ a, argsOk "list.sort" ⟨[a], kw⟩)
    (q : ∀ (ns' : List Int) (p : Addr), ns'.Perm ns → OrdB b ns' → H p = none → Q (.ref p) (upd H p (.lst (ns'.map V.int)))) : wpAny (model X.prog X.w) X.A (call (.builtin "sorted") [.ref a] kw) (EP X pins σ Q) X.xe s := by
  obtain ⟨its, rv, hl, hz⟩ := sq_of I hs
  have hi := rv.ints
  refine sorted_sqK hk ha1 ha2 SrtO.swo_int hl (by rw [← rv.length]; exact hz) (fun h2 h₁ a' _ _ => SrtO.ints_sortable hi h2) fun out h1 h2 => ?_
  obtain ⟨ns', k1, k2, k3⟩ := SrtR.ints_outR hi h1 h2
  obtain ⟨ep, he'⟩ := PyProof.Rows.sortedAll_at s.heap its (if b = true then out.toArray.reverse else out.toArray)
  have hlen : (ns'.map V.int).length ≤ sizeLine := by
    rw [List.length_map, k2.length_eq]
    rw [List.length_map] at hz
    exact hz
  have e0 : ((if b = true then out.toArray.reverse else out.toArray).toList).toArray = (if b = true then out.toArray.reverse else out.toArray) := by rw [Array.toArray_toList]
  exact ⟨.ref _, upd H (s.heap.objs.size + 1) (.lst (ns'.map V.int)), I.laid (t' := s.toks) (fun _ _ => PyProof.Rows.sortedAll_old) (Nat.le_succ _) ⟨hlen, _, ep, vals_of_ints k1, by rw [e0]; exact he'⟩, rfl, q _ _ k2 k3 (I.hok.fresh (Nat.le_succ _))⟩
theorem cr_sortedRevA {b : Bool} : CallRK X (.builtin "sorted") [Str.ofString "reverse"] (rSortA X.K b [.bl b]) := by
  intro pins s σ H vs zs us ws Q I r rz h
  obtain ⟨a, ns, rfl, rfl, hs, q⟩ := h
  obtain rfl := Vals.ref1 r
  obtain ⟨w1, rfl, e1⟩ := vals1 rz
  obtain rfl : w1 = Value.bool b := e1
  exact sorted_runA I hs (fun _ => rfl) (PyProof.Rows.args_sorted_rev _ _) (fun _ => PyProof.Rows.args_list_sort_rev _ _) q
def rSortP (K : PySem.W.Frag) : List V → Hp → VK → Prop := fun vs H Q => ∃ (a : Addr) (ns : List Int), vs = [V.ref a] ∧ (SqL K H a (ns.map V.int) ∨ SqT K H a (ns.map V.int)) ∧
  ∀ (ns' : List Int) (p : Addr), ns'.Perm ns → ns'.Pairwise (· ≤ ·) → H p = none → Q (.ref p) (upd H p (.lst (ns'.map V.int)))
theorem list_sort_nokw (a : Addr) : Builtin.«list.sort» ⟨[.ref a], []⟩ = Builtin.«list.sort» ⟨[.ref a], [(Str.ofString "reverse", .bool false)]⟩ := by
  rw [list_sort_rev, list_sort_plain]
  first | rfl | kernel_rfl
theorem cr_sortedA : CallR X (.builtin "sorted") (rSortP X.K) := by
  intro pins s σ H vs us Q I r h
  obtain ⟨a, ns, rfl, hs, q⟩ := h
  rw [Vals.ref1 r]
  exact sorted_runA (b := false) I hs list_sort_nokw (args_sorted1 _) (fun _ => args_list_sort _) q
end
end RSeq
namespace DL
open PySem PySem.Spec PyProof.Rows L2
/-- sorted(xs), xs a list or tuple of ints -/
def cSortedA : DCallL := fun xs S Q => match xs with
  | [x] => (match seqR S x with | some fs => ∃ ns : List Int, fs = ns.map F.int ∧ ∀ ms : List Int, ms.Perm ns → ms.Pairwise (· ≤ ·) → Q (ms.map F.int) S | none => False)
  | _ => False
theorem c_sortedA {X : Cx} : CallL X (.builtin "sorted") cSortedA := by
  refine ⟨fun xs S Q Q' k h => ?_, callWeak RSeq.cr_sortedA fun vs H Q ⟨ds, S, Z, dv, R, h⟩ => ?_⟩
  · unfold cSortedA at h ⊢
    split at h
    · split at h
      · obtain ⟨ns, e, q⟩ := h
        exact ⟨ns, e, fun ms h1 h2 => k _ _ (q ms h1 h2)⟩
      · exact h.elim
    · exact h.elim
  · unfold cSortedA at h
    split at h
    · obtain ⟨v, rfl, d⟩ := dens1 dv
      split at h
      · rename_i fs e0
        obtain ⟨ns, rfl, q⟩ := h
        obtain ⟨a, us, rfl, h1, h2⟩ := seqR_of R d e0
        have := h2.ints
        subst this
        exact ⟨a, ns, rfl, h1, fun ms p k1 k2 np => lfin_new .refl R np (dens_ints ms) (q ms k1 k2)⟩
      · exact h.elim
    · exact h.elim
/-- sorted(xs, reverse=True), xs a list or tuple of ints -/
def wSortedRevA (m : W F) : W (List F) := fun ρ S Q => m ρ S fun x S1 => match seqR S1 x with
  | some fs => ∃ ns : List Int, fs = ns.map F.int ∧ ∀ ms : List Int, ms.Perm ns → ms.Pairwise (· ≥ ·) → Q (ms.map F.int) S1
  | none => False
theorem pl_sortedRevA {X : Cx} {e : Expr} {m : W F} {p pos kpos bpos : Pos} {k : Nat} (hg : Gl X "sorted") (hm : X.mg "sorted" = none) (ha : PD X e m)
    (he : backTo pos (starEach [e] X.env) = (false, eval e X.env) :: backTo pos (starEach [] X.env) := by rfl) (hpl : (backTo pos (starEach [e] X.env)).any (·.1) = false := by rfl) (hst : starEach [e] X.env = (false, eval e X.env) :: starEach [] X.env := by rfl) :
    PL X (.Call (.Name "sorted" p) [e] [⟨some "reverse", .Constant (.bool true) k bpos, kpos⟩] pos) (wSortedRevA m) :=
  ⟨fun _ _ _ _ k q => ha.mono _ _ _ _ (fun x S1 q => by
    split at q
    · obtain ⟨ns, e, q⟩ := q
      exact ⟨ns, e, fun ms h1 h2 => k _ _ (q ms h1 h2)⟩
    · exact q.elim) q, weakE (pe_callBK (RSeq.cr_sortedRevA (b := true)) hg hm (by rfl) (pa_cons ha.run pa_nil (hs := hst)) (pk_cons pe_bl pk_nil) (by decide) (by decide) he hpl) fun σ H Q ⟨ρ, S, Z, r, R, q⟩ => by
    refine tD_in ha.mono r R q fun x S1 v Z1 H1 p e1 R1 d1 => ?_
    split at p
    · rename_i fs e0
      obtain ⟨ns, rfl, q⟩ := p
      obtain ⟨a, us, rfl, h1, h2⟩ := seqR_of R1 d1 e0
      have := h2.ints
      subst this
      exact ⟨a, ns, rfl, rfl, h1, fun ms p k1 k2 np => lfin_new e1 R1 np (dens_ints ms) (q ms k1 k2)⟩
    · exact p.elim⟩
section
variable {ρ : Slots} {S : Sto} {QL : List F → Sto → Prop} {m : W F} {xs : List F}
@[simp, simp ↓] theorem wSortedRevA_ev : wSortedRevA m ρ S QL = m ρ S fun x S1 => match seqR S1 x with
  | some fs => ∃ ns : List Int, fs = ns.map F.int ∧ ∀ ms : List Int, ms.Perm ns → ms.Pairwise (· ≥ ·) → QL (ms.map F.int) S1
  | none => False := (rfl)
theorem cSortedA_t {ns : List Int} (q : ∀ ms : List Int, ms.Perm ns → ms.Pairwise (· ≤ ·) → QL (ms.map F.int) S) : cSortedA [.tup (ns.map F.int)] S QL := ⟨ns, rfl, q⟩
theorem cSortedA_l {ns : List Int} (q : ∀ ms : List Int, ms.Perm ns → ms.Pairwise (· ≤ ·) → QL (ms.map F.int) S) : cSortedA [.lst (ns.map F.int)] S QL := ⟨ns, rfl, q⟩
end
/-! ### rows of ints compared -/
theorem eqvAll_int : ∀ a b : List Int, PyData.eqvAll (a.map PyData.int) (b.map PyData.int) = decide (a = b)
  | [], [] => by
    show PyData.eqvAll [] [] = true
    rw [PyData.eqvAll]
  | [], y :: b => by
    rw [decide_eq_false fun h => List.cons_ne_nil _ _ h.symm]
    show PyData.eqvAll [] (.int y :: b.map .int) = false
    rw [PyData.eqvAll] <;> simp
  | x :: a, [] => by
    rw [decide_eq_false fun h => List.cons_ne_nil _ _ h]
    show PyData.eqvAll (.int x :: a.map .int) [] = false
    rw [PyData.eqvAll] <;> simp
  | x :: a, y :: b => by
    have h : PyData.eqv (.int x) (.int y) = (x == y) := by
      have : eqF (.int x) (.int y) = (x == y) := eqF_ii
      exact this
    rw [List.map_cons, List.map_cons, PyData.eqvAll, eqvAll_int a b, h, Bool.eq_iff_iff, Bool.and_eq_true, beq_iff_eq, decide_eq_true_eq, decide_eq_true_eq, List.cons.injEq]
theorem eqF_row (a b : List Int) : eqF (rowF a) (rowF b) = decide (a = b) := by
  unfold eqF
  rw [py_row, py_row, PyData.eqv]
  exact eqvAll_int a b
theorem okF_row {r : List Int} (h : r.length ≤ 1000000) : okF (rowF r) = true := okF_tupI h
theorem okF_lstI {r : List Int} (h : r.length ≤ 1000000) : okF (.lst (r.map F.int)) = true := okF_of (fz_lst_of (by rw [List.length_map]; exact h) fun x hx => by obtain ⟨i, _, rfl⟩ := List.mem_map.mp hx; rfl) (Nat.le_trans (dep_lst (n := 0) fun x hx => by obtain ⟨i, _, rfl⟩ := List.mem_map.mp hx; simp [dep]) (by decide))
theorem okF_rows {l : List (List Int)} (hl : l.length ≤ 1000000) (h : ∀ r ∈ l, r.length ≤ 1000000) : okF (.tup (l.map rowF)) = true := okF_of (fz_tup_of (by rw [List.length_map]; exact hl) fun x hx => by
  obtain ⟨r, hr, rfl⟩ := List.mem_map.mp hx
  exact fz_row (h r hr)) (Nat.le_trans (dep_tup (n := 1) fun x hx => by
  obtain ⟨r, hr, rfl⟩ := List.mem_map.mp hx
  exact dep_row r) (by decide))
theorem any_row (l : List (List Int)) (r : List Int) : ((l.map rowF).any fun z => eqF z (rowF r)) = l.contains r := by
  rw [List.any_map, List.contains_eq_any_beq]
  congr 1
  funext x
  show eqF (rowF x) (rowF r) = (r == x)
  rw [eqF_row, Bool.eq_iff_iff, decide_eq_true_eq, beq_iff_eq]
  exact eq_comm
theorem oIn_row {l : List (List Int)} {r : List Int} {S : Sto} {Q : F → Sto → Prop} (hl : l.length ≤ 1000000) (h : ∀ r ∈ l, r.length ≤ 1000000) (hr : r.length ≤ 1000000) (q : Q (.bl (l.contains r)) S) : oIn (rowF r) (.lst (l.map rowF)) S Q :=
  ⟨okF_row hr, okF_rows hl h, by rw [any_row]; exact q⟩
theorem oNotIn_row {l : List (List Int)} {r : List Int} {S : Sto} {Q : F → Sto → Prop} (hl : l.length ≤ 1000000) (h : ∀ r ∈ l, r.length ≤ 1000000) (hr : r.length ≤ 1000000) (q : Q (.bl (!l.contains r)) S) : oNotIn (rowF r) (.lst (l.map rowF)) S Q :=
  ⟨okF_row hr, okF_rows hl h, by rw [any_row]; exact q⟩
/-! ### xs[::-1] of a list -/
section
variable {X : Cx} {e : Expr} {m : W F} {pos : Pos}
def wRevL (m : W F) : W (List F) := fun ρ S Q => m ρ S fun x S1 => match listR S1 x with | some fs => Q fs.reverse S1 | none => False
theorem pl_revL {k : Nat} {p1 p2 p3 : Pos} (h : PD X e m) : PL X (.Subscript e (.Slice none none (some (.UnaryOp .USub (.Constant (.int 1) k p1) p2)) p3) pos) (wRevL m) :=
  ⟨fun _ _ _ _ k q => h.mono _ _ _ _ (fun x S1 q => by
    split at q
    · exact k _ _ q
    · exact q.elim) q, weakE (pe_revL h.run) fun σ H Q ⟨ρ, S, Z, r, R, q⟩ => by
    refine tD_in h.mono r R q fun x S1 v1 Z1 H1 p e1 R1 d1 => ?_
    split at p
    · rename_i fs e0
      obtain ⟨a, vs, rfl, h1, h2⟩ := listR_of R1 d1 e0
      exact ⟨a, vs, rfl, h1, fun t nt => lfin_new e1 R1 nt h2.reverse p⟩
    · exact p.elim⟩
@[simp, simp ↓] theorem wRevL_ev {ρ : Slots} {S : Sto} {QL : List F → Sto → Prop} : wRevL m ρ S QL = m ρ S fun x S1 => match listR S1 x with | some fs => QL fs.reverse S1 | none => False := (rfl)
end
end DL

set_option maxHeartbeats 4000000
namespace DL
open PySem PySem.Spec PyProof.Rows L2
local macro_rules | `(tactic| walk_at "nx") => `(tactic| ((try dsimp only); rw [sSeq_ev]; (try simp [-sSeq_ev, -compL_cons, -forL_cons])))
/-! sorting, as a function -/
def ins (x : Int) : List Int → List Int
  | [] => [x]
  | y :: l => if y ≤ x then x :: y :: l else y :: ins x l
def srt : List Int → List Int
  | [] => []
  | x :: l => ins x (srt l)
theorem ins_perm (x : Int) : ∀ l, (ins x l).Perm (x :: l)
  | [] => .refl _
  | y :: l => by
    unfold ins
    split
    · exact .refl _
    · exact ((ins_perm x l).cons y).trans (.swap x y l)
theorem srt_perm : ∀ l, (srt l).Perm l
  | [] => .refl _
  | x :: l => (ins_perm x _).trans ((srt_perm l).cons x)
theorem ins_falls (x : Int) : ∀ l, falls l → falls (ins x l)
  | [], _ => List.pairwise_singleton ..
  | y :: l, h => by
    unfold ins
    split
    · rename_i c
      refine List.Pairwise.cons (fun z hz => ?_) h
      rcases List.mem_cons.mp hz with e | e
      · rw [e]; exact c
      · have : y ≥ z := List.rel_of_pairwise_cons h e
        show z ≤ x
        omega
    · rename_i c
      refine List.Pairwise.cons (fun z hz => ?_) (ins_falls x l (List.Pairwise.of_cons h))
      rcases List.mem_cons.mp ((ins_perm x l).mem_iff.mp hz) with e | e
      · rw [e]; show x ≤ y; omega
      · exact List.rel_of_pairwise_cons h e
theorem srt_falls : ∀ l, falls (srt l)
  | [] => .nil
  | x :: l => ins_falls x _ (srt_falls l)
theorem srt_of {ms l : List Int} (h1 : ms.Perm l) (h2 : falls ms) : ms = srt l := falls_uniq (h1.trans (srt_perm l).symm) h2 (srt_falls l)
theorem srt_len (l : List Int) : (srt l).length = l.length := (srt_perm l).length_eq
/-! tables with told sums: the theorem of Gale and Ryser -/
def subV : List Int → List Int → List Int
  | x :: c, b :: v => (x - b) :: subV c v
  | _, _ => []
def bitV : List Int → List Int → Prop
  | [], [] => True
  | x :: c, b :: v => (b = 0 ∨ b = 1) ∧ 0 ≤ x - b ∧ bitV c v
  | _, _ => False
def fits : List Int → List Int → List (List Int) → Prop
  | c, [], [] => ∀ x ∈ c, x = 0
  | c, r :: rs, v :: t => bitV c v ∧ v.sum = r ∧ fits (subV c v) rs t
  | _, _, _ => False
def mS (k : Nat) (c : List Int) : Int := (c.map fun x => minN x k).sum
theorem mS_cons (k : Nat) (x : Int) (c : List Int) : mS k (x :: c) = minN x k + mS k c := by
  unfold mS
  rw [List.map_cons, List.sum_cons]
theorem mS_mono {k l : Nat} (h : k ≤ l) : ∀ c, mS k c ≤ mS l c
  | [] => Int.le_refl _
  | x :: c => by
    have := mS_mono h c
    rw [mS_cons, mS_cons]
    unfold minN
    split <;> split <;> omega
theorem nn_cons {x : Int} {c : List Int} (h : ∀ y ∈ x :: c, 0 ≤ y) : 0 ≤ x ∧ ∀ y ∈ c, 0 ≤ y := ⟨h x (List.mem_cons_self ..), fun y hy => h y (List.mem_cons_of_mem _ hy)⟩
theorem subV_nn : ∀ {c v : List Int}, bitV c v → ∀ x ∈ subV c v, 0 ≤ x
  | [], [], _ => fun x hx => absurd hx List.not_mem_nil
  | x :: c, b :: v, h => fun y hy => by
    rcases List.mem_cons.mp hy with e | e
    · rw [e]; exact h.2.1
    · exact subV_nn h.2.2 y e
  | [], _ :: _, h => h.elim
  | _ :: _, [], h => h.elim
theorem subV_len : ∀ {c v : List Int}, bitV c v → (subV c v).length = c.length
  | [], [], _ => rfl
  | x :: c, b :: v, h => by
    show (subV c v).length + 1 = c.length + 1
    rw [subV_len h.2.2]
  | [], _ :: _, h => h.elim
  | _ :: _, [], h => h.elim
theorem bitV_len : ∀ {c v : List Int}, bitV c v → v.length = c.length
  | [], [], _ => rfl
  | x :: c, b :: v, h => by
    show v.length + 1 = c.length + 1
    rw [bitV_len h.2.2]
  | [], _ :: _, h => h.elim
  | _ :: _, [], h => h.elim
theorem subV_le (k : Nat) : ∀ {c v : List Int}, bitV c v → mS k (subV c v) ≤ mS k c ∧ v.sum + mS k (subV c v) ≤ mS (k + 1) c ∧ (subV c v).sum = c.sum - v.sum
  | [], [], _ => ⟨Int.le_refl _, Int.le_refl _, rfl⟩
  | x :: c, b :: v, h => by
    obtain ⟨h1, h2, h3⟩ := subV_le k h.2.2
    have e : subV (x :: c) (b :: v) = (x - b) :: subV c v := rfl
    have hb := h.1
    have hx := h.2.1
    rw [e, mS_cons, mS_cons, mS_cons, List.sum_cons, List.sum_cons, List.sum_cons]
    refine ⟨?_, ?_, by omega⟩
    · have : minN (x - b) k ≤ minN x k := by unfold minN; split <;> split <;> omega
      omega
    · have : b + minN (x - b) k ≤ minN x (k + 1) := by unfold minN; split <;> split <;> omega
      omega
  | [], _ :: _, h => h.elim
  | _ :: _, [], h => h.elim
theorem fits_nec : ∀ {rs c : List Int} {t : List (List Int)}, fits c rs t → (∀ x ∈ c, 0 ≤ x) → rs.sum = c.sum ∧ ∀ K : List Int, K.Sublist rs → K.sum ≤ mS K.length c
  | [], c, [], h, hn => by
    have e : ∀ l : List Int, (∀ x ∈ l, x = 0) → l.sum = 0 := fun l hl => by
      induction l with
      | nil => rfl
      | cons x l ih => rw [List.sum_cons, ih fun y hy => hl y (List.mem_cons_of_mem _ hy), hl x (List.mem_cons_self ..)]; rfl
    refine ⟨(e c h).symm, fun K hK => ?_⟩
    rw [List.sublist_nil.mp hK]
    have : ∀ l : List Int, (∀ x ∈ l, 0 ≤ x) → 0 ≤ mS 0 l := fun l hl => by
      induction l with
      | nil => exact Int.le_refl _
      | cons x l ih =>
        rw [mS_cons]
        have := ih (nn_cons hl).2
        have := (nn_cons hl).1
        unfold minN
        split <;> omega
    exact this c hn
  | r :: rs, c, v :: t, h, hn => by
    obtain ⟨h1, h2, h3⟩ := h
    obtain ⟨i1, i2⟩ := fits_nec h3 (subV_nn h1)
    refine ⟨?_, fun K hK => ?_⟩
    · rw [List.sum_cons, i1, (subV_le 0 h1).2.2]
      omega
    · cases hK with
      | cons _ hK => exact Int.le_trans (i2 K hK) (subV_le _ h1).1
      | cons_cons _ hK =>
        rename_i K'
        have a := i2 K' hK
        have b := (subV_le K'.length h1).2.1
        rw [List.sum_cons, List.length_cons]
        omega
  | [], _, _ :: _, h, _ => h.elim
  | _ :: _, _, [], h, _ => h.elim
def topV (h : Int) : List Int → List Int → Prop
  | [], [] => True
  | x :: c, b :: v => (b = 1 ∧ h ≤ x ∨ b = 0 ∧ x ≤ h) ∧ topV h c v
  | _, _ => False
theorem topV_ex (h : Int) : ∀ (c : List Int) (r : Nat), cnt (h + 1) c ≤ r → r ≤ cnt h c → ∃ v, topV h c v ∧ v.sum = r
  | [], r, _, h2 => ⟨[], trivial, by have : r ≤ 0 := h2; have : r = 0 := by omega
                                     subst this; rfl⟩
  | x :: c, r, h1, h2 => by
    rw [cnt_cons] at h1 h2
    by_cases a : h + 1 ≤ x
    · rw [if_pos a] at h1
      rw [if_pos (by omega)] at h2
      obtain ⟨v, v1, v2⟩ := topV_ex h c (r - 1) (by omega) (by omega)
      exact ⟨1 :: v, ⟨.inl ⟨rfl, by omega⟩, v1⟩, by rw [List.sum_cons, v2]; omega⟩
    · rw [if_neg a] at h1
      by_cases b : h ≤ x
      · rw [if_pos b] at h2
        by_cases d : r ≤ cnt h c
        · obtain ⟨v, v1, v2⟩ := topV_ex h c r (by omega) d
          exact ⟨0 :: v, ⟨.inr ⟨rfl, by omega⟩, v1⟩, by rw [List.sum_cons, v2]; omega⟩
        · have := cnt_mono c (show h ≤ h + 1 by omega)
          obtain ⟨v, v1, v2⟩ := topV_ex h c (r - 1) (by omega) (by omega)
          exact ⟨1 :: v, ⟨.inl ⟨rfl, b⟩, v1⟩, by rw [List.sum_cons, v2]; omega⟩
      · rw [if_neg b] at h2
        obtain ⟨v, v1, v2⟩ := topV_ex h c r (by omega) (by omega)
        exact ⟨0 :: v, ⟨.inr ⟨rfl, by omega⟩, v1⟩, by rw [List.sum_cons, v2]; omega⟩
theorem topV_bit {h : Int} (h1 : 1 ≤ h) : ∀ {c v : List Int}, topV h c v → (∀ x ∈ c, 0 ≤ x) → bitV c v
  | [], [], _, _ => trivial
  | x :: c, b :: v, hv, hn => by
    obtain ⟨n1, n2⟩ := nn_cons hn
    refine ⟨?_, ?_, topV_bit h1 hv.2 n2⟩ <;> rcases hv.1 with ⟨e, f⟩ | ⟨e, f⟩ <;> omega
  | [], _ :: _, h, _ => h.elim
  | _ :: _, [], h, _ => h.elim
theorem topV_lo {h : Int} {k : Nat} (hk : (k : Int) + 1 ≤ h) : ∀ {c v : List Int}, topV h c v → mS k (subV c v) = mS k c
  | [], [], _ => rfl
  | x :: c, b :: v, hv => by
    have ih := topV_lo hk hv.2
    have e : subV (x :: c) (b :: v) = (x - b) :: subV c v := rfl
    rw [e, mS_cons, mS_cons, ih]
    congr 1
    unfold minN
    rcases hv.1 with ⟨e, f⟩ | ⟨e, f⟩ <;> (repeat' split) <;> omega
  | [], _ :: _, h => h.elim
  | _ :: _, [], h => h.elim
theorem topV_hi {h : Int} {k : Nat} (hk : h ≤ (k : Int)) : ∀ {c v : List Int}, topV h c v → mS k (subV c v) = mS (k + 1) c - v.sum
  | [], [], _ => rfl
  | x :: c, b :: v, hv => by
    have ih := topV_hi hk hv.2
    have e : subV (x :: c) (b :: v) = (x - b) :: subV c v := rfl
    rw [e, mS_cons, mS_cons, ih, List.sum_cons]
    have : minN (x - b) k = minN x (k + 1) - b := by
      unfold minN
      rcases hv.1 with ⟨e, f⟩ | ⟨e, f⟩ <;> (repeat' split) <;> omega
    omega
  | [], _ :: _, h => h.elim
  | _ :: _, [], h => h.elim
theorem mS_one : ∀ {c : List Int}, (∀ x ∈ c, 0 ≤ x) → mS 1 c = cnt 1 c
  | [], _ => rfl
  | x :: c, hn => by
    obtain ⟨n1, n2⟩ := nn_cons hn
    rw [mS_cons, mS_one n2, cnt_cons]
    unfold minN
    split <;> split <;> omega
theorem cnt_big (c : List Int) : ∃ H : Nat, cnt ((H : Int) + 1) c = 0 := by
  induction c with
  | nil => exact ⟨0, rfl⟩
  | cons x c ih =>
    obtain ⟨H, hH⟩ := ih
    refine ⟨max H x.toNat, ?_⟩
    have := cnt_mono c (show (H : Int) + 1 ≤ ((max H x.toNat : Nat) : Int) + 1 by omega)
    rw [cnt_cons, if_neg (by omega)]
    omega
theorem level (c : List Int) (r : Nat) (h1 : r ≤ cnt 1 c) : ∃ h : Int, 1 ≤ h ∧ cnt (h + 1) c ≤ r ∧ r ≤ cnt h c := by
  obtain ⟨H, hH⟩ := cnt_big c
  have gen : ∀ H : Nat, cnt ((H : Int) + 1) c ≤ r → ∃ h : Int, 1 ≤ h ∧ cnt (h + 1) c ≤ r ∧ r ≤ cnt h c := fun H => by
    induction H with
    | zero =>
      intro h
      have := cnt_mono c (show (1 : Int) ≤ 1 + 1 by omega)
      exact ⟨1, Int.le_refl _, Nat.le_trans this h, h1⟩
    | succ H ih =>
      intro h
      by_cases d : cnt ((H : Int) + 1) c ≤ r
      · exact ih d
      · have e : ((H + 1 : Nat) : Int) + 1 = (H : Int) + 1 + 1 := by omega
        rw [e] at h
        exact ⟨(H : Int) + 1, by omega, h, by omega⟩
  exact gen H (by omega)
theorem fits_suff : ∀ {rs c : List Int}, (∀ x ∈ c, 0 ≤ x) → (∀ x ∈ rs, 0 ≤ x) → rs.sum = c.sum → (∀ K : List Int, K.Sublist rs → K.sum ≤ mS K.length c) → ∃ t, fits c rs t
  | [], c, hn, _, hs, _ => ⟨[], by
    have : ∀ l : List Int, (∀ x ∈ l, 0 ≤ x) → l.sum = 0 → ∀ x ∈ l, x = 0 := fun l => by
      induction l with
      | nil => intro _ _ x hx; exact absurd hx List.not_mem_nil
      | cons y l ih =>
        intro hl h0 x hx
        rw [List.sum_cons] at h0
        obtain ⟨n1, n2⟩ := nn_cons hl
        have : ∀ m : List Int, (∀ x ∈ m, 0 ≤ x) → 0 ≤ m.sum := fun m hm => by
          induction m with
          | nil => exact Int.le_refl _
          | cons z m im => rw [List.sum_cons]; have := im (nn_cons hm).2; have := (nn_cons hm).1; omega
        have := this l n2
        rcases List.mem_cons.mp hx with e | e
        · omega
        · exact ih n2 (by omega) x e
    exact this c hn hs.symm⟩
  | r :: rs, c, hn, hr, hs, hc => by
    obtain ⟨r1, r2⟩ := nn_cons hr
    have a := hc [r] (by simp)
    have a : r + 0 ≤ mS 1 c := a
    rw [mS_one hn] at a
    obtain ⟨h, h1, h2, h3⟩ := level c r.toNat (by omega)
    obtain ⟨v, v1, v2⟩ := topV_ex h c r.toNat h2 h3
    have v2 : v.sum = r := by omega
    have hb := topV_bit h1 v1 hn
    obtain ⟨t, ht⟩ := fits_suff (rs := rs) (c := subV c v) (subV_nn hb) r2 (by rw [(subV_le 0 hb).2.2, ← hs, List.sum_cons]; omega) fun K hK => by
      by_cases d : (K.length : Int) + 1 ≤ h
      · rw [topV_lo d v1]
        exact hc K (.cons _ hK)
      · rw [topV_hi (by omega) v1]
        have := hc (r :: K) (.cons_cons _ hK)
        rw [List.sum_cons, List.length_cons] at this
        omega
    exact ⟨v :: t, hb, v2, ht⟩
/-! the same by sorted rows -/
theorem perm_sub {l m : List Int} (h : l.Perm m) : ∀ {K : List Int}, K.Sublist l → ∃ K' : List Int, K'.Perm K ∧ K'.Sublist m := by
  induction h with
  | nil => intro K hK; exact ⟨K, .refl _, hK⟩
  | cons x _ ih =>
    intro K hK
    cases hK with
    | cons _ hK => obtain ⟨K', h1, h2⟩ := ih hK; exact ⟨K', h1, .cons _ h2⟩
    | cons_cons _ hK => obtain ⟨K', h1, h2⟩ := ih hK; exact ⟨x :: K', h1.cons x, .cons_cons _ h2⟩
  | swap x y l =>
    intro K hK
    cases hK with
    | cons _ hK =>
      cases hK with
      | cons _ hK => exact ⟨K, .refl _, .cons _ (.cons _ hK)⟩
      | cons_cons _ hK => exact ⟨_, .refl _, .cons_cons _ (.cons _ hK)⟩
    | cons_cons _ hK =>
      cases hK with
      | cons _ hK => exact ⟨_, .refl _, .cons _ (.cons_cons _ hK)⟩
      | cons_cons _ hK => exact ⟨_, .swap _ _ _, .cons_cons _ (.cons_cons _ hK)⟩
  | trans _ _ ih1 ih2 =>
    intro K hK
    obtain ⟨K1, h1, h2⟩ := ih1 hK
    obtain ⟨K2, g1, g2⟩ := ih2 h2
    exact ⟨K2, g1.trans h1, g2⟩
theorem sub_head : ∀ {l K : List Int}, falls l → K.Sublist l → K.sum ≤ (l.take K.length).sum
  | _, _, _, .slnil => Int.le_refl _
  | x :: l, K, hf, .cons _ hK => by
    have ih := sub_head (List.Pairwise.of_cons hf) hK
    cases K with
    | nil => exact Int.le_refl _
    | cons y K =>
      rw [List.length_cons, List.sum_cons] at ih
      rw [List.length_cons, List.take_succ_cons, List.sum_cons, List.sum_cons]
      have hl := hK.length_le
      rw [List.length_cons] at hl
      rw [take_sum, if_pos (by omega)] at ih
      have e1 : l[K.length]? = some l[K.length] := List.getElem?_eq_getElem (by omega)
      have : x ≥ l[K.length] := List.rel_of_pairwise_cons hf (List.getElem_mem _)
      rw [List.getD_eq_getElem?_getD, e1] at ih
      have e2 : (some l[K.length]).getD 0 = l[K.length] := rfl
      rw [e2] at ih
      omega
  | x :: l, _ :: K, hf, .cons_cons _ hK => by
    have ih := sub_head (List.Pairwise.of_cons hf) hK
    rw [List.length_cons, List.take_succ_cons, List.sum_cons, List.sum_cons]
    omega
def srtD (l : List Int) : List Int := srt (l.filter fun x => decide (0 < x))
theorem srtD_part (l : List Int) : Part (srtD l) := ⟨srt_falls _, fun x hx => of_decide_eq_true (List.mem_filter.mp ((srt_perm _).mem_iff.mp hx)).2⟩
theorem filt_sum : ∀ {l : List Int}, (∀ x ∈ l, 0 ≤ x) → (l.filter fun x => decide (0 < x)).sum = l.sum
  | [], _ => rfl
  | x :: l, hn => by
    obtain ⟨n1, n2⟩ := nn_cons hn
    rw [List.filter_cons]
    by_cases c : 0 < x
    · rw [if_pos (decide_eq_true c), List.sum_cons, List.sum_cons, filt_sum n2]
    · rw [if_neg (by simpa using c), List.sum_cons, filt_sum n2]
      omega
theorem filt_mS (k : Nat) : ∀ {l : List Int}, (∀ x ∈ l, 0 ≤ x) → mS k (l.filter fun x => decide (0 < x)) = mS k l
  | [], _ => rfl
  | x :: l, hn => by
    obtain ⟨n1, n2⟩ := nn_cons hn
    rw [List.filter_cons]
    by_cases c : 0 < x
    · rw [if_pos (decide_eq_true c), mS_cons, mS_cons, filt_mS k n2]
    · rw [if_neg (by simpa using c), mS_cons, filt_mS k n2]
      unfold minN
      rw [if_pos (by omega)]
      omega
theorem srtD_sum {l : List Int} (h : ∀ x ∈ l, 0 ≤ x) : (srtD l).sum = l.sum := by
  rw [← filt_sum h]
  exact perm_sum (srt_perm _)
theorem srtD_heads {l : List Int} (h : ∀ x ∈ l, 0 ≤ x) (m : Nat) : ((conj (srtD l)).take m).sum = mS m l := by
  rw [conj_take (srtD_part l), ← filt_mS m h]
  exact perm_sum ((srt_perm _).map _)
/-- whether there is a table with row sums rs and column sums c, by partitions -/
def domH (rs c : List Int) : Bool := decide (rs.sum = c.sum) && rs.all (fun x => decide (x ≤ c.length)) && domB (conj (srtD c)) (srtD rs)
theorem mS_len : ∀ c : List Int, mS 1 c ≤ c.length
  | [] => Int.le_refl _
  | x :: c => by
    have := mS_len c
    rw [mS_cons, List.length_cons]
    unfold minN
    split <;> omega
theorem domH_iff {rs c : List Int} (hr : ∀ x ∈ rs, 0 ≤ x) (hc : ∀ x ∈ c, 0 ≤ x) : domH rs c = true ↔ ∃ t, fits c rs t := by
  unfold domH
  rw [Bool.and_eq_true, Bool.and_eq_true, decide_eq_true_eq, domB_iff]
  constructor
  · rintro ⟨⟨h1, h2⟩, h3⟩
    refine fits_suff hc hr h1 fun K hK => ?_
    obtain ⟨K', p1, p2⟩ := perm_sub (srt_perm (rs.filter fun x => decide (0 < x))).symm (hK.filter fun x => decide (0 < x))
    have e1 := sub_head (srt_falls _) p2
    have e2 := h3.2 K'.length
    rw [srtD_heads hc] at e2
    have e3 : K'.length ≤ K.length := by rw [p1.length_eq]; exact List.length_filter_le ..
    have e4 := mS_mono e3 c
    have e5 : K.sum = K'.sum := by rw [perm_sum p1, filt_sum fun x hx => hr x (hK.subset hx)]
    have e6 : (srt (rs.filter fun x => decide (0 < x))) = srtD rs := rfl
    rw [e6] at e1
    omega
  · rintro ⟨t, ht⟩
    obtain ⟨h1, h2⟩ := fits_nec ht hc
    have bound : ∀ m, ((srtD rs).take m).sum ≤ mS m c := fun m => by
      obtain ⟨K', p1, p2⟩ := perm_sub (srt_perm (rs.filter fun x => decide (0 < x))) (List.take_sublist m (srtD rs))
      have := h2 K' (p2.trans List.filter_sublist)
      rw [perm_sum p1] at this
      have e3 : K'.length ≤ m := by rw [p1.length_eq]; exact List.length_take_le ..
      exact Int.le_trans this (mS_mono e3 c)
    refine ⟨⟨h1, List.all_eq_true.mpr fun x hx => decide_eq_true ?_⟩, ?_, fun m => by rw [srtD_heads hc]; exact bound m⟩
    · have := h2 [x] (List.singleton_sublist.mpr hx)
      have a : x + 0 ≤ mS 1 c := this
      have := mS_len c
      omega
    · rw [conj_sum (srtD_part c), srtD_sum hc, srtD_sum hr, h1]
end DL

set_option maxHeartbeats 4000000
namespace DL
open PySem PySem.Spec PyProof.Rows L2
local macro_rules | `(tactic| walk_at "nx") => `(tactic| ((try dsimp only); rw [sSeq_ev]; (try simp [-sSeq_ev, -compL_cons, -forL_cons])))
/-! the laws' tables with sums (box) -/
def W_bitsL : WS :=
  (sSeq (sAsg (wFrz (wLst (wCons (wTup wNil) wNil))) (gN 1))
    (sSeq (sFor (wRange1 (wCons (wVar 0) wNil)) (gN 2) (sSeq (sAsg (wOwn (wLst wNil)) (gN 3))
    (sSeq (sFor (wIt (wVar 1)) (gN 4) (sExpr (wMt mExtend (wVar 3) (wCons (wFrz (wLst (wCons (wOp oAdd (wVar 4) (wTup (wCons (wC (.int 0)) wNil))) (wCons (wOp oAdd (wVar 4) (wTup (wCons (wC (.int 1)) wNil))) wNil)))) wNil))))
    (sAsg (wVarFrz 3) (gN 1)))))
    (sRet (wVar 1))))
def W_rows_of (c__law_bits : Ct) : WS :=
  (sRet (wFrz (wComp [2] (wIt (wCall c__law_bits (wCons (wVar 0) wNil))) (gN 2) (wTst (wOp oEq (wCall cSum (wCons (wVar 2) wNil)) (wVar 1))) (wVar 2))))
def W_allT (c__law_rows_of : Ct) : WS :=
  (sSeq (sAsg (wFrz (wLst (wCons (wTup (wCons (wTup wNil) (wCons (wVar 1) wNil))) wNil))) (gN 2))
    (sSeq (sFor (wIt (wVar 0)) (gN 3) (sSeq (sAsg (wOwn (wLst wNil)) (gN 4))
    (sSeq (sFor (wIt (wVar 2)) (gTup2 2 (gCons2 (gN 5) (gCons2 (gN 6) gNil2))) (sFor (wIt (wCall c__law_rows_of (wCons (wCall cLen (wCons (wVar 1) wNil)) (wCons (wVar 3) wNil)))) (gN 7) (sSeq (sAsg (wCall cTuple (wCons (wFrz (wComp [9] (wRange1 (wCons (wCall cLen (wCons (wVar 1) wNil)) wNil)) (gN 9) wYes (wOp oSub (wOp oIx (wVar 6) (wVar 9)) (wOp oIx (wVar 7) (wVar 9))))) wNil)) (gN 8))
    (sIf (wTst (wOp oGe (wCall cMin1 (wCons (wVar 8) wNil)) (wC (.int 0)))) (sExpr (wMt mAppend (wVar 4) (wCons (wTup (wCons (wOp oAdd (wVar 5) (wTup (wCons (wVar 7) wNil))) (wCons (wVar 8) wNil))) wNil))) sNext))))
    (sAsg (wVarFrz 4) (gN 2)))))
    (sRet (wFrz (wComp [5, 6] (wIt (wVar 2)) (gTup2 2 (gCons2 (gN 5) (gCons2 (gN 6) gNil2))) (wTst (wOp oEq (wCall cMax1 (wCons (wVar 6) wNil)) (wC (.int 0)))) (wVar 5))))))
def W_tableB (c__law_draw : Ct) : WS :=
  (sSeq (sAsg (wTup (wCons (wOp oAdd (wC (.int 1)) (wCall c__law_draw (wCons (wVar 0) (wCons (wC (.int 6)) wNil)))) (wCons (wCall c__law_draw (wCons (wVar 0) (wCons (wC (.int 4)) wNil))) wNil))) (gTup2 2 (gCons2 (gN 3) (gCons2 (gN 4) gNil2))))
    (sSeq (sAsg (wOwn (wLst wNil)) (gN 5))
    (sSeq (sFor (wRange1 (wCons (wVar 1) wNil)) (gN 6) (sSeq (sAsg (wFrz (wComp [8] (wRange1 (wCons (wVar 2) wNil)) (gN 8) wYes (wIf (wTst (wOp oLt (wCall c__law_draw (wCons (wVar 0) (wCons (wC (.int 7)) wNil))) (wVar 3))) (wC (.int 1)) (wC (.int 0))))) (gN 7))
    (sExpr (wMt mAppend (wVar 5) (wCons (wIf (wTst (wOp oEq (wVar 4) (wC (.int 0)))) (wCall cTuple (wCons (wFrz (wCall cSorted (wCons (wVar 7) wNil))) wNil)) (wIf (wTst (wOp oEq (wVar 4) (wC (.int 1)))) (wCall cTuple (wCons (wFrz (wRevL (wFrz (wCall cSorted (wCons (wVar 7) wNil))))) wNil)) (wCall cTuple (wCons (wVar 7) wNil)))) wNil)))))
    (sRet (wCall cTuple (wCons (wVar 5) wNil))))))
def W_drawn_sums (c__law_draw : Ct) (c__law_table : Ct) (c__law_sums : Ct) : WS :=
  (sSeq (sAsg (wTup (wCons (wOp oAdd (wC (.int 1)) (wCall c__law_draw (wCons (wVar 0) (wCons (wVar 1) wNil)))) (wCons (wOp oAdd (wC (.int 1)) (wCall c__law_draw (wCons (wVar 0) (wCons (wVar 1) wNil)))) (wCons (wCall c__law_draw (wCons (wVar 0) (wCons (wC (.int 4)) wNil))) wNil)))) (gTup2 3 (gCons2 (gN 2) (gCons2 (gN 3) (gCons2 (gN 4) gNil2)))))
    (sSeq (sAsg (wCall c__law_sums (wCons (wCall c__law_table (wCons (wVar 0) (wCons (wVar 2) (wCons (wVar 3) wNil)))) wNil)) (gTup2 2 (gCons2 (gN 5) (gCons2 (gN 6) gNil2))))
    (sSeq (sIf (wTst (wOp oEq (wVar 4) (wC (.int 0)))) (sAsg (wCall cTuple (wCons (wFrz (wComp [7] (wRange1 (wCons (wVar 2) wNil)) (gN 7) wYes (wCall c__law_draw (wCons (wVar 0) (wCons (wOp oAdd (wVar 3) (wC (.int 2))) wNil))))) wNil)) (gN 5)) sNext)
    (sSeq (sIf (wTst (wOp oEq (wVar 4) (wC (.int 1)))) (sSeq (sAsg (wTup (wCons (wCall c__law_draw (wCons (wVar 0) (wCons (wVar 2) wNil))) (wCons (wCall c__law_draw (wCons (wVar 0) (wCons (wVar 2) wNil))) wNil))) (gTup2 2 (gCons2 (gN 7) (gCons2 (gN 8) gNil2))))
    (sAsg (wCall cTuple (wCons (wFrz (wComp [10, 11] (wEnumA (wCons (wVar 5) wNil)) (gTup2 2 (gCons2 (gN 10) (gCons2 (gN 11) gNil2))) wYes (wOp oSub (wOp oAdd (wVar 11) (wIf (wTst (wOp oEq (wVar 10) (wVar 7))) (wC (.int 1)) (wC (.int 0)))) (wIf (bAnd (wTst (wOp oEq (wVar 10) (wVar 8))) (wTst (wOp oGt (wVar 11) (wC (.int 0))))) (wC (.int 1)) (wC (.int 0)))))) wNil)) (gN 5))) sNext)
    (sSeq (sIf (bAnd (wTst (wOp oEq (wVar 4) (wC (.int 2)))) (wTst (wOp oEq (wCall c__law_draw (wCons (wVar 0) (wCons (wC (.int 2)) wNil))) (wC (.int 0))))) (sSeq (sAsg (wTup (wCons (wCall c__law_draw (wCons (wVar 0) (wCons (wVar 3) wNil))) (wCons (wCall c__law_draw (wCons (wVar 0) (wCons (wVar 3) wNil))) wNil))) (gTup2 2 (gCons2 (gN 9) (gCons2 (gN 8) gNil2))))
    (sAsg (wCall cTuple (wCons (wFrz (wComp [10, 12] (wEnumA (wCons (wVar 6) wNil)) (gTup2 2 (gCons2 (gN 10) (gCons2 (gN 12) gNil2))) wYes (wOp oSub (wOp oAdd (wVar 12) (wIf (wTst (wOp oEq (wVar 10) (wVar 9))) (wC (.int 1)) (wC (.int 0)))) (wIf (bAnd (wTst (wOp oEq (wVar 10) (wVar 8))) (wTst (wOp oGt (wVar 12) (wC (.int 0))))) (wC (.int 1)) (wC (.int 0)))))) wNil)) (gN 6))) sNext)
    (sRet (wTup (wCons (wVar 5) (wCons (wVar 6) wNil)))))))))
def bitsL : Nat → List (List Int)
  | 0 => [[]]
  | n + 1 => (bitsL n).flatMap fun r => [r ++ [0], r ++ [1]]
theorem two_len (l : List (List Int)) : (l.flatMap fun r => [r ++ [0], r ++ [1]]).length = 2 * l.length := by
  induction l with
  | nil => rfl
  | cons x l ih =>
    rw [List.flatMap_cons, List.length_append, ih]
    simp
    omega
theorem bitsL_len : ∀ n, (bitsL n).length = 2 ^ n
  | 0 => rfl
  | n + 1 => by
    rw [bitsL, two_len, bitsL_len n, Nat.pow_succ]
    omega
theorem bitsL_mem : ∀ {n : Nat} {r : List Int}, r ∈ bitsL n ↔ r.length = n ∧ ∀ x ∈ r, x = 0 ∨ x = 1
  | 0, r => by
    show r ∈ [[]] ↔ _
    rw [List.mem_singleton]
    exact ⟨fun e => by rw [e]; exact ⟨rfl, fun x hx => absurd hx List.not_mem_nil⟩, fun h => List.length_eq_zero_iff.mp h.1⟩
  | n + 1, r => by
    rw [bitsL, List.mem_flatMap]
    constructor
    · rintro ⟨s, hs, h⟩
      obtain ⟨h1, h2⟩ := bitsL_mem.mp hs
      have : r = s ++ [0] ∨ r = s ++ [1] := by simpa using h
      rcases this with e | e <;> (subst e; refine ⟨by simp [h1], fun x hx => ?_⟩; rcases List.mem_append.mp hx with k | k)
      · exact h2 x k
      · exact .inl (List.mem_singleton.mp k)
      · exact h2 x k
      · exact .inr (List.mem_singleton.mp k)
    · rintro ⟨h1, h2⟩
      rcases List.eq_nil_or_concat r with e | ⟨s, x, e⟩
      · subst e; cases h1
      · rw [List.concat_eq_append] at e
        subst e
        refine ⟨s, bitsL_mem.mpr ⟨by simpa using h1, fun y hy => h2 y (List.mem_append.mpr (.inl hy))⟩, ?_⟩
        rcases h2 x (List.mem_append.mpr (.inr (List.mem_singleton.mpr rfl))) with e | e <;> (subst e; simp)
def C_bitsL : Ct := fun xs S Q => ∃ n : Nat, xs = [.int n] ∧ n ≤ 16 ∧ Q (.lst ((bitsL n).map rowF)) S
theorem mono_C_bitsL : MonoC C_bitsL := fun xs S Q Q' k ⟨n, e, h, q⟩ => ⟨n, e, h, k _ _ q⟩
theorem sp_bitsL (fs : List F) (S : Sto) (Q) (h : C_bitsL fs S Q) : fs.length = 1 ∧ W_bitsL { nx := fun _ S' => Q .non (restr S S'), rt := fun d S' => Q d (restr S S') } (startF 5 fs) S := by
  obtain ⟨n, rfl, hn, q⟩ := h
  refine ⟨rfl, ?_⟩
  show W_bitsL _ [some (.int n), none, none, none, none] S
  unfold W_bitsL
  walk_at "nx"
  walk_at "nx"
  refine ⟨by omega, ?_⟩
  refine forL_rng (fun i ρ S' => (∀ a, (S a).isSome = true → S' a = S a) ∧ S'.d = S.d ∧ ∃ o2 o3 o4 : Option F, ρ = [some (.int n), some (.lst ((bitsL i).map rowF)), o2, o3, o4]) ⟨fun _ _ => rfl, rfl, _, _, _, rfl⟩ (fun _ _ _ _ => trivial) (fun i hi ρ S' N ⟨kS, kD, o2, o3, o4, eρ⟩ hN => ?_) (fun ρ S' ⟨kS, kD, o2, o3, o4, eρ⟩ => ?_)
  · subst eρ
    have l0 := bitsL_len i
    have l1 : 2 ^ i ≤ 2 ^ 15 := Nat.pow_le_pow_right (by decide) (by omega)
    simp [-compL_cons, -sSeq_ev, -forL_cons]
    walk_at "nx"
    intro p hp
    have hpS : ∀ a, (S a).isSome = true → a ≠ p := fun a ha e => by
      have := kS a ha
      rw [e, hp] at this
      rw [e, ← this] at ha
      cases ha
    walk_at "nx"
    refine forL_list rowF (bitsL i) (fun ys ρ S2 => S2 = updS S' p ((ys.flatMap fun r => [r ++ [0], r ++ [1]]).map rowF) ∧ ys.length ≤ 2 ^ 15 ∧ ∃ o4 : Option F, ρ = [some (.int n), some (.lst ((bitsL i).map rowF)), some (.int i), some (.loc p), o4]) ⟨rfl, by simp, _, rfl⟩ (fun _ _ _ _ => trivial) (fun ys r zs hx ρ S2 M ⟨eS, hl, o4, eρ⟩ hM => ?_) (fun ρ S2 ⟨eS, hl, o4, eρ⟩ => ?_)
    · subst eS eρ
      have hr : r ∈ bitsL i := by rw [hx]; simp
      have h1 := (bitsL_mem.mp hr).1
      have h2 : ys.length + 1 ≤ 2 ^ 15 := by
        have := congrArg List.length hx
        rw [List.length_append, List.length_cons] at this
        omega
      simp [rowF, updS_same]
      have e3 := two_len ys
      refine ⟨mil (by omega), ?_, ?_⟩
      · have : (ys.flatMap fun r => [r ++ [0], r ++ [1]]).length + 2 ≤ 1000000 := by omega
        have := mil this
        simpa using this
      · refine hM _ _ ⟨?_, by simpa using h2, some (rowF r), rfl⟩
        rw [updS_updS, List.flatMap_append]
        congr 1
        simp [rowF]
    · subst eS eρ
      simp [updS_same]
      refine hN _ _ ⟨fun a ha => ?_, kD, some (.int i), some (.loc p), o4, rfl⟩
      · show delS _ p a = S a
        rw [delS_ne (hpS a ha), updS_ne (hpS a ha)]
        exact kS a ha
  · subst eρ
    simp
    rw [restr_eq kS fun a _ => by rw [kD]]
    exact q
def rowsOf (n : Nat) (t : Int) : List (List Int) := (bitsL n).filter fun r => decide (r.sum = t)
theorem rowsOf_mem {n : Nat} {t : Int} {r : List Int} : r ∈ rowsOf n t ↔ r.length = n ∧ (∀ x ∈ r, x = 0 ∨ x = 1) ∧ r.sum = t := by
  unfold rowsOf
  rw [List.mem_filter, bitsL_mem, decide_eq_true_eq, and_assoc]
theorem rowsOf_len (n : Nat) (t : Int) : (rowsOf n t).length ≤ 2 ^ n := by
  rw [← bitsL_len n]
  exact List.length_filter_le ..
def C_rows_of : Ct := fun xs S Q => ∃ (n : Nat) (t : Int), xs = [.int n, .int t] ∧ n ≤ 16 ∧ Q (.lst ((rowsOf n t).map rowF)) S
theorem mono_C_rows_of : MonoC C_rows_of := fun xs S Q Q' k ⟨n, t, e, h, q⟩ => ⟨n, t, e, h, k _ _ q⟩
theorem sp_rows_of (fs : List F) (S : Sto) (Q) (h : C_rows_of fs S Q) : fs.length = 2 ∧ W_rows_of C_bitsL { nx := fun _ S' => Q .non S', rt := fun d S' => Q d S' } (startF 3 fs) S := by
  obtain ⟨n, t, rfl, hn, q⟩ := h
  refine ⟨rfl, ?_⟩
  show W_rows_of _ _ [some (.int n), some (.int t), none] S
  have l0 := bitsL_len n
  have l1 : 2 ^ n ≤ 2 ^ 16 := Nat.pow_le_pow_right (by decide) hn
  unfold W_rows_of
  simp [-sSeq_ev, -compL_cons, -forL_cons]
  refine ⟨n, rfl, hn, ?_⟩
  simp [-sSeq_ev, -compL_cons, -forL_cons]
  refine ⟨mil (by omega), ?_⟩
  refine compL_filterT rowF (fun r => decide (r.sum = t)) rowF trivial (bitsL n) _ (fun r hr A N hA hN => ?_) ?_
  · simp [rowF] at hA hN ⊢
    split
    · rename_i c
      exact hA c
    · rename_i c
      exact hN c
  · simpa [rowsOf] using q
theorem bitV_iff : ∀ {l v : List Int}, bitV l v ↔ v.length = l.length ∧ (∀ x ∈ v, x = 0 ∨ x = 1) ∧ ∀ x ∈ subV l v, 0 ≤ x
  | [], [] => by simp [bitV, subV]
  | [], _ :: _ => by simp [bitV]
  | _ :: _, [] => by simp [bitV]
  | x :: l, b :: v => by
    have e : subV (x :: l) (b :: v) = (x - b) :: subV l v := rfl
    have f : bitV (x :: l) (b :: v) ↔ (b = 0 ∨ b = 1) ∧ 0 ≤ x - b ∧ bitV l v := Iff.rfl
    rw [e, f, bitV_iff (l := l), List.length_cons, List.length_cons, List.forall_mem_cons, List.forall_mem_cons]
    constructor
    · rintro ⟨h1, h2, h3, h4, h5⟩
      exact ⟨by omega, ⟨h1, h4⟩, h2, h5⟩
    · rintro ⟨h1, ⟨h2, h3⟩, h4, h5⟩
      exact ⟨h2, h4, by omega, h3, h5⟩
/-- the states of the law's search -/
abbrev St2 := List (List Int) × List Int
def nnB (l : List Int) : Bool := l.all fun x => decide (0 ≤ x)
def nextA (n : Nat) (total : Int) (p : St2) : List St2 := ((rowsOf n total).filter fun r => nnB (subV p.2 r)).map fun r => (p.1 ++ [r], subV p.2 r)
def foldA (cols rows : List Int) : List St2 := rows.foldl (fun found t => found.flatMap (nextA cols.length t)) [([], cols)]
def allT (rows cols : List Int) : List (List (List Int)) := ((foldA cols rows).filter fun p => p.2.all fun x => decide (x = 0)).map fun p => p.1
theorem foldA_snoc (cols ys : List Int) (t : Int) : foldA cols (ys ++ [t]) = (foldA cols ys).flatMap (nextA cols.length t) := by
  unfold foldA
  rw [List.foldl_append]
  rfl
theorem nextA_mem {n : Nat} {total : Int} {p q : St2} (h : p.2.length = n) : q ∈ nextA n total p ↔ ∃ v, bitV p.2 v ∧ v.sum = total ∧ q = (p.1 ++ [v], subV p.2 v) := by
  unfold nextA
  rw [List.mem_map]
  constructor
  · rintro ⟨v, hv, rfl⟩
    obtain ⟨h1, h2⟩ := List.mem_filter.mp hv
    obtain ⟨a1, a2, a3⟩ := rowsOf_mem.mp h1
    exact ⟨v, bitV_iff.mpr ⟨by omega, a2, fun x hx => of_decide_eq_true (List.all_eq_true.mp h2 x hx)⟩, a3, rfl⟩
  · rintro ⟨v, hv, hs, rfl⟩
    obtain ⟨a1, a2, a3⟩ := bitV_iff.mp hv
    exact ⟨v, List.mem_filter.mpr ⟨rowsOf_mem.mpr ⟨by omega, a2, hs⟩, List.all_eq_true.mpr fun x hx => decide_eq_true (a3 x hx)⟩, rfl⟩
def runs : List Int → List Int → List (List Int) → List Int → Prop
  | l, [], [], l' => l' = l
  | l, r :: rs, v :: t, l' => bitV l v ∧ v.sum = r ∧ runs (subV l v) rs t l'
  | _, _, _, _ => False
theorem runs_len : ∀ {rs l : List Int} {t : List (List Int)} {l' : List Int}, runs l rs t l' → t.length = rs.length ∧ l'.length = l.length
  | [], l, [], l', h => ⟨rfl, by rw [h]⟩
  | r :: rs, l, v :: t, l', h => by
    obtain ⟨h1, h2⟩ := runs_len h.2.2
    rw [subV_len h.1] at h2
    exact ⟨by rw [List.length_cons, List.length_cons, h1], h2⟩
  | [], _, _ :: _, _, h => h.elim
  | _ :: _, _, [], _, h => h.elim
theorem runs_nn : ∀ {rs l : List Int} {t : List (List Int)} {l' : List Int}, runs l rs t l' → (∀ x ∈ l, 0 ≤ x) → ∀ x ∈ l', 0 ≤ x
  | [], l, [], l', h, hn => by rw [h]; exact hn
  | r :: rs, l, v :: t, l', h, hn => runs_nn h.2.2 (subV_nn h.1)
  | [], _, _ :: _, _, h, _ => h.elim
  | _ :: _, _, [], _, h, _ => h.elim
theorem runs_snoc : ∀ {rs l : List Int} {t : List (List Int)} {l1 : List Int} {r : Int} {v : List Int}, runs l rs t l1 → bitV l1 v → v.sum = r → runs l (rs ++ [r]) (t ++ [v]) (subV l1 v)
  | [], l, [], l1, r, v, h, h1, h2 => by
    have e : l1 = l := h
    subst e
    exact ⟨h1, h2, rfl⟩
  | _ :: rs, l, _ :: t, l1, r, v, h, h1, h2 => ⟨h.1, h.2.1, runs_snoc h.2.2 h1 h2⟩
  | [], _, _ :: _, _, _, _, h, _, _ => h.elim
  | _ :: _, _, [], _, _, _, h, _, _ => h.elim
theorem runs_split : ∀ {rs l : List Int} {t : List (List Int)} {l' : List Int} {r : Int}, runs l (rs ++ [r]) t l' → ∃ t1 v l1, t = t1 ++ [v] ∧ runs l rs t1 l1 ∧ bitV l1 v ∧ v.sum = r ∧ l' = subV l1 v
  | [], l, v :: [], l', r, h => ⟨[], v, l, rfl, rfl, h.1, h.2.1, h.2.2⟩
  | [], l, _ :: _ :: _, _, _, h => h.2.2.elim
  | x :: rs, l, v :: t, l', r, h => by
    obtain ⟨t1, w, l1, e, h1, h2, h3, h4⟩ := runs_split h.2.2
    exact ⟨v :: t1, w, l1, by rw [e]; rfl, ⟨h.1, h.2.1, h1⟩, h2, h3, h4⟩
  | [], _, [], _, _, h => h.elim
  | _ :: _, _, [], _, _, h => h.elim
theorem foldA_mem (cols : List Int) (n : Nat) : ∀ (rows : List Int), rows.length = n → ∀ p : St2, p ∈ foldA cols rows ↔ runs cols rows p.1 p.2 := by
  induction n with
  | zero =>
    intro rows hr p
    rw [List.length_eq_zero_iff.mp hr]
    show p ∈ [([], cols)] ↔ _
    obtain ⟨t, l⟩ := p
    rw [List.mem_singleton]
    constructor
    · intro e
      obtain ⟨rfl, rfl⟩ := Prod.mk.inj e
      exact rfl
    · intro h
      cases t with
      | nil =>
        have e : l = cols := h
        rw [e]
      | cons => exact h.elim
  | succ n ih =>
    intro rows hr p
    rcases List.eq_nil_or_concat rows with e | ⟨ys, r, e⟩
    · subst e; cases hr
    · rw [List.concat_eq_append] at e
      subst e
      have hy : ys.length = n := by simpa using hr
      rw [foldA_snoc, List.mem_flatMap]
      constructor
      · rintro ⟨q, hq, h⟩
        have hq := (ih ys hy q).mp hq
        obtain ⟨v, h1, h2, rfl⟩ := (nextA_mem (runs_len hq).2).mp h
        exact runs_snoc hq h1 h2
      · intro h
        obtain ⟨t1, v, l1, e, h1, h2, h3, h4⟩ := runs_split h
        exact ⟨(t1, l1), (ih ys hy (t1, l1)).mpr h1, (nextA_mem (runs_len h1).2).mpr ⟨v, h2, h3, Prod.ext e h4⟩⟩
theorem fits_runs : ∀ {rs c : List Int} {t : List (List Int)}, fits c rs t ↔ ∃ l, runs c rs t l ∧ ∀ x ∈ l, x = 0
  | [], c, [] => ⟨fun h => ⟨c, rfl, h⟩, fun ⟨l, e, h⟩ => by
    have e : l = c := e
    rw [← e]
    exact h⟩
  | r :: rs, c, v :: t => by
    have f : fits c (r :: rs) (v :: t) ↔ bitV c v ∧ v.sum = r ∧ fits (subV c v) rs t := Iff.rfl
    rw [f, fits_runs (rs := rs)]
    exact ⟨fun ⟨h1, h2, l, h3, h4⟩ => ⟨l, ⟨h1, h2, h3⟩, h4⟩, fun ⟨l, ⟨h1, h2, h3⟩, h4⟩ => ⟨h1, h2, l, h3, h4⟩⟩
  | [], _, _ :: _ => ⟨fun h => h.elim, fun ⟨_, h, _⟩ => h.elim⟩
  | _ :: _, _, [] => ⟨fun h => h.elim, fun ⟨_, h, _⟩ => h.elim⟩
theorem allT_mem {rows cols : List Int} {t : List (List Int)} : t ∈ allT rows cols ↔ fits cols rows t := by
  unfold allT
  rw [fits_runs, List.mem_map]
  constructor
  · rintro ⟨p, hp, rfl⟩
    obtain ⟨h1, h2⟩ := List.mem_filter.mp hp
    exact ⟨p.2, (foldA_mem cols _ rows rfl p).mp h1, fun x hx => of_decide_eq_true (List.all_eq_true.mp h2 x hx)⟩
  · rintro ⟨l, h1, h2⟩
    exact ⟨(t, l), List.mem_filter.mpr ⟨(foldA_mem cols _ rows rfl (t, l)).mpr h1, List.all_eq_true.mpr fun x hx => decide_eq_true (h2 x hx)⟩, rfl⟩
theorem flat_len {α β : Type} (f : α → List β) (B : Nat) : ∀ l : List α, (∀ x ∈ l, (f x).length ≤ B) → (l.flatMap f).length ≤ l.length * B
  | [], _ => by simp
  | x :: l, h => by
    have := flat_len f B l fun y hy => h y (List.mem_cons_of_mem _ hy)
    have := h x (List.mem_cons_self ..)
    rw [List.flatMap_cons, List.length_append, List.length_cons, Nat.succ_mul]
    omega
theorem nextA_len (n : Nat) (t : Int) (p : St2) : (nextA n t p).length ≤ 2 ^ n := by
  unfold nextA
  rw [List.length_map]
  exact Nat.le_trans (List.length_filter_le ..) (rowsOf_len n t)
theorem foldA_len (cols : List Int) (n : Nat) : ∀ rows : List Int, rows.length = n → (foldA cols rows).length ≤ (2 ^ cols.length) ^ n := by
  induction n with
  | zero =>
    intro rows hr
    rw [List.length_eq_zero_iff.mp hr]
    exact Nat.le_refl _
  | succ n ih =>
    intro rows hr
    rcases List.eq_nil_or_concat rows with e | ⟨ys, r, e⟩
    · subst e; cases hr
    · rw [List.concat_eq_append] at e
      subst e
      have hy : ys.length = n := by simpa using hr
      rw [foldA_snoc, Nat.pow_succ]
      exact Nat.le_trans (flat_len _ (2 ^ cols.length) _ fun p _ => nextA_len _ _ p) (Nat.mul_le_mul_right _ (ih ys hy))
end DL

set_option maxHeartbeats 4000000
namespace DL
open PySem PySem.Spec PyProof.Rows L2
local macro_rules | `(tactic| walk_at "nx") => `(tactic| ((try dsimp only); rw [sSeq_ev]; (try simp [-sSeq_ev, -compL_cons, -forL_cons])))
def C_allT : Ct := fun xs S Q => ∃ rows cols : List Int, xs = [rowF rows, rowF cols] ∧ rows.length ≤ 4 ∧ 1 ≤ cols.length ∧ cols.length ≤ 4 ∧ (∀ x ∈ cols, 0 ≤ x) ∧ Q (.lst ((allT rows cols).map tabF)) S
theorem mono_C_allT : MonoC C_allT := fun xs S Q Q' k ⟨r, c, e, h1, h2, h3, h4, q⟩ => ⟨r, c, e, h1, h2, h3, h4, k _ _ q⟩
def stF (p : St2) : F := .tup [tabF p.1, rowF p.2]
theorem subV_get : ∀ {l v : List Int}, v.length = l.length → subV l v = (List.range l.length).map fun j => l.getD j 0 - v.getD j 0
  | [], [], _ => rfl
  | x :: l, b :: v, h => by
    have ih := subV_get (l := l) (v := v) (by simpa using h)
    show (x - b) :: subV l v = _
    rw [ih, List.length_cons, List.range_succ_eq_map, List.map_cons, List.map_map]
    rfl
  | [], _ :: _, h => by cases h
  | _ :: _, [], h => by cases h
theorem foldA_ok {cols rows : List Int} (hc : ∀ x ∈ cols, 0 ≤ x) {p : St2} (h : p ∈ foldA cols rows) : p.1.length = rows.length ∧ p.2.length = cols.length ∧ ∀ x ∈ p.2, 0 ≤ x := by
  have h := (foldA_mem cols _ rows rfl p).mp h
  exact ⟨(runs_len h).1, (runs_len h).2, runs_nn h hc⟩
theorem sp_allT (fs : List F) (S : Sto) (Q) (h : C_allT fs S Q) : fs.length = 2 ∧ W_allT C_rows_of { nx := fun _ S' => Q .non (restr S S'), rt := fun d S' => Q d (restr S S') } (startF 10 fs) S := by
  obtain ⟨rows, cols, rfl, hr, hn1, hn2, hc, q⟩ := h
  refine ⟨rfl, ?_⟩
  show W_allT _ _ [some (rowF rows), some (rowF cols), none, none, none, none, none, none, none, none] S
  have p16 : ∀ i, i ≤ 4 → (2 ^ cols.length) ^ i ≤ 65536 := fun i hi =>
    Nat.le_trans (Nat.pow_le_pow_left (Nat.pow_le_pow_right (by decide) hn2) i) (Nat.pow_le_pow_right (show 0 < 2 ^ 4 by decide) hi)
  have pn : 2 ^ cols.length ≤ 16 := Nat.pow_le_pow_right (show 0 < 2 by decide) hn2
  unfold W_allT
  walk_at "nx"
  walk_at "nx"
  refine forL_list F.int rows (fun ys ρ S' => (∀ a, (S a).isSome = true → S' a = S a) ∧ S'.d = S.d ∧ ys.length ≤ rows.length ∧ ∃ o3 o4 o5 o6 o7 o8 : Option F, ρ = [some (rowF rows), some (rowF cols), some (.lst ((foldA cols ys).map stF)), o3, o4, o5, o6, o7, o8, none]) ⟨fun _ _ => rfl, rfl, Nat.zero_le _, _, _, _, _, _, _, rfl⟩ (fun _ _ _ _ => trivial)
    (fun ys total zs hx ρ S' N ⟨kS, kD, hyl, o3, o4, o5, o6, o7, o8, eρ⟩ hN => ?_) (fun ρ S' ⟨kS, kD, hyl, o3, o4, o5, o6, o7, o8, eρ⟩ => ?_)
  · subst eρ
    have hy1 : ys.length + 1 ≤ rows.length := by
      have := congrArg List.length hx
      rw [List.length_append, List.length_cons] at this
      omega
    have lf := foldA_len cols _ ys rfl
    have lf2 : (2 ^ cols.length) ^ ys.length ≤ 4096 := Nat.le_trans (Nat.pow_le_pow_left (Nat.pow_le_pow_right (by decide) hn2) _) (Nat.pow_le_pow_right (show 0 < 2 ^ 4 by decide) (show ys.length ≤ 3 by omega))
    simp [-compL_cons, -sSeq_ev, -forL_cons]
    walk_at "nx"
    intro p hp
    have hpS : ∀ a, (S a).isSome = true → a ≠ p := fun a ha e => by
      have := kS a ha
      rw [e, hp] at this
      rw [e, ← this] at ha
      cases ha
    walk_at "nx"
    refine forL_list stF (foldA cols ys) (fun us ρ S2 => S2 = updS S' p ((us.flatMap (nextA cols.length total)).map stF) ∧ us.length ≤ (foldA cols ys).length ∧ ∃ o5 o6 o7 o8 : Option F, ρ = [some (rowF rows), some (rowF cols), some (.lst ((foldA cols ys).map stF)), some (.int total), some (.loc p), o5, o6, o7, o8, none]) ⟨rfl, Nat.zero_le _, _, _, _, _, rfl⟩ (fun _ _ _ _ => trivial)
      (fun us st vs hx2 ρ S2 M ⟨eS, hul, o5, o6, o7, o8, eρ⟩ hM => ?_) (fun ρ S2 ⟨eS, hul, o5, o6, o7, o8, eρ⟩ => ?_)
    · subst eS eρ
      obtain ⟨t, l⟩ := st
      obtain ⟨k1, k2, k3⟩ := foldA_ok (p := (t, l)) hc (show (t, l) ∈ foldA cols ys by rw [hx2]; simp)
      dsimp only at k1 k2 k3
      have hu1 : us.length + 1 ≤ (foldA cols ys).length := by
        have := congrArg List.length hx2
        rw [List.length_append, List.length_cons] at this
        omega
      have lu := flat_len (nextA cols.length total) (2 ^ cols.length) us fun q _ => nextA_len _ _ q
      have lu2 : us.length * 2 ^ cols.length ≤ 4096 * 16 := Nat.mul_le_mul (by omega) pn
      simp [stF, tabF, rowF, -compL_cons, -sSeq_ev, -forL_cons]
      refine ⟨cols.length, total, rfl, by omega, ?_⟩
      dsimp only
      rw [onIt_lst]
      have lr := rowsOf_len cols.length total
      have nf : ∀ ws : List (List Int), ((us.flatMap (nextA cols.length total)) ++ ((ws.filter fun r => nnB (subV l r)).map fun r => (t ++ [r], subV l r))).length ≤ us.length * 2 ^ cols.length + ws.length := fun ws => by
        rw [List.length_append, List.length_map]
        have := List.length_filter_le (fun r => nnB (subV l r)) ws
        omega
      refine forL_list rowF (rowsOf cols.length total) (fun ws ρ S3 => S3 = updS S' p (((us.flatMap (nextA cols.length total)) ++ ((ws.filter fun r => nnB (subV l r)).map fun r => (t ++ [r], subV l r))).map stF) ∧ ws.length ≤ (rowsOf cols.length total).length ∧ ∃ o7 o8 : Option F, ρ = [some (rowF rows), some (rowF cols), some (.lst ((foldA cols ys).map stF)), some (.int total), some (.loc p), some (tabF t), some (rowF l), o7, o8, none]) ⟨by simp, Nat.zero_le _, _, _, rfl⟩ (fun _ _ _ _ => trivial)
        (fun ws r xs2 hx3 ρ S3 M2 ⟨eS, hwl, o7, o8, eρ⟩ hM2 => ?_) (fun ρ S3 ⟨eS, hwl, o7, o8, eρ⟩ => ?_)
      · subst eS eρ
        have hw1 : ws.length + 1 ≤ (rowsOf cols.length total).length := by
          have := congrArg List.length hx3
          rw [List.length_append, List.length_cons] at this
          omega
        obtain ⟨a1, a2, a3⟩ := rowsOf_mem.mp (show r ∈ rowsOf cols.length total by rw [hx3]; simp)
        have hg := subV_get (l := l) (v := r) (by omega)
        have hnf := nf ws
        simp [tabF, rowF, -compL_cons, -sSeq_ev, -forL_cons]
        walk_at "nx"
        refine ⟨by omega, mil (by omega), ?_⟩
        rw [rngL_map]
        refine compL_mapT (fun i : Nat => F.int (0 + (i : Int))) (fun j : Nat => .int (l.getD j 0 - r.getD j 0)) trivial _ _ (fun j hj Q2 q2 => ?_) ?_
        · have hj := List.mem_range.mp hj
          have e1 : l[j]? = some l[j] := List.getElem?_eq_getElem (by omega)
          have e2 : l.getD j 0 = l[j] := by simp [List.getD, e1]
          have e3 : r[j]? = some r[j] := List.getElem?_eq_getElem (by omega)
          have e4 : r.getD j 0 = r[j] := by simp [List.getD, e3]
          rw [e2, e4] at q2
          simp [atI_cast, e1, e3]
          exact q2
        · have e5 : [] ++ (List.range cols.length).map (fun j => F.int (l.getD j 0 - r.getD j 0)) = (subV l r).map F.int := by
            rw [hg, k2, List.map_map]
            rfl
          rw [e5]
          refine cMin1_t (fun e => by
            have := subV_len (bitV_iff.mpr ⟨show r.length = l.length by omega, a2, fun x hx => by rw [e] at hx; exact absurd hx List.not_mem_nil⟩)
            rw [e] at this
            have : 0 = l.length := this
            omega) fun M hM hmin => ?_
          by_cases c : 0 ≤ M
          · have hb : nnB (subV l r) = true := List.all_eq_true.mpr fun x hx => decide_eq_true (by have := hmin x hx; omega)
            simp [c, updS_same]
            refine ⟨mil (by omega), by have := mil (n := ((us.flatMap (nextA cols.length total)) ++ ((ws.filter fun r => nnB (subV l r)).map fun r => (t ++ [r], subV l r))).length + 1) (by omega); simp at this; omega, ?_⟩
            refine hM2 _ _ ⟨?_, by simpa using hw1, some (rowF r), some (.tup ((subV l r).map F.int)), rfl⟩
            rw [updS_updS, List.filter_append, List.filter_cons, if_pos hb]
            congr 1
            simp [stF, tabF, rowF]
          · have hb : ¬ nnB (subV l r) = true := fun h => c (of_decide_eq_true (List.all_eq_true.mp h M hM))
            simp [c]
            refine hM2 _ _ ⟨?_, by simpa using hw1, some (rowF r), some (.tup ((subV l r).map F.int)), rfl⟩
            rw [List.filter_append, List.filter_cons, if_neg hb]
            congr 1
            simp
      · subst eS eρ
        refine hM _ _ ⟨?_, by simpa using hu1, some (tabF t), some (rowF l), o7, o8, rfl⟩
        rw [List.flatMap_append, List.flatMap_singleton]
        rfl
    · subst eS eρ
      simp [updS_same]
      rw [foldA_snoc] at hN
      refine hN _ _ ⟨fun a ha => ?_, kD, by simpa using hy1, some (.int total), some (.loc p), o5, o6, o7, o8, rfl⟩
      show delS _ p a = S a
      rw [delS_ne (hpS a ha), updS_ne (hpS a ha)]
      exact kS a ha
  · subst eρ
    have lf := foldA_len cols _ rows rfl
    have lf2 := p16 rows.length hr
    simp [-compL_cons]
    refine ⟨mil (by omega), ?_⟩
    refine compL_filterT stF (fun p => p.2.all fun x => decide (x = 0)) (fun p => tabF p.1) trivial _ _ (fun st hst A N hA hN => ?_) ?_
    · obtain ⟨t, l⟩ := st
      obtain ⟨k1, k2, k3⟩ := foldA_ok (p := (t, l)) hc hst
      dsimp only at k1 k2 k3 hA hN
      simp [stF, rowF, tabF]
      refine cMax1_t (fun e => by rw [e] at k2; have : 0 = cols.length := k2; omega) fun M hM hmax => ?_
      by_cases c : M = 0
      · simp [c]
        exact hA (List.all_eq_true.mpr fun x hx => decide_eq_true (by have := hmax x hx; have := k3 x hx; omega))
      · simp [c]
        refine hN ?_
        cases e : l.all fun x => decide (x = 0) with
        | false => rfl
        | true => exact absurd (of_decide_eq_true (List.all_eq_true.mp e M hM)) c
    · rw [List.nil_append]
      rw [restr_eq kS fun a _ => by rw [kD]]
      rw [allT, List.map_map] at q
      exact q
end DL

set_option maxHeartbeats 4000000
namespace DL
open PySem PySem.Spec PyProof.Rows L2
local macro_rules | `(tactic| walk_at "nx") => `(tactic| ((try dsimp only); rw [sSeq_ev]; (try simp [-sSeq_ev, -compL_cons, -forL_cons])))
/-! drawn tables and sums (box) -/
def C_tableB : Ct := fun xs S Q => ∃ b c, ∃ m n : Nat, xs = [.loc b, .int (m : Int), .int (n : Int)] ∧ BoxAt S b c ∧ 1 ≤ m ∧ m ≤ 16 ∧ 1 ≤ n ∧ n ≤ 16 ∧ ∀ t S', Tab t m n → BoxAt S' b c → Fr S S' b c → Q (tabF t) S'
theorem mono_C_tableB : MonoC C_tableB := fun xs S Q Q' k ⟨b, c, m, n, e, h1, h2, h3, h4, h5, q⟩ => ⟨b, c, m, n, e, h1, h2, h3, h4, h5, fun t S' h1 h2 h3 => k _ _ (q t S' h1 h2 h3)⟩
theorem sp_tableB (fs : List F) (S : Sto) (Q) (h : C_tableB fs S Q) : fs.length = 3 ∧ W_tableB C_draw { nx := fun _ S' => Q .non (restr S S'), rt := fun d S' => Q d (restr S S') } (startF 9 fs) S := by
  obtain ⟨b, c, m, n, rfl, hb, m1, m2, n1, n2, q⟩ := h
  refine ⟨rfl, ?_⟩
  show W_tableB _ _ [some (.loc b), some (.int m), some (.int n), none, none, none, none, none, none] S
  unfold W_tableB
  walk_at "nx"
  refine call_draw hb (by decide) (by decide) fun th S1 hth hb1 f1 => ?_
  simp [-sSeq_ev, -compL_cons, -forL_cons]
  refine call_draw hb1 (by decide) (by decide) fun pick S2 hpick hb2 f2 => ?_
  walk_at "nx"
  intro p hp
  have hpb : p ≠ b := fun e => hb2.b (by rw [← e]; exact hp)
  have hpc : p ≠ c := fun e => hb2.c (by rw [← e]; exact hp)
  have hpS : S p = none := by rw [← hp, f2 p hpb hpc, f1 p hpb hpc]
  have f12 := f1.trans f2
  walk_at "nx"
  refine ⟨by omega, ?_⟩
  refine forL_rng (fun i ρ S' => BoxAt S' b c ∧ (∀ a, a ≠ b → a ≠ c → a ≠ p → S' a = S a) ∧ (∃ t : Tb, S' p = some (t.map rowF) ∧ t.length = i ∧ ∀ r ∈ t, r.length = n ∧ ∀ x ∈ r, x = 0 ∨ x = 1) ∧ ∃ o6 o7 : Option F, ρ = [some (.loc b), some (.int m), some (.int n), some (.int (1 + (th : Int))), some (.int pick), some (.loc p), o6, o7, none])
    ⟨hb2.upd hpb hpc, fun a h1 h2 h3 => by rw [updS_ne h3]; exact f12 a h1 h2, ⟨[], updS_same, rfl, fun r hr => absurd hr List.not_mem_nil⟩, _, _, rfl⟩ (fun _ _ _ _ => trivial)
    (fun i hi ρ S' N ⟨hb', f', ⟨t, et, lt, ht⟩, o6, o7, eρ⟩ hN => ?_) (fun ρ S' ⟨hb', f', ⟨t, et, lt, ht⟩, o6, o7, eρ⟩ => ?_)
  · subst eρ
    simp [-compL_cons, -sSeq_ev, -forL_cons]
    walk_at "nx"
    refine ⟨by omega, mil (by omega), ?_⟩
    refine compL_inv (fun acc S'' => BoxAt S'' b c ∧ (∀ a, a ≠ b → a ≠ c → S'' a = S' a) ∧ ∃ r : List Int, acc = r.map F.int ∧ ∀ x ∈ r, x = 0 ∨ x = 1) _ _ _ (fun _ _ _ => trivial)
      (fun x hx acc S4 Q4 ⟨hb4, f4, r, er, hr⟩ q4 => ?_) ⟨hb', fun _ _ _ => rfl, [], rfl, fun x hx => absurd hx List.not_mem_nil⟩ (fun acc S5 ⟨hb5, f5, r, er, hr⟩ hlen => ?_)
    · simp [-sSeq_ev, -compL_cons, -forL_cons]
      refine call_draw hb4 (by decide) (by decide) fun d S6 hd hb6 f6 => ?_
      have key : ∀ v : Int, v = 0 ∨ v = 1 → Q4 (.int v) S6 := fun v hv => q4 _ _ ⟨hb6, fun a h1 h2 => by rw [f6 a h1 h2]; exact f4 a h1 h2, r ++ [v], by simp [er], fun x hx => by
        rcases List.mem_append.mp hx with h | h
        · exact hr x h
        · rw [List.mem_singleton.mp h]; exact hv⟩
      simp
      split
      · exact key 1 (.inr rfl)
      · exact key 0 (.inl rfl)
    · subst er
      have hlr : r.length = n := by simpa using hlen
      have e5 : S5 p = some (t.map rowF) := by rw [f5 p hpb hpc]; exact et
      have fin : ∀ r2 : List Int, r2.Perm r → t.length < sizeLine ∧ N [some (.loc b), some (.int m), some (.int n), some (.int (1 + (th : Int))), some (.int pick), some (.loc p), some (.int i), some (.lst (r.map F.int)), none] (updS S5 p (t.map rowF ++ [F.tup (r2.map F.int)])) := fun r2 h2 => by
        refine ⟨by rw [lt]; have := mil (n := i + 1) (by omega); omega, ?_⟩
        refine hN _ _ ⟨hb5.upd hpb hpc, fun a h1 h2 h3 => by rw [updS_ne h3, f5 a h1 h2]; exact f' a h1 h2 h3, ⟨t ++ [r2], by rw [updS_same, List.map_append]; rfl, by simp [lt], fun q hq => ?_⟩, _, _, rfl⟩
        rcases List.mem_append.mp hq with h | h
        · exact ht q h
        · rw [List.mem_singleton.mp h]
          exact ⟨by rw [h2.length_eq, hlr], fun x hx => hr x (h2.mem_iff.mp hx)⟩
      have hsome : (S5 p).isSome = true := by rw [e5]; rfl
      simp [hsome]
      split
      · refine cSorted_l fun ms k1 k2 => ?_
        simp [e5]
        simpa using fin ms k1
      · split
        · refine cSorted_l fun ms k1 k2 => ?_
          have := fin ms.reverse ((List.reverse_perm ms).trans k1)
          simp [e5]
          simpa using this
        · simp [e5]
          simpa using fin r (.refl _)
  · subst eρ
    simp [et]
    have hl := lt
    refine q t _ ⟨⟨hl, fun r hr => (ht r hr).1, by omega, by omega, by omega, by omega⟩, fun r hr => (ht r hr).2⟩ (hb.restr hb') (fr_restr fun a h1 h2 h3 => f' a h1 h2 fun e => h3 (by rw [e]; exact hpS))
theorem bits_sum : ∀ {r : List Int}, (∀ x ∈ r, x = 0 ∨ x = 1) → 0 ≤ r.sum ∧ r.sum ≤ r.length
  | [], _ => ⟨Int.le_refl _, Int.le_refl _⟩
  | x :: r, h => by
    have := bits_sum fun y hy => h y (List.mem_cons_of_mem _ hy)
    have := h x (List.mem_cons_self ..)
    rw [List.sum_cons, List.length_cons]
    omega
def inB (B : Int) (l : List Int) : Prop := ∀ x ∈ l, 0 ≤ x ∧ x ≤ B
theorem tab_row_sums {t : Tb} {m n : Nat} (h : Tab t m n) : inB n (t.map List.sum) := fun x hx => by
  obtain ⟨r, hr, rfl⟩ := List.mem_map.mp hx
  have := bits_sum (h.bit r hr)
  rw [h.row r hr] at this
  exact this
theorem turn_bit {t : Tb} {m n : Nat} (h : Tab t m n) : ∀ r ∈ turn t n, r.length = m ∧ ∀ x ∈ r, x = 0 ∨ x = 1 := fun r hr => by
  unfold turn at hr
  obtain ⟨j, hj, rfl⟩ := List.mem_map.mp hr
  refine ⟨by rw [List.length_map, h.len], fun x hx => ?_⟩
  obtain ⟨r, hr, rfl⟩ := List.mem_map.mp hx
  have hj := List.mem_range.mp hj
  have hjr : j < r.length := by rw [h.row r hr]; exact hj
  have e : r[j]? = some r[j] := List.getElem?_eq_getElem hjr
  rw [List.getD_eq_getElem?_getD, e]
  exact h.bit r hr _ (List.getElem_mem _)
theorem tab_col_sums {t : Tb} {m n : Nat} (h : Tab t m n) : inB m ((turn t n).map List.sum) := fun x hx => by
  obtain ⟨r, hr, rfl⟩ := List.mem_map.mp hx
  obtain ⟨h1, h2⟩ := turn_bit h r hr
  have := bits_sum h2
  rw [h1] at this
  exact this
theorem turn_len (t : Tb) (n : Nat) : (turn t n).length = n := by simp [turn]
theorem inB.mono {B C : Int} {l : List Int} (h : inB B l) (k : B ≤ C) : inB C l := fun x hx => ⟨(h x hx).1, Int.le_trans (h x hx).2 k⟩
theorem sumsF (t : Tb) : (t.map fun r => F.int r.sum) = (t.map List.sum).map F.int := by
  rw [List.map_map]
  rfl
def C_drawn_sums : Ct := fun xs S Q => ∃ b c, ∃ side : Nat, xs = [.loc b, .int side] ∧ BoxAt S b c ∧ 1 ≤ side ∧ side ≤ 16 ∧ ∀ rs cs S', 1 ≤ rs.length → rs.length ≤ side → 1 ≤ cs.length → cs.length ≤ side → inB 40 rs → inB 40 cs → BoxAt S' b c → Fr S S' b c → Q (.tup [rowF rs, rowF cs]) S'
theorem mono_C_drawn_sums : MonoC C_drawn_sums := fun xs S Q Q' k ⟨b, c, s, e, h1, h2, h3, q⟩ => ⟨b, c, s, e, h1, h2, h3, fun rs cs S' a1 a2 a3 a4 a5 a6 a7 a8 => k _ _ (q rs cs S' a1 a2 a3 a4 a5 a6 a7 a8)⟩
/-- a row with one more at i, and one less at k -/
def shift (i k : Nat) (l : List Int) : List Int := (List.range l.length).map fun a => l.getD a 0 + (if a = i then 1 else 0) - if a = k ∧ 0 < l.getD a 0 then 1 else 0
theorem shift_ok {B : Int} {l : List Int} (h : inB B l) (i k : Nat) : (shift i k l).length = l.length ∧ inB (B + 1) (shift i k l) := by
  refine ⟨by simp [shift], fun x hx => ?_⟩
  obtain ⟨a, ha, rfl⟩ := List.mem_map.mp hx
  have ha := List.mem_range.mp ha
  have e : l[a]? = some l[a] := List.getElem?_eq_getElem ha
  have e2 : l.getD a 0 = l[a] := by simp [List.getD, e]
  have := h _ (List.getElem_mem ha)
  rw [e2]
  split <;> split <;> omega
theorem ite_shift {x : Int} {a i k : Nat} {R : F → Prop} (h : R (.int (x + (if a = i then 1 else 0) - if a = k ∧ 0 < x then 1 else 0))) :
    if (a : Int) = (i : Int) then if (a : Int) = (k : Int) then if 0 < x then R (.int x) else R (.int (x + 1)) else R (.int (x + 1))
    else if (a : Int) = (k : Int) then if 0 < x then R (.int (x - 1)) else R (.int x) else R (.int x) := by
  by_cases e1 : a = i
  · have f1 : (a : Int) = (i : Int) := by omega
    rw [if_pos f1]
    by_cases e2 : a = k
    · have f2 : (a : Int) = (k : Int) := by omega
      rw [if_pos f2]
      by_cases e3 : 0 < x
      · rw [if_pos e3]
        rw [if_pos e1, if_pos ⟨e2, e3⟩, Int.add_sub_cancel] at h
        exact h
      · rw [if_neg e3]
        rw [if_pos e1, if_neg fun z => e3 z.2, Int.sub_zero] at h
        exact h
    · rw [if_neg (show ¬ (a : Int) = (k : Int) by omega)]
      rw [if_pos e1, if_neg fun z => e2 z.1, Int.sub_zero] at h
      exact h
  · rw [if_neg (show ¬ (a : Int) = (i : Int) by omega)]
    by_cases e2 : a = k
    · have f2 : (a : Int) = (k : Int) := by omega
      rw [if_pos f2]
      by_cases e3 : 0 < x
      · rw [if_pos e3]
        rw [if_neg e1, if_pos ⟨e2, e3⟩, Int.add_zero] at h
        exact h
      · rw [if_neg e3]
        rw [if_neg e1, if_neg fun z => e3 z.2, Int.sub_zero, Int.add_zero] at h
        exact h
    · rw [if_neg (show ¬ (a : Int) = (k : Int) by omega)]
      rw [if_neg e1, if_neg fun z => e2 z.1, Int.sub_zero, Int.add_zero] at h
      exact h
theorem sp_drawn_sums (fs : List F) (S : Sto) (Q) (h : C_drawn_sums fs S Q) : fs.length = 2 ∧ W_drawn_sums C_draw C_tableB C_sums { nx := fun _ S' => Q .non S', rt := fun d S' => Q d S' } (startF 13 fs) S := by
  obtain ⟨b, c, side, rfl, hb, s1, s2, q⟩ := h
  refine ⟨rfl, ?_⟩
  show W_drawn_sums _ _ _ _ [some (.loc b), some (.int side), none, none, none, none, none, none, none, none, none, none, none] S
  unfold W_drawn_sums
  walk_at "nx"
  refine call_draw hb (by omega) (by omega) fun m0 S1 hm hb1 f1 => ?_
  simp [-sSeq_ev, -compL_cons, -forL_cons]
  refine call_draw hb1 (by omega) (by omega) fun n0 S2 hn hb2 f2 => ?_
  simp [-sSeq_ev, -compL_cons, -forL_cons]
  refine call_draw hb2 (by decide) (by decide) fun pick S3 hp hb3 f3 => ?_
  walk_at "nx"
  refine ⟨b, c, m0 + 1, n0 + 1, by simp; omega, hb3, by omega, by omega, by omega, by omega, fun t S4 ht hb4 f4 => ?_⟩
  simp [-sSeq_ev, -compL_cons, -forL_cons]
  refine ⟨t, _, _, rfl, ht.toRect, ?_⟩
  rw [sumsF, sumsF]
  have r1 := tab_row_sums ht
  have c1 := tab_col_sums ht
  have lr : (t.map List.sum).length = m0 + 1 := by rw [List.length_map, ht.len]
  have lc : ((turn t (n0 + 1)).map List.sum).length = n0 + 1 := by rw [List.length_map, turn_len]
  generalize t.map List.sum = rs at r1 lr
  generalize (turn t (n0 + 1)).map List.sum = cs at c1 lc
  have r1 := r1.mono (show ((n0 + 1 : Nat) : Int) ≤ 17 by omega)
  have c1 := c1.mono (show ((m0 + 1 : Nat) : Int) ≤ 17 by omega)
  have f14 := ((f1.trans f2).trans f3).trans f4
  simp [-sSeq_ev, -compL_cons, -forL_cons]
  let P : Int → Slots → Sto → Prop := fun B ρ S' => BoxAt S' b c ∧ Fr S S' b c ∧ ∃ (rs cs : List Int) (o7 o8 o9 : Option F), rs.length = m0 + 1 ∧ cs.length = n0 + 1 ∧ inB B rs ∧ inB B cs ∧ ρ = [some (.loc b), some (.int side), some (.int (1 + (m0 : Int))), some (.int (1 + (n0 : Int))), some (.int pick), some (rowF rs), some (rowF cs), o7, o8, o9, none, none, none]
  refine seq_via (P 20) (fun N hN => ?_) (fun ρ S5 ⟨hb5, f5, rs, cs, o7, o8, o9, l1, l2, b1, b2, eρ⟩ => ?_)
  · simp [-compL_cons, -sSeq_ev, -forL_cons]
    split
    · skip
      refine ⟨by omega, milI (by omega), ?_⟩
      rw [show (1 + (m0 : Int)).toNat = m0 + 1 by omega]
      refine compL_inv (fun acc S' => BoxAt S' b c ∧ Fr S S' b c ∧ ∃ r : List Int, acc = r.map F.int ∧ inB 20 r) _ _ _ (fun _ _ _ => trivial)
        (fun x hx acc S6 Q6 ⟨hb6, f6, r, er, hr⟩ q6 => ?_) ⟨hb4, f14, [], rfl, fun x hx => absurd hx List.not_mem_nil⟩ (fun acc S7 ⟨hb7, f7, r, er, hr⟩ hlen => ?_)
      · simp [-sSeq_ev, -compL_cons, -forL_cons]
        refine call_draw hb6 (by omega) (by omega) fun e S8 he hb8 f8 => ?_
        refine q6 _ _ ⟨hb8, f6.trans f8, r ++ [(e : Int)], by simp [er], fun x hx => ?_⟩
        rcases List.mem_append.mp hx with h | h
        · exact hr x h
        · rw [List.mem_singleton.mp h]; omega
      · subst er
        exact hN _ _ ⟨hb7, f7, r, cs, _, _, _, by simpa using hlen, lc, hr, c1.mono (by omega), rfl⟩
    · exact hN _ _ ⟨hb4, f14, rs, cs, _, _, _, lr, lc, r1.mono (by omega), c1.mono (by omega), rfl⟩
  subst eρ
  refine seq_via (P 21) (fun N hN => ?_) (fun ρ S6 ⟨hb6, f6, rs, cs, o7, o8, o9, l1, l2, b1, b2, eρ⟩ => ?_)
  · simp [-compL_cons, -sSeq_ev, -forL_cons]
    split
    · walk_at "nx"
      refine call_draw hb5 (by omega) (by omega) fun i S7 hi hb7 f7 => ?_
      skip
      refine call_draw hb7 (by omega) (by omega) fun k S8 hk hb8 f8 => ?_
      simp [-compL_cons, -sSeq_ev, -forL_cons, rowF]
      rw [enumL_rng]
      refine ⟨by rw [List.length_map, List.length_range]; exact mil (by omega), ?_⟩
      refine compL_mapT (fun a : Nat => F.tup [.int ((0 + a : Nat) : Int), .int (rs.getD a 0)]) (fun a : Nat => .int (rs.getD a 0 + (if a = i then 1 else 0) - if a = k ∧ 0 < rs.getD a 0 then 1 else 0)) trivial _ _ (fun a ha Q2 q2 => ?_) ?_
      · simp [-List.getD_eq_getElem?_getD]
        exact ite_shift (R := fun v => Q2 v S8) q2
      · obtain ⟨g1, g2⟩ := shift_ok b1 i k
        rw [List.nil_append]
        refine hN _ _ ⟨hb8, f5.trans (f7.trans f8), shift i k rs, cs, some (.int i), some (.int k), o9, by omega, l2, g2, b2.mono (by omega), ?_⟩
        rw [shift, rowF, List.map_map]
        rfl
    · exact hN _ _ ⟨hb5, f5, rs, cs, _, _, _, l1, l2, b1.mono (by omega), b2.mono (by omega), rfl⟩
  subst eρ
  refine seq_via (P 22) (fun N hN => ?_) (fun ρ S7 ⟨hb7, f7, rs, cs, o7, o8, o9, l1, l2, b1, b2, eρ⟩ => ?_)
  · have skip : ∀ S', BoxAt S' b c → Fr S S' b c → N [some (.loc b), some (.int side), some (.int (1 + (m0 : Int))), some (.int (1 + (n0 : Int))), some (.int pick), some (rowF rs), some (rowF cs), o7, o8, o9, none, none, none] S' := fun S' h1 h2 =>
      hN _ _ ⟨h1, h2, rs, cs, _, _, _, l1, l2, b1.mono (by omega), b2.mono (by omega), rfl⟩
    simp [-compL_cons, -sSeq_ev, -forL_cons]
    split
    · refine call_draw hb6 (by omega) (by omega) fun u S8 hu hb8 f8 => ?_
      simp [-compL_cons, -sSeq_ev, -forL_cons]
      split
      · walk_at "nx"
        refine call_draw hb8 (by omega) (by omega) fun i S9 hi hb9 f9 => ?_
        refine call_draw hb9 (by omega) (by omega) fun k S10 hk hb10 f10 => ?_
        simp [-compL_cons, -sSeq_ev, -forL_cons, rowF]
        rw [enumL_rng]
        refine ⟨by rw [List.length_map, List.length_range]; exact mil (by omega), ?_⟩
        refine compL_mapT (fun a : Nat => F.tup [.int ((0 + a : Nat) : Int), .int (cs.getD a 0)]) (fun a : Nat => .int (cs.getD a 0 + (if a = i then 1 else 0) - if a = k ∧ 0 < cs.getD a 0 then 1 else 0)) trivial _ _ (fun a ha Q2 q2 => ?_) ?_
        · simp [-List.getD_eq_getElem?_getD]
          exact ite_shift (R := fun v => Q2 v S10) q2
        · obtain ⟨g1, g2⟩ := shift_ok b2 i k
          rw [List.nil_append]
          refine hN _ _ ⟨hb10, ((f6.trans f8).trans f9).trans f10, rs, shift i k cs, o7, some (.int k), some (.int i), l1, by omega, b1.mono (by omega), g2, ?_⟩
          rw [shift, rowF, rowF, List.map_map]
          rfl
      · exact skip _ hb8 (f6.trans f8)
    · exact skip _ hb6 f6
  subst eρ
  simp
  exact q rs cs S7 (by omega) (by omega) (by omega) (by omega) (b1.mono (by omega)) (b2.mono (by omega)) hb7 f7
end DL

set_option maxHeartbeats 4000000
namespace DL
open PySem PySem.Spec PyProof.Rows L2
local macro_rules | `(tactic| walk_at "nx") => `(tactic| ((try dsimp only); rw [sSeq_ev]; (try simp [-sSeq_ev, -compL_cons, -forL_cons])))
/-! bending, the other way of the laws -/
def W_bentZrest (c__law_draw : Ct) : WS :=
    (sSeq (sIf (bOr (wTst (wIsi "bool" (wVar 1))) (wTst (wOp oIs (wVar 1) (wC .non)))) (sRet (wOp oIx (wFrz (wLst (wCons (wC (.int 0)) (wCons (wC (.int 1)) (wCons (wTup wNil) (wCons (wC (.str ("a" : Str))) wNil)))))) (wCall c__law_draw (wCons (wVar 0) (wCons (wC (.int 4)) wNil))))) sNext)
    (sSeq (sIf (wTst (wIsi "int" (wVar 1))) (sRet (wOp oIx (wFrz (wLst (wCons (wOp oAdd (wVar 1) (wC (.int 1))) (wCons (wOp oSub (wVar 1) (wC (.int 1))) (wCons (wOp oEq (wVar 1) (wC (.int 1))) (wCons (wC .non) (wCons (wOp oMul (wC (.int 2)) (wVar 1)) (wCons (wCall cStr (wCons (wVar 1) wNil)) (wCons (wTup (wCons (wVar 1) wNil)) (wCons (wC (.int 1000001)) wNil)))))))))) (wCall c__law_draw (wCons (wVar 0) (wCons (wC (.int 8)) wNil))))) sNext)
    (sSeq (sIf (wTst (wIsi "str" (wVar 1))) (sRet (wOp oIx (wFrz (wLst (wCons (wOp oAdd (wVar 1) (wC (.str ("1" : Str)))) (wCons (wSl (wVar 1) (wPart (wC (.int 1))) wNoPart) (wCons (wC .non) (wCons (wC (.int 0)) (wCons (wUpper (wVar 1)) (wCons (wTup (wCons (wVar 1) wNil)) (wCons (wC (.str ("any" : Str))) (wCons (wOp oAdd (wC (.str (" " : Str))) (wVar 1)) wNil)))))))))) (wCall c__law_draw (wCons (wVar 0) (wCons (wC (.int 8)) wNil))))) sNext)
    (sRet (wOp oIx (wFrz (wLst (wCons (wOp oAdd (wVar 1) (wSl (wVar 1) (wPart (wNeg (wC (.int 1)))) wNoPart)) (wCons (wSl (wVar 1) (wPart (wC (.int 1))) wNoPart) (wCons (wSl (wVar 1) wNoPart (wPart (wNeg (wC (.int 1))))) (wCons (wRev (wVar 1)) (wCons (wC .non) (wCons (wTup (wCons (wVar 1) wNil)) (wCons (wOp oAdd (wVar 1) (wTup (wCons (wC (.int 0)) wNil))) (wCons (wTup wNil) wNil)))))))))) (wCall c__law_draw (wCons (wVar 0) (wCons (wC (.int 8)) wNil))))))))
def W_bentZ (c__law_draw : Ct) (c__law_bent : Ct) : WS :=
  (sSeq (sIf (bAnd (wTst (wIsi "tuple" (wVar 1))) (bAnd (wTst (wOp oGt (wCall cLen (wCons (wVar 1) wNil)) (wC (.int 0)))) (wTst (wOp oGt (wCall c__law_draw (wCons (wVar 0) (wCons (wC (.int 5)) wNil))) (wC (.int 0)))))) (sSeq (sAsg (wCall c__law_draw (wCons (wVar 0) (wCons (wCall cLen (wCons (wVar 1) wNil)) wNil))) (gN 2))
    (sRet (wOp oAdd (wOp oAdd (wSl (wVar 1) wNoPart (wPart (wVar 2))) (wTup (wCons (wCall c__law_bent (wCons (wVar 0) (wCons (wOp oIx (wVar 1) (wVar 2)) wNil))) wNil))) (wSl (wVar 1) (wPart (wOp oAdd (wVar 2) (wC (.int 1)))) wNoPart)))) sNext)
    (W_bentZrest c__law_draw))
def zAtom : F → Bool
  | .non => true
  | .bl _ => true
  | .int i => decide (i.natAbs ≤ 1000000)
  | .str x => decide (x.length ≤ 100) && PyData.strOk x && PyData.strOk (x ++ ("1" : Str)) && PyData.strOk (cutS x (some 1) none) && PyData.strOk (Txt.upper x) && PyData.strOk ((" " : Str) ++ x)
  | _ => false
theorem zAtom_str {x : Str} (h : zAtom (.str x) = true) : x.length ≤ 100 ∧ PyData.strOk x = true ∧ PyData.strOk (x ++ ("1" : Str)) = true ∧ PyData.strOk (cutS x (some 1) none) = true ∧ PyData.strOk (Txt.upper x) = true ∧ PyData.strOk ((" " : Str) ++ x) = true := by
  unfold zAtom at h
  simp only [Bool.and_eq_true, decide_eq_true_eq] at h
  obtain ⟨⟨⟨⟨⟨h1, h2⟩, h3⟩, h4⟩, h5⟩, h6⟩ := h
  exact ⟨h1, h2, h3, h4, h5, h6⟩
def zOk : Nat → F → Prop
  | 0, v => zAtom v = true
  | n + 1, v => zAtom v = true ∨ ∃ xs, v = .tup xs ∧ xs.length ≤ 100000 ∧ ∀ x ∈ xs, zOk n x
theorem zAtom_fz {v : F} (h : zAtom v = true) : fz v = true := by
  cases v <;> first | rfl | exact (zAtom_str h).2.1 | cases h
theorem zAtom_dep {v : F} (h : zAtom v = true) : dep v = 0 := by
  cases v <;> first | rfl | cases h
theorem zOk_fz : ∀ {n : Nat} {v : F}, zOk n v → fz v = true ∧ dep v ≤ n
  | 0, v, h => ⟨zAtom_fz h, Nat.le_of_eq (zAtom_dep h)⟩
  | n + 1, v, h => by
    rcases h with h | ⟨xs, rfl, h1, h2⟩
    · exact ⟨zAtom_fz h, by rw [zAtom_dep h]; omega⟩
    · exact ⟨fz_tup_of (by omega) fun x hx => (zOk_fz (h2 x hx)).1, dep_tup fun x hx => (zOk_fz (h2 x hx)).2⟩
theorem zOk_atom {n : Nat} {v : F} (h : zAtom v = true) : zOk n v := by
  cases n with
  | zero => exact h
  | succ n => exact .inl h
theorem zOk_tup {n : Nat} {xs : List F} (h : xs.length ≤ 100000) (k : ∀ x ∈ xs, zOk n x) : zOk (n + 1) (.tup xs) := .inr ⟨xs, rfl, h, k⟩
theorem zOk_mono : ∀ {n : Nat} {v : F}, zOk n v → zOk (n + 1) v
  | 0, v, h => .inl h
  | n + 1, v, h => by
    rcases h with h | ⟨xs, rfl, h1, h2⟩
    · exact .inl h
    · exact .inr ⟨xs, rfl, h1, fun x hx => zOk_mono (h2 x hx)⟩
theorem zOk_row {r : List Int} {n : Nat} (hl : r.length ≤ 100000) (h : ∀ x ∈ r, x.natAbs ≤ 1000000) : zOk (n + 1) (rowF r) := zOk_tup (by rw [List.length_map]; exact hl) fun x hx => by
  obtain ⟨i, hi, rfl⟩ := List.mem_map.mp hx
  exact zOk_atom (decide_eq_true (h i hi))
theorem zOk_cases {n : Nat} {v : F} (h : zOk n v) : zAtom v = true ∨ ∃ k xs, n = k + 1 ∧ v = .tup xs ∧ xs.length ≤ 100000 ∧ ∀ x ∈ xs, fz x = true ∧ dep x ≤ k := by
  cases n with
  | zero => exact .inl h
  | succ n =>
    rcases h with h | ⟨xs, rfl, h1, h2⟩
    · exact .inl h
    · exact .inr ⟨n, xs, rfl, rfl, h1, fun x hx => zOk_fz (h2 x hx)⟩
def C_bentZ (n : Nat) : Ct := fun xs S Q => ∃ b c v, xs = [.loc b, v] ∧ BoxAt S b c ∧ zOk n v ∧ ∀ v' S', fz v' = true → dep v' ≤ n + 1 → BoxAt S' b c → Fr S S' b c → Q v' S'
theorem mono_C_bentZ {n : Nat} : MonoC (C_bentZ n) := fun xs S Q Q' k ⟨b, c, v, e, h1, h2, q⟩ => ⟨b, c, v, e, h1, h2, fun v' S' h1 h4 h2 h3 => k _ _ (q v' S' h1 h4 h2 h3)⟩
theorem call_bentZ {n : Nat} {b c : Addr} {S : Sto} {Q : F → Sto → Prop} {v : F} (h : BoxAt S b c) (hv : zOk n v) (q : ∀ v' S', fz v' = true → dep v' ≤ n + 1 → BoxAt S' b c → Fr S S' b c → Q v' S') : C_bentZ n [.loc b, v] S Q := ⟨b, c, v, rfl, h, hv, q⟩
theorem bentZ_rest {D : EndsD} {b c : Addr} {v : F} {o2 : Option F} {S1 : Sto} {n : Nat} (hb : BoxAt S1 b c) (hv : zOk n v) (q : ∀ v' S', fz v' = true → dep v' ≤ n + 1 → BoxAt S' b c → Fr S1 S' b c → D.rt v' S') :
    W_bentZrest C_draw D [some (.loc b), some v, o2] S1 := by
  unfold W_bentZrest
  have dr : ∀ (m : Nat) (Q : F → Sto → Prop) , 0 < m → m ≤ 8 → (∀ (d : Nat) S', d < m → (∀ v', fz v' = true ∧ dep v' ≤ n + 1 → D.rt v' S') → Q (.int d) S') → C_draw [.loc b, .int m] S1 Q := fun m Q h1 h2 k =>
    call_draw hb (by omega) (by omega) fun d S2 hd hb2 f2 => k d S2 (by omega) fun v' h => q v' S2 h.1 h.2 hb2 f2
  rcases zOk_cases hv with ha | ⟨k, xs, rfl, rfl, h1, h2⟩
  · cases v with
    | non =>
      walk_at "nx"
      refine dr 4 _ (by decide) (by decide) fun d S2 hd fin => ?_
      refine oIx_mem (by simpa using hd) fun z hz => fin z ?_
      simp at hz
      rcases hz with rfl | rfl | rfl | rfl <;> exact ⟨by decide +kernel, Nat.le_trans (show _ ≤ 1 by decide +kernel) (by omega)⟩
    | bl x =>
      walk_at "nx"
      refine dr 4 _ (by decide) (by decide) fun d S2 hd fin => ?_
      refine oIx_mem (by simpa using hd) fun z hz => fin z ?_
      simp at hz
      rcases hz with rfl | rfl | rfl | rfl <;> exact ⟨by decide +kernel, Nat.le_trans (show _ ≤ 1 by decide +kernel) (by omega)⟩
    | int i =>
      have hi : i.natAbs ≤ 1000000 := of_decide_eq_true ha
      have l1 := one_ok (v := .int i) (n := n) rfl (Nat.zero_le _)
      walk_at "nx"
      walk_at "nx"
      refine ⟨mulOk_r (by omega), log_small hi, ?_⟩
      refine dr 8 _ (by decide) (by decide) fun d S2 hd fin => ?_
      refine oIx_mem (by simpa using hd) fun z hz => fin z ?_
      simp at hz
      rcases hz with rfl | rfl | rfl | rfl | rfl | rfl | rfl | rfl <;> first | exact l1 | exact ⟨rfl, Nat.zero_le _⟩ | exact ⟨fz_toStr i, Nat.zero_le _⟩
    | str x =>
      obtain ⟨a1, a2, a3, a4, a5, a6⟩ := zAtom_str ha
      have l1 := one_ok (v := .str x) (n := n) a2 (Nat.zero_le _)
      walk_at "nx"
      walk_at "nx"
      walk_at "nx"
      refine ⟨mil (by have := (by decide : ("1" : Str).length = 1); omega), mil (by omega), by omega, mil (by have := (by decide : (" " : Str).length = 1); omega), ?_⟩
      refine dr 8 _ (by decide) (by decide) fun d S2 hd fin => ?_
      refine oIx_mem (by simpa using hd) fun z hz => fin z ?_
      simp at hz
      rcases hz with rfl | rfl | rfl | rfl | rfl | rfl | rfl | rfl <;> first | exact l1 | exact ⟨a3, Nat.zero_le _⟩ | exact ⟨a4, Nat.zero_le _⟩ | exact ⟨a5, Nat.zero_le _⟩ | exact ⟨a6, Nat.zero_le _⟩ | exact ⟨rfl, Nat.zero_le _⟩ | exact ⟨by decide +kernel, Nat.zero_le _⟩
    | _ => cases ha
  · have l1 := cut_length xs none (some 1)
    have ok : ∀ l : List F, l.length ≤ 1000000 → (∀ x ∈ l, fz x = true ∧ dep x ≤ k) → fz (.tup l) = true ∧ dep (.tup l) ≤ k + 1 + 1 := fun l a1 a2 =>
      ⟨fz_tup_of a1 fun x hx => (a2 x hx).1, Nat.le_trans (dep_tup fun x hx => (a2 x hx).2) (by omega)⟩
    have cutOk : ∀ lo hi, fz (.tup (cut xs lo hi)) = true ∧ dep (.tup (cut xs lo hi)) ≤ k + 1 + 1 := fun lo hi => ok _ (Nat.le_trans (cut_length ..) (by omega)) fun x hx => h2 x (cut_mem hx)
    have app : ∀ l r : List F, l.length ≤ 100000 → r.length ≤ 100000 → (∀ x ∈ l, fz x = true ∧ dep x ≤ k) → (∀ x ∈ r, fz x = true ∧ dep x ≤ k) → fz (.tup (l ++ r)) = true ∧ dep (.tup (l ++ r)) ≤ k + 1 + 1 := fun l r a1 a2 a3 a4 =>
      ok _ (by rw [List.length_append]; omega) fun x hx => (List.mem_append.mp hx).elim (a3 x) (a4 x)
    have c1 := cut_length xs (some (-1)) none
    have one : fz (.tup [.tup xs]) = true ∧ dep (.tup [.tup xs]) ≤ k + 1 + 1 := one_ok (fz_tup_of (by omega) fun x hx => (h2 x hx).1) (dep_tup fun x hx => (h2 x hx).2)
    walk_at "nx"
    walk_at "nx"
    walk_at "nx"
    refine ⟨mil (by omega), mil (by omega), ?_⟩
    refine dr 8 _ (by decide) (by decide) fun d S2 hd fin => ?_
    refine oIx_mem (by simpa using hd) fun z hz => fin z ?_
    simp at hz
    rcases hz with rfl | rfl | rfl | rfl | rfl | rfl | rfl | rfl
    · exact app _ _ h1 (by omega) h2 fun x hx => h2 x (cut_mem hx)
    · exact cutOk _ _
    · exact cutOk _ _
    · exact ok _ (by rw [List.length_reverse]; omega) fun x hx => h2 x (List.mem_reverse.mp hx)
    · exact ⟨rfl, Nat.zero_le _⟩
    · exact one
    · exact app _ _ h1 (by simp) h2 fun x hx => by rw [List.mem_singleton.mp hx]; exact ⟨rfl, Nat.zero_le _⟩
    · exact ok [] (by simp) fun x hx => absurd hx List.not_mem_nil
theorem sp_bentZ0 (fs : List F) (S : Sto) (Q) (h : C_bentZ 0 fs S Q) : fs.length = 2 ∧ W_bentZ C_draw C_never { nx := fun _ S' => Q .non S', rt := fun d S' => Q d S' } (startF 3 fs) S := by
  obtain ⟨b, c, v, rfl, hb, hv, q⟩ := h
  refine ⟨rfl, ?_⟩
  show W_bentZ _ _ _ [some (.loc b), some v, none] S
  have := bentZ_rest (D := { nx := fun _ S' => Q .non S', rt := fun d S' => Q d S' }) (o2 := none) hb hv q
  unfold W_bentZ
  rw [sSeq_ev]
  have hv : zAtom v = true := hv
  cases v with
  | non => simpa [-sSeq_ev] using this
  | bl x => simpa [-sSeq_ev] using this
  | int i => simpa [-sSeq_ev] using this
  | str x => simpa [-sSeq_ev] using this
  | _ => cases hv
theorem sp_bentZ (n : Nat) (fs : List F) (S : Sto) (Q) (h : C_bentZ (n + 1) fs S Q) : fs.length = 2 ∧ W_bentZ C_draw (C_bentZ n) { nx := fun _ S' => Q .non S', rt := fun d S' => Q d S' } (startF 3 fs) S := by
  obtain ⟨b, c, v, rfl, hb, hv, q⟩ := h
  refine ⟨rfl, ?_⟩
  show W_bentZ _ _ _ [some (.loc b), some v, none] S
  have rest : ∀ S1, BoxAt S1 b c → Fr S S1 b c → W_bentZrest C_draw { nx := fun _ S' => Q .non S', rt := fun d S' => Q d S' } [some (.loc b), some v, none] S1 := fun S1 h1 f1 =>
    bentZ_rest h1 hv fun v' S' a1 a4 a2 a3 => q v' S' a1 a4 a2 (f1.trans a3)
  unfold W_bentZ
  rw [sSeq_ev]
  have hv' : zAtom v = true ∨ ∃ xs, v = .tup xs ∧ xs.length ≤ 100000 ∧ ∀ x ∈ xs, zOk n x := hv
  rcases hv' with ha | ⟨xs, rfl, h1, h2⟩
  · cases v with
    | non => simpa [-sSeq_ev] using rest S hb Fr.refl
    | bl x => simpa [-sSeq_ev] using rest S hb Fr.refl
    | int i => simpa [-sSeq_ev] using rest S hb Fr.refl
    | str x => simpa [-sSeq_ev] using rest S hb Fr.refl
    | _ => cases ha
  · by_cases h0 : 0 < xs.length
    · have h0' : (0 : Int) < xs.length := by omega
      simp [-sSeq_ev, h0]
      refine call_draw hb (by decide) (by decide) fun d S1 hd hb1 f1 => ?_
      simp [-sSeq_ev]
      split
      · rename_i hd0
        rw [sSeq_ev]
        simp
        refine call_draw hb1 h0' (by omega) fun at' S2 ha hb2 f2 => ?_
        have hat : at' < xs.length := by omega
        have e1 : xs[at']? = some xs[at'] := List.getElem?_eq_getElem hat
        simp [atI_cast, e1]
        refine call_bentZ hb2 (h2 _ (List.getElem_mem hat)) fun v' S3 hz hdz hb3 f3 => ?_
        have l1 := cut_length xs none (some (at' : Int))
        have l2 := cut_length xs (some ((at' : Int) + 1)) none
        have hxs : ∀ x ∈ xs, fz x = true ∧ dep x ≤ n := fun x hx => zOk_fz (h2 x hx)
        simp [set_cutF _ hat]
        refine ⟨mil (by omega), mil (by omega), q _ S3 ?_ ?_ hb3 ((f1.trans f2).trans f3)⟩
        · unfold fz
          rw [fz_set (fzL_of fun x hx => (hxs x hx).1) hz, List.length_set, Bool.and_true]
          exact decide_eq_true (by omega)
        · refine Nat.le_trans (dep_tup (n := n + 1) fun x hx => ?_) (by omega)
          rcases List.mem_or_eq_of_mem_set hx with h | h
          · have := (hxs x h).2
            omega
          · rw [h]
            exact hdz
      · exact rest S1 hb1 f1
    · simpa [-sSeq_ev, h0] using rest S hb Fr.refl
section
variable {P : Program} {w : World} {K : PySem.W.Frag} {mg : Str → Option Value} {base : Heap}
theorem bentZ_cal {params : Arguments} {body : List Stmt} {scope : Scope} {f : Addr} {fd : FuncData}
    (ok : ∀ (lv : Nat), 2 ≤ lv → ∀ {Crec C : Ct}, Cal P w K mg base lv "_law_bent" ["box", "value"] Crec → MonoC C → (∀ fs S Q, C fs S Q → fs.length = 2 ∧ W_bentZ C_draw Crec { nx := fun _ S' => Q .non S', rt := fun d S' => Q d S' } (startF 3 fs) S) → FnD P w K mg base (lv + 1) f fd ["box", "value"] C)
    (F : FunD K "_law_bent" "_law_bent" params body scope [] [] f fd) (g : mg "_law_bent" = some (.ref f)) (b : L2.Binds K fd ["box", "value"] []) : ∀ n, Cal P w K mg base (n + 3) "_law_bent" ["box", "value"] (C_bentZ n)
  | 0 => cal_of F g b (ok 2 (Nat.le_refl 2) (cal_never_at 2 F g b) mono_C_bentZ sp_bentZ0)
  | n + 1 => cal_of F g b (ok (n + 3) (by omega) (bentZ_cal ok F g b n) mono_C_bentZ (sp_bentZ n))
end
end DL

set_option maxHeartbeats 4000000
namespace DL
open PySem PySem.Spec PyProof.Rows L2
local macro_rules | `(tactic| walk_at "nx") => `(tactic| ((try dsimp only); rw [sSeq_ev]; (try simp [-sSeq_ev, -compL_cons, -forL_cons])))
/-! told tables, short lists of plain values, walks that stop with False (of k07's texts) -/
def W_open_told : WS :=
  (sRet (wCall cTuple (wCons (wFrz (wComp [1] (wIt (wOp oIx (wVar 0) (wC (.int 0)))) (gN 1) wYes (wOp oMul (wTup (wCons (wC .non) wNil)) (wCall cLen (wCons (wOp oIx (wVar 0) (wC (.int 1))) wNil))))) wNil)))
def W_dominance_holds (c_conjugate : Ct) (c_sorted_down : Ct) (c_dominates : Ct) : WS :=
  (sSeq (sAsg (wVar 0) (gTup2 2 (gCons2 (gN 1) (gCons2 (gN 2) gNil2))))
    (sSeq (sIf (bOr (wTst (wOp oNe (wCall cSum (wCons (wVar 1) wNil)) (wCall cSum (wCons (wVar 2) wNil)))) (wTst (wOp oGt (wCall cMax1 (wCons (wVar 1) wNil)) (wCall cLen (wCons (wVar 2) wNil))))) (sRet (wC (.bl false))) sNext)
    (sRet (wCall c_dominates (wCons (wCall c_conjugate (wCons (wCall c_sorted_down (wCons (wVar 2) wNil)) wNil)) (wCons (wCall c_sorted_down (wCons (wVar 1) wNil)) wNil))))))
theorem forL_all {α : Type} {gd : Sto → Prop} {g : DG} {t : WS} {D : EndsD} {S : Sto} (e : α → F) (hgd : gd S) (I : Slots → Prop) (p : α → Bool) : ∀ (xs : List α) (ρ : Slots), I ρ →
    (∀ x, x ∈ xs → ∀ (ρ : Slots) (N : Slots → Sto → Prop), I ρ → (p x = true → ∀ ρ', I ρ' → N ρ' S) → (p x = false → D.rt (.bl false) S) → g (e x) ρ S fun ρ1 S1 => t { nx := N, rt := D.rt, bk := D.nx, ct := N, ex := D.ex } ρ1 S1) →
    (xs.all p = true → ∀ ρ', I ρ' → D.nx ρ' S) → (xs.all p = false → D.rt (.bl false) S) → forL gd g t (xs.map e) D ρ S
  | [], ρ, hi, _, h1, _ => ⟨hgd, h1 rfl ρ hi⟩
  | x :: r, ρ, hi, hs, h1, h2 => ⟨hgd, hs x (List.mem_cons_self ..) ρ _ hi (fun hp ρ' hi' => forL_all e hgd I p r ρ' hi' (fun y hy => hs y (List.mem_cons_of_mem _ hy)) (fun h => h1 (by rw [List.all_cons, hp, h]; rfl)) (fun h => h2 (by rw [List.all_cons, hp, h]; rfl)))
    (fun hp => h2 (by rw [List.all_cons, hp]; rfl))⟩
def cF : Option Int → F
  | none => .non
  | some i => .int i
abbrev Td := List (List (Option Int))
def trF (r : List (Option Int)) : F := .tup (r.map cF)
def tdF (d : Td) : F := .tup (d.map trF)
def C_open_told : Ct := fun xs S Q => ∃ rs cs : List Int, xs = [.tup [rowF rs, rowF cs]] ∧ rs.length ≤ 1000 ∧ cs.length ≤ 1000 ∧ Q (tdF (List.replicate rs.length (List.replicate cs.length none))) S
theorem mono_C_open_told : MonoC C_open_told := fun xs S Q Q' k ⟨r, c, e, h1, h2, q⟩ => ⟨r, c, e, h1, h2, k _ _ q⟩
theorem sp_open_told (fs : List F) (S : Sto) (Q) (h : C_open_told fs S Q) : fs.length = 1 ∧ W_open_told { nx := fun _ S' => Q .non S', rt := fun d S' => Q d S' } (startF 2 fs) S := by
  obtain ⟨rs, cs, rfl, h1, h2, q⟩ := h
  refine ⟨rfl, ?_⟩
  show W_open_told _ [some (.tup [rowF rs, rowF cs]), none] S
  unfold W_open_told
  simp [rowF, -compL_cons]
  refine ⟨mil (by omega), ?_⟩
  refine compL_mapT F.int (fun _ => trF (List.replicate cs.length none)) trivial rs _ (fun x hx Q2 q2 => ?_) ?_
  · simp
    refine ⟨⟨by omega, mil (by omega)⟩, ?_⟩
    simpa [trF, cF] using q2
  · rw [List.nil_append]
    have e : rs.map (fun _ => trF (List.replicate cs.length none)) = (List.replicate rs.length (List.replicate cs.length none)).map trF := by
      rw [List.map_replicate, List.map_const']
    simpa [e, tdF] using q
def tcell (d : Td) (i j : Nat) : Option Int := (d.getD i []).getD j none
def tcel (t : Tb) (i j : Nat) : Int := (t.getD i []).getD j 0
def okc : Option Int → Int → Bool
  | none, _ => true
  | some v, x => decide (x = v)
structure TdR (d : Td) (m n : Nat) : Prop where
  len : d.length = m
  row : ∀ r ∈ d, r.length = n
theorem td_ix {d : Td} {m n i j : Nat} (h : TdR d m n) (hi : i < m) (hj : j < n) (S : Sto) (Q : F → Sto → Prop) : oIx (tdF d) (.int (i : Int)) S (fun x S1 => oIx x (.int (j : Int)) S1 Q) = Q (cF (tcell d i j)) S := by
  have hl := h.len
  have e1 : d[i]? = some d[i] := List.getElem?_eq_getElem (by omega)
  have hr := h.row d[i] (List.getElem_mem (by omega))
  have e2 : d[i][j]? = some d[i][j] := List.getElem?_eq_getElem (by omega)
  have a1 : atI (d.map trF) (i : Int) = some (trF d[i]) := by rw [atI_cast, List.getElem?_map, e1]; rfl
  have a2 : atI (d[i].map cF) (j : Int) = some (cF d[i][j]) := by rw [atI_cast, List.getElem?_map, e2]; rfl
  have ev : tcell d i j = d[i][j] := by
    unfold tcell
    rw [List.getD_eq_getElem?_getD (l := d), e1]
    show d[i].getD j none = _
    rw [List.getD_eq_getElem?_getD, e2]
    rfl
  simp [tdF, a1]
  simp [trF, a2, ev]
theorem tb_ix {t : Tb} {m n i j : Nat} (h : Rect t m n) (hi : i < m) (hj : j < n) (S : Sto) (Q : F → Sto → Prop) : oIx (tabF t) (.int (i : Int)) S (fun x S1 => oIx x (.int (j : Int)) S1 Q) = Q (.int (tcel t i j)) S := by
  have hl := h.len
  have h1 : i < t.length := by omega
  have h2 : t[i]? = some t[i] := List.getElem?_eq_getElem h1
  have h3 : j < t[i].length := by rw [h.row _ (List.getElem_mem h1)]; exact hj
  have h4 : t[i][j]? = some t[i][j] := List.getElem?_eq_getElem h3
  rw [ix_tab h2, ix_row h4]
  unfold tcel
  simp [List.getD, h2, h4]
theorem td_row {d : Td} {m n i : Nat} (h : TdR d m n) (hi : i < m) : ∃ r : List (Option Int), r.length = n ∧ ∀ (S : Sto) (Q : F → Sto → Prop), oIx (tdF d) (.int (i : Int)) S Q = Q (trF r) S := by
  have hl := h.len
  have e1 : d[i]? = some d[i] := List.getElem?_eq_getElem (by omega)
  have a1 : atI (d.map trF) (i : Int) = some (trF d[i]) := by rw [atI_cast, List.getElem?_map, e1]; rfl
  exact ⟨d[i], h.row d[i] (List.getElem_mem (by omega)), fun S Q => by simp [tdF, a1]⟩
def C_dominance_holds : Ct := fun xs S Q => ∃ rs cs : List Int, xs = [.tup [rowF rs, rowF cs]] ∧ 1 ≤ rs.length ∧ rs.length ≤ 1000 ∧ cs.length ≤ 1000 ∧ inB 1000 rs ∧ inB 1000 cs ∧ Q (.bl (domH rs cs)) S
theorem mono_C_dominance_holds : MonoC C_dominance_holds := fun xs S Q Q' k ⟨r, c, e, h1, h2, h3, h4, h5, q⟩ => ⟨r, c, e, h1, h2, h3, h4, h5, k _ _ q⟩
theorem srtD_len (l : List Int) : (srtD l).length ≤ l.length := by
  unfold srtD
  rw [srt_len]
  exact List.length_filter_le ..
theorem srtD_head {l : List Int} (h : inB 1000 l) : 0 ≤ (srtD l).headD 0 ∧ (srtD l).headD 0 ≤ 1000 := by
  cases e : srtD l with
  | nil => exact ⟨Int.le_refl _, by decide⟩
  | cons x r =>
    have : x ∈ srtD l := by rw [e]; exact List.mem_cons_self ..
    have := h x (List.mem_filter.mp ((srt_perm _).mem_iff.mp this)).1
    exact this
theorem sp_dominance_holds (fs : List F) (S : Sto) (Q) (h : C_dominance_holds fs S Q) : fs.length = 1 ∧ W_dominance_holds C_conjugate C_sorted_down C_dominates { nx := fun _ S' => Q .non S', rt := fun d S' => Q d S' } (startF 3 fs) S := by
  obtain ⟨rs, cs, rfl, h1, h2, h3, h4, h5, q⟩ := h
  refine ⟨rfl, ?_⟩
  show W_dominance_holds _ _ _ _ [some (.tup [rowF rs, rowF cs]), none, none] S
  unfold W_dominance_holds
  walk_at "nx"
  walk_at "nx"
  have hd := srtD_head h5
  by_cases c1 : rs.sum = cs.sum
  · simp [rowF, c1, -sSeq_ev, -cMax1]
    refine cMax1_t (fun e => by rw [e] at h1; cases h1) fun M hM hmax => ?_
    simp [-sSeq_ev]
    by_cases c2 : M ≤ cs.length
    · rw [if_neg (by omega)]
      have e : domH rs cs = domB (conj (srtD cs)) (srtD rs) := by
        unfold domH
        rw [decide_eq_true c1, Bool.true_and, List.all_eq_true.mpr fun x hx => decide_eq_true (by have := hmax x hx; omega), Bool.true_and]
      rw [e] at q
      refine ⟨cs, rfl, h3, fun ms k1 k2 => ?_⟩
      have e1 : ms = srtD cs := srt_of k1 k2
      subst e1
      have := srtD_len cs
      refine ⟨srtD cs, rfl, by omega, hd.1, hd.2, ?_⟩
      refine ⟨rs, rfl, h2, fun ms k1 k2 => ?_⟩
      have e1 : ms = srtD rs := srt_of k1 k2
      subst e1
      have := srtD_len rs
      exact ⟨_, _, rfl, by rw [conj_len]; omega, by omega, q⟩
    · rw [if_pos (by omega)]
      have e : domH rs cs = false := by
        cases e : domH rs cs with
        | false => rfl
        | true =>
          unfold domH at e
          rw [Bool.and_eq_true, Bool.and_eq_true] at e
          exact absurd (of_decide_eq_true (List.all_eq_true.mp e.1.2 M hM)) c2
      rw [e] at q
      exact q
  · have e : domH rs cs = false := by unfold domH; rw [decide_eq_false c1, Bool.false_and, Bool.false_and]
    rw [e] at q
    simpa [rowF, c1] using q
theorem eqF_two (a b c d : List Int) : eqF (.tup [rowF a, rowF b]) (.tup [rowF c, rowF d]) = (decide (a = c) && decide (b = d)) := by
  have e : ∀ x y z u : F, eqF (.tup [x, y]) (.tup [z, u]) = (eqF x z && eqF y u) := fun x y z u => by
    simp [eqF, py, pyL, PyData.eqv, PyData.eqvAll]
  rw [e, eqF_row, eqF_row]
theorem okF_two {a b : List Int} (h1 : a.length ≤ 1000) (h2 : b.length ≤ 1000) : okF (.tup [rowF a, rowF b]) = true := okF_rows (l := [a, b]) (by simp) fun r hr => by
  rcases List.mem_cons.mp hr with e | e
  · rw [e]; omega
  · rw [List.mem_singleton.mp e]; omega
theorem sum_set : ∀ (l : List Int) (j : Nat) (v : Int), j < l.length → (l.set j v).sum = l.sum - l.getD j 0 + v
  | [], _, _, h => absurd h (Nat.not_lt_zero _)
  | x :: l, 0, v, _ => by
    show (v :: l).sum = (x :: l).sum - x + v
    rw [List.sum_cons, List.sum_cons]
    omega
  | x :: l, j + 1, v, h => by
    have ih := sum_set l j v (by simpa using h)
    show (x :: l.set j v).sum = (x :: l).sum - l.getD j 0 + v
    rw [List.sum_cons, List.sum_cons, ih]
    omega
theorem setc_ne {t : Tb} {m n i j : Nat} (h : Tab t m n) (hi : i < m) (hj : j < n) {v : Int} (hv : v ≠ tcel t i j) : (setc t i j v).map List.sum ≠ t.map List.sum := fun e => by
  have hl := h.len
  have e1 : t[i]? = some t[i] := List.getElem?_eq_getElem (by omega)
  have hr := h.row t[i] (List.getElem_mem (by omega))
  have eg : t.getD i [] = t[i] := by rw [List.getD_eq_getElem?_getD, e1]; rfl
  have a := congrArg (fun l : List Int => l[i]?) e
  unfold setc at a
  rw [List.getElem?_map, List.getElem?_map, List.getElem?_set_self (by omega), e1, eg] at a
  have a : (t[i].set j v).sum = t[i].sum := Option.some.inj a
  rw [sum_set _ _ _ (by omega)] at a
  unfold tcel at hv
  rw [eg] at hv
  omega
def csum (n : Nat) (t : Tb) : List Int := (List.range n).map fun j => (t.map fun r => r.getD j 0).sum
theorem csum_turn (t : Tb) (n : Nat) : (turn t n).map List.sum = csum n t := by
  unfold turn csum
  rw [List.map_map]
  rfl
theorem csum_nn {n : Nat} : ∀ {t : Tb}, (∀ r ∈ t, ∀ x ∈ r, x = 0 ∨ x = 1) → ∀ x ∈ csum n t, 0 ≤ x := fun {t} h x hx => by
  obtain ⟨j, hj, rfl⟩ := List.mem_map.mp hx
  induction t with
  | nil => exact Int.le_refl _
  | cons r t ih =>
    rw [List.map_cons, List.sum_cons]
    have := ih (fun r hr => h r (List.mem_cons_of_mem _ hr)) (List.mem_map.mpr ⟨j, hj, rfl⟩)
    have hr := h r (List.mem_cons_self ..)
    have : 0 ≤ r.getD j 0 := by
      rw [List.getD_eq_getElem?_getD]
      by_cases c : j < r.length
      · rw [List.getElem?_eq_getElem c]
        have := hr _ (List.getElem_mem c)
        show 0 ≤ r[j]
        omega
      · rw [List.getElem?_eq_none (by omega)]
        exact Int.le_refl _
    omega
theorem csum_sub {n : Nat} {v : List Int} {t : Tb} (hv : v.length = n) : subV (csum n (v :: t)) v = csum n t := by
  rw [subV_get (by unfold csum; simp [hv])]
  unfold csum
  rw [List.length_map, List.length_range]
  refine List.map_congr_left fun j hj => ?_
  rw [List.getD_eq_getElem?_getD, List.getElem?_map, List.getElem?_range (List.mem_range.mp hj)]
  show ((v :: t).map fun r => r.getD j 0).sum - v.getD j 0 = _
  rw [List.map_cons, List.sum_cons]
  omega
theorem tab_fits {n : Nat} : ∀ {t : Tb}, (∀ r ∈ t, r.length = n) → (∀ r ∈ t, ∀ x ∈ r, x = 0 ∨ x = 1) → fits (csum n t) (t.map List.sum) t
  | [], _, _ => fun x hx => by
    obtain ⟨j, _, rfl⟩ := List.mem_map.mp hx
    rfl
  | v :: t, h1, h2 => by
    have hv := h1 v (List.mem_cons_self ..)
    have hb := h2 v (List.mem_cons_self ..)
    have g1 : ∀ r ∈ t, r.length = n := fun r hr => h1 r (List.mem_cons_of_mem _ hr)
    have g2 : ∀ r ∈ t, ∀ x ∈ r, x = 0 ∨ x = 1 := fun r hr => h2 r (List.mem_cons_of_mem _ hr)
    refine ⟨bitV_iff.mpr ⟨by unfold csum; simp [hv], hb, fun x hx => ?_⟩, rfl, ?_⟩
    · rw [csum_sub hv] at hx
      exact csum_nn g2 x hx
    · rw [csum_sub hv]
      exact tab_fits g1 g2
theorem tab_dom {t : Tb} {m n : Nat} (h : Tab t m n) : domH (t.map List.sum) ((turn t n).map List.sum) = true := by
  rw [csum_turn, domH_iff (fun x hx => (tab_row_sums h x hx).1) (fun x hx => csum_nn h.bit x hx)]
  exact ⟨t, tab_fits h.row h.bit⟩
theorem all_dom {rs cs : List Int} (h1 : ∀ x ∈ rs, 0 ≤ x) (h2 : ∀ x ∈ cs, 0 ≤ x) : decide (0 < ((allT rs cs).length : Int)) = domH rs cs := by
  rw [Bool.eq_iff_iff, decide_eq_true_eq, domH_iff h1 h2]
  constructor
  · intro h
    have : 0 < (allT rs cs).length := by omega
    obtain ⟨t, ht⟩ := List.exists_mem_of_length_pos this
    exact ⟨t, allT_mem.mp ht⟩
  · rintro ⟨t, ht⟩
    have := List.length_pos_of_mem (allT_mem.mpr ht)
    omega
theorem fzs_nil : ∀ x ∈ ([] : List F), fz x = true := fun x hx => absurd hx List.not_mem_nil
theorem fzs_cons {x : F} {l : List F} (h1 : fz x = true) (h2 : ∀ y ∈ l, fz y = true) : ∀ y ∈ x :: l, fz y = true := fun y hy => by
  rcases List.mem_cons.mp hy with e | e
  · rw [e]; exact h1
  · exact h2 y e
theorem fzs_app {l k : List F} (h1 : ∀ x ∈ l, fz x = true) (h2 : ∀ x ∈ k, fz x = true) : ∀ x ∈ l ++ k, fz x = true := fun x hx => (List.mem_append.mp hx).elim (h1 x) (h2 x)
theorem fzs_cut {l : List F} (h : ∀ x ∈ l, fz x = true) (a b : Option Int) : ∀ x ∈ cut l a b, fz x = true := fun x hx => h x (cut_mem hx)
theorem fzs_rev {l : List F} (h : ∀ x ∈ l, fz x = true) : ∀ x ∈ l.reverse, fz x = true := fun x hx => h x (List.mem_reverse.mp hx)
theorem fzs_int (r : List Int) : ∀ x ∈ r.map F.int, fz x = true := fun x hx => by
  obtain ⟨i, _, rfl⟩ := List.mem_map.mp hx
  rfl
theorem fzs_cF (r : List (Option Int)) : ∀ x ∈ r.map cF, fz x = true := fun x hx => by
  obtain ⟨i, _, rfl⟩ := List.mem_map.mp hx
  cases i <;> rfl
theorem fzs_rep {x : F} (n : Nat) (h : fz x = true) : ∀ y ∈ List.replicate n x, fz y = true := fun y hy => by
  rw [(List.mem_replicate.mp hy).2]
  exact h
theorem fz_rowF {r : List Int} (h : r.length ≤ 1000) : fz (rowF r) = true := fz_row (by omega)
theorem fz_trF {r : List (Option Int)} (h : r.length ≤ 1000) : fz (trF r) = true := fz_tup_of (by rw [List.length_map]; omega) (fzs_cF r)
theorem fz_tdF {d : Td} {m n : Nat} (h : TdR d m n) (h1 : m ≤ 1000) (h2 : n ≤ 1000) : fz (tdF d) = true := fz_tup_of (by rw [List.length_map, h.len]; omega) fun x hx => by
  obtain ⟨r, hr, rfl⟩ := List.mem_map.mp hx
  exact fz_trF (by rw [h.row r hr]; exact h2)
theorem fzs_tr {d : Td} {m n : Nat} (h : TdR d m n) (h2 : n ≤ 1000) : ∀ x ∈ d.map trF, fz x = true := fun x hx => by
  obtain ⟨r, hr, rfl⟩ := List.mem_map.mp hx
  exact fz_trF (by rw [h.row r hr]; exact h2)
theorem zOk_two {a b : List Int} {B : Int} (hB : B ≤ 1000) (h1 : a.length ≤ 1000) (h2 : b.length ≤ 1000) (h3 : inB B a) (h4 : inB B b) : zOk 4 (.tup [rowF a, rowF b]) := zOk_tup (by simp) fun x hx => by
  have : ∀ r : List Int, r.length ≤ 1000 → inB B r → zOk 3 (rowF r) := fun r k1 k2 => zOk_row (by omega) fun y hy => by have := k2 y hy; omega
  rcases List.mem_cons.mp hx with e | e
  · rw [e]; exact this a h1 h3
  · rw [List.mem_singleton.mp e]; exact this b h2 h4
def small (n : Nat) (l : List F) : Prop := l.length ≤ n ∧ ∀ x ∈ l, fz x = true
theorem sm_nil : small 0 [] := ⟨Nat.le_refl _, fzs_nil⟩
theorem sm_cons {n : Nat} {x : F} {l : List F} (h1 : fz x = true) (h : small n l) : small (n + 1) (x :: l) := ⟨by have := h.1; simp; omega, fzs_cons h1 h.2⟩
theorem sm_app {a b : Nat} {l k : List F} (h1 : small a l) (h2 : small b k) : small (a + b) (l ++ k) := ⟨by have := h1.1; have := h2.1; simp; omega, fzs_app h1.2 h2.2⟩
theorem sm_cut {n : Nat} {l : List F} (h : small n l) (a b : Option Int) : small n (cut l a b) := ⟨Nat.le_trans (cut_length ..) h.1, fzs_cut h.2 a b⟩
theorem sm_rev {n : Nat} {l : List F} (h : small n l) : small n l.reverse := ⟨by rw [List.length_reverse]; exact h.1, fzs_rev h.2⟩
theorem sm_rep {x : F} (n : Nat) (h : fz x = true) : small n (List.replicate n x) := ⟨by simp, fzs_rep n h⟩
theorem sm_fz {n : Nat} {l : List F} (h : small n l) (k : n ≤ 1000000) : fz (.tup l) = true := fz_tup_of (Nat.le_trans h.1 k) h.2
theorem sm_set {n : Nat} {l : List F} (h : small n l) (i : Nat) {x : F} (hx : fz x = true) : small n (l.set i x) := ⟨by rw [List.length_set]; exact h.1, fun y hy => (List.mem_or_eq_of_mem_set hy).elim (h.2 y) fun e => by rw [e]; exact hx⟩
theorem fz2 {a b : F} (h1 : fz a = true) (h2 : fz b = true) : fz (.tup [a, b]) = true := sm_fz (sm_cons h1 (sm_cons h2 sm_nil)) (by decide)
theorem dep_tdF (d : Td) : dep (tdF d) ≤ 2 := dep_tup fun x hx => by
  obtain ⟨r, _, rfl⟩ := List.mem_map.mp hx
  refine dep_tup fun y hy => ?_
  obtain ⟨i, _, rfl⟩ := List.mem_map.mp hy
  cases i <;> exact Nat.le_refl _
theorem incr_pw {ns : List Int} (h : incr ns = true) : ns.Pairwise (· < ·) := by
  unfold incr at h
  rw [List.all_eq_true] at h
  have step : ∀ k, k + 1 < ns.length → ns.getD k 0 < ns.getD (k + 1) 0 := fun k hk => of_decide_eq_true (h k (List.mem_range.mpr (by omega)))
  clear h
  induction ns with
  | nil => exact .nil
  | cons n r ih =>
    have ih := ih fun k hk => step (k + 1) (by rw [List.length_cons]; omega)
    refine .cons (fun y hy => ?_) ih
    cases r with
    | nil => cases hy
    | cons m r =>
      have h0 : n < m := step 0 (by simp)
      rcases List.mem_cons.mp hy with e | e
      · rw [e]; exact h0
      · exact Int.lt_trans h0 (List.rel_of_pairwise_cons ih e)
theorem pw_nodup {ns : List Int} (h : ns.Pairwise (· < ·)) : ns.Nodup := h.imp fun h e => by omega
def W_sets : WS :=
  (sSeq (sAsg (wFrz (wLst (wCons (wTup wNil) wNil))) (gN 1))
    (sSeq (sFor (wRange1 (wCons (wVar 0) wNil)) (gN 2) (sAsg (wOp oAdd (wVar 1) (wFrz (wComp [3] (wIt (wVar 1)) (gN 3) wYes (wOp oAdd (wVar 3) (wTup (wCons (wVar 2) wNil)))))) (gN 1)))
    (sRet (wVar 1))))
def setsL : Nat → List (List Int)
  | 0 => [[]]
  | n + 1 => setsL n ++ (setsL n).map fun r => r ++ [(n : Int)]
theorem setsL_len : ∀ n, (setsL n).length = 2 ^ n
  | 0 => rfl
  | n + 1 => by rw [setsL, List.length_append, List.length_map, setsL_len n, Nat.pow_succ]; omega
theorem setsL_ok : ∀ n, ∀ r ∈ setsL n, inR n r ∧ r.Pairwise (· < ·) ∧ r.length ≤ n
  | 0, r, h => by
    rw [List.mem_singleton.mp h]
    exact ⟨fun k (h : k ∈ ([] : List Int)) => absurd h (by simp), List.Pairwise.nil, Nat.le_refl _⟩
  | n + 1, r, h => by
    rcases List.mem_append.mp h with h | h
    · obtain ⟨h1, h2, h3⟩ := setsL_ok n r h
      exact ⟨fun k hk => by have := h1 k hk; omega, h2, by omega⟩
    · obtain ⟨r', h', rfl⟩ := List.mem_map.mp h
      obtain ⟨h1, h2, h3⟩ := setsL_ok n r' h'
      refine ⟨fun k hk => ?_, ?_, by simp; omega⟩
      · rcases List.mem_append.mp hk with h | h
        · have := h1 k h; omega
        · rw [List.mem_singleton.mp h]; omega
      · refine List.pairwise_append.mpr ⟨h2, List.pairwise_singleton .., fun a ha b hb => ?_⟩
        rw [List.mem_singleton.mp hb]
        have := h1 a ha
        omega
def C_sets : Ct := fun xs S Q => ∃ n : Nat, xs = [.int n] ∧ n ≤ 12 ∧ Q (.lst ((setsL n).map rowF)) S
theorem mono_C_sets : MonoC C_sets := fun xs S Q Q' k ⟨n, e, h, q⟩ => ⟨n, e, h, k _ _ q⟩
theorem sp_sets (fs : List F) (S : Sto) (Q) (h : C_sets fs S Q) : fs.length = 1 ∧ W_sets { nx := fun _ S' => Q .non S', rt := fun d S' => Q d S' } (startF 4 fs) S := by
  obtain ⟨n, rfl, hn, q⟩ := h
  refine ⟨rfl, ?_⟩
  show W_sets _ [some (.int n), none, none, none] S
  unfold W_sets
  walk_at "nx"
  walk_at "nx"
  refine ⟨by omega, ?_⟩
  refine forL_rng (fun i ρ S' => S' = S ∧ ∃ o2 o3 : Option F, ρ = [some (.int n), some (.lst ((setsL i).map rowF)), o2, o3]) ⟨rfl, _, _, rfl⟩ (fun _ _ _ _ => trivial) (fun i hi ρ S' N ⟨eS, o2, o3, eρ⟩ hN => ?_) (fun ρ S' ⟨eS, o2, o3, eρ⟩ => ?_)
  · subst eS eρ
    have l0 := setsL_len i
    have l1 : 2 ^ i ≤ 2 ^ 12 := Nat.pow_le_pow_right (by decide) (by omega)
    simp [-compL_cons]
    refine ⟨mil (by omega), ?_⟩
    refine compL_mapT rowF (fun r => rowF (r ++ [(i : Int)])) trivial _ _ (fun r hr Q2 q2 => ?_) ?_
    · have := (setsL_ok i r hr).2.2
      simp [rowF]
      refine ⟨mil (by omega), ?_⟩
      simpa [rowF] using q2
    · simp
      refine ⟨mil (by omega), hN _ _ ⟨rfl, some (.int i), o3, ?_⟩⟩
      rw [setsL, List.map_append, List.map_map]
      rfl
  · subst eS eρ
    simpa using q
end DL

set_option maxHeartbeats 4000000
namespace DL
open PySem PySem.Spec PyProof.Rows L2
/-! xs.index(k) and xs.count(k) of lists of ints -/
section
variable {X : Cx}
def mIndex : DMt := fun x xs S Q => match xs with
  | [.int k] => ∃ (ns : List Int) (j : Nat), listR S x = some (ns.map F.int) ∧ ns[j]? = some k ∧ (∀ m, m < j → ns[m]? ≠ some k) ∧ Q (.int (j : Nat)) S
  | _ => False
theorem m_index : MtD X "list.index" mIndex := by
  refine ⟨fun d xs S Q Q' k h => ?_, mtWeak mt_index fun v vs H Q ⟨d, ds, S, Z, dv, dvs, R, h⟩ => ?_⟩
  · unfold mIndex at h ⊢
    split at h
    · obtain ⟨ns, j, h1, h2, h3, h4⟩ := h
      exact ⟨ns, j, h1, h2, h3, k _ _ h4⟩
    · exact h.elim
  · unfold mIndex at h
    split at h
    · rename_i k
      obtain ⟨ns, j, h1, h2, h3, h4⟩ := h
      obtain ⟨w, rfl, dw⟩ := dens1 dvs
      obtain ⟨a, us, rfl, s1, d2⟩ := listR_of R dv h1
      have e := Dens.ints d2
      subst e
      refine ⟨a, _, _, j, .int k, rfl, rfl, s1, by rw [den_int dw]; rfl, ?_, ?_, by rw [den_int dw]; simp [eqV], ?_, h4 _ _ _ Ext.refl R (.int _)⟩
      · rw [List.all_map, List.all_eq_true]
        exact fun _ _ => rfl
      · rw [List.getElem?_map, h2]
        rfl
      · intro m z' hm hz
        rw [List.getElem?_map] at hz
        obtain ⟨i, hi, rfl⟩ := Option.map_eq_some_iff.mp hz
        rw [den_int dw]
        have : i ≠ k := fun e => h3 m hm (by rw [hi, e])
        simp [eqV, this]
    · exact h.elim
def mCount : DMt := fun x xs S Q => match xs with
  | [.int k] => ∃ ns : List Int, listR S x = some (ns.map F.int) ∧ Q (.int (ns.count k : Nat)) S
  | _ => False
theorem m_count : MtD X "list.count" mCount := by
  refine ⟨fun d xs S Q Q' k h => ?_, mtWeak mt_lcount fun v vs H Q ⟨d, ds, S, Z, dv, dvs, R, h⟩ => ?_⟩
  · unfold mCount at h ⊢
    split at h
    · obtain ⟨ns, h1, h2⟩ := h
      exact ⟨ns, h1, k _ _ h2⟩
    · exact h.elim
  · unfold mCount at h
    split at h
    · rename_i k
      obtain ⟨ns, h1, h2⟩ := h
      obtain ⟨w, rfl, dw⟩ := dens1 dvs
      obtain ⟨a, us, rfl, s1, d2⟩ := listR_of R dv h1
      have e := Dens.ints d2
      subst e
      exact ⟨a, ns, k, rfl, by rw [den_int dw], s1, h2 _ _ _ Ext.refl R (.int _)⟩
    · exact h.elim
end
end DL

set_option maxHeartbeats 4000000
namespace DL
open PySem PySem.Spec PyProof.Rows L2
/-! xs[i] op= e, xs a list that changes -/
section
variable {X : Cx}
def rGetL : V → V → Hp → VK → Prop := fun o i H Q => ∃ (a : Addr) (xs : List V) (k : Int) (x : V), o = .ref a ∧ i = .int k ∧ H a = some (.lst xs) ∧ 0 ≤ k ∧ k < 2 ^ 63 ∧ xs[k.toNat]? = some x ∧ Q x H
theorem get_listL : PGet X rGetL := by
  intro pins s σ H o i ov iv Q I ro ri ⟨a, xs, k, x, e1, e2, hH, h0, h1, hx, q⟩
  subst e1 e2
  obtain rfl : ov = .ref a := ro
  obtain ⟨t, rfl⟩ : ∃ t, iv = .int k t := ri
  obtain ⟨its, n, V, hg, _⟩ := I.lst hH
  obtain ⟨u, hu, ru⟩ := V.get hx
  exact wpAny_getItem_list ⟨_, hg, rfl, n, rfl⟩ h0 h1 (by simpa using hu) ⟨x, H, I, ru, q⟩
def oGetP : F → F → Sto → (F → Sto → Prop) → Prop := fun o i S Q => match o, i with
  | .loc a, .int k => (match S a with
    | some fs => 0 ≤ k ∧ k < 2 ^ 63 ∧ (match fs[k.toNat]? with | some x => Q x S | none => False)
    | none => False)
  | _, _ => False
theorem mono_oGetP {o i : F} {S : Sto} {Q Q' : F → Sto → Prop} (k : ∀ d S', Q d S' → Q' d S') (h : oGetP o i S Q) : oGetP o i S Q' := by
  unfold oGetP at h ⊢
  split at h
  · split at h
    · refine ⟨h.1, h.2.1, ?_⟩
      have h := h.2.2
      split at h
      · exact k _ _ h
      · exact h.elim
    · exact h.elim
  · exact h.elim
def sAugS (mo mi me : W F) (op : DOp) : WS := fun D ρ S => mo ρ S fun o S1 => mi ρ S1 fun i S2 => oGetP o i S2 fun x S3 => me ρ S3 fun y S4 => op x y S4 fun z S5 => oSetL o i z S5 fun S6 => D.nx ρ S6
theorem psd_augS {o i e : Expr} {mo mi me : W F} {op : Operator} {c : DOp} {tpos pos : Pos} (ho : PD X o mo) (hi : PD X i mi) (he : PD X e me) (hc : IpD X op c)
    (ha : ∀ (ov iv new : Value), augStore i ov iv new = (do holding [new, ov, iv] (setItem ov iv new); release [new, ov, iv] []; pure .next) := by intro _ _ _; rfl) :
    PSD X (.AugAssign (.Subscript o i tpos) op e pos) (sAugS mo mi me c) := by
  refine ⟨fun D D' ρ S h l => ?_, fun W tk => weakS (ps_augS ho.run hi.run get_listL he.run hc.run set_list ha) fun D σ H ⟨ρ, S, Z, r, R, h⟩ => ?_⟩
  · unfold sAugS at h ⊢
    exact ho.mono _ _ _ _ (fun _ _ q => hi.mono _ _ _ _ (fun _ _ q => mono_oGetP (fun _ _ q => he.mono _ _ _ _ (fun _ _ q => hc.mono _ _ _ _ _ (fun _ _ q => mono_oSetL (fun _ q => l.nx _ _ q) q) q) q) q) q) h
  · refine tD_in ho.mono r R h fun ov S1 v1 Z1 H1 q e1 R1 d1 => ?_
    refine tD_in hi.mono (r.ext e1.z) R1 q fun iv S2 v2 Z2 H2 q e2 R2 d2 => ?_
    unfold oGetP at q
    split at q
    · skip
      split at q
      · rename_i fs e0
        obtain ⟨k0, k1, q⟩ := q
        split at q
        · rename_i x ex
          cases d1
          obtain ⟨us, h1, h2⟩ := R2.s _ _ e0
          obtain ⟨w, hw, dw⟩ := h2.get ex
          refine ⟨_, us, _, w, rfl, den_int d2, h1, k0, k1, hw, ?_⟩
          refine tD_in he.mono (r.ext (e1.trans e2).z) R2 q fun y S4 v4 Z4 H4 q e4 R4 d4 => ?_
          refine ⟨x, y, S4, Z4, dw.ext e4.z, d4, R4, hc.mono _ _ _ _ _ (fun z S5 q v5 Z5 H5 e5 R5 d5 => ?_) q⟩
          unfold oSetL at q
          dsimp only at q
          split at q
          · rename_i fs5 e05
            split at q
            · rename_i j ej
              obtain ⟨us5, h15, h25⟩ := R5.s _ _ e05
              obtain ⟨R6, e6⟩ := R5.write e05 (h25.set j d5)
              exact ⟨_, us5, _, j, rfl, den_int d2, h15, by rw [h25.length]; exact ej, q σ Z5 _ ((((e1.trans e2).trans e4).trans e5).trans e6) (r.ext (((e1.trans e2).trans e4).trans e5).z) R6⟩
            · exact q.elim
          · exact q.elim
        · exact q.elim
      · exact q.elim
    · exact q.elim
@[simp, simp ↓] theorem sAugS_ev {mo mi me : W F} {op : DOp} {D : EndsD} {ρ : Slots} {S : Sto} : sAugS mo mi me op D ρ S = mo ρ S fun o S1 => mi ρ S1 fun i S2 => oGetP o i S2 fun x S3 => me ρ S3 fun y S4 => op x y S4 fun z S5 => oSetL o i z S5 fun S6 => D.nx ρ S6 := (rfl)
@[simp, simp ↓] theorem oGetP_ev {a : Addr} {k : Int} {S : Sto} {Q : F → Sto → Prop} : oGetP (.loc a) (.int k) S Q = (match S a with
    | some fs => 0 ≤ k ∧ k < 2 ^ 63 ∧ (match fs[k.toNat]? with | some x => Q x S | none => False)
    | none => False) := (rfl)
end
end DL

set_option maxHeartbeats 4000000
namespace RSeq
open PySem PySem.Spec PyProof.Rows L2
/-! sets of ints, made of a tuple; their length -/
def dedup : List Int → List Int
  | [] => []
  | x :: l => if x ∈ l then dedup l else x :: dedup l
theorem mem_dedup {k : Int} : ∀ {l : List Int}, k ∈ dedup l ↔ k ∈ l
  | [] => Iff.rfl
  | x :: l => by
    unfold dedup
    split
    · rename_i h
      rw [mem_dedup (l := l), List.mem_cons]
      exact ⟨.inr, fun q => q.elim (fun e => by rw [e]; exact h) id⟩
    · rw [List.mem_cons, List.mem_cons, mem_dedup (l := l)]
theorem nodup_dedup : ∀ l : List Int, (dedup l).Nodup
  | [] => .nil
  | x :: l => by
    unfold dedup
    split
    · exact nodup_dedup l
    · rename_i h
      exact List.nodup_cons.mpr ⟨fun q => h (mem_dedup.mp q), nodup_dedup l⟩
theorem setR_len {w : World} {h : Heap} {a : Addr} {ns : List Int} {c : Nat} (r : SetR w h a (fun j => decide (j ∈ ns)) c) : c = (dedup ns).length := by
  obtain ⟨o, es, ep, t, _, _, _, _, h5, h6, _, _, h9, _⟩ := r
  have hp : (es.toList.map keyOf).Perm (dedup ns) := by
    rw [List.perm_ext_iff_of_nodup h5 (nodup_dedup ns)]
    intro k
    rw [mem_dedup, ← h6 k, decide_eq_true_eq]
  have := hp.length_eq
  rw [List.length_map] at this
  rw [← h9, ← this]
  simp
section
variable {X : Cx}
def rSetA (K : PySem.W.Frag) (w : World) : List V → Hp → VK → Prop := fun xs H Q => ∃ (p : Addr) (ns : List Int), xs = [V.ref p] ∧ SqT K H p (ns.map V.int) ∧ ns.length ≤ 1000 ∧ ∀ a, H a = none → Q (.ref a) (upd H a (SetO w a (fun j => decide (j ∈ ns)) (dedup ns).length))
theorem cr_setA (hc : X.calm = true) : CallR X (.type "set") (rSetA X.K X.w) := by
  intro pins s σ H xs us Q I r ⟨p, ns, ex, hq, hl, q⟩
  subst ex
  rw [Vals.ref1 r]
  obtain ⟨its, rv, ht, hz⟩ := I.tuple hq
  refine call_set_tupI (P := X.prog) (w := X.w) (items := its.toArray) ns (I.ok.hd hc) ht (by simpa using rv.ints) (Nat.lt_of_le_of_lt (Nat.succ_le_succ hl) (by decide)) fun h' tk c hs hcl hk => ?_
  rw [setR_len hs] at hs
  exact ⟨.ref s.heap.objs.size, _, I.laid (t' := tk) (o := SetO X.w s.heap.objs.size (fun j => decide (j ∈ ns)) (dedup ns).length) hk (Nat.le_refl _) (setO_new hs), rfl, q _ (I.hok.fresh (Nat.le_refl _))⟩
def rLenS (w : World) : List V → Hp → VK → Prop := fun xs H Q => ∃ (a : Addr) (S : Int → Bool) (n : Nat), xs = [V.ref a] ∧ H a = some (SetO w a S n) ∧ Q (.int (n : Nat)) H
theorem cr_lenS : CallR X (.builtin "len") (rLenS X.w) := by
  intro pins s σ H xs us Q I r ⟨a, S, n, ex, ha, q⟩
  subst ex
  rw [Vals.ref1 r]
  have hs : SetR X.w s.heap a S n := setO_get I ha
  obtain ⟨o, es, ep, t, h1, h2, h3, _, _, _, h7, h8, h9, _⟩ := hs
  refine call_len_set h1 h2 h3 h8 (by have : (scanBound : Nat) < 2 ^ 62 := by decide
                                      omega) ?_
  rw [h9]
  exact ⟨.int (n : Nat), H, I.kept (t' := s.toks + 1 + 1) fun _ _ h => h, ⟨_, rfl⟩, q⟩
end
end RSeq
namespace DL
open PySem PySem.Spec PyProof.Rows L2 RSeq
section
variable {X : Cx}
def wLenSet (m : W F) : W F := fun ρ S Q => m ρ S fun x S1 => match x with
  | .tup fs => ∃ ns : List Int, fs = ns.map F.int ∧ ns.length ≤ 1000 ∧ Q (.int ((dedup ns).length : Nat)) S1
  | _ => False
theorem pd_lenSet {a : Expr} {m : W F} {p p2 q pos : Pos} (hc : X.calm = true) (hg : Gl X "len") (hm : X.mg "len" = none) (hg2 : Gl X "set") (hm2 : X.mg "set" = none) (ha : PD X a m)
    (hs : starEach [.Call (.Name "set" p2) [a] [] q] X.env = (false, eval (.Call (.Name "set" p2) [a] [] q) X.env) :: starEach [] X.env := by rfl) (hs2 : starEach [a] X.env = (false, eval a X.env) :: starEach [] X.env := by rfl) :
    PD X (.Call (.Name "len" p) [.Call (.Name "set" p2) [a] [] q] [] pos) (wLenSet m) := by
  refine ⟨fun ρ S Q Q' k h => ha.mono _ _ _ _ (fun x S1 h => ?_) h, weakE (pe_callB cr_lenS hg hm (by decide +kernel) (pa_cons (pe_callTy (cr_setA hc) hg2 hm2 (by decide +kernel) (pa_cons ha.run pa_nil hs2) (by decide) (by decide) hs2 (by rfl)) pa_nil hs) (by decide) (by decide) hs (by rfl)) fun σ H Q ⟨ρ, S, Z, r, R, h⟩ => ?_⟩
  · split at h
    · obtain ⟨ns, h1, h2, h3⟩ := h
      exact ⟨ns, h1, h2, k _ _ h3⟩
    · exact h.elim
  · refine tD_in ha.mono r R h fun x S1 v1 Z1 H1 q1 e1 R1 d1 => ?_
    split at q1
    · obtain ⟨ns, h1, h2, q2⟩ := q1
      subst h1
      obtain ⟨b, vs, rfl, g1, g2⟩ := tup_of R1 d1
      have := g2.ints
      subst this
      refine ⟨b, ns, rfl, g1, h2, fun a ha => ⟨a, _, _, rfl, upd_same, ?_⟩⟩
      obtain ⟨R2, e2⟩ := R1.new ha (SetO X.w a (fun j => decide (j ∈ ns)) (dedup ns).length)
      exact q2 _ _ _ (e1.trans e2) R2 (.int _)
    · exact q1.elim
@[simp, simp ↓] theorem wLenSet_ev {m : W F} {ρ : Slots} {S : Sto} {Q : F → Sto → Prop} : wLenSet m ρ S Q = m ρ S fun x S1 => match x with
  | .tup fs => ∃ ns : List Int, fs = ns.map F.int ∧ ns.length ≤ 1000 ∧ Q (.int ((dedup ns).length : Nat)) S1
  | _ => False := (rfl)
/-! t += u, also of tuples -/
theorem ip_tup {prog : Program} {w : World} {A : Around} {E : Value → Shared → Prop} {s : Shared} {a b : Addr} {xs ys : List Value} {Q : Value → Shared → Prop} (h1 : s.heap.IsTuple a xs.toArray) (h2 : s.heap.IsTuple b ys.toArray) (hz : xs.length + ys.length ≤ sizeLine)
    (q0 : xs = [] → Q (.ref b) s) (q1 : xs ≠ [] → ys = [] → Q (.ref a) s)
    (q2 : xs ≠ [] → ys ≠ [] → Q (.ref s.heap.objs.size) { s with heap := s.heap.push { cls := .type "tuple", data := .seq (xs ++ ys).toArray } }) :
    wpAny (model prog w) A (inplaceOp .Add (.ref a) (.ref b)) Q E s := by
  obtain ⟨⟨cls, dd, data, sl⟩, ho, hc, n, hd⟩ := h1
  obtain ⟨⟨cls2, dd2, data2, sl2⟩, ho2, hc2, n2, hd2⟩ := h2
  dsimp only at hc hd hc2 hd2
  subst hc hd hc2 hd2
  refine wpAny_inplaceOp_concat (T := "tuple") ⟨_, ho, rfl⟩ ⟨_, ho2, rfl⟩ (by kernel_rfl) noFill_tuple_add seq_tuple_add ?_
  by_cases e1 : xs = []
  · subst e1
    exact call_meets F.slot_tuple_add ⟨_, ho, rfl⟩ F.entry_tuple_add (F.args_tuple_add_2 _ _) (tuple_addW0 a b _ _ n n2 dd dd2 sl sl2 (by rfl)) ⟨ho, ho2, q0 rfl⟩
  · by_cases e2 : ys = []
    · subst e2
      exact call_meets F.slot_tuple_add ⟨_, ho, rfl⟩ F.entry_tuple_add (F.args_tuple_add_2 _ _) (tuple_addW1 a b xs.toArray _ n n2 dd dd2 sl sl2 (by simpa using e1) (by rfl)) ⟨ho, ho2, q1 e1 rfl⟩
    · have := q2 e1 e2
      exact call_meets F.slot_tuple_add ⟨_, ho, rfl⟩ F.entry_tuple_add (F.args_tuple_add_2 _ _) (tuple_addW2 a b xs.toArray ys.toArray n n2 dd dd2 sl sl2 (by simpa using e1) (by simpa using e2) (by simpa using hz)) ⟨ho, ho2, by simpa using this⟩
def ipAddA : DOp := fun x y S Q => match x, y with
  | .int i, .int j => Q (.int (i + j)) S
  | .tup fs, .tup gs => fs.length + gs.length ≤ sizeLine ∧ Q (.tup (fs ++ gs)) S
  | _, _ => False
theorem ipd_addA : IpD X .Add ipAddA := by
  refine ⟨fun x y S Q Q' k h => ?_, fun pins s σ H x y v u Q I rx ry ⟨d, e, S, Z, dx, dy, R, h⟩ => ?_⟩
  · unfold ipAddA at h ⊢
    split at h
    · exact k _ _ h
    · exact ⟨h.1, k _ _ h.2⟩
    · exact h.elim
  · unfold ipAddA at h
    split at h
    · exact ip_add pins s σ H x y v u Q I rx ry ⟨_, _, den_int dx, den_int dy, fin_same R (.int _) h⟩
    · rename_i fs gs
      obtain ⟨a, vs, rfl, h1, h2⟩ := tup_of R dx
      obtain ⟨b, us, rfl, h3, h4⟩ := tup_of R dy
      obtain rfl : v = .ref a := rx
      obtain rfl : u = .ref b := ry
      obtain ⟨its, rv, p1, _⟩ := I.tuple h1
      obtain ⟨its2, rv2, p2, _⟩ := I.tuple h3
      have l1 := h2.length
      have l2 := h4.length
      have l3 := rv.length
      have l4 := rv2.length
      obtain ⟨hz, h⟩ := h
      refine ip_tup p1 p2 (by omega) (fun e0 => ?_) (fun e0 e1 => ?_) fun e0 e1 => ?_
      · have : fs = [] := List.eq_nil_of_length_eq_zero (by rw [← l1, l3, e0]; rfl)
        subst this
        exact ⟨.ref b, H, I, rfl, fin_same R dy h⟩
      · have : gs = [] := List.eq_nil_of_length_eq_zero (by rw [← l2, l4, e1]; rfl)
        subst this
        exact ⟨.ref a, H, I, rfl, fin_same R dx (by rwa [List.append_nil] at h)⟩
      · have hfr := I.hok.fresh (Nat.le_refl s.heap.objs.size)
        refine ⟨.ref s.heap.objs.size, upd H s.heap.objs.size (.tup (vs ++ us)), I.laid (t' := s.toks) (fun b o h => Heap.get?_push_of_some _ h) (Nat.le_refl _) ⟨by rw [List.length_append]; omega, its ++ its2, rv.append rv2, ⟨_, Heap.get?_push_size _ rfl, rfl, _, rfl⟩⟩, rfl, fin_tup R hfr (h2.append h4) h⟩
    · exact h.elim
@[simp, simp ↓] theorem ipAddA_ii {i j : Int} {S : Sto} {Q : F → Sto → Prop} : ipAddA (.int i) (.int j) S Q = Q (.int (i + j)) S := (rfl)
@[simp, simp ↓] theorem ipAddA_tt {fs gs : List F} {S : Sto} {Q : F → Sto → Prop} : ipAddA (.tup fs) (.tup gs) S Q = (fs.length + gs.length ≤ sizeLine ∧ Q (.tup (fs ++ gs)) S) := (rfl)
end
end DL

set_option maxHeartbeats 4000000
namespace DL
open PySem PySem.Spec PyProof.Rows L2
/-! x < y of ints or of tuples of ints -/
section
variable {X : Cx}
def oLtA : DOp := fun x y S Q => match x, y with
  | .int i, .int j => Q (.bl (decide (i < j))) S
  | .tup fs, .tup gs => ∃ ns ms : List Int, fs = ns.map F.int ∧ gs = ms.map F.int ∧ Q (.bl (HT.lexLt ns ms)) S
  | _, _ => False
theorem o_ltA (hu : X.A.units + 64 < cLine) : OpD X (compareOp .Lt) oLtA := by
  refine ⟨fun x y S Q Q' k h => ?_, opWeak (OpR.or op_lt (op_ltT (by omega))) fun x y H Q ⟨d, e, S, Z, dx, dy, R, h⟩ => ?_⟩
  · unfold oLtA at h ⊢
    split at h
    · exact k _ _ h
    · obtain ⟨ns, ms, h1, h2, h3⟩ := h
      exact ⟨ns, ms, h1, h2, k _ _ h3⟩
    · exact h.elim
  · unfold oLtA at h
    split at h
    · exact .inl ⟨_, _, den_int dx, den_int dy, fin_same R (.bl _) h⟩
    · obtain ⟨ns, ms, h1, h2, h3⟩ := h
      subst h1 h2
      obtain ⟨a, vs, rfl, g1, g2⟩ := tup_of R dx
      obtain ⟨b, us, rfl, g3, g4⟩ := tup_of R dy
      have := g2.ints
      subst this
      have := g4.ints
      subst this
      exact .inr ⟨a, b, ns, ms, rfl, rfl, g1, g3, fin_same R (.bl _) h3⟩
    · exact h.elim
@[simp, simp ↓] theorem oLtA_ii {i j : Int} {S : Sto} {Q : F → Sto → Prop} : oLtA (.int i) (.int j) S Q = Q (.bl (decide (i < j))) S := (rfl)
theorem oLtA_row {a b : List Int} {S : Sto} {Q : F → Sto → Prop} (q : Q (.bl (HT.lexLt a b)) S) : oLtA (rowF a) (rowF b) S Q := ⟨a, b, rfl, rfl, q⟩
end
end DL

set_option maxHeartbeats 4000000
namespace RSeq
open PySem PySem.Spec PyProof.Rows L2
/-! sets of ints, made of a list -/
abbrev bareSet (w : World) : Obj := { cls := .type "set", dict := none, data := .set #[] 0 (.fresh 0 0 (!w.params.followText "set-order")) }
abbrev bareIn (w : World) (h : Heap) : Heap := h.push (bareSet w)
section
variable {P : Program} {w : World} {A : Around} {E : Value → Shared → Prop} {s : Shared}
def setDone (w : World) (s : Shared) (ns : List Int) (x : Value) (s2 : Shared) : Prop :=
  x = .none ∧ ∃ h2 tk c, s2 = { s with heap := h2, toks := tk } ∧ SetR w h2 s.heap.objs.size (fun j => decide (j ∈ ns)) c ∧ ∀ b o, s.heap.get? b = some o → h2.get? b = some o
theorem set_filled (l : Addr) (its : Array Value) (ns : List Int) (ha : A.handled = none) (hl : s.heap.IsList l its) (hi : IntsAre its.toList ns) (hb : ns.length + 1 < scanBound) :
    codeAny (model P w) A (.call (.builtin "set.__init__") ⟨[.ref s.heap.objs.size, .ref l], []⟩) (wants (setDone w s ns) E) { s with heap := bareIn w s.heap } := by
  have sz : its.size = ns.length := by
    rw [← IntsAre.length hi, Array.length_toList]
  have ty : Shared.TypeIs { s with heap := bareIn w s.heap } (.ref s.heap.objs.size) "set" := ⟨bareSet w, Heap.get?_push_size _ rfl, rfl⟩
  refine codeAny_call_builtin F.called_set.init.plain F.entry_set_init (check_set_init_1 ty ?_)
  obtain ⟨o, go, oc, m, od⟩ := hl
  have lt : l < s.heap.objs.size := Heap.lt_size go
  have hl : s.heap.IsList l its := ⟨o, go, oc, m, od⟩
  obtain ⟨c0, d0, x0, sl0⟩ := o
  dsimp only at oc od
  subst oc od
  have at0 : (bareIn w s.heap).get? s.heap.objs.size = some (bareSet w) := Heap.get?_push_size _ rfl
  have go1 := Heap.get?_push_of_some (bareSet w) go
  have hl1 : (bareIn w s.heap).IsList l its := ⟨_, go1, rfl, m, rfl⟩
  have q1 := F.sub_list_set
  have q2 := F.sub_list_frozenset
  have q3 : (Value.type "list" == Value.type "dict") = false := by decide
  unfold Builtin.«set.__init__» noKeywords Builtin.Frozenset.updateFrom
  generalize ePI : pyIter = PI
  wp_walk
  subst ePI
  refine wpAny_pyIter_list hl1 (wpAny_bind (wpAny_runValue ?_))
  have big : (bareIn w s.heap).objs.size = s.heap.objs.size + 1 := Heap.size_push ..
  have n1 : l ≠ (bareIn w s.heap).objs.size := by rw [big]; exact Nat.ne_of_lt (Nat.lt_succ_of_lt lt)
  have n2 : s.heap.objs.size ∉ [(bareIn w s.heap).objs.size, l] := fun h => by
    rw [big] at h
    rcases List.mem_cons.mp h with e | e
    · exact absurd e (Nat.ne_of_lt (Nat.lt_succ_self _))
    · exact absurd (List.mem_singleton.mp e) (Nat.ne_of_gt lt)
  have at1 : ((bareIn w s.heap).push { cls := .type "list_iterator", data := .fields #[.ref l, .int 0 0] }).get? s.heap.objs.size = some (bareSet w) := Heap.get?_push_of_some _ at0
  refine set_update_ints ((Walks.list (show A.in1.in1.handled = none by simp [ha]) _ l n1 its).toS) s.heap.objs.size n2 ns sz hb ?w1 (its.size - 0) 0 _ (by omega) (Nat.zero_le _)
    ?w3 ?w0 ?w2
  case w3 => exact ⟨⟨_, Heap.get?_push_size _ rfl, rfl, rfl⟩, hl1.push _⟩
  case w0 => exact ⟨0, Nat.le_refl 0, setR_new_at at1⟩
  case w1 =>
    intro i v hv
    obtain ⟨t, e⟩ := IntsAre.int_at hi i v (by rw [Array.getElem?_toList]; exact hv)
    have lti : i < ns.length := by
      have := (Array.getElem?_eq_some_iff.mp hv).1
      omega
    exact ⟨ns[i], t, List.getElem?_eq_getElem lti, by rw [e, List.getD_eq_getElem?_getD, List.getElem?_eq_getElem lti]; rfl⟩
  case w2 =>
    intro s3 c hm hc hS
    obtain ⟨h3, g3, d3, t3, o3⟩ := s3
    cases hm.gens
    cases hm.drawn
    cases hm.os
    show wpAny _ _ _ _ _ _
    refine wpAny_pure ?_
    show wpAny _ _ (ret Value.none) _ _ _
    refine wpAny_pure ⟨rfl, h3, t3, c, rfl, hS, fun b o e => ?_⟩
    have b0 : b < s.heap.objs.size := Heap.lt_size e
    refine hm.heap b o (fun h => ?_) (Heap.get?_push_of_some _ (Heap.get?_push_of_some _ e))
    rcases List.mem_cons.mp h with e | e
    · exact absurd e (Nat.ne_of_lt b0)
    · have e := List.mem_singleton.mp e
      rw [big] at e
      exact absurd e (Nat.ne_of_lt (Nat.lt_succ_of_lt b0))
theorem call_set_lstI {l : Addr} {its : Array Value} (ns : List Int) {Q : Value → Shared → Prop} (ha : A.handled = none) (hl : s.heap.IsList l its) (hi : IntsAre its.toList ns) (hb : ns.length + 1 < scanBound)
    (k : ∀ (h2 : Heap) (tk c : Nat), SetR w h2 s.heap.objs.size (fun j => decide (j ∈ ns)) c → (∀ b o, s.heap.get? b = some o → h2.get? b = some o) → Q (.ref s.heap.objs.size) { s with heap := h2, toks := tk }) :
    wpAny (model P w) A (call (.type "set") [.ref l]) Q E s := by
  obtain ⟨c, tl, mro⟩ := F.called_set.mro
  have q1 := F.called_set.made
  have q2 := F.called_set.sub
  have q3 := F.called_set.notType
  have q4 := F.called_set.canCreate
  have q5 := F.typeCall_set_1 (.ref l)
  refine wpAny_call (codeAny_of_tree ?_)
  show wpAny _ _ (callAny (.type "set") _) _ _ _
  refine wpAny_pure ⟨Code.quiet_builtin _ (by decide +kernel), codeAny_builtin F.entry_type_call ?_⟩
  rw [Around.under_plain (weight_type_call_type "set" [.ref l] []) rfl]
  repeat (any_goals (first | assumption | wp_step))
  refine codeAny_mono (code_set_led1 (.ref l) (E := E) (Q₁ := fun x s1 => x = .ref s.heap.objs.size ∧ s1 = { s with heap := bareIn w s.heap }) ⟨rfl, rfl⟩) fun r s1 hr => ?_
  rcases r with _ | fl
  · exact hr
  cases fl with
  | ret x =>
    obtain ⟨rfl, rfl⟩ := hr
    have at0 : (bareIn w s.heap).get? s.heap.objs.size = some (bareSet w) := Heap.get?_push_size _ rfl
    have ty : Shared.TypeIs { s with heap := bareIn w s.heap } (.ref s.heap.objs.size) "set" := ⟨_, at0, rfl⟩
    have q6 := F.called_set.init.lookup
    have q7 := F.called_set.init.bind (.ref s.heap.objs.size)
    repeat (any_goals (first | assumption | wp_step))
    refine codeAny_mono (set_filled (E := E) l its ns (by simp [ha]) hl hi hb) fun r2 s2 hr2 => ?_
    rcases r2 with _ | fl2
    · exact hr2
    cases fl2 with
    | ret y =>
      obtain ⟨rfl, h2, tk, c2, rfl, hS, hk⟩ := hr2
      repeat (any_goals (first | assumption | wp_step))
      exact k _ _ _ hS hk
    | _ => exact hr2.elim
  | _ => exact hr.elim
end
section
variable {X : Cx}
def rSetLs (K : PySem.W.Frag) (w : World) : List V → Hp → VK → Prop := fun xs H Q => ∃ (p : Addr) (ns : List Int), xs = [V.ref p] ∧ SqL K H p (ns.map V.int) ∧ ns.length ≤ 1000 ∧ ∀ a, H a = none → Q (.ref a) (upd H a (SetO w a (fun j => decide (j ∈ ns)) (dedup ns).length))
theorem cr_setLs (hc : X.calm = true) : CallR X (.type "set") (rSetLs X.K X.w) := by
  intro pins s σ H xs us Q I r ⟨p, ns, ex, hq, hl, q⟩
  subst ex
  rw [Vals.ref1 r]
  obtain ⟨its, rv, ht, hz⟩ := I.list hq
  refine call_set_lstI (P := X.prog) (w := X.w) (its := its.toArray) ns (I.ok.hd hc) ht.isList (by simpa using rv.ints) (Nat.lt_of_le_of_lt (Nat.succ_le_succ hl) (by decide)) fun h' tk c hs hk => ?_
  rw [setR_len hs] at hs
  exact ⟨.ref s.heap.objs.size, _, I.laid (t' := tk) (o := SetO X.w s.heap.objs.size (fun j => decide (j ∈ ns)) (dedup ns).length) hk (Nat.le_refl _) (setO_new hs), rfl, q _ (I.hok.fresh (Nat.le_refl _))⟩
end
end RSeq
namespace DL
open PySem PySem.Spec PyProof.Rows L2 RSeq
section
variable {X : Cx}
def wSortedSet (m : W F) : W (List F) := fun ρ S Q => m ρ S fun x S1 => match listR S1 x with
  | some fs => ∃ ns : List Int, fs = ns.map F.int ∧ ns.length ≤ 1000 ∧ (dedup ns).length < 64 ∧ ∀ ms : List Int, ms.Pairwise (· < ·) → (∀ k : Int, k ∈ ms ↔ k ∈ ns) → Q (ms.map F.int) S1
  | none => False
theorem pl_sortedSet {a : Expr} {m : W F} {p p2 q pos : Pos} (hc : X.calm = true) (hg : Gl X "sorted") (hm : X.mg "sorted" = none) (hg2 : Gl X "set") (hm2 : X.mg "set" = none) (ha : PD X a m)
    (hs : starEach [.Call (.Name "set" p2) [a] [] q] X.env = (false, eval (.Call (.Name "set" p2) [a] [] q) X.env) :: starEach [] X.env := by rfl) (hs2 : starEach [a] X.env = (false, eval a X.env) :: starEach [] X.env := by rfl) :
    PL X (.Call (.Name "sorted" p) [.Call (.Name "set" p2) [a] [] q] [] pos) (wSortedSet m) := by
  refine ⟨fun ρ S Q Q' k h => ha.mono _ _ _ _ (fun x S1 h => ?_) h, weakE (pe_callB (cr_sortedSet hc) hg hm (by decide +kernel) (pa_cons (pe_callTy (cr_setLs hc) hg2 hm2 (by decide +kernel) (pa_cons ha.run pa_nil hs2) (by decide) (by decide) hs2 (by rfl)) pa_nil hs) (by decide) (by decide) hs (by rfl)) fun σ H Q ⟨ρ, S, Z, r, R, h⟩ => ?_⟩
  · split at h
    · obtain ⟨ns, h1, h2, h4, h3⟩ := h
      exact ⟨ns, h1, h2, h4, fun ms k1 k2 => k _ _ (h3 ms k1 k2)⟩
    · exact h.elim
  · refine tD_in ha.mono r R h fun x S1 v1 Z1 H1 q1 e1 R1 d1 => ?_
    split at q1
    · rename_i fs e0
      obtain ⟨ns, rfl, h2, h4, q2⟩ := q1
      obtain ⟨b, vs, rfl, g1, g2⟩ := listR_of R1 d1 e0
      have := g2.ints
      subst this
      refine ⟨b, ns, rfl, g1, h2, fun a ha => ⟨a, _, _, rfl, upd_same, h4, fun ms p k1 k2 k3 np => ?_⟩⟩
      obtain ⟨R2, e2⟩ := R1.new ha (SetO X.w a (fun j => decide (j ∈ ns)) (dedup ns).length)
      exact lfin_new (e1.trans e2) R2 np (dens_ints ms) (q2 ms k1 fun k => by rw [k2 k, decide_eq_true_eq])
    · exact q1.elim
@[simp, simp ↓] theorem wSortedSet_ev {m : W F} {ρ : Slots} {S : Sto} {Q : List F → Sto → Prop} : wSortedSet m ρ S Q = m ρ S fun x S1 => match listR S1 x with
  | some fs => ∃ ns : List Int, fs = ns.map F.int ∧ ns.length ≤ 1000 ∧ (dedup ns).length < 64 ∧ ∀ ms : List Int, ms.Pairwise (· < ·) → (∀ k : Int, k ∈ ms ↔ k ∈ ns) → Q (ms.map F.int) S1
  | none => False := (rfl)
end
end DL

set_option maxHeartbeats 4000000
namespace DL
open PySem PySem.Spec PyProof.Rows L2 RSeq
/-! sameness, also of a list that changes and one that stands -/
def C_sameO : Nat → Ct
  | 0 => C_same 0
  | n + 1 => fun xs S Q => C_same (n + 1) xs S Q ∨ ∃ (p : Addr) (ys : List F), xs = [.loc p, .lst ys] ∧ S p = some ys ∧ ys.length ≤ 1000000 ∧ fzL ys = true ∧ depL ys ≤ n ∧ Q (.bl true) S
theorem mono_C_sameO : ∀ {n : Nat}, MonoC (C_sameO n)
  | 0 => mono_C_same
  | n + 1 => fun xs S Q Q' k h => h.elim (fun h => .inl (mono_C_same xs S Q Q' k h)) fun ⟨p, ys, e, h1, h2, h3, h4, q⟩ => .inr ⟨p, ys, e, h1, h2, h3, h4, k _ _ q⟩
theorem call_sameO {n : Nat} {S : Sto} {Q : F → Sto → Prop} {a b : F} (e : a = b) (h1 : fz a = true) (h2 : dep a ≤ n) (q : Q (.bl true) S) : C_sameO n [a, b] S Q := by
  cases n with
  | zero => exact call_same e h1 h2 q
  | succ n => exact .inl (call_same e h1 h2 q)
theorem call_sameL {n : Nat} {S : Sto} {Q : F → Sto → Prop} {p : Addr} {ys : List F} (h : S p = some ys) (h1 : ys.length ≤ 1000000) (h2 : ∀ y ∈ ys, fz y = true ∧ dep y ≤ n) (q : Q (.bl true) S) : C_sameO (n + 1) [.loc p, .lst ys] S Q :=
  .inr ⟨p, ys, rfl, h, h1, by
    have := fz_lst_of h1 fun y hy => (h2 y hy).1
    exact (fz_lst this).2, by
    have := dep_lst (l := ys) (n := n) fun y hy => (h2 y hy).2
    unfold dep at this
    omega, q⟩
theorem sp_sameO (n : Nat) (fs : List F) (S : Sto) (Q) (h : C_sameO (n + 1) fs S Q) : fs.length = 2 ∧ W_same (C_same n) { nx := fun _ S' => Q .non S', rt := fun d S' => Q d S' } (startF 3 fs) S := by
  rcases h with h | ⟨p, ys, rfl, hp, hl, hz, hd, q⟩
  · exact sp_same n fs S Q h
  refine ⟨rfl, ?_⟩
  show W_same _ _ [some (.loc p), some (.lst ys), none] S
  simp [W_same, hp]
  refine ⟨by simp [isiOk, hp], by omega, mil hl, ?_⟩
  refine compL_map (fun _ => .bl true) trivial _ _ (fun x hx Q2 q2 => ?_) ?_
  · obtain ⟨k, hk, rfl⟩ := mem_rng hx
    have e : ys[k]? = some ys[k] := List.getElem?_eq_getElem hk
    have hm : ys[k] ∈ ys := List.getElem_mem hk
    simp [hp, atI_cast, e]
    exact call_same rfl (fz_mem hz hm) (Nat.le_trans (dep_mem hm) hd) q2
  · rw [List.nil_append, all_true, cAll_l]
    have : ((rngL 0 ys.length).map fun _ => true).all id = true := by simp
    rw [this]
    exact q
section
variable {P : Program} {w : World} {K : PySem.W.Frag} {mg : Str → Option Value} {base : Heap}
theorem sameO_cal {params : Arguments} {body : List Stmt} {scope : Scope} {f : Addr} {fd : FuncData}
    (ok : ∀ (lv : Nat) {Crec C : Ct}, Cal P w K mg base lv "_law_same" ["a", "b"] Crec → MonoC C → (∀ fs S Q, C fs S Q → fs.length = 2 ∧ W_same Crec { nx := fun _ S' => Q .non S', rt := fun d S' => Q d S' } (startF 3 fs) S) → FnD P w K mg base (lv + 1) f fd ["a", "b"] C)
    (F : FunD K "_law_same" "_law_same" params body scope [] [] f fd) (g : mg "_law_same" = some (.ref f)) (b : L2.Binds K fd ["a", "b"] []) : ∀ n, Cal P w K mg base (n + 1) "_law_same" ["a", "b"] (C_sameO n)
  | 0 => same_cal ok F g b 0
  | n + 1 => cal_of F g b (ok (n + 1) (same_cal ok F g b n) mono_C_sameO (sp_sameO n))
end
end DL

set_option maxHeartbeats 4000000
namespace DL
open PySem PySem.Spec PyProof.Rows L2
/-! t.count(k) of tuples of ints; list(range(a, b)) -/
section
variable {X : Cx}
def rCntT (K : PySem.W.Frag) : V → List V → Hp → VK → Prop := fun x xs H Q => ∃ (p : Addr) (ns : List Int) (k : Int), x = .ref p ∧ xs = [.int k] ∧ SqT K H p (ns.map V.int) ∧ Q (.int (ns.count k : Nat)) H
theorem mt_tcount : MtR X "tuple.count" (rCntT X.K) := by
  intro pins s σ H x xs v us Q I rx rxs h
  obtain ⟨p, ns, k, rfl, rfl, hs, q⟩ := h
  cases rx
  obtain ⟨u, rfl, t, rfl⟩ := rxs.one
  obtain ⟨its, rv, ⟨⟨c0, d0, x0, s0⟩, ho, hc, n, hd⟩, hz⟩ := I.tuple hs
  dsimp only at hc hd
  subst hc hd
  have hi := ints_of_vals rv
  have ec : its.toArray.toList.countP (eqk k) = ns.count k := eqk_count hi
  refine call_meets PySem.F.slot_tuple_count ⟨_, ho, rfl⟩ PySem.F.entry_tuple_count (PySem.F.args_tuple_count_2 _ _) (SeqAt.tuple_countAt p its.toArray n d0 s0 (.int k t) (eqk k)) ⟨ho, fun y hy => (eqk_gives hi y (by simpa using hy)).at _ _, ?_⟩
  refine ⟨.int (ns.count k : Nat), H, I.tok _, ⟨s.toks, ?_⟩, q⟩
  show Value.int ((its.toArray.toList.countP (eqk k) : Nat) : Int) _ = _
  rw [ec]
def mCountT : DMt := fun x xs S Q => match x, xs with
  | .tup fs, [.int k] => ∃ ns : List Int, fs = ns.map F.int ∧ Q (.int (ns.count k : Nat)) S
  | _, _ => False
theorem m_countT : MtD X "tuple.count" mCountT := by
  refine ⟨fun d xs S Q Q' k h => ?_, mtWeak mt_tcount fun v vs H Q ⟨d, ds, S, Z, dv, dvs, R, h⟩ => ?_⟩
  · unfold mCountT at h ⊢
    split at h
    · obtain ⟨ns, h1, h2⟩ := h
      exact ⟨ns, h1, k _ _ h2⟩
    · exact h.elim
  · unfold mCountT at h
    split at h
    · rename_i fs k
      obtain ⟨ns, rfl, h2⟩ := h
      obtain ⟨w, rfl, dw⟩ := dens1 dvs
      obtain ⟨a, us, rfl, s1, d2⟩ := tup_of R dv
      have e := Dens.ints d2
      subst e
      exact ⟨a, ns, k, rfl, by rw [den_int dw], s1, h2 _ _ _ Ext.refl R (.int _)⟩
    · exact h.elim
@[simp, simp ↓] theorem mCountT_ev {fs : List F} {k : Int} {S : Sto} {Q : F → Sto → Prop} : mCountT (.tup fs) [.int k] S Q = (∃ ns : List Int, fs = ns.map F.int ∧ Q (.int (ns.count k : Nat)) S) := rfl
def wListRg2 (ma mb : W F) : W (List F) := fun ρ S Q => ma ρ S fun x S1 => mb ρ S1 fun y S2 => match x, y with
  | .int i, .int j => RgOk i j ∧ Q (rngL i (j - i).toNat) S2
  | _, _ => False
theorem pl_listRg2 {a b : Expr} {ma mb : W F} {p pos pos2 p3 : Pos} (hc : X.calm = true) (hg : Gl X "list") (hm : X.mg "list" = none) (hg2 : Gl X "range") (hm2 : X.mg "range" = none) (ha : PD X a ma) (hb : PD X b mb)
    (na : starEach [.Call (.Name "range" p) [a, b] [] pos2] X.env = (false, eval (.Call (.Name "range" p) [a, b] [] pos2) X.env) :: starEach [] X.env := by rfl)
    (na2 : starEach [a, b] X.env = (false, eval a X.env) :: starEach [b] X.env := by rfl) (na3 : starEach [b] X.env = (false, eval b X.env) :: starEach [] X.env := by rfl) (hp : ((backTo pos2 (starEach [b] X.env)).any fun x => x.1) = false := by rfl) :
    PL X (.Call (.Name "list" p3) [.Call (.Name "range" p) [a, b] [] pos2] [] pos) (wListRg2 ma mb) := by
  refine ⟨fun ρ S Q Q' k q => ha.mono _ _ _ _ (fun x S1 q => hb.mono _ _ _ _ (fun y S2 q => ?_) q) q, weakE (pe_listRg hc hg hm (prg_2 hg2 hm2 ha.run hb.run na2 na3 hp) na) fun σ H Q ⟨ρ, S, Z, r, R, q⟩ => ?_⟩
  · split at q
    · exact ⟨q.1, k _ _ q.2⟩
    · exact q.elim
  · refine tD_in ha.mono r R q fun x S1 v Z1 H1 p e1 R1 d1 => ?_
    refine tD_in hb.mono (r.ext e1.z) R1 p fun y S2 v2 Z2 H2 p2 e2 R2 d2 => ?_
    split at p2
    · rename_i i j
      refine ⟨i, j, den_int d1, den_int d2, p2.1, fun q nq => ?_⟩
      refine lfin_new (e1.trans e2) R2 nq ?_ p2.2
      unfold rgV rngL
      exact dens_map (fun _ => .int _) _
    · exact p2.elim
@[simp, simp ↓] theorem wListRg2_ev {ma mb : W F} {ρ : Slots} {S : Sto} {Q : List F → Sto → Prop} : wListRg2 ma mb ρ S Q = ma ρ S fun x S1 => mb ρ S1 fun y S2 => match x, y with
  | .int i, .int j => RgOk i j ∧ Q (rngL i (j - i).toNat) S2
  | _, _ => False := (rfl)
end
end DL

set_option maxHeartbeats 4000000
namespace DL
open PySem PySem.Spec PyProof.Rows L2
/-! dicts that change; keys are ints, or tuples of ints -/
inductive KF where
  | i (k : Int) | t (k : List Int) | m (k : List Key)
def KDen (Z : Hp) (v : V) : KF → Prop
  | .i k => v = .int k
  | .t k => ∃ b, v = .ref b ∧ Z b = some (.tup ((k.map Sum.inl).map kV))
  | .m k => ∃ b, v = .ref b ∧ Z b = some (.tup (k.map kV))
theorem KDen.ext {Z Z' : Hp} {v : V} {k : KF} (z : ∀ a o, Z a = some o → Z' a = some o) (h : KDen Z v k) : KDen Z' v k := by
  cases k with
  | i k => exact h
  | t k => obtain ⟨b, e, h⟩ := h; exact ⟨b, e, z _ _ h⟩
  | m k => obtain ⟨b, e, h⟩ := h; exact ⟨b, e, z _ _ h⟩
def tKy (K : PySem.W.Frag) (m : W KF) : TE := fun σ H Q => ∃ ρ S Z, REnv K Z ρ σ ∧ RelS K Z S H ∧ m ρ S fun k S1 => ∀ v Z1 H1, Ext Z S H Z1 S1 H1 → RelS K Z1 S1 H1 → KDen Z1 v k → Q v H1
structure PKD (X : Cx) (e : Expr) (m : W KF) : Prop where
  mono : Mono m
  run : PE X e (tKy X.K m)
theorem tKy_in {K : PySem.W.Frag} {Z H : Hp} {S : Sto} {ρ : Slots} {σ : Sig} {m : W KF} (hm : Mono m) {P : KF → Sto → Prop} {Q : VK} (r : REnv K Z ρ σ) (R : RelS K Z S H) (h : m ρ S P) (k : ∀ x S1 v Z1 H1, P x S1 → Ext Z S H Z1 S1 H1 → RelS K Z1 S1 H1 → KDen Z1 v x → Q v H1) : tKy K m σ H Q :=
  ⟨ρ, S, Z, r, R, hm _ _ _ _ (fun x S1 p v Z1 H1 e R1 d => k x S1 v Z1 H1 p e R1 d) h⟩
def intsOf : List F → Option (List Int)
  | [] => some []
  | .int i :: r => (intsOf r).map (i :: ·)
  | _ => none
@[simp] theorem intsOf_nil : intsOf [] = some [] := rfl
@[simp] theorem intsOf_cons {i : Int} {r : List F} : intsOf (.int i :: r) = (intsOf r).map (i :: ·) := rfl
theorem intsOf_map : ∀ l : List Int, intsOf (l.map F.int) = some l
  | [] => rfl
  | i :: l => by rw [List.map_cons, intsOf_cons, intsOf_map l]; rfl
theorem intsOf_eq : ∀ {xs : List F} {k : List Int}, intsOf xs = some k → xs = k.map F.int
  | [], k, h => by cases h; rfl
  | .int i :: r, k, h => by
    rw [intsOf_cons] at h
    obtain ⟨l, h1, h2⟩ := Option.map_eq_some_iff.mp h
    rw [← h2, intsOf_eq h1]
    rfl
  | .non :: _, _, h => by cases h
  | .bl _ :: _, _, h => by cases h
  | .str _ :: _, _, h => by cases h
  | .tup _ :: _, _, h => by cases h
  | .lst _ :: _, _, h => by cases h
  | .rol _ :: _, _, h => by cases h
  | .loc _ :: _, _, h => by cases h
def keysOf : List F → Option (List Key)
  | [] => some []
  | .int i :: r => (keysOf r).map (Sum.inl i :: ·)
  | .str x :: r => (keysOf r).map (Sum.inr x :: ·)
  | _ => none
@[simp] theorem keysOf_nil : keysOf [] = some [] := rfl
@[simp] theorem keysOf_int {i : Int} {r : List F} : keysOf (.int i :: r) = (keysOf r).map (Sum.inl i :: ·) := rfl
@[simp] theorem keysOf_str {x : Str} {r : List F} : keysOf (.str x :: r) = (keysOf r).map (Sum.inr x :: ·) := rfl
theorem keysOf_den {K : PySem.W.Frag} {Z : Hp} : ∀ {xs : List F} {k : List Key} {vs : List V}, keysOf xs = some k → Dens K Z vs xs → vs = k.map kV
  | [], k, vs, h, d => by
    cases h
    cases d
    rfl
  | .int i :: r, k, vs, h, d => by
    rw [keysOf_int] at h
    obtain ⟨l, h1, h2⟩ := Option.map_eq_some_iff.mp h
    cases d with
    | cons d1 d2 => rw [← h2, den_int d1, keysOf_den h1 d2]; rfl
  | .str x :: r, k, vs, h, d => by
    rw [keysOf_str] at h
    obtain ⟨l, h1, h2⟩ := Option.map_eq_some_iff.mp h
    cases d with
    | cons d1 d2 => rw [← h2, den_str d1, keysOf_den h1 d2]; rfl
  | .non :: _, _, _, h, _ => by cases h
  | .bl _ :: _, _, _, h, _ => by cases h
  | .tup _ :: _, _, _, h, _ => by cases h
  | .lst _ :: _, _, _, h, _ => by cases h
  | .rol _ :: _, _, _, h, _ => by cases h
  | .loc _ :: _, _, _, h, _ => by cases h
def wKm (ms : W (List F)) : W KF := fun ρ S Q => ms ρ S fun xs S1 => match keysOf xs with | some k => k.length ≤ 1000 ∧ Q (.m k) S1 | none => False
def wKi (m : W F) : W KF := fun ρ S Q => m ρ S fun x S1 => match x with | .int i => Q (.i i) S1 | _ => False
def wKt (ms : W (List F)) : W KF := fun ρ S Q => ms ρ S fun xs S1 => match intsOf xs with | some k => k.length ≤ 1000 ∧ Q (.t k) S1 | none => False
section
variable {X : Cx}
theorem kd_int {e : Expr} {m : W F} (h : PD X e m) : PKD X e (wKi m) := by
  refine ⟨fun ρ S Q Q' k q => h.mono _ _ _ _ (fun x S1 q => ?_) q, weakE h.run fun σ H Q ⟨ρ, S, Z, r, R, q⟩ => ?_⟩
  · split at q
    · exact k _ _ q
    · exact q.elim
  · refine tD_in h.mono r R q fun x S1 v Z1 H1 p e1 R1 d1 => ?_
    split at p
    · exact p v Z1 H1 e1 R1 (den_int d1)
    · exact p.elim
theorem kd_tup {es : List Expr} {ms : W (List F)} {x1 : Nat} {pos : Pos} (h : PDs X es ms) : PKD X (.Tuple es x1 pos) (wKt ms) := by
  refine ⟨fun ρ S Q Q' k q => h.mono _ _ _ _ (fun x S1 q => ?_) q, weakE (pe_tup h.run) fun σ H Q ⟨ρ, S, Z, r, R, q⟩ => ?_⟩
  · split at q
    · exact ⟨q.1, k _ _ q.2⟩
    · exact q.elim
  · refine tDs_in h.mono r R q fun xs S1 vs Z1 H1 p e1 R1 d1 => ?_
    split at p
    · rename_i k ek
      have ex := intsOf_eq ek
      subst ex
      have ev := Dens.ints d1
      subst ev
      refine ⟨by rw [List.length_map]; exact mil (by have := p.1; omega), fun t nt => ?_⟩
      obtain ⟨R2, e2⟩ := R1.newZ nt (.tup (k.map V.int))
      exact p.2 _ _ _ (e1.trans e2) R2 ⟨t, rfl, by rw [upd_same, List.map_map]; rfl⟩
    · exact p.elim
theorem kd_mix {es : List Expr} {ms : W (List F)} {x1 : Nat} {pos : Pos} (h : PDs X es ms) : PKD X (.Tuple es x1 pos) (wKm ms) := by
  refine ⟨fun ρ S Q Q' k q => h.mono _ _ _ _ (fun x S1 q => ?_) q, weakE (pe_tup h.run) fun σ H Q ⟨ρ, S, Z, r, R, q⟩ => ?_⟩
  · split at q
    · exact ⟨q.1, k _ _ q.2⟩
    · exact q.elim
  · refine tDs_in h.mono r R q fun xs S1 vs Z1 H1 p e1 R1 d1 => ?_
    split at p
    · rename_i k ek
      have ev := keysOf_den ek d1
      subst ev
      refine ⟨by rw [List.length_map]; exact mil (by have := p.1; omega), fun t nt => ?_⟩
      obtain ⟨R2, e2⟩ := R1.newZ nt (.tup (k.map kV))
      exact p.2 _ _ _ (e1.trans e2) R2 ⟨t, rfl, by rw [upd_same]⟩
    · exact p.elim
end
/-! what a dict holds -/
def fndF {κ : Type} [DecidableEq κ] (kvs : List (κ × F)) (k : κ) : Option F := (kvs.find? fun p => decide (p.1 = k)).map (·.2)
def putF {κ : Type} [DecidableEq κ] (kvs : List (κ × F)) (k : κ) (v : F) : List (κ × F) :=
  if (kvs.any fun p => decide (p.1 = k)) = true then kvs.map (fun p => if p.1 = k then (p.1, v) else p) else kvs ++ [(k, v)]
def DC.get : DC → KF → Option (Option F)
  | .t kvs, .t j => some (fndF kvs j)
  | .k kvs, .i j => some (fndF kvs j)
  | .m kvs, .m j => some (fndF kvs j)
  | _, _ => none
def DC.put : DC → KF → F → DC
  | .t kvs, .t j, v => .t (putF kvs j v)
  | .k kvs, .i j, v => .k (putF kvs j v)
  | .m kvs, .m j, v => .m (putF kvs j v)
  | c, _, _ => c
def DC.size : DC → Nat
  | .t kvs => kvs.length
  | .k kvs => kvs.length
  | .m kvs => kvs.length
theorem fnd_none {κ : Type} [DecidableEq κ] {kvs : List (κ × F)} {k : κ} : fndF kvs k = none ↔ ∀ p ∈ kvs, p.1 ≠ k := by
  unfold fndF
  rw [Option.map_eq_none_iff, List.find?_eq_none]
  simp
theorem put_fnd {κ : Type} [DecidableEq κ] (k j : κ) (v : F) : ∀ kvs : List (κ × F), fndF (putF kvs k v) j = if j = k then some v else fndF kvs j := by
  have key : ∀ kvs : List (κ × F), fndF (kvs.map fun p => if p.1 = k then (p.1, v) else p) j = if j = k then (fndF kvs j).map (fun _ => v) else fndF kvs j := fun kvs => by
    induction kvs with
    | nil => unfold fndF; split <;> rfl
    | cons p r ih =>
      unfold fndF at ih ⊢
      rw [List.map_cons]
      by_cases h : p.1 = k
      · rw [if_pos h]
        by_cases e : p.1 = j
        · rw [List.find?_cons_of_pos (by simpa using e), List.find?_cons_of_pos (by simpa using e), if_pos (e.symm.trans h)]
          rfl
        · rw [List.find?_cons_of_neg (by simpa using e), List.find?_cons_of_neg (by simpa using e), ih]
      · rw [if_neg h]
        by_cases e : p.1 = j
        · rw [List.find?_cons_of_pos (by simpa using e), List.find?_cons_of_pos (by simpa using e), if_neg (fun z => h (e.trans z))]
        · rw [List.find?_cons_of_neg (by simpa using e), List.find?_cons_of_neg (by simpa using e), ih]
  intro kvs
  unfold putF
  by_cases h : (kvs.any fun p => decide (p.1 = k)) = true
  · rw [if_pos h, key]
    by_cases e : j = k
    · rw [if_pos e, if_pos e]
      subst e
      obtain ⟨p, hp, e2⟩ := List.any_eq_true.mp h
      cases q : fndF kvs j with
      | none => exact absurd (of_decide_eq_true e2) (fnd_none.mp q p hp)
      | some x => rfl
    · rw [if_neg e, if_neg e]
  · rw [if_neg h]
    have hn : ∀ p ∈ kvs, p.1 ≠ k := fun p hp e => h (List.any_eq_true.mpr ⟨p, hp, decide_eq_true e⟩)
    unfold fndF
    rw [List.find?_append]
    by_cases e : j = k
    · rw [if_pos e]
      subst e
      rw [List.find?_eq_none.mpr fun p hp => by simpa using hn p hp, List.find?_cons_of_pos (by simp)]
      rfl
    · rw [if_neg e, List.find?_cons_of_neg (by simpa using fun z : k = j => e z.symm)]
      simp
theorem put_len {κ : Type} [DecidableEq κ] (k : κ) (v : F) (kvs : List (κ × F)) : (putF kvs k v).length ≤ kvs.length + 1 := by
  unfold putF
  split
  · rw [List.length_map]; omega
  · rw [List.length_append]; simp
/-! dicts of the heap and what they hold -/
def OptR (K : PySem.W.Frag) (Z : Hp) (o : Option V) : Option F → Prop
  | some f => ∃ w, o = some w ∧ Den K Z w f
  | none => o = none
def AR {κ κ' : Type} (K : PySem.W.Frag) (Z : Hp) (g : κ → κ') (ks : List (κ' × V)) (kvs : List (κ × F)) : Prop := ks.map (·.1) = kvs.map (fun p => g p.1) ∧ Dens K Z (ks.map (·.2)) (kvs.map (·.2))
section
variable {κ κ' : Type} [DecidableEq κ] [DecidableEq κ'] {K : PySem.W.Frag} {Z : Hp} {g : κ → κ'}
theorem AR.cons_iff {x : κ' × V} {ks : List (κ' × V)} {p : κ × F} {kvs : List (κ × F)} : AR K Z g (x :: ks) (p :: kvs) ↔ x.1 = g p.1 ∧ Den K Z x.2 p.2 ∧ AR K Z g ks kvs := by
  constructor
  · rintro ⟨h1, h2⟩
    rw [List.map_cons, List.map_cons] at h1 h2
    injection h1 with e1 e2
    cases h2 with
    | cons d1 d2 => exact ⟨e1, d1, e2, d2⟩
  · rintro ⟨e1, d1, e2, d2⟩
    exact ⟨by rw [List.map_cons, List.map_cons, e1, e2], .cons d1 d2⟩
theorem AR.nil_left {kvs : List (κ × F)} (h : AR K Z g ([] : List (κ' × V)) kvs) : kvs = [] := by
  have := h.1
  cases kvs with
  | nil => rfl
  | cons _ _ => cases this
theorem AR.nil_right {ks : List (κ' × V)} (h : AR K Z g ks ([] : List (κ × F))) : ks = [] := by
  have := h.1
  cases ks with
  | nil => rfl
  | cons _ _ => cases this
theorem AR.length {ks : List (κ' × V)} {kvs : List (κ × F)} (h : AR K Z g ks kvs) : ks.length = kvs.length := by
  have := congrArg List.length h.1
  simpa using this
theorem AR.get (hg : ∀ a b, g a = g b → a = b) (k : κ) : ∀ {kvs : List (κ × F)} {ks : List (κ' × V)}, AR K Z g ks kvs → OptR K Z (valV ks (g k)) (fndF kvs k)
  | [], ks, h => by
    rw [h.nil_right]
    exact rfl
  | p :: kvs, [], h => by cases h.nil_left
  | p :: kvs, x :: ks, h => by
    obtain ⟨e1, d1, h⟩ := AR.cons_iff.mp h
    have ih := AR.get hg k h
    by_cases e : p.1 = k
    · have : fndF (p :: kvs) k = some p.2 := by unfold fndF; rw [List.find?_cons_of_pos (by simpa using e)]; rfl
      rw [this]
      exact ⟨x.2, valV_pos (by rw [e1, e]), d1⟩
    · have : fndF (p :: kvs) k = fndF kvs k := by unfold fndF; rw [List.find?_cons_of_neg (by simpa using e)]
      rw [this, valV_neg (p := x) fun z => e (hg _ _ (by rw [← e1, z]))]
      exact ih
theorem AR.any (hg : ∀ a b, g a = g b → a = b) (k : κ) : ∀ {kvs : List (κ × F)} {ks : List (κ' × V)}, AR K Z g ks kvs → (ks.any fun kv => decide (kv.1 = g k)) = (kvs.any fun p => decide (p.1 = k))
  | [], ks, h => by rw [h.nil_right]; rfl
  | p :: kvs, [], h => by cases h.nil_left
  | p :: kvs, x :: ks, h => by
    obtain ⟨e1, d1, h⟩ := AR.cons_iff.mp h
    rw [List.any_cons, List.any_cons, AR.any hg k h, e1]
    congr 1
    exact decide_eq_decide.mpr ⟨hg _ _, fun e => by rw [e]⟩
theorem AR.repl (hg : ∀ a b, g a = g b → a = b) (k : κ) {v : F} {w : V} (d : Den K Z w v) : ∀ {kvs : List (κ × F)} {ks : List (κ' × V)}, AR K Z g ks kvs → AR K Z g (ks.map fun kv => if kv.1 = g k then (kv.1, w) else kv) (kvs.map fun p => if p.1 = k then (p.1, v) else p)
  | [], ks, h => by rw [h.nil_right]; exact ⟨rfl, .nil⟩
  | p :: kvs, [], h => by cases h.nil_left
  | p :: kvs, x :: ks, h => by
    obtain ⟨e1, d1, h⟩ := AR.cons_iff.mp h
    rw [List.map_cons, List.map_cons]
    by_cases e : p.1 = k
    · rw [if_pos e, if_pos (by rw [e1, e])]
      exact AR.cons_iff.mpr ⟨e1, d, AR.repl hg k d h⟩
    · rw [if_neg e, if_neg fun z => e (hg _ _ (by rw [← e1, z]))]
      exact AR.cons_iff.mpr ⟨e1, d1, AR.repl hg k d h⟩
theorem AR.snoc {k : κ} {v : F} {w : V} (d : Den K Z w v) {kvs : List (κ × F)} {ks : List (κ' × V)} (h : AR K Z g ks kvs) : AR K Z g (ks ++ [(g k, w)]) (kvs ++ [(k, v)]) :=
  ⟨by rw [List.map_append, List.map_append, h.1]; rfl, by rw [List.map_append, List.map_append]; exact h.2.append (.cons d .nil)⟩
theorem AR.put (hg : ∀ a b, g a = g b → a = b) (k : κ) {v : F} {w : V} (d : Den K Z w v) {kvs : List (κ × F)} {ks : List (κ' × V)} (h : AR K Z g ks kvs) : AR K Z g (putK ks (g k) w) (putF kvs k v) := by
  unfold putK putF
  rw [AR.any hg k h]
  split
  · exact AR.repl hg k d h
  · exact h.snoc d
end
theorem inl_inj : ∀ a b : List Int, a.map (Sum.inl : Int → Key) = b.map Sum.inl → a = b
  | [], [], _ => rfl
  | [], _ :: _, h => by cases h
  | _ :: _, [], h => by cases h
  | x :: a, y :: b, h => by
    injection h with h1 h2
    injection h1 with h1
    rw [h1, inl_inj a b h2]
theorem inl_inj1 : ∀ a b : Int, (Sum.inl a : Key) = Sum.inl b → a = b := fun a b h => by injection h
section
variable {X : Cx} {K : PySem.W.Frag} {Z H : Hp} {S : Sto} {a : Addr} {c : DC} {k : KF} {v : V}
/-- what stands at a key -/
theorem dget_of (R : RelS K Z S H) (h : S.d a = some c) (dk : KDen Z v k) {r : Option F} (e : c.get k = some r) : ∃ o : Option V, DGet H a v o ∧ OptR K Z o r := by
  obtain ⟨ob, h1, h2⟩ := R.d a c h
  cases c with
  | t kvs =>
    cases k with
    | i k => cases e
    | m k => cases e
    | t k =>
      obtain ⟨ks, rfl, h2⟩ := h2
      obtain ⟨b, rfl, h3⟩ := dk
      obtain rfl : fndF kvs k = r := Option.some.inj e
      exact ⟨_, DGet.t h1 (R.z _ _ h3).1, AR.get (g := fun l : List Int => l.map (Sum.inl : Int → Key)) inl_inj k h2⟩
  | k kvs =>
    cases k with
    | t k => cases e
    | m k => cases e
    | i k =>
      obtain ⟨ks, rfl, h2⟩ := h2
      cases (show v = .int k from dk)
      obtain rfl : fndF kvs k = r := Option.some.inj e
      exact ⟨_, DGet.k (k := .inl k) h1, AR.get (g := fun l : Int => (Sum.inl l : Key)) inl_inj1 k h2⟩
  | m kvs =>
    cases k with
    | i k => cases e
    | t k => cases e
    | m k =>
      obtain ⟨ks, rfl, h2⟩ := h2
      obtain ⟨b, rfl, h3⟩ := dk
      obtain rfl : fndF kvs k = r := Option.some.inj e
      exact ⟨_, DGet.t h1 (R.z _ _ h3).1, AR.get (g := fun l : List Key => l) (fun _ _ h => h) k h2⟩
/-- a key set -/
theorem dput_of (R : RelS K Z S H) (h : S.d a = some c) (dk : KDen Z v k) {r : Option F} (e : c.get k = some r) (hl : c.size < sizeLine) {f : F} {w : V} (d : Den K Z w f) : ∃ ob, DPut H a v w (upd H a ob) ∧ DHold K Z ob (c.put k f) := by
  obtain ⟨ob, h1, h2⟩ := R.d a c h
  cases c with
  | t kvs =>
    cases k with
    | i k => cases e
    | m k => cases e
    | t k =>
      obtain ⟨ks, rfl, h2⟩ := h2
      obtain ⟨b, rfl, h3⟩ := dk
      have h2 : AR K Z (fun l : List Int => l.map (Sum.inl : Int → Key)) ks kvs := h2
      exact ⟨_, DPut.t h1 (R.z _ _ h3).1 (by rw [h2.length]; exact hl), show DHold K Z _ (.t (putF kvs k f)) from ⟨_, rfl, AR.put inl_inj k d h2⟩⟩
  | k kvs =>
    cases k with
    | t k => cases e
    | m k => cases e
    | i k =>
      obtain ⟨ks, rfl, h2⟩ := h2
      cases (show v = .int k from dk)
      have h2 : AR K Z (fun l : Int => (Sum.inl l : Key)) ks kvs := h2
      exact ⟨_, DPut.k (k := .inl k) h1 (by rw [h2.length]; exact hl), show DHold K Z _ (.k (putF kvs k f)) from ⟨_, rfl, AR.put inl_inj1 k d h2⟩⟩
  | m kvs =>
    cases k with
    | i k => cases e
    | t k => cases e
    | m k =>
      obtain ⟨ks, rfl, h2⟩ := h2
      obtain ⟨b, rfl, h3⟩ := dk
      have h2 : AR K Z (fun l : List Key => l) ks kvs := h2
      exact ⟨_, DPut.t h1 (R.z _ _ h3).1 (by rw [h2.length]; exact hl), show DHold K Z _ (.m (putF kvs k f)) from ⟨_, rfl, AR.put (fun _ _ h => h) k d h2⟩⟩
end
end DL

set_option maxHeartbeats 4000000
namespace DL
open PySem PySem.Spec PyProof.Rows L2
/-! what is done with dicts -/
section
variable {X : Cx} {K : PySem.W.Frag} {Z H : Hp} {S : Sto} {a : Addr} {c : DC} {k : KF} {v : V}
/-- {} -/
def wDNew (c : DC) : W F := fun _ S Q => ∀ p, S.d p = none → Q (.loc p) (updD S p c)
theorem pd_dnewT {pos : Pos} : PD X (.Dict [] [] pos) (wDNew (.t [])) := by
  refine ⟨fun ρ S Q Q' k q p hp => k _ _ (q p hp), weakE pe_dnewT fun σ H Q ⟨ρ, S, Z, r, R, q⟩ p hp => ?_⟩
  obtain ⟨R1, e1⟩ := R.new hp (.dT [])
  have R2 := R1.ownD upd_same (R.nz hp) (show DHold X.K Z (.dT []) (.t []) from ⟨[], rfl, rfl, .nil⟩)
  refine q p (R.nd hp) _ Z _ ⟨e1.z, fun a o h hs => ?_, e1.d⟩ R2 (.loc p)
  obtain ⟨q1, q2, q3⟩ := e1.h a o h hs
  exact ⟨q1, fre_updD q2 (ne_of_none h hp), q3⟩
theorem pd_dnewM {pos : Pos} : PD X (.Dict [] [] pos) (wDNew (.m [])) := by
  refine ⟨fun ρ S Q Q' k q p hp => k _ _ (q p hp), weakE pe_dnewT fun σ H Q ⟨ρ, S, Z, r, R, q⟩ p hp => ?_⟩
  obtain ⟨R1, e1⟩ := R.new hp (.dT [])
  have R2 := R1.ownD upd_same (R.nz hp) (show DHold X.K Z (.dT []) (.m []) from ⟨[], rfl, rfl, .nil⟩)
  refine q p (R.nd hp) _ Z _ ⟨e1.z, fun a o h hs => ?_, e1.d⟩ R2 (.loc p)
  obtain ⟨q1, q2, q3⟩ := e1.h a o h hs
  exact ⟨q1, fre_updD q2 (ne_of_none h hp), q3⟩
theorem pd_dnewK {pos : Pos} : PD X (.Dict [] [] pos) (wDNew (.k [])) := by
  refine ⟨fun ρ S Q Q' k q p hp => k _ _ (q p hp), weakE pe_dnewK fun σ H Q ⟨ρ, S, Z, r, R, q⟩ p hp => ?_⟩
  obtain ⟨R1, e1⟩ := R.new hp (.dK [])
  have R2 := R1.ownD upd_same (R.nz hp) (show DHold X.K Z (.dK []) (.k []) from ⟨[], rfl, rfl, .nil⟩)
  refine q p (R.nd hp) _ Z _ ⟨e1.z, fun a o h hs => ?_, e1.d⟩ R2 (.loc p)
  obtain ⟨q1, q2, q3⟩ := e1.h a o h hs
  exact ⟨q1, fre_updD q2 (ne_of_none h hp), q3⟩
/-- the dict a value names -/
def atD (S : Sto) : F → Option DC
  | .loc a => S.d a
  | _ => none
theorem atD_of {x : F} {v : V} (d : Den K Z v x) (h : atD S x = some c) : ∃ a, x = .loc a ∧ v = .ref a ∧ S.d a = some c := by
  cases d with
  | loc a => exact ⟨a, rfl, rfl, h⟩
  | _ => cases h
def oDGet (x : F) (k : KF) (S : Sto) (Q : F → Sto → Prop) : Prop := match atD S x with
  | some c => (match c.get k with | some (some f) => Q f S | _ => False)
  | none => False
def oDHas (x : F) (k : KF) (S : Sto) (Q : Bool → Sto → Prop) : Prop := match atD S x with
  | some c => (match c.get k with | some r => Q r.isSome S | none => False)
  | none => False
def oDPut (x : F) (k : KF) (f : F) (S : Sto) (Q : Sto → Prop) : Prop := match x with
  | .loc a => (match S.d a with
    | some c => (match c.get k with | some _ => c.size < sizeLine ∧ Q (updD S a (c.put k f)) | none => False)
    | none => False)
  | _ => False
theorem mono_oDGet {x : F} {k : KF} {S : Sto} {Q Q' : F → Sto → Prop} (h : ∀ f S, Q f S → Q' f S) (q : oDGet x k S Q) : oDGet x k S Q' := by
  unfold oDGet at q ⊢
  split at q
  · split at q
    · exact h _ _ q
    · exact q.elim
  · exact q.elim
theorem mono_oDHas {x : F} {k : KF} {S : Sto} {Q Q' : Bool → Sto → Prop} (h : ∀ f S, Q f S → Q' f S) (q : oDHas x k S Q) : oDHas x k S Q' := by
  unfold oDHas at q ⊢
  split at q
  · split at q
    · exact h _ _ q
    · exact q.elim
  · exact q.elim
theorem mono_oDPut {x : F} {k : KF} {f : F} {S : Sto} {Q Q' : Sto → Prop} (h : ∀ S, Q S → Q' S) (q : oDPut x k f S Q) : oDPut x k f S Q' := by
  unfold oDPut at q ⊢
  split at q
  · split at q
    · split at q
      · exact ⟨q.1, h _ q.2⟩
      · exact q.elim
    · exact q.elim
  · exact q.elim
/-- d[k] -/
def wDGet (mo : W F) (mk : W KF) : W F := fun ρ S Q => mo ρ S fun x S1 => mk ρ S1 fun k S2 => oDGet x k S2 Q
theorem pd_dget {o i : Expr} {pos : Pos} {mo : W F} {mk : W KF} (hu : X.A.units + 65 < cLine) (ho : PD X o mo) (hk : PKD X i mk) (hs : NoSl i := by intro _ _; rfl) : PD X (.Subscript o i pos) (wDGet mo mk) := by
  refine ⟨fun ρ S Q Q' k q => ho.mono _ _ _ _ (fun _ _ q => hk.mono _ _ _ _ (fun _ _ q => mono_oDGet k q) q) q, weakE (pe_dget (by omega) ho.run hk.run hs) fun σ H Q ⟨ρ, S, Z, r, R, q⟩ => ?_⟩
  refine tD_in ho.mono r R q fun x S1 v1 Z1 H1 q1 e1 R1 d1 => ?_
  refine tKy_in hk.mono (r.ext e1.z) R1 q1 fun k S2 v2 Z2 H2 q2 e2 R2 d2 => ?_
  unfold oDGet at q2
  split at q2
  · rename_i c ec
    split at q2
    · rename_i f ef
      obtain ⟨a, ex, ev, h⟩ := atD_of (d1.ext e2.z) ec
      obtain ⟨o, g, w, eo, dw⟩ := dget_of R2 h d2 ef
      subst eo
      exact ⟨a, w, ev, g, q2 w Z2 H2 (e1.trans e2) R2 dw⟩
    · exact q2.elim
  · exact q2.elim
/-- k in d, k not in d -/
def wDIn (mk : W KF) (mo : W F) : W F := fun ρ S Q => mk ρ S fun k S1 => mo ρ S1 fun x S2 => oDHas x k S2 fun b S3 => Q (.bl b) S3
def wDNotIn (mk : W KF) (mo : W F) : W F := fun ρ S Q => mk ρ S fun k S1 => mo ρ S1 fun x S2 => oDHas x k S2 fun b S3 => Q (.bl (!b)) S3
theorem optR_some {o : Option V} {r : Option F} (h : OptR K Z o r) : o.isSome = r.isSome := by
  cases r with
  | none => rw [show o = none from h]; rfl
  | some f => obtain ⟨w, rfl, _⟩ := h; rfl
theorem dhas_in {mk : W KF} {mo : W F} {b : Bool → Bool} (hk : Mono mk) (ho : Mono mo) {σ : Sig} {H : Hp} {Q : VK} (h : tD K (fun ρ S Q => mk ρ S fun k S1 => mo ρ S1 fun x S2 => oDHas x k S2 fun c S3 => Q (.bl (b c)) S3) σ H Q) :
    tKy K mk σ H fun y H1 => tD K mo σ H1 fun x H2 => ∃ a o, x = .ref a ∧ DGet H2 a y o ∧ Q (.bl (b o.isSome)) H2 := by
  obtain ⟨ρ, S, Z, r, R, h⟩ := h
  refine tKy_in hk r R h fun k S1 v1 Z1 H1 q e1 R1 d1 => ?_
  refine tD_in ho (r.ext e1.z) R1 q fun x S2 v2 Z2 H2 q e2 R2 d2 => ?_
  unfold oDHas at q
  split at q
  · rename_i c ec
    split at q
    · rename_i rr er
      obtain ⟨a, rfl, rfl, h⟩ := atD_of d2 ec
      obtain ⟨o, g, hr⟩ := dget_of R2 h (d1.ext e2.z) er
      refine ⟨a, o, rfl, g, ?_⟩
      rw [optR_some hr]
      exact q _ Z2 H2 (e1.trans e2) R2 (.bl _)
    · exact q.elim
  · exact q.elim
theorem mono_wDIn {mk : W KF} {mo : W F} (hk : Mono mk) (ho : Mono mo) : Mono (wDIn mk mo) := fun ρ S Q Q' k q => hk _ _ _ _ (fun _ _ q => ho _ _ _ _ (fun _ _ q => mono_oDHas (fun _ _ q => k _ _ q) q) q) q
theorem mono_wDNotIn {mk : W KF} {mo : W F} (hk : Mono mk) (ho : Mono mo) : Mono (wDNotIn mk mo) := fun ρ S Q Q' k q => hk _ _ _ _ (fun _ _ q => ho _ _ _ _ (fun _ _ q => mono_oDHas (fun _ _ q => k _ _ q) q) q) q
theorem pd_din {o i : Expr} {pos : Pos} {mo : W F} {mk : W KF} (hu : X.A.units + 65 < cLine) (hk : PKD X i mk) (ho : PD X o mo) (hm : behindInMarks .In o = false := by rfl) : PD X (.Compare i [.In] [o] pos) (wDIn mk mo) :=
  ⟨mono_wDIn hk.mono ho.mono, weakE (pe_cmp (pc_din (by omega) hk.run ho.run) hm) fun _ _ _ h => dhas_in (b := id) hk.mono ho.mono h⟩
theorem pd_dnotin {o i : Expr} {pos : Pos} {mo : W F} {mk : W KF} (hu : X.A.units + 65 < cLine) (hk : PKD X i mk) (ho : PD X o mo) (hm : behindInMarks .NotIn o = false := by rfl) : PD X (.Compare i [.NotIn] [o] pos) (wDNotIn mk mo) :=
  ⟨mono_wDNotIn hk.mono ho.mono, weakE (pe_cmp (pc_dnotin (by omega) hk.run ho.run) hm) fun _ _ _ h => dhas_in (b := not) hk.mono ho.mono h⟩
theorem pb_din {o i : Expr} {pos : Pos} {mo : W F} {mk : W KF} (hu : X.A.units + 65 < cLine) (hk : PKD X i mk) (ho : PD X o mo) (hm : behindInMarks .In o = false := by rfl) : PB X (.Compare i [.In] [o] pos) (wTst (wDIn mk mo)) :=
  ⟨mono_wTst (mono_wDIn hk.mono ho.mono), weakT (pt_cmp (pc_din (by omega) hk.run ho.run) hm) fun σ H Q h => dhas_in (b := id) hk.mono ho.mono (tst_in (mono_wDIn hk.mono ho.mono) h)⟩
theorem pb_dnotin {o i : Expr} {pos : Pos} {mo : W F} {mk : W KF} (hu : X.A.units + 65 < cLine) (hk : PKD X i mk) (ho : PD X o mo) (hm : behindInMarks .NotIn o = false := by rfl) : PB X (.Compare i [.NotIn] [o] pos) (wTst (wDNotIn mk mo)) :=
  ⟨mono_wTst (mono_wDNotIn hk.mono ho.mono), weakT (pt_cmp (pc_dnotin (by omega) hk.run ho.run) hm) fun σ H Q h => dhas_in (b := not) hk.mono ho.mono (tst_in (mono_wDNotIn hk.mono ho.mono) h)⟩
/-- d[k] = v -/
def sDSet (mo : W F) (mk : W KF) (mv : W F) : WS := fun D ρ S => mv ρ S fun f S1 => mo ρ S1 fun x S2 => mk ρ S2 fun k S3 => oDPut x k f S3 fun S4 => D.nx ρ S4
theorem psd_dset {o i value : Expr} {pos pos' : Pos} {mo mv : W F} {mk : W KF} (hu : X.A.units + 65 < cLine) (ho : PD X o mo) (hk : PKD X i mk) (hv : PD X value mv) (hs : swapsWith value (some (.Subscript o i pos')) pos.line X.env = pure false := by rfl) :
    PSD X (.Assign [.Subscript o i pos'] value pos) (sDSet mo mk mv) := by
  refine ⟨fun D D' ρ S h l => ?_, fun W tk => weakS (ps_dput (by omega) ho.run hk.run hv.run hs) fun D σ H ⟨ρ, S, Z, r, R, h⟩ => ?_⟩
  · exact hv.mono _ _ _ _ (fun _ _ q => ho.mono _ _ _ _ (fun _ _ q => hk.mono _ _ _ _ (fun _ _ q => mono_oDPut (fun _ q => l.nx _ _ q) q) q) q) h
  · refine tD_in hv.mono r R h fun f S1 v1 Z1 H1 q1 e1 R1 d1 => ?_
    refine tD_in ho.mono (r.ext e1.z) R1 q1 fun x S2 v2 Z2 H2 q2 e2 R2 d2 => ?_
    refine tKy_in hk.mono (r.ext (e1.trans e2).z) R2 q2 fun k S3 v3 Z3 H3 q3 e3 R3 d3 => ?_
    cases x with
    | loc a =>
      rw [show oDPut (.loc a) k f S3 = fun Q => (match S3.d a with
        | some c => (match c.get k with | some _ => c.size < sizeLine ∧ Q (updD S3 a (c.put k f)) | none => False)
        | none => False) from rfl] at q3
      dsimp only at q3
      split at q3
      · rename_i c ec
        split at q3
        · rename_i rr er
          cases d2
          obtain ⟨ob, g, hh⟩ := dput_of R3 ec d3 er q3.1 (d1.ext (e2.trans e3).z)
          obtain ⟨R4, e4⟩ := R3.writeD ec hh
          exact ⟨a, _, rfl, g, q3.2 σ Z3 _ (((e1.trans e2).trans e3).trans e4) (r.ext ((e1.trans e2).trans e3).z) R4⟩
        · exact q3.elim
      · exact q3.elim
    | _ => exact q3.elim
end
section
variable {ρ : Slots} {S : Sto} {Q : F → Sto → Prop} {QK : KF → Sto → Prop} {QB : Bool → Sto → Prop} {D : EndsD} {mo mv : W F} {mk : W KF} {ms : W (List F)} {a : Addr} {k : KF} {f : F}
@[simp, simp ↓] theorem wDNew_ev {c : DC} : wDNew c ρ S Q = ∀ p, S.d p = none → Q (.loc p) (updD S p c) := (rfl)
@[simp, simp ↓] theorem wKi_ev : wKi mo ρ S QK = mo ρ S fun x S1 => match x with | .int i => QK (.i i) S1 | _ => False := (rfl)
@[simp, simp ↓] theorem wKt_ev : wKt ms ρ S QK = ms ρ S fun xs S1 => match intsOf xs with | some k => k.length ≤ 1000 ∧ QK (.t k) S1 | none => False := (rfl)
@[simp, simp ↓] theorem wDGet_ev : wDGet mo mk ρ S Q = mo ρ S fun x S1 => mk ρ S1 fun k S2 => oDGet x k S2 Q := (rfl)
@[simp, simp ↓] theorem wDIn_ev : wDIn mk mo ρ S Q = mk ρ S fun k S1 => mo ρ S1 fun x S2 => oDHas x k S2 fun b S3 => Q (.bl b) S3 := (rfl)
@[simp, simp ↓] theorem wDNotIn_ev : wDNotIn mk mo ρ S Q = mk ρ S fun k S1 => mo ρ S1 fun x S2 => oDHas x k S2 fun b S3 => Q (.bl (!b)) S3 := (rfl)
@[simp, simp ↓] theorem sDSet_ev : sDSet mo mk mv D ρ S = mv ρ S fun f S1 => mo ρ S1 fun x S2 => mk ρ S2 fun k S3 => oDPut x k f S3 fun S4 => D.nx ρ S4 := (rfl)
@[simp, simp ↓] theorem oDGet_ev : oDGet (.loc a) k S Q = (match S.d a with | some c => (match c.get k with | some (some f) => Q f S | _ => False) | none => False) := (rfl)
@[simp, simp ↓] theorem oDHas_ev : oDHas (.loc a) k S QB = (match S.d a with | some c => (match c.get k with | some r => QB r.isSome S | none => False) | none => False) := (rfl)
@[simp, simp ↓] theorem oDPut_ev {QS : Sto → Prop} : oDPut (.loc a) k f S QS = (match S.d a with
    | some c => (match c.get k with | some _ => c.size < sizeLine ∧ QS (updD S a (c.put k f)) | none => False)
    | none => False) := (rfl)
@[simp] theorem updD_same' {c : DC} : (updD S a c).d a = some c := updD_same
@[simp] theorem get_t {kvs : List (List Int × F)} {j : List Int} : (DC.t kvs).get (.t j) = some (fndF kvs j) := rfl
@[simp] theorem get_m {kvs : List (List Key × F)} {j : List Key} : (DC.m kvs).get (.m j) = some (fndF kvs j) := rfl
@[simp] theorem put_m {kvs : List (List Key × F)} {j : List Key} : (DC.m kvs).put (.m j) f = .m (putF kvs j f) := rfl
@[simp] theorem size_m {kvs : List (List Key × F)} : (DC.m kvs).size = kvs.length := rfl
@[simp, simp ↓] theorem wKm_ev : wKm ms ρ S QK = ms ρ S fun xs S1 => match keysOf xs with | some k => k.length ≤ 1000 ∧ QK (.m k) S1 | none => False := (rfl)
@[simp] theorem get_k {kvs : List (Int × F)} {j : Int} : (DC.k kvs).get (.i j) = some (fndF kvs j) := rfl
@[simp] theorem put_t {kvs : List (List Int × F)} {j : List Int} : (DC.t kvs).put (.t j) f = .t (putF kvs j f) := rfl
@[simp] theorem put_k {kvs : List (Int × F)} {j : Int} : (DC.k kvs).put (.i j) f = .k (putF kvs j f) := rfl
@[simp] theorem size_t {kvs : List (List Int × F)} : (DC.t kvs).size = kvs.length := rfl
@[simp] theorem size_k {kvs : List (Int × F)} : (DC.k kvs).size = kvs.length := rfl
end
end DL

set_option maxHeartbeats 4000000
namespace DL
open PySem PySem.Spec PyProof.Rows L2
/-! a dict of one pair, its key a tuple -/
section
variable {X : Cx}
def tOneT (tk tv : TE) : TE := fun σ H Q => ∀ p, H p = none → tk σ (upd H p (.dT [])) fun x H1 => tv σ H1 fun y H2 => ∃ (ks : List Key) (b : Addr), x = .ref b ∧ H2 b = some (.tup (ks.map kV)) ∧ H2 p = some (.dT []) ∧ Q (.ref p) (upd H2 p (.dT [(ks, y)]))
theorem pe_oneT {k v : Expr} {pos : Pos} {tk tv : TE} (hu : X.A.units + 1 < cLine) (hk : PE X k tk) (hv : PE X v tv) : PE X (.Dict [some k] [v] pos) (tOneT tk tv) := by
  refine ⟨fun pins s σ H Q I q => ?_⟩
  have nw := I.hok.fresh (Nat.le_refl s.heap.objs.size)
  have I1 := I.laid (a := s.heap.objs.size) (o := .dT []) (h' := s.heap.push { cls := .type "dict", data := .dict #[] }) (t' := s.toks) (fun _ _ e => Heap.get?_push_of_some _ e) (Nat.le_refl _) (dt_empty s.heap I.big)
  have pl : (pairTrees [some k] [v] X.env pos).length = 1 := pairTrees_length _ _ _ _ rfl rfl
  rw [arm_eval_Dict, zip_pairTrees [some k] [v] X.env pos rfl rfl, dictDisplay_pairs _ (fun e => by rw [e] at pl; cases pl) (by omega)]
  refine wpAny_bind (wpAny_standAt (wpAny_bind ?_))
  unfold subDict
  refine wpAny_bind (wpAny_alloc (wpAny_bind (wpAny_holding ?_)))
  rw [if_pos (by omega)]
  refine wpAny_bind (pairTrees_cons_walk (thn (hk.run pins _ σ _ _ I1 (q _ nw)) fun u s1 ⟨x, H1, J1, rx, q1⟩ => thn (hv.run pins s1 σ H1 _ J1 q1) fun w2 s2 ⟨y, H2, J2, ry, ks, b, ex, eb, ed, q2⟩ => pairTrees_nil_walk ?_))
  subst ex
  cases (show u = Value.ref b from rx)
  refine wpAny_holding ?_
  obtain ⟨z, hd, xs, rel, dd⟩ := dt_of J2.hok ed
  have xl : xs.length = 0 := (Paired.length rel).symm
  rw [List.forIn_cons]
  refine wpAny_bind (wpAny_bind (wpAny_bind (wpAny_dictSet_heap (hsz := by rw [xl]; exact Nat.zero_le _) (show (tupleKind (mixKind X.prog X.w)).room X.A from (by omega : X.A.units < cLine)) (key_of J2.hok eb) dd fun h' dd' hs => wpAny_pure ?_)))
  show wpAny _ _ (forIn [] PUnit.unit _) _ _ _
  rw [List.forIn_nil]
  refine wpAny_pure (wpAny_pure (wpAny_pure (wpAny_pure ⟨.ref s.heap.objs.size, _, ?_, rfl, q2⟩)))
  obtain ⟨ob, es, ep, hq, h2, h3, h4, _, h5⟩ := dd'
  have one : (putK ([] : List (List Key × V)) ks y).length ≤ sizeLine := mil (n := 1) (by decide)
  refine d_write J2 (by rw [ed]; exact True.intro) hs ⟨ob, hq⟩ (show ObjOk X.prog X.w _ h' _ (.dT (putK [] ks y)) from ⟨one, hd, _, (rel.put ks eb ry).keeps fun c ys ec => ?_, ob, es, ep, hq, h2, h3, h4, h5⟩)
  rw [upd_ne (ne_of ec ed (fun z => nomatch z))]
  exact ec
def wDOneT (mk : W KF) (mv : W F) : W F := fun ρ S Q => mk ρ S fun k S1 => mv ρ S1 fun f S2 => match k with
  | .t j => ∀ p, S2.d p = none → Q (.loc p) (updD S2 p (.t [(j, f)]))
  | .m j => ∀ p, S2.d p = none → Q (.loc p) (updD S2 p (.m [(j, f)]))
  | _ => False
theorem pd_done {k v : Expr} {pos : Pos} {mk : W KF} {mv : W F} (hu : X.A.units + 65 < cLine) (hk : PKD X k mk) (hv : PD X v mv) : PD X (.Dict [some k] [v] pos) (wDOneT mk mv) := by
  refine ⟨fun ρ S Q Q' kk q => hk.mono _ _ _ _ (fun k S1 q => hv.mono _ _ _ _ (fun f S2 q => ?_) q) q, weakE (pe_oneT (by omega) hk.run hv.run) fun σ H Q ⟨ρ, S, Z, r, R, q⟩ p hp => ?_⟩
  · split at q
    · exact fun p hp => kk _ _ (q p hp)
    · exact fun p hp => kk _ _ (q p hp)
    · exact q.elim
  · obtain ⟨R0, e0⟩ := R.new hp (.dT [])
    refine tKy_in hk.mono r R0 q fun k S1 v1 Z1 H1 q1 e1 R1 d1 => ?_
    refine tD_in hv.mono (r.ext e1.z) R1 q1 fun f S2 v2 Z2 H2 q2 e2 R2 d2 => ?_
    cases k with
    | i j => exact q2.elim
    | t j =>
      obtain ⟨b, rfl, hb⟩ := d1.ext e2.z
      obtain ⟨h1, h2, h3⟩ := (e1.trans e2).h p _ upd_same (R.nf hp)
      have hz : Z2 p = none := h3.trans (R.nz hp)
      refine ⟨j.map Sum.inl, b, rfl, (R2.z _ _ hb).1, h1, ?_⟩
      have R3 := R2.build hz h2 (.dT [(j.map Sum.inl, v2)])
      have R4 := R3.ownD upd_same hz (show DHold X.K Z2 (.dT [(j.map Sum.inl, v2)]) (.t [(j, f)]) from ⟨_, rfl, rfl, .cons d2 .nil⟩)
      have e3 := ((e0.trans e1).trans e2).build hp (.dT [(j.map Sum.inl, v2)])
      refine q2 p h2.d _ Z2 _ ⟨e3.z, fun a o h hs => ?_, e3.d⟩ R4 (.loc p)
      obtain ⟨q1, q2, q3⟩ := e3.h a o h hs
      exact ⟨q1, fre_updD q2 (ne_of_none h hp), q3⟩
    | m j =>
      obtain ⟨b, rfl, hb⟩ := d1.ext e2.z
      obtain ⟨h1, h2, h3⟩ := (e1.trans e2).h p _ upd_same (R.nf hp)
      have hz : Z2 p = none := h3.trans (R.nz hp)
      refine ⟨j, b, rfl, (R2.z _ _ hb).1, h1, ?_⟩
      have R3 := R2.build hz h2 (.dT [(j, v2)])
      have R4 := R3.ownD upd_same hz (show DHold X.K Z2 (.dT [(j, v2)]) (.m [(j, f)]) from ⟨_, rfl, rfl, .cons d2 .nil⟩)
      have e3 := ((e0.trans e1).trans e2).build hp (.dT [(j, v2)])
      refine q2 p h2.d _ Z2 _ ⟨e3.z, fun a o h hs => ?_, e3.d⟩ R4 (.loc p)
      obtain ⟨q1, q2, q3⟩ := e3.h a o h hs
      exact ⟨q1, fre_updD q2 (ne_of_none h hp), q3⟩
@[simp, simp ↓] theorem wDOneT_ev {mk : W KF} {mv : W F} {ρ : Slots} {S : Sto} {Q : F → Sto → Prop} : wDOneT mk mv ρ S Q = mk ρ S fun k S1 => mv ρ S1 fun f S2 => match k with
  | .t j => ∀ p, S2.d p = none → Q (.loc p) (updD S2 p (.t [(j, f)]))
  | .m j => ∀ p, S2.d p = none → Q (.loc p) (updD S2 p (.m [(j, f)]))
  | _ => False := (rfl)
/-! range downwards -/
def dnL (lo : Int) (n : Nat) : List F := (List.range n).map fun i : Nat => F.int (lo - (i : Int))
def wRangeD (ms : W (List F)) : W ItD := fun ρ S Q => ms ρ S fun xs S1 => match xs with
  | [.int i, .int j, .int c] => c = -1 ∧ (-(2 ^ 62) ≤ i ∧ i < 2 ^ 62 ∧ -(2 ^ 62) ≤ j ∧ j < 2 ^ 62) ∧ Q ⟨dnL i (i - j).toNat, fun _ => True⟩ S1
  | _ => False
theorem wk_rangeD {K : PySem.W.Frag} {Z : Hp} (lo : Int) (n : Nat) : Wk K Z (Itc lo (-1) n) ⟨dnL lo n, fun _ => True⟩ :=
  ⟨fun Z1 S1 H1 i f z R1 _ e => by
    have e : ((List.range n).map fun i : Nat => F.int (lo - (i : Int)))[i]? = some f := e
    rw [List.getElem?_map] at e
    by_cases hi : i < n
    · rw [List.getElem?_range hi] at e
      cases e
      exact ⟨hi, fun x H' y => by
        obtain ⟨rfl, rfl⟩ := y
        refine ⟨Z1, .refl, R1, ?_⟩
        rw [show lo + (i : Int) * -1 = lo - (i : Int) by omega]
        exact .int _⟩
    · rw [List.getElem?_eq_none (by simpa using hi)] at e
      exact absurd e (by intro q; cases q),
   fun Z1 S1 H1 i z R1 _ hl => by
    have hl : ((List.range n).map fun i : Nat => F.int (lo - (i : Int))).length ≤ i := hl
    rw [List.length_map, List.length_range] at hl
    exact hl⟩
theorem pid_rangeD {tg a b c : Expr} {p pos : Pos} {ms : W (List F)} (hg : Gl X "range") (hm : X.mg "range" = none) (ha : PDs X [a, b, c] ms) (hs : starEach [a, b, c] X.env = (false, eval a X.env) :: starEach [b, c] X.env := by rfl) (hpl : (backTo pos (starEach [b, c] X.env)).any (·.1) = false := by rfl) :
    PID X tg (.Call (.Name "range" p) [a, b, c] [] pos) (wRangeD ms) :=
  ⟨fun _ _ _ _ k q => ha.mono _ _ _ _ (fun xs S1 q => by
    split at q
    · exact ⟨q.1, q.2.1, k _ _ q.2.2⟩
    · exact q.elim) q, weakI (pi_range3 hg hm ha.run hs hpl) fun σ H R ⟨ρ, S, Z, r, Rs, q⟩ => by
    refine tDs_in ha.mono r Rs q fun xs S1 vs Z1 H1 p e1 R1 d1 => ?_
    split at p
    · rename_i i j c
      obtain ⟨ec, ⟨b1, b2, b3, b4⟩, p⟩ := p
      subst ec
      cases d1 with
      | cons da d1 =>
        cases d1 with
        | cons db d1 =>
          cases d1 with
          | cons dc d1 =>
            cases d1
            exact ⟨i, j, -1, _, by rw [den_int da, den_int db, den_int dc], RgC.neg b1 b2 b3 b4, p _ Z1 H1 e1 R1 (wk_rangeD _ _)⟩
    · exact p.elim⟩
@[simp, simp ↓] theorem wRangeD_ev {ms : W (List F)} {ρ : Slots} {S : Sto} {QI : ItD → Sto → Prop} : wRangeD ms ρ S QI = ms ρ S fun xs S1 => match xs with
  | [.int i, .int j, .int c] => c = -1 ∧ (-(2 ^ 62) ≤ i ∧ i < 2 ^ 62 ∧ -(2 ^ 62) ≤ j ∧ j < 2 ^ 62) ∧ QI ⟨dnL i (i - j).toNat, fun _ => True⟩ S1
  | _ => False := (rfl)
end
end DL

set_option maxHeartbeats 4000000
namespace DL
open PySem PySem.Spec PyProof.Rows L2
/-! a list taken apart -/
section
variable {X : Cx}
def gLst2 (n : Nat) (gs : DGs) : DG := fun f ρ S Q => match listR S f with | some fs => fs.length = n ∧ gs fs ρ S Q | none => False
theorem pgd_lst {vs : List Nat} {es : List Expr} {k : Nat} {gs : DGs} {n : Nat} {pos : Pos} (hc : X.calm = true) (h : PGDs X vs es gs)
    (hn : (assignEach es X.env).length = n := by rfl) (hst : (assignEach es X.env).findIdx? (·.1) = none := by rfl) : PGD X vs (.Tuple es k pos) (gLst2 n gs) := by
  refine ⟨fun f ρ S Q Q' k q => ?_, weakG (pg_lst hc h.run hn hst) fun v σ H Q ⟨f, ρ, S, Z, r, R, d, q⟩ => ?_⟩
  · unfold gLst2 at q ⊢
    split at q
    · exact ⟨q.1, h.mono _ _ _ _ _ k q.2⟩
    · exact q.elim
  · unfold gLst2 at q
    split at q
    · rename_i fs e
      obtain ⟨a, us, rfl, h1, h2⟩ := listR_of R d e
      exact ⟨a, us, rfl, h1, by rw [h2.length]; exact q.1, _, ρ, S, Z, r, R, h2, q.2⟩
    · exact q.elim
@[simp, simp ↓] theorem gLst2_loc {n : Nat} {gs : DGs} {a : Addr} {ρ : Slots} {S : Sto} {QS : Slots → Sto → Prop} : gLst2 n gs (.loc a) ρ S QS = (match S a with | some fs => fs.length = n ∧ gs fs ρ S QS | none => False) := (rfl)
@[simp, simp ↓] theorem gLst2_lst {n : Nat} {gs : DGs} {fs : List F} {ρ : Slots} {S : Sto} {QS : Slots → Sto → Prop} : gLst2 n gs (.lst fs) ρ S QS = (fs.length = n ∧ gs fs ρ S QS) := (rfl)
end
end DL

set_option maxHeartbeats 4000000
/-! calls without arguments; lists that change, walked and summed; == of data in data -/
namespace DL
open PySem PySem.Spec PyProof.Rows L2
section
variable {X : Cx} {p pos : Pos} {x : Str} {k j : Nat} {ps : List Str} {C : Ct} {f : Addr} {fd : FuncData}
theorem pd_call0 (G : FnD X.prog X.w X.K X.mg X.base k f fd ps C) (hr : Room k X.A) (hg : Gl X x) (hm : X.mg x = some (.ref f)) (hk : PySem.W.keepIn X.K (.ref f) = true) (hb : Binds X.K fd ps []) (hdb : (x == ("__debug__" : Str)) = false := by decide) : PD X (.Call (.Name x p) [] [] pos) (wCall C wNil) :=
  ⟨mono_wCall G.mono (pds_nil (X := X)).mono, weakE (pe_call0 G.ok hr hg hm hk hb .nil pass0 hdb) fun σ H Q ⟨ρ, S, Z, r, R, h⟩ =>
    ⟨[], S, Z, .nil, R, h⟩⟩
theorem pd_cal0 (G : Cal X.prog X.w X.K X.mg X.base k x ps C) (hr : Room j X.A) (hg : Gl X x) (hl : k ≤ j := by decide) (hdb : (x == ("__debug__" : Str)) = false := by decide) : PD X (.Call (.Name x p) [] [] pos) (wCall C wNil) := by
  obtain ⟨f, fd, hk, hm, hb, F⟩ := G.ex
  exact pd_call0 F (hr.mono hl) hg hm hk hb hdb
end
theorem onIt_at {S : Sto} {a : Addr} {l : List F} {Q : ItD → Sto → Prop} (h : S a = some l) : onIt S (.loc a) Q = Q ⟨l, fun S' => S' a = some l⟩ S := by
  unfold onIt itOf
  dsimp only
  rw [h]
  rfl
theorem cSum_at {S : Sto} {a : Addr} {ns : List Int} {Q : F → Sto → Prop} (h : S a = some (ns.map F.int)) : cSum [.loc a] S Q = Q (.int ns.sum) S := by
  have e : seqR S (.loc a) = some (ns.map F.int) := h
  unfold cSum
  dsimp only
  rw [e]
  exact sum_ev
/-! == of data in data -/
theorem eqF_tup (xs ys : List F) : eqF (.tup xs) (.tup ys) = PyData.eqvAll (pyL xs) (pyL ys) := by
  unfold eqF
  rw [py, py, PyData.eqv]
theorem eqAll_map {α : Type} [DecidableEq α] {g : α → F} (h : ∀ a b, eqF (g a) (g b) = decide (a = b)) : ∀ l m : List α, PyData.eqvAll (pyL (l.map g)) (pyL (m.map g)) = decide (l = m)
  | [], [] => by
    show PyData.eqvAll [] [] = true
    rw [PyData.eqvAll]
  | [], y :: m => by
    rw [decide_eq_false fun h => List.cons_ne_nil _ _ h.symm]
    show PyData.eqvAll [] (py (g y) :: pyL (m.map g)) = false
    rw [PyData.eqvAll] <;> simp
  | x :: l, [] => by
    rw [decide_eq_false (List.cons_ne_nil _ _)]
    show PyData.eqvAll (py (g x) :: pyL (l.map g)) [] = false
    rw [PyData.eqvAll] <;> simp
  | x :: l, y :: m => by
    have hx : PyData.eqv (py (g x)) (py (g y)) = decide (x = y) := h x y
    show PyData.eqvAll (py (g x) :: pyL (l.map g)) (py (g y) :: pyL (m.map g)) = _
    rw [PyData.eqvAll, eqAll_map h l m, hx, Bool.eq_iff_iff, Bool.and_eq_true, decide_eq_true_eq, decide_eq_true_eq, decide_eq_true_eq, List.cons.injEq]
/-- tuples of what compares by its meaning -/
theorem eqF_map {α : Type} [DecidableEq α] {g : α → F} (h : ∀ a b, eqF (g a) (g b) = decide (a = b)) (l m : List α) : eqF (.tup (l.map g)) (.tup (m.map g)) = decide (l = m) := by rw [eqF_tup, eqAll_map h]
theorem eqF_pair {a b c d : F} : eqF (.tup [a, b]) (.tup [c, d]) = (eqF a c && eqF b d) := by
  rw [eqF_tup]
  show PyData.eqvAll [py a, py b] [py c, py d] = _
  rw [PyData.eqvAll, PyData.eqvAll, PyData.eqvAll, Bool.and_true]
  rfl
theorem eqF_nonT (l : List F) : eqF .non (.tup l) = false := by
  unfold eqF
  rw [py, py, PyData.eqv] <;> simp
theorem eqF_tupN (l : List F) : eqF (.tup l) .non = false := by
  unfold eqF
  rw [py, py, PyData.eqv] <;> simp
theorem okF_fz {x : F} {n : Nat} (h : fz x = true) (d : dep x ≤ n) (hn : n ≤ 63) : okF x = true := okF_of h (Nat.le_trans d hn)
end DL

set_option maxHeartbeats 4000000
/-! dict comprehensions with any keys a dict here has: turned from the library's rule for ints and texts -/
namespace DL
open PySem PySem.Spec PyProof.Rows L2
theorem dA_empty {P : Program} {w : World} {H : Hp} {o0 : HO} (ho : o0 = .dK [] ∨ o0 = .dT []) (h : Heap) (hb : sysModules < h.objs.size) : ObjOk P w H (h.push { cls := .type "dict", data := .dict #[] }) h.objs.size o0 := by
  rcases ho with e | e
  · rw [e]; exact dk_empty h hb
  · rw [e]; exact dt_empty h hb
theorem d_dictPut {X : Cx} {pins : List (Addr × Obj)} {σ : L2.St} {H H' : Hp} {s : Shared} {E : Value → Shared → Prop} {a : Addr} {y v : V} {u r : Value} {Q : Unit → Shared → Prop} (hu : X.A.units < cLine) (I : Inv X pins σ H s) (g : DPut H a y v H') (ry : RelV y u) (rv : RelV v r)
    (h : ∀ s', Inv X pins σ H' s' → Q () s') : wpAny (model X.prog X.w) X.A (dictSet a u r) Q E s := by
  rcases g with ⟨kvs, k, e, ey, lk, eH⟩ | ⟨kvs, k, b, e, ey, eb, lk, eH⟩
  · rw [ey] at ry
    rw [eH] at h
    exact d_dictSet I e lk ry rv h
  · rw [ey] at ry
    rw [eH] at h
    cases (show u = .ref b from ry)
    obtain ⟨hz0, hsys, xs, prd, at_⟩ := dt_of I.hok e
    have hxs : xs.length ≤ sizeLine := by rw [← Paired.length prd]; exact hz0
    have hput : (putK kvs k v).length ≤ sizeLine := Nat.le_trans (length_putK kvs k v) (by omega)
    refine wpAny_dictSet_heap (hsz := hxs) hu (key_of I.hok eb) at_ fun h' at2 same => h _ ?_
    obtain ⟨ob, es, ep, f1, f2, f3, f4, _, f5⟩ := at2
    refine d_write I (by rw [e]; exact True.intro) same ⟨ob, f1⟩ ⟨hput, hsys, _, (prd.put k eb rv).keeps fun c ys ec => ?_, ob, es, ep, f1, f2, f3, f4, f5⟩
    rw [upd_ne (ne_of ec e fun z => nomatch z)]
    exact ec
section
variable {X : Cx}
def tDcA (o0 : HO) (wi : TI) (g : TG) (tt : TT) (tk tv : TE) (ws : List Nat) : TE := fun σ H Q => wi σ H fun It H1 => ∀ D, H1 D = none → ∃ W : Nat → Nat → Hp → Prop, (∃ m, W 0 m (upd H1 D o0)) ∧ ∀ i m Hc, W i m Hc →
  (It.stop i Hc ∧ Q (.ref D) Hc) ∨ (It.go i Hc ∧ ∃ Nx : Hp → Prop, (∀ H', Nx H' → ∃ m', m' < m ∧ W (i + 1) m' H') ∧ ∀ x H', It.yld i Hc x H' → g x (wipe σ ws) H' fun σ2 H2 => wipe σ2 ws = wipe σ ws ∧ tt σ2 H2 fun b H3 =>
    if b = true then tk σ2 H3 fun y H4 => tv σ2 H4 fun z H5 => ∃ H6, DPut H5 D y z H6 ∧ Nx H6 else Nx H3)
theorem dcA_core {pn : List (Addr × Obj)} {s : Shared} {σ : L2.St} {H : Hp} {Q : VK} {kex vex tgt itr : Expr} {conds : List Expr} {sc : Scope} {ow : List (Str × Nat)} {po po' : Pos} {o0 : HO} {wi : TI} {g : TG} {tt : TT} {tk tv : TE} {use : Option (Value → Sem Unit)} {Qf : Value → Shared → Prop}
    (ho : o0 = .dK [] ∨ o0 = .dT []) (hu : X.A.units < cLine) (hc : X.calm = true) (hN : X.N.Nodup) (I : Inv X pn σ H s) (hi : PI X tgt itr wi) (ok : BlkOk X.N X.env.scope sc ow)
    (hg : ∀ (s : Shared) (H : Hp) (C : Addr) (cl : List (Str × Addr)) (fp : List Addr), PG (X.blk s H sc (compEnvC sc cl C X.env) fp) tgt g) (ht : ∀ (s : Shared) (H : Hp) (C : Addr) (cl : List (Str × Addr)) (fp : List Addr), PTs (X.blk s H sc (compEnvC sc cl C X.env) fp) conds tt)
    (hk : ∀ (s : Shared) (H : Hp) (C : Addr) (cl : List (Str × Addr)) (fp : List Addr), PE (X.blk s H sc (compEnvC sc cl C X.env) fp) kex tk)
    (he : ∀ (s : Shared) (H : Hp) (C : Addr) (cl : List (Str × Addr)) (fp : List Addr), PE (X.blk s H sc (compEnvC sc cl C X.env) fp) vex tv) (hs : ∀ x, foldedSetIterable itr X.env x = pure x)
    (h0 : tDcA o0 wi g tt tk tv (ow.map (·.2)) σ H Q)
    (hRR : ∀ D C s' m H', Inv X pn σ H' s' → Q (.ref D) H' → s'.heap.Ns C m → FpOk X pn H' C → compPost (model X.prog X.w) X.A X.xe use Qf (.ref D) C (.ok .next) s') :
    wpAny (model X.prog X.w) X.A (comprehension (.DictComp kex vex [⟨tgt, itr, conds, 0⟩] sc po) sc X.env po' newDict false (eval itr X.env) use) Qf X.xe s := by
  have hfr : ∀ y ∈ sc.names, y.2 = .free → ∃ c, X.env.cells.lookup y.1 = some c := fun y hy e => by
    rcases ok.free y hy e with kf | kf
    · exact I.ok.has _ (.inl kf)
    · exact I.ok.has _ (.inr kf)
  refine wpAny_comprehension_free (use := use) rfl hs (closure_ok hfr) ok.kind (fun y hy e => by rw [ok.uniq y hy, e])
    (thn (hi.run pn s σ H _ I h0) fun xv sh1 hx => thn hx fun itv sh2 h2 => ?_)
  obtain ⟨it, fp, tn, Jt, Hp2, e, Iv2, T, tno2, f2, q⟩ := h2
  subst e
  refine wpAny_newObj_type <| newEnv_comp ?_
  generalize eD : sh2.heap.objs.size = D
  have nD : Hp2 D = none := Iv2.hok.fresh (Nat.le_of_eq eD)
  obtain ⟨W, ⟨m0, w0⟩, turn⟩ := q D nD
  -- the new list
  generalize hs3 : ({ sh2 with heap := sh2.heap.push { cls := .type "dict", data := .dict #[] } } : Shared) = sh3
  have Iv3 : Inv X pn σ (upd Hp2 D o0) sh3 := by
    rw [← hs3]
    refine Iv2.laid (t' := sh2.toks) (fun b o e => Heap.get?_push_of_some _ e) (Nat.le_of_eq eD) ?_
    rw [← eD]
    exact dA_empty ho sh2.heap Iv2.big
  have h3 : sh3.heap = sh2.heap.push { cls := .type "dict", data := .dict #[] } := by rw [← hs3]
  have sz : ∀ b ∈ fp, b < sh2.heap.objs.size := fun b hb => by
    obtain ⟨o, e, _⟩ := T.obj _ _ tno2 b hb
    exact Heap.lt_size e
  have f3 : ∀ b ∈ fp, FpOk X pn (upd Hp2 D o0) b ∧ b < sh3.heap.objs.size := fun b hb => by
    have hlt := sz b hb
    refine ⟨⟨?_, (f2 b hb).2⟩, by rw [h3, Heap.size_push]; exact Nat.lt_succ_of_lt hlt ⟩
    rw [upd_ne (by rw [← eD]; exact Nat.ne_of_lt hlt)]
    exact (f2 b hb).1
  have tno3 : tn 0 sh3.heap := T.keep _ _ _ tno2 fun b _ o e => by rw [h3]; exact Heap.get?_push_of_some _ e
  have Iv4 := block_start Iv3 ok hN f3
  have pgo := hg sh3 (upd Hp2 D o0) sh3.heap.objs.size (cellsFrom (sh3.heap.objs.size + 1) sc.names (cloFrom X.env.cells sc.names [])) fp
  have pto := ht sh3 (upd Hp2 D o0) sh3.heap.objs.size (cellsFrom (sh3.heap.objs.size + 1) sc.names (cloFrom X.env.cells sc.names [])) fp
  have pko := hk sh3 (upd Hp2 D o0) sh3.heap.objs.size (cellsFrom (sh3.heap.objs.size + 1) sc.names (cloFrom X.env.cells sc.names [])) fp
  have peo := he sh3 (upd Hp2 D o0) sh3.heap.objs.size (cellsFrom (sh3.heap.objs.size + 1) sc.names (cloFrom X.env.cells sc.names [])) fp
  show codeAny _ _ (.compStart (.DictComp kex vex [⟨tgt, itr, conds, 0⟩] sc po) 0 (.ref it) (.ref D) (compEnvC sc (cellsFrom (sh3.heap.objs.size + 1) sc.names (cloFrom X.env.cells sc.names [])) sh3.heap.objs.size X.env)) (compPost (model X.prog X.w) X.A X.xe use Qf (.ref D) sh3.heap.objs.size) { sh3 with heap := pushCells (sh3.heap.push { cls := .type "dict", data := .dict #[] }) sc.names }
  have nofp : ∀ b ∈ fp, (upd Hp2 D o0) b = none := fun b hb => (f3 b hb).1.1
  generalize hcenv : compEnvC sc (cellsFrom (sh3.heap.objs.size + 1) sc.names (cloFrom X.env.cells sc.names [])) sh3.heap.objs.size X.env = cenv at Iv4 pgo pto pko peo ⊢
  have ceL : cenv.locals = sh3.heap.objs.size := by subst hcenv; rfl
  generalize hH3 : upd Hp2 D o0 = Hp3 at Iv3 Iv4 pgo pto pko peo w0 nofp f3
  generalize hs4 : ({ sh3 with heap := pushCells (sh3.heap.push { cls := .type "dict", data := .dict #[] }) sc.names } : Shared) = sh4 at Iv4 ⊢
  have tno4 : tn 0 sh4.heap := T.keep _ _ _ tno3 fun b _ o e => by rw [← hs4]; exact pushCells_keeps _ _ _ _ (Heap.get?_push_of_some _ e)
  have sta : ∀ {σ' : L2.St} {H' : Hp} {s' : Shared}, Inv (X.blk sh3 Hp3 sc cenv fp) [] σ' H' s' → (∀ b ∈ fp, H' b = none) → ∀ b ∈ fp, FpOk (X.blk sh3 Hp3 sc cenv fp) [] H' b := fun {σ' H' s'} I' hn b hb =>
    ⟨hn b hb, (I'.ok.exf b hb).1, I'.ok.exfs b hb, .inl hb, fun x c e => (I'.ok.exf b hb).2 x c e, fun p hq => absurd (show p ∈ ([] : List (Addr × Obj)) ++ [] from hq) (by simp)⟩
  have lp : codeAny (model X.prog X.w) X.A (.compLoop (.DictComp kex vex [⟨tgt, itr, conds, 0⟩] sc po) 0 (.ref it) (.ref D) cenv) (compPost (model X.prog X.w) X.A X.xe use Qf (.ref D) sh3.heap.objs.size) sh4 := by
    refine compLoop_anyD (fun n s' => ∃ i H', Inv (X.blk sh3 Hp3 sc cenv fp) [] (wipe σ (ow.map (·.2))) H' s' ∧ tn i s'.heap ∧ (∀ b ∈ fp, H' b = none) ∧ W i n H') ?_ m0 ⟨0, Hp3, Iv4, tno4, nofp, w0⟩
    rintro n sh5 ⟨i, Hp5, Iv5, tno5, n5, w5⟩
    rcases turn i n Hp5 w5 with ⟨stop, qq⟩ | ⟨go, Nx, hNx, step⟩
    · have td := T.done (X.blk sh3 Hp3 sc cenv fp) rfl rfl rfl hc i [] sh5 _ Hp5 (fun _ _ => False) Iv5 (sta Iv5 n5) tno5 stop
      refine thnF td fun r sh6 ⟨hr, Iv6⟩ => ?_
      subst hr
      -- back in the def's context
      have Iv7 : Inv X pn σ Hp5 sh6 := Iv3.call' (ch := fp) Iv6.os Iv6.base Iv6.hok Iv6.bare fun b hb => ⟨(f3 b hb).1.2.2.2.1, (f3 b hb).1.2.1, (f3 b hb).1.2.2.2.2.1, (f3 b hb).1.2.2.2.2.2⟩
      have nC : Hp5 sh3.heap.objs.size = none := by
        have z : Hp5 cenv.locals = none := Iv6.free
        rw [ceL] at z
        exact z
      obtain ⟨m, hn, _⟩ := Iv6.loc
      have hn : sh6.heap.Ns cenv.locals m := hn
      rw [ceL] at hn
      exact hRR D sh3.heap.objs.size sh6 m Hp5 Iv7 qq hn (Iv3.fpOk (Nat.le_refl _) nC)
    · have ti := T.item (X.blk sh3 Hp3 sc cenv fp) rfl rfl rfl hc i [] sh5 _ Hp5 (fun _ _ => False) Iv5 (sta Iv5 n5) tno5 go
      refine thnF ti fun r sh6 ⟨u, hr, h6⟩ => ?_
      subst hr
      refine thnF h6 fun _ sh7 ⟨x, Hp7, Iv7, rel7, y7, tno7, n7⟩ => ?_
      have Iv7' := Iv7.pinned (sta Iv7 n7) (T.obj _ _ tno7)
      refine thnF (pgo.run _ sh7 _ Hp7 x u _ Iv7' rel7 (step x Hp7 y7)) fun _ sh8 ⟨σ8, Hp8, Iv8, hw8, go8⟩ => ?_
      refine thnF (pto.run _ sh8 σ8 Hp8 _ Iv8 go8) fun b sh9 ⟨Hp9, Iv9, go9⟩ => ?_
      -- the turn's end
      have fine : ∀ {s' : Shared} {H' : Hp}, Inv (X.blk sh3 Hp3 sc cenv fp) ([] ++ pinsAt fp sh7.heap) σ8 H' s' → Nx H' → ∃ m, m < n ∧ ∃ i H', Inv (X.blk sh3 Hp3 sc cenv fp) [] (wipe σ (ow.map (·.2))) H' s' ∧ tn i s'.heap ∧ (∀ b ∈ fp, H' b = none) ∧ W i m H' := fun {s' H'} I' nx => by
        obtain ⟨m', hmm, w'⟩ := hNx H' nx
        have pin' : ∀ b ∈ fp, ∀ o, sh7.heap.get? b = some o → s'.heap.get? b = some o ∧ H' b = none := fun b hb o e =>
          let zp := I'.pin (b, o) (List.mem_append_right _ (List.mem_append_right _ (mem_pinsAt hb e)))
          ⟨zp.1, zp.2.1⟩
        have hl : (wipe σ (ow.map (·.2))).length = σ8.length := by rw [← hw8, wipe_length]
        refine ⟨m', hmm, i + 1, H', (I'.unpinned (pins := [])).weak hl (fun j v e => ?_), T.keep _ _ _ tno7 fun b hb o e => (pin' b hb o e).1, fun b hb => ?_, w'⟩
        · rw [← hw8] at e
          exact (wipe_some e).1
        · obtain ⟨o, e, _⟩ := T.obj _ _ tno7 b hb
          exact (pin' b hb o e).2
      cases b with
      | false =>
        simp only [Bool.false_eq_true, if_false] at go9 ⊢
        exact fine Iv9 go9
      | true =>
        simp only [if_true] at go9 ⊢
        refine thnF (pko.run _ sh9 σ8 Hp9 _ Iv9 go9) fun z sh10 ⟨yk, Hp10, Iv10, rel10, go10⟩ => ?_
        refine thnF (peo.run _ sh10 σ8 Hp10 _ Iv10 go10) fun z2 sh11 ⟨yv, Hp11, Iv11, rel11, Hp12, pt12, nx⟩ => ?_
        exact d_dictPut (X := X.blk sh3 Hp3 sc cenv fp) hu Iv11 pt12 rel10 rel11 fun sh12 Iv12 => fine Iv12 nx
  exact codeAny_compStart_dict lp (T.self X.A 0 _ _ _ tno4 lp)
/-- as a value -/
theorem pe_dcA {kex vex tgt itr : Expr} {conds : List Expr} {sc : Scope} {ow : List (Str × Nat)} {po : Pos} {o0 : HO} {wi : TI} {g : TG} {tt : TT} {tk tv : TE} (ho : o0 = .dK [] ∨ o0 = .dT []) (hu : X.A.units < cLine) (hc : X.calm = true) (hN : X.N.Nodup) (hi : PI X tgt itr wi) (ok : BlkOk X.N X.env.scope sc ow)
    (hg : ∀ (s : Shared) (H : Hp) (C : Addr) (cl : List (Str × Addr)) (fp : List Addr), PG (X.blk s H sc (compEnvC sc cl C X.env) fp) tgt g) (ht : ∀ (s : Shared) (H : Hp) (C : Addr) (cl : List (Str × Addr)) (fp : List Addr), PTs (X.blk s H sc (compEnvC sc cl C X.env) fp) conds tt)
    (hk : ∀ (s : Shared) (H : Hp) (C : Addr) (cl : List (Str × Addr)) (fp : List Addr), PE (X.blk s H sc (compEnvC sc cl C X.env) fp) kex tk)
    (he : ∀ (s : Shared) (H : Hp) (C : Addr) (cl : List (Str × Addr)) (fp : List Addr), PE (X.blk s H sc (compEnvC sc cl C X.env) fp) vex tv) (hs : ∀ x, foldedSetIterable itr X.env x = pure x := by intro _; rfl) :
    PE X (.DictComp kex vex [⟨tgt, itr, conds, 0⟩] sc po) (tDcA o0 wi g tt tk tv (ow.map (·.2))) := by
  refine ⟨fun pn s σ H Q I h => ?_⟩
  rw [arm_eval_DictComp]
  refine dcA_core ho hu hc hN I hi ok hg ht hk he hs h fun D C s' m H' I' q hn f => ⟨m, hn, fun h'' sb => ?_⟩
  obtain ⟨c0, c1, c2, c3, c4, c5⟩ := f
  exact ⟨.ref D, H', I'.turned (t' := s'.toks) (fun b o hb e => (sb.2 b hb).trans e) c0 c1 c3 c4 c5, rfl, q⟩
end
end DL

set_option maxHeartbeats 4000000
/-! dict comprehensions; d.get; list.remove -/
namespace DL
open PySem PySem.Spec PyProof.Rows L2
section
variable {K : PySem.W.Frag} {Z H : Hp} {S : Sto} {a : Addr} {c : DC} {v : V} {k : KF}
theorem dput_held {ob : HO} (R : RelS K Z S H) (h1 : H a = some ob) (h2 : DHold K Z ob c) (dk : KDen Z v k) (e : (c.get k).isSome = true) (hl : c.size < sizeLine) {f : F} {w : V} (d : Den K Z w f) : ∃ ob', DPut H a v w (upd H a ob') ∧ DHold K Z ob' (c.put k f) := by
  cases c with
  | t kvs =>
    cases k with
    | i k => cases e
    | m k => cases e
    | t k =>
      obtain ⟨ks, rfl, h2⟩ := h2
      obtain ⟨b, rfl, h3⟩ := dk
      have h2 : AR K Z (fun l : List Int => l.map (Sum.inl : Int → Key)) ks kvs := h2
      exact ⟨_, DPut.t h1 (R.z _ _ h3).1 (by rw [h2.length]; exact hl), show DHold K Z _ (.t (putF kvs k f)) from ⟨_, rfl, AR.put inl_inj k d h2⟩⟩
  | k kvs =>
    cases k with
    | t k => cases e
    | m k => cases e
    | i k =>
      obtain ⟨ks, rfl, h2⟩ := h2
      cases (show v = .int k from dk)
      have h2 : AR K Z (fun l : Int => (Sum.inl l : Key)) ks kvs := h2
      exact ⟨_, DPut.k (k := .inl k) h1 (by rw [h2.length]; exact hl), show DHold K Z _ (.k (putF kvs k f)) from ⟨_, rfl, AR.put inl_inj1 k d h2⟩⟩
  | m kvs =>
    cases k with
    | i k => cases e
    | t k => cases e
    | m k =>
      obtain ⟨ks, rfl, h2⟩ := h2
      obtain ⟨b, rfl, h3⟩ := dk
      have h2 : AR K Z (fun l : List Key => l) ks kvs := h2
      exact ⟨_, DPut.t h1 (R.z _ _ h3).1 (by rw [h2.length]; exact hl), show DHold K Z _ (.m (putF kvs k f)) from ⟨_, rfl, AR.put (fun _ _ h => h) k d h2⟩⟩
end
def dcompL (gd : Sto → Prop) (g : DG) (mt : W Bool) (mk : W KF) (mv : W F) (ρ : Slots) : List F → DC → Sto → (DC → Sto → Prop) → Prop
  | [], acc, S, Q => gd S ∧ Q acc S
  | x :: r, acc, S, Q => gd S ∧ g x ρ S fun ρ2 S2 => mt ρ2 S2 fun b S3 => if b = true then mk ρ2 S3 fun k S4 => mv ρ2 S4 fun f S5 => (acc.get k).isSome = true ∧ acc.size < sizeLine ∧ dcompL gd g mt mk mv ρ r (acc.put k f) S5 Q else dcompL gd g mt mk mv ρ r acc S3 Q
theorem mono_dcompL {gd : Sto → Prop} {g : DG} {mt : W Bool} {mk : W KF} {mv : W F} (hg : MonoG g) (ht : Mono mt) (hk : Mono mk) (hv : Mono mv) {ρ : Slots} {Q Q' : DC → Sto → Prop} (k : ∀ d S, Q d S → Q' d S) : ∀ (xs : List F) (acc : DC) (S : Sto), dcompL gd g mt mk mv ρ xs acc S Q → dcompL gd g mt mk mv ρ xs acc S Q'
  | [], _, _, h => ⟨h.1, k _ _ h.2⟩
  | x :: r, acc, S, h => by
    refine ⟨h.1, hg _ _ _ _ _ (fun ρ2 S2 q => ht _ _ _ _ (fun b S3 q => ?_) q) h.2⟩
    cases b with
    | true =>
      rw [if_pos rfl] at q ⊢
      exact hk _ _ _ _ (fun _ _ q => hv _ _ _ _ (fun _ _ q => ⟨q.1, q.2.1, mono_dcompL hg ht hk hv k r _ _ q.2.2⟩) q) q
    | false =>
      rw [if_neg Bool.false_ne_true] at q ⊢
      exact mono_dcompL hg ht hk hv k r _ _ q
def wDComp (c0 : DC) (own : List Nat) (mi : W ItD) (g : DG) (mt : W Bool) (mk : W KF) (mv : W F) : W F := fun ρ S Q => mi ρ S fun it S1 => dcompL it.gd g mt mk mv (wipeF ρ own) it.items c0 S1 fun acc S2 => ∀ p, S2.d p = none → Q (.loc p) (updD S2 p acc)
theorem mono_wDComp {c0 : DC} {own : List Nat} {mi : W ItD} {g : DG} {mt : W Bool} {mk : W KF} {mv : W F} (hi : Mono mi) (hg : MonoG g) (ht : Mono mt) (hk : Mono mk) (hv : Mono mv) : Mono (wDComp c0 own mi g mt mk mv) := fun ρ S Q Q' k h =>
  hi _ _ _ _ (fun it S1 q => mono_dcompL hg ht hk hv (fun acc S2 q p hp => k _ _ (q p hp)) _ _ _ q) h
theorem dcomp_in {K : PySem.W.Frag} {o0 : HO} {c0 : DC} {own : List Nat} {mi : W ItD} {g : DG} {mt : W Bool} {mk : W KF} {mv : W F} (h0 : ∀ Z, DHold K Z o0 c0) (hi : Mono mi) (hg : MonoG g) (ht : Mono mt) (hk : Mono mk) (hv : Mono mv) {σ : Sig} {H : Hp} {Q : VK}
    (h : tD K (wDComp c0 own mi g mt mk mv) σ H Q) : tDcA o0 (tI K mi) (tG K own g) (tB2 K mt) (tKy K mk) (tD K mv) own σ H Q := by
  obtain ⟨ρ, S, Z, r, R, h⟩ := h
  refine ⟨ρ, S, Z, r, R, hi _ _ _ _ (fun it S1 p Jt Z1 H1 e1 R1 wk D hD => ?_) h⟩
  have hD0 : H D = none := e1.d D hD
  refine ⟨fun i m Hc => ∃ Z2 S2 ob acc, m = it.items.length - i ∧ i ≤ it.items.length ∧ RelS K Z2 S2 Hc ∧ Ext Z S H Z2 S2 Hc ∧ (∀ a o, Z1 a = some o → Z2 a = some o) ∧ Hc D = some ob ∧ Z2 D = none ∧ Fre S2 D ∧ DHold K Z2 ob acc ∧
      dcompL it.gd g mt mk mv (wipeF ρ own) (it.items.drop i) acc S2 (fun acc S2 => ∀ p, S2.d p = none → DFin K Z S H Q (.loc p) (updD S2 p acc)), ⟨_, Z1, S1, o0, c0, rfl, Nat.zero_le _, R1.build (R1.nz hD) (R1.nf hD) _, e1.build hD0 _, fun _ _ q => q, upd_same, R1.nz hD, R1.nf hD, h0 _, p⟩, ?_⟩
  rintro i m Hc ⟨Z2, S2, ob, acc, rfl, hi2, R2, e2, z12, hDc, hZ2, hS2, dacc, p⟩
  by_cases hlt : i < it.items.length
  · have hx : it.items[i]? = some it.items[i] := List.getElem?_eq_getElem hlt
    rw [List.drop_eq_getElem_cons hlt] at p
    obtain ⟨gdS, p⟩ := p
    obtain ⟨go, yl⟩ := wk.go Z2 S2 Hc i _ z12 R2 gdS hx
    refine .inr ⟨go, _, fun H' q => q, fun x H3 y => ?_⟩
    obtain ⟨Z3, e3, R3, d3⟩ := yl x H3 y
    refine ⟨_, wipeF ρ own, S2, Z3, ((r.ext (e2.trans e3).z).wipe own), R3, d3, hg _ _ _ _ _ (fun ρ4 S4 p σ4 Z4 H4 a4 e4 r4 R4 => ?_) p⟩
    refine ⟨wipe_agree a4, ρ4, S4, Z4, r4, R4, ht _ _ _ _ (fun b S5 p Z5 H5 e5 R5 => ?_) p⟩
    have keepD : ∀ {Z6 S6 H6}, Ext Z2 S2 Hc Z6 S6 H6 → H6 D = some ob ∧ Fre S6 D ∧ Z6 D = none := fun e => by
      obtain ⟨q1, q2, q3⟩ := e.h D _ hDc hS2
      exact ⟨q1, q2, q3.trans hZ2⟩
    cases b with
    | true =>
      rw [if_pos rfl] at p
      refine iteT ?_
      refine ⟨ρ4, S5, Z5, r4.ext e5.z, R5, hk _ _ _ _ (fun kf S6 p v6 Z6 H6 e6 R6 d6 => ?_) p⟩
      refine ⟨ρ4, S6, Z6, r4.ext (e5.trans e6).z, R6, hv _ _ _ _ (fun yv S7 p v7 Z7 H7 e7 R7 d7 => ?_) p⟩
      have ee := e3.trans (e4.trans (e5.trans (e6.trans e7)))
      obtain ⟨k1, k2, k3⟩ := keepD ee
      obtain ⟨g1, g2, p⟩ := p
      obtain ⟨ob', p1, p2⟩ := dput_held R7 k1 (dacc.ext ee.z) (d6.ext e7.z) g1 g2 d7
      exact ⟨_, p1, it.items.length - (i + 1), by omega, Z7, S7, ob', acc.put kf yv, rfl, by omega, R7.build k3 k2 _, (e2.trans ee).build hD0 _, fun a o q => ee.z a o (z12 a o q), upd_same, k3, k2, p2, p⟩
    | false =>
      rw [if_neg Bool.false_ne_true] at p
      refine iteF ?_
      have ee := e3.trans (e4.trans e5)
      obtain ⟨k1, k2, k3⟩ := keepD ee
      exact ⟨it.items.length - (i + 1), by omega, Z5, S5, ob, acc, rfl, by omega, R5, e2.trans ee, fun a o q => ee.z a o (z12 a o q), k1, k3, k2, dacc.ext ee.z, p⟩
  · have ei : i = it.items.length := by omega
    subst ei
    rw [List.drop_length] at p
    obtain ⟨gdS, p⟩ := p
    refine .inl ⟨wk.stop Z2 S2 Hc _ z12 R2 gdS (Nat.le_refl _), ?_⟩
    refine p D hS2.d (.ref D) Z2 Hc ⟨e2.z, fun a o h hs => ?_, e2.d⟩ (R2.ownD hDc hZ2 dacc) (.loc D)
    obtain ⟨q1, q2, q3⟩ := e2.h a o h hs
    exact ⟨q1, fre_updD q2 (ne_of_none h hD0), q3⟩
section
variable {X : Cx} {kx vx tg iter : Expr} {ifs : List Expr} {scope : Scope} {own : List (Str × Nat)} {pos : Pos} {mi : W ItD} {g : DG} {mt : W Bool} {mk : W KF} {mv : W F}
theorem pd_dcompA {o0 : HO} {c0 : DC} (h0 : ∀ Z, DHold X.K Z o0 c0) (ho : o0 = .dK [] ∨ o0 = .dT []) (hu : X.A.units + 65 < cLine) (hc : X.calm = true) (hN : X.N.Nodup) (hi : PID X tg iter mi) (ok : BlkOk X.N X.env.scope scope own)
    (hg : ∀ (s : Shared) (H : Hp) (C : Addr) (cl : List (Str × Addr)) (fp : List Addr), PGD (X.blk s H scope (compEnvC scope cl C X.env) fp) (own.map (·.2)) tg g) (ht : ∀ (s : Shared) (H : Hp) (C : Addr) (cl : List (Str × Addr)) (fp : List Addr), PTsD (X.blk s H scope (compEnvC scope cl C X.env) fp) ifs mt)
    (hk : ∀ (s : Shared) (H : Hp) (C : Addr) (cl : List (Str × Addr)) (fp : List Addr), PKD (X.blk s H scope (compEnvC scope cl C X.env) fp) kx mk) (hv : ∀ (s : Shared) (H : Hp) (C : Addr) (cl : List (Str × Addr)) (fp : List Addr), PD (X.blk s H scope (compEnvC scope cl C X.env) fp) vx mv)
    (hs : ∀ x, foldedSetIterable iter X.env x = pure x := by intro _; rfl) : PD X (.DictComp kx vx [⟨tg, iter, ifs, 0⟩] scope pos) (wDComp c0 (own.map (·.2)) mi g mt mk mv) :=
  have s0 : Shared := X.s_0
  ⟨mono_wDComp hi.mono (hg s0 X.H_0 0 [] []).mono (ht s0 X.H_0 0 [] []).mono (hk s0 X.H_0 0 [] []).mono (hv s0 X.H_0 0 [] []).mono,
   weakE (pe_dcA ho (by omega) hc hN hi.run ok (fun s H C cl fp => (hg s H C cl fp).run) (fun s H C cl fp => (ht s H C cl fp).run) (fun s H C cl fp => (hk s H C cl fp).run) (fun s H C cl fp => (hv s H C cl fp).run) hs)
    fun _ _ _ h => dcomp_in h0 hi.mono (hg s0 X.H_0 0 [] []).mono (ht s0 X.H_0 0 [] []).mono (hk s0 X.H_0 0 [] []).mono (hv s0 X.H_0 0 [] []).mono h⟩
theorem hold0T {K : PySem.W.Frag} (Z : Hp) : DHold K Z (.dT []) (.t []) := ⟨[], rfl, rfl, .nil⟩
theorem hold0M {K : PySem.W.Frag} (Z : Hp) : DHold K Z (.dT []) (.m []) := ⟨[], rfl, rfl, .nil⟩
theorem hold0K {K : PySem.W.Frag} (Z : Hp) : DHold K Z (.dK []) (.k []) := ⟨[], rfl, rfl, .nil⟩
end
/-! d.get -/
def oDGetO (x : F) (k : KF) (z : F) (S : Sto) (Q : F → Sto → Prop) : Prop := match atD S x with
  | some c => (match c.get k with | some r => Q (r.getD z) S | none => False)
  | none => False
theorem mono_oDGetO {x : F} {k : KF} {z : F} {S : Sto} {Q Q' : F → Sto → Prop} (h : ∀ f S, Q f S → Q' f S) (q : oDGetO x k z S Q) : oDGetO x k z S Q' := by
  unfold oDGetO at q ⊢
  split at q
  · split at q
    · exact h _ _ q
    · exact q.elim
  · exact q.elim
def wDGet1 (mo : W F) (mk : W KF) : W F := fun ρ S Q => mo ρ S fun x S1 => (atD S1 x).isSome = true ∧ mk ρ S1 fun k S2 => oDGetO x k .non S2 Q
def wDGet2 (mo : W F) (mk : W KF) (md : W F) : W F := fun ρ S Q => mo ρ S fun x S1 => (atD S1 x).isSome = true ∧ mk ρ S1 fun k S2 => md ρ S2 fun z S3 => oDGetO x k z S3 Q
theorem isD_of {K : PySem.W.Frag} {Z H : Hp} {S : Sto} {x : F} {v : V} (R : RelS K Z S H) (d : Den K Z v x) (h : (atD S x).isSome = true) : ∃ a, v = .ref a ∧ IsD H a := by
  obtain ⟨c, hc⟩ := Option.isSome_iff_exists.mp h
  obtain ⟨a, _, ev, ha⟩ := atD_of d hc
  obtain ⟨o, h1, h2⟩ := R.d a c ha
  refine ⟨a, ev, ?_⟩
  cases c with
  | t kvs =>
    obtain ⟨ks, rfl, _⟩ := h2
    exact .inr ⟨ks, .inl h1⟩
  | m kvs =>
    obtain ⟨ks, rfl, _⟩ := h2
    exact .inr ⟨ks, .inl h1⟩
  | k kvs =>
    obtain ⟨ks, rfl, _⟩ := h2
    exact .inl ⟨ks, .inl h1⟩
section
variable {X : Cx} {o e f : Expr} {apos cpos : Pos} {mo md : W F} {mk : W KF}
theorem pd_dget1 (hu : X.A.units + 65 < cLine) (ho : PD X o mo) (hk : PKD X e mk) (m : M1 X o "get" apos e cpos := by exact ⟨rfl, rfl, rfl, rfl⟩) : PD X (.Call (.Attribute o "get" apos) [e] [] cpos) (wDGet1 mo mk) := by
  refine ⟨fun ρ S Q Q' k q => ho.mono _ _ _ _ (fun _ _ q => ⟨q.1, hk.mono _ _ _ _ (fun _ _ q => mono_oDGetO k q) q.2⟩) q, weakE (pe_dget1 (by omega) ho.run hk.run m) fun σ H Q ⟨ρ, S, Z, r, R, q⟩ => ?_⟩
  refine tD_in ho.mono r R q fun x S1 v1 Z1 H1 q1 e1 R1 d1 => ?_
  obtain ⟨a, ev, hd⟩ := isD_of R1 d1 q1.1
  refine ⟨a, ev, hd, ?_⟩
  refine tKy_in hk.mono (r.ext e1.z) R1 q1.2 fun k S2 v2 Z2 H2 q2 e2 R2 d2 => ?_
  unfold oDGetO at q2
  split at q2
  · rename_i c ec
    split at q2
    · rename_i rr er
      obtain ⟨a', ex, ev', ha⟩ := atD_of (d1.ext e2.z) ec
      obtain rfl : a' = a := by rw [ev] at ev'; injection ev' with h; exact h.symm
      obtain ⟨oo, g, ho2⟩ := dget_of R2 ha d2 er
      refine ⟨oo, g, ?_⟩
      cases rr with
      | none =>
        have eo : oo = none := ho2
        subst eo
        exact q2 _ Z2 H2 (e1.trans e2) R2 .non
      | some f =>
        obtain ⟨w, eo, dw⟩ := ho2
        subst eo
        exact q2 w Z2 H2 (e1.trans e2) R2 dw
    · exact q2.elim
  · exact q2.elim
theorem pd_dget2 (hu : X.A.units + 65 < cLine) (ho : PD X o mo) (hk : PKD X e mk) (hd : PD X f md) (m : M2 X o "get" apos e f cpos := by exact ⟨rfl, rfl, rfl, rfl⟩) : PD X (.Call (.Attribute o "get" apos) [e, f] [] cpos) (wDGet2 mo mk md) := by
  refine ⟨fun ρ S Q Q' k q => ho.mono _ _ _ _ (fun _ _ q => ⟨q.1, hk.mono _ _ _ _ (fun _ _ q => hd.mono _ _ _ _ (fun _ _ q => mono_oDGetO k q) q) q.2⟩) q, weakE (pe_dget2 (by omega) ho.run hk.run hd.run m) fun σ H Q ⟨ρ, S, Z, r, R, q⟩ => ?_⟩
  refine tD_in ho.mono r R q fun x S1 v1 Z1 H1 q1 e1 R1 d1 => ?_
  obtain ⟨a, ev, hd'⟩ := isD_of R1 d1 q1.1
  refine ⟨a, ev, hd', ?_⟩
  refine tKy_in hk.mono (r.ext e1.z) R1 q1.2 fun k S2 v2 Z2 H2 q2 e2 R2 d2 => ?_
  refine tD_in hd.mono (r.ext (e1.trans e2).z) R2 q2 fun z S3 v3 Z3 H3 q3 e3 R3 d3 => ?_
  unfold oDGetO at q3
  split at q3
  · rename_i c ec
    split at q3
    · rename_i rr er
      obtain ⟨a', ex, ev', ha⟩ := atD_of (d1.ext (e2.trans e3).z) ec
      obtain rfl : a' = a := by rw [ev] at ev'; injection ev' with h; exact h.symm
      obtain ⟨oo, g, ho2⟩ := dget_of R3 ha (d2.ext e3.z) er
      refine ⟨oo, g, ?_⟩
      cases rr with
      | none =>
        have eo : oo = none := ho2
        subst eo
        exact q3 _ Z3 H3 ((e1.trans e2).trans e3) R3 d3
      | some f =>
        obtain ⟨w, eo, dw⟩ := ho2
        subst eo
        exact q3 w Z3 H3 ((e1.trans e2).trans e3) R3 dw
    · exact q3.elim
  · exact q3.elim
end
section
variable {ρ : Slots} {S : Sto} {Q : F → Sto → Prop} {QD : DC → Sto → Prop} {a : Addr} {k : KF} {z : F}
@[simp, simp ↓] theorem wDGet1_ev {mo : W F} {mk : W KF} : wDGet1 mo mk ρ S Q = mo ρ S fun x S1 => (atD S1 x).isSome = true ∧ mk ρ S1 fun k S2 => oDGetO x k .non S2 Q := (rfl)
@[simp, simp ↓] theorem wDGet2_ev {mo md : W F} {mk : W KF} : wDGet2 mo mk md ρ S Q = mo ρ S fun x S1 => (atD S1 x).isSome = true ∧ mk ρ S1 fun k S2 => md ρ S2 fun z S3 => oDGetO x k z S3 Q := (rfl)
@[simp, simp ↓] theorem oDGetO_ev : oDGetO (.loc a) k z S Q = (match S.d a with | some c => (match c.get k with | some r => Q (r.getD z) S | none => False) | none => False) := (rfl)
@[simp] theorem atD_loc : atD S (.loc a) = S.d a := rfl
@[simp, simp ↓] theorem wDComp_ev {c0 : DC} {own : List Nat} {mi : W ItD} {g : DG} {mt : W Bool} {mk : W KF} {mv : W F} : wDComp c0 own mi g mt mk mv ρ S Q = mi ρ S fun it S1 => dcompL it.gd g mt mk mv (wipeF ρ own) it.items c0 S1 fun acc S2 => ∀ p, S2.d p = none → Q (.loc p) (updD S2 p acc) := (rfl)
/-- items by a function, all kept -/
theorem dcompL_map {α : Type} {gd : Sto → Prop} {g : DG} {mk : W KF} {mv : W F} (hgd : gd S) (e : α → F) (put : DC → α → DC) (sz : DC → Prop) : ∀ (xs : List α) (acc : DC), (∀ x, x ∈ xs → ∀ (acc : DC) (N : DC → Sto → Prop), N (put acc x) S → g (e x) ρ S fun ρ2 S2 => mk ρ2 S2 fun k S4 => mv ρ2 S4 fun f S5 => (acc.get k).isSome = true ∧ acc.size < sizeLine ∧ N (acc.put k f) S5) →
    QD (xs.foldl put acc) S → dcompL gd g wYes mk mv ρ (xs.map e) acc S QD
  | [], acc, _, q => ⟨hgd, q⟩
  | x :: r, acc, ht, q => by
    refine ⟨hgd, ?_⟩
    simp only [wYes, if_true]
    exact ht x (List.mem_cons_self ..) acc (fun d S' => dcompL gd g wYes mk mv ρ (r.map e) d S' QD) (dcompL_map hgd e put sz r _ (fun y hy => ht y (List.mem_cons_of_mem _ hy)) q)
end
end DL

set_option maxHeartbeats 4000000
/-! a value as a key: an int, or a tuple of ints that the text has made -/
namespace DL
open PySem PySem.Spec PyProof.Rows L2
def keyOf : F → Option KF
  | .int i => some (.i i)
  | .tup fs => match intsOf fs with | some k => some (.t k) | none => (keysOf fs).map .m
  | _ => none
def wKv (m : W F) : W KF := fun ρ S Q => m ρ S fun x S1 => match keyOf x with | some k => Q k S1 | none => False
theorem kd_val {X : Cx} {e : Expr} {m : W F} (hT : constT = false) (h : PD X e m) : PKD X e (wKv m) := by
  refine ⟨fun ρ S Q Q' k q => h.mono _ _ _ _ (fun x S1 q => ?_) q, weakE h.run fun σ H Q ⟨ρ, S, Z, r, R, q⟩ => ?_⟩
  · skip
    split at q
    · exact k _ _ q
    · exact q.elim
  · refine ⟨ρ, S, Z, r, R, h.mono _ _ _ _ (fun x S1 q v Z1 H1 e1 R1 d => ?_) q⟩
    dsimp only at q
    split at q
    · rename_i k ek
      refine q v Z1 H1 e1 R1 ?_
      cases x with
      | int i =>
        cases ek
        exact den_int d
      | tup fs =>
        have ek : (match intsOf fs with | some k => some (KF.t k) | none => (keysOf fs).map KF.m) = some k := ek
        cases en : intsOf fs with
        | some ns =>
          rw [en] at ek
          obtain rfl : KF.t ns = k := Option.some.inj ek
          rw [intsOf_eq en] at d
          cases d with
          | tup h1 h2 =>
            rcases h1 with h1 | h1
            · refine ⟨_, rfl, ?_⟩
              rw [h1, h2.ints, List.map_map]
              rfl
            · rw [hT] at h1
              exact absurd h1.1 Bool.false_ne_true
        | none =>
          rw [en] at ek
          obtain ⟨ns, en, rfl⟩ := Option.map_eq_some_iff.mp ek
          cases d with
          | tup h1 h2 =>
            rcases h1 with h1 | h1
            · refine ⟨_, rfl, ?_⟩
              rw [h1, keysOf_den en h2]
            · rw [hT] at h1
              exact absurd h1.1 Bool.false_ne_true
      | _ => cases ek
    · exact q.elim
@[simp, simp ↓] theorem wKv_ev {m : W F} {ρ : Slots} {S : Sto} {Q : KF → Sto → Prop} : wKv m ρ S Q = m ρ S fun x S1 => match keyOf x with | some k => Q k S1 | none => False := (rfl)
@[simp, simp ↓] theorem keyOf_int {i : Int} : keyOf (.int i) = some (.i i) := (rfl)
@[simp] theorem keyOf_row {r : List Int} : keyOf (rowF r) = some (.t r) := by
  show (match intsOf (r.map F.int) with | some k => some (KF.t k) | none => _) = _
  rw [intsOf_map]
@[simp] theorem keyOf_tup {r : List Int} : keyOf (.tup (r.map F.int)) = some (.t r) := keyOf_row
end DL

set_option maxHeartbeats 4000000
/-! list.remove of an int, list.insert -/
namespace DL
open PySem PySem.Spec PyProof.Rows L2
theorem erase_at (k : Int) : ∀ ns : List Int, k ∈ ns → ∃ j, ns[j]? = some k ∧ (∀ m : Nat, m < j → ns[m]? ≠ some k) ∧ ns.erase k = ns.eraseIdx j
  | [], h => absurd h List.not_mem_nil
  | x :: r, h => by
    by_cases e : x = k
    · subst e
      exact ⟨0, rfl, fun m hm => absurd hm (Nat.not_lt_zero _), by rw [List.erase_cons_head]; rfl⟩
    · obtain ⟨j, h1, h2, h3⟩ := erase_at k r ((List.mem_cons.mp h).resolve_left fun q => e q.symm)
      refine ⟨j + 1, h1, fun m hm => ?_, ?_⟩
      · cases m with
        | zero => simpa using e
        | succ m => exact h2 m (by omega)
      · rw [List.erase_cons_tail (by simpa using e), h3]
        rfl
def mRemove : DMt := fun x xs S Q => match x, xs with
  | .loc a, [.int k] => (match S a with | some fs => ∃ ns : List Int, fs = ns.map F.int ∧ k ∈ ns ∧ Q .non (updS S a ((ns.erase k).map F.int)) | none => False)
  | _, _ => False
theorem m_remove {X : Cx} : MtD X "list.remove" mRemove := by
  refine ⟨fun d xs S Q Q' k h => ?_, mtWeak mt_remove fun v vs H Q ⟨d, ds, S, Z, dv, dvs, R, h⟩ => ?_⟩
  · unfold mRemove at h ⊢
    split at h
    · split at h
      · obtain ⟨ns, h1, h2, h3⟩ := h
        exact ⟨ns, h1, h2, k _ _ h3⟩
      · exact h.elim
    · exact h.elim
  · unfold mRemove at h
    split at h
    · split at h
      · rename_i k _ fs e0
        obtain ⟨ns, rfl, hk, q⟩ := h
        obtain ⟨w, rfl, dw⟩ := dens1 dvs
        cases dv
        obtain ⟨us, h1, h2⟩ := R.s _ _ e0
        have eu := h2.ints
        subst eu
        obtain ⟨j, j1, j2, j3⟩ := erase_at k ns hk
        rw [j3] at q
        exact ⟨_, ns, k, j, rfl, by rw [den_int dw], h1, j1, j2, fin_write (vs := ns.map V.int) R e0 (dens_ints _) .non q⟩
      · exact h.elim
    · exact h.elim
@[simp, simp ↓] theorem mRemove_ev {a : Addr} {k : Int} {S : Sto} {Q : F → Sto → Prop} : mRemove (.loc a) [.int k] S Q = (match S a with | some fs => ∃ ns : List Int, fs = ns.map F.int ∧ k ∈ ns ∧ Q .non (updS S a ((ns.erase k).map F.int)) | none => False) := rfl
def mInsert : DMt := fun x xs S Q => match x, xs with
  | .loc a, [.int i, y] => (match S a with | some fs => fs.length < sizeLine ∧ 0 ≤ i ∧ i < 2 ^ 63 ∧ Q .non (updS S a (fs.take i.toNat ++ [y] ++ fs.drop i.toNat)) | none => False)
  | _, _ => False
theorem m_insert {X : Cx} : MtD X "list.insert" mInsert := by
  refine ⟨fun d xs S Q Q' k h => ?_, mtWeak mt_insert fun v vs H Q ⟨d, ds, S, Z, dv, dvs, R, h⟩ => ?_⟩
  · unfold mInsert at h ⊢
    split at h
    · split at h
      · exact ⟨h.1, h.2.1, h.2.2.1, k _ _ h.2.2.2⟩
      · exact h.elim
    · exact h.elim
  · unfold mInsert at h
    split at h
    · split at h
      · rename_i i y _ fs e0
        obtain ⟨w1, w2, rfl, d1, d2⟩ := dens2 dvs
        cases dv
        obtain ⟨us, h1, h2⟩ := R.s _ _ e0
        exact ⟨_, us, i, w2, rfl, by rw [den_int d1], h1, by rw [h2.length]; exact h.1, h.2.1, h.2.2.1, fin_write (vs := us) R e0 (((h2.take _).append (.cons d2 .nil)).append (h2.drop _)) .non h.2.2.2⟩
      · exact h.elim
    · exact h.elim
@[simp, simp ↓] theorem mInsert_ev {a : Addr} {i : Int} {y : F} {S : Sto} {Q : F → Sto → Prop} : mInsert (.loc a) [.int i, y] S Q = (match S a with | some fs => fs.length < sizeLine ∧ 0 ≤ i ∧ i < 2 ^ 63 ∧ Q .non (updS S a (fs.take i.toNat ++ [y] ++ fs.drop i.toNat)) | none => False) := rfl
end DL

set_option maxHeartbeats 4000000
/-! name = {k: v for ..}, the name a local: turned from the library's rule for lists -/
namespace DL
open PySem PySem.Spec PyProof.Rows L2
section
variable {X : Cx}
theorem ps_setDcA {i : Nat} {y : Str} {py : Pos} {kx vx tgt itr : Expr} {cs : List Expr} {sc : Scope} {ow : List (Str × Nat)} {po sp : Pos} {o0 : HO} {wi : TI} {g : TG} {tt : TT} {tk tv : TE} (ho : o0 = .dK [] ∨ o0 = .dT []) (hu : X.A.units < cLine) (hc : X.calm = true) (hN : X.N.Nodup)
    (hy : X.N[i]? = some y) (hyl : X.env.scope.names.lookup y = some .local) (hsw : swapsWith (.DictComp kx vx [⟨tgt, itr, cs, 0⟩] sc po) (some (.Name y py)) sp.line X.env = pure true) (hi : PI X tgt itr wi) (ok : BlkOk X.N X.env.scope sc ow)
    (hg : ∀ (s : Shared) (H : Hp) (C : Addr) (cl : List (Str × Addr)) (fp : List Addr), PG (X.blk s H sc (compEnvC sc cl C X.env) fp) tgt g) (ht : ∀ (s : Shared) (H : Hp) (C : Addr) (cl : List (Str × Addr)) (fp : List Addr), PTs (X.blk s H sc (compEnvC sc cl C X.env) fp) cs tt)
    (hk : ∀ (s : Shared) (H : Hp) (C : Addr) (cl : List (Str × Addr)) (fp : List Addr), PE (X.blk s H sc (compEnvC sc cl C X.env) fp) kx tk) (he : ∀ (s : Shared) (H : Hp) (C : Addr) (cl : List (Str × Addr)) (fp : List Addr), PE (X.blk s H sc (compEnvC sc cl C X.env) fp) vx tv)
    (hs : ∀ x, foldedSetIterable itr X.env x = pure x := by intro _; rfl) : PS X (.Assign [.Name y py] (.DictComp kx vx [⟨tgt, itr, cs, 0⟩] sc po) sp) (tAsg (tDcA o0 wi g tt tk tv (ow.map (·.2))) (gName i)) := by
  refine ⟨fun pn s σ H D I h0 => ?_⟩
  rw [exec_Assign_Name_used (hs := hsw)]
  refine wpAny_bind <| wpAny_standAt <| wpAny_bind ?_
  show wpAny _ X.A (do let _ ← comprehension (.DictComp kx vx [⟨tgt, itr, cs, 0⟩] sc po) sc X.env (firstIterPos [⟨tgt, itr, cs, 0⟩] po) newDict false (eval itr X.env) (some (assign (.Name y py) X.env))) _ _ s
  have h1 : tDcA o0 wi g tt tk tv (ow.map (·.2)) σ H (fun x H1 => gName i x σ H1 D.nx) := h0
  refine wpAny_bind (thn (dcA_core (Qf := fun _ s' => SP X pn D .next s') ho hu hc hN I hi ok hg ht hk he hs h1 fun L C s' m H' I' q hn f => ?_) fun _ s' hq => wpAny_pure (wpAny_pure hq))
  show wpAny _ _ (assign (.Name y py) X.env (.ref L)) _ _ s'
  refine wpAny_assign_Name <| (store_ok2 (v := V.ref L) I' hN hy (.inl hyl) rfl (fun s2 I2 ⟨a, sb, ha⟩ => ?_) (.inr hyl))
  obtain ⟨c0, c1, c2, c3, c4, c5⟩ := f
  have hne : C ≠ a := ha.elim (fun z => by rw [z]; exact c1) fun z e => c4 y a z e.symm
  exact ⟨m, hn.sameBut sb hne, fun h3 sb3 => ⟨_, H', I2.turned (t' := s2.toks) (fun b o hb e => (sb3.2 b hb).trans e) c0 c1 c3 c4 c5, q⟩⟩
theorem sw_trueD {kx vx : Expr} {gs : List Comprehension} {sc : Scope} {po py : Pos} {y : Str} {l : Nat} {env : Env} (hk : env.scope.kind = .function) (hy : env.scope.names.lookup y = some .local) (hl : (py.line == po.line) = true)
    (ha : (sc.names.any fun (n, k) => n == y && (k == .local || k == .cell)) = false) : swapsWith (.DictComp kx vx gs sc po) (some (.Name y py)) l env = pure true := by
  have h1 : env.kindOf y = some .local := hy
  have h2 : env.blockKind = .function := by unfold Env.blockKind; rw [hk]; rfl
  unfold swapsWith
  simp only [h2, h1, ha, Expr.pos, hl]
  rfl
variable {kx vx tg iter : Expr} {ifs : List Expr} {scope : Scope} {own : List (Str × Nat)} {pos spos py : Pos} {y : Str} {mi : W ItD} {g : DG} {mt : W Bool} {mk : W KF} {mv : W F}
theorem psd_setDc {i : Nat} {o0 : HO} {c0 : DC} (h0 : ∀ Z, DHold X.K Z o0 c0) (ho : o0 = .dK [] ∨ o0 = .dT []) (hu : X.A.units + 65 < cLine) (hc : X.calm = true) (hN : X.N.Nodup) (hy : X.N[i]? = some y) (hyl : X.env.scope.names.lookup y = some .local)
    (hsw : swapsWith (.DictComp kx vx [⟨tg, iter, ifs, 0⟩] scope pos) (some (.Name y py)) spos.line X.env = pure true) (hi : PID X tg iter mi) (ok : BlkOk X.N X.env.scope scope own)
    (hg : ∀ (s : Shared) (H : Hp) (C : Addr) (cl : List (Str × Addr)) (fp : List Addr), PGD (X.blk s H scope (compEnvC scope cl C X.env) fp) (own.map (·.2)) tg g) (ht : ∀ (s : Shared) (H : Hp) (C : Addr) (cl : List (Str × Addr)) (fp : List Addr), PTsD (X.blk s H scope (compEnvC scope cl C X.env) fp) ifs mt)
    (hk : ∀ (s : Shared) (H : Hp) (C : Addr) (cl : List (Str × Addr)) (fp : List Addr), PKD (X.blk s H scope (compEnvC scope cl C X.env) fp) kx mk) (hv : ∀ (s : Shared) (H : Hp) (C : Addr) (cl : List (Str × Addr)) (fp : List Addr), PD (X.blk s H scope (compEnvC scope cl C X.env) fp) vx mv)
    (hs : ∀ x, foldedSetIterable iter X.env x = pure x := by intro _; rfl) : PSD X (.Assign [.Name y py] (.DictComp kx vx [⟨tg, iter, ifs, 0⟩] scope pos) spos) (sAsg (wDComp c0 (own.map (·.2)) mi g mt mk mv) (gN i)) :=
  have s0 : Shared := X.s_0
  have mm := mono_wDComp (c0 := c0) (own := own.map (·.2)) hi.mono (hg s0 X.H_0 0 [] []).mono (ht s0 X.H_0 0 [] []).mono (hk s0 X.H_0 0 [] []).mono (hv s0 X.H_0 0 [] []).mono
  ⟨mono_sAsg mm mono_gN,
   fun W tk => weakS (ps_setDcA ho (by omega) hc hN hy hyl hsw hi.run ok (fun s H C cl fp => (hg s H C cl fp).run) (fun s H C cl fp => (ht s H C cl fp).run) (fun s H C cl fp => (hk s H C cl fp).run) (fun s H C cl fp => (hv s H C cl fp).run) hs)
    fun D σ H ⟨ρ, S, Z, r, R, h⟩ => by
      refine dcomp_in h0 hi.mono (hg s0 X.H_0 0 [] []).mono (ht s0 X.H_0 0 [] []).mono (hk s0 X.H_0 0 [] []).mono (hv s0 X.H_0 0 [] []).mono ⟨ρ, S, Z, r, R, mm _ _ _ _ (fun d S' q v Z' H' e R' dv => ?_) h⟩
      exact q (σ.set i (some v)) Z' H' e ((r.ext e.z).set i dv) R'⟩
end
end DL

set_option maxHeartbeats 4000000
/-! dict comprehensions by an invariant of the part walked; a dict of rows, all True -/
namespace DL
open PySem PySem.Spec PyProof.Rows L2
theorem dcompL_list {α : Type} {gd : Sto → Prop} {g : DG} {mt : W Bool} {mk : W KF} {mv : W F} {ρ : Slots} {S : Sto} {QD : DC → Sto → Prop} (hgd : gd S) (e : α → F) (xs : List α) (J : List α → DC → Prop)
    (ht : ∀ ys x zs acc (N : DC → Sto → Prop), xs = ys ++ x :: zs → J ys acc → (∀ acc', J (ys ++ [x]) acc' → N acc' S) → g (e x) ρ S fun ρ2 S2 => mt ρ2 S2 fun b S3 => if b = true then mk ρ2 S3 fun k S4 => mv ρ2 S4 fun f S5 => (acc.get k).isSome = true ∧ acc.size < sizeLine ∧ N (acc.put k f) S5 else N acc S3)
    (hq : ∀ acc, J xs acc → QD acc S) {acc0 : DC} (h0 : J [] acc0) : dcompL gd g mt mk mv ρ (xs.map e) acc0 S QD := by
  have gen : ∀ (zs ys : List α) (acc : DC), xs = ys ++ zs → J ys acc → dcompL gd g mt mk mv ρ (zs.map e) acc S QD := by
    intro zs
    induction zs with
    | nil =>
      intro ys acc hx hj
      rw [List.append_nil] at hx
      rw [← hx] at hj
      exact ⟨hgd, hq _ hj⟩
    | cons x zs ih =>
      intro ys acc hx hj
      exact ⟨hgd, ht ys x zs acc (fun d S' => dcompL gd g mt mk mv ρ (zs.map e) d S' QD) hx hj fun acc' h => ih (ys ++ [x]) acc' (by rw [hx, List.append_assoc]; rfl) h⟩
  exact gen xs [] acc0 rfl h0
/-- a dict with just these rows -/
def RowsD (t : List (List Int)) (kvs : List (List Int × F)) : Prop := kvs.length ≤ t.length ∧ ∀ r, (fndF kvs r).isSome = t.contains r
theorem rowsD_nil : RowsD [] [] := ⟨Nat.le_refl _, fun r => rfl⟩
theorem rowsD_put {t : List (List Int)} {kvs : List (List Int × F)} (h : RowsD t kvs) (r : List Int) (v : F) : RowsD (t ++ [r]) (putF kvs r v) := by
  refine ⟨Nat.le_trans (put_len _ _ _) (by rw [List.length_append]; exact Nat.add_le_add h.1 (Nat.le_refl _)), fun s => ?_⟩
  rw [put_fnd]
  by_cases e : s = r
  · rw [if_pos e]
    have hm : s ∈ t ++ [r] := List.mem_append.mpr (.inr (List.mem_singleton.mpr e))
    rw [List.contains_iff_mem.mpr hm]
    rfl
  · rw [if_neg e, h.2 s, Bool.eq_iff_iff, List.contains_iff_mem, List.contains_iff_mem, List.mem_append, List.mem_singleton]
    exact ⟨.inl, fun q => q.resolve_right e⟩
end DL

set_option maxHeartbeats 4000000
/-! n *= k of ints -/
namespace DL
open PySem PySem.Spec PyProof.Rows L2
section
variable {X : Cx}
def ipMul : DOp := fun x y S Q => match x, y with | .int i, .int j => CMul i j ∧ Q (.int (i * j)) S | _, _ => False
theorem ipd_mul : IpD X .Mult ipMul := by
  refine ⟨fun x y S Q Q' k h => ?_, fun pins s σ H x y v u Q I rx ry ⟨d, e, S, Z, dx, dy, R, h⟩ => ?_⟩
  · unfold ipMul at h ⊢
    split at h
    · exact ⟨h.1, k _ _ h.2⟩
    · exact h.elim
  · unfold ipMul at h
    split at h
    · exact iop_mul pins s σ H x y v u Q I rx ry ⟨_, _, den_int dx, den_int dy, h.1, fin_same R (.int _) h.2⟩
    · exact h.elim
end
@[simp, simp ↓] theorem ipMul_ii {i j : Int} {S : Sto} {Q : F → Sto → Prop} : ipMul (.int i) (.int j) S Q = (CMul i j ∧ Q (.int (i * j)) S) := (rfl)
end DL

set_option maxHeartbeats 4000000
/-! exceptions: defs that may raise, raise, calls of such defs -/
namespace DL
open PySem PySem.Spec PyProof.Rows L2
abbrev CtX := List F → Sto → (F → Sto → Prop) → (Value → Sto → Prop) → Prop
def MonoX (C : CtX) : Prop := ∀ xs S Q Q' E E', (∀ d S, Q d S → Q' d S) → (∀ c S, E c S → E' c S) → C xs S Q E → C xs S Q' E'
def XFin (K : PySem.W.Frag) (Z : Hp) (S : Sto) (H : Hp) (E : XK) : Value → Sto → Prop := fun c S' => ∀ Z' H', Ext Z S H Z' S' H' → RelS K Z' S' H' → E c none H'
def spCX (K : PySem.W.Frag) (C : CtX) : Sp := fun vs H Q E => ∃ fs S Z, Dens K Z vs fs ∧ RelS K Z S H ∧ C fs S (DFin K Z S H Q) (XFin K Z S H E)
structure FnDX (P : Program) (w : World) (K : PySem.W.Frag) (mg : Str → Option Value) (base : Heap) (k : Nat) (f : Addr) (fd : FuncData) (ps : List Str) (C : CtX) : Prop where
  mono : MonoX C
  ok : FnOk P w K mg base (L2.CX P w) k f fd ps (spCX K C)
structure CalX (P : Program) (w : World) (K : PySem.W.Frag) (mg : Str → Option Value) (base : Heap) (k : Nat) (x : Str) (ps : List Str) (C : CtX) : Prop where
  ex : ∃ f fd, PySem.W.keepIn K (.ref f) = true ∧ mg x = some (.ref f) ∧ L2.Binds K fd ps [] ∧ FnDX P w K mg base k f fd ps C
/-! expressions that may raise -/
abbrev WX2 := Slots → Sto → (F → Sto → Prop) → (Value → Sto → Prop) → Prop
def MonoWX (m : WX2) : Prop := ∀ ρ S Q Q' E E', (∀ d S, Q d S → Q' d S) → (∀ c S, E c S → E' c S) → m ρ S Q E → m ρ S Q' E'
def tDX (K : PySem.W.Frag) (U : XW) (m : WX2) : TE := fun σ H Q => ∃ ρ S Z, REnv K Z ρ σ ∧ RelS K Z S H ∧ m ρ S (DFin K Z S H Q) fun c S' => ∀ Z' H', Ext Z S H Z' S' H' → RelS K Z' S' H' → U c σ H'
structure PDX (X : Cx) (e : Expr) (m : WX2) : Prop where
  mono : MonoWX m
  run : ∀ U, TkX X U → PE X e (tDX X.K U m)
section
variable {X : Cx} {e : Expr} {es : List Expr} {p pos : Pos} {x y : Str} {ms : W (List F)} {m : WX2}
variable {k j : Nat} {f : Addr} {fd : FuncData} {ps : List Str} {C : CtX}
def wCallX (C : CtX) (ms : W (List F)) : WX2 := fun ρ S Q E => ms ρ S fun xs S1 => C xs S1 Q E
theorem pdx_call (G : FnDX X.prog X.w X.K X.mg X.base k f fd ps C) (hr : Room k X.A) (hg : Gl X x) (hm : X.mg x = some (.ref f)) (hk : PySem.W.keepIn X.K (.ref f) = true) (hb : Binds X.K fd ps []) (ha : PDs X (e :: es) ms) (hdb : (x == ("__debug__" : Str)) = false := by decide)
    (hs : starEach (e :: es) X.env = (false, eval e X.env) :: starEach es X.env := by rfl) (hplain : (backTo pos (starEach es X.env)).any (·.1) = false := by rfl) : PDX X (.Call (.Name x p) (e :: es) [] pos) (wCallX C ms) :=
  ⟨fun ρ S Q Q' E E' kq ke h => ha.mono _ _ _ _ (fun xs S1 q => G.mono _ _ _ _ _ _ kq ke q) h, fun U tk =>
    weakE (pe_callS (E := fun σ => WE (fun c d σ H => d = none ∧ U c σ H) σ) G.ok hr hg hm hk hb (passAt tk) ha.run hdb hs hplain) fun σ H Q ⟨ρ, S, Z, r, R, h⟩ => by
      refine tDs_in ha.mono r R h fun xs S1 vs Z1 H1 q e1 R1 d1 => ?_
      exact ⟨xs, S1, Z1, d1, R1, G.mono _ _ _ _ _ _ (fun d S2 q v Z2 H2 e2 R2 d2 => q v Z2 H2 (e1.trans e2) R2 d2) (fun c S2 q Z2 H2 e2 R2 => ⟨rfl, q Z2 H2 (e1.trans e2) R2⟩) q⟩⟩
theorem pdx_cal (G : CalX X.prog X.w X.K X.mg X.base k x ps C) (hr : Room j X.A) (hg : Gl X x) (hl : k ≤ j := by decide) (ha : PDs X (e :: es) ms) (hdb : (x == ("__debug__" : Str)) = false := by decide)
    (hs : starEach (e :: es) X.env = (false, eval e X.env) :: starEach es X.env := by rfl) (hplain : (backTo pos (starEach es X.env)).any (·.1) = false := by rfl) : PDX X (.Call (.Name x p) (e :: es) [] pos) (wCallX C ms) := by
  obtain ⟨f, fd, h1, h2, h3, h4⟩ := G.ex
  exact pdx_call ⟨h4.mono, h4.ok.mono hl⟩ hr hg h2 h1 h3 ha hdb hs hplain
/-! statements -/
def sAsgX (m : WX2) (i : Nat) : WS := fun D ρ S => m ρ S (fun d S1 => D.nx (ρ.set i (some d)) S1) fun c S1 => D.ex c ρ S1
theorem psd_setX {i : Nat} {pos' : Pos} (hN : X.N.Nodup) (hi : X.N[i]? = some x) (hx : Loc X.env.scope x) (he : PDX X e m) (hs : swapsWith e (some (.Name x pos')) pos.line X.env = pure false := by rfl) (hf : X.fn x = true ∨ X.env.scope.names.lookup x = some .local := by first | exact .inl rfl | exact .inr rfl | assumption) :
    PSD X (.Assign [.Name x pos'] e pos) (sAsgX m i) :=
  ⟨fun D D' ρ S h l => he.mono _ _ _ _ _ _ (fun d S q => l.nx _ _ q) (fun c S q => l.ex _ _ _ q) h, fun W tk => weakS (ps_set hN hi hx (he.run W tk) hs hf) fun D σ H ⟨ρ, S, Z, r, R, h⟩ =>
    ⟨ρ, S, Z, r, R, he.mono _ _ _ _ _ _ (fun d S1 q v Z' H' e1 R1 d1 => q _ Z' H' e1 ((r.ext e1.z).set i d1) R1) (fun c S1 q Z' H' e1 R1 => q σ Z' H' e1 (r.ext e1.z) R1) h⟩⟩
def sRetX (m : WX2) : WS := fun D ρ S => m ρ S (fun d S1 => D.rt d S1) fun c S1 => D.ex c ρ S1
theorem psd_retX (he : PDX X e m) : PSD X (.Return (some e) pos) (sRetX m) :=
  ⟨fun D D' ρ S h l => he.mono _ _ _ _ _ _ (fun d S q => l.rt _ _ q) (fun c S q => l.ex _ _ _ q) h, fun W tk => weakS (ps_ret (he.run W tk)) fun D σ H ⟨ρ, S, Z, r, R, h⟩ =>
    ⟨ρ, S, Z, r, R, he.mono _ _ _ _ _ _ (fun d S1 q v Z' H' e1 R1 d1 => q v Z' H' e1 R1 d1) (fun c S1 q Z' H' e1 R1 => q σ Z' H' e1 (r.ext e1.z) R1) h⟩⟩
def sRaise (c : Value) : WS := fun D ρ S => D.ex c ρ S
theorem psd_raise {c : Value} (hc : X.calm = true) (he : PMk X e (fun _ H Q => Q c none H)) : PSD X (.Raise (some e) none pos) (sRaise c) :=
  ⟨fun D D' ρ S h l => l.ex _ _ _ h, fun W tk => weakS (ps_raise hc tk he) fun D σ H ⟨ρ, S, Z, r, R, h⟩ => ⟨rfl, h σ Z H .refl r R⟩⟩
end
end DL

set_option maxHeartbeats 4000000
/-! exceptions: defs that may raise, try .. except X as n, isinstance of what is caught -/
namespace DL
open PySem PySem.Spec PyProof.Rows L2
/-- an exception class of the text over ValueError, made by one text -/
structure ExK (K : PySem.W.Frag) (mg : Str → Option Value) (x : Str) (C : Addr) : Prop where
  g : mg x = some (.ref C)
  q : PySem.W.excIn K C [.type "ValueError", .type "Exception", .type "BaseException", .type "object"] "ValueError.__new__" = true
  k : PySem.W.keepIn K (.ref C) = true
  s : PySem.W.subIn K (.ref C) (.type "BaseException") = some true
  t : PySem.W.typeIn K (.ref C) = some (.type "type")
/-- a class of the text, by its name -/
structure GK (mg : Str → Option Value) (x : Str) (C : Addr) : Prop where
  g : mg x = some (.ref C)
theorem tkX_of {X : Cx} {W : XW} {U : WX} (tk : L2.Takes X U) (h : ∀ c σ H, W c σ H → U c none σ H) : TkX X W := tk.imp fun c d σ H ⟨e, w⟩ => by
  subst e
  exact h c σ H w
theorem REnv.unset {K : PySem.W.Frag} {Z : Hp} {ρ : Slots} {σ : Sig} (r : REnv K Z ρ σ) (i : Nat) : REnv K Z (ρ.set i none) (σ.set i none) := by
  refine ⟨by rw [List.length_set, List.length_set, r.len], fun j g e => ?_⟩
  by_cases hij : i = j
  · subst hij
    by_cases hl : i < ρ.length
    · rw [List.getElem?_set_self hl] at e
      cases e
    · rw [List.getElem?_eq_none (by rw [List.length_set]; omega)] at e
      cases e
  · rw [List.getElem?_set_ne hij] at e
    rw [List.getElem?_set_ne hij]
    exact r.at_ j g e
/-! ### a def that may raise -/
section
variable {P : Program} {w : World} {K : PySem.W.Frag} {mg : Str → Option Value} {base : Heap}
theorem fnDX {x qual : Str} {params : Arguments} {body : List Stmt} {scope : Scope} {f : Addr} {fd : FuncData} {N ps : List Str} {k : Nat} {C : CtX} (drop : Bool) (F : FunD K x qual params body scope [] [] f fd) (S : FnScope N ps scope) (mc : MonoX C) (m : WS)
    (hb : ∀ (cdv : Value) (A : Around) (outer : List Env) (s : Shared) (H : Hp) (E : XK), Room k (A.deeper (envOfC qual scope s.heap.objs.size f cdv)) →
      PSsD (cxOf (L2.CX P w) P w K mg base N qual scope f cdv A outer s H E) body m)
    (hC : ∀ fs S Q E, C fs S Q E → fs.length = ps.length ∧ m { nx := fun _ S' => Q .non (if drop = true then restr S S' else S'), rt := fun d S' => Q d (if drop = true then restr S S' else S'), ex := fun c _ S' => E c (if drop = true then restr S S' else S') } (startF N.length fs) S) : FnDX P w K mg base (k + 1) f fd ps C := by
  refine ⟨mc, F.ok S (fun vs H Q E ⟨fs, S, Z, d, R, q⟩ => by rw [d.length]; exact (hC _ _ _ _ q).1) fun cdv A outer s H vs Q E hr ⟨fs, S, Z, d, R, q⟩ => ?_⟩
  have hB := hb cdv A outer s H E hr
  refine ⟨tS K (fun c _ H' => E c none H') m, hB.run _ (tkX_of (takes_of rfl rfl rfl rfl) fun c σ H h => h), _, S, Z, renv_start d N, R, hB.mono _ _ _ _ (hC _ _ _ _ q).2 ⟨fun ρ' S' q σ' Z' H' e r' R' => ?_, fun d' S' q v Z' H' e R' d2 => ?_, fun _ _ q => False.elim q, fun _ _ q => False.elim q, fun c ρ' S' q σ' Z' H' e r' R' => ?_⟩⟩
  · cases drop with
    | true => exact q .non Z' H' e.restr (R'.restr S) .non
    | false => exact q .non Z' H' e R' .non
  · cases drop with
    | true => exact q v Z' H' e.restr (R'.restr S) d2
    | false => exact q v Z' H' e R' d2
  · cases drop with
    | true => exact q Z' H' e.restr (R'.restr S)
    | false => exact q Z' H' e R'
theorem calX_of {x qual : Str} {params : Arguments} {body : List Stmt} {scope : Scope} {f : Addr} {fd : FuncData} {ps : List Str} {k : Nat} {C : CtX} (F : FunD K x qual params body scope [] [] f fd) (g : mg x = some (.ref f)) (b : L2.Binds K fd ps []) (G : FnDX P w K mg base k f fd ps C) : CalX P w K mg base k x ps C := ⟨f, fd, F.kp, g, b, G⟩
end
section
variable {X : Cx} {e a c : Expr} {es : List Expr} {p pos pos' : Pos} {x y : Str} {ms : W (List F)} {m n : WX2} {ma : W F}
theorem psd_raiseK {C : Addr} {mm : Str} {j : Nat} {p2 : Pos} (hc : X.calm = true) (G : ExK X.K X.mg x C) (hg : Gl X x) (hdb : (x == ("__debug__" : Str)) = false := by decide) : PSD X (.Raise (some (.Call (.Name x p) [.Constant (.str mm) j p2] [] pos)) none pos') (sRaise (.ref C)) :=
  psd_raise hc (pmk_own PySem.F.excBase_ValueError G.q G.g G.k (raises_own G.s G.t) hg hdb)
/-! ### parts that may raise -/
theorem pdx_of (h : PD X e ma) : PDX X e (fun ρ S Q _ => ma ρ S Q) := ⟨fun ρ S Q Q' E E' kq ke q => h.mono _ _ _ _ kq q, fun U tk => weakE h.run fun σ H Q ⟨ρ, S, Z, r, R, q⟩ => ⟨ρ, S, Z, r, R, q⟩⟩
abbrev WXs := Slots → Sto → (List F → Sto → Prop) → (Value → Sto → Prop) → Prop
def tDsX (K : PySem.W.Frag) (U : XW) (m : WXs) : TA := fun σ H Q => ∃ ρ S Z, REnv K Z ρ σ ∧ RelS K Z S H ∧ m ρ S (DsFin K Z S H Q) fun c S' => ∀ Z' H', Ext Z S H Z' S' H' → RelS K Z' S' H' → U c σ H'
structure PDsX (X : Cx) (es : List Expr) (m : WXs) : Prop where
  mono : ∀ ρ S Q Q' E E', (∀ d S, Q d S → Q' d S) → (∀ c S, E c S → E' c S) → m ρ S Q E → m ρ S Q' E'
  run : ∀ U, TkX X U → PA X es (tDsX X.K U m)
def wConsX (m : WX2) (ms : W (List F)) : WXs := fun ρ S Q E => m ρ S (fun x S1 => ms ρ S1 fun xs S2 => Q (x :: xs) S2) E
def wConsD (m : W F) (ms : WXs) : WXs := fun ρ S Q E => m ρ S fun x S1 => ms ρ S1 (fun xs S2 => Q (x :: xs) S2) E
theorem pdsx_x (ha : PDX X e m) (hr : PDs X es ms) (hs : starEach (e :: es) X.env = (false, eval e X.env) :: starEach es X.env := by rfl) : PDsX X (e :: es) (wConsX m ms) :=
  ⟨fun ρ S Q Q' E E' kq ke q => ha.mono _ _ _ _ _ _ (fun x S1 q => hr.mono _ _ _ _ (fun xs S2 q => kq _ _ q) q) ke q, fun U tk => weakA (pa_cons (ha.run U tk) hr.run hs) fun σ H Q ⟨ρ, S, Z, r, R, q⟩ =>
    ⟨ρ, S, Z, r, R, ha.mono _ _ _ _ _ _ (fun x S1 q v Z1 H1 e1 R1 d1 => tDs_in hr.mono (r.ext e1.z) R1 q fun xs S2 v2 Z2 H2 p e2 R2 d2 => p _ _ _ (e1.trans e2) R2 (.cons (d1.ext e2.z) d2)) (fun c S1 q => q) q⟩⟩
theorem pdsx_d {mx : WXs} (ha : PD X e ma) (hr : PDsX X es mx) (hs : starEach (e :: es) X.env = (false, eval e X.env) :: starEach es X.env := by rfl) : PDsX X (e :: es) (wConsD ma mx) :=
  ⟨fun ρ S Q Q' E E' kq ke q => ha.mono _ _ _ _ (fun x S1 q => hr.mono _ _ _ _ _ _ (fun xs S2 q => kq _ _ q) ke q) q, fun U tk => weakA (pa_cons ha.run (hr.run U tk) hs) fun σ H Q ⟨ρ, S, Z, r, R, q⟩ => by
    refine tD_in ha.mono r R q fun x S1 v1 Z1 H1 p e1 R1 d1 => ?_
    exact ⟨ρ, S1, Z1, r.ext e1.z, R1, hr.mono _ _ _ _ _ _ (fun xs S2 q v Z2 H2 e2 R2 d2 => q _ _ _ (e1.trans e2) R2 (.cons (d1.ext e2.z) d2)) (fun c S2 q Z2 H2 e2 R2 => q Z2 H2 (e1.trans e2) R2) p⟩⟩
def wTupX (mr : WXs) : WX2 := fun ρ S Q E => mr ρ S (fun xs S1 => xs.length ≤ sizeLine ∧ Q (.tup xs) S1) E
theorem pdx_tup {mx : WXs} {x1} (h : PDsX X es mx) : PDX X (.Tuple es x1 pos) (wTupX mx) :=
  ⟨fun ρ S Q Q' E E' kq ke q => h.mono _ _ _ _ _ _ (fun xs S1 q => ⟨q.1, kq _ _ q.2⟩) ke q, fun U tk => weakE (pe_tup (h.run U tk)) fun σ H Q ⟨ρ, S, Z, r, R, q⟩ => by
    refine ⟨ρ, S, Z, r, R, h.mono _ _ _ _ _ _ (fun xs S1 p vs Z1 H1 e1 R1 d1 => ?_) (fun c S1 q => q) q⟩
    refine ⟨by rw [d1.length]; exact p.1, fun t nt => ?_⟩
    obtain ⟨R2, e2⟩ := R1.newZ nt (.tup vs)
    exact p.2 _ _ _ (e1.trans e2) R2 (den_newTup (R1.nz nt) d1)⟩
def wIfX (mt : W Bool) (m n : WX2) : WX2 := fun ρ S Q E => mt ρ S fun b S1 => if b = true then m ρ S1 Q E else n ρ S1 Q E
theorem pdx_if {mt : W Bool} {b : Expr} (hc : PB X c mt) (ha : PDX X a m) (hb : PDX X b n) : PDX X (.IfExp c a b pos) (wIfX mt m n) :=
  ⟨fun ρ S Q Q' E E' kq ke q => hc.mono _ _ _ _ (fun b S1 q => by
    cases b with
    | true => exact ha.mono _ _ _ _ _ _ kq ke q
    | false => exact hb.mono _ _ _ _ _ _ kq ke q) q, fun U tk => weakE (pe_ifExp hc.run (ha.run U tk) (hb.run U tk)) fun σ H Q ⟨ρ, S, Z, r, R, h⟩ => by
    refine tB_in hc.mono r R h fun c S1 Z1 H1 q e1 R1 => ?_
    cases c with
    | true =>
      rw [if_pos rfl] at q ⊢
      exact ⟨ρ, S1, Z1, r.ext e1.z, R1, ha.mono _ _ _ _ _ _ (fun d S2 q v Z2 H2 e2 R2 d2 => q v Z2 H2 (e1.trans e2) R2 d2) (fun c S2 q Z2 H2 e2 R2 => q Z2 H2 (e1.trans e2) R2) q⟩
    | false =>
      rw [if_neg Bool.false_ne_true] at q ⊢
      exact ⟨ρ, S1, Z1, r.ext e1.z, R1, hb.mono _ _ _ _ _ _ (fun d S2 q v Z2 H2 e2 R2 d2 => q v Z2 H2 (e1.trans e2) R2 d2) (fun c S2 q Z2 H2 e2 R2 => q Z2 H2 (e1.trans e2) R2) q⟩⟩
def sExprX (m : WX2) : WS := fun D ρ S => m ρ S (fun _ S1 => D.nx ρ S1) fun c S1 => D.ex c ρ S1
theorem psd_exprX (he : PDX X e m) (hs : swapsWith e none pos.line X.env = pure false := by rfl) : PSD X (.Expr e pos) (sExprX m) :=
  ⟨fun D D' ρ S h l => he.mono _ _ _ _ _ _ (fun _ _ q => l.nx _ _ q) (fun c S q => l.ex _ _ _ q) h, fun W tk => weakS (ps_expr (he.run W tk) hs) fun D σ H ⟨ρ, S, Z, r, R, h⟩ =>
    ⟨ρ, S, Z, r, R, he.mono _ _ _ _ _ _ (fun d S1 q v Z' H' e1 R1 d1 => q σ Z' H' e1 (r.ext e1.z) R1) (fun c S1 q Z' H' e1 R1 => q σ Z' H' e1 (r.ext e1.z) R1) h⟩⟩
end
/-! ### try: .. except x as n: .. (n in slot i), an exception of the class C alone -/
def sTry1 (C : Addr) (i : Nat) (mb : WS) (ms : Addr → WS) : WS := fun D ρ S =>
  mb { nx := D.nx, rt := D.rt, bk := D.bk, ct := D.ct, ex := fun c ρ' S' => c = .ref C ∧ ∀ a, Fre S' a → ms a { nx := fun r s => D.nx (r.set i none) s, rt := D.rt, bk := fun r s => D.bk (r.set i none) s, ct := fun r s => D.ct (r.set i none) s } (ρ'.set i (some (.loc a))) S' } ρ S
theorem ps_under {X : Cx} {st : List Stmt} {p : Prop} {t : TS} (h : p → PSs X st t) : PSs X st (fun D σ H => p ∧ t D σ H) := ⟨fun pins s σ H D I q => (h q.1).run pins s σ H D I q.2⟩
theorem psd_try1 {X : Cx} {x n : Str} {C T : Addr} {i : Nat} {body suite : List Stmt} {b₀ : Stmt} {np pos pos' : Pos} {mb : WS} {ms : Addr → WS} (hs : X.stack = X.env :: X.outer) (hf : X.env.frame = some X.env.locals) (hN : X.N.Nodup) (hi : X.N[i]? = some n) (hln : X.env.kindOf n = some .local)
    (hc : Names X x (.ref T)) (hm : PySem.W.exmOne X.K (.ref C) (.ref T) = some true)
    (hb : ∀ (pn : List (Addr × Obj)) (xe : Value → Shared → Prop), PassesOwn (model X.prog X.w) X.A X.env xe → PSsD (X.tr pn xe) body mb)
    (hsu : ∀ (a : Addr) (oe : Obj) (pn : List (Addr × Obj)), Zc (.ref C) none oe → (∃ vs, oe.data = .fields vs) → PSsD (X.suite a ((a, oe) :: pn)) (b₀ :: suite) (ms a)) :
    PSD X (.Try body [.ExceptHandler (some (.Name x np)) (some n) (b₀ :: suite) pos'] [] [] pos) (sTry1 C i mb ms) := by
  have mm : MonoS mb := (hb [] (fun _ _ => False) PassesOwn.never).mono
  have mms : ∀ a, MonoS (ms a) := fun a => (hsu a ⟨.ref C, none, .fields #[], #[]⟩ [] ⟨rfl, rfl⟩ ⟨_, rfl⟩).mono
  refine ⟨fun D D' ρ S h l => mm _ _ _ _ h ⟨l.nx, l.rt, l.bk, l.ct, fun c r s q => ⟨q.1, fun a ha => mms a _ _ _ _ (q.2 a ha) ⟨fun r s q => l.nx _ _ q, l.rt, fun r s q => l.bk _ _ q, fun r s q => l.ct _ _ q, fun _ _ _ q => q⟩⟩⟩, fun W tk => weakS (ps_try_as (c := .ref T) (tb := fun U => tS X.K (fun c σ H => U c none σ H) mb) (ts := fun a cls d D σ H => (cls = .ref C ∧ d = none) ∧ tS X.K (fun _ _ _ => False) (ms a) D σ H) (Wout := fun _ _ _ _ => False) hs hf hN hi hln hc takes_none5 (fun U pn xe tk hp => (hb pn xe hp).run _ (tkX_of tk fun _ _ _ h => h)) (fun a oe cls d pn hz hd => ps_under fun ⟨e1, e2⟩ => ?_)) fun D σ H ⟨ρ, S, Z, r, R, h⟩ => ?_⟩
  · subst e1 e2
    exact (hsu a oe pn hz hd).run _ tkX_no
  · refine ⟨ρ, S, Z, r, R, mm _ _ _ _ h ⟨fun _ _ q => q, fun _ _ q => q, fun _ _ q => q, fun _ _ q => q, fun c ρ' S' q σ' Z' H' e1 r1 R1 => ?_⟩⟩
    obtain ⟨rfl, q⟩ := q
    refine ⟨true, hm, fun _ a ha => ⟨⟨rfl, rfl⟩, _, S', Z', r1.set i (.loc a), R1, mms a _ _ _ _ (q a (R1.nf ha)) ⟨fun r2 s2 q σ2 Z2 H2 e2 q2 R2 => ?_, fun d s2 q v Z2 H2 e2 R2 => q v Z2 H2 (e1.trans e2) R2, fun r2 s2 q σ2 Z2 H2 e2 q2 R2 => ?_, fun r2 s2 q σ2 Z2 H2 e2 q2 R2 => ?_, fun _ _ _ q => False.elim q⟩⟩, fun z => nomatch z⟩
    · exact q _ Z2 H2 (e1.trans e2) (q2.unset i) R2
    · exact q _ Z2 H2 (e1.trans e2) (q2.unset i) R2
    · exact q _ Z2 H2 (e1.trans e2) (q2.unset i) R2
/-! ### isinstance(e, T), isinstance(e, (T, ..)) in the suite -/
section
variable {X : Cx} {a D : Addr} {oe : Obj} {pn : List (Addr × Obj)}
theorem inst_suite {pins : List (Addr × Obj)} {σ : L2.St} {H : Hp} {s : Shared} (I : Inv (X.suite a ((a, oe) :: pn)) pins σ H s) (hz : Zc (.ref D) none oe) (hf : ∃ vs, oe.data = .fields vs) : PySem.W.InstAt s.heap a oe D none := by
  obtain ⟨hget, _⟩ := I.pin (a, oe) (List.mem_append.mpr (.inl List.mem_cons_self))
  obtain ⟨vs, hv⟩ := hf
  obtain ⟨oc, od, oda, osl⟩ := oe
  obtain ⟨h1, h2⟩ := hz
  dsimp only at h1 h2 hv
  subst h1 h2 hv
  exact ⟨hget, rfl, rfl, trivial⟩
def rIsET (K : PySem.W.Frag) (D a : Addr) : List V → Hp → VK → Prop := fun xs H Q => ∃ (tp : Addr) (cs : List V) (us : List Value) (b : Bool), xs = [.ref a, .ref tp] ∧ H tp = some (.tup cs) ∧ Paired ClsV cs us ∧ PySem.W.kitAny K (.ref D) us = some b ∧ Q (.bl b) H
theorem call_isET (C : ExcC X.K D) (hz : Zc (.ref D) none oe) (hf : ∃ vs, oe.data = .fields vs) : CallR (X.suite a ((a, oe) :: pn)) (.builtin "isinstance") (rIsET X.K D a) := by
  intro pins s σ H xs us Q I r h
  obtain ⟨tp, cs, ws, b, rfl, hT, k, e, q⟩ := h
  obtain ⟨u1, u2, rfl, r1, r2⟩ := vals2 r
  cases (show u1 = Value.ref a from r1)
  cases (show u2 = Value.ref tp from r2)
  have J := inst_suite I hz hf
  obtain ⟨_, its, rv, o, h1, h2, n, h3⟩ := (show ObjOk X.prog X.w H s.heap tp (.tup cs) from I.hok tp _ hT)
  have e3 := ClsV.all k rv
  subst e3
  obtain ⟨oc, od, dt, sl⟩ := o
  simp only at h2 h3
  subst h2 h3
  exact PySem.W.kia_tup (PySem.W.handS_kitx_exc C.hg C.hk C.hs C.hd C.ha C.hn C.ht C.hm) I.kIn J h1 e (fun z => nomatch z) fun tk => ⟨.bl b, H, I.tok tk, rfl, q⟩
def wIsE (i : Nat) (a : Addr) (b : Bool) : W F := fun ρ S Q => ρ[i]? = some (some (.loc a)) ∧ Q (.bl b) S
theorem mono_wIsE {i : Nat} {a : Addr} {b : Bool} : Mono (wIsE i a b) := fun _ _ _ _ k q => ⟨q.1, k _ _ q.2⟩
variable {i : Nat} {n x : Str} {p p1 p2 pos : Pos} {b : Bool}
theorem pd_isE {T : Addr} (C : ExcC X.K D) (hz : Zc (.ref D) none oe) (hf : ∃ vs, oe.data = .fields vs) (hg : Gl X "isinstance") (hm : X.mg "isinstance" = none) (hn : PE (X.suite a ((a, oe) :: pn)) (.Name n p1) (tVar i)) (hgx : Gl X x) (hx : X.mg x = some (.ref T)) (hk : PySem.W.kitOne X.K (.ref D) (.ref T) = some b) (hdb : (x == ("__debug__" : Str)) = false := by decide) :
    PD (X.suite a ((a, oe) :: pn)) (.Call (.Name "isinstance" p) [.Name n p1, .Name x p2] [] pos) (wIsE i a b) := by
  have g : PE (X.suite a ((a, oe) :: pn)) (.Name x p2) (tC (.ref T)) := pe_glob (X := X.suite a ((a, oe) :: pn)) (v := .ref T) hgx hx rfl hdb
  refine ⟨mono_wIsE, weakE (pe_callB (X := X.suite a ((a, oe) :: pn)) (call_isE C hz hf) hg hm (by decide +kernel) (pa_cons hn (pa_cons g pa_nil))) fun σ H Q ⟨ρ, S, Z, r, R, h, q⟩ => ?_⟩
  obtain ⟨v, ev, dv⟩ := r.at_ i _ h
  cases dv
  exact ⟨_, ev, _, .ref T, b, rfl, fun u hu => hu, hk, q _ Z H .refl R (.bl b)⟩
/-- names of classes, one behind another -/
inductive PCls (X : Cx) : List Expr → List Addr → Prop
  | nil : PCls X [] []
  | cons {x : Str} {p : Pos} {T : Addr} {es : List Expr} {Ts : List Addr} (hg : Gl X x) (hx : X.mg x = some (.ref T)) (hdb : (x == ("__debug__" : Str)) = false) (hs : starEach (.Name x p :: es) X.env = (false, eval (.Name x p) X.env) :: starEach es X.env) (r : PCls X es Ts) : PCls X (.Name x p :: es) (T :: Ts)
def tCls : List Addr → TA
  | [] => tNil
  | T :: r => tCons (tC (.ref T)) (tCls r)
theorem pcls_pa {X : Cx} {es : List Expr} {Ts : List Addr} (h : PCls X es Ts) : PA X es (tCls Ts) := by
  induction h with
  | nil => exact pa_nil
  | cons hg hx hdb hs r ih => exact pa_cons (pe_glob hg hx rfl hdb) ih hs
theorem tCls_ok {σ : L2.St} {H : Hp} : ∀ {Ts : List Addr} {Q : List V → Hp → Prop}, Q (Ts.map V.ref) H → tCls Ts σ H Q
  | [], _, q => q
  | T :: r, Q, q => by
    show tCls r σ H fun xs H2 => Q (V.ref T :: xs) H2
    exact tCls_ok q
theorem clsV_all : ∀ (Ts : List Addr), Paired ClsV (Ts.map V.ref) (Ts.map Value.ref)
  | [] => .nil
  | T :: r => .cons (.own T) (clsV_all r)
theorem pd_isET {es : List Expr} {Ts : List Addr} {kt} {pt : Pos} (C : ExcC X.K D) (hz : Zc (.ref D) none oe) (hf : ∃ vs, oe.data = .fields vs) (hg : Gl X "isinstance") (hm : X.mg "isinstance" = none) (hn : PE (X.suite a ((a, oe) :: pn)) (.Name n p1) (tVar i))
    (hT : PCls (X.suite a ((a, oe) :: pn)) es Ts) (hl : Ts.length ≤ 100) (hk : PySem.W.kitAny X.K (.ref D) (Ts.map Value.ref) = some b) :
    PD (X.suite a ((a, oe) :: pn)) (.Call (.Name "isinstance" p) [.Name n p1, .Tuple es kt pt] [] pos) (wIsE i a b) := by
  refine ⟨mono_wIsE, weakE (pe_callB (X := X.suite a ((a, oe) :: pn)) (call_isET C hz hf) hg hm (by decide +kernel) (pa_cons hn (pa_cons (pe_tup (pcls_pa hT)) pa_nil))) fun σ H Q ⟨ρ, S, Z, r, R, h, q⟩ => ?_⟩
  obtain ⟨v, ev, dv⟩ := r.at_ i _ h
  cases dv
  refine ⟨_, ev, tCls_ok ⟨by rw [List.length_map]; exact mil (by omega), fun t ht => ?_⟩⟩
  obtain ⟨R2, e2⟩ := R.newZ ht (.tup (Ts.map V.ref))
  exact ⟨t, _, _, b, rfl, upd_same, clsV_all Ts, hk, q _ _ _ e2 R2 (.bl b)⟩
end
/-- what isinstance asks of the class of a caught exception, as a Bool -/
def exB (K : PySem.W.Frag) (D : Addr) : Bool := decide (PySem.W.findIn K (.ref D) "__getattribute__" = some (some (.builtin "BaseException.__getattribute__"))) && (decide (PySem.W.findIn K (.ref D) "__getattr__" = some none) && (decide (PySem.W.subIn K (.ref D) (.type "BaseException") = some true) &&
  (PySem.W.hasDictIn K D && (decide (PySem.W.findIn K (.ref D) "__class__" = some (some (.builtin "object.__class__"))) && (decide (PySem.W.specialIn K (.builtin "object.__class__") "__get__" = some (some (.builtin "getset_descriptor.__get__"))) && (decide (PySem.W.takesIn K (.builtin "object.__class__") = some true) && decide (PySem.W.mroIn K D (.type "object") = some true)))))))
theorem exB_ok {K : PySem.W.Frag} {D : Addr} (h : exB K D = true) : ExcC K D := by
  unfold exB at h
  simp only [Bool.and_eq_true, decide_eq_true_eq] at h
  obtain ⟨h1, h2, h3, h4, h5, h6, h7, h8⟩ := h
  exact ⟨h1, h2, h3, h4, h5, h6, h7, h8⟩
/-! rows for simp -/
section
variable {ρ : Slots} {S : Sto} {Q : F → Sto → Prop} {QL : List F → Sto → Prop} {E : Value → Sto → Prop} {D : EndsD} {m n : WX2} {ma : W F} {ms : W (List F)} {mx : WXs} {C : CtX} {c : Value} {i : Nat} {mt : W Bool} {mb : WS} {a : Addr} {b : Bool} {mS : Addr → WS}
@[simp, simp ↓] theorem sRaise_ev : sRaise c D ρ S = D.ex c ρ S := (rfl)
@[simp, simp ↓] theorem sAsgX_ev : sAsgX m i D ρ S = m ρ S (fun d S1 => D.nx (ρ.set i (some d)) S1) fun c S1 => D.ex c ρ S1 := (rfl)
@[simp, simp ↓] theorem sRetX_ev : sRetX m D ρ S = m ρ S (fun d S1 => D.rt d S1) fun c S1 => D.ex c ρ S1 := (rfl)
@[simp, simp ↓] theorem sExprX_ev : sExprX m D ρ S = m ρ S (fun _ S1 => D.nx ρ S1) fun c S1 => D.ex c ρ S1 := (rfl)
@[simp, simp ↓] theorem wCallX_ev : wCallX C ms ρ S Q E = ms ρ S fun xs S1 => C xs S1 Q E := (rfl)
@[simp, simp ↓] theorem wConsX_ev : wConsX m ms ρ S QL E = m ρ S (fun x S1 => ms ρ S1 fun xs S2 => QL (x :: xs) S2) E := (rfl)
@[simp, simp ↓] theorem wConsD_ev : wConsD ma mx ρ S QL E = ma ρ S fun x S1 => mx ρ S1 (fun xs S2 => QL (x :: xs) S2) E := (rfl)
@[simp, simp ↓] theorem wTupX_ev : wTupX mx ρ S Q E = mx ρ S (fun xs S1 => xs.length ≤ sizeLine ∧ Q (.tup xs) S1) E := (rfl)
@[simp, simp ↓] theorem wIfX_ev : wIfX mt m n ρ S Q E = mt ρ S fun b S1 => if b = true then m ρ S1 Q E else n ρ S1 Q E := (rfl)
@[simp, simp ↓] theorem sTry1_ev : sTry1 a i mb mS D ρ S = mb { nx := D.nx, rt := D.rt, bk := D.bk, ct := D.ct, ex := fun c ρ' S' => c = .ref a ∧ ∀ a, Fre S' a → mS a { nx := fun r s => D.nx (r.set i none) s, rt := D.rt, bk := fun r s => D.bk (r.set i none) s, ct := fun r s => D.ct (r.set i none) s } (ρ'.set i (some (.loc a))) S' } ρ S := (rfl)
@[simp, simp ↓] theorem wIsE_ev : wIsE i a b ρ S Q = (ρ[i]? = some (some (.loc a)) ∧ Q (.bl b) S) := (rfl)
end
/-- a statement that is never reached -/
def sBad : WS := fun _ _ _ => False
theorem psd_never {X : Cx} {st : Stmt} : PSD X st sBad := ⟨fun _ _ _ _ h _ => h.elim, fun W tk => ⟨fun pins s σ H D I ⟨_, _, _, _, _, h⟩ => h.elim⟩⟩
end DL

set_option maxHeartbeats 4000000
namespace DL.K58
open PySem PySem.Spec PyProof.Rows L2 DL
/-! printed by gen.py: what each def of toldbysums_k58_whole_numbers_of_lines computes, def by def -/
def topS (i : Nat) : Stmt := PySem.Challenge.pw_toldbysums_k58_whole_numbers_of_lines.main.body.getD i (.Pass ⟨0, 0, 0, 0⟩)

abbrev s_behind_block : Stmt := topS 8
abbrev names_behind_block : List Str := ["clue", "told", "at", "k", "end", "cell"]
theorem sc_behind_block : FnScope names_behind_block ["clue", "told", "at", "k"] (defScope s_behind_block) := ⟨rfl, rfl, rfl, by decide +kernel, rfl, by decide +kernel, by decide +kernel⟩
def w_behind_block : WS :=
  (sSeq (sAsg (wOp oAdd (wVar 2) (wOp oIx (wVar 0) (wVar 3))) (gN 4))
    (sSeq (sIf (bOr (wTst (wOp oGt (wVar 4) (wCall cLen (wCons (wVar 1) wNil)))) (wTst (wCall cAny (wCons (wFrz (wComp [5] (wIt (wSl (wVar 1) (wPart (wVar 2)) (wPart (wVar 4)))) (gN 5) wYes (wOp oEq (wVar 5) (wC (.int 0))))) wNil)))) (sRet (wC .non)) sNext)
    (sSeq (sIf (wTst (wOp oEq (wVar 4) (wCall cLen (wCons (wVar 1) wNil)))) (sRet (wVar 4)) sNext)
    (sRet (wIf (wTst (wOp oEq (wOp oIx (wVar 1) (wVar 4)) (wC (.int 1)))) (wC .non) (wOp oAdd (wVar 4) (wC (.int 1))))))))
section
variable {P : Program} {w : World} {K : PySem.W.Frag} {mg : Str → Option Value} {base : Heap}
theorem body_behind_block (B : Bl mg) {f : Addr} {qual : Str} (cdv : Value) (A : Around) (outer : List Env) (s : Shared) (H : Hp) (hr : Room 0 (A.deeper (envOfC qual (defScope s_behind_block) s.heap.objs.size f cdv))) :
    PSsD (cxOf CX0 P w K mg base names_behind_block qual (defScope s_behind_block) f cdv A outer s H E0).nox (defBody s_behind_block) (w_behind_block) :=
  (pssd_cons (psd_set (i := 4) sc_behind_block.nd rfl (by first | exact .inl rfl | exact .inr rfl) (pd_op o_add (pd_var (pv 2)) (pd_ix ix_all (pd_var (pv 0)) (pd_var (pv 3)) (fun _ _ => rfl))))
    (pssd_cons (psd_if (PBW.pb (pb_or (pb_cmp o_gt (pd_var (pv 4)) (pd_callB c_len (by rfl) B.len (by decide +kernel) (pds_cons (pd_var (pv 1)) pds_nil)) (nomark _)) (pb_or1 (pb_val (pd_callB (c_any rfl) (by rfl) B.any (by decide +kernel) (pds_cons (pd_frz (pl_lc (own := [("cell", 5)]) rfl sc_behind_block.nd (pid_seq (pd_slice (pd_var (pv 1)) (pp_some (pd_var (pv 2))) (pp_some (pd_var (pv 4))))) (blkOk_by (N := names_behind_block) (sc := _) (by kernel_rfl)) (fun _ _ _ _ _ => (pgd_name (pg_name (i := 5) sc_behind_block.nd rfl (by first | exact .inl rfl | exact .inr rfl)) (by decide))) (fun _ _ _ _ _ => ptsd_nil) (fun _ _ _ _ _ => (pd_cmp (o_eq hr.units) (pd_var (pv 5)) pd_int (nomark _))))) pds_nil)))))) (pssd_one (psd_ret pd_non)) pssd_nil)
    (pssd_cons (psd_if (pb_cmp (o_eq hr.units) (pd_var (pv 4)) (pd_callB c_len (by rfl) B.len (by decide +kernel) (pds_cons (pd_var (pv 1)) pds_nil)) (nomark _)) (pssd_one (psd_ret (pd_var (pv 4)))) pssd_nil)
    (pssd_one (psd_ret (pd_if (pb_cmp (o_eq hr.units) (pd_ix ix_all (pd_var (pv 1)) (pd_var (pv 4)) (fun _ _ => rfl)) pd_int (nomark _)) pd_non (pd_op o_add (pd_var (pv 4)) pd_int)))))))
theorem ok_behind_block (B : Bl mg) {f : Addr} {fd : FuncData} {C : Ct} (F : FunD K "behind_block" "behind_block" (defArgs s_behind_block) (defBody s_behind_block) (defScope s_behind_block) [] [] f fd) (mc : MonoC C)
    (hC : ∀ fs S Q, C fs S Q → fs.length = 4 ∧ w_behind_block { nx := fun _ S' => Q .non S', rt := fun d S' => Q d S' } (startF 6 fs) S) : FnD P w K mg base (0 + 1) f fd ["clue", "told", "at", "k"] C :=
  fnD false F sc_behind_block mc (w_behind_block) (fun cdv A outer s H hr => body_behind_block B cdv A outer s H hr) hC
end

abbrev s_moves : Stmt := topS 9
abbrev names_moves : List Str := ["clue", "told", "at", "k", "found", "end"]
theorem sc_moves : FnScope names_moves ["clue", "told", "at", "k"] (defScope s_moves) := ⟨rfl, rfl, rfl, by decide +kernel, rfl, by decide +kernel, by decide +kernel⟩
def w_moves (c_behind_block : Ct) : WS :=
  (sSeq (sAsg (wOwn (wLst wNil)) (gN 4))
    (sSeq (sIf (bAnd (wTst (wOp oLt (wVar 2) (wCall cLen (wCons (wVar 1) wNil)))) (wTst (wOp oNe (wOp oIx (wVar 1) (wVar 2)) (wC (.int 1))))) (sExpr (wMt mAppend (wVar 4) (wCons (wTup (wCons (wTup (wCons (wC (.int 0)) wNil)) (wCons (wOp oAdd (wVar 2) (wC (.int 1))) (wCons (wVar 3) wNil)))) wNil))) sNext)
    (sSeq (sIf (wTst (wOp oLt (wVar 3) (wCall cLen (wCons (wVar 0) wNil)))) (sSeq (sAsg (wCall c_behind_block (wCons (wVar 0) (wCons (wVar 1) (wCons (wVar 2) (wCons (wVar 3) wNil))))) (gN 5))
    (sIf (wTst (wOp oIsNot (wVar 5) (wC .non))) (sExpr (wMt mAppend (wVar 4) (wCons (wTup (wCons (wOp oAdd (wOp oMul (wTup (wCons (wC (.int 1)) wNil)) (wOp oIx (wVar 0) (wVar 3))) (wOp oMul (wTup (wCons (wC (.int 0)) wNil)) (wOp oSub (wOp oSub (wVar 5) (wVar 2)) (wOp oIx (wVar 0) (wVar 3))))) (wCons (wVar 5) (wCons (wOp oAdd (wVar 3) (wC (.int 1))) wNil)))) wNil))) sNext)) sNext)
    (sRet (wVarFrz 4)))))
section
variable {P : Program} {w : World} {K : PySem.W.Frag} {mg : Str → Option Value} {base : Heap}
theorem body_moves (B : Bl mg) {c_behind_block : Ct} (k_behind_block : Cal P w K mg base 1 "behind_block" ["clue", "told", "at", "k"] c_behind_block) {f : Addr} {qual : Str} (cdv : Value) (A : Around) (outer : List Env) (s : Shared) (H : Hp) (hr : Room 1 (A.deeper (envOfC qual (defScope s_moves) s.heap.objs.size f cdv))) :
    PSsD (cxOf CX0 P w K mg base names_moves qual (defScope s_moves) f cdv A outer s H E0).nox (defBody s_moves) (w_moves c_behind_block) :=
  (pssd_cons (psd_set (i := 4) sc_moves.nd rfl (by first | exact .inl rfl | exact .inr rfl) (pd_own (pl_lst pds_nil)))
    (pssd_cons (psd_if (PBW.pb (pb_and (pb_cmp o_lt (pd_var (pv 2)) (pd_callB c_len (by rfl) B.len (by decide +kernel) (pds_cons (pd_var (pv 1)) pds_nil)) (nomark _)) (pb_and1 (pb_cmp (o_ne hr.units) (pd_ix ix_all (pd_var (pv 1)) (pd_var (pv 2)) (fun _ _ => rfl)) pd_int (nomark _))))) (pssd_one (psd_expr (pd_mt PySem.F.slot_list_append PySem.F.type_list_append m_append (pd_var (pv 4)) (pds_cons (pd_tup (pds_cons (pd_tup (pds_cons pd_int pds_nil)) (pds_cons (pd_op o_add (pd_var (pv 2)) pd_int) (pds_cons (pd_var (pv 3)) pds_nil)))) pds_nil)))) pssd_nil)
    (pssd_cons (psd_if (pb_cmp o_lt (pd_var (pv 3)) (pd_callB c_len (by rfl) B.len (by decide +kernel) (pds_cons (pd_var (pv 0)) pds_nil)) (nomark _)) (pssd_cons (psd_set (i := 5) sc_moves.nd rfl (by first | exact .inl rfl | exact .inr rfl) (pd_cal k_behind_block hr (by rfl) (pds_cons (pd_var (pv 0)) (pds_cons (pd_var (pv 1)) (pds_cons (pd_var (pv 2)) (pds_cons (pd_var (pv 3)) pds_nil))))))
    (pssd_one (psd_if (pb_cmp o_isnot (pd_var (pv 5)) pd_non (nomark _)) (pssd_one (psd_expr (pd_mt PySem.F.slot_list_append PySem.F.type_list_append m_append (pd_var (pv 4)) (pds_cons (pd_tup (pds_cons (pd_op o_add (pd_op o_mul (pd_tup (pds_cons pd_int pds_nil)) (pd_ix ix_all (pd_var (pv 0)) (pd_var (pv 3)) (fun _ _ => rfl))) (pd_op o_mul (pd_tup (pds_cons pd_int pds_nil)) (pd_op o_sub (pd_op o_sub (pd_var (pv 5)) (pd_var (pv 2))) (pd_ix ix_all (pd_var (pv 0)) (pd_var (pv 3)) (fun _ _ => rfl))))) (pds_cons (pd_var (pv 5)) (pds_cons (pd_op o_add (pd_var (pv 3)) pd_int) pds_nil)))) pds_nil)))) pssd_nil))) pssd_nil)
    (pssd_one (psd_ret (pd_varFrz (pv 4)))))))
theorem ok_moves (B : Bl mg) {c_behind_block : Ct} (k_behind_block : Cal P w K mg base 1 "behind_block" ["clue", "told", "at", "k"] c_behind_block) {f : Addr} {fd : FuncData} {C : Ct} (F : FunD K "moves" "moves" (defArgs s_moves) (defBody s_moves) (defScope s_moves) [] [] f fd) (mc : MonoC C)
    (hC : ∀ fs S Q, C fs S Q → fs.length = 4 ∧ w_moves c_behind_block { nx := fun _ S' => Q .non (restr S S'), rt := fun d S' => Q d (restr S S') } (startF 6 fs) S) : FnD P w K mg base (1 + 1) f fd ["clue", "told", "at", "k"] C :=
  fnD true F sc_moves mc (w_moves c_behind_block) (fun cdv A outer s H hr => body_moves B k_behind_block cdv A outer s H hr) hC
end

abbrev s_counts_of : Stmt := topS 10
abbrev names_counts_of : List Str := ["clue", "told", "m", "known", "at", "k", "_", "place", "blocks"]
theorem sc_counts_of : FnScope names_counts_of ["clue", "told"] (defScope s_counts_of) := ⟨rfl, rfl, rfl, by decide +kernel, rfl, by decide +kernel, by decide +kernel⟩
def w_counts_of (c_moves : Ct) : WS :=
  (sSeq (sAsg (wTup (wCons (wCall cLen (wCons (wVar 1) wNil)) (wCons (wDNew (.t [])) wNil))) (gTup2 2 (gCons2 (gN 2) (gCons2 (gN 3) gNil2))))
    (sSeq (sFor (wRangeD (wCons (wVar 2) (wCons (wNeg (wC (.int 1))) (wCons (wNeg (wC (.int 1))) wNil)))) (gN 4) (sFor (wRangeD (wCons (wCall cLen (wCons (wVar 0) wNil)) (wCons (wNeg (wC (.int 1))) (wCons (wNeg (wC (.int 1))) wNil)))) (gN 5) (sIf (wTst (wOp oEq (wVar 4) (wVar 2))) (sDSet (wVar 3) (wKt (wCons (wVar 4) (wCons (wVar 5) wNil))) (wIf (wTst (wOp oEq (wVar 5) (wCall cLen (wCons (wVar 0) wNil)))) (wC (.int 1)) (wC (.int 0)))) (sDSet (wVar 3) (wKt (wCons (wVar 4) (wCons (wVar 5) wNil))) (wCall cSum (wCons (wFrz (wComp [6, 7, 8] (wIt (wCall c_moves (wCons (wVar 0) (wCons (wVar 1) (wCons (wVar 4) (wCons (wVar 5) wNil)))))) (gTup2 3 (gCons2 (gN 6) (gCons2 (gN 7) (gCons2 (gN 8) gNil2)))) wYes (wDGet (wVar 3) (wKt (wCons (wVar 7) (wCons (wVar 8) wNil)))))) wNil))))))
    (sRet (wVar 3))))
section
variable {P : Program} {w : World} {K : PySem.W.Frag} {mg : Str → Option Value} {base : Heap}
theorem body_counts_of (B : Bl mg) {c_moves : Ct} (k_moves : Cal P w K mg base 2 "moves" ["clue", "told", "at", "k"] c_moves) {f : Addr} {qual : Str} (cdv : Value) (A : Around) (outer : List Env) (s : Shared) (H : Hp) (hr : Room 2 (A.deeper (envOfC qual (defScope s_counts_of) s.heap.objs.size f cdv))) :
    PSsD (cxOf CX0 P w K mg base names_counts_of qual (defScope s_counts_of) f cdv A outer s H E0).nox (defBody s_counts_of) (w_counts_of c_moves) :=
  (pssd_cons (psd_asg (vs := [2, 3]) (pd_tup (pds_cons (pd_callB c_len (by rfl) B.len (by decide +kernel) (pds_cons (pd_var (pv 1)) pds_nil)) (pds_cons pd_dnewT pds_nil))) (pgd_tup rfl (pgds_cons (pgd_name (pg_name (i := 2) sc_counts_of.nd rfl (by first | exact .inl rfl | exact .inr rfl)) (by decide)) (pgds_cons (pgd_name (pg_name (i := 3) sc_counts_of.nd rfl (by first | exact .inl rfl | exact .inr rfl)) (by decide)) pgds_nil))))
    (pssd_cons (psd_for (vs := [4]) PassesOwn.never rfl (pid_rangeD (by rfl) B.range (pds_cons (pd_var (pv 2)) (pds_cons (pd_neg pd_int) (pds_cons (pd_neg pd_int) pds_nil)))) (pgd_name (pg_name (i := 4) sc_counts_of.nd rfl (by first | exact .inl rfl | exact .inr rfl)) (by decide)) (pssd_one (psd_for (vs := [5]) PassesOwn.never rfl (pid_rangeD (by rfl) B.range (pds_cons (pd_callB c_len (by rfl) B.len (by decide +kernel) (pds_cons (pd_var (pv 0)) pds_nil)) (pds_cons (pd_neg pd_int) (pds_cons (pd_neg pd_int) pds_nil)))) (pgd_name (pg_name (i := 5) sc_counts_of.nd rfl (by first | exact .inl rfl | exact .inr rfl)) (by decide)) (pssd_one (psd_if (pb_cmp (o_eq hr.units) (pd_var (pv 4)) (pd_var (pv 2)) (nomark _)) (pssd_one (psd_dset (un65 hr) (pd_var (pv 3)) (kd_tup (pds_cons (pd_var (pv 4)) (pds_cons (pd_var (pv 5)) pds_nil))) (pd_if (pb_cmp (o_eq hr.units) (pd_var (pv 5)) (pd_callB c_len (by rfl) B.len (by decide +kernel) (pds_cons (pd_var (pv 0)) pds_nil)) (nomark _)) pd_int pd_int))) (pssd_one (psd_dset (un65 hr) (pd_var (pv 3)) (kd_tup (pds_cons (pd_var (pv 4)) (pds_cons (pd_var (pv 5)) pds_nil))) (pd_callB (c_sum rfl) (by rfl) B.sum (by decide +kernel) (pds_cons (pd_frz (pl_lc (own := [("_", 6), ("place", 7), ("blocks", 8)]) rfl sc_counts_of.nd (pid_seq (pd_cal k_moves hr (by rfl) (pds_cons (pd_var (pv 0)) (pds_cons (pd_var (pv 1)) (pds_cons (pd_var (pv 4)) (pds_cons (pd_var (pv 5)) pds_nil)))))) (blkOk_by (N := names_counts_of) (sc := _) (by kernel_rfl)) (fun _ _ _ _ _ => (pgd_tup rfl (pgds_cons (pgd_name (pg_name (i := 6) sc_counts_of.nd rfl (by first | exact .inl rfl | exact .inr rfl)) (by decide)) (pgds_cons (pgd_name (pg_name (i := 7) sc_counts_of.nd rfl (by first | exact .inl rfl | exact .inr rfl)) (by decide)) (pgds_cons (pgd_name (pg_name (i := 8) sc_counts_of.nd rfl (by first | exact .inl rfl | exact .inr rfl)) (by decide)) pgds_nil))))) (fun _ _ _ _ _ => ptsd_nil) (fun _ _ _ _ _ => (pd_dget (un65 hr) (pd_var (pv 3)) (kd_tup (pds_cons (pd_var (pv 7)) (pds_cons (pd_var (pv 8)) pds_nil))))))) pds_nil)))))))))
    (pssd_one (psd_ret (pd_var (pv 3))))))
theorem ok_counts_of (B : Bl mg) {c_moves : Ct} (k_moves : Cal P w K mg base 2 "moves" ["clue", "told", "at", "k"] c_moves) {f : Addr} {fd : FuncData} {C : Ct} (F : FunD K "counts_of" "counts_of" (defArgs s_counts_of) (defBody s_counts_of) (defScope s_counts_of) [] [] f fd) (mc : MonoC C)
    (hC : ∀ fs S Q, C fs S Q → fs.length = 2 ∧ w_counts_of c_moves { nx := fun _ S' => Q .non S', rt := fun d S' => Q d S' } (startF 9 fs) S) : FnD P w K mg base (2 + 1) f fd ["clue", "told"] C :=
  fnD false F sc_counts_of mc (w_counts_of c_moves) (fun cdv A outer s H hr => body_counts_of B k_moves cdv A outer s H hr) hC
end

abbrev s_count_line : Stmt := topS 11
abbrev names_count_line : List Str := ["clue", "told"]
theorem sc_count_line : FnScope names_count_line ["clue", "told"] (defScope s_count_line) := ⟨rfl, rfl, rfl, by decide +kernel, rfl, by decide +kernel, by decide +kernel⟩
def w_count_line (c_counts_of : Ct) : WS :=
  (sRet (wDGet (wCall c_counts_of (wCons (wVar 0) (wCons (wVar 1) wNil))) (wKt (wCons (wC (.int 0)) (wCons (wC (.int 0)) wNil)))))
section
variable {P : Program} {w : World} {K : PySem.W.Frag} {mg : Str → Option Value} {base : Heap}
theorem body_count_line (B : Bl mg) {c_counts_of : Ct} (k_counts_of : Cal P w K mg base 3 "counts_of" ["clue", "told"] c_counts_of) {f : Addr} {qual : Str} (cdv : Value) (A : Around) (outer : List Env) (s : Shared) (H : Hp) (hr : Room 3 (A.deeper (envOfC qual (defScope s_count_line) s.heap.objs.size f cdv))) :
    PSsD (cxOf CX0 P w K mg base names_count_line qual (defScope s_count_line) f cdv A outer s H E0).nox (defBody s_count_line) (w_count_line c_counts_of) :=
  (pssd_one (psd_ret (pd_dget (un65 hr) (pd_cal k_counts_of hr (by rfl) (pds_cons (pd_var (pv 0)) (pds_cons (pd_var (pv 1)) pds_nil))) (kd_tup (pds_cons pd_int (pds_cons pd_int pds_nil))))))
theorem ok_count_line (B : Bl mg) {c_counts_of : Ct} (k_counts_of : Cal P w K mg base 3 "counts_of" ["clue", "told"] c_counts_of) {f : Addr} {fd : FuncData} {C : Ct} (F : FunD K "count_line" "count_line" (defArgs s_count_line) (defBody s_count_line) (defScope s_count_line) [] [] f fd) (mc : MonoC C)
    (hC : ∀ fs S Q, C fs S Q → fs.length = 2 ∧ w_count_line c_counts_of { nx := fun _ S' => Q .non (restr S S'), rt := fun d S' => Q d (restr S S') } (startF 2 fs) S) : FnD P w K mg base (3 + 1) f fd ["clue", "told"] C :=
  fnD true F sc_count_line mc (w_count_line c_counts_of) (fun cdv A outer s H hr => body_count_line B k_counts_of cdv A outer s H hr) hC
end

abbrev s_line_at : Stmt := topS 12
abbrev names_line_at : List Str := ["clue", "told", "number", "known", "line", "at", "k", "cells", "place", "blocks", "ways"]
theorem sc_line_at : FnScope names_line_at ["clue", "told", "number"] (defScope s_line_at) := ⟨rfl, rfl, rfl, by decide +kernel, rfl, by decide +kernel, by decide +kernel⟩
def w_line_at (x_NoAnswer : Addr) (c_moves : Ct) (c_counts_of : Ct) : WS :=
  (sSeq (sAsg (wCall c_counts_of (wCons (wVar 0) (wCons (wVar 1) wNil))) (gN 3))
    (sSeq (sIf (bNot (wTst (wChain oLe oLt (wC (.int 0)) (wVar 2) (wDGet (wVar 3) (wKt (wCons (wC (.int 0)) (wCons (wC (.int 0)) wNil))))))) (sRaise (.ref x_NoAnswer)) sNext)
    (sSeq (sAsg (wTup (wCons (wTup wNil) (wCons (wC (.int 0)) (wCons (wC (.int 0)) wNil)))) (gTup2 3 (gCons2 (gN 4) (gCons2 (gN 5) (gCons2 (gN 6) gNil2)))))
    (sSeq (sWhile (wTst (wOp oLt (wVar 5) (wCall cLen (wCons (wVar 1) wNil)))) (sFor (wIt (wCall c_moves (wCons (wVar 0) (wCons (wVar 1) (wCons (wVar 5) (wCons (wVar 6) wNil)))))) (gTup2 3 (gCons2 (gN 7) (gCons2 (gN 8) (gCons2 (gN 9) gNil2)))) (sSeq (sAsg (wDGet (wVar 3) (wKt (wCons (wVar 8) (wCons (wVar 9) wNil)))) (gN 10))
    (sSeq (sIf (wTst (wOp oLt (wVar 2) (wVar 10))) (sSeq (sPar [4, 5, 6] (wCons (wOp oAdd (wVar 4) (wVar 7)) (wCons (wVar 8) (wCons (wVar 9) wNil))))
    sBreak) sNext)
    (sAug 2 (wVar 10) ipSub)))))
    (sRet (wVar 4))))))
section
variable {P : Program} {w : World} {K : PySem.W.Frag} {mg : Str → Option Value} {base : Heap}
theorem body_line_at (B : Bl mg) {x_NoAnswer : Addr} (e_NoAnswer : ExK K mg "NoAnswer" x_NoAnswer) {c_moves : Ct} (k_moves : Cal P w K mg base 2 "moves" ["clue", "told", "at", "k"] c_moves) {c_counts_of : Ct} (k_counts_of : Cal P w K mg base 3 "counts_of" ["clue", "told"] c_counts_of) {f : Addr} {qual : Str} (cdv : Value) (A : Around) (outer : List Env) (s : Shared) (H : Hp) (E : XK) (hr : Room 3 (A.deeper (envOfC qual (defScope s_line_at) s.heap.objs.size f cdv))) :
    PSsD (cxOf (L2.CX P w) P w K mg base names_line_at qual (defScope s_line_at) f cdv A outer s H E) (defBody s_line_at) (w_line_at x_NoAnswer c_moves c_counts_of) :=
  (pssd_cons (psd_set (i := 3) sc_line_at.nd rfl (by first | exact .inl rfl | exact .inr rfl) (pd_cal k_counts_of hr (by rfl) (pds_cons (pd_var (pv 0)) (pds_cons (pd_var (pv 1)) pds_nil))))
    (pssd_cons (psd_if (pb_not (pb_chain o_le o_lt pd_int (pd_var (pv 2)) (pd_dget (un65 hr) (pd_var (pv 3)) (kd_tup (pds_cons pd_int (pds_cons pd_int pds_nil)))))) (pssd_one (psd_raiseK rfl e_NoAnswer (by rfl))) pssd_nil)
    (pssd_cons (psd_asg (vs := [4, 5, 6]) (pd_tup (pds_cons (pd_tup pds_nil) (pds_cons pd_int (pds_cons pd_int pds_nil)))) (pgd_tup rfl (pgds_cons (pgd_name (pg_name (i := 4) sc_line_at.nd rfl (by first | exact .inl rfl | exact .inr rfl)) (by decide)) (pgds_cons (pgd_name (pg_name (i := 5) sc_line_at.nd rfl (by first | exact .inl rfl | exact .inr rfl)) (by decide)) (pgds_cons (pgd_name (pg_name (i := 6) sc_line_at.nd rfl (by first | exact .inl rfl | exact .inr rfl)) (by decide)) pgds_nil)))))
    (pssd_cons (psd_while (passes_of rfl) (pb_cmp o_lt (pd_var (pv 5)) (pd_callB c_len (by rfl) B.len (by decide +kernel) (pds_cons (pd_var (pv 1)) pds_nil)) (nomark _)) (pssd_one (psd_for (vs := [7, 8, 9]) (passes_of rfl) rfl (pid_seq (pd_cal k_moves hr (by rfl) (pds_cons (pd_var (pv 0)) (pds_cons (pd_var (pv 1)) (pds_cons (pd_var (pv 5)) (pds_cons (pd_var (pv 6)) pds_nil)))))) (pgd_tup rfl (pgds_cons (pgd_name (pg_name (i := 7) sc_line_at.nd rfl (by first | exact .inl rfl | exact .inr rfl)) (by decide)) (pgds_cons (pgd_name (pg_name (i := 8) sc_line_at.nd rfl (by first | exact .inl rfl | exact .inr rfl)) (by decide)) (pgds_cons (pgd_name (pg_name (i := 9) sc_line_at.nd rfl (by first | exact .inl rfl | exact .inr rfl)) (by decide)) pgds_nil)))) (pssd_cons (psd_set (i := 10) sc_line_at.nd rfl (by first | exact .inl rfl | exact .inr rfl) (pd_dget (un65 hr) (pd_var (pv 3)) (kd_tup (pds_cons (pd_var (pv 8)) (pds_cons (pd_var (pv 9)) pds_nil)))))
    (pssd_cons (psd_if (pb_cmp o_lt (pd_var (pv 2)) (pd_var (pv 10)) (nomark _)) (pssd_cons (psd_par3 (i := 4) (j := 5) (l := 6) rfl sc_line_at.nd rfl rfl rfl (by decide) (by decide) (by decide) rfl rfl rfl (pds_cons (pd_op o_add (pd_var (pv 4)) (pd_var (pv 7))) (pds_cons (pd_var (pv 8)) (pds_cons (pd_var (pv 9)) pds_nil))) (by rfl))
    (pssd_one psd_break)) pssd_nil)
    (pssd_one (psd_aug (i := 2) sc_line_at.nd rfl (by first | exact .inl rfl | exact .inr rfl) (pd_var (pv 10)) ipd_sub)))))))
    (pssd_one (psd_ret (pd_var (pv 4))))))))
theorem ok_line_at (B : Bl mg) {x_NoAnswer : Addr} (e_NoAnswer : ExK K mg "NoAnswer" x_NoAnswer) {c_moves : Ct} (k_moves : Cal P w K mg base 2 "moves" ["clue", "told", "at", "k"] c_moves) {c_counts_of : Ct} (k_counts_of : Cal P w K mg base 3 "counts_of" ["clue", "told"] c_counts_of) {f : Addr} {fd : FuncData} {C : CtX} (F : FunD K "line_at" "line_at" (defArgs s_line_at) (defBody s_line_at) (defScope s_line_at) [] [] f fd) (mc : MonoX C)
    (hC : ∀ fs S Q E, C fs S Q E → fs.length = 3 ∧ w_line_at x_NoAnswer c_moves c_counts_of { nx := fun _ S' => Q .non (restr S S'), rt := fun d S' => Q d (restr S S'), ex := fun c _ S' => E c (restr S S') } (startF 11 fs) S) : FnDX P w K mg base (3 + 1) f fd ["clue", "told", "number"] C :=
  fnDX true F sc_line_at mc (w_line_at x_NoAnswer c_moves c_counts_of) (fun cdv A outer s H E hr => body_line_at B e_NoAnswer k_moves k_counts_of cdv A outer s H E hr) hC
end

abbrev s_first_line : Stmt := topS 13
abbrev names_first_line : List Str := ["clue", "told"]
theorem sc_first_line : FnScope names_first_line ["clue", "told"] (defScope s_first_line) := ⟨rfl, rfl, rfl, by decide +kernel, rfl, by decide +kernel, by decide +kernel⟩
def w_first_line (c_count_line : Ct) (c_line_at : CtX) : WS :=
  (sRetX (wIfX (wTst (wOp oGt (wCall c_count_line (wCons (wVar 0) (wCons (wVar 1) wNil))) (wC (.int 0)))) (wCallX c_line_at (wCons (wVar 0) (wCons (wVar 1) (wCons (wC (.int 0)) wNil)))) (fun ρ S Q _ => (wC .non) ρ S Q)))
section
variable {P : Program} {w : World} {K : PySem.W.Frag} {mg : Str → Option Value} {base : Heap}
theorem body_first_line (B : Bl mg) {c_count_line : Ct} (k_count_line : Cal P w K mg base 4 "count_line" ["clue", "told"] c_count_line) {c_line_at : CtX} (k_line_at : CalX P w K mg base 4 "line_at" ["clue", "told", "number"] c_line_at) {f : Addr} {qual : Str} (cdv : Value) (A : Around) (outer : List Env) (s : Shared) (H : Hp) (hr : Room 4 (A.deeper (envOfC qual (defScope s_first_line) s.heap.objs.size f cdv))) :
    PSsD (cxOf CX0 P w K mg base names_first_line qual (defScope s_first_line) f cdv A outer s H E0).nox (defBody s_first_line) (w_first_line c_count_line c_line_at) :=
  (pssd_one (psd_retX (pdx_if (pb_cmp o_gt (pd_cal k_count_line hr (by rfl) (pds_cons (pd_var (pv 0)) (pds_cons (pd_var (pv 1)) pds_nil))) pd_int (nomark _)) (pdx_cal k_line_at hr (by rfl) (by decide) (pds_cons (pd_var (pv 0)) (pds_cons (pd_var (pv 1)) (pds_cons pd_int pds_nil)))) (pdx_of pd_non))))
theorem ok_first_line (B : Bl mg) {c_count_line : Ct} (k_count_line : Cal P w K mg base 4 "count_line" ["clue", "told"] c_count_line) {c_line_at : CtX} (k_line_at : CalX P w K mg base 4 "line_at" ["clue", "told", "number"] c_line_at) {f : Addr} {fd : FuncData} {C : Ct} (F : FunD K "first_line" "first_line" (defArgs s_first_line) (defBody s_first_line) (defScope s_first_line) [] [] f fd) (mc : MonoC C)
    (hC : ∀ fs S Q, C fs S Q → fs.length = 2 ∧ w_first_line c_count_line c_line_at { nx := fun _ S' => Q .non S', rt := fun d S' => Q d S' } (startF 2 fs) S) : FnD P w K mg base (4 + 1) f fd ["clue", "told"] C :=
  fnD false F sc_first_line mc (w_first_line c_count_line c_line_at) (fun cdv A outer s H hr => body_first_line B k_count_line k_line_at cdv A outer s H hr) hC
end

abbrev s_number_of : Stmt := topS 14
abbrev names_number_of : List Str := ["clue", "told", "line", "known", "number", "at", "k", "cells", "place", "blocks"]
theorem sc_number_of : FnScope names_number_of ["clue", "told", "line"] (defScope s_number_of) := ⟨rfl, rfl, rfl, by decide +kernel, rfl, by decide +kernel, by decide +kernel⟩
def w_number_of (c_moves : Ct) (c_counts_of : Ct) : WS :=
  (sSeq (sAsg (wCall c_counts_of (wCons (wVar 0) (wCons (wVar 1) wNil))) (gN 3))
    (sSeq (sAsg (wTup (wCons (wC (.int 0)) (wCons (wC (.int 0)) (wCons (wC (.int 0)) wNil)))) (gTup2 3 (gCons2 (gN 4) (gCons2 (gN 5) (gCons2 (gN 6) gNil2)))))
    (sSeq (sWhile (wTst (wOp oLt (wVar 5) (wCall cLen (wCons (wVar 1) wNil)))) (sFor (wIt (wCall c_moves (wCons (wVar 0) (wCons (wVar 1) (wCons (wVar 5) (wCons (wVar 6) wNil)))))) (gTup2 3 (gCons2 (gN 7) (gCons2 (gN 8) (gCons2 (gN 9) gNil2)))) (sSeq (sIf (wTst (wOp oEq (wSl (wVar 2) (wPart (wVar 5)) (wPart (wOp oAdd (wVar 5) (wCall cLen (wCons (wVar 7) wNil))))) (wVar 7))) (sSeq (sPar [5, 6] (wCons (wVar 8) (wCons (wVar 9) wNil)))
    sBreak) sNext)
    (sAug 4 (wDGet (wVar 3) (wKt (wCons (wVar 8) (wCons (wVar 9) wNil)))) ipAdd))))
    (sRet (wVar 4)))))
section
variable {P : Program} {w : World} {K : PySem.W.Frag} {mg : Str → Option Value} {base : Heap}
theorem body_number_of (B : Bl mg) {c_moves : Ct} (k_moves : Cal P w K mg base 2 "moves" ["clue", "told", "at", "k"] c_moves) {c_counts_of : Ct} (k_counts_of : Cal P w K mg base 3 "counts_of" ["clue", "told"] c_counts_of) {f : Addr} {qual : Str} (cdv : Value) (A : Around) (outer : List Env) (s : Shared) (H : Hp) (hr : Room 3 (A.deeper (envOfC qual (defScope s_number_of) s.heap.objs.size f cdv))) :
    PSsD (cxOf CX0 P w K mg base names_number_of qual (defScope s_number_of) f cdv A outer s H E0).nox (defBody s_number_of) (w_number_of c_moves c_counts_of) :=
  (pssd_cons (psd_set (i := 3) sc_number_of.nd rfl (by first | exact .inl rfl | exact .inr rfl) (pd_cal k_counts_of hr (by rfl) (pds_cons (pd_var (pv 0)) (pds_cons (pd_var (pv 1)) pds_nil))))
    (pssd_cons (psd_asg (vs := [4, 5, 6]) (pd_tup (pds_cons pd_int (pds_cons pd_int (pds_cons pd_int pds_nil)))) (pgd_tup rfl (pgds_cons (pgd_name (pg_name (i := 4) sc_number_of.nd rfl (by first | exact .inl rfl | exact .inr rfl)) (by decide)) (pgds_cons (pgd_name (pg_name (i := 5) sc_number_of.nd rfl (by first | exact .inl rfl | exact .inr rfl)) (by decide)) (pgds_cons (pgd_name (pg_name (i := 6) sc_number_of.nd rfl (by first | exact .inl rfl | exact .inr rfl)) (by decide)) pgds_nil)))))
    (pssd_cons (psd_while PassesOwn.never (pb_cmp o_lt (pd_var (pv 5)) (pd_callB c_len (by rfl) B.len (by decide +kernel) (pds_cons (pd_var (pv 1)) pds_nil)) (nomark _)) (pssd_one (psd_for (vs := [7, 8, 9]) PassesOwn.never rfl (pid_seq (pd_cal k_moves hr (by rfl) (pds_cons (pd_var (pv 0)) (pds_cons (pd_var (pv 1)) (pds_cons (pd_var (pv 5)) (pds_cons (pd_var (pv 6)) pds_nil)))))) (pgd_tup rfl (pgds_cons (pgd_name (pg_name (i := 7) sc_number_of.nd rfl (by first | exact .inl rfl | exact .inr rfl)) (by decide)) (pgds_cons (pgd_name (pg_name (i := 8) sc_number_of.nd rfl (by first | exact .inl rfl | exact .inr rfl)) (by decide)) (pgds_cons (pgd_name (pg_name (i := 9) sc_number_of.nd rfl (by first | exact .inl rfl | exact .inr rfl)) (by decide)) pgds_nil)))) (pssd_cons (psd_if (pb_cmp (o_eq hr.units) (pd_slice (pd_var (pv 2)) (pp_some (pd_var (pv 5))) (pp_some (pd_op o_add (pd_var (pv 5)) (pd_callB c_len (by rfl) B.len (by decide +kernel) (pds_cons (pd_var (pv 7)) pds_nil))))) (pd_var (pv 7)) (nomark _)) (pssd_cons (psd_par (i := 5) (j := 6) rfl sc_number_of.nd rfl rfl (by decide) rfl rfl (pds_cons (pd_var (pv 8)) (pds_cons (pd_var (pv 9)) pds_nil)) (by rfl))
    (pssd_one psd_break)) pssd_nil)
    (pssd_one (psd_aug (i := 4) sc_number_of.nd rfl (by first | exact .inl rfl | exact .inr rfl) (pd_dget (un65 hr) (pd_var (pv 3)) (kd_tup (pds_cons (pd_var (pv 8)) (pds_cons (pd_var (pv 9)) pds_nil)))) ipd_add))))))
    (pssd_one (psd_ret (pd_var (pv 4)))))))
theorem ok_number_of (B : Bl mg) {c_moves : Ct} (k_moves : Cal P w K mg base 2 "moves" ["clue", "told", "at", "k"] c_moves) {c_counts_of : Ct} (k_counts_of : Cal P w K mg base 3 "counts_of" ["clue", "told"] c_counts_of) {f : Addr} {fd : FuncData} {C : Ct} (F : FunD K "number_of" "number_of" (defArgs s_number_of) (defBody s_number_of) (defScope s_number_of) [] [] f fd) (mc : MonoC C)
    (hC : ∀ fs S Q, C fs S Q → fs.length = 3 ∧ w_number_of c_moves c_counts_of { nx := fun _ S' => Q .non (restr S S'), rt := fun d S' => Q d (restr S S') } (startF 10 fs) S) : FnD P w K mg base (3 + 1) f fd ["clue", "told", "line"] C :=
  fnD true F sc_number_of mc (w_number_of c_moves c_counts_of) (fun cdv A outer s H hr => body_number_of B k_moves k_counts_of cdv A outer s H hr) hC
end

abbrev s__law_box : Stmt := topS 16
abbrev names__law_box : List Str := ["script"]
theorem sc__law_box : FnScope names__law_box ["script"] (defScope s__law_box) := ⟨rfl, rfl, rfl, by decide +kernel, rfl, by decide +kernel, by decide +kernel⟩
def w__law_box : WS :=
  (sRet (wOwn (wLst (wCons (wOwn (wCall cList (wCons (wSl (wVar 0) wNoPart (wPart (wC (.int 63)))) wNil))) (wCons (wC (.int 0)) (wCons (wOp oAdd (wC (.int 4711)) (wCall cLen (wCons (wVar 0) wNil))) wNil))))))
section
variable {P : Program} {w : World} {K : PySem.W.Frag} {mg : Str → Option Value} {base : Heap}
theorem body__law_box (B : Bl mg) {f : Addr} {qual : Str} (cdv : Value) (A : Around) (outer : List Env) (s : Shared) (H : Hp) (hr : Room 0 (A.deeper (envOfC qual (defScope s__law_box) s.heap.objs.size f cdv))) :
    PSsD (cxOf CX0 P w K mg base names__law_box qual (defScope s__law_box) f cdv A outer s H E0).nox (defBody s__law_box) (w__law_box) :=
  (pssd_one (psd_ret (pd_own (pl_lst (pds_cons (pd_own (pl_callTy c_list (by rfl) B.list (by decide +kernel) (pds_cons (pd_slice (pd_var (pv 0)) pp_none (pp_some pd_int)) pds_nil))) (pds_cons pd_int (pds_cons (pd_op o_add pd_int (pd_callB c_len (by rfl) B.len (by decide +kernel) (pds_cons (pd_var (pv 0)) pds_nil))) pds_nil)))))))
theorem ok__law_box (B : Bl mg) {f : Addr} {fd : FuncData} {C : Ct} (F : FunD K "_law_box" "_law_box" (defArgs s__law_box) (defBody s__law_box) (defScope s__law_box) [] [] f fd) (mc : MonoC C)
    (hC : ∀ fs S Q, C fs S Q → fs.length = 1 ∧ w__law_box { nx := fun _ S' => Q .non S', rt := fun d S' => Q d S' } (startF 1 fs) S) : FnD P w K mg base (0 + 1) f fd ["script"] C :=
  fnD false F sc__law_box mc (w__law_box) (fun cdv A outer s H hr => body__law_box B cdv A outer s H hr) hC
end

abbrev s__law_load : Stmt := topS 17
abbrev names__law_load : List Str := ["box", "cells", "cell", "size", "first", "second"]
theorem sc__law_load : FnScope names__law_load ["box"] (defScope s__law_load) := ⟨rfl, rfl, rfl, by decide +kernel, rfl, by decide +kernel, by decide +kernel⟩
def w__law_load : WS :=
  (sSeq (sAsg (wOp oIx (wVar 0) (wC (.int 0))) (gN 1))
    (sSeq (sIf (wTst (wOp oGt (wCall cLen (wCons (wVar 1) wNil)) (wC (.int 0)))) (sSeq (sAsg (wCall cInt (wCons (wMt mPopAt (wVar 1) (wCons (wC (.int 0)) wNil)) wNil)) (gN 2))
    (sSeq (sAsg (wIf (wTst (wOp oGe (wVar 2) (wC (.int 0)))) (wOp oMul (wC (.int 2)) (wVar 2)) (wOp oSub (wOp oMul (wNeg (wC (.int 2))) (wVar 2)) (wC (.int 1)))) (gN 3))
    (sSeq (sIf (wTst (wOp oGe (wVar 3) (wC (.int 1000000000000000000)))) (sRet (wVar 3)) sNext)
    (sAsg (wOp oMod (wCall cInt (wCons (wOp oAdd (wOp oAdd (wOp oMul (wOp oIx (wVar 0) (wC (.int 2))) (wC (.int 69621))) (wOp oMul (wVar 3) (wC (.int 48271)))) (wC (.int 11))) wNil)) (wC (.int 2147483647))) (gSubL (wVar 0) (wC (.int 2))))))) sNext)
    (sSeq (sAsg (wOp oMod (wCall cInt (wCons (wOp oAdd (wOp oMul (wOp oIx (wVar 0) (wC (.int 2))) (wC (.int 48271))) (wC (.int 17))) wNil)) (wC (.int 2147483629))) (gN 4))
    (sSeq (sAsg (wOp oMod (wCall cInt (wCons (wOp oAdd (wOp oMul (wVar 4) (wC (.int 69621))) (wC (.int 5))) wNil)) (wC (.int 2147483587))) (gN 5))
    (sSeq (sAsg (wOp oMod (wCall cInt (wCons (wOp oAdd (wOp oMul (wVar 5) (wC (.int 40692))) (wC (.int 3))) wNil)) (wC (.int 2147483563))) (gSubL (wVar 0) (wC (.int 2))))
    (sRet (wOp oAdd (wOp oAdd (wOp oMul (wVar 4) (wC (.int 4611686014132420609))) (wOp oMul (wVar 5) (wC (.int 2147483647)))) (wOp oIx (wVar 0) (wC (.int 2))))))))))
section
variable {P : Program} {w : World} {K : PySem.W.Frag} {mg : Str → Option Value} {base : Heap}
theorem body__law_load (B : Bl mg) {f : Addr} {qual : Str} (cdv : Value) (A : Around) (outer : List Env) (s : Shared) (H : Hp) (hr : Room 0 (A.deeper (envOfC qual (defScope s__law_load) s.heap.objs.size f cdv))) :
    PSsD (cxOf CX0 P w K mg base names__law_load qual (defScope s__law_load) f cdv A outer s H E0).nox (defBody s__law_load) (w__law_load) :=
  (pssd_cons (psd_set (i := 1) sc__law_load.nd rfl (by first | exact .inl rfl | exact .inr rfl) (pd_ix ix_all (pd_var (pv 0)) pd_int (fun _ _ => rfl)))
    (pssd_cons (psd_if (pb_cmp o_gt (pd_callB c_len (by rfl) B.len (by decide +kernel) (pds_cons (pd_var (pv 1)) pds_nil)) pd_int (nomark _)) (pssd_cons (psd_set (i := 2) sc__law_load.nd rfl (by first | exact .inl rfl | exact .inr rfl) (pd_callTy c_int (by rfl) B.int (by decide +kernel) (pds_cons (pd_mt PySem.F.slot_list_pop PySem.F.type_list_pop m_popAt (pd_var (pv 1)) (pds_cons pd_int pds_nil)) pds_nil)))
    (pssd_cons (psd_set (i := 3) sc__law_load.nd rfl (by first | exact .inl rfl | exact .inr rfl) (pd_if (pb_cmp o_ge (pd_var (pv 2)) pd_int (nomark _)) (pd_op o_mul pd_int (pd_var (pv 2))) (pd_op o_sub (pd_op o_mul (pd_neg pd_int) (pd_var (pv 2))) pd_int)))
    (pssd_cons (psd_if (pb_cmp o_ge (pd_var (pv 3)) pd_int (nomark _)) (pssd_one (psd_ret (pd_var (pv 3)))) pssd_nil)
    (pssd_one (psd_asg (vs := []) (pd_op o_mod (pd_callTy c_int (by rfl) B.int (by decide +kernel) (pds_cons (pd_op o_add (pd_op o_add (pd_op o_mul (pd_ix ix_all (pd_var (pv 0)) pd_int (fun _ _ => rfl)) pd_int) (pd_op o_mul (pd_var (pv 3)) pd_int)) pd_int) pds_nil)) pd_int) (pgd_sub (pd_var (pv 0)) pd_int)))))) pssd_nil)
    (pssd_cons (psd_set (i := 4) sc__law_load.nd rfl (by first | exact .inl rfl | exact .inr rfl) (pd_op o_mod (pd_callTy c_int (by rfl) B.int (by decide +kernel) (pds_cons (pd_op o_add (pd_op o_mul (pd_ix ix_all (pd_var (pv 0)) pd_int (fun _ _ => rfl)) pd_int) pd_int) pds_nil)) pd_int))
    (pssd_cons (psd_set (i := 5) sc__law_load.nd rfl (by first | exact .inl rfl | exact .inr rfl) (pd_op o_mod (pd_callTy c_int (by rfl) B.int (by decide +kernel) (pds_cons (pd_op o_add (pd_op o_mul (pd_var (pv 4)) pd_int) pd_int) pds_nil)) pd_int))
    (pssd_cons (psd_asg (vs := []) (pd_op o_mod (pd_callTy c_int (by rfl) B.int (by decide +kernel) (pds_cons (pd_op o_add (pd_op o_mul (pd_var (pv 5)) pd_int) pd_int) pds_nil)) pd_int) (pgd_sub (pd_var (pv 0)) pd_int))
    (pssd_one (psd_ret (pd_op o_add (pd_op o_add (pd_op o_mul (pd_var (pv 4)) pd_int) (pd_op o_mul (pd_var (pv 5)) pd_int)) (pd_ix ix_all (pd_var (pv 0)) pd_int (fun _ _ => rfl))))))))))
theorem ok__law_load (B : Bl mg) {f : Addr} {fd : FuncData} {C : Ct} (F : FunD K "_law_load" "_law_load" (defArgs s__law_load) (defBody s__law_load) (defScope s__law_load) [] [] f fd) (mc : MonoC C)
    (hC : ∀ fs S Q, C fs S Q → fs.length = 1 ∧ w__law_load { nx := fun _ S' => Q .non S', rt := fun d S' => Q d S' } (startF 6 fs) S) : FnD P w K mg base (0 + 1) f fd ["box"] C :=
  fnD false F sc__law_load mc (w__law_load) (fun cdv A outer s H hr => body__law_load B cdv A outer s H hr) hC
end

abbrev s__law_draw : Stmt := topS 18
abbrev names__law_draw : List Str := ["box", "many", "digit"]
theorem sc__law_draw : FnScope names__law_draw ["box", "many"] (defScope s__law_draw) := ⟨rfl, rfl, rfl, by decide +kernel, rfl, by decide +kernel, by decide +kernel⟩
def w__law_draw (c__law_load : Ct) : WS :=
  (sSeq (sIf (wTst (wOp oLt (wOp oIx (wVar 0) (wC (.int 1))) (wVar 1))) (sAsg (wCall c__law_load (wCons (wVar 0) wNil)) (gSubL (wVar 0) (wC (.int 1)))) sNext)
    (sSeq (sAsg (wOp oMod (wCall cInt (wCons (wOp oIx (wVar 0) (wC (.int 1))) wNil)) (wVar 1)) (gN 2))
    (sSeq (sAsg (wOp oDiv (wOp oIx (wVar 0) (wC (.int 1))) (wVar 1)) (gSubL (wVar 0) (wC (.int 1))))
    (sRet (wVar 2)))))
section
variable {P : Program} {w : World} {K : PySem.W.Frag} {mg : Str → Option Value} {base : Heap}
theorem body__law_draw (B : Bl mg) {c__law_load : Ct} (k__law_load : Cal P w K mg base 1 "_law_load" ["box"] c__law_load) {f : Addr} {qual : Str} (cdv : Value) (A : Around) (outer : List Env) (s : Shared) (H : Hp) (hr : Room 1 (A.deeper (envOfC qual (defScope s__law_draw) s.heap.objs.size f cdv))) :
    PSsD (cxOf CX0 P w K mg base names__law_draw qual (defScope s__law_draw) f cdv A outer s H E0).nox (defBody s__law_draw) (w__law_draw c__law_load) :=
  (pssd_cons (psd_if (pb_cmp o_lt (pd_ix ix_all (pd_var (pv 0)) pd_int (fun _ _ => rfl)) (pd_var (pv 1)) (nomark _)) (pssd_one (psd_asg (vs := []) (pd_cal k__law_load hr (by rfl) (pds_cons (pd_var (pv 0)) pds_nil)) (pgd_sub (pd_var (pv 0)) pd_int))) pssd_nil)
    (pssd_cons (psd_set (i := 2) sc__law_draw.nd rfl (by first | exact .inl rfl | exact .inr rfl) (pd_op o_mod (pd_callTy c_int (by rfl) B.int (by decide +kernel) (pds_cons (pd_ix ix_all (pd_var (pv 0)) pd_int (fun _ _ => rfl)) pds_nil)) (pd_var (pv 1))))
    (pssd_cons (psd_asg (vs := []) (pd_op o_div (pd_ix ix_all (pd_var (pv 0)) pd_int (fun _ _ => rfl)) (pd_var (pv 1))) (pgd_sub (pd_var (pv 0)) pd_int))
    (pssd_one (psd_ret (pd_var (pv 2)))))))
theorem ok__law_draw (B : Bl mg) {c__law_load : Ct} (k__law_load : Cal P w K mg base 1 "_law_load" ["box"] c__law_load) {f : Addr} {fd : FuncData} {C : Ct} (F : FunD K "_law_draw" "_law_draw" (defArgs s__law_draw) (defBody s__law_draw) (defScope s__law_draw) [] [] f fd) (mc : MonoC C)
    (hC : ∀ fs S Q, C fs S Q → fs.length = 2 ∧ w__law_draw c__law_load { nx := fun _ S' => Q .non S', rt := fun d S' => Q d S' } (startF 3 fs) S) : FnD P w K mg base (1 + 1) f fd ["box", "many"] C :=
  fnD false F sc__law_draw mc (w__law_draw c__law_load) (fun cdv A outer s H hr => body__law_draw B k__law_load cdv A outer s H hr) hC
end

abbrev s__law_same : Stmt := topS 19
abbrev names__law_same : List Str := ["a", "b", "k"]
theorem sc__law_same : FnScope names__law_same ["a", "b"] (defScope s__law_same) := ⟨rfl, rfl, rfl, by decide +kernel, rfl, by decide +kernel, by decide +kernel⟩
def w__law_same (c__law_same : Ct) : WS :=
  (sSeq (sIf (bOr (bAnd (wTst (wIsi "tuple" (wVar 0))) (wTst (wIsi "tuple" (wVar 1)))) (bAnd (wTst (wIsi "list" (wVar 0))) (wTst (wIsi "list" (wVar 1))))) (sRet (wAnd (wOp oEq (wCall cLen (wCons (wVar 0) wNil)) (wCall cLen (wCons (wVar 1) wNil))) (wCall cAll (wCons (wFrz (wComp [2] (wRange1 (wCons (wCall cLen (wCons (wVar 0) wNil)) wNil)) (gN 2) wYes (wCall c__law_same (wCons (wOp oIx (wVar 0) (wVar 2)) (wCons (wOp oIx (wVar 1) (wVar 2)) wNil))))) wNil)))) sNext)
    (sSeq (sIf (bOr (wTst (wIsi "bool" (wVar 0))) (wTst (wIsi "bool" (wVar 1)))) (sRet (wAnd (wIsi "bool" (wVar 0)) (wAnd (wIsi "bool" (wVar 1)) (wOp oEq (wVar 0) (wVar 1))))) sNext)
    (sSeq (sIf (bOr (bAnd (wTst (wIsi "int" (wVar 0))) (wTst (wIsi "int" (wVar 1)))) (bAnd (wTst (wIsi "str" (wVar 0))) (wTst (wIsi "str" (wVar 1))))) (sRet (wOp oEq (wVar 0) (wVar 1))) sNext)
    (sRet (wAnd (wOp oIs (wVar 0) (wC .non)) (wOp oIs (wVar 1) (wC .non)))))))
section
variable {P : Program} {w : World} {K : PySem.W.Frag} {mg : Str → Option Value} {base : Heap}
theorem body__law_same (B : Bl mg) (lv : Nat) {c__law_same : Ct} (k__law_same : Cal P w K mg base lv "_law_same" ["a", "b"] c__law_same) {f : Addr} {qual : Str} (cdv : Value) (A : Around) (outer : List Env) (s : Shared) (H : Hp) (hr : Room lv (A.deeper (envOfC qual (defScope s__law_same) s.heap.objs.size f cdv))) :
    PSsD (cxOf CX0 P w K mg base names__law_same qual (defScope s__law_same) f cdv A outer s H E0).nox (defBody s__law_same) (w__law_same c__law_same) :=
  (pssd_cons (psd_if (PBW.pb (pb_or (PBW.pb (pb_and (pb_val (pd_isi (T := "tuple") (by decide +kernel) (by rfl) B.isinstance (by rfl) B.tuple (by decide +kernel) (pd_var (pv 0)))) (pb_and1 (pb_val (pd_isi (T := "tuple") (by decide +kernel) (by rfl) B.isinstance (by rfl) B.tuple (by decide +kernel) (pd_var (pv 1))))))) (pb_or1 (PBW.pb (pb_and (pb_val (pd_isi (T := "list") (by decide +kernel) (by rfl) B.isinstance (by rfl) B.list (by decide +kernel) (pd_var (pv 0)))) (pb_and1 (pb_val (pd_isi (T := "list") (by decide +kernel) (by rfl) B.isinstance (by rfl) B.list (by decide +kernel) (pd_var (pv 1)))))))))) (pssd_one (psd_ret (pd_and (pd_cmp (o_eq hr.units) (pd_callB c_len (by rfl) B.len (by decide +kernel) (pds_cons (pd_var (pv 0)) pds_nil)) (pd_callB c_len (by rfl) B.len (by decide +kernel) (pds_cons (pd_var (pv 1)) pds_nil)) (nomark _)) (pd_one (pd_callB (c_all rfl) (by rfl) B.all (by decide +kernel) (pds_cons (pd_frz (pl_lc (own := [("k", 2)]) rfl sc__law_same.nd (pid_range1 (by rfl) B.range (pds_cons (pd_callB c_len (by rfl) B.len (by decide +kernel) (pds_cons (pd_var (pv 0)) pds_nil)) pds_nil)) (blkOk_by (N := names__law_same) (sc := _) (by kernel_rfl)) (fun _ _ _ _ _ => (pgd_name (pg_name (i := 2) sc__law_same.nd rfl (by first | exact .inl rfl | exact .inr rfl)) (by decide))) (fun _ _ _ _ _ => ptsd_nil) (fun _ _ _ _ _ => (pd_cal (hl := Nat.le_refl _) k__law_same hr (by rfl) (pds_cons (pd_ix ix_all (pd_var (pv 0)) (pd_var (pv 2)) (fun _ _ => rfl)) (pds_cons (pd_ix ix_all (pd_var (pv 1)) (pd_var (pv 2)) (fun _ _ => rfl)) pds_nil)))))) pds_nil)))))) pssd_nil)
    (pssd_cons (psd_if (PBW.pb (pb_or (pb_val (pd_isi (T := "bool") (by decide +kernel) (by rfl) B.isinstance (by rfl) B.bool (by decide +kernel) (pd_var (pv 0)))) (pb_or1 (pb_val (pd_isi (T := "bool") (by decide +kernel) (by rfl) B.isinstance (by rfl) B.bool (by decide +kernel) (pd_var (pv 1))))))) (pssd_one (psd_ret (pd_and (pd_isi (T := "bool") (by decide +kernel) (by rfl) B.isinstance (by rfl) B.bool (by decide +kernel) (pd_var (pv 0))) (pd_and (pd_isi (T := "bool") (by decide +kernel) (by rfl) B.isinstance (by rfl) B.bool (by decide +kernel) (pd_var (pv 1))) (pd_one (pd_cmp (o_eq hr.units) (pd_var (pv 0)) (pd_var (pv 1)) (nomark _))))))) pssd_nil)
    (pssd_cons (psd_if (PBW.pb (pb_or (PBW.pb (pb_and (pb_val (pd_isi (T := "int") (by decide +kernel) (by rfl) B.isinstance (by rfl) B.int (by decide +kernel) (pd_var (pv 0)))) (pb_and1 (pb_val (pd_isi (T := "int") (by decide +kernel) (by rfl) B.isinstance (by rfl) B.int (by decide +kernel) (pd_var (pv 1))))))) (pb_or1 (PBW.pb (pb_and (pb_val (pd_isi (T := "str") (by decide +kernel) (by rfl) B.isinstance (by rfl) B.str (by decide +kernel) (pd_var (pv 0)))) (pb_and1 (pb_val (pd_isi (T := "str") (by decide +kernel) (by rfl) B.isinstance (by rfl) B.str (by decide +kernel) (pd_var (pv 1)))))))))) (pssd_one (psd_ret (pd_cmp (o_eq hr.units) (pd_var (pv 0)) (pd_var (pv 1)) (nomark _)))) pssd_nil)
    (pssd_one (psd_ret (pd_and (pd_cmp o_is (pd_var (pv 0)) pd_non (nomark _)) (pd_one (pd_cmp o_is (pd_var (pv 1)) pd_non (nomark _)))))))))
theorem ok__law_same (B : Bl mg) (lv : Nat) {c__law_same : Ct} (k__law_same : Cal P w K mg base lv "_law_same" ["a", "b"] c__law_same) {f : Addr} {fd : FuncData} {C : Ct} (F : FunD K "_law_same" "_law_same" (defArgs s__law_same) (defBody s__law_same) (defScope s__law_same) [] [] f fd) (mc : MonoC C)
    (hC : ∀ fs S Q, C fs S Q → fs.length = 2 ∧ w__law_same c__law_same { nx := fun _ S' => Q .non S', rt := fun d S' => Q d S' } (startF 3 fs) S) : FnD P w K mg base (lv + 1) f fd ["a", "b"] C :=
  fnD false F sc__law_same mc (w__law_same c__law_same) (fun cdv A outer s H hr => body__law_same B lv k__law_same cdv A outer s H hr) hC
end

abbrev s__law_clue : Stmt := topS 20
abbrev names__law_clue : List Str := ["line", "found", "run", "cell"]
theorem sc__law_clue : FnScope names__law_clue ["line"] (defScope s__law_clue) := ⟨rfl, rfl, rfl, by decide +kernel, rfl, by decide +kernel, by decide +kernel⟩
def w__law_clue : WS :=
  (sSeq (sPar [1, 2] (wCons (wOwn (wLst wNil)) (wCons (wC (.int 0)) wNil)))
    (sSeq (sFor (wIt (wOp oAdd (wFrz (wCall cList (wCons (wVar 0) wNil))) (wFrz (wLst (wCons (wC (.int 0)) wNil))))) (gN 3) (sIf (wTst (wOp oEq (wVar 3) (wC (.int 1)))) (sAsg (wOp oAdd (wVar 2) (wC (.int 1))) (gN 2)) (sIf (wTst (wOp oGt (wVar 2) (wC (.int 0)))) (sSeq (sExpr (wMt mAppend (wVar 1) (wCons (wVar 2) wNil)))
    (sAsg (wC (.int 0)) (gN 2))) sNext)))
    (sRet (wCall cTuple (wCons (wVar 1) wNil)))))
section
variable {P : Program} {w : World} {K : PySem.W.Frag} {mg : Str → Option Value} {base : Heap}
theorem body__law_clue (B : Bl mg) {f : Addr} {qual : Str} (cdv : Value) (A : Around) (outer : List Env) (s : Shared) (H : Hp) (hr : Room 0 (A.deeper (envOfC qual (defScope s__law_clue) s.heap.objs.size f cdv))) :
    PSsD (cxOf CX0 P w K mg base names__law_clue qual (defScope s__law_clue) f cdv A outer s H E0).nox (defBody s__law_clue) (w__law_clue) :=
  (pssd_cons (psd_par (i := 1) (j := 2) rfl sc__law_clue.nd rfl rfl (by decide) rfl rfl (pds_cons (pd_own (pl_lst pds_nil)) (pds_cons pd_int pds_nil)) (by rfl))
    (pssd_cons (psd_for (vs := [3]) PassesOwn.never rfl (pid_seq (pd_op o_add (pd_frz (pl_callTy c_list (by rfl) B.list (by decide +kernel) (pds_cons (pd_var (pv 0)) pds_nil))) (pd_frz (pl_lst (pds_cons pd_int pds_nil))))) (pgd_name (pg_name (i := 3) sc__law_clue.nd rfl (by first | exact .inl rfl | exact .inr rfl)) (by decide)) (pssd_one (psd_if (pb_cmp (o_eq hr.units) (pd_var (pv 3)) pd_int (nomark _)) (pssd_one (psd_set (i := 2) sc__law_clue.nd rfl (by first | exact .inl rfl | exact .inr rfl) (pd_op o_add (pd_var (pv 2)) pd_int))) (pssd_one (psd_if (pb_cmp o_gt (pd_var (pv 2)) pd_int (nomark _)) (pssd_cons (psd_expr (pd_mt PySem.F.slot_list_append PySem.F.type_list_append m_append (pd_var (pv 1)) (pds_cons (pd_var (pv 2)) pds_nil)))
    (pssd_one (psd_set (i := 2) sc__law_clue.nd rfl (by first | exact .inl rfl | exact .inr rfl) pd_int))) pssd_nil)))))
    (pssd_one (psd_ret (pd_callTy c_tuple (by rfl) B.tuple (by decide +kernel) (pds_cons (pd_var (pv 1)) pds_nil))))))
theorem ok__law_clue (B : Bl mg) {f : Addr} {fd : FuncData} {C : Ct} (F : FunD K "_law_clue" "_law_clue" (defArgs s__law_clue) (defBody s__law_clue) (defScope s__law_clue) [] [] f fd) (mc : MonoC C)
    (hC : ∀ fs S Q, C fs S Q → fs.length = 1 ∧ w__law_clue { nx := fun _ S' => Q .non (restr S S'), rt := fun d S' => Q d (restr S S') } (startF 4 fs) S) : FnD P w K mg base (0 + 1) f fd ["line"] C :=
  fnD true F sc__law_clue mc (w__law_clue) (fun cdv A outer s H hr => body__law_clue B cdv A outer s H hr) hC
end

abbrev s__law_lines : Stmt := topS 21
abbrev names__law_lines : List Str := ["m", "rows", "k", "row"]
theorem sc__law_lines : FnScope names__law_lines ["m"] (defScope s__law_lines) := ⟨rfl, rfl, rfl, by decide +kernel, rfl, by decide +kernel, by decide +kernel⟩
def w__law_lines : WS :=
  (sSeq (sAsg (wFrz (wLst (wCons (wTup wNil) wNil))) (gN 1))
    (sSeq (sFor (wRange1 (wCons (wVar 0) wNil)) (gN 2) (sAsg (wOp oAdd (wFrz (wComp [3] (wIt (wVar 1)) (gN 3) wYes (wOp oAdd (wVar 3) (wTup (wCons (wC (.int 0)) wNil))))) (wFrz (wComp [3] (wIt (wVar 1)) (gN 3) wYes (wOp oAdd (wVar 3) (wTup (wCons (wC (.int 1)) wNil)))))) (gN 1)))
    (sRet (wFrz (wCall cSortD (wCons (wVar 1) wNil))))))
section
variable {P : Program} {w : World} {K : PySem.W.Frag} {mg : Str → Option Value} {base : Heap}
theorem body__law_lines (B : Bl mg) {f : Addr} {qual : Str} (cdv : Value) (A : Around) (outer : List Env) (s : Shared) (H : Hp) (hr : Room 0 (A.deeper (envOfC qual (defScope s__law_lines) s.heap.objs.size f cdv))) :
    PSsD (cxOf CX0 P w K mg base names__law_lines qual (defScope s__law_lines) f cdv A outer s H E0).nox (defBody s__law_lines) (w__law_lines) :=
  (pssd_cons (psd_set (i := 1) sc__law_lines.nd rfl (by first | exact .inl rfl | exact .inr rfl) (pd_frz (pl_lst (pds_cons (pd_tup pds_nil) pds_nil))))
    (pssd_cons (psd_for (vs := [2]) PassesOwn.never rfl (pid_range1 (by rfl) B.range (pds_cons (pd_var (pv 0)) pds_nil)) (pgd_name (pg_name (i := 2) sc__law_lines.nd rfl (by first | exact .inl rfl | exact .inr rfl)) (by decide)) (pssd_one (psd_set (i := 1) sc__law_lines.nd rfl (by first | exact .inl rfl | exact .inr rfl) (pd_op o_add (pd_frz (pl_lc (own := [("row", 3)]) rfl sc__law_lines.nd (pid_seq (pd_var (pv 1))) (blkOk_by (N := names__law_lines) (sc := _) (by kernel_rfl)) (fun _ _ _ _ _ => (pgd_name (pg_name (i := 3) sc__law_lines.nd rfl (by first | exact .inl rfl | exact .inr rfl)) (by decide))) (fun _ _ _ _ _ => ptsd_nil) (fun _ _ _ _ _ => (pd_op o_add (pd_var (pv 3)) (pd_tup (pds_cons pd_int pds_nil)))))) (pd_frz (pl_lc (own := [("row", 3)]) rfl sc__law_lines.nd (pid_seq (pd_var (pv 1))) (blkOk_by (N := names__law_lines) (sc := _) (by kernel_rfl)) (fun _ _ _ _ _ => (pgd_name (pg_name (i := 3) sc__law_lines.nd rfl (by first | exact .inl rfl | exact .inr rfl)) (by decide))) (fun _ _ _ _ _ => ptsd_nil) (fun _ _ _ _ _ => (pd_op o_add (pd_var (pv 3)) (pd_tup (pds_cons pd_int pds_nil))))))))))
    (pssd_one (psd_ret (pd_frz (pl_callB (c_sortD (un65 hr)) (by rfl) B.sorted (by decide +kernel) (pds_cons (pd_var (pv 1)) pds_nil)))))))
theorem ok__law_lines (B : Bl mg) {f : Addr} {fd : FuncData} {C : Ct} (F : FunD K "_law_lines" "_law_lines" (defArgs s__law_lines) (defBody s__law_lines) (defScope s__law_lines) [] [] f fd) (mc : MonoC C)
    (hC : ∀ fs S Q, C fs S Q → fs.length = 1 ∧ w__law_lines { nx := fun _ S' => Q .non S', rt := fun d S' => Q d S' } (startF 4 fs) S) : FnD P w K mg base (0 + 1) f fd ["m"] C :=
  fnD false F sc__law_lines mc (w__law_lines) (fun cdv A outer s H hr => body__law_lines B cdv A outer s H hr) hC
end

abbrev s__law_has : Stmt := topS 22
abbrev names__law_has : List Str := ["line", "told", "k"]
theorem sc__law_has : FnScope names__law_has ["line", "told"] (defScope s__law_has) := ⟨rfl, rfl, rfl, by decide +kernel, rfl, by decide +kernel, by decide +kernel⟩
def w__law_has : WS :=
  (sRet (wCall cAll (wCons (wFrz (wComp [2] (wRange1 (wCons (wCall cLen (wCons (wVar 0) wNil)) wNil)) (gN 2) wYes (wOr (wOp oIs (wOp oIx (wVar 1) (wVar 2)) (wC .non)) (wOp oEq (wOp oIx (wVar 1) (wVar 2)) (wOp oIx (wVar 0) (wVar 2)))))) wNil)))
section
variable {P : Program} {w : World} {K : PySem.W.Frag} {mg : Str → Option Value} {base : Heap}
theorem body__law_has (B : Bl mg) {f : Addr} {qual : Str} (cdv : Value) (A : Around) (outer : List Env) (s : Shared) (H : Hp) (hr : Room 0 (A.deeper (envOfC qual (defScope s__law_has) s.heap.objs.size f cdv))) :
    PSsD (cxOf CX0 P w K mg base names__law_has qual (defScope s__law_has) f cdv A outer s H E0).nox (defBody s__law_has) (w__law_has) :=
  (pssd_one (psd_ret (pd_callB (c_all rfl) (by rfl) B.all (by decide +kernel) (pds_cons (pd_frz (pl_lc (own := [("k", 2)]) rfl sc__law_has.nd (pid_range1 (by rfl) B.range (pds_cons (pd_callB c_len (by rfl) B.len (by decide +kernel) (pds_cons (pd_var (pv 0)) pds_nil)) pds_nil)) (blkOk_by (N := names__law_has) (sc := _) (by kernel_rfl)) (fun _ _ _ _ _ => (pgd_name (pg_name (i := 2) sc__law_has.nd rfl (by first | exact .inl rfl | exact .inr rfl)) (by decide))) (fun _ _ _ _ _ => ptsd_nil) (fun _ _ _ _ _ => (pd_or (pd_cmp o_is (pd_ix ix_all (pd_var (pv 1)) (pd_var (pv 2)) (fun _ _ => rfl)) pd_non (nomark _)) (pd_one (pd_cmp (o_eq hr.units) (pd_ix ix_all (pd_var (pv 1)) (pd_var (pv 2)) (fun _ _ => rfl)) (pd_ix ix_all (pd_var (pv 0)) (pd_var (pv 2)) (fun _ _ => rfl)) (nomark _))))))) pds_nil))))
theorem ok__law_has (B : Bl mg) {f : Addr} {fd : FuncData} {C : Ct} (F : FunD K "_law_has" "_law_has" (defArgs s__law_has) (defBody s__law_has) (defScope s__law_has) [] [] f fd) (mc : MonoC C)
    (hC : ∀ fs S Q, C fs S Q → fs.length = 2 ∧ w__law_has { nx := fun _ S' => Q .non S', rt := fun d S' => Q d S' } (startF 3 fs) S) : FnD P w K mg base (0 + 1) f fd ["line", "told"] C :=
  fnD false F sc__law_has mc (w__law_has) (fun cdv A outer s H hr => body__law_has B cdv A outer s H hr) hC
end

abbrev s__law_told : Stmt := topS 23
abbrev names__law_told : List Str := ["clue", "told", "number", "found", "e"]
theorem sc__law_told : FnScope names__law_told ["clue", "told", "number"] (defScope s__law_told) := ⟨rfl, rfl, rfl, by decide +kernel, rfl, by decide +kernel, by decide +kernel⟩
def w__law_told (x_NoAnswer : Addr) (x_BadText : Addr) (x_NotAllowed : Addr) (x_NotPossible : Addr) (x_TooMany : Addr) (c_line_at : CtX) : WS :=
  (sSeq (sAsg (wTup (wCons (wC (.str ("nothing" : Str))) (wCons (wC .non) wNil))) (gN 3))
    (sSeq (sTry1 x_NoAnswer 4 (sAsgX (wTupX (wConsD (wC (.str ("told" : Str))) (wConsX (wCallX c_line_at (wCons (wVar 0) (wCons (wVar 1) (wCons (wVar 2) wNil)))) wNil))) 3) (fun a => (sAsg (wIf (bNot (wTst (wIsE 4 a false))) (wTup (wCons (wC (.str ("none" : Str))) (wCons (wC .non) wNil))) (wTup (wCons (wC (.str ("other" : Str))) (wCons (wC .non) wNil)))) (gN 3))))
    (sRet (wVar 3))))
section
variable {P : Program} {w : World} {K : PySem.W.Frag} {mg : Str → Option Value} {base : Heap}
theorem body__law_told (B : Bl mg) {x_NoAnswer : Addr} (gk_NoAnswer : GK mg "NoAnswer" x_NoAnswer) {x_BadText : Addr} (gk_BadText : GK mg "BadText" x_BadText) {x_NotAllowed : Addr} (gk_NotAllowed : GK mg "NotAllowed" x_NotAllowed) {x_NotPossible : Addr} (gk_NotPossible : GK mg "NotPossible" x_NotPossible) {x_TooMany : Addr} (gk_TooMany : GK mg "TooMany" x_TooMany) (xc_NoAnswer : ExcC K x_NoAnswer) (is_NoAnswer_BadText_NotAllowed_NotPossible_TooMany : PySem.W.kitAny K (.ref x_NoAnswer) ([x_BadText, x_NotAllowed, x_NotPossible, x_TooMany].map Value.ref) = some false) (tr_NoAnswer_NoAnswer : PySem.W.exmOne K (.ref x_NoAnswer) (.ref x_NoAnswer) = some true) {c_line_at : CtX} (k_line_at : CalX P w K mg base 4 "line_at" ["clue", "told", "number"] c_line_at) {f : Addr} {qual : Str} (cdv : Value) (A : Around) (outer : List Env) (s : Shared) (H : Hp) (hr : Room 4 (A.deeper (envOfC qual (defScope s__law_told) s.heap.objs.size f cdv))) :
    PSsD (cxOf CX0 P w K mg base names__law_told qual (defScope s__law_told) f cdv A outer s H E0).nox (defBody s__law_told) (w__law_told x_NoAnswer x_BadText x_NotAllowed x_NotPossible x_TooMany c_line_at) :=
  (pssd_cons (psd_set (i := 3) sc__law_told.nd rfl (by first | exact .inl rfl | exact .inr rfl) (pd_tup (pds_cons pd_str (pds_cons pd_non pds_nil))))
    (pssd_cons (psd_try1 (i := 4) rfl rfl sc__law_told.nd rfl rfl ⟨by rfl, by decide, .inl gk_NoAnswer.g⟩ tr_NoAnswer_NoAnswer (fun pn xe hpo => (pssd_one (psd_setX (i := 3) sc__law_told.nd rfl (by first | exact .inl rfl | exact .inr rfl) (pdx_tup (pdsx_d pd_str (pdsx_x (pdx_cal k_line_at hr (by rfl) (by decide) (pds_cons (pd_var (pv 0)) (pds_cons (pd_var (pv 1)) (pds_cons (pd_var (pv 2)) pds_nil)))) pds_nil)))))) (fun a oe pn hz hf => (pssd_one (psd_set (i := 3) sc__law_told.nd rfl (by first | exact .inl rfl | exact .inr rfl) (pd_if (pb_not (pb_val (pd_isET xc_NoAnswer hz hf (by rfl) B.isinstance (pv 4) (.cons (by rfl) gk_BadText.g (by decide) (by rfl) (.cons (by rfl) gk_NotAllowed.g (by decide) (by rfl) (.cons (by rfl) gk_NotPossible.g (by decide) (by rfl) (.cons (by rfl) gk_TooMany.g (by decide) (by rfl) .nil)))) (by simp) is_NoAnswer_BadText_NotAllowed_NotPossible_TooMany))) (pd_tup (pds_cons pd_str (pds_cons pd_non pds_nil))) (pd_tup (pds_cons pd_str (pds_cons pd_non pds_nil))))))))
    (pssd_one (psd_ret (pd_var (pv 3))))))
theorem ok__law_told (B : Bl mg) {x_NoAnswer : Addr} (gk_NoAnswer : GK mg "NoAnswer" x_NoAnswer) {x_BadText : Addr} (gk_BadText : GK mg "BadText" x_BadText) {x_NotAllowed : Addr} (gk_NotAllowed : GK mg "NotAllowed" x_NotAllowed) {x_NotPossible : Addr} (gk_NotPossible : GK mg "NotPossible" x_NotPossible) {x_TooMany : Addr} (gk_TooMany : GK mg "TooMany" x_TooMany) (xc_NoAnswer : ExcC K x_NoAnswer) (is_NoAnswer_BadText_NotAllowed_NotPossible_TooMany : PySem.W.kitAny K (.ref x_NoAnswer) ([x_BadText, x_NotAllowed, x_NotPossible, x_TooMany].map Value.ref) = some false) (tr_NoAnswer_NoAnswer : PySem.W.exmOne K (.ref x_NoAnswer) (.ref x_NoAnswer) = some true) {c_line_at : CtX} (k_line_at : CalX P w K mg base 4 "line_at" ["clue", "told", "number"] c_line_at) {f : Addr} {fd : FuncData} {C : Ct} (F : FunD K "_law_told" "_law_told" (defArgs s__law_told) (defBody s__law_told) (defScope s__law_told) [] [] f fd) (mc : MonoC C)
    (hC : ∀ fs S Q, C fs S Q → fs.length = 3 ∧ w__law_told x_NoAnswer x_BadText x_NotAllowed x_NotPossible x_TooMany c_line_at { nx := fun _ S' => Q .non S', rt := fun d S' => Q d S' } (startF 5 fs) S) : FnD P w K mg base (4 + 1) f fd ["clue", "told", "number"] C :=
  fnD false F sc__law_told mc (w__law_told x_NoAnswer x_BadText x_NotAllowed x_NotPossible x_TooMany c_line_at) (fun cdv A outer s H hr => body__law_told B gk_NoAnswer gk_BadText gk_NotAllowed gk_NotPossible gk_TooMany xc_NoAnswer is_NoAnswer_BadText_NotAllowed_NotPossible_TooMany tr_NoAnswer_NoAnswer k_line_at cdv A outer s H hr) hC
end

abbrev s__law_choose : Stmt := topS 24
abbrev names__law_choose : List Str := ["n", "k", "number", "step"]
theorem sc__law_choose : FnScope names__law_choose ["n", "k"] (defScope s__law_choose) := ⟨rfl, rfl, rfl, by decide +kernel, rfl, by decide +kernel, by decide +kernel⟩
def w__law_choose : WS :=
  (sSeq (sAsg (wC (.int 1)) (gN 2))
    (sSeq (sFor (wRange1 (wCons (wVar 1) wNil)) (gN 3) (sAsg (wOp oDiv (wOp oMul (wVar 2) (wOp oSub (wVar 0) (wVar 3))) (wOp oAdd (wVar 3) (wC (.int 1)))) (gN 2)))
    (sRet (wVar 2))))
section
variable {P : Program} {w : World} {K : PySem.W.Frag} {mg : Str → Option Value} {base : Heap}
theorem body__law_choose (B : Bl mg) {f : Addr} {qual : Str} (cdv : Value) (A : Around) (outer : List Env) (s : Shared) (H : Hp) (hr : Room 0 (A.deeper (envOfC qual (defScope s__law_choose) s.heap.objs.size f cdv))) :
    PSsD (cxOf CX0 P w K mg base names__law_choose qual (defScope s__law_choose) f cdv A outer s H E0).nox (defBody s__law_choose) (w__law_choose) :=
  (pssd_cons (psd_set (i := 2) sc__law_choose.nd rfl (by first | exact .inl rfl | exact .inr rfl) pd_int)
    (pssd_cons (psd_for (vs := [3]) PassesOwn.never rfl (pid_range1 (by rfl) B.range (pds_cons (pd_var (pv 1)) pds_nil)) (pgd_name (pg_name (i := 3) sc__law_choose.nd rfl (by first | exact .inl rfl | exact .inr rfl)) (by decide)) (pssd_one (psd_set (i := 2) sc__law_choose.nd rfl (by first | exact .inl rfl | exact .inr rfl) (pd_op o_div (pd_op o_mul (pd_var (pv 2)) (pd_op o_sub (pd_var (pv 0)) (pd_var (pv 3)))) (pd_op o_add (pd_var (pv 3)) pd_int)))))
    (pssd_one (psd_ret (pd_var (pv 2))))))
theorem ok__law_choose (B : Bl mg) {f : Addr} {fd : FuncData} {C : Ct} (F : FunD K "_law_choose" "_law_choose" (defArgs s__law_choose) (defBody s__law_choose) (defScope s__law_choose) [] [] f fd) (mc : MonoC C)
    (hC : ∀ fs S Q, C fs S Q → fs.length = 2 ∧ w__law_choose { nx := fun _ S' => Q .non S', rt := fun d S' => Q d S' } (startF 4 fs) S) : FnD P w K mg base (0 + 1) f fd ["n", "k"] C :=
  fnD false F sc__law_choose mc (w__law_choose) (fun cdv A outer s H hr => body__law_choose B cdv A outer s H hr) hC
end

abbrev s__law_fine : Stmt := topS 25
abbrev names__law_fine : List Str := ["box", "clue", "told", "due", "number", "right", "line", "turn"]
theorem sc__law_fine : FnScope names__law_fine ["box", "clue", "told"] (defScope s__law_fine) := ⟨rfl, rfl, rfl, by decide +kernel, rfl, by decide +kernel, by decide +kernel⟩
def w__law_fine (c_count_line : Ct) (c_first_line : Ct) (c_number_of : Ct) (c__law_draw : Ct) (c__law_same : Ct) (c__law_clue : Ct) (c__law_lines : Ct) (c__law_has : Ct) (c__law_told : Ct) : WS :=
  (sSeq (sAsg (wFrz (wComp [6] (wIt (wCall c__law_lines (wCons (wCall cLen (wCons (wVar 2) wNil)) wNil))) (gN 6) (bAnd (wTst (wOp oEq (wCall c__law_clue (wCons (wVar 6) wNil)) (wVar 1))) (wTst (wCall c__law_has (wCons (wVar 6) (wCons (wVar 2) wNil))))) (wVar 6))) (gN 3))
    (sSeq (sIf (bOr (bNot (wTst (wCall c__law_same (wCons (wCall c_count_line (wCons (wVar 1) (wCons (wVar 2) wNil))) (wCons (wCall cLen (wCons (wVar 3) wNil)) wNil))))) (bNot (wTst (wCall c__law_same (wCons (wCall c_first_line (wCons (wVar 1) (wCons (wVar 2) wNil))) (wCons (wIf (wTst (wOp oNe (wVar 3) (wFrz (wLst wNil)))) (wOp oIx (wVar 3) (wC (.int 0))) (wC .non)) wNil)))))) (sRet (wC (.bl false))) sNext)
    (sSeq (sFor (wIt (wOp oAdd (wFrz (wLst (wCons (wC (.int 0)) (wCons (wOp oSub (wCall cLen (wCons (wVar 3) wNil)) (wC (.int 1))) (wCons (wCall cLen (wCons (wVar 3) wNil)) (wCons (wNeg (wC (.int 1))) (wCons (wOp oPow (wC (.int 10)) (wC (.int 9))) wNil))))))) (wFrz (wComp [7] (wRange1 (wCons (wC (.int 5)) wNil)) (gN 7) wYes (wCall c__law_draw (wCons (wVar 0) (wCons (wOp oAdd (wCall cLen (wCons (wVar 3) wNil)) (wC (.int 1))) wNil))))))) (gN 4) (sSeq (sAsg (wIf (wTst (wChain oLe oLt (wC (.int 0)) (wVar 4) (wCall cLen (wCons (wVar 3) wNil)))) (wTup (wCons (wC (.str ("told" : Str))) (wCons (wOp oIx (wVar 3) (wVar 4)) wNil))) (wTup (wCons (wC (.str ("none" : Str))) (wCons (wC .non) wNil)))) (gN 5))
    (sSeq (sIf (bNot (wTst (wCall c__law_same (wCons (wCall c__law_told (wCons (wVar 1) (wCons (wVar 2) (wCons (wVar 4) wNil)))) (wCons (wVar 5) wNil))))) (sRet (wC (.bl false))) sNext)
    (sIf (bAnd (wTst (wOp oEq (wOp oIx (wVar 5) (wC (.int 0))) (wC (.str ("told" : Str))))) (bNot (wTst (wCall c__law_same (wCons (wCall c_number_of (wCons (wVar 1) (wCons (wVar 2) (wCons (wOp oIx (wVar 3) (wVar 4)) wNil)))) (wCons (wVar 4) wNil)))))) (sRet (wC (.bl false))) sNext))))
    (sRet (wC (.bl true))))))
section
variable {P : Program} {w : World} {K : PySem.W.Frag} {mg : Str → Option Value} {base : Heap}
theorem body__law_fine (B : Bl mg) {c_count_line : Ct} (k_count_line : Cal P w K mg base 4 "count_line" ["clue", "told"] c_count_line) {c_first_line : Ct} (k_first_line : Cal P w K mg base 5 "first_line" ["clue", "told"] c_first_line) {c_number_of : Ct} (k_number_of : Cal P w K mg base 4 "number_of" ["clue", "told", "line"] c_number_of) {c__law_draw : Ct} (k__law_draw : Cal P w K mg base 2 "_law_draw" ["box", "many"] c__law_draw) {c__law_same : Ct} (k__law_same : Cal P w K mg base 9 "_law_same" ["a", "b"] c__law_same) {c__law_clue : Ct} (k__law_clue : Cal P w K mg base 1 "_law_clue" ["line"] c__law_clue) {c__law_lines : Ct} (k__law_lines : Cal P w K mg base 1 "_law_lines" ["m"] c__law_lines) {c__law_has : Ct} (k__law_has : Cal P w K mg base 1 "_law_has" ["line", "told"] c__law_has) {c__law_told : Ct} (k__law_told : Cal P w K mg base 5 "_law_told" ["clue", "told", "number"] c__law_told) {f : Addr} {qual : Str} (cdv : Value) (A : Around) (outer : List Env) (s : Shared) (H : Hp) (hr : Room 9 (A.deeper (envOfC qual (defScope s__law_fine) s.heap.objs.size f cdv))) :
    PSsD (cxOf CX0 P w K mg base names__law_fine qual (defScope s__law_fine) f cdv A outer s H E0).nox (defBody s__law_fine) (w__law_fine c_count_line c_first_line c_number_of c__law_draw c__law_same c__law_clue c__law_lines c__law_has c__law_told) :=
  (pssd_cons (psd_set (i := 3) sc__law_fine.nd rfl (by first | exact .inl rfl | exact .inr rfl) (pd_frz (pl_lc (own := [("line", 6)]) rfl sc__law_fine.nd (pid_seq (pd_cal k__law_lines hr (by rfl) (pds_cons (pd_callB c_len (by rfl) B.len (by decide +kernel) (pds_cons (pd_var (pv 2)) pds_nil)) pds_nil))) (blkOk_by (N := names__law_fine) (sc := _) (by kernel_rfl)) (fun _ _ _ _ _ => (pgd_name (pg_name (i := 6) sc__law_fine.nd rfl (by first | exact .inl rfl | exact .inr rfl)) (by decide))) (fun _ _ _ _ _ => (ptsd_one (PBW.pb (pb_and (pb_cmp (o_eq hr.units) (pd_cal k__law_clue hr (by rfl) (pds_cons (pd_var (pv 6)) pds_nil)) (pd_var (pv 1)) (nomark _)) (pb_and1 (pb_val (pd_cal k__law_has hr (by rfl) (pds_cons (pd_var (pv 6)) (pds_cons (pd_var (pv 2)) pds_nil))))))))) (fun _ _ _ _ _ => (pd_var (pv 6))))))
    (pssd_cons (psd_if (PBW.pb (pb_or (pb_not (pb_val (pd_cal k__law_same hr (by rfl) (pds_cons (pd_cal k_count_line hr (by rfl) (pds_cons (pd_var (pv 1)) (pds_cons (pd_var (pv 2)) pds_nil))) (pds_cons (pd_callB c_len (by rfl) B.len (by decide +kernel) (pds_cons (pd_var (pv 3)) pds_nil)) pds_nil))))) (pb_or1 (pb_not (pb_val (pd_cal k__law_same hr (by rfl) (pds_cons (pd_cal k_first_line hr (by rfl) (pds_cons (pd_var (pv 1)) (pds_cons (pd_var (pv 2)) pds_nil))) (pds_cons (pd_if (pb_cmp (o_ne hr.units) (pd_var (pv 3)) (pd_frz (pl_lst pds_nil)) (nomark _)) (pd_ix ix_all (pd_var (pv 3)) pd_int (fun _ _ => rfl)) pd_non) pds_nil)))))))) (pssd_one (psd_ret pd_bl)) pssd_nil)
    (pssd_cons (psd_for (vs := [4]) PassesOwn.never rfl (pid_seq (pd_op o_add (pd_frz (pl_lst (pds_cons pd_int (pds_cons (pd_op o_sub (pd_callB c_len (by rfl) B.len (by decide +kernel) (pds_cons (pd_var (pv 3)) pds_nil)) pd_int) (pds_cons (pd_callB c_len (by rfl) B.len (by decide +kernel) (pds_cons (pd_var (pv 3)) pds_nil)) (pds_cons (pd_neg pd_int) (pds_cons (pd_op o_pow pd_int pd_int) pds_nil))))))) (pd_frz (pl_lc (own := [("turn", 7)]) rfl sc__law_fine.nd (pid_range1 (by rfl) B.range (pds_cons pd_int pds_nil)) (blkOk_by (N := names__law_fine) (sc := _) (by kernel_rfl)) (fun _ _ _ _ _ => (pgd_name (pg_name (i := 7) sc__law_fine.nd rfl (by first | exact .inl rfl | exact .inr rfl)) (by decide))) (fun _ _ _ _ _ => ptsd_nil) (fun _ _ _ _ _ => (pd_cal k__law_draw hr (by rfl) (pds_cons (pd_var (pv 0)) (pds_cons (pd_op o_add (pd_callB c_len (by rfl) B.len (by decide +kernel) (pds_cons (pd_var (pv 3)) pds_nil)) pd_int) pds_nil)))))))) (pgd_name (pg_name (i := 4) sc__law_fine.nd rfl (by first | exact .inl rfl | exact .inr rfl)) (by decide)) (pssd_cons (psd_set (i := 5) sc__law_fine.nd rfl (by first | exact .inl rfl | exact .inr rfl) (pd_if (pb_chain o_le o_lt pd_int (pd_var (pv 4)) (pd_callB c_len (by rfl) B.len (by decide +kernel) (pds_cons (pd_var (pv 3)) pds_nil))) (pd_tup (pds_cons pd_str (pds_cons (pd_ix ix_all (pd_var (pv 3)) (pd_var (pv 4)) (fun _ _ => rfl)) pds_nil))) (pd_tup (pds_cons pd_str (pds_cons pd_non pds_nil)))))
    (pssd_cons (psd_if (pb_not (pb_val (pd_cal k__law_same hr (by rfl) (pds_cons (pd_cal k__law_told hr (by rfl) (pds_cons (pd_var (pv 1)) (pds_cons (pd_var (pv 2)) (pds_cons (pd_var (pv 4)) pds_nil)))) (pds_cons (pd_var (pv 5)) pds_nil))))) (pssd_one (psd_ret pd_bl)) pssd_nil)
    (pssd_one (psd_if (PBW.pb (pb_and (pb_cmp (o_eq hr.units) (pd_ix ix_all (pd_var (pv 5)) pd_int (fun _ _ => rfl)) pd_str (nomark _)) (pb_and1 (pb_not (pb_val (pd_cal k__law_same hr (by rfl) (pds_cons (pd_cal k_number_of hr (by rfl) (pds_cons (pd_var (pv 1)) (pds_cons (pd_var (pv 2)) (pds_cons (pd_ix ix_all (pd_var (pv 3)) (pd_var (pv 4)) (fun _ _ => rfl)) pds_nil)))) (pds_cons (pd_var (pv 4)) pds_nil)))))))) (pssd_one (psd_ret pd_bl)) pssd_nil)))))
    (pssd_one (psd_ret pd_bl)))))
theorem ok__law_fine (B : Bl mg) {c_count_line : Ct} (k_count_line : Cal P w K mg base 4 "count_line" ["clue", "told"] c_count_line) {c_first_line : Ct} (k_first_line : Cal P w K mg base 5 "first_line" ["clue", "told"] c_first_line) {c_number_of : Ct} (k_number_of : Cal P w K mg base 4 "number_of" ["clue", "told", "line"] c_number_of) {c__law_draw : Ct} (k__law_draw : Cal P w K mg base 2 "_law_draw" ["box", "many"] c__law_draw) {c__law_same : Ct} (k__law_same : Cal P w K mg base 9 "_law_same" ["a", "b"] c__law_same) {c__law_clue : Ct} (k__law_clue : Cal P w K mg base 1 "_law_clue" ["line"] c__law_clue) {c__law_lines : Ct} (k__law_lines : Cal P w K mg base 1 "_law_lines" ["m"] c__law_lines) {c__law_has : Ct} (k__law_has : Cal P w K mg base 1 "_law_has" ["line", "told"] c__law_has) {c__law_told : Ct} (k__law_told : Cal P w K mg base 5 "_law_told" ["clue", "told", "number"] c__law_told) {f : Addr} {fd : FuncData} {C : Ct} (F : FunD K "_law_fine" "_law_fine" (defArgs s__law_fine) (defBody s__law_fine) (defScope s__law_fine) [] [] f fd) (mc : MonoC C)
    (hC : ∀ fs S Q, C fs S Q → fs.length = 3 ∧ w__law_fine c_count_line c_first_line c_number_of c__law_draw c__law_same c__law_clue c__law_lines c__law_has c__law_told { nx := fun _ S' => Q .non S', rt := fun d S' => Q d S' } (startF 8 fs) S) : FnD P w K mg base (9 + 1) f fd ["box", "clue", "told"] C :=
  fnD false F sc__law_fine mc (w__law_fine c_count_line c_first_line c_number_of c__law_draw c__law_same c__law_clue c__law_lines c__law_has c__law_told) (fun cdv A outer s H hr => body__law_fine B k_count_line k_first_line k_number_of k__law_draw k__law_same k__law_clue k__law_lines k__law_has k__law_told cdv A outer s H hr) hC
end

abbrev s__law_great_fine : Stmt := topS 26
abbrev names__law_great_fine : List Str := ["box", "clue", "left", "run", "told", "many", "line", "free", "count", "number", "found"]
theorem sc__law_great_fine : FnScope names__law_great_fine ["box"] (defScope s__law_great_fine) := ⟨rfl, rfl, rfl, by decide +kernel, rfl, by decide +kernel, by decide +kernel⟩
def w__law_great_fine (c_count_line : Ct) (c_first_line : Ct) (c_number_of : Ct) (c__law_draw : Ct) (c__law_same : Ct) (c__law_clue : Ct) (c__law_told : Ct) (c__law_choose : Ct) : WS :=
  (sSeq (sPar [1, 2] (wCons (wOwn (wLst wNil)) (wCons (wC (.int 16)) wNil)))
    (sSeq (sWhile (bAnd (wTst (wOp oGt (wVar 2) (wC (.int 0)))) (wTst (wOp oGt (wCall c__law_draw (wCons (wVar 0) (wCons (wC (.int 5)) wNil))) (wC (.int 0))))) (sSeq (sAsg (wOp oAdd (wC (.int 1)) (wCall c__law_draw (wCons (wVar 0) (wCons (wCall cMin2 (wCons (wVar 2) (wCons (wC (.int 5)) wNil))) wNil)))) (gN 3))
    (sSeq (sExpr (wMt mAppend (wVar 1) (wCons (wVar 3) wNil)))
    (sAsg (wOp oSub (wOp oSub (wVar 2) (wVar 3)) (wC (.int 1))) (gN 2)))))
    (sSeq (sPar [1, 4] (wCons (wCall cTuple (wCons (wVar 1) wNil)) (wCons (wOp oMul (wTup (wCons (wC .non) wNil)) (wC (.int 16))) wNil)))
    (sSeq (sPar [5, 6] (wCons (wCall cLen (wCons (wVar 1) wNil)) (wCons (wFrz (wLst wNil)) wNil)))
    (sSeq (sFor (wIt (wVar 1)) (gN 3) (sAsg (wOp oAdd (wOp oAdd (wVar 6) (wOp oMul (wFrz (wLst (wCons (wC (.int 1)) wNil))) (wVar 3))) (wFrz (wLst (wCons (wC (.int 0)) wNil)))) (gN 6)))
    (sSeq (sAsg (wIf (wTst (wOp oNe (wVar 6) (wFrz (wLst wNil)))) (wSl (wVar 6) wNoPart (wPart (wNeg (wC (.int 1))))) (wVar 6)) (gN 6))
    (sSeq (sAsg (wOp oSub (wC (.int 16)) (wCall cLen (wCons (wVar 6) wNil))) (gN 7))
    (sSeq (sAsg (wCall c__law_choose (wCons (wOp oAdd (wOp oSub (wC (.int 16)) (wCall cSum (wCons (wVar 1) wNil))) (wC (.int 1))) (wCons (wVar 5) wNil))) (gN 8))
    (sSeq (sIf (bOr (bNot (wTst (wCall c__law_same (wCons (wCall c_count_line (wCons (wVar 1) (wCons (wVar 4) wNil))) (wCons (wVar 8) wNil))))) (bNot (wTst (wCall c__law_same (wCons (wCall c_first_line (wCons (wVar 1) (wCons (wVar 4) wNil))) (wCons (wCall cTuple (wCons (wOp oAdd (wOp oMul (wFrz (wLst (wCons (wC (.int 0)) wNil))) (wVar 7)) (wVar 6)) wNil)) wNil)))))) (sRet (wC (.bl false))) sNext)
    (sSeq (sIf (bOr (bNot (wTst (wCall c__law_same (wCons (wCall c__law_told (wCons (wVar 1) (wCons (wVar 4) (wCons (wOp oSub (wVar 8) (wC (.int 1))) wNil)))) (wCons (wTup (wCons (wC (.str ("told" : Str))) (wCons (wCall cTuple (wCons (wOp oAdd (wVar 6) (wOp oMul (wFrz (wLst (wCons (wC (.int 0)) wNil))) (wVar 7))) wNil)) wNil))) wNil))))) (wTst (wOp oNe (wOp oIx (wCall c__law_told (wCons (wVar 1) (wCons (wVar 4) (wCons (wVar 8) wNil)))) (wC (.int 0))) (wC (.str ("none" : Str)))))) (sRet (wC (.bl false))) sNext)
    (sSeq (sAsg (wCall c__law_draw (wCons (wVar 0) (wCons (wVar 8) wNil))) (gN 9))
    (sSeq (sAsg (wCall c__law_told (wCons (wVar 1) (wCons (wVar 4) (wCons (wVar 9) wNil)))) (gN 10))
    (sRet (wAnd (wOp oEq (wOp oIx (wVar 10) (wC (.int 0))) (wC (.str ("told" : Str)))) (wAnd (wOp oEq (wCall c__law_clue (wCons (wOp oIx (wVar 10) (wC (.int 1))) wNil)) (wVar 1)) (wAnd (wOp oEq (wCall cLen (wCons (wOp oIx (wVar 10) (wC (.int 1))) wNil)) (wC (.int 16))) (wCall c__law_same (wCons (wCall c_number_of (wCons (wVar 1) (wCons (wVar 4) (wCons (wOp oIx (wVar 10) (wC (.int 1))) wNil)))) (wCons (wVar 9) wNil)))))))))))))))))))
section
variable {P : Program} {w : World} {K : PySem.W.Frag} {mg : Str → Option Value} {base : Heap}
theorem body__law_great_fine (B : Bl mg) {c_count_line : Ct} (k_count_line : Cal P w K mg base 4 "count_line" ["clue", "told"] c_count_line) {c_first_line : Ct} (k_first_line : Cal P w K mg base 5 "first_line" ["clue", "told"] c_first_line) {c_number_of : Ct} (k_number_of : Cal P w K mg base 4 "number_of" ["clue", "told", "line"] c_number_of) {c__law_draw : Ct} (k__law_draw : Cal P w K mg base 2 "_law_draw" ["box", "many"] c__law_draw) {c__law_same : Ct} (k__law_same : Cal P w K mg base 9 "_law_same" ["a", "b"] c__law_same) {c__law_clue : Ct} (k__law_clue : Cal P w K mg base 1 "_law_clue" ["line"] c__law_clue) {c__law_told : Ct} (k__law_told : Cal P w K mg base 5 "_law_told" ["clue", "told", "number"] c__law_told) {c__law_choose : Ct} (k__law_choose : Cal P w K mg base 1 "_law_choose" ["n", "k"] c__law_choose) {f : Addr} {qual : Str} (cdv : Value) (A : Around) (outer : List Env) (s : Shared) (H : Hp) (hr : Room 9 (A.deeper (envOfC qual (defScope s__law_great_fine) s.heap.objs.size f cdv))) :
    PSsD (cxOf CX0 P w K mg base names__law_great_fine qual (defScope s__law_great_fine) f cdv A outer s H E0).nox (defBody s__law_great_fine) (w__law_great_fine c_count_line c_first_line c_number_of c__law_draw c__law_same c__law_clue c__law_told c__law_choose) :=
  (pssd_cons (psd_par (i := 1) (j := 2) rfl sc__law_great_fine.nd rfl rfl (by decide) rfl rfl (pds_cons (pd_own (pl_lst pds_nil)) (pds_cons pd_int pds_nil)) (by rfl))
    (pssd_cons (psd_while PassesOwn.never (PBW.pb (pb_and (pb_cmp o_gt (pd_var (pv 2)) pd_int (nomark _)) (pb_and1 (pb_cmp o_gt (pd_cal k__law_draw hr (by rfl) (pds_cons (pd_var (pv 0)) (pds_cons pd_int pds_nil))) pd_int (nomark _))))) (pssd_cons (psd_set (i := 3) sc__law_great_fine.nd rfl (by first | exact .inl rfl | exact .inr rfl) (pd_op o_add pd_int (pd_cal k__law_draw hr (by rfl) (pds_cons (pd_var (pv 0)) (pds_cons (pd_callB (c_min2 rfl) (by rfl) B.min (by decide +kernel) (pds_cons (pd_var (pv 2)) (pds_cons pd_int pds_nil))) pds_nil)))))
    (pssd_cons (psd_expr (pd_mt PySem.F.slot_list_append PySem.F.type_list_append m_append (pd_var (pv 1)) (pds_cons (pd_var (pv 3)) pds_nil)))
    (pssd_one (psd_set (i := 2) sc__law_great_fine.nd rfl (by first | exact .inl rfl | exact .inr rfl) (pd_op o_sub (pd_op o_sub (pd_var (pv 2)) (pd_var (pv 3))) pd_int))))))
    (pssd_cons (psd_par (i := 1) (j := 4) rfl sc__law_great_fine.nd rfl rfl (by decide) rfl rfl (pds_cons (pd_callTy c_tuple (by rfl) B.tuple (by decide +kernel) (pds_cons (pd_var (pv 1)) pds_nil)) (pds_cons (pd_op o_mul (pd_tup (pds_cons pd_non pds_nil)) pd_int) pds_nil)) (by rfl))
    (pssd_cons (psd_par (i := 5) (j := 6) rfl sc__law_great_fine.nd rfl rfl (by decide) rfl rfl (pds_cons (pd_callB c_len (by rfl) B.len (by decide +kernel) (pds_cons (pd_var (pv 1)) pds_nil)) (pds_cons (pd_frz (pl_lst pds_nil)) pds_nil)) (by rfl))
    (pssd_cons (psd_for (vs := [3]) PassesOwn.never rfl (pid_seq (pd_var (pv 1))) (pgd_name (pg_name (i := 3) sc__law_great_fine.nd rfl (by first | exact .inl rfl | exact .inr rfl)) (by decide)) (pssd_one (psd_set (i := 6) sc__law_great_fine.nd rfl (by first | exact .inl rfl | exact .inr rfl) (pd_op o_add (pd_op o_add (pd_var (pv 6)) (pd_op o_mul (pd_frz (pl_lst (pds_cons pd_int pds_nil))) (pd_var (pv 3)))) (pd_frz (pl_lst (pds_cons pd_int pds_nil)))))))
    (pssd_cons (psd_set (i := 6) sc__law_great_fine.nd rfl (by first | exact .inl rfl | exact .inr rfl) (pd_if (pb_cmp (o_ne hr.units) (pd_var (pv 6)) (pd_frz (pl_lst pds_nil)) (nomark _)) (pd_slice (pd_var (pv 6)) pp_none (pp_some (pd_neg pd_int))) (pd_var (pv 6))))
    (pssd_cons (psd_set (i := 7) sc__law_great_fine.nd rfl (by first | exact .inl rfl | exact .inr rfl) (pd_op o_sub pd_int (pd_callB c_len (by rfl) B.len (by decide +kernel) (pds_cons (pd_var (pv 6)) pds_nil))))
    (pssd_cons (psd_set (i := 8) sc__law_great_fine.nd rfl (by first | exact .inl rfl | exact .inr rfl) (pd_cal k__law_choose hr (by rfl) (pds_cons (pd_op o_add (pd_op o_sub pd_int (pd_callB (c_sum rfl) (by rfl) B.sum (by decide +kernel) (pds_cons (pd_var (pv 1)) pds_nil))) pd_int) (pds_cons (pd_var (pv 5)) pds_nil))))
    (pssd_cons (psd_if (PBW.pb (pb_or (pb_not (pb_val (pd_cal k__law_same hr (by rfl) (pds_cons (pd_cal k_count_line hr (by rfl) (pds_cons (pd_var (pv 1)) (pds_cons (pd_var (pv 4)) pds_nil))) (pds_cons (pd_var (pv 8)) pds_nil))))) (pb_or1 (pb_not (pb_val (pd_cal k__law_same hr (by rfl) (pds_cons (pd_cal k_first_line hr (by rfl) (pds_cons (pd_var (pv 1)) (pds_cons (pd_var (pv 4)) pds_nil))) (pds_cons (pd_callTy c_tuple (by rfl) B.tuple (by decide +kernel) (pds_cons (pd_op o_add (pd_op o_mul (pd_frz (pl_lst (pds_cons pd_int pds_nil))) (pd_var (pv 7))) (pd_var (pv 6))) pds_nil)) pds_nil)))))))) (pssd_one (psd_ret pd_bl)) pssd_nil)
    (pssd_cons (psd_if (PBW.pb (pb_or (pb_not (pb_val (pd_cal k__law_same hr (by rfl) (pds_cons (pd_cal k__law_told hr (by rfl) (pds_cons (pd_var (pv 1)) (pds_cons (pd_var (pv 4)) (pds_cons (pd_op o_sub (pd_var (pv 8)) pd_int) pds_nil)))) (pds_cons (pd_tup (pds_cons pd_str (pds_cons (pd_callTy c_tuple (by rfl) B.tuple (by decide +kernel) (pds_cons (pd_op o_add (pd_var (pv 6)) (pd_op o_mul (pd_frz (pl_lst (pds_cons pd_int pds_nil))) (pd_var (pv 7)))) pds_nil)) pds_nil))) pds_nil))))) (pb_or1 (pb_cmp (o_ne hr.units) (pd_ix ix_all (pd_cal k__law_told hr (by rfl) (pds_cons (pd_var (pv 1)) (pds_cons (pd_var (pv 4)) (pds_cons (pd_var (pv 8)) pds_nil)))) pd_int (fun _ _ => rfl)) pd_str (nomark _))))) (pssd_one (psd_ret pd_bl)) pssd_nil)
    (pssd_cons (psd_set (i := 9) sc__law_great_fine.nd rfl (by first | exact .inl rfl | exact .inr rfl) (pd_cal k__law_draw hr (by rfl) (pds_cons (pd_var (pv 0)) (pds_cons (pd_var (pv 8)) pds_nil))))
    (pssd_cons (psd_set (i := 10) sc__law_great_fine.nd rfl (by first | exact .inl rfl | exact .inr rfl) (pd_cal k__law_told hr (by rfl) (pds_cons (pd_var (pv 1)) (pds_cons (pd_var (pv 4)) (pds_cons (pd_var (pv 9)) pds_nil)))))
    (pssd_one (psd_ret (pd_and (pd_cmp (o_eq hr.units) (pd_ix ix_all (pd_var (pv 10)) pd_int (fun _ _ => rfl)) pd_str (nomark _)) (pd_and (pd_cmp (o_eq hr.units) (pd_cal k__law_clue hr (by rfl) (pds_cons (pd_ix ix_all (pd_var (pv 10)) pd_int (fun _ _ => rfl)) pds_nil)) (pd_var (pv 1)) (nomark _)) (pd_and (pd_cmp (o_eq hr.units) (pd_callB c_len (by rfl) B.len (by decide +kernel) (pds_cons (pd_ix ix_all (pd_var (pv 10)) pd_int (fun _ _ => rfl)) pds_nil)) pd_int (nomark _)) (pd_one (pd_cal k__law_same hr (by rfl) (pds_cons (pd_cal k_number_of hr (by rfl) (pds_cons (pd_var (pv 1)) (pds_cons (pd_var (pv 4)) (pds_cons (pd_ix ix_all (pd_var (pv 10)) pd_int (fun _ _ => rfl)) pds_nil)))) (pds_cons (pd_var (pv 9)) pds_nil)))))))))))))))))))))
theorem ok__law_great_fine (B : Bl mg) {c_count_line : Ct} (k_count_line : Cal P w K mg base 4 "count_line" ["clue", "told"] c_count_line) {c_first_line : Ct} (k_first_line : Cal P w K mg base 5 "first_line" ["clue", "told"] c_first_line) {c_number_of : Ct} (k_number_of : Cal P w K mg base 4 "number_of" ["clue", "told", "line"] c_number_of) {c__law_draw : Ct} (k__law_draw : Cal P w K mg base 2 "_law_draw" ["box", "many"] c__law_draw) {c__law_same : Ct} (k__law_same : Cal P w K mg base 9 "_law_same" ["a", "b"] c__law_same) {c__law_clue : Ct} (k__law_clue : Cal P w K mg base 1 "_law_clue" ["line"] c__law_clue) {c__law_told : Ct} (k__law_told : Cal P w K mg base 5 "_law_told" ["clue", "told", "number"] c__law_told) {c__law_choose : Ct} (k__law_choose : Cal P w K mg base 1 "_law_choose" ["n", "k"] c__law_choose) {f : Addr} {fd : FuncData} {C : Ct} (F : FunD K "_law_great_fine" "_law_great_fine" (defArgs s__law_great_fine) (defBody s__law_great_fine) (defScope s__law_great_fine) [] [] f fd) (mc : MonoC C)
    (hC : ∀ fs S Q, C fs S Q → fs.length = 1 ∧ w__law_great_fine c_count_line c_first_line c_number_of c__law_draw c__law_same c__law_clue c__law_told c__law_choose { nx := fun _ S' => Q .non (restr S S'), rt := fun d S' => Q d (restr S S') } (startF 11 fs) S) : FnD P w K mg base (9 + 1) f fd ["box"] C :=
  fnD true F sc__law_great_fine mc (w__law_great_fine c_count_line c_first_line c_number_of c__law_draw c__law_same c__law_clue c__law_told c__law_choose) (fun cdv A outer s H hr => body__law_great_fine B k_count_line k_first_line k_number_of k__law_draw k__law_same k__law_clue k__law_told k__law_choose cdv A outer s H hr) hC
end

abbrev s_law : Stmt := topS 27
abbrev names_law : List Str := ["script", "box", "turn", "m", "thick", "open_share", "line", "clue", "told", "at", "wrong", "other", "k", "cell"]
theorem sc_law : FnScope names_law ["script"] (defScope s_law) := ⟨rfl, rfl, rfl, by decide +kernel, rfl, by decide +kernel, by decide +kernel⟩
def w_law (c__law_box : Ct) (c__law_draw : Ct) (c__law_clue : Ct) (c__law_fine : Ct) (c__law_great_fine : Ct) : WS :=
  (sSeq (sAsg (wCall c__law_box (wCons (wVar 0) wNil)) (gN 1))
    (sSeq (sFor (wRange1 (wCons (wC (.int 4)) wNil)) (gN 2) (sSeq (sAsg (wTup (wCons (wOp oAdd (wC (.int 1)) (wCall c__law_draw (wCons (wVar 1) (wCons (wOp oIx (wFrz (wLst (wCons (wC (.int 5)) (wCons (wC (.int 8)) (wCons (wC (.int 10)) wNil))))) (wCall c__law_draw (wCons (wVar 1) (wCons (wC (.int 3)) wNil)))) wNil)))) (wCons (wOp oAdd (wC (.int 1)) (wCall c__law_draw (wCons (wVar 1) (wCons (wC (.int 5)) wNil)))) (wCons (wCall c__law_draw (wCons (wVar 1) (wCons (wC (.int 5)) wNil))) wNil)))) (gTup2 3 (gCons2 (gN 3) (gCons2 (gN 4) (gCons2 (gN 5) gNil2)))))
    (sSeq (sAsg (wCall cTuple (wCons (wFrz (wComp [12] (wRange1 (wCons (wVar 3) wNil)) (gN 12) wYes (wCall cInt (wCons (wOp oLt (wCall c__law_draw (wCons (wVar 1) (wCons (wC (.int 6)) wNil))) (wVar 4)) wNil)))) wNil)) (gN 6))
    (sSeq (sAsg (wCall c__law_clue (wCons (wVar 6) wNil)) (gN 7))
    (sSeq (sAsg (wCall cTuple (wCons (wFrz (wComp [13] (wIt (wVar 6)) (gN 13) wYes (wIf (wTst (wOp oGe (wCall c__law_draw (wCons (wVar 1) (wCons (wC (.int 5)) wNil))) (wVar 5))) (wC .non) (wVar 13)))) wNil)) (gN 8))
    (sSeq (sAsg (wCall c__law_draw (wCons (wVar 1) (wCons (wVar 3) wNil))) (gN 9))
    (sSeq (sAsg (wOp oAdd (wOp oAdd (wSl (wVar 8) wNoPart (wPart (wVar 9))) (wTup (wCons (wOp oSub (wC (.int 1)) (wOp oIx (wVar 6) (wVar 9))) wNil))) (wSl (wVar 8) (wPart (wOp oAdd (wVar 9) (wC (.int 1)))) wNoPart)) (gN 10))
    (sSeq (sAsg (wCall c__law_clue (wCons (wFrz (wComp [12] (wRange1 (wCons (wVar 3) wNil)) (gN 12) wYes (wCall cInt (wCons (wOp oLt (wCall c__law_draw (wCons (wVar 1) (wCons (wC (.int 6)) wNil))) (wVar 4)) wNil)))) wNil)) (gN 11))
    (sIf (bOr (bNot (wTst (wCall c__law_fine (wCons (wVar 1) (wCons (wVar 7) (wCons (wVar 8) wNil)))))) (bOr (bNot (wTst (wCall c__law_fine (wCons (wVar 1) (wCons (wVar 7) (wCons (wVar 10) wNil)))))) (bNot (wTst (wCall c__law_fine (wCons (wVar 1) (wCons (wVar 11) (wCons (wVar 8) wNil)))))))) (sRet (wC (.bl false))) sNext)))))))))
    (sRet (wAnd (wCall c__law_great_fine (wCons (wVar 1) wNil)) (wAnd (wCall c__law_fine (wCons (wVar 1) (wCons (wTup wNil) (wCons (wTup (wCons (wC .non) (wCons (wC .non) wNil))) wNil)))) (wAnd (wCall c__law_fine (wCons (wVar 1) (wCons (wTup wNil) (wCons (wTup (wCons (wC (.int 1)) (wCons (wC .non) wNil))) wNil)))) (wCall c__law_fine (wCons (wVar 1) (wCons (wTup (wCons (wC (.int 2)) (wCons (wC (.int 1)) wNil))) (wCons (wTup (wCons (wC .non) (wCons (wC .non) (wCons (wC (.int 0)) (wCons (wC .non) (wCons (wC .non) wNil)))))) wNil))))))))))
section
variable {P : Program} {w : World} {K : PySem.W.Frag} {mg : Str → Option Value} {base : Heap}
theorem body_law (B : Bl mg) {c__law_box : Ct} (k__law_box : Cal P w K mg base 1 "_law_box" ["script"] c__law_box) {c__law_draw : Ct} (k__law_draw : Cal P w K mg base 2 "_law_draw" ["box", "many"] c__law_draw) {c__law_clue : Ct} (k__law_clue : Cal P w K mg base 1 "_law_clue" ["line"] c__law_clue) {c__law_fine : Ct} (k__law_fine : Cal P w K mg base 10 "_law_fine" ["box", "clue", "told"] c__law_fine) {c__law_great_fine : Ct} (k__law_great_fine : Cal P w K mg base 10 "_law_great_fine" ["box"] c__law_great_fine) {f : Addr} {qual : Str} (cdv : Value) (A : Around) (outer : List Env) (s : Shared) (H : Hp) (hr : Room 10 (A.deeper (envOfC qual (defScope s_law) s.heap.objs.size f cdv))) :
    PSsD (cxOf CX0 P w K mg base names_law qual (defScope s_law) f cdv A outer s H E0).nox (defBody s_law) (w_law c__law_box c__law_draw c__law_clue c__law_fine c__law_great_fine) :=
  (pssd_cons (psd_set (i := 1) sc_law.nd rfl (by first | exact .inl rfl | exact .inr rfl) (pd_cal k__law_box hr (by rfl) (pds_cons (pd_var (pv 0)) pds_nil)))
    (pssd_cons (psd_for (vs := [2]) PassesOwn.never rfl (pid_range1 (by rfl) B.range (pds_cons pd_int pds_nil)) (pgd_name (pg_name (i := 2) sc_law.nd rfl (by first | exact .inl rfl | exact .inr rfl)) (by decide)) (pssd_cons (psd_asg (vs := [3, 4, 5]) (pd_tup (pds_cons (pd_op o_add pd_int (pd_cal k__law_draw hr (by rfl) (pds_cons (pd_var (pv 1)) (pds_cons (pd_ix ix_all (pd_frz (pl_lst (pds_cons pd_int (pds_cons pd_int (pds_cons pd_int pds_nil))))) (pd_cal k__law_draw hr (by rfl) (pds_cons (pd_var (pv 1)) (pds_cons pd_int pds_nil))) (fun _ _ => rfl)) pds_nil)))) (pds_cons (pd_op o_add pd_int (pd_cal k__law_draw hr (by rfl) (pds_cons (pd_var (pv 1)) (pds_cons pd_int pds_nil)))) (pds_cons (pd_cal k__law_draw hr (by rfl) (pds_cons (pd_var (pv 1)) (pds_cons pd_int pds_nil))) pds_nil)))) (pgd_tup rfl (pgds_cons (pgd_name (pg_name (i := 3) sc_law.nd rfl (by first | exact .inl rfl | exact .inr rfl)) (by decide)) (pgds_cons (pgd_name (pg_name (i := 4) sc_law.nd rfl (by first | exact .inl rfl | exact .inr rfl)) (by decide)) (pgds_cons (pgd_name (pg_name (i := 5) sc_law.nd rfl (by first | exact .inl rfl | exact .inr rfl)) (by decide)) pgds_nil)))))
    (pssd_cons (psd_set (i := 6) sc_law.nd rfl (by first | exact .inl rfl | exact .inr rfl) (pd_callTy c_tuple (by rfl) B.tuple (by decide +kernel) (pds_cons (pd_frz (pl_lc (own := [("k", 12)]) rfl sc_law.nd (pid_range1 (by rfl) B.range (pds_cons (pd_var (pv 3)) pds_nil)) (blkOk_by (N := names_law) (sc := _) (by kernel_rfl)) (fun _ _ _ _ _ => (pgd_name (pg_name (i := 12) sc_law.nd rfl (by first | exact .inl rfl | exact .inr rfl)) (by decide))) (fun _ _ _ _ _ => ptsd_nil) (fun _ _ _ _ _ => (pd_callTy c_int (by rfl) B.int (by decide +kernel) (pds_cons (pd_cmp o_lt (pd_cal k__law_draw hr (by rfl) (pds_cons (pd_var (pv 1)) (pds_cons pd_int pds_nil))) (pd_var (pv 4)) (nomark _)) pds_nil))))) pds_nil)))
    (pssd_cons (psd_set (i := 7) sc_law.nd rfl (by first | exact .inl rfl | exact .inr rfl) (pd_cal k__law_clue hr (by rfl) (pds_cons (pd_var (pv 6)) pds_nil)))
    (pssd_cons (psd_set (i := 8) sc_law.nd rfl (by first | exact .inl rfl | exact .inr rfl) (pd_callTy c_tuple (by rfl) B.tuple (by decide +kernel) (pds_cons (pd_frz (pl_lc (own := [("cell", 13)]) rfl sc_law.nd (pid_seq (pd_var (pv 6))) (blkOk_by (N := names_law) (sc := _) (by kernel_rfl)) (fun _ _ _ _ _ => (pgd_name (pg_name (i := 13) sc_law.nd rfl (by first | exact .inl rfl | exact .inr rfl)) (by decide))) (fun _ _ _ _ _ => ptsd_nil) (fun _ _ _ _ _ => (pd_if (pb_cmp o_ge (pd_cal k__law_draw hr (by rfl) (pds_cons (pd_var (pv 1)) (pds_cons pd_int pds_nil))) (pd_var (pv 5)) (nomark _)) pd_non (pd_var (pv 13)))))) pds_nil)))
    (pssd_cons (psd_set (i := 9) sc_law.nd rfl (by first | exact .inl rfl | exact .inr rfl) (pd_cal k__law_draw hr (by rfl) (pds_cons (pd_var (pv 1)) (pds_cons (pd_var (pv 3)) pds_nil))))
    (pssd_cons (psd_set (i := 10) sc_law.nd rfl (by first | exact .inl rfl | exact .inr rfl) (pd_op o_add (pd_op o_add (pd_slice (pd_var (pv 8)) pp_none (pp_some (pd_var (pv 9)))) (pd_tup (pds_cons (pd_op o_sub pd_int (pd_ix ix_all (pd_var (pv 6)) (pd_var (pv 9)) (fun _ _ => rfl))) pds_nil))) (pd_slice (pd_var (pv 8)) (pp_some (pd_op o_add (pd_var (pv 9)) pd_int)) pp_none)))
    (pssd_cons (psd_set (i := 11) sc_law.nd rfl (by first | exact .inl rfl | exact .inr rfl) (pd_cal k__law_clue hr (by rfl) (pds_cons (pd_frz (pl_lc (own := [("k", 12)]) rfl sc_law.nd (pid_range1 (by rfl) B.range (pds_cons (pd_var (pv 3)) pds_nil)) (blkOk_by (N := names_law) (sc := _) (by kernel_rfl)) (fun _ _ _ _ _ => (pgd_name (pg_name (i := 12) sc_law.nd rfl (by first | exact .inl rfl | exact .inr rfl)) (by decide))) (fun _ _ _ _ _ => ptsd_nil) (fun _ _ _ _ _ => (pd_callTy c_int (by rfl) B.int (by decide +kernel) (pds_cons (pd_cmp o_lt (pd_cal k__law_draw hr (by rfl) (pds_cons (pd_var (pv 1)) (pds_cons pd_int pds_nil))) (pd_var (pv 4)) (nomark _)) pds_nil))))) pds_nil)))
    (pssd_one (psd_if (PBW.pb (pb_or (pb_not (pb_val (pd_cal k__law_fine hr (by rfl) (pds_cons (pd_var (pv 1)) (pds_cons (pd_var (pv 7)) (pds_cons (pd_var (pv 8)) pds_nil)))))) (pb_or (pb_not (pb_val (pd_cal k__law_fine hr (by rfl) (pds_cons (pd_var (pv 1)) (pds_cons (pd_var (pv 7)) (pds_cons (pd_var (pv 10)) pds_nil)))))) (pb_or1 (pb_not (pb_val (pd_cal k__law_fine hr (by rfl) (pds_cons (pd_var (pv 1)) (pds_cons (pd_var (pv 11)) (pds_cons (pd_var (pv 8)) pds_nil)))))))))) (pssd_one (psd_ret pd_bl)) pssd_nil))))))))))
    (pssd_one (psd_ret (pd_and (pd_cal k__law_great_fine hr (by rfl) (pds_cons (pd_var (pv 1)) pds_nil)) (pd_and (pd_cal k__law_fine hr (by rfl) (pds_cons (pd_var (pv 1)) (pds_cons (pd_tup pds_nil) (pds_cons (pd_tup (pds_cons pd_non (pds_cons pd_non pds_nil))) pds_nil)))) (pd_and (pd_cal k__law_fine hr (by rfl) (pds_cons (pd_var (pv 1)) (pds_cons (pd_tup pds_nil) (pds_cons (pd_tup (pds_cons pd_int (pds_cons pd_non pds_nil))) pds_nil)))) (pd_one (pd_cal k__law_fine hr (by rfl) (pds_cons (pd_var (pv 1)) (pds_cons (pd_tup (pds_cons pd_int (pds_cons pd_int pds_nil))) (pds_cons (pd_tup (pds_cons pd_non (pds_cons pd_non (pds_cons pd_int (pds_cons pd_non (pds_cons pd_non pds_nil)))))) pds_nil))))))))))))
theorem ok_law (B : Bl mg) {c__law_box : Ct} (k__law_box : Cal P w K mg base 1 "_law_box" ["script"] c__law_box) {c__law_draw : Ct} (k__law_draw : Cal P w K mg base 2 "_law_draw" ["box", "many"] c__law_draw) {c__law_clue : Ct} (k__law_clue : Cal P w K mg base 1 "_law_clue" ["line"] c__law_clue) {c__law_fine : Ct} (k__law_fine : Cal P w K mg base 10 "_law_fine" ["box", "clue", "told"] c__law_fine) {c__law_great_fine : Ct} (k__law_great_fine : Cal P w K mg base 10 "_law_great_fine" ["box"] c__law_great_fine) {f : Addr} {fd : FuncData} {C : Ct} (F : FunD K "law" "law" (defArgs s_law) (defBody s_law) (defScope s_law) [] [] f fd) (mc : MonoC C)
    (hC : ∀ fs S Q, C fs S Q → fs.length = 1 ∧ w_law c__law_box c__law_draw c__law_clue c__law_fine c__law_great_fine { nx := fun _ S' => Q .non S', rt := fun d S' => Q d S' } (startF 14 fs) S) : FnD P w K mg base (10 + 1) f fd ["script"] C :=
  fnD false F sc_law mc (w_law c__law_box c__law_draw c__law_clue c__law_fine c__law_great_fine) (fun cdv A outer s H hr => body_law B k__law_box k__law_draw k__law_clue k__law_fine k__law_great_fine cdv A outer s H hr) hC
end
end DL.K58

set_option maxHeartbeats 4000000
namespace DL.K58
open PySem PySem.Spec PyProof.Rows L2 DL
/-! lines, clues -/
def clueR : Nat → List Int → List Int
  | r, [] => if 0 < r then [(r : Int)] else []
  | r, c :: l => if c = 1 then clueR (r + 1) l else if 0 < r then (r : Int) :: clueR 0 l else clueR 0 l
def isB (c : Int) : Prop := c = 0 ∨ c = 1
def fits : List Int → List (Option Int) → Bool
  | [], [] => true
  | c :: l, o :: t => (o.isNone || decide (o = some c)) && fits l t
  | _, _ => false
theorem fits_len : ∀ {l : List Int} {t : List (Option Int)}, fits l t = true → l.length = t.length
  | [], [], _ => rfl
  | c :: l, o :: t, h => by
    unfold fits at h
    rw [Bool.and_eq_true] at h
    rw [List.length_cons, List.length_cons, fits_len h.2]
  | [], _ :: _, h => by cases h
  | _ :: _, [], h => by cases h
theorem fits_app : ∀ {l k : List Int} {t u : List (Option Int)}, l.length = t.length → fits (l ++ k) (t ++ u) = (fits l t && fits k u)
  | [], k, [], u, _ => by rw [List.nil_append, List.nil_append]; rfl
  | c :: l, k, o :: t, u, h => by
    rw [List.cons_append, List.cons_append, fits, fits, fits_app (by simpa using h), Bool.and_assoc]
  | [], _, _ :: _, _, h => by cases h
  | _ :: _, _, [], _, h => by cases h
theorem clueR_ones (s : List Int) : ∀ (c r : Nat), clueR r (List.replicate c 1 ++ s) = clueR (r + c) s
  | 0, r => rfl
  | c + 1, r => by
    rw [List.replicate_succ, List.cons_append, clueR, if_pos rfl, clueR_ones s c (r + 1), show r + 1 + c = r + (c + 1) by omega]
theorem clueR_zero (r : Nat) (s : List Int) : clueR r (0 :: s) = if 0 < r then (r : Int) :: clueR 0 s else clueR 0 s := by
  rw [clueR, if_neg (by decide)]
theorem clueR_pos : ∀ {s : List Int} {r : Nat}, ∀ x ∈ clueR r s, 1 ≤ x
  | [], r, x, h => by
    unfold clueR at h
    split at h
    · rw [List.mem_singleton.mp h]; omega
    · exact absurd h List.not_mem_nil
  | c :: l, r, x, h => by
    unfold clueR at h
    split at h
    · exact clueR_pos x h
    · split at h
      · rcases List.mem_cons.mp h with e | h
        · rw [e]; omega
        · exact clueR_pos x h
      · exact clueR_pos x h
/-- a run at the front -/
theorem run_split : ∀ {s : List Int} {r : Nat}, (∀ c ∈ s, isB c) → 0 < r → ∃ k : Nat, (s = List.replicate k 1 ∧ clueR r s = [((r + k : Nat) : Int)]) ∨ ∃ s' : List Int, s = List.replicate k 1 ++ 0 :: s' ∧ clueR r s = ((r + k : Nat) : Int) :: clueR 0 s'
  | [], r, _, hr => ⟨0, .inl ⟨rfl, by unfold clueR; rw [if_pos hr]; rfl⟩⟩
  | c :: s, r, hb, hr => by
    rcases hb c (List.mem_cons_self ..) with e | e
    · subst e
      exact ⟨0, .inr ⟨s, rfl, by rw [clueR_zero, if_pos hr]; rfl⟩⟩
    · subst e
      obtain ⟨k, h⟩ := run_split (s := s) (r := r + 1) (fun c hc => hb c (List.mem_cons_of_mem _ hc)) (by omega)
      have e1 : clueR r (1 :: s) = clueR (r + 1) s := by rw [clueR, if_pos rfl]
      refine ⟨k + 1, ?_⟩
      rcases h with ⟨h1, h2⟩ | ⟨s', h1, h2⟩
      · exact .inl ⟨by rw [h1]; rfl, by rw [e1, h2, show r + 1 + k = r + (k + 1) by omega]⟩
      · exact .inr ⟨s', by rw [h1]; rfl, by rw [e1, h2, show r + 1 + k = r + (k + 1) by omega]⟩
/-- what may stand from `at` on, with the clues from k on -/
structure Suf (clue : List Int) (told : List (Option Int)) (a k : Nat) (s : List Int) : Prop where
  b : ∀ c ∈ s, isB c
  clue : clueR 0 s = clue.drop k
  fit : fits s (told.drop a) = true
/-! the moves -/
/-- the cells of the block k at `at` -/
def blk (clue : List Int) (told : List (Option Int)) (a k : Nat) : Option Nat :=
  let e := a + (clue.getD k 0).toNat
  if told.length < e ∨ ((told.drop a).take (e - a)).any (fun o => decide (o = some 0)) = true then none
  else if e = told.length then some e
  else if told.getD e none = some 1 then none
  else some (e + 1)
def mvs (clue : List Int) (told : List (Option Int)) (a k : Nat) : List (List Int × Nat × Nat) :=
  (if a < told.length ∧ told.getD a none ≠ some 1 then [(([0] : List Int), a + 1, k)] else []) ++
  (if k < clue.length then match blk clue told a k with
    | some e => [((List.replicate (clue.getD k 0).toNat 1 : List Int) ++ List.replicate (e - a - (clue.getD k 0).toNat) 0, e, k + 1)]
    | none => [] else [])
theorem drop_cons {α : Type} {l : List α} {a : Nat} {d : α} (h : a < l.length) : l.drop a = l.getD a d :: l.drop (a + 1) := by
  rw [List.drop_eq_getElem_cons h, List.getD_eq_getElem?_getD, List.getElem?_eq_getElem h]
  rfl
def TdOk (t : List (Option Int)) : Prop := ∀ o ∈ t, o = none ∨ o = some 0 ∨ o = some 1
theorem fits_ones : ∀ (c : Nat) (t : List (Option Int)), t.length = c → TdOk t → (fits (List.replicate c 1) t = true ↔ t.any (fun o => decide (o = some 0)) = false)
  | 0, [], _, _ => by simp [fits]
  | c + 1, o :: t, h, ht => by
    have ih := fits_ones c t (by simpa using h) fun x hx => ht x (List.mem_cons_of_mem _ hx)
    rw [List.replicate_succ, fits, Bool.and_eq_true, ih, List.any_cons, Bool.or_eq_false_iff]
    refine and_congr ?_ Iff.rfl
    rcases ht o (List.mem_cons_self ..) with e | e | e <;> subst e <;> decide
theorem blk_some {clue : List Int} {told : List (Option Int)} {a k e : Nat} (h : blk clue told a k = some e) : ∃ c : Nat, c = (clue.getD k 0).toNat ∧ a + c ≤ told.length ∧ ((told.drop a).take c).any (fun o => decide (o = some 0)) = false ∧ ((a + c = told.length ∧ e = a + c) ∨ (a + c < told.length ∧ told.getD (a + c) none ≠ some 1 ∧ e = a + c + 1)) := by
  unfold blk at h
  dsimp only at h
  refine ⟨_, rfl, ?_⟩
  generalize (clue.getD k 0).toNat = c at h
  rw [show a + c - a = c by omega] at h
  split at h
  · cases h
  · rename_i h1
    rw [not_or] at h1
    refine ⟨by omega, Bool.eq_false_iff.mpr h1.2, ?_⟩
    split at h
    · injection h with h
      exact .inl ⟨by assumption, h.symm⟩
    · split at h
      · cases h
      · injection h with h
        exact .inr ⟨by omega, by assumption, h.symm⟩
theorem blk_is {clue : List Int} {told : List (Option Int)} {a k c : Nat} (hc : c = (clue.getD k 0).toNat) (h1 : a + c ≤ told.length) (h2 : ((told.drop a).take c).any (fun o => decide (o = some 0)) = false) : (a + c = told.length → blk clue told a k = some (a + c)) ∧ (a + c < told.length → told.getD (a + c) none ≠ some 1 → blk clue told a k = some (a + c + 1)) := by
  unfold blk
  dsimp only
  rw [← hc, show a + c - a = c by omega]
  rw [if_neg (by rw [not_or]; exact ⟨by omega, by rw [h2]; decide⟩)]
  refine ⟨fun e => by rw [if_pos e], fun e n => by rw [if_neg (by omega), if_neg n]⟩
theorem mvs_mem {clue : List Int} {told : List (Option Int)} {a k : Nat} {x : List Int × Nat × Nat} : x ∈ mvs clue told a k ↔ (a < told.length ∧ told.getD a none ≠ some 1 ∧ x = ([0], a + 1, k)) ∨ (k < clue.length ∧ ∃ e, blk clue told a k = some e ∧ x = (List.replicate (clue.getD k 0).toNat 1 ++ List.replicate (e - a - (clue.getD k 0).toNat) 0, e, k + 1)) := by
  unfold mvs
  rw [List.mem_append]
  refine or_congr ?_ ?_
  · split
    · rename_i h
      rw [List.mem_singleton]
      exact ⟨fun e => ⟨h.1, h.2, e⟩, fun e => e.2.2⟩
    · rename_i h
      exact ⟨fun e => absurd e List.not_mem_nil, fun e => absurd ⟨e.1, e.2.1⟩ h⟩
  · split
    · rename_i h
      cases eb : blk clue told a k with
      | none => exact ⟨fun e => absurd e List.not_mem_nil, fun ⟨_, e, q, _⟩ => by cases q⟩
      | some e =>
        dsimp only
        rw [List.mem_singleton]
        exact ⟨fun q => ⟨h, e, rfl, q⟩, fun ⟨_, e', q, q2⟩ => by injection q with q; rw [q2, q]⟩
    · rename_i h
      exact ⟨fun e => absurd e List.not_mem_nil, fun e => absurd e.1 h⟩
theorem suf_len {clue : List Int} {told : List (Option Int)} {a k : Nat} {s : List Int} (h : Suf clue told a k s) : s.length = told.length - a := by
  rw [fits_len h.fit, List.length_drop]
theorem mvs_fwd {clue : List Int} {told : List (Option Int)} (hp : ∀ x ∈ clue, 1 ≤ x) (ht : TdOk told) {a k a' k' : Nat} {cs : List Int} (ha : a ≤ told.length) (hk : k ≤ clue.length) (h : (cs, a', k') ∈ mvs clue told a k) :
    a < a' ∧ a' ≤ told.length ∧ k' ≤ clue.length ∧ cs.length = a' - a ∧ (∀ c ∈ cs, isB c) ∧ ∀ s, Suf clue told a' k' s → Suf clue told a k (cs ++ s) := by
  rcases mvs_mem.mp h with ⟨h1, h2, e⟩ | ⟨h1, e, h2, e2⟩
  · injection e with e1 e
    injection e with e2 e3
    subst e1 e2 e3
    refine ⟨by omega, by omega, hk, by simp, fun c hc => .inl (List.mem_singleton.mp hc), fun s hs => ⟨fun c hc => ?_, ?_, ?_⟩⟩
    · rcases List.mem_cons.mp hc with e | hc
      · exact .inl e
      · exact hs.b c hc
    · show clueR 0 (0 :: s) = _
      rw [clueR_zero, if_neg (by decide)]
      exact hs.clue
    · rw [drop_cons (d := none) h1]
      show (((told.getD a none).isNone || decide (told.getD a none = some 0)) && fits s (told.drop (a + 1))) = true
      rw [Bool.and_eq_true]
      refine ⟨?_, hs.fit⟩
      have hm : told.getD a none ∈ told := by
        rw [List.getD_eq_getElem?_getD, List.getElem?_eq_getElem h1]
        exact List.getElem_mem h1
      rcases ht _ hm with e | e | e
      · rw [e]; rfl
      · rw [e]; rfl
      · exact absurd e h2
  · injection e2 with e1 e2
    injection e2 with e2 e3
    obtain ⟨c, hc, b1, b2, b3⟩ := blk_some h2
    rw [← hc] at e1
    have hpos : 1 ≤ c := by
      have hm : clue.getD k 0 ∈ clue := by
        rw [List.getD_eq_getElem?_getD, List.getElem?_eq_getElem h1]
        exact List.getElem_mem h1
      have := hp _ hm
      omega
    have hck : clue.drop k = (c : Int) :: clue.drop (k + 1) := by
      rw [drop_cons (d := 0) h1, hc]
      congr 1
      have hm : clue.getD k 0 ∈ clue := by
        rw [List.getD_eq_getElem?_getD, List.getElem?_eq_getElem h1]
        exact List.getElem_mem h1
      have := hp _ hm
      omega
    have tk : ((told.drop a).take c).length = c := by rw [List.length_take, List.length_drop]; omega
    have f1 : fits (List.replicate c 1) ((told.drop a).take c) = true := (fits_ones c _ tk fun o ho => ht o (List.mem_of_mem_drop (List.mem_of_mem_take ho))).mpr b2
    have sp : told.drop a = (told.drop a).take c ++ told.drop (a + c) := by
      rw [← List.drop_drop]
      exact (List.take_append_drop c _).symm
    subst e1 e2 e3
    rcases b3 with ⟨b3, b4⟩ | ⟨b3, b4, b5⟩
    · rw [show a' - a - c = 0 by omega, List.replicate_zero, List.append_nil]
      refine ⟨by omega, by omega, by omega, by rw [List.length_replicate]; omega, fun x hx => .inr (List.eq_of_mem_replicate hx), fun s hs => ?_⟩
      have hs0 : s = [] := List.eq_nil_of_length_eq_zero (by rw [suf_len hs]; omega)
      subst hs0
      have hcl : [] = clue.drop (k + 1) := hs.clue
      refine ⟨fun x hx => .inr (List.eq_of_mem_replicate (by simpa using hx)), ?_, ?_⟩
      · rw [clueR_ones, hck, ← hcl]
        unfold clueR
        rw [if_pos (by omega)]
        simp
      · rw [sp, fits_app (by rw [tk, List.length_replicate]), f1, Bool.true_and, show told.drop (a + c) = [] from List.drop_eq_nil_of_le (by omega)]
        rfl
    · rw [show a' - a - c = 1 by omega]
      refine ⟨by omega, by omega, by omega, by simp; omega, fun x hx => ?_, fun s hs => ⟨fun x hx => ?_, ?_, ?_⟩⟩
      · rcases List.mem_append.mp hx with h | h
        · exact .inr (List.eq_of_mem_replicate h)
        · exact .inl (List.eq_of_mem_replicate h)
      · rcases List.mem_append.mp hx with h | h
        · rcases List.mem_append.mp h with h | h
          · exact .inr (List.eq_of_mem_replicate h)
          · exact .inl (List.eq_of_mem_replicate h)
        · exact hs.b x h
      · rw [List.append_assoc, clueR_ones]
        show clueR (0 + c) (0 :: s) = _
        rw [clueR_zero, if_pos (by omega), hs.clue, hck]
        simp
      · rw [List.append_assoc, sp, fits_app (by rw [tk, List.length_replicate]), f1, Bool.true_and, drop_cons (d := none) b3]
        show (((told.getD (a + c) none).isNone || decide (told.getD (a + c) none = some 0)) && fits s (told.drop (a + c + 1))) = true
        rw [Bool.and_eq_true]
        refine ⟨?_, by rw [← b5]; exact hs.fit⟩
        have hm : told.getD (a + c) none ∈ told := by
          rw [List.getD_eq_getElem?_getD, List.getElem?_eq_getElem b3]
          exact List.getElem_mem b3
        rcases ht _ hm with e | e | e
        · rw [e]; rfl
        · rw [e]; rfl
        · exact absurd e b4
theorem mvs_back {clue : List Int} {told : List (Option Int)} (hp : ∀ x ∈ clue, 1 ≤ x) (ht : TdOk told) {a k : Nat} {s : List Int} (ha : a < told.length) (h : Suf clue told a k s) : ∃ cs a' k' s', (cs, a', k') ∈ mvs clue told a k ∧ s = cs ++ s' ∧ Suf clue told a' k' s' := by
  have sl := suf_len h
  cases s with
  | nil => simp at sl; omega
  | cons c0 r =>
    have hf := h.fit
    rw [drop_cons (d := none) ha] at hf
    have hf : (((told.getD a none).isNone || decide (told.getD a none = some c0)) && fits r (told.drop (a + 1))) = true := hf
    rw [Bool.and_eq_true] at hf
    rcases h.b c0 (List.mem_cons_self ..) with e | e
    · subst e
      refine ⟨[0], a + 1, k, r, mvs_mem.mpr (.inl ⟨ha, fun e => ?_, rfl⟩), rfl, fun c hc => h.b c (List.mem_cons_of_mem _ hc), ?_, hf.2⟩
      · rw [e] at hf
        exact absurd hf.1 (by decide)
      · have := h.clue
        rw [clueR_zero, if_neg (by decide)] at this
        exact this
    · subst e
      have hcl : clueR 1 r = clue.drop k := by
        have := h.clue
        rw [clueR, if_pos rfl] at this
        exact this
      have kl : ∀ {x : Int} {l : List Int}, x :: l = clue.drop k → k < clue.length ∧ clue.getD k 0 = x ∧ clue.drop (k + 1) = l := fun {x l} e => by
        have hk : k < clue.length := by
          have := congrArg List.length e
          simp at this
          omega
        rw [drop_cons (d := 0) hk] at e
        injection e with e1 e2
        exact ⟨hk, e1.symm, e2.symm⟩
      obtain ⟨n, hn⟩ := run_split (s := r) (r := 1) (fun c hc => h.b c (List.mem_cons_of_mem _ hc)) (by decide)
      have split1 : ∀ t : List Int, (1 : Int) :: (List.replicate n 1 ++ t) = List.replicate (n + 1) 1 ++ t := fun t => by rw [List.replicate_succ]; rfl
      rcases hn with ⟨e1, e2⟩ | ⟨s', e1, e2⟩
      · rw [e2] at hcl
        obtain ⟨k1, k2, k3⟩ := kl hcl
        have hc : n + 1 = (clue.getD k 0).toNat := by rw [k2]; omega
        have rl : (1 :: r).length = n + 1 := by rw [e1]; simp
        have am : a + (n + 1) = told.length := by omega
        have hfit := h.fit
        have e3 : (1 : Int) :: r = List.replicate (n + 1) 1 := by rw [e1, List.replicate_succ]
        rw [e3] at hfit
        have b2 := (fits_ones (n + 1) (told.drop a) (by rw [List.length_drop]; omega) fun o ho => ht o (List.mem_of_mem_drop ho)).mp hfit
        have hb := (blk_is (k := k) hc (by omega) (by rw [List.take_of_length_le (by rw [List.length_drop]; omega)]; exact b2)).1 am
        refine ⟨_, _, _, [], mvs_mem.mpr (.inr ⟨k1, _, hb, rfl⟩), ?_, fun c hc => absurd hc List.not_mem_nil, ?_, ?_⟩
        · rw [← hc, show a + (n + 1) - a - (n + 1) = 0 by omega, e3]
          simp
        · rw [k3]; rfl
        · rw [show told.drop (a + (n + 1)) = [] from List.drop_eq_nil_of_le (by omega)]
          rfl
      · rw [e2] at hcl
        obtain ⟨k1, k2, k3⟩ := kl hcl
        have hc : n + 1 = (clue.getD k 0).toNat := by rw [k2]; omega
        have e3 : (1 : Int) :: r = List.replicate (n + 1) 1 ++ 0 :: s' := by rw [e1, split1]
        have am : a + (n + 1) < told.length := by
          have := congrArg List.length e3
          simp at this sl
          omega
        have tk : ((told.drop a).take (n + 1)).length = n + 1 := by rw [List.length_take, List.length_drop]; omega
        have sp : told.drop a = (told.drop a).take (n + 1) ++ told.drop (a + (n + 1)) := by
          rw [← List.drop_drop]
          exact (List.take_append_drop (n + 1) _).symm
        have hfit := h.fit
        rw [e3, sp, fits_app (by rw [tk, List.length_replicate]), Bool.and_eq_true, drop_cons (d := none) am] at hfit
        have b2 := (fits_ones (n + 1) _ tk fun o ho => ht o (List.mem_of_mem_drop (List.mem_of_mem_take ho))).mp hfit.1
        have hf2 : (((told.getD (a + (n + 1)) none).isNone || decide (told.getD (a + (n + 1)) none = some 0)) && fits s' (told.drop (a + (n + 1) + 1))) = true := hfit.2
        rw [Bool.and_eq_true] at hf2
        have hb := (blk_is (k := k) hc (by omega) b2).2 am fun e => by
          rw [e] at hf2
          exact absurd hf2.1 (by decide)
        refine ⟨_, _, _, s', mvs_mem.mpr (.inr ⟨k1, _, hb, rfl⟩), ?_, fun c hc => ?_, ?_, hf2.2⟩
        · rw [← hc, show a + (n + 1) + 1 - a - (n + 1) = 1 by omega, e3]
          simp
        · refine h.b c ?_
          rw [e3]
          exact List.mem_append.mpr (.inr (List.mem_cons_of_mem _ hc))
        · exact k3.symm
end DL.K58

set_option maxHeartbeats 4000000
namespace DL.K58
open PySem PySem.Spec PyProof.Rows L2 DL
local macro_rules | `(tactic| walk_at "nx") => `(tactic| ((try dsimp only); rw [sSeq_ev]; (try simp [-sSeq_ev, -compL_cons, -forL_cons])))
abbrev Told := List (Option Int)
def tdF1 (t : Told) : F := .tup (t.map cF)
structure Okay (clue : List Int) (told : Told) : Prop where
  p : ∀ x ∈ clue, 1 ≤ x ∧ x ≤ 100
  t : TdOk told
  m : told.length ≤ 16
  l : clue.length ≤ 100
theorem Okay.pos {clue : List Int} {told : Told} (h : Okay clue told) : ∀ x ∈ clue, 1 ≤ x := fun x hx => (h.p x hx).1
theorem cut_fromto {α : Type} (xs : List α) {a e : Nat} (h : e ≤ xs.length) (h2 : a ≤ e) : cut xs (some (a : Int)) (some (e : Int)) = (xs.drop a).take (e - a) := by
  unfold cut
  rw [sIx_lo (by omega), sIx_hi h]
theorem okF_cF (o : Option Int) : okF (cF o) = true := by cases o <;> simp [cF]
theorem eqF_cF (o : Option Int) (i : Int) : eqF (cF o) (.int i) = decide (o = some i) := by
  cases o with
  | none =>
    rw [decide_eq_false (by simp)]
    unfold eqF cF
    rw [py, py, PyData.eqv] <;> simp
  | some j =>
    show eqF (.int j) (.int i) = _
    rw [eqF_ii, Bool.eq_iff_iff]
    simp
theorem at_td {told : Told} {i : Nat} (h : i < told.length) : atI (told.map cF) (i : Int) = some (cF (told.getD i none)) := by
  rw [atI_cast, List.getElem?_map, List.getElem?_eq_getElem h, List.getD_eq_getElem?_getD, List.getElem?_eq_getElem h]
  rfl
def C_behind_block : Ct := fun xs S Q => ∃ (clue : List Int) (told : Told) (a k : Nat), xs = [rowF clue, tdF1 told, .int a, .int k] ∧ Okay clue told ∧ k < clue.length ∧ a ≤ told.length ∧ Q (match blk clue told a k with | some e => .int (e : Int) | none => .non) S
theorem mono_C_behind_block : MonoC C_behind_block := fun xs S Q Q' k ⟨c, t, a, b, e, h1, h2, h3, q⟩ => ⟨c, t, a, b, e, h1, h2, h3, k _ _ q⟩
theorem sp_behind_block (fs : List F) (S : Sto) (Q) (h : C_behind_block fs S Q) : fs.length = 4 ∧ w_behind_block { nx := fun _ S' => Q .non S', rt := fun d S' => Q d S' } (startF 6 fs) S := by
  obtain ⟨clue, told, a, k, rfl, g, hk, ha, q⟩ := h
  refine ⟨rfl, ?_⟩
  show w_behind_block _ [some (rowF clue), some (tdF1 told), some (.int a), some (.int k), none, none] S
  have hc := g.p _ (List.getElem_mem hk)
  obtain ⟨c, ec⟩ : ∃ c : Nat, clue[k] = (c : Int) := ⟨clue[k].toNat, by omega⟩
  have ek : clue[k]? = some (c : Int) := by rw [List.getElem?_eq_getElem hk, ec]
  have eg : (clue.getD k 0).toNat = c := by rw [List.getD_eq_getElem?_getD, ek]; rfl
  have gm := g.m
  unfold w_behind_block tdF1 rowF
  have ak : atI (clue.map F.int) (k : Int) = some (.int (c : Int)) := by rw [atI_cast, List.getElem?_map, ek]; rfl
  walk_at "nx"
  rw [ak]
  simp only [oAdd_ii]
  rw [show (a : Int) + (c : Int) = ((a + c : Nat) : Int) by omega]
  have eq : blk clue told a k = if told.length < a + c ∨ ((told.drop a).take c).any (fun o => decide (o = some 0)) = true then none else if a + c = told.length then some (a + c) else if told.getD (a + c) none = some 1 then none else some (a + c + 1) := by
    unfold blk
    dsimp only
    rw [eg, show a + c - a = c by omega]
  rw [eq] at q
  walk_at "nx"
  by_cases h1 : told.length < a + c
  · rw [if_pos (by omega)]
    rw [if_pos (.inl h1)] at q
    exact q
  · rw [if_neg (by omega)]
    rw [show (a : Int) + (c : Int) = ((a + c : Nat) : Int) by omega, cut_map, cut_fromto told (by omega) (by omega), show a + c - a = c by omega]
    have hm : ∀ o ∈ (told.drop a).take c, o = none ∨ o = some 0 ∨ o = some 1 := fun o ho => g.t o (List.mem_of_mem_drop (List.mem_of_mem_take ho))
    have tl : ((told.drop a).take c).length ≤ 16 := by rw [List.length_take, List.length_drop]; omega
    generalize (told.drop a).take c = T at hm tl q
    refine ⟨by rw [List.length_map]; exact mil (by omega), ?_⟩
    refine compL_mapT cF (fun o => .bl (decide (o = some 0))) trivial T _ (fun o ho Q2 q2 => ?_) ?_
    · simp
      rw [eqF_cF]
      exact ⟨okF_cF o, q2⟩
    · rw [List.nil_append, all_bl, cAny_l, List.any_map]
      rw [show T.any (id ∘ fun o => decide (o = some 0)) = T.any (fun o => decide (o = some 0)) from rfl]
      cases h2 : T.any (fun o => decide (o = some 0)) with
      | true =>
        rw [if_pos (.inr h2)] at q
        try simp [-sSeq_ev, -compL_cons, -forL_cons]
        exact q
      | false =>
        rw [if_neg (by rw [not_or]; exact ⟨h1, by rw [h2]; decide⟩)] at q
        try simp [-sSeq_ev, -compL_cons, -forL_cons]
        walk_at "nx"
        by_cases h3 : a + c = told.length
        · rw [if_pos h3] at q
          rw [if_pos (by omega)]
          exact q
        · rw [if_neg h3] at q
          rw [if_neg (by omega)]
          try simp [-sSeq_ev, -compL_cons, -forL_cons]
          have hlt : a + c < told.length := by omega
          rw [show (a : Int) + (c : Int) = ((a + c : Nat) : Int) by omega, at_td hlt]
          dsimp only
          rw [eqF_cF]
          refine ⟨okF_cF _, ?_⟩
          by_cases h4 : told.getD (a + c) none = some 1
          · rw [if_pos h4] at q
            rw [if_pos (decide_eq_true h4)]
            exact q
          · rw [if_neg h4] at q
            rw [if_neg (by simpa using h4)]
            exact q
end DL.K58

set_option maxHeartbeats 4000000
namespace DL.K58
open PySem PySem.Spec PyProof.Rows L2 DL
local macro_rules | `(tactic| walk_at "nx") => `(tactic| ((try dsimp only); rw [sSeq_ev]; (try simp [-sSeq_ev, -compL_cons, -forL_cons])))
def mvF (x : List Int × Nat × Nat) : F := .tup [rowF x.1, .int (x.2.1 : Int), .int (x.2.2 : Int)]
def mv2 (clue : List Int) (told : Told) (a k : Nat) : List (List Int × Nat × Nat) := if k < clue.length then match blk clue told a k with
    | some e => [((List.replicate (clue.getD k 0).toNat 1 : List Int) ++ List.replicate (e - a - (clue.getD k 0).toNat) 0, e, k + 1)]
    | none => [] else []
def C_moves : Ct := fun xs S Q => ∃ (clue : List Int) (told : Told) (a k : Nat), xs = [rowF clue, tdF1 told, .int a, .int k] ∧ Okay clue told ∧ k ≤ clue.length ∧ a ≤ told.length ∧ Q (.lst ((mvs clue told a k).map mvF)) S
theorem mono_C_moves : MonoC C_moves := fun xs S Q Q' k ⟨c, t, a, b, e, h1, h2, h3, q⟩ => ⟨c, t, a, b, e, h1, h2, h3, k _ _ q⟩
theorem sp_moves (fs : List F) (S : Sto) (Q) (h : C_moves fs S Q) : fs.length = 4 ∧ w_moves C_behind_block { nx := fun _ S' => Q .non (restr S S'), rt := fun d S' => Q d (restr S S') } (startF 6 fs) S := by
  obtain ⟨clue, told, a, k, rfl, g, hk, ha, q⟩ := h
  refine ⟨rfl, ?_⟩
  show w_moves _ _ [some (rowF clue), some (tdF1 told), some (.int a), some (.int k), none, none] S
  have gm := g.m
  unfold w_moves
  walk_at "nx"
  intro p hp
  refine seq_via (fun ρ S' => S' = updS S p ((if a < told.length ∧ told.getD a none ≠ some 1 then [(([0] : List Int), a + 1, k)] else []).map mvF) ∧ ρ = [some (rowF clue), some (tdF1 told), some (.int a), some (.int k), some (.loc p), none]) (fun N hN => ?_) (fun ρ S2 ⟨eS, eρ⟩ => ?_)
  · unfold tdF1 at hN ⊢
    simp [-sSeq_ev, -compL_cons, -forL_cons]
    by_cases h1 : a < told.length
    · rw [at_td h1]
      dsimp only
      rw [eqF_cF, if_pos h1]
      generalize told.getD a none = o at hN
      by_cases h2 : o = some 1
      · rw [if_neg (by rintro ⟨_, h⟩; exact h h2)] at hN
        simp [h2]
        exact ⟨by rw [← h2]; exact okF_cF o, hN _ _ ⟨rfl, rfl⟩⟩
      · rw [if_pos ⟨h1, h2⟩] at hN
        simp [h2]
        refine ⟨okF_cF o, mil (n := 1) (by decide), hN _ _ ⟨?_, rfl⟩⟩
        rw [updS_updS]
        rfl
    · rw [if_neg h1]
      rw [if_neg (by rintro ⟨h, _⟩; exact h1 h)] at hN
      exact hN _ _ ⟨rfl, rfl⟩
  subst eS eρ
  have q : Q (.lst (((if a < told.length ∧ told.getD a none ≠ some 1 then [(([0] : List Int), a + 1, k)] else []) ++ mv2 clue told a k).map mvF)) S := q
  have zl : (if a < told.length ∧ told.getD a none ≠ some 1 then [(([0] : List Int), a + 1, k)] else []).length ≤ 1 := by split <;> simp
  generalize (if a < told.length ∧ told.getD a none ≠ some 1 then [(([0] : List Int), a + 1, k)] else []) = L at q zl
  refine seq_via (fun ρ S' => S' = updS S p ((L ++ mv2 clue told a k).map mvF) ∧ ∃ o5 : Option F, ρ = [some (rowF clue), some (tdF1 told), some (.int a), some (.int k), some (.loc p), o5]) (fun N hN => ?_) (fun ρ S2 ⟨eS, o5, eρ⟩ => ?_)
  · unfold mv2 at hN
    simp [-sSeq_ev, -compL_cons, -forL_cons]
    by_cases h1 : k < clue.length
    · rw [if_pos h1] at hN ⊢
      walk_at "nx"
      refine ⟨clue, told, a, k, rfl, g, h1, ha, ?_⟩
      cases eb : blk clue told a k with
      | none =>
        rw [eb] at hN
        try simp [-sSeq_ev, -compL_cons, -forL_cons]
        exact hN _ _ ⟨by rw [List.append_nil], _, rfl⟩
      | some e =>
        rw [eb] at hN
        obtain ⟨c, hc, b1, b2, b3⟩ := blk_some eb
        rw [← hc] at hN
        have hN : ∀ ρ' S', (S' = updS S p ((L ++ [(List.replicate c 1 ++ List.replicate (e - a - c) 0, e, k + 1)]).map mvF) ∧ ∃ o5 : Option F, ρ' = [some (rowF clue), some (tdF1 told), some (.int a), some (.int k), some (.loc p), o5]) → N ρ' S' := hN
        have hck := g.p _ (List.getElem_mem h1)
        have ek : clue[k]? = some (c : Int) := by
          rw [List.getElem?_eq_getElem h1]
          rw [List.getD_eq_getElem?_getD, List.getElem?_eq_getElem h1] at hc
          have hc : c = clue[k].toNat := hc
          congr 1
          omega
        have ak : atI (clue.map F.int) (k : Int) = some (.int (c : Int)) := by rw [atI_cast, List.getElem?_map, ek]; rfl
        unfold rowF
        try simp [-sSeq_ev, -compL_cons, -forL_cons]
        rw [ak]
        try simp [-sSeq_ev, -compL_cons, -forL_cons]
        have hck2 : (c : Int) ≤ 100 := by
          rw [List.getElem?_eq_getElem h1] at ek
          injection ek with ek
          omega
        refine ⟨⟨by omega, mil (by omega)⟩, ⟨by omega, by omega, by have := mil (n := e) (by omega); omega⟩, mil (by omega), Nat.lt_of_lt_of_le (show L.length < 1000 by omega) (mil (by decide)), ?_⟩
        refine hN _ _ ⟨?_, _, rfl⟩
        rw [updS_updS, List.map_append]
        show updS S p (L.map mvF ++ _) = updS S p (L.map mvF ++ [F.tup [rowF (List.replicate c 1 ++ List.replicate (e - a - c) 0), .int (e : Int), .int ((k + 1 : Nat) : Int)]])
        unfold rowF
        rw [List.map_append, List.map_replicate, List.map_replicate]
        rfl
    · rw [if_neg h1] at hN ⊢
      exact hN _ _ ⟨by rw [List.append_nil], _, rfl⟩
  subst eS eρ
  generalize (L ++ mv2 clue told a k).map mvF = B at q
  try simp [-sSeq_ev, -compL_cons, -forL_cons]
  rw [restr_updel hp]
  exact q
end DL.K58

set_option maxHeartbeats 4000000
/-! the lines in their order -/
namespace DL.K58
open PySem PySem.Spec PyProof.Rows L2 DL
abbrev St2 := Nat × Nat
def base (clue : List Int) (k : Nat) : List (List Int) := if k = clue.length then [[]] else []
def sufN (clue : List Int) (told : Told) : Nat → Nat → Nat → List (List Int)
  | 0, _, k => base clue k
  | f + 1, a, k => if a < told.length then (mvs clue told a k).flatMap fun x => (sufN clue told f x.2.1 x.2.2).map (x.1 ++ ·) else base clue k
/-- what may stand from a on, with the blocks from k on, in order -/
def suf (clue : List Int) (told : Told) (a k : Nat) : List (List Int) := sufN clue told told.length a k
theorem mvs_up {clue : List Int} {told : Told} (g : Okay clue told) {a k : Nat} (ha : a ≤ told.length) (hk : k ≤ clue.length) {x : List Int × Nat × Nat} (hx : x ∈ mvs clue told a k) : a < x.2.1 ∧ x.2.1 ≤ told.length ∧ x.2.2 ≤ clue.length := by
  obtain ⟨q1, q2, q3, _⟩ := mvs_fwd (cs := x.1) (a' := x.2.1) (k' := x.2.2) g.pos g.t ha hk hx
  exact ⟨q1, q2, q3⟩
theorem flat_congr {α β : Type} {f g : α → List β} : ∀ {l : List α}, (∀ x ∈ l, f x = g x) → l.flatMap f = l.flatMap g
  | [], _ => rfl
  | x :: l, h => by
    rw [List.flatMap_cons, List.flatMap_cons, h x (List.mem_cons_self ..), flat_congr fun y hy => h y (List.mem_cons_of_mem _ hy)]
theorem sufN_more {clue : List Int} {told : Told} (g : Okay clue told) : ∀ (f a k : Nat), a ≤ told.length → k ≤ clue.length → told.length - a ≤ f → sufN clue told (f + 1) a k = sufN clue told f a k
  | 0, a, k, ha, hk, h => by
    unfold sufN
    rw [if_neg (by omega)]
  | f + 1, a, k, ha, hk, h => by
    rw [sufN, sufN]
    split
    · refine flat_congr fun x hx => ?_
      obtain ⟨q1, q2, q3⟩ := mvs_up g ha hk hx
      rw [sufN_more g f _ _ q2 q3 (by omega)]
    · rfl
theorem suf_eq {clue : List Int} {told : Told} (g : Okay clue told) {a k : Nat} (ha : a ≤ told.length) (hk : k ≤ clue.length) : suf clue told a k = if a < told.length then (mvs clue told a k).flatMap fun x => (suf clue told x.2.1 x.2.2).map (x.1 ++ ·) else base clue k := by
  unfold suf
  rw [← sufN_more g told.length a k ha hk (by omega), sufN]
theorem suf_mem {clue : List Int} {told : Told} (g : Okay clue told) : ∀ (n a k : Nat), told.length - a ≤ n → a ≤ told.length → k ≤ clue.length → ∀ l, l ∈ suf clue told a k ↔ Suf clue told a k l
  | n, a, k, hn, ha, hk, l => by
    rw [suf_eq g ha hk]
    by_cases c : a < told.length
    · rw [if_pos c, List.mem_flatMap]
      have hn0 : 0 < n := by omega
      constructor
      · rintro ⟨x, hx, hl⟩
        obtain ⟨s, hs, rfl⟩ := List.mem_map.mp hl
        obtain ⟨q1, q2, q3⟩ := mvs_up g ha hk hx
        exact (mvs_fwd (cs := x.1) (a' := x.2.1) (k' := x.2.2) g.pos g.t ha hk hx).2.2.2.2.2 s ((suf_mem g (n - 1) _ _ (by omega) q2 q3 s).mp hs)
      · intro h
        obtain ⟨cs, a', k', s', hm, e, hs⟩ := mvs_back g.pos g.t c h
        obtain ⟨q1, q2, q3⟩ := mvs_up g ha hk hm
        exact ⟨_, hm, List.mem_map.mpr ⟨s', (suf_mem g (n - 1) _ _ (by omega) q2 q3 s').mpr hs, e.symm⟩⟩
    · rw [if_neg c]
      have ea : a = told.length := by omega
      subst ea
      unfold base
      constructor
      · intro h
        split at h
        · rename_i e
          rw [List.mem_singleton.mp h, e]
          exact ⟨fun c hc => absurd hc List.not_mem_nil, by rw [List.drop_length]; rfl, by rw [List.drop_length]; rfl⟩
        · exact absurd h List.not_mem_nil
      · intro h
        have e : l = [] := List.eq_nil_of_length_eq_zero (by rw [suf_len h]; omega)
        subst e
        have hcl : ([] : List Int) = clue.drop k := h.clue
        have := congrArg List.length hcl
        simp at this
        rw [if_pos (by omega)]
        exact List.mem_singleton.mpr rfl
termination_by n => n
theorem pw_map {cs : List Int} {L : List (List Int)} (h : L.Pairwise (· < ·)) : (L.map (cs ++ ·)).Pairwise (· < ·) := by
  rw [List.pairwise_map]
  refine h.imp fun {a b} hab => ?_
  induction cs with
  | nil => exact hab
  | cons c cs ih => exact List.cons_lt_cons_iff.mpr (.inr ⟨rfl, ih⟩)
theorem suf_sorted {clue : List Int} {told : Told} (g : Okay clue told) : ∀ (n a k : Nat), told.length - a ≤ n → a ≤ told.length → k ≤ clue.length → (suf clue told a k).Pairwise (· < ·)
  | n, a, k, hn, ha, hk => by
    rw [suf_eq g ha hk]
    by_cases c : a < told.length
    · rw [if_pos c]
      have hn0 : 0 < n := by omega
      have one : ∀ x ∈ mvs clue told a k, ((suf clue told x.2.1 x.2.2).map (x.1 ++ ·)).Pairwise (· < ·) := fun x hx => by
        obtain ⟨q1, q2, q3⟩ := mvs_up g ha hk hx
        exact pw_map (suf_sorted g (n - 1) _ _ (by omega) q2 q3)
      have hz : ∀ x ∈ (if a < told.length ∧ told.getD a none ≠ some 1 then [(([0] : List Int), a + 1, k)] else []), x = ([0], a + 1, k) := fun x hx => by
        split at hx
        · exact List.mem_singleton.mp hx
        · exact absurd hx List.not_mem_nil
      have hb : ∀ x ∈ (if k < clue.length then match blk clue told a k with
          | some e => [((List.replicate (clue.getD k 0).toNat 1 : List Int) ++ List.replicate (e - a - (clue.getD k 0).toNat) 0, e, k + 1)]
          | none => [] else []), ∃ r, x.1 = 1 :: r := fun x hx => by
        split at hx
        · rename_i h1
          have hp : 1 ≤ clue.getD k 0 := by
            rw [List.getD_eq_getElem?_getD, List.getElem?_eq_getElem h1]
            exact g.pos _ (List.getElem_mem h1)
          split at hx
          · rw [List.mem_singleton.mp hx]
            obtain ⟨m, hm⟩ : ∃ m, (clue.getD k 0).toNat = m + 1 := ⟨(clue.getD k 0).toNat - 1, by omega⟩
            rw [hm, List.replicate_succ]
            exact ⟨_, rfl⟩
          · exact absurd hx List.not_mem_nil
        · exact absurd hx List.not_mem_nil
      have em : mvs clue told a k = (if a < told.length ∧ told.getD a none ≠ some 1 then [(([0] : List Int), a + 1, k)] else []) ++ (if k < clue.length then match blk clue told a k with
          | some e => [((List.replicate (clue.getD k 0).toNat 1 : List Int) ++ List.replicate (e - a - (clue.getD k 0).toNat) 0, e, k + 1)]
          | none => [] else []) := rfl
      have l2 : (if k < clue.length then match blk clue told a k with
          | some e => [((List.replicate (clue.getD k 0).toNat 1 : List Int) ++ List.replicate (e - a - (clue.getD k 0).toNat) 0, e, k + 1)]
          | none => [] else []).length ≤ 1 := by
        split
        · split <;> simp
        · simp
      have l1 : (if a < told.length ∧ told.getD a none ≠ some 1 then [(([0] : List Int), a + 1, k)] else []).length ≤ 1 := by split <;> simp
      rw [em] at one ⊢
      generalize (if a < told.length ∧ told.getD a none ≠ some 1 then [(([0] : List Int), a + 1, k)] else []) = A at *
      generalize (if k < clue.length then match blk clue told a k with
          | some e => [((List.replicate (clue.getD k 0).toNat 1 : List Int) ++ List.replicate (e - a - (clue.getD k 0).toNat) 0, e, k + 1)]
          | none => [] else []) = B at *
      have single : ∀ C : List (List Int × Nat × Nat), C.length ≤ 1 → (∀ x ∈ C, ((suf clue told x.2.1 x.2.2).map (x.1 ++ ·)).Pairwise (· < ·)) → (C.flatMap fun x => (suf clue told x.2.1 x.2.2).map (x.1 ++ ·)).Pairwise (· < ·) := fun C hC h => by
        match C, hC, h with
        | [], _, _ => exact List.Pairwise.nil
        | [x], _, h => simpa using h x (List.mem_singleton.mpr rfl)
        | _ :: _ :: _, hC, _ => simp at hC
      rw [List.flatMap_append, List.pairwise_append]
      refine ⟨single A l1 fun x hx => one x (List.mem_append.mpr (.inl hx)), single B l2 fun x hx => one x (List.mem_append.mpr (.inr hx)), fun u hu v hv => ?_⟩
      obtain ⟨x, hx, hu⟩ := List.mem_flatMap.mp hu
      obtain ⟨y, hy, hv⟩ := List.mem_flatMap.mp hv
      obtain ⟨s, _, rfl⟩ := List.mem_map.mp hu
      obtain ⟨t, _, rfl⟩ := List.mem_map.mp hv
      obtain ⟨r, er⟩ := hb y hy
      rw [hz x hx, er]
      exact List.cons_lt_cons_iff.mpr (.inl (by decide))
    · rw [if_neg c]
      unfold base
      split
      · exact List.pairwise_singleton _ _
      · exact List.Pairwise.nil
termination_by n => n
/-- how many -/
def cnt (clue : List Int) (told : Told) (a k : Nat) : Nat := (suf clue told a k).length
theorem cnt_eq {clue : List Int} {told : Told} (g : Okay clue told) {a k : Nat} (ha : a < told.length) (hk : k ≤ clue.length) : cnt clue told a k = ((mvs clue told a k).map fun x => cnt clue told x.2.1 x.2.2).sum := by
  unfold cnt
  rw [suf_eq g (Nat.le_of_lt ha) hk, if_pos ha, List.length_flatMap]
  congr 1
  refine List.map_congr_left fun x _ => ?_
  rw [List.length_map]
theorem cnt_end {clue : List Int} {told : Told} (g : Okay clue told) {k : Nat} (hk : k ≤ clue.length) : cnt clue told told.length k = if k = clue.length then 1 else 0 := by
  unfold cnt
  rw [suf_eq g (Nat.le_refl _) hk, if_neg (Nat.lt_irrefl _)]
  unfold base
  split <;> rfl
end DL.K58

set_option maxHeartbeats 4000000
namespace DL.K58
open PySem PySem.Spec PyProof.Rows L2 DL
local macro_rules | `(tactic| walk_at "nx") => `(tactic| ((try dsimp only); rw [sSeq_ev]; (try simp [-sSeq_ev, -compL_cons, -forL_cons])))
abbrev KV2 := List (List Int × F)
def ky (a k : Nat) : List Int := [(a : Int), (k : Int)]
theorem ky_inj {a k b j : Nat} (h : ky a k = ky b j) : a = b ∧ k = j := by
  unfold ky at h
  simp at h
  omega
theorem forL_dn {gd : Sto → Prop} {g : DG} {t : WS} {D : EndsD} {ρ : Slots} {S : Sto} {lo : Int} {n : Nat} (I : Nat → Slots → Sto → Prop) (h0 : I 0 ρ S) (hg : ∀ i ρ S, I i ρ S → gd S)
    (hs : ∀ i, i < n → ∀ ρ S (N : Slots → Sto → Prop), I i ρ S → (∀ ρ' S', I (i + 1) ρ' S' → N ρ' S') → g (.int (lo - (i : Int))) ρ S fun ρ1 S1 => t { nx := N, rt := D.rt, bk := D.nx, ct := N, ex := D.ex } ρ1 S1)
    (hf : ∀ ρ S, I n ρ S → D.nx ρ S) : forL gd g t (dnL lo n) D ρ S := by
  unfold dnL
  rw [List.range_eq_range']
  exact forL_idx (fun i : Nat => F.int (lo - (i : Int))) n I hg hs hf n 0 ρ S (by omega) h0
def Sure (clue : List Int) (told : Told) (kvs : KV2) (a k : Nat) : Prop := fndF kvs (ky a k) = some (.int (cnt clue told a k : Int))
def Known (clue : List Int) (told : Told) (kvs : KV2) : Prop := ∀ a k : Nat, a ≤ told.length → k ≤ clue.length → Sure clue told kvs a k
def C_counts_of : Ct := fun xs S Q => ∃ (clue : List Int) (told : Told), xs = [rowF clue, tdF1 told] ∧ Okay clue told ∧ ∀ p kvs, S.d p = none → Known clue told kvs → Q (.loc p) (updD S p (.t kvs))
theorem mono_C_counts_of : MonoC C_counts_of := fun xs S Q Q' k ⟨c, t, e, h1, q⟩ => ⟨c, t, e, h1, fun p kvs a b => k _ _ (q p kvs a b)⟩
theorem sure_put {clue : List Int} {told : Told} {kvs : KV2} {a k b j : Nat} {v : F} (h : Sure clue told kvs a k) (hn : ¬ (a = b ∧ k = j)) : Sure clue told (putF kvs (ky b j) v) a k := by
  unfold Sure at h ⊢
  rw [put_fnd, if_neg fun e => hn (ky_inj e)]
  exact h
theorem sure_new {clue : List Int} {told : Told} {kvs : KV2} {a k : Nat} {v : Int} (h : v = (cnt clue told a k : Int)) : Sure clue told (putF kvs (ky a k) (.int v)) a k := by
  unfold Sure
  rw [put_fnd, if_pos rfl, h]
theorem sum_cast (f : List Int × Nat × Nat → Nat) (l : List (List Int × Nat × Nat)) : (l.map fun x => (f x : Int)).sum = ((l.map f).sum : Nat) := by
  induction l with
  | nil => rfl
  | cons x l ih => rw [List.map_cons, List.map_cons, List.sum_cons, List.sum_cons, ih]; omega
theorem sp_counts_of (fs : List F) (S : Sto) (Q) (h : C_counts_of fs S Q) : fs.length = 2 ∧ w_counts_of C_moves { nx := fun _ S' => Q .non S', rt := fun d S' => Q d S' } (startF 9 fs) S := by
  obtain ⟨clue, told, rfl, g, q⟩ := h
  refine ⟨rfl, ?_⟩
  show w_counts_of _ _ [some (rowF clue), some (tdF1 told), none, none, none, none, none, none, none] S
  have gm := g.m
  have gl := g.l
  unfold w_counts_of
  refine seq_via (fun ρ S' => ∃ p, S.d p = none ∧ S' = updD S p (.t []) ∧ ρ = [some (rowF clue), some (tdF1 told), some (.int (told.length : Int)), some (.loc p), none, none, none, none, none]) (fun N hN => ?_) (fun ρ S2 ⟨p, hp, eS, eρ⟩ => ?_)
  · unfold tdF1 at hN ⊢
    try simp [-sSeq_ev, -compL_cons, -forL_cons]
    exact fun p hp => hN _ _ ⟨p, hp, rfl, rfl⟩
  subst eS eρ
  let R : Option F → Addr → Slots → Prop := fun o4 p ρ => ∃ o5 o6 o7 o8 : Option F, ρ = [some (rowF clue), some (tdF1 told), some (.int (told.length : Int)), some (.loc p), o4, o5, o6, o7, o8]
  refine seq_via (fun ρ S' => ∃ (kvs : KV2), S' = updD S p (.t kvs) ∧ Known clue told kvs ∧ ∃ o4, R o4 p ρ) (fun N hN => ?_) (fun ρ S2 ⟨kvs, eS, hK, o4, o5, o6, o7, o8, eρ⟩ => ?_)
  · simp [-sSeq_ev, -compL_cons, -forL_cons]
    refine ⟨by omega, ?_⟩
    let Don : KV2 → Nat → Nat → Prop := fun kvs i j => kvs.length ≤ i * (clue.length + 1) + j ∧ (∀ a k : Nat, told.length < a + i → a ≤ told.length → k ≤ clue.length → Sure clue told kvs a k) ∧ ∀ k : Nat, clue.length < k + j → k ≤ clue.length → Sure clue told kvs (told.length - i) k
    refine forL_dn (fun i ρ S' => ∃ (kvs : KV2), S' = updD S p (.t kvs) ∧ Don kvs i 0 ∧ ∃ o4, R o4 p ρ) ⟨[], rfl, ⟨by simp, fun a k h1 h2 => by omega, fun k h1 h2 => by omega⟩, _, _, _, _, _, rfl⟩ (fun _ _ _ _ => trivial)
      (fun i hi ρ S' M ⟨kvs, eS, hD, o4, o5, o6, o7, o8, eρ⟩ hM => ?_) (fun ρ S' ⟨kvs, eS, hD, o4, hR⟩ => hN _ _ ⟨kvs, eS, fun a k ha hk => hD.2.1 a k (by omega) ha hk, o4, hR⟩)
    subst eS eρ
    rw [show (told.length : Int) - (i : Int) = ((told.length - i : Nat) : Int) by omega]
    generalize ea : told.length - i = a
    unfold rowF
    simp [-sSeq_ev, -compL_cons, -forL_cons]
    refine ⟨by omega, ?_⟩
    refine forL_dn (fun j ρ S' => ∃ (kvs : KV2), S' = updD S p (.t kvs) ∧ Don kvs i j ∧ R (some (.int (a : Int))) p ρ) ⟨kvs, rfl, hD, _, _, _, _, rfl⟩ (fun _ _ _ _ => trivial)
      (fun j hj ρ S' M2 ⟨kvs, eS, hD, o5, o6, o7, o8, eρ⟩ hM2 => ?_) (fun ρ S' ⟨kvs, eS, hD, hR⟩ => hM _ _ ⟨kvs, eS, ⟨?_, fun b k h1 h2 h3 => ?_, fun k h1 h2 => by omega⟩, _, hR⟩)
    · subst eS eρ
      rw [show (clue.length : Int) - (j : Int) = ((clue.length - j : Nat) : Int) by omega]
      generalize ek : clue.length - j = k
      have hsz : kvs.length < 2000 := by
        have h1 := hD.1
        have h2 : i * (clue.length + 1) ≤ 16 * 101 := Nat.mul_le_mul (by omega) (by omega)
        omega
      have szl : kvs.length < sizeLine := Nat.lt_of_lt_of_le hsz (mil (by decide))
      have next : ∀ v : Int, v = (cnt clue told a k : Int) → Don (putF kvs (ky a k) (.int v)) i (j + 1) := fun v v0 => by
        obtain ⟨d1, d2, d3⟩ := hD
        refine ⟨Nat.le_trans (put_len _ _ _) (by omega), fun b l h1 h2 h3 => ?_, fun l h1 h2 => ?_⟩
        · by_cases e : b = a ∧ l = k
          · rw [e.1, e.2]; exact sure_new v0
          · exact sure_put (d2 b l h1 h2 h3) e
        · rw [ea] at d3 ⊢
          by_cases e : l = k
          · rw [e]; exact sure_new v0
          · exact sure_put (d3 l (by omega) h2) fun q => e q.2
      simp [-compL_cons]
      by_cases c : a = told.length
      · rw [if_pos (by omega)]
        have hs := cnt_end (k := k) g (by omega)
        rw [← c] at hs
        by_cases c2 : k = clue.length
        · rw [if_pos (by omega)]
          refine ⟨szl, hM2 _ _ ⟨putF kvs (ky a k) (.int 1), by rw [updD_updD]; rfl, next 1 (by rw [hs, if_pos c2]; rfl), _, _, _, _, rfl⟩⟩
        · rw [if_neg (by omega)]
          refine ⟨szl, hM2 _ _ ⟨putF kvs (ky a k) (.int 0), by rw [updD_updD]; rfl, next 0 (by rw [hs, if_neg c2]; rfl), _, _, _, _, rfl⟩⟩
      · rw [if_neg (by omega)]
        refine ⟨clue, told, a, k, rfl, g, by omega, by omega, ?_⟩
        have later : ∀ b l, a < b → b ≤ told.length → l ≤ clue.length → Sure clue told kvs b l := fun b l h1 h2 h3 => hD.2.1 b l (by omega) h2 h3
        have st1 := cnt_eq g (a := a) (k := k) (by omega) (by omega)
        have ml : (mvs clue told a k).length ≤ 2 := by
          unfold mvs
          rw [List.length_append]
          split <;> split <;> first | (split <;> simp) | simp
        simp only [onIt_lst]
        refine ⟨by rw [List.length_map]; exact mil (by omega), ?_⟩
        refine compL_mapT mvF (fun x => .int (cnt clue told x.2.1 x.2.2 : Int)) trivial (mvs clue told a k) _ (fun x hx Q2 q2 => ?_) ?_
        · obtain ⟨cs, a', k'⟩ := x
          obtain ⟨q1, q3, q4, _⟩ := mvs_fwd g.pos g.t (show a ≤ told.length by omega) (show k ≤ clue.length by omega) hx
          have hv := later a' k' q1 q3 q4
          unfold Sure ky at hv
          simp [mvF, hv]
          exact q2
        · rw [List.nil_append, show (mvs clue told a k).map (fun x => F.int (cnt clue told x.2.1 x.2.2 : Int)) = ((mvs clue told a k).map fun x => (cnt clue told x.2.1 x.2.2 : Int)).map F.int by rw [List.map_map]; rfl]
          try simp [-sSeq_ev, -compL_cons, -forL_cons]
          exact ⟨szl, hM2 _ _ ⟨putF kvs (ky a k) (.int _), by rw [updD_updD]; rfl, next _ (by rw [st1, sum_cast]), _, _, _, _, rfl⟩⟩
    · have := hD.1
      rw [Nat.succ_mul]
      omega
    · obtain ⟨d1, d2, d3⟩ := hD
      by_cases e : told.length < b + i
      · exact d2 b k e h2 h3
      · have eb : b = told.length - i := by omega
        rw [eb]
        exact d3 k (by omega) h3
  subst eS eρ
  try simp [-sSeq_ev, -compL_cons, -forL_cons]
  exact q p kvs hp hK
end DL.K58

set_option maxHeartbeats 4000000
namespace DL.K58
open PySem PySem.Spec PyProof.Rows L2 DL
local macro_rules | `(tactic| walk_at "nx") => `(tactic| ((try dsimp only); rw [sSeq_ev]; (try simp [-sSeq_ev, -compL_cons, -forL_cons])))
theorem restr_newD {S : Sto} {p : Addr} {c : DC} (h : S.d p = none) : restr S (updD S p c) = S := restr_eq (fun _ _ => rfl) fun a ha => updD_ne fun e => by rw [e, h] at ha; cases ha
theorem cnt0 {clue : List Int} {told : Told} {kvs : KV2} (hK : Known clue told kvs) : fndF kvs [0, 0] = some (.int (cnt clue told 0 0 : Int)) := hK 0 0 (Nat.zero_le _) (Nat.zero_le _)
@[simp, simp ↓] theorem cLen_td (t : Told) (S : Sto) (Q : F → Sto → Prop) : cLen [tdF1 t] S Q = Q (.int (t.length : Int)) S := by unfold tdF1; simp
@[simp, simp ↓] theorem cLen_row (t : List Int) (S : Sto) (Q : F → Sto → Prop) : cLen [rowF t] S Q = Q (.int (t.length : Int)) S := by unfold rowF; simp
def C_count_line : Ct := fun xs S Q => ∃ (clue : List Int) (told : Told), xs = [rowF clue, tdF1 told] ∧ Okay clue told ∧ Q (.int (cnt clue told 0 0 : Int)) S
theorem mono_C_count_line : MonoC C_count_line := fun xs S Q Q' k ⟨c, t, e, h1, q⟩ => ⟨c, t, e, h1, k _ _ q⟩
theorem sp_count_line (fs : List F) (S : Sto) (Q) (h : C_count_line fs S Q) : fs.length = 2 ∧ w_count_line C_counts_of { nx := fun _ S' => Q .non (restr S S'), rt := fun d S' => Q d (restr S S') } (startF 2 fs) S := by
  obtain ⟨clue, told, rfl, g, q⟩ := h
  refine ⟨rfl, ?_⟩
  show w_count_line _ _ [some (rowF clue), some (tdF1 told)] S
  unfold w_count_line
  try simp [-sSeq_ev, -compL_cons, -forL_cons]
  refine ⟨clue, told, rfl, g, fun p kvs hp hK => ?_⟩
  try simp [-sSeq_ev, -compL_cons, -forL_cons]
  rw [cnt0 hK]
  try simp [-sSeq_ev, -compL_cons, -forL_cons]
  rw [restr_newD hp]
  exact q
def C_line_at (x : Addr) : CtX := fun xs S Q E => ∃ (clue : List Int) (told : Told) (n : Int), xs = [rowF clue, tdF1 told, .int n] ∧ Okay clue told ∧ (∀ (i : Nat) (l : List Int), n = (i : Int) → (suf clue told 0 0)[i]? = some l → Q (rowF l) S) ∧ (n < 0 ∨ (cnt clue told 0 0 : Int) ≤ n → E (.ref x) S)
theorem mono_C_line_at {x : Addr} : MonoX (C_line_at x) := fun xs S Q Q' E E' kq ke ⟨c, t, n, e, h1, h2, h3⟩ => ⟨c, t, n, e, h1, fun i l a b => kq _ _ (h2 i l a b), fun a => ke _ _ (h3 a)⟩
/-- the n-th one goes on by the move that it is of -/
theorem nth_split {clue : List Int} {told : Told} {ms : List (List Int × Nat × Nat)} {n : Nat} {l : List Int} (h : (ms.flatMap fun x => (suf clue told x.2.1 x.2.2).map (x.1 ++ ·))[n]? = some l) :
    ∃ ys x zs, ms = ys ++ x :: zs ∧ (ys.map fun x => cnt clue told x.2.1 x.2.2).sum ≤ n ∧ ∃ r, (suf clue told x.2.1 x.2.2)[n - (ys.map fun x => cnt clue told x.2.1 x.2.2).sum]? = some r ∧ l = x.1 ++ r := by
  induction ms generalizing n with
  | nil => simp at h
  | cons x ms ih =>
    rw [List.flatMap_cons] at h
    by_cases c : n < cnt clue told x.2.1 x.2.2
    · rw [List.getElem?_append_left (by rw [List.length_map]; exact c), List.getElem?_map] at h
      obtain ⟨r, hr, e⟩ := Option.map_eq_some_iff.mp h
      exact ⟨[], x, ms, rfl, Nat.zero_le _, r, by simpa using hr, e.symm⟩
    · rw [List.getElem?_append_right (by rw [List.length_map]; exact Nat.le_of_not_lt c), List.length_map] at h
      obtain ⟨ys, y, zs, e, h1, r, h2, h3⟩ := ih h
      have c : cnt clue told x.2.1 x.2.2 ≤ n := Nat.le_of_not_lt c
      have h1 : (ys.map fun x => cnt clue told x.2.1 x.2.2).sum ≤ n - cnt clue told x.2.1 x.2.2 := h1
      refine ⟨x :: ys, y, zs, by rw [e]; rfl, ?_, r, ?_, h3⟩
      · rw [List.map_cons, List.sum_cons]
        omega
      · rw [List.map_cons, List.sum_cons, ← h2]
        congr 1
        show n - _ = n - cnt clue told x.2.1 x.2.2 - _
        omega
theorem sp_line_at {x : Addr} (fs : List F) (S : Sto) (Q E) (h : C_line_at x fs S Q E) : fs.length = 3 ∧ w_line_at x C_moves C_counts_of { nx := fun _ S' => Q .non (restr S S'), rt := fun d S' => Q d (restr S S'), ex := fun c _ S' => E c (restr S S') } (startF 11 fs) S := by
  obtain ⟨clue, told, n, rfl, g, q, qe⟩ := h
  refine ⟨rfl, ?_⟩
  show w_line_at _ _ _ _ [some (rowF clue), some (tdF1 told), some (.int n), none, none, none, none, none, none, none, none] S
  unfold w_line_at
  walk_at "nx"
  refine ⟨clue, told, rfl, g, fun p kvs hp hK => ?_⟩
  walk_at "nx"
  rw [cnt0 hK]
  simp [-sSeq_ev]
  by_cases c : n < 0 ∨ (cnt clue told 0 0 : Int) ≤ n
  · have := qe c
    rw [← restr_newD (c := .t kvs) hp] at this
    split
    · rw [if_neg (by omega)]
      exact this
    · exact this
  rw [if_pos (by omega), if_pos (by omega)]
  obtain ⟨i, rfl⟩ : ∃ i : Nat, n = (i : Int) := ⟨n.toNat, by omega⟩
  obtain ⟨l, hl⟩ : ∃ l, (suf clue told 0 0)[i]? = some l := ⟨_, List.getElem?_eq_getElem (by show i < cnt clue told 0 0; omega)⟩
  have q := q i l rfl hl
  clear qe c
  walk_at "nx"
  let St : Nat → List Int → Nat → Nat → Slots → Prop := fun i line a k ρ => ∃ o7 o8 o9 o10 : Option F, ρ = [some (rowF clue), some (tdF1 told), some (.int (i : Int)), some (.loc p), some (rowF line), some (.int (a : Int)), some (.int (k : Int)), o7, o8, o9, o10]
  refine seq_via (fun ρ S' => S' = updD S p (.t kvs) ∧ ∃ i k, St i l told.length k ρ) (fun N hN => ?_) (fun ρ S2 ⟨eS, i, k, o7, o8, o9, o10, eρ⟩ => ?_)
  · refine while_of (k := told.length) (fun m ρ S' => S' = updD S p (.t kvs) ∧ ∃ (i : Nat) (line : List Int) (a k : Nat) (r : List Int), m = told.length - a ∧ a ≤ told.length ∧ k ≤ clue.length ∧ (suf clue told a k)[i]? = some r ∧ line ++ r = l ∧ line.length = a ∧ St i line a k ρ) (fun m ρ S' M hI hM => ?_) ⟨rfl, i, [], 0, 0, l, rfl, Nat.zero_le _, Nat.zero_le _, hl, rfl, rfl, none, none, none, none, rfl⟩
    obtain ⟨eS, i, line, a, k, r, em, ha, hk, hr, el, ell, o7, o8, o9, o10, eρ⟩ := hI
    subst eS eρ em
    simp [-sSeq_ev, -forL_cons]
    by_cases c : a < told.length
    · rw [if_pos (by omega)]
      refine ⟨clue, told, a, k, rfl, g, hk, ha, ?_⟩
      have hr2 := hr
      rw [suf_eq g ha hk, if_pos c] at hr2
      obtain ⟨ys0, x0, zs0, em, hsum, r', hr', er⟩ := nth_split hr2
      simp only [onIt_lst]
      refine forL_list mvF (mvs clue told a k) (fun ys ρ S' => S' = updD S p (.t kvs) ∧ (∃ t, ys0 ++ [x0] = ys ++ t ∧ t ≠ []) ∧ St (i - (ys.map fun x => cnt clue told x.2.1 x.2.2).sum) line a k ρ) ⟨rfl, ⟨_, rfl, by simp⟩, _, _, _, _, rfl⟩ (fun _ _ _ _ => trivial) (fun ys x zs ex ρ S' M2 hI hM2 => ?_) (fun ρ S' ⟨_, ⟨t, et, ht⟩, _⟩ => ?_)
      · obtain ⟨eS, ⟨t, et, ht⟩, o7, o8, o9, o10, eρ⟩ := hI
        subst eS eρ
        have hx : x ∈ mvs clue told a k := by rw [ex]; simp
        obtain ⟨b1, b2, b3⟩ := mvs_up g ha hk hx
        have hKx := hK x.2.1 x.2.2 b2 b3
        unfold Sure ky at hKx
        obtain ⟨cs, a', k'⟩ := x
        simp [-sSeq_ev, mvF]
        walk_at "nx"
        rw [hKx]
        simp [-sSeq_ev]
        walk_at "nx"
        cases t with
        | nil => exact absurd rfl ht
        | cons y t =>
          have hfull : ys ++ (cs, a', k') :: zs = ys ++ (y :: (t ++ zs0)) := by
            rw [← ex, em, show ys0 ++ x0 :: zs0 = (ys0 ++ [x0]) ++ zs0 by simp, et]
            simp
          have hy : (cs, a', k') = y := by
            have := List.append_cancel_left hfull
            injection this
          subst hy
          by_cases et2 : t = []
          · subst et2
            obtain ⟨e1, e2⟩ := List.append_inj' et rfl
            subst e1
            injection e2 with e2
            subst e2
            have hlt : i - (ys0.map fun x => cnt clue told x.2.1 x.2.2).sum < cnt clue told a' k' := (List.getElem?_eq_some_iff.mp hr').1
            rw [if_pos (by omega)]
            have hcl : cs.length = a' - a := (mvs_fwd (cs := cs) (a' := a') (k' := k') g.pos g.t ha hk hx).2.2.2.1
            have b2 : a' ≤ told.length := b2
            have gm := g.m
            unfold rowF
            simp
            refine ⟨Nat.le_trans (show _ ≤ 100 by omega) (mil (by decide)), ?_⟩
            refine hM _ _ _ (show told.length - a' < told.length - a by have : a < a' := b1; omega) ⟨rfl, i - (ys0.map fun x => cnt clue told x.2.1 x.2.2).sum, line ++ cs, a', k', r', rfl, b2, b3, hr', by rw [List.append_assoc, ← er]; exact el, by rw [List.length_append]; have : a < a' := b1; omega, some (rowF cs), some (.int (a' : Int)), some (.int (k' : Int)), some (.int (cnt clue told a' k' : Int)), by unfold rowF; rw [List.map_append]⟩
          · obtain ⟨t0, rfl⟩ : ∃ t0, t = t0 ++ [x0] := by
              rcases List.eq_nil_or_concat t with e | ⟨t0, z, e⟩
              · exact absurd e et2
              · rw [List.concat_eq_append] at e
                subst e
                refine ⟨t0, ?_⟩
                rw [show ys ++ (cs, a', k') :: (t0 ++ [z]) = (ys ++ (cs, a', k') :: t0) ++ [z] by simp] at et
                have := (List.append_inj' et rfl).2
                rw [this]
            have e0 : ys0 = ys ++ (cs, a', k') :: t0 := by
              rw [show ys ++ (cs, a', k') :: (t0 ++ [x0]) = (ys ++ (cs, a', k') :: t0) ++ [x0] by simp] at et
              exact List.append_cancel_right et
            have hs2 : (ys.map fun x => cnt clue told x.2.1 x.2.2).sum + cnt clue told a' k' ≤ i := by
              rw [e0, List.map_append, List.sum_append, List.map_cons, List.sum_cons] at hsum
              have hsum : (ys.map fun x => cnt clue told x.2.1 x.2.2).sum + (cnt clue told a' k' + (t0.map fun x => cnt clue told x.2.1 x.2.2).sum) ≤ i := hsum
              omega
            rw [if_neg (by omega)]
            have ei : ((i - (ys.map fun x => cnt clue told x.2.1 x.2.2).sum : Nat) : Int) - (cnt clue told a' k' : Int) = ((i - ((ys ++ [(cs, a', k')]).map fun x => cnt clue told x.2.1 x.2.2).sum : Nat) : Int) := by
              rw [List.map_append, List.sum_append, List.map_cons, List.sum_cons]
              show _ = ((i - (_ + (cnt clue told a' k' + 0)) : Nat) : Int)
              omega
            try simp [-sSeq_ev, -compL_cons, -forL_cons]
            rw [ei]
            exact hM2 _ _ ⟨rfl, ⟨t0 ++ [x0], by rw [et]; simp, by simp⟩, _, _, _, _, rfl⟩
      · exfalso
        have h1 := congrArg List.length em
        have h2 := congrArg List.length et
        rw [List.length_append, List.length_cons] at h1
        rw [List.length_append, List.length_append, List.length_singleton] at h2
        have : t.length ≠ 0 := fun e => ht (List.eq_nil_of_length_eq_zero e)
        omega
    · rw [if_neg (by omega)]
      have ea : a = told.length := by omega
      have hr3 : r = [] := by
        have := (suf_mem g _ a k (Nat.le_refl _) ha hk r).mp (List.mem_of_getElem? hr)
        exact List.eq_nil_of_length_eq_zero (by rw [suf_len this]; omega)
      subst hr3
      rw [List.append_nil] at el
      subst el ea
      exact hN _ _ ⟨rfl, _, _, _, _, _, _, rfl⟩
  subst eS eρ
  try simp [-sSeq_ev, -compL_cons, -forL_cons]
  rw [restr_newD hp]
  exact q
theorem mvs_heads {clue : List Int} {told : Told} (g : Okay clue told) {a k : Nat} {ys zs : List (List Int × Nat × Nat)} {x : List Int × Nat × Nat} (h : mvs clue told a k = ys ++ x :: zs) : ∀ y ∈ ys, y.1 = [0] ∧ ∃ t, x.1 = 1 :: t := by
  have hb : ∀ x ∈ (if k < clue.length then match blk clue told a k with
      | some e => [((List.replicate (clue.getD k 0).toNat 1 : List Int) ++ List.replicate (e - a - (clue.getD k 0).toNat) 0, e, k + 1)]
      | none => [] else []), ∃ r, x.1 = 1 :: r := fun x hx => by
    split at hx
    · rename_i h1
      have hp : 1 ≤ clue.getD k 0 := by
        rw [List.getD_eq_getElem?_getD, List.getElem?_eq_getElem h1]
        exact g.pos _ (List.getElem_mem h1)
      split at hx
      · rw [List.mem_singleton.mp hx]
        obtain ⟨m, hm⟩ : ∃ m, (clue.getD k 0).toNat = m + 1 := ⟨(clue.getD k 0).toNat - 1, by omega⟩
        rw [hm, List.replicate_succ]
        exact ⟨_, rfl⟩
      · exact absurd hx List.not_mem_nil
    · exact absurd hx List.not_mem_nil
  have l2 : (if k < clue.length then match blk clue told a k with
      | some e => [((List.replicate (clue.getD k 0).toNat 1 : List Int) ++ List.replicate (e - a - (clue.getD k 0).toNat) 0, e, k + 1)]
      | none => [] else []).length ≤ 1 := by
    split
    · split <;> simp
    · simp
  unfold mvs at h
  generalize (if k < clue.length then match blk clue told a k with
      | some e => [((List.replicate (clue.getD k 0).toNat 1 : List Int) ++ List.replicate (e - a - (clue.getD k 0).toNat) 0, e, k + 1)]
      | none => [] else []) = B at h hb l2
  intro y hy
  cases ys with
  | nil => exact absurd hy List.not_mem_nil
  | cons y0 ys =>
    split at h
    · injection h with h1 h2
      cases ys with
      | nil =>
        rw [List.mem_singleton.mp hy, ← h1]
        have h2 : B = [] ++ x :: zs := h2
        exact ⟨rfl, hb x (by rw [h2]; simp)⟩
      | cons y1 ys =>
        have := congrArg List.length h2
        simp at this
        omega
    · have := congrArg List.length h
      simp at this
      omega
theorem oSl_row {l : List Int} {lo hi : Option Int} {S : Sto} {Q : F → Sto → Prop} : oSl (rowF l) lo hi S Q = Q (rowF (cut l lo hi)) S := by
  unfold rowF
  rw [← cut_map]
  rfl
def C_number_of : Ct := fun xs S Q => ∃ (clue : List Int) (told : Told) (l : List Int) (i : Nat), xs = [rowF clue, tdF1 told, rowF l] ∧ Okay clue told ∧ (suf clue told 0 0)[i]? = some l ∧ Q (.int (i : Int)) S
theorem mono_C_number_of : MonoC C_number_of := fun xs S Q Q' k ⟨c, t, l, i, e, h1, h2, q⟩ => ⟨c, t, l, i, e, h1, h2, k _ _ q⟩
theorem sp_number_of (fs : List F) (S : Sto) (Q) (h : C_number_of fs S Q) : fs.length = 3 ∧ w_number_of C_moves C_counts_of { nx := fun _ S' => Q .non (restr S S'), rt := fun d S' => Q d (restr S S') } (startF 10 fs) S := by
  obtain ⟨clue, told, l, i, rfl, g, hl, q⟩ := h
  refine ⟨rfl, ?_⟩
  show w_number_of _ _ _ [some (rowF clue), some (tdF1 told), some (rowF l), none, none, none, none, none, none, none] S
  unfold w_number_of
  walk_at "nx"
  refine ⟨clue, told, rfl, g, fun p kvs hp hK => ?_⟩
  walk_at "nx"
  let St : Nat → Nat → Nat → Slots → Prop := fun j a k ρ => ∃ o7 o8 o9 : Option F, ρ = [some (rowF clue), some (tdF1 told), some (rowF l), some (.loc p), some (.int (j : Int)), some (.int (a : Int)), some (.int (k : Int)), o7, o8, o9]
  have ll : l.length = told.length := by
    have := (suf_mem g _ 0 0 (Nat.le_refl _) (Nat.zero_le _) (Nat.zero_le _) l).mp (List.mem_of_getElem? hl)
    rw [suf_len this]
    omega
  refine seq_via (fun ρ S' => S' = updD S p (.t kvs) ∧ ∃ k, St i told.length k ρ) (fun N hN => ?_) (fun ρ S2 ⟨eS, k, o7, o8, o9, eρ⟩ => ?_)
  · refine while_of (k := told.length) (fun m ρ S' => S' = updD S p (.t kvs) ∧ ∃ (j i' : Nat) (a k : Nat), m = told.length - a ∧ a ≤ told.length ∧ k ≤ clue.length ∧ (suf clue told a k)[i']? = some (l.drop a) ∧ j + i' = i ∧ St j a k ρ) (fun m ρ S' M hI hM => ?_) ⟨rfl, 0, i, 0, 0, rfl, Nat.zero_le _, Nat.zero_le _, hl, Nat.zero_add _, none, none, none, rfl⟩
    obtain ⟨eS, j, i', a, k, em, ha, hk, hr, ej, o7, o8, o9, eρ⟩ := hI
    subst eS eρ em
    simp [-sSeq_ev, -forL_cons]
    by_cases c : a < told.length
    · rw [if_pos (by omega)]
      refine ⟨clue, told, a, k, rfl, g, hk, ha, ?_⟩
      have hr2 := hr
      rw [suf_eq g ha hk, if_pos c] at hr2
      obtain ⟨ys0, x0, zs0, em, hsum, r', hr', er⟩ := nth_split hr2
      have hds := mvs_heads g em
      simp only [onIt_lst]
      refine forL_list mvF (mvs clue told a k) (fun ys ρ S' => S' = updD S p (.t kvs) ∧ (∃ t, ys0 ++ [x0] = ys ++ t ∧ t ≠ []) ∧ St (j + (ys.map fun x => cnt clue told x.2.1 x.2.2).sum) a k ρ) ⟨rfl, ⟨_, rfl, by simp⟩, _, _, _, rfl⟩ (fun _ _ _ _ => trivial) (fun ys x zs ex ρ S' M2 hI hM2 => ?_) (fun ρ S' ⟨_, ⟨t, et, ht⟩, _⟩ => ?_)
      · obtain ⟨eS, ⟨t, et, ht⟩, o7, o8, o9, eρ⟩ := hI
        subst eS eρ
        have hx : x ∈ mvs clue told a k := by rw [ex]; simp
        obtain ⟨b1, b2, b3⟩ := mvs_up g ha hk hx
        have hKx := hK x.2.1 x.2.2 b2 b3
        unfold Sure ky at hKx
        obtain ⟨cs, a', k'⟩ := x
        simp [-sSeq_ev, mvF]
        walk_at "nx"
        have hcl : cs.length = a' - a := (mvs_fwd (cs := cs) (a' := a') (k' := k') g.pos g.t ha hk hx).2.2.2.1
        have b1 : a < a' := b1
        have b2 : a' ≤ told.length := b2
        have gm := g.m
        rw [oSl_row, show (a : Int) + (cs.length : Int) = ((a + cs.length : Nat) : Int) by omega, cut_fromto l (by omega) (by omega), eqF_row, show a + cs.length - a = cs.length by omega]
        refine ⟨okF_row (by rw [List.length_take, List.length_drop]; omega), okF_row (by omega), ?_⟩
        cases t with
        | nil => exact absurd rfl ht
        | cons y t =>
          have hfull : ys ++ (cs, a', k') :: zs = ys ++ (y :: (t ++ zs0)) := by
            rw [← ex, em, show ys0 ++ x0 :: zs0 = (ys0 ++ [x0]) ++ zs0 by simp, et]
            simp
          have hy : (cs, a', k') = y := by
            have := List.append_cancel_left hfull
            injection this
          subst hy
          by_cases et2 : t = []
          · subst et2
            obtain ⟨e1, e2⟩ := List.append_inj' et rfl
            subst e1
            injection e2 with e2
            subst e2
            have er : l.drop a = cs ++ r' := er
            rw [if_pos (by rw [er, List.take_left]; exact decide_eq_true rfl)]
            walk_at "nx"
            rw [← Int.natCast_add]
            refine hM _ _ _ (show told.length - a' < told.length - a by omega) ⟨rfl, j + (ys0.map fun x => cnt clue told x.2.1 x.2.2).sum, i' - (ys0.map fun x => cnt clue told x.2.1 x.2.2).sum, a', k', rfl, b2, b3, ?_, by omega, _, _, _, rfl⟩
            rw [show a' = a + cs.length by omega, ← List.drop_drop, er, List.drop_left, show a + cs.length = a' by omega]
            exact hr'
          · obtain ⟨t0, rfl⟩ : ∃ t0, t = t0 ++ [x0] := by
              rcases List.eq_nil_or_concat t with e | ⟨t0, z, e⟩
              · exact absurd e et2
              · rw [List.concat_eq_append] at e
                subst e
                refine ⟨t0, ?_⟩
                rw [show ys ++ (cs, a', k') :: (t0 ++ [z]) = (ys ++ (cs, a', k') :: t0) ++ [z] by simp] at et
                have := (List.append_inj' et rfl).2
                rw [this]
            have e0 : ys0 = ys ++ (cs, a', k') :: t0 := by
              rw [show ys ++ (cs, a', k') :: (t0 ++ [x0]) = (ys ++ (cs, a', k') :: t0) ++ [x0] by simp] at et
              exact List.append_cancel_right et
            obtain ⟨hc0, t1, hx1⟩ := hds (cs, a', k') (by rw [e0]; simp)
            have hc0 : cs = [0] := hc0
            have hsum2 : (ys.map fun x => cnt clue told x.2.1 x.2.2).sum + (cnt clue told a' k' + (t0.map fun x => cnt clue told x.2.1 x.2.2).sum) ≤ i' := by
              rw [e0, List.map_append, List.sum_append, List.map_cons, List.sum_cons] at hsum
              exact hsum
            rw [if_neg (by rw [er, hx1, hc0]; simp)]
            have ei : (j : Int) + ((ys.map fun x => cnt clue told x.2.1 x.2.2).sum : Int) + (cnt clue told a' k' : Int) = ((j + ((ys ++ [(cs, a', k')]).map fun x => cnt clue told x.2.1 x.2.2).sum : Nat) : Int) := by
              rw [List.map_append, List.sum_append, List.map_cons, List.sum_cons]
              show _ = ((j + (_ + (cnt clue told a' k' + 0)) : Nat) : Int)
              omega
            try simp [-sSeq_ev, -compL_cons, -forL_cons]
            rw [hKx]
            try simp [-sSeq_ev, -compL_cons, -forL_cons]
            rw [ei]
            exact hM2 _ _ ⟨rfl, ⟨t0 ++ [x0], by rw [et]; simp, by simp⟩, _, _, _, rfl⟩
      · exfalso
        have h1 := congrArg List.length em
        have h2 := congrArg List.length et
        rw [List.length_append, List.length_cons] at h1
        rw [List.length_append, List.length_append, List.length_singleton] at h2
        have : t.length ≠ 0 := fun e => ht (List.eq_nil_of_length_eq_zero e)
        omega
    · rw [if_neg (by omega)]
      have ea : a = told.length := by omega
      subst ea
      have ei : i' = 0 := by
        have h1 := (List.getElem?_eq_some_iff.mp hr).1
        have h2 : (suf clue told told.length k).length = cnt clue told told.length k := rfl
        rw [h2, cnt_end g hk] at h1
        split at h1 <;> omega
      exact hN _ _ ⟨rfl, _, _, _, _, by rw [show i = j by omega]⟩
  subst eS eρ
  try simp [-sSeq_ev, -compL_cons, -forL_cons]
  rw [restr_newD hp]
  exact q
end DL.K58

set_option maxHeartbeats 4000000
namespace DL.K58
open PySem PySem.Spec PyProof.Rows L2 DL
local macro_rules | `(tactic| walk_at "nx") => `(tactic| ((try dsimp only); rw [sSeq_ev]; (try simp [-sSeq_ev, -compL_cons, -forL_cons])))
abbrev Ln (clue : List Int) (told : Told) (l : List Int) : Prop := Suf clue told 0 0 l
theorem ln_iff {clue : List Int} {told : Told} {l : List Int} : Ln clue told l ↔ (∀ c ∈ l, isB c) ∧ clueR 0 l = clue ∧ fits l told = true := ⟨fun h => ⟨h.b, h.clue, h.fit⟩, fun h => ⟨h.1, h.2.1, h.2.2⟩⟩
theorem fits_iff : ∀ {l : List Int} {t : Told}, fits l t = true ↔ l.length = t.length ∧ ∀ k, k < l.length → t.getD k none = none ∨ t.getD k none = some (l.getD k 0)
  | [], [] => by simp [fits]
  | [], _ :: _ => by simp [fits]
  | _ :: _, [] => by simp [fits]
  | c :: l, o :: t => by
    rw [fits, Bool.and_eq_true, fits_iff (l := l) (t := t)]
    constructor
    · rintro ⟨h1, h2, h3⟩
      refine ⟨by simp [h2], fun k hk => ?_⟩
      cases k with
      | zero =>
        rw [Bool.or_eq_true] at h1
        rcases h1 with h | h
        · exact .inl (Option.isNone_iff_eq_none.mp h)
        · exact .inr (of_decide_eq_true h)
      | succ k => exact h3 k (by simpa using hk)
    · rintro ⟨h1, h2⟩
      refine ⟨?_, by simpa using h1, fun k hk => h2 (k + 1) (by simpa using hk)⟩
      rcases h2 0 (by simp) with h | h
      · have h : o = none := h
        rw [h]; rfl
      · have h : o = some c := h
        rw [h]; simp
theorem ln_len {clue : List Int} {told : Told} {l : List Int} (h : Ln clue told l) : l.length = told.length := fits_len h.fit
theorem clueR_end : ∀ (s : List Int) (r : Nat), clueR r (s ++ [0]) = clueR r s
  | [], r => by
    rw [List.nil_append, clueR_zero]
    unfold clueR
    rfl
  | c :: s, r => by
    rw [List.cons_append, clueR, clueR, clueR_end s, clueR_end s]
/-- each closed line is made so -/
def C_clue : Ct := fun xs S Q => ∃ ns : List Int, (xs = [rowF ns] ∨ xs = [.lst (ns.map F.int)]) ∧ ns.length ≤ 1000 ∧ Q (rowF (clueR 0 ns)) S
theorem mono_C_clue : MonoC C_clue := fun xs S Q Q' k ⟨ns, e, h, q⟩ => ⟨ns, e, h, k _ _ q⟩
theorem sp_clue (fs : List F) (S : Sto) (Q) (h : C_clue fs S Q) : fs.length = 1 ∧ w__law_clue { nx := fun _ S' => Q .non (restr S S'), rt := fun d S' => Q d (restr S S') } (startF 4 fs) S := by
  obtain ⟨ns, hx, hl, q⟩ := h
  obtain ⟨v, rfl, hv⟩ : ∃ v, fs = [v] ∧ (v = rowF ns ∨ v = .lst (ns.map F.int)) := by
    rcases hx with e | e
    · exact ⟨_, e, .inl rfl⟩
    · exact ⟨_, e, .inr rfl⟩
  refine ⟨rfl, ?_⟩
  show w__law_clue _ [some v, none, none, none] S
  unfold w__law_clue
  walk_at "nx"
  intro p hp
  have eq : ns.map F.int ++ [F.int 0] = (ns ++ [0]).map F.int := by simp
  refine seq_via (fun ρ S' => ∃ o2 o3 : Option F, S' = updS S p ((clueR 0 ns).map F.int) ∧ ρ = [some v, some (.loc p), o2, o3]) (fun N hN => ?_) (fun ρ S2 ⟨o2, o3, eS, eρ⟩ => ?_)
  · have go : forL (fun _ => True) (gN 3) (sIf (wTst (wOp oEq (wVar 3) (wC (.int 1)))) (sAsg (wOp oAdd (wVar 2) (wC (.int 1))) (gN 2)) (sIf (wTst (wOp oGt (wVar 2) (wC (.int 0)))) (sSeq (sExpr (wMt mAppend (wVar 1) (wCons (wVar 2) wNil)))
        (sAsg (wC (.int 0)) (gN 2))) sNext)) ((ns ++ [0]).map F.int) { nx := N, rt := fun d S' => Q d (restr S S') } [some v, some (.loc p), some (.int 0), none] (updS S p []) := by
      refine forL_list F.int (ns ++ [0]) (fun ys ρ S' => ∃ (fnd : List Int) (run : Nat) (o3 : Option F), S' = updS S p (fnd.map F.int) ∧ ρ = [some v, some (.loc p), some (.int (run : Int)), o3] ∧ (∀ zs, ys ++ zs = ns ++ [0] → fnd ++ clueR run zs = clueR 0 (ns ++ [0])) ∧ (ys.getLast? = some 0 → run = 0) ∧ fnd.length ≤ ys.length)
        ⟨[], 0, none, rfl, rfl, fun zs e => by rw [← e]; rfl, fun _ => rfl, Nat.le_refl _⟩ (fun _ _ _ _ => trivial) (fun ys x zs hxs ρ S' M ⟨fnd, run, o3, eS, eρ, h1, h2, h3⟩ hM => ?_) (fun ρ S' ⟨fnd, run, o3, eS, eρ, h1, h2, h3⟩ => hN _ _ ⟨_, _, ?_, eρ⟩)
      · subst eS eρ
        have hlen := congrArg List.length hxs
        simp at hlen
        have hh : ∀ {f2 : List Int} {r2 : Nat}, f2 ++ clueR r2 zs = fnd ++ clueR run (x :: zs) → ∀ ws, (ys ++ [x]) ++ ws = ns ++ [0] → f2 ++ clueR r2 ws = clueR 0 (ns ++ [0]) := fun {f2 r2} e ws ew => by
          have : ws = zs := by
            rw [hxs, List.append_assoc] at ew
            have := List.append_cancel_left ew
            simpa using this
          rw [this, e, h1 _ hxs.symm]
        simp [-sSeq_ev, -compL_cons, -forL_cons]
        by_cases c1 : x = 1
        · rw [if_pos c1]
          refine hM _ _ ⟨fnd, run + 1, _, rfl, rfl, hh (by rw [c1, clueR, if_pos rfl]), fun e => ?_, by simp; omega⟩
          rw [List.getLast?_concat, c1] at e
          cases e
        · rw [if_neg c1]
          by_cases c2 : 0 < run
          · rw [if_pos (by omega)]
            walk_at "nx"
            have hf : fnd.length < 2000 := by omega
            refine ⟨Nat.lt_of_lt_of_le hf (mil (by decide)), hM _ _ ⟨fnd ++ [(run : Int)], 0, _, ?_, rfl, hh ?_, fun _ => rfl, by simp; omega⟩⟩
            · rw [updS_updS, List.map_append]; rfl
            · rw [clueR, if_neg c1, if_pos c2, List.append_assoc]; rfl
          · rw [if_neg (by omega)]
            have e0 : run = 0 := by omega
            subst e0
            refine hM _ _ ⟨fnd, 0, _, rfl, rfl, hh (by rw [clueR, if_neg c1, if_neg (by decide)]), fun _ => rfl, by simp; omega⟩
      · have hr := h2 (by rw [List.getLast?_concat])
        subst hr
        have := h1 [] (List.append_nil _)
        rw [show clueR 0 [] = [] from rfl, List.append_nil, clueR_end] at this
        rw [eS, this]
    rcases hv with e | e
    · subst e
      unfold rowF at go ⊢
      try simp [-sSeq_ev, -compL_cons, -forL_cons]
      refine ⟨Nat.le_trans (show _ ≤ 1001 by omega) (mil (by decide)), ?_⟩
      rw [eq]
      exact go
    · subst e
      try simp [-sSeq_ev, -compL_cons, -forL_cons]
      refine ⟨Nat.le_trans (show _ ≤ 1001 by omega) (mil (by decide)), ?_⟩
      rw [eq]
      exact go
  subst eS eρ
  try simp [-sSeq_ev, -compL_cons, -forL_cons]
  rw [restr_new hp]
  exact q
/-! all lines -/
def rowsN : Nat → List (List Int)
  | 0 => [[]]
  | n + 1 => (rowsN n).map (· ++ [0]) ++ (rowsN n).map (· ++ [1])
theorem rowsN_len : ∀ n, (rowsN n).length = 2 ^ n
  | 0 => rfl
  | n + 1 => by
    rw [rowsN, List.length_append, List.length_map, List.length_map, rowsN_len n, Nat.pow_succ]
    omega
theorem rowsN_mem : ∀ {n : Nat} {l : List Int}, l ∈ rowsN n ↔ l.length = n ∧ ∀ c ∈ l, isB c
  | 0, l => by
    show l ∈ [[]] ↔ _
    rw [List.mem_singleton]
    constructor
    · rintro rfl
      exact ⟨rfl, fun c hc => absurd hc List.not_mem_nil⟩
    · intro h
      exact List.eq_nil_of_length_eq_zero h.1
  | n + 1, l => by
    rw [rowsN, List.mem_append, List.mem_map, List.mem_map]
    constructor
    · rintro (⟨k, hk, rfl⟩ | ⟨k, hk, rfl⟩)
      · obtain ⟨h1, h2⟩ := rowsN_mem.mp hk
        refine ⟨by simp [h1], fun c hc => ?_⟩
        rcases List.mem_append.mp hc with q | q
        · exact h2 c q
        · exact .inl (List.mem_singleton.mp q)
      · obtain ⟨h1, h2⟩ := rowsN_mem.mp hk
        refine ⟨by simp [h1], fun c hc => ?_⟩
        rcases List.mem_append.mp hc with q | q
        · exact h2 c q
        · exact .inr (List.mem_singleton.mp q)
    · rintro ⟨h1, h2⟩
      rcases List.eq_nil_or_concat l with e | ⟨k, x, e⟩
      · rw [e] at h1; cases h1
      · rw [List.concat_eq_append] at e
        subst e
        have hk : k ∈ rowsN n := rowsN_mem.mpr ⟨by simpa using h1, fun c hc => h2 c (List.mem_append.mpr (.inl hc))⟩
        rcases h2 x (by simp) with q | q
        · exact .inl ⟨k, hk, by rw [q]⟩
        · exact .inr ⟨k, hk, by rw [q]⟩
def C_lines : Ct := fun xs S Q => ∃ n : Nat, xs = [.int (n : Int)] ∧ 1 ≤ n ∧ n ≤ 10 ∧ Q (.lst (((rowsN n).mergeSort leR).map rowF)) S
theorem mono_C_lines : MonoC C_lines := fun xs S Q Q' k ⟨n, e, h1, h2, q⟩ => ⟨n, e, h1, h2, k _ _ q⟩
theorem pow10 {n : Nat} (h : n ≤ 10) : 2 ^ n ≤ 1024 := Nat.pow_le_pow_right (by decide) h
theorem sp_lines (fs : List F) (S : Sto) (Q) (h : C_lines fs S Q) : fs.length = 1 ∧ w__law_lines { nx := fun _ S' => Q .non S', rt := fun d S' => Q d S' } (startF 4 fs) S := by
  obtain ⟨n, rfl, hn1, hn, q⟩ := h
  refine ⟨rfl, ?_⟩
  show w__law_lines _ [some (.int (n : Int)), none, none, none] S
  unfold w__law_lines
  walk_at "nx"
  refine seq_via (fun ρ S' => S' = S ∧ ∃ o2 o3 : Option F, ρ = [some (.int (n : Int)), some (.lst ((rowsN n).map rowF)), o2, o3]) (fun N hN => ?_) (fun ρ S2 ⟨eS, o2, o3, eρ⟩ => ?_)
  · simp [-sSeq_ev, -compL_cons, -forL_cons]
    refine ⟨by omega, ?_⟩
    refine forL_rng (fun k ρ S' => S' = S ∧ ∃ o2 o3 : Option F, ρ = [some (.int (n : Int)), some (.lst ((rowsN k).map rowF)), o2, o3]) ⟨rfl, none, none, rfl⟩ (fun _ _ _ _ => trivial) (fun k hk ρ S' M ⟨eS, o2, o3, eρ⟩ hM => ?_) (fun ρ S' h => hN _ _ h)
    subst eS eρ
    have hl := rowsN_len k
    have hp := pow10 (show k ≤ 10 by omega)
    have hc : ∀ (x : Int) (acc : List F) (ρ : Slots) (QL : List F → Sto → Prop), QL (acc ++ (rowsN k).map fun l => rowF (l ++ [x])) S' → compL (fun _ => True) (gN 3) wYes (wOp oAdd (wVar 3) (wTup (wCons (wC (.int x)) wNil))) [some (.int (n : Int)), some (.lst ((rowsN k).map rowF)), some (.int (k : Int)), none] ((rowsN k).map rowF) acc S' QL := fun x acc ρ QL qq =>
      compL_mapT rowF (fun l => rowF (l ++ [x])) trivial (rowsN k) acc (fun l hl Q2 q2 => by
        have := (rowsN_mem.mp hl).1
        unfold rowF at q2 ⊢
        try simp [-sSeq_ev, -compL_cons, -forL_cons]
        refine ⟨Nat.le_trans (show _ ≤ 1001 by omega) (mil (by decide)), ?_⟩
        simpa using q2) qq
    try simp [-sSeq_ev, -compL_cons, -forL_cons]
    refine ⟨by rw [hl]; exact mil (by omega), ?_⟩
    refine hc 0 _ [] _ ?_
    rw [List.nil_append]
    try simp [-sSeq_ev, -compL_cons, -forL_cons]
    refine ⟨by rw [hl]; exact mil (by omega), ?_⟩
    refine hc 1 _ [] _ ?_
    rw [List.nil_append]
    try simp [-sSeq_ev, -compL_cons, -forL_cons]
    refine ⟨Nat.le_trans (show _ ≤ 4000 by omega) (mil (by decide)), hM _ _ ⟨rfl, some (.int (k : Int)), o3, ?_⟩⟩
    rw [rowsN, List.map_append, List.map_map, List.map_map]
    rfl
  subst eS eρ
  have hl := rowsN_len n
  have hp := pow10 hn
  try simp [-sSeq_ev, -compL_cons, -forL_cons]
  refine cSortD_rows (rs := rowsN n) rfl (fun r hr => ?_) ?_
  · have := (rowsN_mem.mp hr).1
    refine ⟨fun e => by rw [e] at this; simp at this; omega, by omega⟩
  · exact q
def C_has : Ct := fun xs S Q => ∃ (l : List Int) (t : Told), xs = [rowF l, tdF1 t] ∧ l.length = t.length ∧ l.length ≤ 1000 ∧ Q (.bl (fits l t)) S
theorem mono_C_has : MonoC C_has := fun xs S Q Q' k ⟨l, t, e, h1, h2, q⟩ => ⟨l, t, e, h1, h2, k _ _ q⟩
theorem fits_all {l : List Int} {t : Told} (h : l.length = t.length) : fits l t = (List.range l.length).all fun k => decide (t.getD k none = none) || decide (t.getD k none = some (l.getD k 0)) := by
  rw [Bool.eq_iff_iff, fits_iff, List.all_eq_true]
  refine ⟨fun ⟨_, h2⟩ k hk => ?_, fun h2 => ⟨h, fun k hk => ?_⟩⟩
  · rw [Bool.or_eq_true]
    exact (h2 k (List.mem_range.mp hk)).imp decide_eq_true decide_eq_true
  · have := h2 k (List.mem_range.mpr hk)
    rw [Bool.or_eq_true] at this
    exact this.imp of_decide_eq_true of_decide_eq_true
theorem isNon_cF (o : Option Int) : isNon (cF o) = decide (o = none) := by cases o <;> rfl
theorem eqF_cc (a b : Option Int) : eqF (cF a) (cF b) = decide (a = b) := by
  cases b with
  | some j => exact eqF_cF a j
  | none =>
    cases a with
    | none => decide +kernel
    | some i =>
      rw [decide_eq_false (by simp)]
      unfold eqF cF
      rw [py, py, PyData.eqv] <;> simp
theorem at_row {l : List Int} {i : Nat} (h : i < l.length) : atI (l.map F.int) (i : Int) = some (.int (l.getD i 0)) := by
  rw [atI_cast, List.getElem?_map, List.getElem?_eq_getElem h, List.getD_eq_getElem?_getD, List.getElem?_eq_getElem h]
  rfl
theorem sp_has (fs : List F) (S : Sto) (Q) (h : C_has fs S Q) : fs.length = 2 ∧ w__law_has { nx := fun _ S' => Q .non S', rt := fun d S' => Q d S' } (startF 3 fs) S := by
  obtain ⟨l, t, rfl, hl, h1, q⟩ := h
  refine ⟨rfl, ?_⟩
  show w__law_has _ [some (rowF l), some (tdF1 t), none] S
  unfold w__law_has tdF1 rowF
  simp [-sSeq_ev, -compL_cons, -forL_cons]
  refine ⟨by omega, mil (by omega), ?_⟩
  rw [rngL_map]
  refine compL_mapT (fun i : Nat => F.int (0 + (i : Int))) (fun k => .bl (decide (t.getD k none = none) || decide (t.getD k none = some (l.getD k 0)))) trivial (List.range l.length) _ (fun k hk Q2 q2 => ?_) ?_
  · have hk := List.mem_range.mp hk
    try simp [-sSeq_ev, -compL_cons, -forL_cons]
    rw [at_td (by omega)]
    dsimp only
    rw [isNon_cF]
    by_cases c : t.getD k none = none
    · rw [if_pos (decide_eq_true c)]
      rw [decide_eq_true c, Bool.true_or] at q2
      exact q2
    · rw [if_neg (by simpa using c), at_row hk]
      rw [decide_eq_false c, Bool.false_or] at q2
      dsimp only
      rw [eqF_cF]
      exact ⟨okF_cF _, okF_int, q2⟩
  · rw [List.nil_append, all_bl]
    try simp [-sSeq_ev, -compL_cons, -forL_cons]
    rw [fits_all hl] at q
    exact q
theorem app_inj {x : Int} {a b : List Int} (h : a ++ [x] = b ++ [x]) : a = b := List.append_cancel_right h
theorem rowsN_nodup : ∀ n, (rowsN n).Nodup
  | 0 => by unfold rowsN; simp
  | n + 1 => by
    rw [rowsN, List.nodup_append]
    have ih := rowsN_nodup n
    have inj : ∀ x : Int, ((rowsN n).map (· ++ [x])).Nodup := fun x => by
      unfold List.Nodup
      rw [List.pairwise_map]
      exact List.Pairwise.imp (fun {a b} hab e => hab (app_inj e)) ih
    refine ⟨inj 0, inj 1, fun a ha b hb e => ?_⟩
    obtain ⟨k, _, rfl⟩ := List.mem_map.mp ha
    obtain ⟨j, _, rfl⟩ := List.mem_map.mp hb
    have := (List.append_inj' e rfl).2
    exact absurd this (by decide)
/-- the law's list is the one in order -/
theorem due_is {clue : List Int} {told : Told} (g : Okay clue told) : ((rowsN told.length).mergeSort leR).filter (fun l => decide (clueR 0 l = clue) && fits l told) = suf clue told 0 0 := by
  have nd1 : (((rowsN told.length).mergeSort leR).filter (fun l => decide (clueR 0 l = clue) && fits l told)).Nodup := ((List.mergeSort_perm _ _).nodup_iff.mpr (rowsN_nodup _)).filter _
  have so := suf_sorted g _ 0 0 (Nat.le_refl _) (Nat.zero_le _) (Nat.zero_le _)
  have nd2 : (suf clue told 0 0).Nodup := List.Pairwise.imp (fun {a b} hab e => by subst e; exact List.lt_irrefl _ hab) so
  refine srt_uniq (le := fun a b => leR a b = true) (fun _ _ => leR_anti) ((List.perm_ext_iff_of_nodup nd1 nd2).mpr fun l => ?_) ((sortR_pw _).filter _) (so.imp fun {a b} hab => decide_eq_true (List.le_of_lt hab))
  rw [List.mem_filter, List.mem_mergeSort, rowsN_mem, suf_mem g _ 0 0 (Nat.le_refl _) (Nat.zero_le _) (Nat.zero_le _), Bool.and_eq_true, decide_eq_true_eq]
  constructor
  · rintro ⟨⟨h1, h2⟩, h3, h4⟩
    exact ln_iff.mpr ⟨h2, h3, h4⟩
  · intro h
    obtain ⟨h1, h2, h3⟩ := ln_iff.mp h
    exact ⟨⟨fits_len h3, h1⟩, h2, h3⟩
def fstF (clue : List Int) (told : Told) : F := match (suf clue told 0 0)[0]? with | some l => rowF l | none => .non
def C_first_line : Ct := fun xs S Q => ∃ (clue : List Int) (told : Told), xs = [rowF clue, tdF1 told] ∧ Okay clue told ∧ Q (fstF clue told) S
theorem mono_C_first_line : MonoC C_first_line := fun xs S Q Q' k ⟨c, t, e, h1, q⟩ => ⟨c, t, e, h1, k _ _ q⟩
theorem sp_first_line {x : Addr} (fs : List F) (S : Sto) (Q) (h : C_first_line fs S Q) : fs.length = 2 ∧ w_first_line C_count_line (C_line_at x) { nx := fun _ S' => Q .non S', rt := fun d S' => Q d S' } (startF 2 fs) S := by
  obtain ⟨clue, told, rfl, g, q⟩ := h
  refine ⟨rfl, ?_⟩
  show w_first_line _ _ _ [some (rowF clue), some (tdF1 told)] S
  unfold w_first_line
  try simp [-sSeq_ev, -compL_cons, -forL_cons]
  refine ⟨clue, told, rfl, g, ?_⟩
  try simp [-sSeq_ev, -compL_cons, -forL_cons]
  unfold fstF at q
  by_cases c : 0 < cnt clue told 0 0
  · rw [if_pos (by omega)]
    refine ⟨clue, told, 0, rfl, g, fun i l e hl => ?_, fun e => absurd e (by omega)⟩
    have e : i = 0 := by omega
    subst e
    rw [hl] at q
    exact q
  · rw [if_neg (by omega)]
    rw [show suf clue told 0 0 = [] from List.eq_nil_of_length_eq_zero (by show cnt clue told 0 0 = 0; omega)] at q
    exact q
def nthF (clue : List Int) (told : Told) (n : Int) : F := if n < 0 then .tup [.str ("none" : Str), .non] else match (suf clue told 0 0)[n.toNat]? with | some l => .tup [.str ("told" : Str), rowF l] | none => .tup [.str ("none" : Str), .non]
def C_toldX : Ct := fun xs S Q => ∃ (clue : List Int) (told : Told) (n : Int), xs = [rowF clue, tdF1 told, .int n] ∧ Okay clue told ∧ Q (nthF clue told n) S
theorem mono_C_toldX : MonoC C_toldX := fun xs S Q Q' k ⟨c, t, n, e, h1, q⟩ => ⟨c, t, n, e, h1, k _ _ q⟩
theorem sp_toldX {x x1 x2 x3 x4 : Addr} (fs : List F) (S : Sto) (Q) (h : C_toldX fs S Q) : fs.length = 3 ∧ w__law_told x x1 x2 x3 x4 (C_line_at x) { nx := fun _ S' => Q .non S', rt := fun d S' => Q d S' } (startF 5 fs) S := by
  obtain ⟨clue, told, n, rfl, g, q⟩ := h
  refine ⟨rfl, ?_⟩
  show w__law_told _ _ _ _ _ _ _ [some (rowF clue), some (tdF1 told), some (.int n), none, none] S
  unfold w__law_told
  walk_at "nx"
  walk_at "nx"
  refine ⟨clue, told, n, rfl, g, fun i l e hl => ?_, fun e => ?_⟩
  · subst e
    unfold nthF at q
    rw [if_neg (by omega), Int.toNat_natCast, hl] at q
    try simp [-sSeq_ev, -compL_cons, -forL_cons]
    exact q
  · refine ⟨rfl, fun a _ => ?_⟩
    try simp [-sSeq_ev, -compL_cons, -forL_cons]
    unfold nthF at q
    by_cases c : n < 0
    · rw [if_pos c] at q
      exact q
    · rw [if_neg c, List.getElem?_eq_none (by show cnt clue told 0 0 ≤ _; omega)] at q
      exact q
end DL.K58

set_option maxHeartbeats 4000000
/-! of lines of which nothing is told: how many, the first, the last -/
namespace DL.K58
open PySem PySem.Spec PyProof.Rows L2 DL
def nd : List Nat → Nat
  | [] => 0
  | r :: rs => r + 1 + nd rs
def toI (rs : List Nat) : List Int := rs.map fun r : Nat => (r : Int)
def noTold (n : Nat) : Told := List.replicate n none
def bin : Nat → Nat → Nat
  | _, 0 => 1
  | 0, _ + 1 => 0
  | n + 1, k + 1 => bin n k + bin n (k + 1)
theorem bin_zero : ∀ n, bin n 0 = 1
  | 0 => rfl
  | _ + 1 => rfl
theorem bin_lt : ∀ {n k : Nat}, n < k → bin n k = 0
  | 0, k + 1, _ => rfl
  | n + 1, k + 1, h => by rw [bin, bin_lt (n := n) (by omega), bin_lt (n := n) (by omega)]
def alls : Nat → List Nat → List (List Int)
  | n, [] => [List.replicate n 0]
  | 0, _ :: _ => []
  | n + 1, r :: rs => (alls n (r :: rs)).map (0 :: ·) ++ (if n + 1 < r then [] else if r = n + 1 then (if rs = [] then [List.replicate r 1] else []) else (alls (n - r) rs).map (List.replicate r 1 ++ 0 :: ·))
def lineOf (rs : List Nat) : List Int := (rs.flatMap fun r => List.replicate r (1 : Int) ++ [0]).dropLast
theorem nd_sum : ∀ rs : List Nat, rs.sum + rs.length = nd rs
  | [] => rfl
  | r :: rs => by
    have := nd_sum rs
    rw [List.sum_cons, List.length_cons, nd]
    omega
theorem alls_len : ∀ (n : Nat) (rs : List Nat), (∀ r ∈ rs, 1 ≤ r) → (alls n rs).length = bin (n + 1 - rs.sum) rs.length
  | n, [], _ => by
    rw [alls]
    exact (bin_zero _).symm
  | 0, r :: rs, h => by
    have := h r (List.mem_cons_self ..)
    rw [alls, List.sum_cons, List.length_cons, show 0 + 1 - (r + rs.sum) = 0 by omega]
    rfl
  | n + 1, r :: rs, h => by
    have h1 := h r (List.mem_cons_self ..)
    have ih := alls_len n (r :: rs) h
    rw [alls, List.length_append, List.length_map, ih, List.sum_cons, List.length_cons]
    split
    · rw [show n + 1 + 1 - (r + rs.sum) = 0 by omega, show n + 1 - (r + rs.sum) = 0 by omega]
      rfl
    · split
      · subst r
        split
        · rename_i _ e
          subst e
          rw [show n + 1 + 1 - (n + 1 + [].sum) = 1 by simp, show n + 1 - (n + 1 + [].sum) = 0 by simp]
          rfl
        · rename_i _ e
          have : 1 ≤ rs.sum := by
            cases rs with
            | nil => exact absurd rfl e
            | cons x xs =>
              have := h x (by simp)
              rw [List.sum_cons]
              omega
          rw [show n + 1 + 1 - (n + 1 + rs.sum) = 0 by omega, show n + 1 - (n + 1 + rs.sum) = 0 by omega]
          rfl
      · have ih2 := alls_len (n - r) rs fun x hx => h x (List.mem_cons_of_mem _ hx)
        rw [List.length_map, ih2]
        by_cases c : r + rs.sum ≤ n + 1
        · rw [show n + 1 + 1 - (r + rs.sum) = (n + 1 - (r + rs.sum)) + 1 by omega, bin, show n - r + 1 - rs.sum = n + 1 - (r + rs.sum) by omega]
          omega
        · rw [show n + 1 + 1 - (r + rs.sum) = 0 by omega, show n + 1 - (r + rs.sum) = 0 by omega, show n - r + 1 - rs.sum = 0 by omega]
          have : 1 ≤ rs.length := by
            cases rs with
            | nil => simp at c; omega
            | cons x xs => simp
          rw [bin_lt (n := 0) (by omega), bin_lt (n := 0) (by omega)]
termination_by n rs => (rs.length, n)
theorem alls_none {n : Nat} {rs : List Nat} (h : ∀ r ∈ rs, 1 ≤ r) (h2 : n + 1 < nd rs) : alls n rs = [] := by
  refine List.eq_nil_of_length_eq_zero ?_
  rw [alls_len n rs h]
  have := nd_sum rs
  have : 1 ≤ rs.length := by
    cases rs with
    | nil => rw [nd] at h2; omega
    | cons x xs => simp
  exact bin_lt (by omega)
theorem lineOf_one (r : Nat) : lineOf [r] = List.replicate r 1 := by
  unfold lineOf
  rw [List.flatMap_cons, List.flatMap_nil, List.append_nil, List.dropLast_concat]
theorem lineOf_cons {r : Nat} {rs : List Nat} (h : rs ≠ []) : lineOf (r :: rs) = List.replicate r 1 ++ 0 :: lineOf rs := by
  unfold lineOf
  rw [List.flatMap_cons]
  have hne : (rs.flatMap fun r => List.replicate r (1 : Int) ++ [0]) ≠ [] := by
    cases rs with
    | nil => exact absurd rfl h
    | cons x xs => rw [List.flatMap_cons]; simp
  rw [List.dropLast_append_of_ne_nil hne]
  simp
theorem alls_first : ∀ (n : Nat) (rs : List Nat), (∀ r ∈ rs, 1 ≤ r) → nd rs ≤ n + 1 → (alls n rs)[0]? = some (List.replicate (n - (nd rs - 1)) 0 ++ lineOf rs)
  | n, [], _, _ => by
    rw [alls]
    show some (List.replicate n (0 : Int)) = some (List.replicate (n - (0 - 1)) 0 ++ [])
    simp
  | 0, r :: rs, h, h2 => by
    have := h r (List.mem_cons_self ..)
    rw [nd] at h2
    omega
  | n + 1, r :: rs, h, h2 => by
    have h1 := h r (List.mem_cons_self ..)
    have hr : ∀ x ∈ rs, 1 ≤ x := fun x hx => h x (List.mem_cons_of_mem _ hx)
    rw [alls]
    by_cases c : nd (r :: rs) ≤ n + 1
    · have ih := alls_first n (r :: rs) h c
      rw [List.getElem?_append_left (by rw [List.length_map]; exact (List.getElem?_eq_some_iff.mp ih).1), List.getElem?_map, ih]
      have : 1 ≤ nd (r :: rs) := by rw [nd]; omega
      rw [show n + 1 - (nd (r :: rs) - 1) = (n - (nd (r :: rs) - 1)) + 1 by omega, List.replicate_succ]
      rfl
    · rw [alls_none h (by omega), List.map_nil, List.nil_append]
      have e : nd (r :: rs) = n + 2 := by omega
      rw [e, show n + 1 - (n + 2 - 1) = 0 by omega, List.replicate_zero, List.nil_append]
      rw [nd] at e
      rw [if_neg (by omega)]
      by_cases c2 : rs = []
      · subst c2
        rw [nd] at e
        rw [if_pos (by omega), if_pos rfl, lineOf_one]
        rfl
      · have : 1 ≤ nd rs := by
          cases rs with
          | nil => exact absurd rfl c2
          | cons x xs => rw [nd]; omega
        rw [if_neg (by omega)]
        have ih := alls_first (n - r) rs hr (by omega)
        rw [List.getElem?_map, ih, lineOf_cons c2, show n - r - (nd rs - 1) = 0 by omega]
        rfl
termination_by n rs => (rs.length, n)
theorem alls_last : ∀ (n : Nat) (rs : List Nat), (∀ r ∈ rs, 1 ≤ r) → nd rs ≤ n + 1 → (alls n rs).getLast? = some (lineOf rs ++ List.replicate (n - (nd rs - 1)) 0)
  | n, [], _, _ => by
    rw [alls]
    show some (List.replicate n (0 : Int)) = some ([] ++ List.replicate (n - (0 - 1)) 0)
    simp
  | 0, r :: rs, h, h2 => by
    have := h r (List.mem_cons_self ..)
    rw [nd] at h2
    omega
  | n + 1, r :: rs, h, h2 => by
    have h1 := h r (List.mem_cons_self ..)
    have hr : ∀ x ∈ rs, 1 ≤ x := fun x hx => h x (List.mem_cons_of_mem _ hx)
    rw [nd] at h2
    rw [alls, List.getLast?_append, if_neg (by omega)]
    by_cases c2 : rs = []
    · subst c2
      rw [nd] at h2
      by_cases c3 : r = n + 1
      · rw [if_pos c3, if_pos rfl, lineOf_one]
        show some (List.replicate r (1 : Int)) = _
        rw [show n + 1 - (nd [r] - 1) = 0 by rw [nd, nd]; omega]
        simp
      · rw [if_neg c3, alls, lineOf_one]
        show some (List.replicate r (1 : Int) ++ 0 :: List.replicate (n - r) 0) = _
        rw [show n + 1 - (nd [r] - 1) = (n - r) + 1 by rw [nd, nd]; omega, List.replicate_succ]
    · have : 1 ≤ nd rs := by
        cases rs with
        | nil => exact absurd rfl c2
        | cons x xs => rw [nd]; omega
      rw [if_neg (by omega)]
      have ih := alls_last (n - r) rs hr (by omega)
      rw [List.getLast?_map, ih, lineOf_cons c2]
      show some (List.replicate r (1 : Int) ++ 0 :: (lineOf rs ++ List.replicate (n - r - (nd rs - 1)) 0)) = _
      rw [show n + 1 - (nd (r :: rs) - 1) = n - r - (nd rs - 1) by rw [nd]; omega, List.append_assoc]
      rfl
termination_by n rs => (rs.length, n)
theorem noTold_get (n k : Nat) : (noTold n).getD k none = none := by
  unfold noTold
  rw [List.getD_eq_getElem?_getD, List.getElem?_replicate]
  split <;> rfl
theorem suf_alls {rs : List Nat} {m : Nat} (g : Okay (toI rs) (noTold m)) : ∀ (n a k : Nat), m - a = n → a ≤ m → k ≤ rs.length → suf (toI rs) (noTold m) a k = alls n (rs.drop k)
  | n, a, k, hn, ha, hk => by
    have hp : ∀ r ∈ rs, 1 ≤ r := fun r hr => by
      have := (g.p (r : Int) (List.mem_map.mpr ⟨r, hr, rfl⟩)).1
      omega
    have lm : (noTold m).length = m := List.length_replicate
    have lr : (toI rs).length = rs.length := List.length_map _
    rw [suf_eq g (by omega) (by omega), lm]
    by_cases c : a < m
    · rw [if_pos c]
      obtain ⟨n', rfl⟩ : ∃ n', n = n' + 1 := ⟨n - 1, by omega⟩
      have ih := suf_alls g n' (a + 1) k (by omega) (by omega) hk
      unfold mvs
      rw [lm, if_pos ⟨c, by rw [noTold_get]; simp⟩, lr]
      by_cases ck : k < rs.length
      · rw [if_pos ck]
        have ed : rs.drop k = rs[k] :: rs.drop (k + 1) := List.drop_eq_getElem_cons ck
        have eg : ((toI rs).getD k 0).toNat = rs[k] := by
          unfold toI
          rw [List.getD_eq_getElem?_getD, List.getElem?_map, List.getElem?_eq_getElem ck]
          rfl
        have hr1 := hp _ (List.getElem_mem ck)
        generalize rs[k] = r at ed eg hr1
        have eb : blk (toI rs) (noTold m) a k = if m < a + r then none else if a + r = m then some (a + r) else some (a + r + 1) := by
          unfold blk
          dsimp only
          rw [eg, lm]
          have ea : (((noTold m).drop a).take (a + r - a)).any (fun o => decide (o = some 0)) = false := by
            rw [List.any_eq_false]
            intro o ho
            have := List.eq_of_mem_replicate (List.mem_of_mem_drop (List.mem_of_mem_take ho))
            rw [this]
            decide
          rw [ea, noTold_get]
          simp
        rw [eb, eg, List.flatMap_append, List.flatMap_cons, List.flatMap_nil, List.append_nil]
        dsimp only
        rw [ih, ed, alls]
        congr 1
        by_cases c1 : m < a + r
        · rw [if_pos c1, if_pos (show n' + 1 < r by omega)]
          rfl
        · rw [if_neg c1, if_neg (show ¬ n' + 1 < r by omega)]
          by_cases c2 : a + r = m
          · rw [if_pos c2, if_pos (show r = n' + 1 by omega)]
            dsimp only
            rw [List.flatMap_cons, List.flatMap_nil, List.append_nil]
            dsimp only
            rw [suf_alls g 0 (a + r) (k + 1) (by omega) (by omega) (by omega)]
            have cases0 : alls 0 (rs.drop (k + 1)) = if rs.drop (k + 1) = [] then [[]] else [] := by
              cases rs.drop (k + 1) with
              | nil => rw [alls]; rfl
              | cons x xs => rw [alls]; rfl
            rw [cases0, show a + r - a - r = 0 by omega]
            split
            · simp
            · rfl
          · rw [if_neg c2, if_neg (show ¬ r = n' + 1 by omega)]
            dsimp only
            rw [List.flatMap_cons, List.flatMap_nil, List.append_nil]
            dsimp only
            rw [suf_alls g (n' - r) (a + r + 1) (k + 1) (by omega) (by omega) (by omega), show a + r + 1 - a - r = 1 by omega]
            simp
      · rw [if_neg ck, List.append_nil, List.flatMap_cons, List.flatMap_nil, List.append_nil]
        dsimp only
        rw [ih, List.drop_eq_nil_of_le (by omega), alls, alls, List.replicate_succ]
        rfl
    · rw [if_neg c]
      have e0 : n = 0 := by omega
      subst e0
      unfold base
      rw [lr]
      by_cases ck : k = rs.length
      · rw [if_pos ck, ck, List.drop_length, alls]
        rfl
      · rw [if_neg ck, List.drop_eq_getElem_cons (by omega), alls]
termination_by n => n
end DL.K58

set_option maxHeartbeats 4000000
namespace DL.K58
open PySem PySem.Spec PyProof.Rows L2 DL
local macro_rules | `(tactic| walk_at "nx") => `(tactic| ((try dsimp only); rw [sSeq_ev]; (try simp [-sSeq_ev, -compL_cons, -forL_cons])))
theorem clueR_len : ∀ (s : List Int) (r : Nat), (clueR r s).length ≤ s.length + 1 ∧ ∀ x ∈ clueR r s, x ≤ (s.length + r : Nat)
  | [], r => by
    unfold clueR
    split
    · exact ⟨by simp, fun x hx => by rw [List.mem_singleton.mp hx]; simp⟩
    · exact ⟨by simp, fun x hx => absurd hx List.not_mem_nil⟩
  | c :: l, r => by
    unfold clueR
    obtain ⟨a1, a2⟩ := clueR_len l (r + 1)
    obtain ⟨b1, b2⟩ := clueR_len l 0
    split
    · exact ⟨by simp; omega, fun x hx => by have := a2 x hx; simp; omega⟩
    · split
      · refine ⟨by simp; omega, fun x hx => ?_⟩
        rcases List.mem_cons.mp hx with e | hx
        · rw [e]; simp; omega
        · have := b2 x hx; simp; omega
      · exact ⟨by simp; omega, fun x hx => by have := b2 x hx; simp; omega⟩
theorem okay_of {l : List Int} {told : Told} (hl : l.length ≤ 20) (ht : TdOk told) (hm : told.length ≤ 16) : Okay (clueR 0 l) told := by
  obtain ⟨h1, h2⟩ := clueR_len l 0
  exact ⟨fun x hx => ⟨clueR_pos x hx, by have := h2 x hx; omega⟩, ht, hm, by omega⟩
theorem okF_told {t : Told} (h : t.length ≤ 1000) : fz (tdF1 t) = true ∧ dep (tdF1 t) ≤ 1 := ⟨fz_trF h, dep_tup fun x hx => by
  obtain ⟨o, _, rfl⟩ := List.mem_map.mp hx
  cases o <;> simp [cF, dep]⟩
theorem nthF_in {clue : List Int} {told : Told} {i : Nat} {l : List Int} (h : (suf clue told 0 0)[i]? = some l) : nthF clue told (i : Int) = .tup [.str ("told" : Str), rowF l] := by
  unfold nthF
  rw [if_neg (by omega), Int.toNat_natCast, h]
theorem nthF_out {clue : List Int} {told : Told} {n : Int} (h : n < 0 ∨ (cnt clue told 0 0 : Int) ≤ n) : nthF clue told n = .tup [.str ("none" : Str), .non] := by
  unfold nthF
  by_cases c : n < 0
  · rw [if_pos c]
  · rw [if_neg c, List.getElem?_eq_none (by show cnt clue told 0 0 ≤ _; omega)]
theorem told_fz {l : List Int} (h : l.length ≤ 1000) : fz (.tup [.str ("told" : Str), rowF l]) = true ∧ dep (.tup [.str ("told" : Str), rowF l]) ≤ 2 := by
  have z := fz_row (r := l) (by omega)
  have d := dep_row l
  refine ⟨fz_tup_of (by simp) fun x hx => ?_, dep_tup fun x hx => ?_⟩
  · simp at hx
    rcases hx with e | e
    · rw [e]; decide +kernel
    · rw [e]; exact z
  · simp at hx
    rcases hx with e | e
    · rw [e]; exact Nat.zero_le _
    · rw [e]; exact d
theorem none_fz : fz (.tup [.str ("none" : Str), .non]) = true ∧ dep (.tup [.str ("none" : Str), .non]) ≤ 2 := by decide +kernel
def C_fine : Ct := fun xs S Q => ∃ b c, ∃ (clue : List Int) (told : Told), xs = [.loc b, rowF clue, tdF1 told] ∧ BoxAt S b c ∧ Okay clue told ∧ 1 ≤ told.length ∧ told.length ≤ 10 ∧ ∀ S', BoxAt S' b c → Fr S S' b c → Q (.bl true) S'
theorem mono_C_fine : MonoC C_fine := fun xs S Q Q' k ⟨b, c, l, t, e, h1, h2, h3, h4, q⟩ => ⟨b, c, l, t, e, h1, h2, h3, h4, fun S' a b => k _ _ (q S' a b)⟩
theorem sp_fine (fs : List F) (S : Sto) (Q) (h : C_fine fs S Q) : fs.length = 3 ∧ w__law_fine C_count_line C_first_line C_number_of C_draw (C_same 8) C_clue C_lines C_has C_toldX { nx := fun _ S' => Q .non S', rt := fun d S' => Q d S' } (startF 8 fs) S := by
  obtain ⟨b, c, clue, told, rfl, hb, g, h1, h2, q⟩ := h
  refine ⟨rfl, ?_⟩
  show w__law_fine _ _ _ _ _ _ _ _ _ _ [some (.loc b), some (rowF clue), some (tdF1 told), none, none, none, none, none] S
  unfold w__law_fine
  have gl := g.l
  walk_at "nx"
  refine ⟨told.length, rfl, h1, h2, ?_⟩
  have lL : ((rowsN told.length).mergeSort leR).length ≤ 1024 := by
    rw [List.length_mergeSort, rowsN_len]
    exact pow10 h2
  have mL : ∀ l, l ∈ (rowsN told.length).mergeSort leR ↔ l.length = told.length ∧ ∀ c ∈ l, isB c := fun l => by rw [List.mem_mergeSort]; exact rowsN_mem
  simp only [onIt_lst]
  refine ⟨by rw [List.length_map]; exact mil (by omega), ?_⟩
  have hdue := due_is g
  have hfl := List.length_filter_le (fun l => decide (clueR 0 l = clue) && fits l told) ((rowsN told.length).mergeSort leR)
  rw [hdue] at hfl
  generalize (rowsN told.length).mergeSort leR = Ls at *
  refine compL_filterT rowF (fun l => decide (clueR 0 l = clue) && fits l told) rowF trivial Ls _ (fun l hl A N hA hN => ?_) ?_
  · obtain ⟨l1, l2⟩ := (mL l).mp hl
    obtain ⟨c1, c2⟩ := clueR_len l 0
    try simp [-sSeq_ev, -compL_cons, -forL_cons]
    refine ⟨l, .inl rfl, by omega, ?_⟩
    try simp [-sSeq_ev, -compL_cons, -forL_cons]
    refine ⟨okF_row (by omega), okF_row (by omega), ?_⟩
    rw [eqF_row]
    by_cases c : clueR 0 l = clue
    · rw [decide_eq_true c, Bool.true_and] at hA hN
      rw [if_pos (decide_eq_true c)]
      refine ⟨l, told, rfl, l1, by omega, ?_⟩
      cases ef : fits l told with
      | true => exact hA ef
      | false => exact hN ef
    · rw [decide_eq_false c, Bool.false_and] at hN
      rw [if_neg (by simpa using c)]
      exact hN rfl
  rw [List.nil_append, hdue]
  have hcn : (suf clue told 0 0).length = cnt clue told 0 0 := rfl
  have hlen : ∀ l ∈ suf clue told 0 0, l.length ≤ 10 := fun l hl => by
    have := suf_len ((suf_mem g _ 0 0 (Nat.le_refl _) (Nat.zero_le _) (Nat.zero_le _) l).mp hl)
    omega
  have hfst : fstF clue told = match (suf clue told 0 0)[0]? with | some l => rowF l | none => .non := rfl
  have hin := fun i l => nthF_in (clue := clue) (told := told) (i := i) (l := l)
  have hout := fun n => nthF_out (clue := clue) (told := told) (n := n)
  generalize hFs : suf clue told 0 0 = Fs at *
  refine seq_via (fun ρ S' => S' = S ∧ ρ = [some (.loc b), some (rowF clue), some (tdF1 told), some (.lst (Fs.map rowF)), none, none, none, none]) (fun N hN => ?_) (fun ρ S2 ⟨eS, eρ⟩ => ?_)
  · have hN := hN _ _ ⟨rfl, rfl⟩
    simp [-sSeq_ev, -compL_cons, -forL_cons]
    refine ⟨clue, told, rfl, g, ?_⟩
    try simp [-sSeq_ev, -compL_cons, -forL_cons]
    rw [← hcn]
    refine call_same rfl rfl (Nat.zero_le _) ?_
    try simp [-sSeq_ev, -compL_cons, -forL_cons]
    refine ⟨clue, told, rfl, g, ?_⟩
    have okL : okF (.lst (Fs.map rowF)) = true := okF_of (fz_lst_of (by rw [List.length_map]; omega) fun x hx => by
      obtain ⟨l, hl, rfl⟩ := List.mem_map.mp hx
      exact fz_row (by have := hlen l hl; omega)) (Nat.le_trans (dep_lst (n := 1) fun x hx => by
      obtain ⟨l, hl, rfl⟩ := List.mem_map.mp hx
      exact dep_row l) (by decide))
    dsimp only
    refine ⟨okL, by decide +kernel, ?_⟩
    rw [eqF_lnil, hfst]
    cases Fs with
    | nil =>
      rw [if_pos (by rfl)]
      refine call_same rfl rfl (Nat.zero_le _) ?_
      try simp [-sSeq_ev, -compL_cons, -forL_cons]
      exact hN
    | cons l0 Fs =>
      rw [if_neg (by simp)]
      refine call_same rfl (fz_row (by have := hlen l0 (by simp); omega)) (Nat.le_trans (dep_row l0) (by decide)) ?_
      try simp [-sSeq_ev, -compL_cons, -forL_cons]
      exact hN
  subst eS eρ
  let R : Slots → Prop := fun ρ => ∃ o4 o5 o6 o7 : Option F, ρ = [some (.loc b), some (rowF clue), some (tdF1 told), some (.lst (Fs.map rowF)), o4, o5, o6, o7]
  refine seq_via (fun ρ S' => (BoxAt S' b c ∧ Fr S2 S' b c) ∧ R ρ) (fun N hN => ?_) (fun ρ S3 ⟨⟨hb3, hf3⟩, o4, o5, o6, o7, eρ⟩ => ?_)
  · simp [-sSeq_ev, -compL_cons, -forL_cons]
    refine ⟨⟨by decide, by decide, by decide⟩, ?_⟩
    refine compL_inv (fun acc S' => (BoxAt S' b c ∧ Fr S2 S' b c) ∧ ∃ ls : List Int, acc = ls.map F.int) _ _ _ (fun _ _ _ => trivial)
      (fun x hx acc S4 Q4 ⟨⟨hb4, hf4⟩, ls, els⟩ q4 => ?_) ⟨⟨hb, Fr.refl⟩, [], rfl⟩ (fun acc' S7 ⟨⟨hb7, hf7⟩, ls, els⟩ hlen => ?_)
    · try simp [-sSeq_ev, -compL_cons, -forL_cons]
      refine call_draw hb4 (by omega) (by omega) fun d S5 d1 hb5 hf5 => ?_
      exact q4 _ _ ⟨⟨hb5, hf4.trans hf5⟩, ls ++ [(d : Int)], by rw [els]; simp⟩
    subst els
    refine ⟨by rw [show (ls.map F.int).length = 5 by simpa using hlen]; exact mil (n := 10) (by decide), ?_⟩
    clear hlen
    rw [show F.int 0 :: F.int ((Fs.length : Int) - 1) :: F.int (Fs.length : Int) :: F.int (-1) :: F.int 1000000000 :: ls.map F.int = ((0 : Int) :: ((Fs.length : Int) - 1) :: (Fs.length : Int) :: (-1) :: 1000000000 :: ls).map F.int by simp]
    generalize ((0 : Int) :: ((Fs.length : Int) - 1) :: (Fs.length : Int) :: (-1) :: 1000000000 :: ls) = ns
    refine forL_list F.int ns (fun _ ρ S' => (BoxAt S' b c ∧ Fr S2 S' b c) ∧ R ρ) ⟨⟨hb7, hf7⟩, _, _, _, _, rfl⟩ (fun _ _ _ _ => trivial) (fun _ n _ _ ρ S' M ⟨⟨hb8, hf8⟩, o4, o5, o6, o7, eρ⟩ hM => ?_) (fun ρ S' h => hN _ _ h)
    subst eρ
    try simp [-sSeq_ev, -compL_cons, -forL_cons]
    walk_at "nx"
    by_cases c : n < 0
    · rw [if_neg (by omega)]
      walk_at "nx"
      refine ⟨clue, told, n, rfl, g, ?_⟩
      rw [hout n (by omega)]
      refine call_same rfl none_fz.1 (Nat.le_trans none_fz.2 (by decide)) ?_
      try simp [-sSeq_ev, -compL_cons, -forL_cons]
      refine ⟨by decide +kernel, by decide +kernel, ?_⟩
      rw [if_neg (by decide +kernel)]
      exact hM _ _ ⟨⟨hb8, hf8⟩, _, _, _, _, rfl⟩
    rw [if_pos (by omega)]
    by_cases c2 : (Fs.length : Int) ≤ n
    · rw [if_neg (by omega)]
      walk_at "nx"
      refine ⟨clue, told, n, rfl, g, ?_⟩
      rw [hout n (by omega)]
      refine call_same rfl none_fz.1 (Nat.le_trans none_fz.2 (by decide)) ?_
      try simp [-sSeq_ev, -compL_cons, -forL_cons]
      refine ⟨by decide +kernel, by decide +kernel, ?_⟩
      rw [if_neg (by decide +kernel)]
      exact hM _ _ ⟨⟨hb8, hf8⟩, _, _, _, _, rfl⟩
    rw [if_pos (by omega)]
    obtain ⟨i, rfl⟩ : ∃ i : Nat, n = (i : Int) := ⟨n.toNat, by omega⟩
    have hi : i < Fs.length := by omega
    have ei : Fs[i]? = some Fs[i] := List.getElem?_eq_getElem hi
    have el := hlen _ (List.getElem_mem hi)
    have e2 := hin i _ ei
    have ea : atI (Fs.map rowF) (i : Int) = some (rowF Fs[i]) := by rw [atI_cast, List.getElem?_map, ei]; rfl
    generalize Fs[i] = l at *
    have tz := told_fz (l := l) (by omega)
    rw [ea]
    walk_at "nx"
    refine ⟨clue, told, _, rfl, g, ?_⟩
    rw [e2]
    refine call_same rfl tz.1 (Nat.le_trans tz.2 (by decide)) ?_
    try simp [-sSeq_ev, -compL_cons, -forL_cons]
    refine ⟨by decide +kernel, ?_⟩
    rw [ea]
    dsimp only
    refine ⟨clue, told, l, i, rfl, g, by rw [hFs]; exact ei, ?_⟩
    refine call_same rfl rfl (Nat.zero_le _) ?_
    try simp [-sSeq_ev, -compL_cons, -forL_cons]
    exact hM _ _ ⟨⟨hb8, hf8⟩, _, _, _, _, rfl⟩
  subst eρ
  try simp [-sSeq_ev, -compL_cons, -forL_cons]
  exact q _ hb3 hf3
end DL.K58

set_option maxHeartbeats 4000000
namespace DL.K58
open PySem PySem.Spec PyProof.Rows L2 DL
local macro_rules | `(tactic| walk_at "nx") => `(tactic| ((try dsimp only); rw [sSeq_ev]; (try simp [-sSeq_ev, -compL_cons, -forL_cons])))
theorem nd_app : ∀ {ys : List Nat} {r : Nat}, nd (ys ++ [r]) = nd ys + r + 1
  | [], r => by simp [nd]
  | y :: ys, r => by
    have := nd_app (ys := ys) (r := r)
    simp [nd, this]
    omega
/-- the box, and a list of the def's own -/
structure At2 (S S' : Sto) (b c p : Addr) (l : List F) : Prop where
  bx : BoxAt S' b c
  at_ : S' p = some l
  fr : ∀ a, a ≠ b → a ≠ c → a ≠ p → S' a = S a
theorem At2.draw {S S' S2 : Sto} {b c p : Addr} {l : List F} (h : At2 S S' b c p l) (hp : S p = none) (hS : BoxAt S b c) (h2 : BoxAt S2 b c) (hf : Fr S' S2 b c) : At2 S S2 b c p l :=
  have pb : p ≠ b := fun e => hS.b (by rw [← e]; exact hp)
  have pc : p ≠ c := fun e => hS.c (by rw [← e]; exact hp)
  ⟨h2, by rw [hf p pb pc]; exact h.at_, fun a h1 h2 h3 => by rw [hf a h1 h2, h.fr a h1 h2 h3]⟩
theorem At2.upd {S S' : Sto} {b c p : Addr} {l m : List F} (h : At2 S S' b c p l) (hp : S p = none) (hS : BoxAt S b c) : At2 S (updS S' p m) b c p m :=
  have pb : p ≠ b := fun e => hS.b (by rw [← e]; exact hp)
  have pc : p ≠ c := fun e => hS.c (by rw [← e]; exact hp)
  ⟨h.bx.upd pb pc, updS_same, fun a h1 h2 h3 => by rw [updS_ne h3, h.fr a h1 h2 h3]⟩
theorem nd_len : ∀ rs : List Nat, (∀ r ∈ rs, 1 ≤ r) → rs.length ≤ nd rs ∧ ∀ r ∈ rs, r ≤ nd rs
  | [], _ => ⟨Nat.le_refl _, fun r hr => absurd hr List.not_mem_nil⟩
  | r :: rs, h => by
    obtain ⟨h1, h2⟩ := nd_len rs fun x hx => h x (List.mem_cons_of_mem _ hx)
    rw [List.length_cons, nd]
    refine ⟨by omega, fun x hx => ?_⟩
    rcases List.mem_cons.mp hx with e | hx
    · omega
    · have := h2 x hx; omega
def pj (n : Int) : Nat → Int
  | 0 => 1
  | j + 1 => pj n j * (n - (j : Int)) / ((j : Int) + 1)
theorem pj_all : ((List.range 18).all fun n => (List.range 18).all fun j => decide (0 ≤ pj (n : Int) j) && (decide (pj (n : Int) j ≤ 100000) && (decide (n < j) || decide (pj (n : Int) j = (bin n j : Int))))) = true := by decide +kernel
theorem pj_ok {n j : Nat} (hn : n ≤ 17) (hj : j ≤ 17) : 0 ≤ pj (n : Int) j ∧ pj (n : Int) j ≤ 100000 ∧ (j ≤ n → pj (n : Int) j = (bin n j : Int)) := by
  have h := List.all_eq_true.mp (List.all_eq_true.mp pj_all n (List.mem_range.mpr (by omega))) j (List.mem_range.mpr (by omega))
  rw [Bool.and_eq_true, Bool.and_eq_true, decide_eq_true_eq, decide_eq_true_eq, Bool.or_eq_true, decide_eq_true_eq, decide_eq_true_eq] at h
  exact ⟨h.1, h.2.1, fun q => h.2.2.resolve_left (by omega)⟩
theorem toI_sum : ∀ rs : List Nat, (toI rs).sum = (rs.sum : Int)
  | [] => rfl
  | r :: rs => by
    have ih := toI_sum rs
    unfold toI at ih ⊢
    rw [List.map_cons, List.sum_cons, List.sum_cons, ih]
    omega
@[simp, simp ↓] theorem cSum_row (t : List Int) (S : Sto) (Q : F → Sto → Prop) : cSum [rowF t] S Q = Q (.int t.sum) S := by unfold rowF; simp
def C_choose : Ct := fun xs S Q => ∃ n k : Nat, xs = [.int (n : Int), .int (k : Int)] ∧ n ≤ 17 ∧ k ≤ n ∧ Q (.int (bin n k : Int)) S
theorem mono_C_choose : MonoC C_choose := fun xs S Q Q' k ⟨n, j, e, h1, h2, q⟩ => ⟨n, j, e, h1, h2, k _ _ q⟩
theorem sp_choose (fs : List F) (S : Sto) (Q) (h : C_choose fs S Q) : fs.length = 2 ∧ w__law_choose { nx := fun _ S' => Q .non S', rt := fun d S' => Q d S' } (startF 4 fs) S := by
  obtain ⟨n, k, rfl, hn, hk, q⟩ := h
  refine ⟨rfl, ?_⟩
  show w__law_choose _ [some (.int (n : Int)), some (.int (k : Int)), none, none] S
  unfold w__law_choose
  walk_at "nx"
  refine seq_via (fun ρ S' => S' = S ∧ ∃ o3, ρ = [some (.int (n : Int)), some (.int (k : Int)), some (.int (pj n k)), o3]) (fun N hN => ?_) (fun ρ S' ⟨eS, o3, eρ⟩ => ?_)
  · simp [-sSeq_ev, -compL_cons, -forL_cons]
    refine ⟨by omega, ?_⟩
    refine forL_rng (fun j ρ S' => S' = S ∧ ∃ o3, ρ = [some (.int (n : Int)), some (.int (k : Int)), some (.int (pj n j)), o3]) ⟨rfl, none, rfl⟩ (fun _ _ _ _ => trivial) (fun j hj ρ S' M ⟨eS, o3, eρ⟩ hM => ?_) (fun ρ S' h => hN _ _ h)
    subst eS eρ
    obtain ⟨b1, b2, _⟩ := pj_ok (n := n) (j := j) hn (by omega)
    try simp [-sSeq_ev, -compL_cons, -forL_cons]
    refine ⟨mul_small ⟨by omega, by omega⟩, divOk (by omega) (by omega), ?_⟩
    exact hM _ _ ⟨rfl, _, rfl⟩
  subst eS eρ
  try simp [-sSeq_ev, -compL_cons, -forL_cons]
  rw [(pj_ok (n := n) (j := k) hn (by omega)).2.2 hk]
  exact q
@[simp, simp ↓] theorem oMul_li {xs : List F} {k : Int} {S : Sto} {Q : F → Sto → Prop} : oMul (.lst xs) (.int k) S Q = ((-(2 ^ 63) ≤ k ∧ k < 2 ^ 63 ∧ xs.length * k.toNat ≤ sizeLine) ∧ Q (.lst (List.replicate k.toNat xs).flatten) S) := (rfl)
def C_great : Ct := fun xs S Q => ∃ b c, xs = [.loc b] ∧ BoxAt S b c ∧ ∀ S', BoxAt S' b c → Fr S S' b c → Q (.bl true) S'
theorem mono_C_great : MonoC C_great := fun xs S Q Q' k ⟨b, c, e, h1, q⟩ => ⟨b, c, e, h1, fun S' a b => k _ _ (q S' a b)⟩
theorem sp_great (fs : List F) (S : Sto) (Q) (h : C_great fs S Q) : fs.length = 1 ∧ w__law_great_fine C_count_line C_first_line C_number_of C_draw (C_same 8) C_clue C_toldX C_choose { nx := fun _ S' => Q .non (restr S S'), rt := fun d S' => Q d (restr S S') } (startF 11 fs) S := by
  obtain ⟨b, c, rfl, hb, q⟩ := h
  refine ⟨rfl, ?_⟩
  show w__law_great_fine _ _ _ _ _ _ _ _ _ [some (.loc b), none, none, none, none, none, none, none, none, none, none] S
  unfold w__law_great_fine
  refine seq_via (fun ρ S' => ∃ p, S p = none ∧ S' = updS S p [] ∧ ρ = [some (.loc b), some (.loc p), some (.int 16), none, none, none, none, none, none, none, none]) (fun N hN => ?_) (fun ρ S1 ⟨p, hp, eS, eρ⟩ => ?_)
  · try simp [-sSeq_ev, -compL_cons, -forL_cons]
    exact fun p hp => hN _ _ ⟨p, hp, rfl, rfl⟩
  have h0 : At2 S S1 b c p [] := by
    have pb : p ≠ b := fun e => hb.b (by rw [← e]; exact hp)
    have pc : p ≠ c := fun e => hb.c (by rw [← e]; exact hp)
    subst eS
    exact ⟨hb.upd pb pc, updS_same, fun a _ _ h3 => updS_ne h3⟩
  clear eS
  subst eρ
  refine seq_via (fun ρ S' => ∃ (rs : List Nat) (o3 : Option F), (∀ r ∈ rs, 1 ≤ r) ∧ nd rs ≤ 17 ∧ At2 S S' b c p ((toI rs).map F.int) ∧ ρ = [some (.loc b), some (.loc p), some (.int (16 - (nd rs : Int))), o3, none, none, none, none, none, none, none]) (fun N hN => ?_) (fun ρ S2 ⟨rs, o3, hpos, hnd, h2, eρ⟩ => ?_)
  · refine while_of (fun k ρ S' => ∃ (rs : List Nat) (o3 : Option F), k = 17 - nd rs ∧ (∀ r ∈ rs, 1 ≤ r) ∧ nd rs ≤ 17 ∧ At2 S S' b c p ((toI rs).map F.int) ∧ ρ = [some (.loc b), some (.loc p), some (.int (16 - (nd rs : Int))), o3, none, none, none, none, none, none, none]) (fun k ρ S' M ⟨rs, o3, ek, hpos, hnd, hA, eρ⟩ hM => ?_) (k := 17) ⟨[], none, rfl, fun r hr => absurd hr List.not_mem_nil, Nat.zero_le _, h0, rfl⟩
    subst eρ
    obtain ⟨l1, l2⟩ := nd_len rs hpos
    simp [-sSeq_ev, -compL_cons, -forL_cons]
    by_cases c1 : nd rs < 16
    · rw [if_pos (by omega)]
      refine call_draw hA.bx (by decide) (by decide) fun d0 S2 hd0 hb2 hf2 => ?_
      have hA2 := hA.draw hp hb hb2 hf2
      try simp [-sSeq_ev, -compL_cons, -forL_cons]
      by_cases c3 : 0 < d0
      · rw [if_pos c3]
        rw [sSeq_ev]
        simp [-sSeq_ev, -compL_cons, -forL_cons]
        refine call_draw hA2.bx (by split <;> omega) (by split <;> omega) fun d S3 hd hb3 hf3 => ?_
        have hA3 := hA2.draw hp hb hb3 hf3
        have hd : (d : Int) < 16 - (nd rs : Int) := by split at hd <;> omega
        try simp [-sSeq_ev, -compL_cons, -forL_cons]
        walk_at "nx"
        rw [hA3.at_]
        have ll : (toI rs).length = rs.length := by unfold toI; simp
        refine ⟨rfl, ?_⟩
        dsimp only
        rw [List.length_map]
        refine ⟨by rw [ll]; exact Nat.lt_of_lt_of_le (show rs.length < 1000 by omega) (mil (by decide)), ?_⟩
        refine hM _ _ (17 - nd (rs ++ [d + 1])) (by rw [nd_app]; omega) ⟨rs ++ [d + 1], some (.int (1 + (d : Int))), rfl, fun r hr => ?_, by rw [nd_app]; omega, ?_, ?_⟩
        · rcases List.mem_append.mp hr with h | h
          · exact hpos r h
          · rw [List.mem_singleton.mp h]; omega
        · have : (toI (rs ++ [d + 1])).map F.int = (toI rs).map F.int ++ [F.int (1 + (d : Int))] := by
            unfold toI
            simp
            omega
          rw [this]
          exact hA3.upd hp hb
        · rw [nd_app]
          rw [show (16 : Int) - (nd rs : Int) - (1 + (d : Int)) - 1 = 16 - ((nd rs + (d + 1) + 1 : Nat) : Int) by omega]
      · rw [if_neg c3]
        exact hN _ _ ⟨rs, o3, hpos, hnd, hA2, rfl⟩
    · rw [if_neg (by omega)]
      exact hN _ _ ⟨rs, o3, hpos, hnd, hA, rfl⟩
  subst eρ
  have ll : (toI rs).length = rs.length := by unfold toI; simp
  have nl := nd_len rs hpos
  have ns := nd_sum rs
  rw [sSeq_ev]
  simp [-sSeq_ev, -compL_cons, -forL_cons, h2.at_]
  walk_at "nx"
  have ell : ((toI rs).map F.int).length = rs.length := by rw [List.length_map, ll]
  let A : List Nat → List Int := fun ys => ys.flatMap fun r => List.replicate r (1 : Int) ++ [0]
  have lA : ∀ ys : List Nat, (A ys).length = nd ys := fun ys => by
    induction ys with
    | nil => rfl
    | cons y ys ih =>
      have e : A (y :: ys) = List.replicate y (1 : Int) ++ [0] ++ A ys := List.flatMap_cons
      rw [e, List.length_append, ih, nd]
      simp
  refine seq_via (fun ρ S' => S' = S2 ∧ ∃ o3 : Option F, ρ = [some (.loc b), some (rowF (toI rs)), some (.int (16 - (nd rs : Int))), o3, some (tdF1 (noTold 16)), some (.int (rs.length : Int)), some (.lst ((A rs).map F.int)), none, none, none, none]) (fun N hN => ?_) (fun ρ S' ⟨eS, o3, eρ⟩ => ?_)
  · simp [-sSeq_ev, -compL_cons, -forL_cons]
    rw [show (toI rs).map F.int = rs.map fun r : Nat => F.int (r : Int) by unfold toI; rw [List.map_map]; rfl, ll]
    refine forL_list (fun r : Nat => F.int (r : Int)) rs (fun ys ρ S' => S' = S2 ∧ ∃ o3 : Option F, ρ = [some (.loc b), some (rowF (toI rs)), some (.int (16 - (nd rs : Int))), o3, some (tdF1 (noTold 16)), some (.int (rs.length : Int)), some (.lst ((A ys).map F.int)), none, none, none, none]) ⟨rfl, _, by unfold rowF tdF1 noTold toI; rw [List.map_map]; rfl⟩ (fun _ _ _ _ => trivial) (fun ys r zs ex ρ S' M ⟨eS, o3, eρ⟩ hM => ?_) (fun ρ S' h => hN _ _ h)
    subst eS eρ
    have hr := nl.2 r (by rw [ex]; simp)
    have hys : nd ys ≤ 17 := by
      have e2 : nd (ys ++ r :: zs) = nd ys + nd (r :: zs) := by
        clear ex hM
        induction ys with
        | nil => simp [nd]
        | cons y ys ih => simp [nd, ih]; omega
      rw [ex, e2] at hnd
      omega
    have := lA ys
    try simp [-sSeq_ev, -compL_cons, -forL_cons]
    refine ⟨⟨by omega, mil (by omega)⟩, mil (by omega), mil (by omega), ?_⟩
    refine hM _ _ ⟨rfl, some (.int (r : Int)), ?_⟩
    have : A (ys ++ [r]) = A ys ++ (List.replicate r 1 ++ [0]) := by
      show List.flatMap _ _ = _
      rw [List.flatMap_append, List.flatMap_cons, List.flatMap_nil, List.append_nil]
    rw [this, List.map_append, List.map_append, List.map_replicate]
    rfl
  subst eS eρ
  have g : Okay (toI rs) (noTold 16) := ⟨fun x hx => by
    obtain ⟨r, hr, rfl⟩ := List.mem_map.mp hx
    have h1 := hpos r hr
    have h2 := nl.2 r hr
    omega, fun o ho => .inl (List.eq_of_mem_replicate ho), by decide, by omega⟩
  have hsuf := suf_alls g 16 0 0 rfl (by decide) (Nat.zero_le _)
  rw [List.drop_zero] at hsuf
  have hcnt : cnt (toI rs) (noTold 16) 0 0 = bin (17 - rs.sum) rs.length := by
    show (suf _ _ _ _).length = _
    rw [hsuf, alls_len 16 rs hpos]
  have hfirst := alls_first 16 rs hpos (by omega)
  have hlast := alls_last 16 rs hpos (by omega)
  rw [← hsuf] at hfirst hlast
  have lline : (lineOf rs).length = nd rs - 1 := by
    have : lineOf rs = (A rs).dropLast := rfl
    rw [this, List.length_dropLast, lA]
  have hcpos : 0 < cnt (toI rs) (noTold 16) 0 0 := (List.getElem?_eq_some_iff.mp hfirst).1
  have hcbig : cnt (toI rs) (noTold 16) 0 0 ≤ 100000 := by
    obtain ⟨p1, p2, p3⟩ := pj_ok (n := 17 - rs.sum) (j := rs.length) (by omega) (by omega)
    have := p3 (by omega)
    omega
  have hlast2 : (suf (toI rs) (noTold 16) 0 0)[cnt (toI rs) (noTold 16) 0 0 - 1]? = some (lineOf rs ++ List.replicate (16 - (nd rs - 1)) 0) := by
    rw [← hlast, List.getLast?_eq_getElem?]
    rfl
  -- line
  refine seq_via (fun ρ S'' => S'' = S' ∧ ρ = [some (.loc b), some (rowF (toI rs)), some (.int (16 - (nd rs : Int))), o3, some (tdF1 (noTold 16)), some (.int (rs.length : Int)), some (.lst ((lineOf rs).map F.int)), none, none, none, none]) (fun N hN => ?_) (fun ρ S' ⟨eS, eρ⟩ => ?_)
  · have hN := hN _ _ ⟨rfl, rfl⟩
    simp [-sSeq_ev, -compL_cons, -forL_cons]
    refine ⟨okF_lstI (by rw [lA]; omega), by decide +kernel, ?_⟩
    rw [eqF_lnil]
    by_cases c0 : A rs = []
    · rw [c0, if_pos (by rfl)]
      have : lineOf rs = [] := by show (A rs).dropLast = []; rw [c0]; rfl
      rw [this] at hN
      exact hN
    · rw [if_neg (by simpa using c0), cut_last, ← List.map_dropLast]
      exact hN
  subst eS eρ
  walk_at "nx"
  rw [lline]
  walk_at "nx"
  rw [show (16 : Int) - (toI rs).sum + 1 = ((17 - rs.sum : Nat) : Int) by
    have : (toI rs).sum = (rs.sum : Int) := by
      exact toI_sum rs
    omega]
  refine ⟨17 - rs.sum, rs.length, rfl, by omega, by omega, ?_⟩
  rw [← hcnt]
  have hfstF : fstF (toI rs) (noTold 16) = rowF (List.replicate (16 - (nd rs - 1)) 0 ++ lineOf rs) := by
    unfold fstF
    rw [hfirst]
  have hin := fun i l => nthF_in (clue := toI rs) (told := noTold 16) (i := i) (l := l)
  have hout := fun n => nthF_out (clue := toI rs) (told := noTold 16) (n := n)
  have hmem : ∀ i l, (suf (toI rs) (noTold 16) 0 0)[i]? = some l → l.length = 16 ∧ clueR 0 l = toI rs := fun i l h => by
    have := (suf_mem g _ 0 0 (Nat.le_refl _) (Nat.zero_le _) (Nat.zero_le _) l).mp (List.mem_of_getElem? h)
    exact ⟨by rw [suf_len this]; decide, this.clue⟩
  have hsufl : (suf (toI rs) (noTold 16) 0 0).length = cnt (toI rs) (noTold 16) 0 0 := rfl
  generalize hC : cnt (toI rs) (noTold 16) 0 0 = C at *
  have efree : ((16 : Int) - ((nd rs - 1 : Nat) : Int)).toNat = 16 - (nd rs - 1) := by omega
  have zl : (List.replicate (16 - (nd rs - 1)) (0 : Int) ++ lineOf rs).length ≤ 1000 := by rw [List.length_append, List.length_replicate, lline]; omega
  have zl2 : (lineOf rs ++ List.replicate (16 - (nd rs - 1)) (0 : Int)).length ≤ 1000 := by rw [List.length_append, List.length_replicate, lline]; omega
  have t1 := fz_row (r := List.replicate (16 - (nd rs - 1)) (0 : Int) ++ lineOf rs) (by omega)
  have t2 := told_fz zl2
  walk_at "nx"
  refine ⟨toI rs, noTold 16, rfl, g, ?_⟩
  rw [hC]
  refine call_same rfl rfl (Nat.zero_le _) ?_
  try simp [-sSeq_ev, -compL_cons, -forL_cons]
  refine ⟨toI rs, noTold 16, rfl, g, ?_⟩
  rw [hfstF]
  have sl : 1000 ≤ sizeLine := mil (by decide)
  dsimp only
  refine ⟨⟨by omega, by omega, by omega⟩, by rw [lline]; omega, ?_⟩
  refine call_same (by unfold rowF; simp) t1 (Nat.le_trans (dep_row _) (by decide)) ?_
  try simp [-sSeq_ev, -compL_cons, -forL_cons]
  walk_at "nx"
  refine ⟨toI rs, noTold 16, _, rfl, g, ?_⟩
  rw [show (C : Int) - 1 = ((C - 1 : Nat) : Int) by omega, hin _ _ hlast2]
  try simp [-sSeq_ev, -compL_cons, -forL_cons]
  refine ⟨⟨by omega, by omega, by omega⟩, by rw [lline]; omega, ?_⟩
  refine call_same (by unfold rowF; simp) t2.1 (Nat.le_trans t2.2 (by decide)) ?_
  try simp [-sSeq_ev, -compL_cons, -forL_cons]
  refine ⟨toI rs, noTold 16, _, rfl, g, ?_⟩
  rw [hout (C : Int) (by omega)]
  try simp [-sSeq_ev, -compL_cons, -forL_cons]
  refine ⟨by decide +kernel, ?_⟩
  walk_at "nx"
  refine call_draw h2.bx (by omega) (by omega) fun d S3 hd hb3 hf3 => ?_
  have hd : d < C := by omega
  obtain ⟨l, hl⟩ : ∃ l, (suf (toI rs) (noTold 16) 0 0)[d]? = some l := ⟨_, List.getElem?_eq_getElem (by omega)⟩
  obtain ⟨hll, hlc⟩ := hmem d l hl
  walk_at "nx"
  refine ⟨toI rs, noTold 16, _, rfl, g, ?_⟩
  rw [hin _ _ hl]
  try simp [-sSeq_ev, -compL_cons, -forL_cons]
  refine ⟨by decide +kernel, ?_⟩
  refine ⟨l, .inl rfl, by omega, ?_⟩
  rw [hlc]
  try simp [-sSeq_ev, -compL_cons, -forL_cons]
  refine ⟨okF_row (by omega), ?_⟩
  rw [eqF_row, if_pos (decide_eq_true rfl), if_pos (by omega)]
  refine ⟨toI rs, noTold 16, l, d, rfl, g, hl, ?_⟩
  refine call_same rfl rfl (Nat.zero_le _) ?_
  refine q _ (hb.restr hb3) (fr_restr fun a h1 h3 h4 => ?_)
  have hap : a ≠ p := fun e => by subst e; exact h4 hp
  rw [hf3 a h1 h3, h2.fr a h1 h3 hap]
end DL.K58

set_option maxHeartbeats 4000000
namespace DL.K58
open PySem PySem.Spec PyProof.Rows L2 DL
local macro_rules | `(tactic| walk_at "nx") => `(tactic| ((try dsimp only); rw [sSeq_ev]; (try simp [-sSeq_ev, -compL_cons, -forL_cons])))
def C_law : Ct := fun xs S Q => ∃ ns : List Int, xs = [.rol (ns.map F.int)] ∧ ns.length ≤ 63 ∧ ∀ S', Q (.bl true) S'
theorem mono_C_law : MonoC C_law := fun xs S Q Q' k ⟨n, e, h, q⟩ => ⟨n, e, h, fun S' => k _ _ (q S')⟩
theorem inB_snoc {ls : List Int} (h : ∀ i ∈ ls, isB i) (p : Prop) [Decidable p] : ∀ i ∈ ls ++ [if p then 1 else 0], isB i := fun i hi => by
  rcases List.mem_append.mp hi with h2 | h2
  · exact h i h2
  · rw [List.mem_singleton.mp h2]
    split
    · exact .inr rfl
    · exact .inl rfl
def fitK (ls : List Int) (t : Told) (j : Nat) : Prop := t.length = j ∧ ∀ k, k < j → t.getD k none = none ∨ t.getD k none = some (ls.getD k 0)
theorem fitK_snoc {ls : List Int} {t : Told} {j : Nat} (h : fitK ls t j) {o : Option Int} (ho : o = none ∨ o = some (ls.getD j 0)) : fitK ls (t ++ [o]) (j + 1) := by
  refine ⟨by rw [List.length_append, h.1]; rfl, fun k hk => ?_⟩
  by_cases e : k < j
  · have := h.2 k e
    rw [List.getD_eq_getElem?_getD] at this ⊢
    rw [List.getElem?_append_left (by rw [h.1]; exact e)]
    exact this
  · have e2 : k = j := by omega
    subst e2
    rw [List.getD_eq_getElem?_getD, List.getElem?_append_right (by rw [h.1]; exact Nat.le_refl _), h.1, Nat.sub_self]
    exact ho
theorem told_ok {l : List Int} (hl : ∀ i ∈ l, isB i) {told : Told} (h : ∀ k, k < told.length → told.getD k none = none ∨ told.getD k none = some (l.getD k 0)) (e : told.length = l.length) : TdOk told := fun o ho => by
  obtain ⟨k, hk, rfl⟩ := List.mem_iff_getElem.mp ho
  have := h k hk
  rw [List.getD_eq_getElem?_getD, List.getElem?_eq_getElem hk] at this
  have this : told[k] = none ∨ told[k] = some (l.getD k 0) := this
  rcases this with q | q
  · exact .inl q
  · rw [q]
    have hk2 : k < l.length := by omega
    rw [List.getD_eq_getElem?_getD, List.getElem?_eq_getElem hk2]
    rcases hl _ (List.getElem_mem hk2) with e | e
    · exact .inr (.inl (congrArg some e))
    · exact .inr (.inr (congrArg some e))
theorem sp_law (fs : List F) (S : Sto) (Q) (h : C_law fs S Q) : fs.length = 1 ∧ w_law C_box C_draw C_clue C_fine C_great { nx := fun _ S' => Q .non S', rt := fun d S' => Q d S' } (startF 14 fs) S := by
  obtain ⟨ns, rfl, hns, q⟩ := h
  refine ⟨rfl, ?_⟩
  show w_law _ _ _ _ _ _ [some (.rol (ns.map F.int)), none, none, none, none, none, none, none, none, none, none, none, none, none] S
  unfold w_law
  walk_at "nx"
  refine ⟨ns, rfl, hns, fun b c S1 hb _ _ _ => ?_⟩
  let R : Slots → Prop := fun ρ => ∃ o2 o3 o4 o5 o6 o7 o8 o9 o10 o11 o12 o13 : Option F, ρ = [some (.rol (ns.map F.int)), some (.loc b), o2, o3, o4, o5, o6, o7, o8, o9, o10, o11, o12, o13]
  refine seq_via (fun ρ S' => BoxAt S' b c ∧ R ρ) (fun N hN => ?_) (fun ρ S2 ⟨hb2, o2, o3, o4, o5, o6, o7, o8, o9, o10, o11, o12, o13, eρ⟩ => ?_)
  · simp [-sSeq_ev, -compL_cons, -forL_cons]
    refine forL_inv (fun ρ S' => BoxAt S' b c ∧ R ρ) _ _ _ ⟨hb, _, _, _, _, _, _, _, _, _, _, _, _, rfl⟩ (fun _ _ _ => trivial) (fun x hx ρ S' M ⟨hb2, o2, o3, o4, o5, o6, o7, o8, o9, o10, o11, o12, o13, eρ⟩ hM => ?_) hN
    subst eρ
    simp [-sSeq_ev, -compL_cons, -forL_cons]
    walk_at "nx"
    refine call_draw hb2 (by decide) (by decide) fun d3 S3 h3 hb3 _ => ?_
    obtain ⟨mx, emx, hmx1, hmx2⟩ : ∃ mx : Nat, atI [F.int 5, F.int 8, F.int 10] (d3 : Int) = some (.int (mx : Int)) ∧ 1 ≤ mx ∧ mx ≤ 10 := by
      have : d3 = 0 ∨ d3 = 1 ∨ d3 = 2 := by omega
      rcases this with e | e | e <;> subst e
      · exact ⟨5, rfl, by decide, by decide⟩
      · exact ⟨8, rfl, by decide, by decide⟩
      · exact ⟨10, rfl, by decide, by decide⟩
    simp [-sSeq_ev, -compL_cons, -forL_cons]
    rw [emx]
    dsimp only
    refine call_draw hb3 (by omega) (by omega) fun m S4 h4 hb4 _ => ?_
    try simp [-sSeq_ev, -compL_cons, -forL_cons]
    refine call_draw hb4 (by decide) (by decide) fun th S5 h5 hb5 _ => ?_
    try simp [-sSeq_ev, -compL_cons, -forL_cons]
    refine call_draw hb5 (by decide) (by decide) fun sh S6 h6 hb6 _ => ?_
    rw [show (1 : Int) + (m : Int) = ((m + 1 : Nat) : Int) by omega]
    walk_at "nx"
    refine ⟨by omega, mil (by omega), ?_⟩
    refine compL_inv (fun acc S' => BoxAt S' b c ∧ ∃ ls : List Int, acc = ls.map F.int ∧ ∀ i ∈ ls, isB i) _ _ _ (fun _ _ _ => trivial)
      (fun x hx acc S4 Q4 ⟨hb4, ls, els, hls⟩ q4 => ?_) ⟨hb6, [], rfl, fun _ h => absurd h List.not_mem_nil⟩ (fun acc' S7 ⟨hb7, ls, els, hls⟩ hlen => ?_)
    · try simp [-sSeq_ev, -compL_cons, -forL_cons]
      refine call_draw hb4 (by decide) (by decide) fun d S5 d1 hb5 _ => ?_
      try simp [-sSeq_ev, -compL_cons, -forL_cons]
      exact q4 _ _ ⟨hb5, ls ++ [if (d : Int) < 1 + (th : Int) then 1 else 0], by rw [els]; simp, inB_snoc hls _⟩
    subst els
    have hll : ls.length = m + 1 := by simpa using hlen
    clear hlen
    try simp [-sSeq_ev, -compL_cons, -forL_cons]
    walk_at "nx"
    refine ⟨ls, .inl rfl, by omega, ?_⟩
    walk_at "nx"
    refine ⟨mil (by omega), ?_⟩
    refine compL_finv (fun j acc S' => BoxAt S' b c ∧ ∃ t : Told, acc = t.map cF ∧ fitK ls t j) _ 0 [] _ (fun _ _ _ _ => trivial) (fun k x hx acc S' A N2 ⟨hbk, t, ea, ht⟩ hA hN2 => ?_) ⟨hb7, [], rfl, rfl, fun k hk => absurd hk (Nat.not_lt_zero _)⟩ (fun acc S8 ⟨hb8, told, ea, ht⟩ => ?_)
    · rw [List.getElem?_map] at hx
      obtain ⟨y, hy, rfl⟩ := Option.map_eq_some_iff.mp hx
      have ey : ls.getD k 0 = y := by rw [List.getD_eq_getElem?_getD, hy]; rfl
      rw [Nat.zero_add] at hA ht
      try simp [-sSeq_ev, -compL_cons, -forL_cons]
      refine call_draw hbk (by decide) (by decide) fun d S5 d1 hb5 _ => ?_
      try simp [-sSeq_ev, -compL_cons, -forL_cons]
      split
      · exact hA _ _ ⟨hb5, t ++ [none], by rw [ea]; simp [cF], fitK_snoc ht (.inl rfl)⟩
      · exact hA _ _ ⟨hb5, t ++ [some y], by rw [ea]; simp [cF], fitK_snoc ht (.inr (by rw [ey]))⟩
    rw [Nat.zero_add, List.length_map] at ht
    subst ea
    have tk := told_ok hls (fun k hk => ht.2 k (by rw [← ht.1]; exact hk)) ht.1
    have tl := ht.1
    try simp [-sSeq_ev, -compL_cons, -forL_cons]
    walk_at "nx"
    refine call_draw hb8 (by omega) (by omega) fun at_ S9 h9 hb9 _ => ?_
    have hat : at_ < ls.length := by omega
    walk_at "nx"
    rw [at_row hat]
    dsimp only
    have hvB : isB (ls.getD at_ 0) := hls _ (by rw [List.getD_eq_getElem?_getD, List.getElem?_eq_getElem hat]; exact List.getElem_mem hat)
    generalize ls.getD at_ 0 = v at hvB
    have lc1 := cut_length (told.map cF) none (some (at_ : Int))
    have lc2 := cut_length (told.map cF) (some ((at_ : Int) + 1)) none
    rw [List.length_map] at lc1 lc2
    try simp [-sSeq_ev, -compL_cons, -forL_cons]
    refine ⟨Nat.le_trans (show _ ≤ 100 by omega) (mil (by decide)), Nat.le_trans (show _ ≤ 100 by omega) (mil (by decide)), ?_⟩
    have eset : cut (told.map cF) none (some (at_ : Int)) ++ F.int (1 - v) :: cut (told.map cF) (some ((at_ : Int) + 1)) none = (told.set at_ (some (1 - v))).map cF := by
      rw [set_cutF _ (by rw [List.length_map]; omega), List.map_set]
      rfl
    rw [eset]
    have tk2 : TdOk (told.set at_ (some (1 - v))) := fun o ho => by
      rcases List.mem_or_eq_of_mem_set ho with h | h
      · exact tk o h
      · rcases hvB with e | e
        · exact .inr (.inr (by rw [h, e]; rfl))
        · exact .inr (.inl (by rw [h, e]; rfl))
    have tl2 : (told.set at_ (some (1 - v))).length = told.length := List.length_set ..
    generalize told.set at_ (some (1 - v)) = wrong at tk2 tl2
    walk_at "nx"
    refine ⟨by omega, mil (by omega), ?_⟩
    refine compL_inv (fun acc S' => BoxAt S' b c ∧ ∃ ls : List Int, acc = ls.map F.int ∧ ∀ i ∈ ls, isB i) _ _ _ (fun _ _ _ => trivial)
      (fun x hx acc S4 Q4 ⟨hb4, ls, els, hls⟩ q4 => ?_) ⟨hb9, [], rfl, fun _ h => absurd h List.not_mem_nil⟩ (fun acc' S10 ⟨hb10, l2, els2, hls2⟩ hlen => ?_)
    · try simp [-sSeq_ev, -compL_cons, -forL_cons]
      refine call_draw hb4 (by decide) (by decide) fun d S5 d1 hb5 _ => ?_
      try simp [-sSeq_ev, -compL_cons, -forL_cons]
      exact q4 _ _ ⟨hb5, ls ++ [if (d : Int) < 1 + (th : Int) then 1 else 0], by rw [els]; simp, inB_snoc hls _⟩
    subst els2
    have hl2 : l2.length = m + 1 := by simpa using hlen
    clear hlen
    refine ⟨l2, .inr rfl, by omega, ?_⟩
    try simp [-sSeq_ev, -compL_cons, -forL_cons]
    refine ⟨b, c, clueR 0 ls, told, rfl, hb10, okay_of (by omega) tk (by omega), by omega, by omega, fun S11 hb11 _ => ?_⟩
    try simp [-sSeq_ev, -compL_cons, -forL_cons]
    refine ⟨b, c, clueR 0 ls, wrong, rfl, hb11, okay_of (by omega) tk2 (by omega), by omega, by omega, fun S12 hb12 _ => ?_⟩
    try simp [-sSeq_ev, -compL_cons, -forL_cons]
    refine ⟨b, c, clueR 0 l2, told, rfl, hb12, okay_of (by omega) tk (by omega), by omega, by omega, fun S13 hb13 _ => ?_⟩
    try simp [-sSeq_ev, -compL_cons, -forL_cons]
    exact hM _ _ ⟨hb13, _, _, _, _, _, _, _, _, _, _, _, _, rfl⟩
  subst eρ
  have ok1 : Okay [] [none, none] := ⟨fun x hx => absurd hx List.not_mem_nil, fun o ho => by simp at ho; exact .inl ho, by decide, by decide⟩
  have ok2 : Okay [] [some 1, none] := ⟨fun x hx => absurd hx List.not_mem_nil, fun o ho => by
    simp at ho
    rcases ho with e | e <;> rw [e] <;> simp, by decide, by decide⟩
  have ok3 : Okay [2, 1] [none, none, some 0, none, none] := ⟨fun x hx => by
    simp at hx
    rcases hx with e | e <;> rw [e] <;> decide, fun o ho => by
    simp at ho
    rcases ho with e | e | e <;> rw [e] <;> simp, by decide, by decide⟩
  try simp [-sSeq_ev, -compL_cons, -forL_cons]
  refine ⟨b, c, rfl, hb2, fun S3 hb3 _ => ?_⟩
  try simp [-sSeq_ev, -compL_cons, -forL_cons]
  refine ⟨b, c, [], [none, none], rfl, hb3, ok1, by decide, by decide, fun S4 hb4 _ => ?_⟩
  try simp [-sSeq_ev, -compL_cons, -forL_cons]
  refine ⟨b, c, [], [some 1, none], rfl, hb4, ok2, by decide, by decide, fun S5 hb5 _ => ?_⟩
  try simp [-sSeq_ev, -compL_cons, -forL_cons]
  exact ⟨b, c, [2, 1], [none, none, some 0, none, none], rfl, hb5, ok3, by decide, by decide, fun S6 hb6 _ => q _⟩
end DL.K58

set_option maxHeartbeats 0
namespace DL.K58
open PySem PySem.Spec PyProof.Rows L2 DL
/-! the head: facts by names; the defs in order -/
def d_behind_block : He.DefD := ⟨("behind_block", none), "behind_block", "behind_block", defArgs s_behind_block, defBody s_behind_block, defScope s_behind_block, [], []⟩
def d_moves : He.DefD := ⟨("moves", none), "moves", "moves", defArgs s_moves, defBody s_moves, defScope s_moves, [], []⟩
def d_counts_of : He.DefD := ⟨("counts_of", none), "counts_of", "counts_of", defArgs s_counts_of, defBody s_counts_of, defScope s_counts_of, [], []⟩
def d_count_line : He.DefD := ⟨("count_line", none), "count_line", "count_line", defArgs s_count_line, defBody s_count_line, defScope s_count_line, [], []⟩
def d_line_at : He.DefD := ⟨("line_at", none), "line_at", "line_at", defArgs s_line_at, defBody s_line_at, defScope s_line_at, [], []⟩
def d_first_line : He.DefD := ⟨("first_line", none), "first_line", "first_line", defArgs s_first_line, defBody s_first_line, defScope s_first_line, [], []⟩
def d_number_of : He.DefD := ⟨("number_of", none), "number_of", "number_of", defArgs s_number_of, defBody s_number_of, defScope s_number_of, [], []⟩
def d__law_box : He.DefD := ⟨("_law_box", none), "_law_box", "_law_box", defArgs s__law_box, defBody s__law_box, defScope s__law_box, [], []⟩
def d__law_load : He.DefD := ⟨("_law_load", none), "_law_load", "_law_load", defArgs s__law_load, defBody s__law_load, defScope s__law_load, [], []⟩
def d__law_draw : He.DefD := ⟨("_law_draw", none), "_law_draw", "_law_draw", defArgs s__law_draw, defBody s__law_draw, defScope s__law_draw, [], []⟩
def d__law_same : He.DefD := ⟨("_law_same", none), "_law_same", "_law_same", defArgs s__law_same, defBody s__law_same, defScope s__law_same, [], []⟩
def d__law_clue : He.DefD := ⟨("_law_clue", none), "_law_clue", "_law_clue", defArgs s__law_clue, defBody s__law_clue, defScope s__law_clue, [], []⟩
def d__law_lines : He.DefD := ⟨("_law_lines", none), "_law_lines", "_law_lines", defArgs s__law_lines, defBody s__law_lines, defScope s__law_lines, [], []⟩
def d__law_has : He.DefD := ⟨("_law_has", none), "_law_has", "_law_has", defArgs s__law_has, defBody s__law_has, defScope s__law_has, [], []⟩
def d__law_told : He.DefD := ⟨("_law_told", none), "_law_told", "_law_told", defArgs s__law_told, defBody s__law_told, defScope s__law_told, [], []⟩
def d__law_choose : He.DefD := ⟨("_law_choose", none), "_law_choose", "_law_choose", defArgs s__law_choose, defBody s__law_choose, defScope s__law_choose, [], []⟩
def d__law_fine : He.DefD := ⟨("_law_fine", none), "_law_fine", "_law_fine", defArgs s__law_fine, defBody s__law_fine, defScope s__law_fine, [], []⟩
def d__law_great_fine : He.DefD := ⟨("_law_great_fine", none), "_law_great_fine", "_law_great_fine", defArgs s__law_great_fine, defBody s__law_great_fine, defScope s__law_great_fine, [], []⟩
def d_law : He.DefD := ⟨("law", none), "law", "law", defArgs s_law, defBody s_law, defScope s_law, [], []⟩
def fnL : List He.DefD := [d_behind_block, d_moves, d_counts_of, d_count_line, d_line_at, d_first_line, d_number_of, d__law_box, d__law_load, d__law_draw, d__law_same, d__law_clue, d__law_lines, d__law_has, d__law_told, d__law_choose, d__law_fine, d__law_great_fine, d_law]
def faL : List He.Fa := [.glo "behind_block", .glo "moves", .glo "counts_of", .glo "count_line", .glo "line_at", .glo "first_line", .glo "number_of", .glo "_law_box", .glo "_law_load", .glo "_law_draw", .glo "_law_same", .glo "_law_clue", .glo "_law_lines", .glo "_law_has", .glo "_law_told", .glo "_law_choose", .glo "_law_fine", .glo "_law_great_fine", .glo "law", .free "len", .free "range", .free "tuple", .free "list", .free "all", .free "any", .free "sum", .free "int", .free "bool", .free "str", .free "isinstance", .free "min", .free "max", .free "sorted", .free "enumerate", .free "zip", .free "set", .free "dict", .free "abs", .glo "BadText", .glo "NotAllowed", .glo "NoAnswer", .glo "NotPossible", .glo "TooMany", .exc "NoAnswer", .exm "NoAnswer" "NoAnswer" true]
abbrev R : PySem.W.OpenRow := PySem.W.OpenLaw.row PySem.Challenge.rw_toldbysums_k58_whole_numbers_of_lines
def exL (K : PySem.W.Frag) : Bool := exB K (He.ga K "NoAnswer") && (decide (PySem.W.kitAny K (.ref (He.ga K "NoAnswer")) ([He.ga K "BadText", He.ga K "NotAllowed", He.ga K "NotPossible", He.ga K "TooMany"].map Value.ref) = some false))
abbrev hk : PySem.W.Hook := He.hookX 4 faL fnL [] [] exL
def ob (s : PySem.W.SharedT) : He.AlX := He.obsX 4 faL fnL [] [] exL (HandSHeadRun.getT s)
theorem ob_eq (s : PySem.W.SharedT) : ob s = hk.obs s.abs := He.obsX_eq (HandSHeadRun.getT_eq s)
def loose0 : List PySem.Str := ["behind_block", "moves", "counts_of", "count_line", "line_at", "first_line", "number_of", "_law_box", "_law_load", "_law_draw", "_law_same", "_law_clue", "_law_lines", "_law_has", "_law_told", "_law_choose", "_law_fine", "_law_great_fine", "SumError", "BadText", "NotAllowed", "NoAnswer", "NotPossible", "TooMany"]
def looseL : List PySem.Str := loose0
theorem run (w : World) : HandSHeadRun.RunEq R (PySem.W.view R.prog [27]) hk ob 4000 looseL w := by
  intro os
  kernel_rfl
theorem facts {P : Program} {w : World} {K : PySem.W.Frag} {h : Heap} {mg : Str → Option Value} {f : Addr} (X : K.In h) (G : h.Ns mainGlobals mg) (hfa : mg ("law" : Str) = some (.ref f)) (c : He.SaysD faL fnL K) (hx : exL K = true) :
    ∃ fd : FuncData, (∀ (s : Shared) (v : Value), BindsTo s fd ⟨[v], []⟩ [("script", v)]) ∧ ∀ base : Heap, K.In base → base.Ns mainGlobals mg → FnOk P w K mg base CX0 11 f fd ["script"] (spC K C_law) := by
  obtain ⟨fd_behind_block, F_behind_block⟩ := c.def_ 0 (d := d_behind_block) rfl
  obtain ⟨fd_moves, F_moves⟩ := c.def_ 1 (d := d_moves) rfl
  obtain ⟨fd_counts_of, F_counts_of⟩ := c.def_ 2 (d := d_counts_of) rfl
  obtain ⟨fd_count_line, F_count_line⟩ := c.def_ 3 (d := d_count_line) rfl
  obtain ⟨fd_line_at, F_line_at⟩ := c.def_ 4 (d := d_line_at) rfl
  obtain ⟨fd_first_line, F_first_line⟩ := c.def_ 5 (d := d_first_line) rfl
  obtain ⟨fd_number_of, F_number_of⟩ := c.def_ 6 (d := d_number_of) rfl
  obtain ⟨fd__law_box, F__law_box⟩ := c.def_ 7 (d := d__law_box) rfl
  obtain ⟨fd__law_load, F__law_load⟩ := c.def_ 8 (d := d__law_load) rfl
  obtain ⟨fd__law_draw, F__law_draw⟩ := c.def_ 9 (d := d__law_draw) rfl
  obtain ⟨fd__law_same, F__law_same⟩ := c.def_ 10 (d := d__law_same) rfl
  obtain ⟨fd__law_clue, F__law_clue⟩ := c.def_ 11 (d := d__law_clue) rfl
  obtain ⟨fd__law_lines, F__law_lines⟩ := c.def_ 12 (d := d__law_lines) rfl
  obtain ⟨fd__law_has, F__law_has⟩ := c.def_ 13 (d := d__law_has) rfl
  obtain ⟨fd__law_told, F__law_told⟩ := c.def_ 14 (d := d__law_told) rfl
  obtain ⟨fd__law_choose, F__law_choose⟩ := c.def_ 15 (d := d__law_choose) rfl
  obtain ⟨fd__law_fine, F__law_fine⟩ := c.def_ 16 (d := d__law_fine) rfl
  obtain ⟨fd__law_great_fine, F__law_great_fine⟩ := c.def_ 17 (d := d__law_great_fine) rfl
  obtain ⟨fd_law, F_law⟩ := c.def_ 18 (d := d_law) rfl
  have B : Bl mg := ⟨He.free_ok X G (c.fact 19 (f := .free "len") rfl), He.free_ok X G (c.fact 20 (f := .free "range") rfl), He.free_ok X G (c.fact 21 (f := .free "tuple") rfl), He.free_ok X G (c.fact 22 (f := .free "list") rfl), He.free_ok X G (c.fact 23 (f := .free "all") rfl), He.free_ok X G (c.fact 24 (f := .free "any") rfl), He.free_ok X G (c.fact 25 (f := .free "sum") rfl), He.free_ok X G (c.fact 26 (f := .free "int") rfl), He.free_ok X G (c.fact 27 (f := .free "bool") rfl), He.free_ok X G (c.fact 28 (f := .free "str") rfl), He.free_ok X G (c.fact 29 (f := .free "isinstance") rfl), He.free_ok X G (c.fact 30 (f := .free "min") rfl), He.free_ok X G (c.fact 31 (f := .free "max") rfl), He.free_ok X G (c.fact 32 (f := .free "sorted") rfl), He.free_ok X G (c.fact 33 (f := .free "enumerate") rfl), He.free_ok X G (c.fact 34 (f := .free "zip") rfl), He.free_ok X G (c.fact 35 (f := .free "set") rfl), He.free_ok X G (c.fact 36 (f := .free "dict") rfl), He.free_ok X G (c.fact 37 (f := .free "abs") rfl)⟩
  have gk_BadText : GK mg "BadText" (He.ga K "BadText") := ⟨He.glo_ok X G (c.fact 38 (f := .glo "BadText") rfl)⟩
  have gk_NotAllowed : GK mg "NotAllowed" (He.ga K "NotAllowed") := ⟨He.glo_ok X G (c.fact 39 (f := .glo "NotAllowed") rfl)⟩
  have gk_NoAnswer : GK mg "NoAnswer" (He.ga K "NoAnswer") := ⟨He.glo_ok X G (c.fact 40 (f := .glo "NoAnswer") rfl)⟩
  have gk_NotPossible : GK mg "NotPossible" (He.ga K "NotPossible") := ⟨He.glo_ok X G (c.fact 41 (f := .glo "NotPossible") rfl)⟩
  have gk_TooMany : GK mg "TooMany" (He.ga K "TooMany") := ⟨He.glo_ok X G (c.fact 42 (f := .glo "TooMany") rfl)⟩
  have e_NoAnswer : ExK K mg "NoAnswer" (He.ga K "NoAnswer") := ⟨gk_NoAnswer.g, (He.exc_ok (c.fact 43 (f := .exc "NoAnswer") rfl)).1, (He.exc_ok (c.fact 43 (f := .exc "NoAnswer") rfl)).2.1, (He.exc_ok (c.fact 43 (f := .exc "NoAnswer") rfl)).2.2.1, (He.exc_ok (c.fact 43 (f := .exc "NoAnswer") rfl)).2.2.2⟩
  have tr_NoAnswer_NoAnswer := He.exm_ok (c.fact 44 (f := .exm "NoAnswer" "NoAnswer" true) rfl)
  unfold exL at hx
  simp only [Bool.and_eq_true, decide_eq_true_eq] at hx
  obtain ⟨xb_NoAnswer, is_NoAnswer_BadText_NotAllowed_NotPossible_TooMany⟩ := hx
  have xc_NoAnswer := exB_ok xb_NoAnswer
  have e := hfa.symm.trans (He.glo_ok X G (c.fact 18 (f := .glo "law") rfl))
  cases e
  have b := FunD.bindsA (ps := ["script"]) F_law fun _ _ _ _ _ _ us hl => match us, hl with | [_], _ => rfl
  refine ⟨fd_law, fun s v => b s [v] rfl, fun base _ _ => ?_⟩
  have k_behind_block : Cal P w K mg base 1 "behind_block" ["clue", "told", "at", "k"] C_behind_block := cal_of F_behind_block (He.glo_ok X G (c.fact 0 (f := .glo "behind_block") rfl)) (F_behind_block.bindsN (ps := ["clue", "told", "at", "k"]) fun _ _ _ _ _ _ us hl => match us, hl with | [_, _, _, _], _ => rfl) (ok_behind_block B F_behind_block mono_C_behind_block sp_behind_block)
  have k__law_box : Cal P w K mg base 1 "_law_box" ["script"] C_box := cal_of F__law_box (He.glo_ok X G (c.fact 7 (f := .glo "_law_box") rfl)) (F__law_box.bindsN (ps := ["script"]) fun _ _ _ _ _ _ us hl => match us, hl with | [_], _ => rfl) (ok__law_box B F__law_box mono_C_box (fun fs S Q h => by rw [show @w__law_box = @W_box from rfl]; exact sp_box fs S Q h))
  have k__law_load : Cal P w K mg base 1 "_law_load" ["box"] C_load := cal_of F__law_load (He.glo_ok X G (c.fact 8 (f := .glo "_law_load") rfl)) (F__law_load.bindsN (ps := ["box"]) fun _ _ _ _ _ _ us hl => match us, hl with | [_], _ => rfl) (ok__law_load B F__law_load mono_C_load (fun fs S Q h => by rw [show @w__law_load = @W_load from rfl]; exact sp_load fs S Q h))
  have k__law_clue : Cal P w K mg base 1 "_law_clue" ["line"] C_clue := cal_of F__law_clue (He.glo_ok X G (c.fact 11 (f := .glo "_law_clue") rfl)) (F__law_clue.bindsN (ps := ["line"]) fun _ _ _ _ _ _ us hl => match us, hl with | [_], _ => rfl) (ok__law_clue B F__law_clue mono_C_clue sp_clue)
  have k__law_lines : Cal P w K mg base 1 "_law_lines" ["m"] C_lines := cal_of F__law_lines (He.glo_ok X G (c.fact 12 (f := .glo "_law_lines") rfl)) (F__law_lines.bindsN (ps := ["m"]) fun _ _ _ _ _ _ us hl => match us, hl with | [_], _ => rfl) (ok__law_lines B F__law_lines mono_C_lines sp_lines)
  have k__law_has : Cal P w K mg base 1 "_law_has" ["line", "told"] C_has := cal_of F__law_has (He.glo_ok X G (c.fact 13 (f := .glo "_law_has") rfl)) (F__law_has.bindsN (ps := ["line", "told"]) fun _ _ _ _ _ _ us hl => match us, hl with | [_, _], _ => rfl) (ok__law_has B F__law_has mono_C_has sp_has)
  have k__law_choose : Cal P w K mg base 1 "_law_choose" ["n", "k"] C_choose := cal_of F__law_choose (He.glo_ok X G (c.fact 15 (f := .glo "_law_choose") rfl)) (F__law_choose.bindsN (ps := ["n", "k"]) fun _ _ _ _ _ _ us hl => match us, hl with | [_, _], _ => rfl) (ok__law_choose B F__law_choose mono_C_choose sp_choose)
  have k_moves : Cal P w K mg base 2 "moves" ["clue", "told", "at", "k"] C_moves := cal_of F_moves (He.glo_ok X G (c.fact 1 (f := .glo "moves") rfl)) (F_moves.bindsN (ps := ["clue", "told", "at", "k"]) fun _ _ _ _ _ _ us hl => match us, hl with | [_, _, _, _], _ => rfl) (ok_moves B k_behind_block F_moves mono_C_moves sp_moves)
  have k__law_draw : Cal P w K mg base 2 "_law_draw" ["box", "many"] C_draw := cal_of F__law_draw (He.glo_ok X G (c.fact 9 (f := .glo "_law_draw") rfl)) (F__law_draw.bindsN (ps := ["box", "many"]) fun _ _ _ _ _ _ us hl => match us, hl with | [_, _], _ => rfl) (ok__law_draw B k__law_load F__law_draw mono_C_draw (fun fs S Q h => by rw [show @w__law_draw = @W_draw from rfl]; exact sp_draw fs S Q h))
  have k_counts_of : Cal P w K mg base 3 "counts_of" ["clue", "told"] C_counts_of := cal_of F_counts_of (He.glo_ok X G (c.fact 2 (f := .glo "counts_of") rfl)) (F_counts_of.bindsN (ps := ["clue", "told"]) fun _ _ _ _ _ _ us hl => match us, hl with | [_, _], _ => rfl) (ok_counts_of B k_moves F_counts_of mono_C_counts_of sp_counts_of)
  have k_count_line : Cal P w K mg base 4 "count_line" ["clue", "told"] C_count_line := cal_of F_count_line (He.glo_ok X G (c.fact 3 (f := .glo "count_line") rfl)) (F_count_line.bindsN (ps := ["clue", "told"]) fun _ _ _ _ _ _ us hl => match us, hl with | [_, _], _ => rfl) (ok_count_line B k_counts_of F_count_line mono_C_count_line sp_count_line)
  have k_line_at : CalX P w K mg base 4 "line_at" ["clue", "told", "number"] (C_line_at (He.ga K "NoAnswer")) := calX_of F_line_at (He.glo_ok X G (c.fact 4 (f := .glo "line_at") rfl)) (F_line_at.bindsN (ps := ["clue", "told", "number"]) fun _ _ _ _ _ _ us hl => match us, hl with | [_, _, _], _ => rfl) (ok_line_at B e_NoAnswer k_moves k_counts_of F_line_at mono_C_line_at sp_line_at)
  have k_number_of : Cal P w K mg base 4 "number_of" ["clue", "told", "line"] C_number_of := cal_of F_number_of (He.glo_ok X G (c.fact 6 (f := .glo "number_of") rfl)) (F_number_of.bindsN (ps := ["clue", "told", "line"]) fun _ _ _ _ _ _ us hl => match us, hl with | [_, _, _], _ => rfl) (ok_number_of B k_moves k_counts_of F_number_of mono_C_number_of sp_number_of)
  have k_first_line : Cal P w K mg base 5 "first_line" ["clue", "told"] C_first_line := cal_of F_first_line (He.glo_ok X G (c.fact 5 (f := .glo "first_line") rfl)) (F_first_line.bindsN (ps := ["clue", "told"]) fun _ _ _ _ _ _ us hl => match us, hl with | [_, _], _ => rfl) (ok_first_line B k_count_line k_line_at F_first_line mono_C_first_line sp_first_line)
  have k__law_told : Cal P w K mg base 5 "_law_told" ["clue", "told", "number"] C_toldX := cal_of F__law_told (He.glo_ok X G (c.fact 14 (f := .glo "_law_told") rfl)) (F__law_told.bindsN (ps := ["clue", "told", "number"]) fun _ _ _ _ _ _ us hl => match us, hl with | [_, _, _], _ => rfl) (ok__law_told B gk_NoAnswer gk_BadText gk_NotAllowed gk_NotPossible gk_TooMany xc_NoAnswer is_NoAnswer_BadText_NotAllowed_NotPossible_TooMany tr_NoAnswer_NoAnswer k_line_at F__law_told mono_C_toldX sp_toldX)
  have k__law_same : Cal P w K mg base 9 "_law_same" ["a", "b"] (C_same 8) := same_cal (fun lv {_ _} k mc hC => ok__law_same B lv k F__law_same mc (fun fs S Q h => by rw [show @w__law_same = @W_same from rfl]; exact hC fs S Q h)) F__law_same (He.glo_ok X G (c.fact 10 (f := .glo "_law_same") rfl)) (F__law_same.bindsN (ps := ["a", "b"]) fun _ _ _ _ _ _ us hl => match us, hl with | [_, _], _ => rfl) 8
  have k__law_fine : Cal P w K mg base 10 "_law_fine" ["box", "clue", "told"] C_fine := cal_of F__law_fine (He.glo_ok X G (c.fact 16 (f := .glo "_law_fine") rfl)) (F__law_fine.bindsN (ps := ["box", "clue", "told"]) fun _ _ _ _ _ _ us hl => match us, hl with | [_, _, _], _ => rfl) (ok__law_fine B k_count_line k_first_line k_number_of k__law_draw k__law_same k__law_clue k__law_lines k__law_has k__law_told F__law_fine mono_C_fine sp_fine)
  have k__law_great_fine : Cal P w K mg base 10 "_law_great_fine" ["box"] C_great := cal_of F__law_great_fine (He.glo_ok X G (c.fact 17 (f := .glo "_law_great_fine") rfl)) (F__law_great_fine.bindsN (ps := ["box"]) fun _ _ _ _ _ _ us hl => match us, hl with | [_], _ => rfl) (ok__law_great_fine B k_count_line k_first_line k_number_of k__law_draw k__law_same k__law_clue k__law_told k__law_choose F__law_great_fine mono_C_great sp_great)
  exact (ok_law B k__law_box k__law_draw k__law_clue k__law_fine k__law_great_fine F_law mono_C_law sp_law).ok
end DL.K58
open PySem PySem.W PySem.Calls PyProof.Rows
theorem PySem.Challenge.cw_toldbysums_k58_whole_numbers_of_lines_holds : PySem.Challenge.rw_toldbysums_k58_whole_numbers_of_lines.Holds := by
  w_on; o_law
  refine HandSHeadRun.head_any (r := OpenLaw.row PySem.Challenge.rw_toldbysums_k58_whole_numbers_of_lines) (q := view (OpenLaw.row PySem.Challenge.rw_toldbysums_k58_whole_numbers_of_lines).prog [27]) (H := DL.K58.hk) (ob := DL.K58.ob) (M := 4000) (loose := DL.K58.looseL) (d := HandSHeadRun.topDef (OpenLaw.row PySem.Challenge.rw_toldbysums_k58_whole_numbers_of_lines).prog 27) (kwd := []) DL.K58.ob_eq
    (by kernel_rfl) (fun s => by kernel_rfl) DL.K58.run (by kernel_rfl) (by kernel_rfl) (by kernel_rfl) (by rfl) (by first | assumption | decide +kernel) (by decide +kernel) ⟨rfl, rfl, rfl, rfl, rfl, by decide +kernel⟩ ?hw ?hc
  case hw => w_witness2
  case hc =>
    refine L2.walk_ofE (l := PySem.Challenge.rw_toldbysums_k58_whole_numbers_of_lines) (n := 63) (k := 11) (x := "script") (CX := L2.CX0) rfl (by decide) (by kernel_rfl) ⟨rfl, by decide, by decide⟩ ?F (fun _ _ _ _ z => z)
    intro w mg fa h Y G hmg0
    obtain ⟨K, KX, c⟩ := Y
    have hmg : mg ("law" : PySem.Str) = some (.ref fa) := by
      have e : (HandSHeadRun.topDef (OpenLaw.row PySem.Challenge.rw_toldbysums_k58_whole_numbers_of_lines).prog 27).name = ("law" : PySem.Str) := by kernel_rfl
      rw [← e]
      exact hmg0
    obtain ⟨fd, hb, hF⟩ := DL.K58.facts (P := (PySem.Challenge.rw_toldbysums_k58_whole_numbers_of_lines).prog) (w := w) KX G hmg c.t.d c.more
    refine ⟨K, fd, DL.spC K DL.K58.C_law, KX, hb, fun H a ns hl _ hS => ?_, hF⟩
    exact ⟨[.rol (ns.map DL.F.int)], ⟨fun _ => none, fun _ => none⟩, H, .cons (.rol hS (DL.dens_ints ns)) .nil, ⟨fun _ _ e => ⟨e, ⟨rfl, rfl⟩⟩, fun _ _ e => (nomatch e), fun _ _ e => (nomatch e)⟩, ns, rfl, hl, fun S' v Z' H' _ _ d => DL.den_bl d⟩
