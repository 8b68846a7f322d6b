import PyProof.Rows.All
import Wide.All
import OpenK.AllK
import Wide.FinOn
import HandS.ForMost
import HandS.ForExc
import HandS.ExcInit
import HandS.ExcOwn
import HandS.CallSlots
import HandS.TupAny
import HandS.IsInst
import HandS.Small
import HandS.TupLe
import KE.KExcIs
import HandS.ExcField
import HandS.ExcValue
import HandS.WordsExc
import PySem.Challenge.RW_unseendeeds_k01_errors
set_option Elab.async false
set_option linter.all false
set_option maxRecDepth 100000
set_option maxHeartbeats 4000000
/-! WX1: values with tuples in them, an abstract heap that may forget, what stands for what. -/
namespace Wx
open PySem L2

/-- a value; a tuple of values is a value itself -/
inductive W where
  | non | bl (b : Bool) | int (i : Int) | str (x : Str) | ref (a : Addr) | ty (n : String) | tup (ws : List W) | ktup (ws : List W)

mutual
def rep (K : PySem.W.Frag) (H : Hp) (v : V) : W → Prop
  | .non => v = .non
  | .bl b => v = .bl b
  | .int i => v = .int i
  | .str x => v = .str x
  | .ref a => v = .ref a
  | .ty n => v = .ty n
  | .tup ws => ∃ a vs, v = .ref a ∧ H a = some (.tup vs) ∧ reps K H vs ws
  | .ktup ws => ∃ a vs, v = .ref a ∧ SqT K H a vs ∧ reps K H vs ws
def reps (K : PySem.W.Frag) (H : Hp) (vs : List V) : List W → Prop
  | [] => vs = []
  | w :: ws => ∃ v r, vs = v :: r ∧ rep K H v w ∧ reps K H r ws
end

/-- tuples stay -/
def TupLe0 (H H' : Hp) : Prop := ∀ a vs, (H a = some (.tup vs) → H' a = some (.tup vs)) ∧ ∀ o, H a = some (.frz o (.tup vs)) → H' a = some (.frz o (.tup vs))
abbrev TupLe (K : PySem.W.Frag) (H H' : Hp) : Prop := TupLe0 H H'
theorem TupLe.refl {K : PySem.W.Frag} (H : Hp) : TupLe K H H := fun _ _ => ⟨fun h => h, fun _ h => h⟩
theorem TupLe.trans {K : PySem.W.Frag} {H H1 H2 : Hp} (a : TupLe K H H1) (b : TupLe K H1 H2) : TupLe K H H2 := fun x vs => ⟨fun h => (b x vs).1 ((a x vs).1 h), fun o h => (b x vs).2 o ((a x vs).2 o h)⟩
theorem TupLe.sq {K : PySem.W.Frag} {H H' : Hp} (t : TupLe K H H') {a : Addr} {vs : List V} (h : SqT K H a vs) : SqT K H' a vs := by
  rcases h with (h | ⟨o, h⟩) | h
  · exact .inl (.inl ((t a vs).1 h))
  · exact .inl (.inr ⟨o, (t a vs).2 o h⟩)
  · exact .inr h

section
variable {K : PySem.W.Frag} {H H' : Hp}
mutual
theorem rep_mono (t : TupLe K H H') : ∀ (w : W) (v : V), rep K H v w → rep K H' v w
  | .non, _, h => h
  | .bl _, _, h => h
  | .int _, _, h => h
  | .str _, _, h => h
  | .ref _, _, h => h
  | .ty _, _, h => h
  | .tup ws, v, h => by
    simp only [rep] at h ⊢
    obtain ⟨a, vs, e, s, r⟩ := h
    exact ⟨a, vs, e, (t a vs).1 s, reps_mono t ws vs r⟩
  | .ktup ws, v, h => by
    simp only [rep] at h ⊢
    obtain ⟨a, vs, e, s, r⟩ := h
    exact ⟨a, vs, e, t.sq s, reps_mono t ws vs r⟩
theorem reps_mono (t : TupLe K H H') : ∀ (ws : List W) (vs : List V), reps K H vs ws → reps K H' vs ws
  | [], _, h => by simpa only [reps] using h
  | w :: ws, vs, h => by
    simp only [reps] at h ⊢
    obtain ⟨v, r, e, h1, h2⟩ := h
    exact ⟨v, r, e, rep_mono t w v h1, reps_mono t ws r h2⟩
end
theorem reps_nil : reps K H [] [] := by simp only [reps]
theorem reps_cons {v : V} {vs : List V} {w : W} {ws : List W} (h : rep K H v w) (hs : reps K H vs ws) : reps K H (v :: vs) (w :: ws) := by
  simp only [reps]
  exact ⟨v, vs, rfl, h, hs⟩
theorem reps_uncons {vs : List V} {w : W} {ws : List W} (h : reps K H vs (w :: ws)) : ∃ v r, vs = v :: r ∧ rep K H v w ∧ reps K H r ws := by
  simpa only [reps] using h
theorem reps_unnil {vs : List V} (h : reps K H vs []) : vs = [] := by simpa only [reps] using h
theorem reps_length : ∀ {ws : List W} {vs : List V}, reps K H vs ws → vs.length = ws.length
  | [], vs, h => by rw [reps_unnil h] <;> rfl
  | w :: ws, vs, h => by
    obtain ⟨v, r, rfl, _, h2⟩ := reps_uncons h
    rw [List.length_cons, List.length_cons, reps_length h2]
theorem reps_append : ∀ {ws us : List W} {vs zs : List V}, reps K H vs ws → reps K H zs us → reps K H (vs ++ zs) (ws ++ us)
  | [], us, vs, zs, h, h' => by rw [reps_unnil h]; exact h'
  | w :: ws, us, vs, zs, h, h' => by
    obtain ⟨v, r, rfl, h1, h2⟩ := reps_uncons h
    exact reps_cons h1 (reps_append h2 h')
theorem reps_get : ∀ {ws : List W} {vs : List V} {i : Nat} {w : W}, reps K H vs ws → ws[i]? = some w → ∃ v, vs[i]? = some v ∧ rep K H v w
  | [], _, i, w, _, e => by simp at e
  | x :: ws, vs, 0, w, h, e => by
    obtain ⟨v, r, rfl, h1, _⟩ := reps_uncons h
    simp at e; subst e
    exact ⟨v, rfl, h1⟩
  | x :: ws, vs, i + 1, w, h, e => by
    obtain ⟨v, r, rfl, _, h2⟩ := reps_uncons h
    obtain ⟨v', e', h'⟩ := reps_get (i := i) h2 (by simpa using e)
    exact ⟨v', by simpa using e', h'⟩
theorem reps_get' : ∀ {ws : List W} {vs : List V} {i : Nat} {v : V}, reps K H vs ws → vs[i]? = some v → ∃ w, ws[i]? = some w ∧ rep K H v w
  | [], vs, i, v, h, e => by rw [reps_unnil h] at e; simp at e
  | x :: ws, vs, 0, v, h, e => by
    obtain ⟨v', r, rfl, h1, _⟩ := reps_uncons h
    simp at e; subst e
    exact ⟨x, rfl, h1⟩
  | x :: ws, vs, i + 1, v, h, e => by
    obtain ⟨v', r, rfl, _, h2⟩ := reps_uncons h
    obtain ⟨w', e', h'⟩ := reps_get' (i := i) h2 (by simpa using e)
    exact ⟨w', by simpa using e', h'⟩
theorem reps_take : ∀ {ws : List W} {vs : List V} (n : Nat), reps K H vs ws → reps K H (vs.take n) (ws.take n)
  | _, _, 0, _ => by rw [List.take_zero, List.take_zero]; exact reps_nil
  | [], vs, n + 1, h => by rw [reps_unnil h]; exact reps_nil
  | w :: ws, vs, n + 1, h => by
    obtain ⟨v, r, rfl, h1, h2⟩ := reps_uncons h
    exact reps_cons h1 (reps_take n h2)
theorem reps_drop : ∀ {ws : List W} {vs : List V} (n : Nat), reps K H vs ws → reps K H (vs.drop n) (ws.drop n)
  | _, _, 0, h => h
  | [], vs, n + 1, h => by rw [reps_unnil h]; exact reps_nil
  | w :: ws, vs, n + 1, h => by
    obtain ⟨v, r, rfl, h1, h2⟩ := reps_uncons h
    exact reps_drop n h2
theorem reps_reverse : ∀ {ws : List W} {vs : List V}, reps K H vs ws → reps K H vs.reverse ws.reverse
  | [], vs, h => by rw [reps_unnil h]; exact reps_nil
  | w :: ws, vs, h => by
    obtain ⟨v, r, rfl, h1, h2⟩ := reps_uncons h
    rw [List.reverse_cons, List.reverse_cons]
    exact reps_append (reps_reverse h2) (reps_cons h1 reps_nil)
theorem reps_set : ∀ {ws : List W} {vs : List V} (i : Nat) {v : V} {w : W}, reps K H vs ws → rep K H v w → reps K H (vs.set i v) (ws.set i w)
  | [], vs, i, v, w, h, _ => by rw [reps_unnil h]; exact reps_nil
  | x :: ws, vs, 0, v, w, h, h' => by
    obtain ⟨_, r, rfl, h1, h2⟩ := reps_uncons h
    exact reps_cons h' h2
  | x :: ws, vs, i + 1, v, w, h, h' => by
    obtain ⟨_, r, rfl, h1, h2⟩ := reps_uncons h
    exact reps_cons h1 (reps_set i h2 h')
theorem reps_eraseIdx : ∀ {ws : List W} {vs : List V} (i : Nat), reps K H vs ws → reps K H (vs.eraseIdx i) (ws.eraseIdx i)
  | [], vs, i, h => by rw [reps_unnil h]; exact reps_nil
  | x :: ws, vs, 0, h => by
    obtain ⟨_, r, rfl, h1, h2⟩ := reps_uncons h
    exact h2
  | x :: ws, vs, i + 1, h => by
    obtain ⟨_, r, rfl, h1, h2⟩ := reps_uncons h
    exact reps_cons h1 (reps_eraseIdx i h2)
theorem reps_ints {ns : List Int} : reps K H (ns.map V.int) (ns.map W.int) := by
  induction ns with
  | nil => exact reps_nil
  | cons n r ih => exact reps_cons (by simp only [rep]) ih
theorem reps_ints_inv : ∀ {ns : List Int} {vs : List V}, reps K H vs (ns.map W.int) → vs = ns.map V.int
  | [], vs, h => reps_unnil h
  | n :: ns, vs, h => by
    obtain ⟨v, r, rfl, h1, h2⟩ := reps_uncons h
    simp only [rep] at h1
    rw [h1, reps_ints_inv h2] <;> rfl
end

/-- pairs whose second halves stand for each other -/
def prs {κ : Type} (K : PySem.W.Frag) (H : Hp) : List (κ × V) → List (κ × W) → Prop := Paired fun (p : κ × V) (q : κ × W) => p.1 = q.1 ∧ rep K H p.2 q.2

/-- what stands at a tracked address -/
inductive WO where
  | lst (ws : List W)
  | rol (ws : List W)
  | dK (kvs : List (Key × W))
  | dT (kvs : List (List Key × W))
  | ins (C : Addr) (fs : List (Str × W))
  | exn (C : Addr) (fs : List (Str × W))
  | xd (fs : List (Str × W))
  | hid (o : HO)

abbrev Ah := Addr → Option WO
def RepAt (K : PySem.W.Frag) (H : Hp) (h : Ah) (a : Addr) : WO → Prop
  | .lst ws => ∃ vs, H a = some (.lst vs) ∧ reps K H vs ws
  | .rol ws => ∃ vs, Rd H a (.lst vs) ∧ reps K H vs ws
  | .dK kvs => ∃ kv, H a = some (.dK kv) ∧ prs K H kv kvs
  | .dT kvs => ∃ kv, H a = some (.dT kv) ∧ prs K H kv kvs
  | .ins C fs => ∃ dx vf, H a = some (.ins C dx vf) ∧ prs K H vf fs
  | .exn C fs => (H a = some (exo a C none) ∧ fs = []) ∨ ∃ d vf, H a = some (exo a C (some d)) ∧ H d = some (exd d vf) ∧ h d = none ∧ prs K H vf fs
  | .xd fs => ∃ vf, H a = some (.xd vf) ∧ prs K H vf fs
  | .hid o => H a = some o

/-- the abstract state: where the pen is and how many draws were made; the heap -/
structure AH where
  pen : Option (Addr × Nat)
  h : Ah
  tp : Hp := fun _ => none
def AH.put (A : AH) (a : Addr) (o : WO) : AH := { A with h := fun b => if b = a then some o else A.h b }
@[simp] theorem AH.put_tp (A : AH) (a : Addr) (o : WO) : (A.put a o).tp = A.tp := rfl
@[simp] theorem AH.put_pen (A : AH) (a : Addr) (o : WO) : (A.put a o).pen = A.pen := rfl
theorem AH.put_same {A : AH} {a : Addr} {o : WO} : (A.put a o).h a = some o := if_pos rfl
theorem AH.put_ne {A : AH} {a b : Addr} {o : WO} (h : b ≠ a) : (A.put a o).h b = A.h b := if_neg h
theorem AH.put_put {A : AH} {a : Addr} {o u : WO} : (A.put a o).put a u = A.put a u := by
  unfold AH.put
  congr 1
  funext b
  by_cases h : b = a
  · simp [h]
  · simp [h]

/-- the pen's dict at p, its cells' list at cl -/
def penKv (cl : Addr) (atv dg : Int) (n : Nat) (fo : Int) : List (Key × V) :=
  [(.inr "cells", .ref cl), (.inr "at", .int atv), (.inr "digits", .int dg), (.inr "count", .int n), (.inr "fold", .int fo)]
def PenAt (H : Hp) (h : Ah) (p : Addr) (n : Nat) : Prop :=
  ∃ (cl : Addr) (ns : List Int) (at_ dg fo : Int), H p = some (.dK (penKv cl at_ dg n fo)) ∧ H cl = some (.lst (ns.map V.int)) ∧ h p = none ∧ h cl = none ∧ 0 ≤ at_ ∧ 0 ≤ dg ∧ -(2 ^ 40) < fo ∧ fo < 2 ^ 40
def RepA (K : PySem.W.Frag) (H : Hp) (A : AH) : Prop := (∀ a o, A.h a = some o → RepAt K H A.h a o) ∧ (∀ p n, A.pen = some (p, n) → PenAt H A.h p n) ∧ TupLe K A.tp H

section
variable {K : PySem.W.Frag} {H H' : Hp} {A : AH} {a p : Addr}
theorem prs_mono {κ : Type} (t : TupLe K H H') {l : List (κ × V)} {m : List (κ × W)} (h : prs K H l m) : prs K H' l m := Paired.mapP h fun _ _ z => ⟨z.1, rep_mono t _ _ z.2⟩
theorem Rd_some {u : HO} (h : Rd H a u) : ∃ o, H a = some o := by
  rcases h with h | ⟨o, h⟩
  · exact ⟨_, h⟩
  · exact ⟨_, h⟩
theorem RepAt.there {h : Ah} {o : WO} (x : RepAt K H h a o) : ∃ ho, H a = some ho := by
  cases o with
  | lst ws => obtain ⟨_, e, _⟩ := x; exact ⟨_, e⟩
  | rol ws => obtain ⟨_, e, _⟩ := x; exact Rd_some e
  | dK kvs => obtain ⟨_, e, _⟩ := x; exact ⟨_, e⟩
  | dT kvs => obtain ⟨_, e, _⟩ := x; exact ⟨_, e⟩
  | ins C fs => obtain ⟨_, _, e, _⟩ := x; exact ⟨_, e⟩
  | exn C fs =>
    rcases x with ⟨e, _⟩ | ⟨_, _, e, _⟩
    · exact ⟨_, e⟩
    · exact ⟨_, e⟩
  | xd fs => obtain ⟨_, e, _⟩ := x; exact ⟨_, e⟩
  | hid o => exact ⟨_, x⟩
theorem RepAt.keep {h h' : Ah} {o : WO} (t : TupLe K H H') (k : ∀ b, (b = a ∨ (h b = none ∧ ∃ u, H b = some u)) → H' b = H b) (kh : ∀ b, h b = none → (∃ vf, H b = some (exd b vf)) → h' b = none) (x : RepAt K H h a o) : RepAt K H' h' a o := by
  have ka := k a (.inl rfl)
  cases o with
  | lst ws => obtain ⟨vs, e, r⟩ := x; exact ⟨vs, ka.trans e, reps_mono t _ _ r⟩
  | rol ws =>
    obtain ⟨vs, e, r⟩ := x
    refine ⟨vs, ?_, reps_mono t _ _ r⟩
    rcases e with e | ⟨o, e⟩
    · exact .inl (ka.trans e)
    · exact .inr ⟨o, ka.trans e⟩
  | dK kvs => obtain ⟨vs, e, r⟩ := x; exact ⟨vs, ka.trans e, prs_mono t r⟩
  | dT kvs => obtain ⟨vs, e, r⟩ := x; exact ⟨vs, ka.trans e, prs_mono t r⟩
  | ins C fs => obtain ⟨dx, vs, e, r⟩ := x; exact ⟨dx, vs, ka.trans e, prs_mono t r⟩
  | exn C fs =>
    rcases x with ⟨e, z⟩ | ⟨d, vf, e, e2, e3, r⟩
    · exact .inl ⟨ka.trans e, z⟩
    · exact .inr ⟨d, vf, ka.trans e, (k d (.inr ⟨e3, _, e2⟩)).trans e2, kh d e3 ⟨_, e2⟩, prs_mono t r⟩
  | xd fs => obtain ⟨vs, e, r⟩ := x; exact ⟨vs, ka.trans e, prs_mono t r⟩
  | hid o => exact Eq.trans ka x
theorem RepA.there (r : RepA K H A) {o : WO} (e : A.h a = some o) : ∃ ho, H a = some ho := (r.1 a o e).there
theorem RepA.fresh (r : RepA K H A) (e : H a = none) : A.h a = none := by
  cases q : A.h a with
  | none => rfl
  | some o =>
    obtain ⟨ho, z⟩ := r.there q
    rw [e] at z
    cases z
/-- all that is tracked above stays as it is below -/
theorem RepA.keep (r : RepA K H A) (t : TupLe K H H') (k : ∀ b, (∃ o, A.h b = some o) ∨ (A.h b = none ∧ ∃ u, H b = some u) → H' b = H b) : RepA K H' A := by
  refine ⟨fun b o e => (r.1 b o e).keep t (fun c hc => ?_) fun _ z _ => z, fun p n e => ?_, r.2.2.trans t⟩
  · rcases hc with z | z
    · subst z; exact k c (.inl ⟨o, e⟩)
    · exact k c (.inr z)
  · obtain ⟨cl, ns, at_, dg, fo, e1, e2, e3, e4, q⟩ := r.2.1 p n e
    exact ⟨cl, ns, at_, dg, fo, (k p (.inr ⟨e3, _, e1⟩)).trans e1, (k cl (.inr ⟨e4, _, e2⟩)).trans e2, e3, e4, q⟩
theorem tupLe_new {o : HO} (e : H p = none) : TupLe K H (upd H p o) := fun b vs => ⟨fun s => by rw [upd_ne (ne_of_none s e)]; exact s, fun ob s => by rw [upd_ne (ne_of_none s e)]; exact s⟩
theorem tupLe_set {o u : HO} (e : H p = some u) (n1 : ∀ vs, u ≠ .tup vs) (n2 : ∀ ob w, u ≠ .frz ob w) : TupLe K H (upd H p o) := fun b vs =>
  ⟨fun s => by rw [upd_ne (fun z => by subst z; rw [e] at s; exact n1 vs (Option.some.inj s))]; exact s,
   fun ob s => by rw [upd_ne (fun z => by subst z; rw [e] at s; exact n2 ob _ (Option.some.inj s))]; exact s⟩
/-- a new object that is not tracked above (a tuple, what may be forgotten) -/
theorem RepA.new0 {o : HO} (r : RepA K H A) (e : H p = none) : RepA K (upd H p o) A := by
  refine r.keep (tupLe_new e) fun b hb => upd_ne fun z => ?_
  subst z
  rcases hb with ⟨u, q⟩ | ⟨_, u, q⟩
  · obtain ⟨ho, z⟩ := r.there q
    rw [e] at z; cases z
  · rw [e] at q; cases q
/-- a new object -/
theorem RepA.new {o : HO} {wo : WO} (r : RepA K H A) (e : H p = none) (n : RepAt K (upd H p o) (A.put p wo).h p wo) : RepA K (upd H p o) (A.put p wo) := by
  have ne : ∀ b, (∃ u, H b = some u) → b ≠ p := fun b ⟨u, q⟩ z => by subst z; rw [e] at q; cases q
  refine ⟨fun b u q => ?_, fun q n eq => ?_, r.2.2.trans (tupLe_new (K := K) e)⟩
  · by_cases hb : b = p
    · subst hb; rw [AH.put_same] at q; cases q; exact n
    · rw [AH.put_ne hb] at q
      have rb := r.1 b u q
      exact rb.keep (tupLe_new e) (fun c hc => upd_ne (ne c (by rcases hc with z | z; · rw [z]; exact rb.there
                                                                · exact z.2))) fun c z ⟨_, u⟩ => by rw [AH.put_ne (ne c ⟨_, u⟩)]; exact z
  · obtain ⟨cl, ns, at_, dg, fo, e1, e2, e3, e4, rest⟩ := r.2.1 q n eq
    have n1 : q ≠ p := ne q ⟨_, e1⟩
    have n2 : cl ≠ p := ne cl ⟨_, e2⟩
    exact ⟨cl, ns, at_, dg, fo, by rw [upd_ne n1]; exact e1, by rw [upd_ne n2]; exact e2, by rw [AH.put_ne n1]; exact e3, by rw [AH.put_ne n2]; exact e4, rest⟩
/-- a tracked object is written -/
theorem RepA.set {u o : HO} {wo wo' : WO} (r : RepA K H A) (ew : A.h p = some wo) (e : H p = some u) (n1 : ∀ vs, u ≠ .tup vs) (n2 : ∀ ob w, u ≠ .frz ob w) (n : RepAt K (upd H p o) (A.put p wo').h p wo') : RepA K (upd H p o) (A.put p wo') := by
  have t : TupLe K H (upd H p o) := tupLe_set e n1 n2
  have ne : ∀ b, A.h b = none → b ≠ p := fun b q z => by subst z; rw [ew] at q; cases q
  refine ⟨fun b z q => ?_, fun q n eq => ?_, r.2.2.trans t⟩
  · by_cases hb : b = p
    · subst hb; rw [AH.put_same] at q; cases q; exact n
    · rw [AH.put_ne hb] at q
      refine (r.1 b z q).keep t (fun c hc => upd_ne ?_) fun c y _ => by rw [AH.put_ne (ne c y)]; exact y
      rcases hc with y | y
      · rw [y]; exact hb
      · exact ne c y.1
  · obtain ⟨cl, ns, at_, dg, fo, e1, e2, e3, e4, rest⟩ := r.2.1 q n eq
    have m1 : q ≠ p := ne q e3
    have m2 : cl ≠ p := ne cl e4
    exact ⟨cl, ns, at_, dg, fo, by rw [upd_ne m1]; exact e1, by rw [upd_ne m2]; exact e2, by rw [AH.put_ne m1]; exact e3, by rw [AH.put_ne m2]; exact e4, rest⟩
/-- less is known -/
def AH.Sub (A A' : AH) : Prop := (∀ a o, A.h a = some o → A'.h a = some o) ∧ (A.pen = none ∨ A.pen = A'.pen) ∧ TupLe0 A.tp A'.tp
theorem AH.Sub.refl (A : AH) : A.Sub A := ⟨fun _ _ h => h, .inr rfl, fun _ _ => ⟨fun h => h, fun _ h => h⟩⟩
theorem AH.Sub.trans {A B C : AH} (x : A.Sub B) (y : B.Sub C) : A.Sub C := ⟨fun a o h => y.1 a o (x.1 a o h), by
  rcases x.2.1 with e | e
  · exact .inl e
  · rcases y.2.1 with e' | e'
    · exact .inl (e.trans e')
    · exact .inr (e.trans e'), fun b vs => ⟨fun h => (y.2.2 b vs).1 ((x.2.2 b vs).1 h), fun o h => (y.2.2 b vs).2 o ((x.2.2 b vs).2 o h)⟩⟩
theorem AH.Sub.put {A : AH} {o : WO} (h : A.h p = none) : A.Sub (A.put p o) := ⟨fun b u e => by
  rw [AH.put_ne (fun z => by subst z; rw [h] at e; cases e)]
  exact e, .inr rfl, fun _ _ => ⟨fun h => h, fun _ h => h⟩⟩
theorem AH.Sub.put2 {A B : AH} {o : WO} (s : A.Sub B) : (A.put p o).Sub (B.put p o) := ⟨fun b u e => by
  by_cases hb : b = p
  · subst hb; rw [AH.put_same] at e ⊢; exact e
  · rw [AH.put_ne hb] at e ⊢; exact s.1 b u e, s.2.1, s.2.2⟩
theorem AH.Sub.none {A' : AH} (s : A.Sub A') {b : Addr} (e : A'.h b = none) : A.h b = none := by
  cases q : A.h b with
  | none => rfl
  | some o => rw [s.1 b o q] at e; cases e
theorem RepA.sub {A' : AH} (r : RepA K H A') (s : A.Sub A') : RepA K H A := by
  refine ⟨fun a o e => (r.1 a o (s.1 a o e)).keep (TupLe.refl (K := K) H) (fun _ _ => rfl) fun b z _ => s.none z, fun p n e => ?_, TupLe.trans (K := K) s.2.2 r.2.2⟩
  rcases s.2.1 with z | z
  · rw [z] at e; cases e
  · obtain ⟨cl, ns, at_, dg, fo, e1, e2, e3, e4, rest⟩ := r.2.1 p n (z ▸ e)
    exact ⟨cl, ns, at_, dg, fo, e1, e2, s.none e3, s.none e4, rest⟩
end

/-- slots -/
abbrev Sw := List (Option W)
def SimS (K : PySem.W.Frag) (H : Hp) (σ : L2.St) (ω : Sw) : Prop := σ.length = ω.length ∧ ∀ (i : Nat) (w : W), ω[i]? = some (some w) → ∃ v, σ[i]? = some (some v) ∧ rep K H v w
section
variable {K : PySem.W.Frag} {H H' : Hp} {σ : L2.St} {ω : Sw}
theorem SimS.mono (t : TupLe K H H') (s : SimS K H σ ω) : SimS K H' σ ω := ⟨s.1, fun i w e => let ⟨v, e', r⟩ := s.2 i w e; ⟨v, e', rep_mono t _ _ r⟩⟩
theorem SimS.set {i : Nat} {v : V} {w : W} (s : SimS K H σ ω) (r : rep K H v w) : SimS K H (σ.set i (some v)) (ω.set i (some w)) := by
  refine ⟨by simpa using s.1, fun j u e => ?_⟩
  by_cases h : i = j
  · subst h
    by_cases hl : i < ω.length
    · rw [List.getElem?_set_self hl] at e
      cases e
      exact ⟨v, List.getElem?_set_self (by rw [s.1]; exact hl), r⟩
    · rw [List.getElem?_eq_none (by simpa using hl)] at e; cases e
  · rw [List.getElem?_set_ne h] at e ⊢
    exact s.2 j u e
theorem SimS.unset {i : Nat} (s : SimS K H σ ω) : SimS K H (σ.set i none) (ω.set i none) := by
  refine ⟨by simpa using s.1, fun j u e => ?_⟩
  by_cases h : i = j
  · subst h
    by_cases hl : i < ω.length
    · rw [List.getElem?_set_self hl] at e
      cases e
    · rw [List.getElem?_eq_none (by simpa using hl)] at e; cases e
  · rw [List.getElem?_set_ne h] at e ⊢
    exact s.2 j u e
end
end Wx

set_option Elab.async false
set_option linter.all false
set_option maxRecDepth 100000
set_option maxHeartbeats 4000000
/-! WX2: the judgements over W, and how a rule below is lifted. -/
namespace Wx
open PySem L2

abbrev VKw := W → AH → Prop
abbrev TEw := Sw → AH → VKw → Prop
abbrev TTw := Sw → AH → (Bool → AH → Prop) → Prop
abbrev TAw := Sw → AH → (List W → AH → Prop) → Prop
structure Dw where
  nx : Sw → AH → Prop
  rt : VKw
  bk : Sw → AH → Prop := fun _ _ => False
  ct : Sw → AH → Prop := fun _ _ => False
abbrev TSw := Dw → Sw → AH → Prop

def EPw (X : Cx) (pins : List (Addr × Obj)) (σ : L2.St) (H : Hp) (Q : VKw) (u : Value) (s' : Shared) : Prop :=
  ∃ v H' w A', Inv X pins σ H' s' ∧ RelV v u ∧ TupLe X.K H H' ∧ RepA X.K H' A' ∧ rep X.K H' v w ∧ Q w A'
def TPw (X : Cx) (pins : List (Addr × Obj)) (σ : L2.St) (H : Hp) (Q : Bool → AH → Prop) (b : Bool) (s' : Shared) : Prop :=
  ∃ H' A', Inv X pins σ H' s' ∧ TupLe X.K H H' ∧ RepA X.K H' A' ∧ Q b A'
def APw (X : Cx) (pins : List (Addr × Obj)) (σ : L2.St) (H : Hp) (Q : List W → AH → Prop) (us : List Value) (s' : Shared) : Prop :=
  ∃ vs H' ws A', Inv X pins σ H' s' ∧ Vals vs us ∧ TupLe X.K H H' ∧ RepA X.K H' A' ∧ reps X.K H' vs ws ∧ Q ws A'
def SPw (X : Cx) (pins : List (Addr × Obj)) (H : Hp) (D : Dw) (f : Flow) (s' : Shared) : Prop :=
  match f with
  | .next => ∃ σ' H' ω' A', Inv X pins σ' H' s' ∧ TupLe X.K H H' ∧ SimS X.K H' σ' ω' ∧ RepA X.K H' A' ∧ D.nx ω' A'
  | .brk => ∃ σ' H' ω' A', Inv X pins σ' H' s' ∧ TupLe X.K H H' ∧ SimS X.K H' σ' ω' ∧ RepA X.K H' A' ∧ D.bk ω' A'
  | .cont => ∃ σ' H' ω' A', Inv X pins σ' H' s' ∧ TupLe X.K H H' ∧ SimS X.K H' σ' ω' ∧ RepA X.K H' A' ∧ D.ct ω' A'
  | .ret u => ∃ v σ' H' w A', Inv X pins σ' H' s' ∧ RelV v u ∧ TupLe X.K H H' ∧ RepA X.K H' A' ∧ rep X.K H' v w ∧ D.rt w A'

structure WE (X : Cx) (e : Expr) (t : TEw) : Prop where
  run : ∀ (pins : List (Addr × Obj)) (s : Shared) (σ : L2.St) (H : Hp) (ω : Sw) (A : AH) (Q : VKw), Inv X pins σ H s → SimS X.K H σ ω → RepA X.K H A → t ω A Q →
    wpAny (model X.prog X.w) X.A (eval e X.env) (EPw X pins σ H Q) X.xe s
structure WT (X : Cx) (e : Expr) (t : TTw) : Prop where
  run : ∀ (pins : List (Addr × Obj)) (s : Shared) (σ : L2.St) (H : Hp) (ω : Sw) (A : AH) (Q : Bool → AH → Prop), Inv X pins σ H s → SimS X.K H σ ω → RepA X.K H A → t ω A Q →
    wpAny (model X.prog X.w) X.A (isTrue e X.env (eval e X.env)) (TPw X pins σ H Q) X.xe s
structure WA (X : Cx) (es : List Expr) (t : TAw) : Prop where
  run : ∀ (pos : Pos) (pins : List (Addr × Obj)) (s : Shared) (σ : L2.St) (H : Hp) (ω : Sw) (A : AH) (Q : List W → AH → Prop), Inv X pins σ H s → SimS X.K H σ ω → RepA X.K H A → t ω A Q →
    wpAny (model X.prog X.w) X.A (spliced (backTo pos (starEach es X.env))) (APw X pins σ H Q) X.xe s
structure WS (X : Cx) (st : Stmt) (t : TSw) : Prop where
  run : ∀ (pins : List (Addr × Obj)) (s : Shared) (σ : L2.St) (H : Hp) (ω : Sw) (A : AH) (D : Dw), Inv X pins σ H s → SimS X.K H σ ω → RepA X.K H A → t D ω A →
    wpAny (model X.prog X.w) X.A (exec st X.env) (SPw X pins H D) X.xe s
structure WSs (X : Cx) (st : List Stmt) (t : TSw) : Prop where
  run : ∀ (pins : List (Addr × Obj)) (s : Shared) (σ : L2.St) (H : Hp) (ω : Sw) (A : AH) (D : Dw), Inv X pins σ H s → SimS X.K H σ ω → RepA X.K H A → t D ω A →
    wpAny (model X.prog X.w) X.A (execs st X.env) (SPw X pins H D) X.xe s

/-! ### down and up -/
/-- a value wish above, told below -/
def Up (K : PySem.W.Frag) (H : Hp) (Q : VKw) : VK := fun v H' => ∃ w A', TupLe K H H' ∧ RepA K H' A' ∧ rep K H' v w ∧ Q w A'
def UpT (K : PySem.W.Frag) (H : Hp) (Q : Bool → AH → Prop) : Bool → Hp → Prop := fun b H' => ∃ A', TupLe K H H' ∧ RepA K H' A' ∧ Q b A'
def UpA (K : PySem.W.Frag) (H : Hp) (Q : List W → AH → Prop) : List V → Hp → Prop := fun vs H' => ∃ ws A', TupLe K H H' ∧ RepA K H' A' ∧ reps K H' vs ws ∧ Q ws A'
def UpD (K : PySem.W.Frag) (H : Hp) (D : Dw) : Ends where
  nx := fun σ H' => ∃ ω A', TupLe K H H' ∧ SimS K H' σ ω ∧ RepA K H' A' ∧ D.nx ω A'
  bk := fun σ H' => ∃ ω A', TupLe K H H' ∧ SimS K H' σ ω ∧ RepA K H' A' ∧ D.bk ω A'
  ct := fun σ H' => ∃ ω A', TupLe K H H' ∧ SimS K H' σ ω ∧ RepA K H' A' ∧ D.ct ω A'
  rt := Up K H D.rt
/-- a reading above as one below -/
def lo (K : PySem.W.Frag) (t : TEw) : TE := fun σ H Q => ∃ ω A Q', SimS K H σ ω ∧ RepA K H A ∧ t ω A Q' ∧ ∀ v H', Up K H Q' v H' → Q v H'
def loT (K : PySem.W.Frag) (t : TTw) : TT := fun σ H Q => ∃ ω A Q', SimS K H σ ω ∧ RepA K H A ∧ t ω A Q' ∧ ∀ v H', UpT K H Q' v H' → Q v H'
def loA (K : PySem.W.Frag) (t : TAw) : TA := fun σ H Q => ∃ ω A Q', SimS K H σ ω ∧ RepA K H A ∧ t ω A Q' ∧ ∀ v H', UpA K H Q' v H' → Q v H'
def loS (K : PySem.W.Frag) (t : TSw) : TS := fun D σ H => ∃ ω A D', SimS K H σ ω ∧ RepA K H A ∧ t D' ω A ∧ (∀ σ H', (UpD K H D').nx σ H' → D.nx σ H') ∧ (∀ σ H', (UpD K H D').bk σ H' → D.bk σ H') ∧ (∀ σ H', (UpD K H D').ct σ H' → D.ct σ H') ∧ (∀ v H', (UpD K H D').rt v H' → D.rt v H')

section
variable {X : Cx} {e : Expr} {es : List Expr} {st : Stmt} {sts : List Stmt} {t : TEw} {tt : TTw} {ta : TAw} {ts : TSw}
theorem WE.pe (h : WE X e t) : PE X e (lo X.K t) := ⟨fun pins s σ H Q I ⟨ω, A, Q', sm, ra, ht, k⟩ =>
  thn (h.run pins s σ H ω A Q' I sm ra ht) fun u s' ⟨v, H', w, A', I', r, t1, t2, t3, q⟩ => ⟨v, H', I', r, k v H' ⟨w, A', t1, t2, t3, q⟩⟩⟩
theorem WE.of {te : TE} (h : PE X e te) (c : ∀ σ H ω A Q, SimS X.K H σ ω → RepA X.K H A → t ω A Q → te σ H (Up X.K H Q)) : WE X e t := ⟨fun pins s σ H ω A Q I sm ra ht =>
  thn (h.run pins s σ H _ I (c σ H ω A Q sm ra ht)) fun u s' ⟨v, H', I', r, w, A', t1, t2, t3, q⟩ => ⟨v, H', w, A', I', r, t1, t2, t3, q⟩⟩
theorem WT.pt (h : WT X e tt) : PT X e (loT X.K tt) := ⟨fun pins s σ H Q I ⟨ω, A, Q', sm, ra, ht, k⟩ =>
  thn (h.run pins s σ H ω A Q' I sm ra ht) fun u s' ⟨H', A', I', t1, t2, q⟩ => ⟨H', I', k u H' ⟨A', t1, t2, q⟩⟩⟩
theorem WT.of {te : TT} (h : PT X e te) (c : ∀ σ H ω A Q, SimS X.K H σ ω → RepA X.K H A → tt ω A Q → te σ H (UpT X.K H Q)) : WT X e tt := ⟨fun pins s σ H ω A Q I sm ra ht =>
  thn (h.run pins s σ H _ I (c σ H ω A Q sm ra ht)) fun u s' ⟨H', I', A', t1, t2, q⟩ => ⟨H', A', I', t1, t2, q⟩⟩
theorem WA.pa (h : WA X es ta) : PA X es (loA X.K ta) := ⟨fun pos pins s σ H Q I ⟨ω, A, Q', sm, ra, ht, k⟩ =>
  thn (h.run pos pins s σ H ω A Q' I sm ra ht) fun u s' ⟨v, H', w, A', I', r, t1, t2, t3, q⟩ => ⟨v, H', I', r, k v H' ⟨w, A', t1, t2, t3, q⟩⟩⟩
theorem WA.of {te : TA} (h : PA X es te) (c : ∀ σ H ω A Q, SimS X.K H σ ω → RepA X.K H A → ta ω A Q → te σ H (UpA X.K H Q)) : WA X es ta := ⟨fun pos pins s σ H ω A Q I sm ra ht =>
  thn (h.run pos pins s σ H _ I (c σ H ω A Q sm ra ht)) fun u s' ⟨v, H', I', r, w, A', t1, t2, t3, q⟩ => ⟨v, H', w, A', I', r, t1, t2, t3, q⟩⟩
theorem sp_up {pins : List (Addr × Obj)} {H : Hp} {D : Dw} {f : Flow} {s' : Shared} (h : SP X pins (UpD X.K H D) f s') : SPw X pins H D f s' := by
  cases f with
  | next => obtain ⟨σ', H', I', ω', A', a, b, c, d⟩ := h; exact ⟨σ', H', ω', A', I', a, b, c, d⟩
  | brk => obtain ⟨σ', H', I', ω', A', a, b, c, d⟩ := h; exact ⟨σ', H', ω', A', I', a, b, c, d⟩
  | cont => obtain ⟨σ', H', I', ω', A', a, b, c, d⟩ := h; exact ⟨σ', H', ω', A', I', a, b, c, d⟩
  | ret u => obtain ⟨v, σ', H', I', r, w, A', a, b, c, d⟩ := h; exact ⟨v, σ', H', w, A', I', r, a, b, c, d⟩
theorem sp_lo {pins : List (Addr × Obj)} {H : Hp} {D' : Dw} {D : Ends} {f : Flow} {s' : Shared} (h1 : ∀ σ H', (UpD X.K H D').nx σ H' → D.nx σ H') (h2 : ∀ σ H', (UpD X.K H D').bk σ H' → D.bk σ H') (h3 : ∀ σ H', (UpD X.K H D').ct σ H' → D.ct σ H')
    (h4 : ∀ v H', (UpD X.K H D').rt v H' → D.rt v H') (h : SPw X pins H D' f s') : SP X pins D f s' := by
  cases f with
  | next => obtain ⟨σ', H', ω', A', I', a, b, c, d⟩ := h; exact ⟨σ', H', I', h1 _ _ ⟨ω', A', a, b, c, d⟩⟩
  | brk => obtain ⟨σ', H', ω', A', I', a, b, c, d⟩ := h; exact ⟨σ', H', I', h2 _ _ ⟨ω', A', a, b, c, d⟩⟩
  | cont => obtain ⟨σ', H', ω', A', I', a, b, c, d⟩ := h; exact ⟨σ', H', I', h3 _ _ ⟨ω', A', a, b, c, d⟩⟩
  | ret u => obtain ⟨v, σ', H', w, A', I', r, a, b, c, d⟩ := h; exact ⟨v, σ', H', I', r, h4 _ _ ⟨w, A', a, b, c, d⟩⟩
theorem WS.ps (h : WS X st ts) : PS X st (loS X.K ts) := ⟨fun pins s σ H D I ⟨ω, A, D', sm, ra, ht, h1, h2, h3, h4⟩ => thn (h.run pins s σ H ω A D' I sm ra ht) fun f s' q => sp_lo h1 h2 h3 h4 q⟩
theorem WSs.ps (h : WSs X sts ts) : PSs X sts (loS X.K ts) := ⟨fun pins s σ H D I ⟨ω, A, D', sm, ra, ht, h1, h2, h3, h4⟩ => thn (h.run pins s σ H ω A D' I sm ra ht) fun f s' q => sp_lo h1 h2 h3 h4 q⟩
theorem WS.of {te : TS} (h : PS X st te) (c : ∀ D σ H ω A, SimS X.K H σ ω → RepA X.K H A → ts D ω A → te (UpD X.K H D) σ H) : WS X st ts := ⟨fun pins s σ H ω A D I sm ra ht =>
  thn (h.run pins s σ H _ I (c D σ H ω A sm ra ht)) fun f s' q => sp_up q⟩
theorem WSs.of {te : TS} (h : PSs X sts te) (c : ∀ D σ H ω A, SimS X.K H σ ω → RepA X.K H A → ts D ω A → te (UpD X.K H D) σ H) : WSs X sts ts := ⟨fun pins s σ H ω A D I sm ra ht =>
  thn (h.run pins s σ H _ I (c D σ H ω A sm ra ht)) fun f s' q => sp_up q⟩
end
section
variable {K : PySem.W.Frag} {σ : L2.St} {H : Hp} {ω : Sw} {A : AH} {t : TEw} {tt : TTw} {ta : TAw} {ts : TSw}
/-- how a reading above is used below -/
theorem lo_i {Q' : VKw} {Q : VK} (sm : SimS K H σ ω) (ra : RepA K H A) (h : t ω A Q') (k : ∀ v H' w A', TupLe K H H' → SimS K H' σ ω → RepA K H' A' → rep K H' v w → Q' w A' → Q v H') : lo K t σ H Q :=
  ⟨ω, A, Q', sm, ra, h, fun v H' ⟨w, A', t1, t2, t3, q⟩ => k v H' w A' t1 (sm.mono t1) t2 t3 q⟩
theorem loT_i {Q' : Bool → AH → Prop} {Q : Bool → Hp → Prop} (sm : SimS K H σ ω) (ra : RepA K H A) (h : tt ω A Q') (k : ∀ b H' A', TupLe K H H' → SimS K H' σ ω → RepA K H' A' → Q' b A' → Q b H') : loT K tt σ H Q :=
  ⟨ω, A, Q', sm, ra, h, fun v H' ⟨A', t1, t2, q⟩ => k v H' A' t1 (sm.mono t1) t2 q⟩
theorem loA_i {Q' : List W → AH → Prop} {Q : List V → Hp → Prop} (sm : SimS K H σ ω) (ra : RepA K H A) (h : ta ω A Q') (k : ∀ vs H' ws A', TupLe K H H' → SimS K H' σ ω → RepA K H' A' → reps K H' vs ws → Q' ws A' → Q vs H') : loA K ta σ H Q :=
  ⟨ω, A, Q', sm, ra, h, fun v H' ⟨w, A', t1, t2, t3, q⟩ => k v H' w A' t1 (sm.mono t1) t2 t3 q⟩
theorem loS_i {D' : Dw} {D : Ends} (sm : SimS K H σ ω) (ra : RepA K H A) (h : ts D' ω A) (h1 : ∀ σ' H' ω' A', TupLe K H H' → SimS K H' σ' ω' → RepA K H' A' → D'.nx ω' A' → D.nx σ' H')
    (h2 : ∀ σ' H' ω' A', TupLe K H H' → SimS K H' σ' ω' → RepA K H' A' → D'.bk ω' A' → D.bk σ' H') (h3 : ∀ σ' H' ω' A', TupLe K H H' → SimS K H' σ' ω' → RepA K H' A' → D'.ct ω' A' → D.ct σ' H')
    (h4 : ∀ v H' w A', TupLe K H H' → RepA K H' A' → rep K H' v w → D'.rt w A' → D.rt v H') : loS K ts D σ H :=
  ⟨ω, A, D', sm, ra, h, fun σ' H' ⟨ω', A', a, b, c, d⟩ => h1 σ' H' ω' A' a b c d, fun σ' H' ⟨ω', A', a, b, c, d⟩ => h2 σ' H' ω' A' a b c d, fun σ' H' ⟨ω', A', a, b, c, d⟩ => h3 σ' H' ω' A' a b c d,
    fun v H' ⟨w, A', a, b, c, d⟩ => h4 v H' w A' a b c d⟩
theorem Up.trans {H1 : Hp} {Q : VKw} {v : V} {H' : Hp} (a : TupLe K H H1) (u : Up K H1 Q v H') : Up K H Q v H' := let ⟨w, A', t1, t2, t3, q⟩ := u; ⟨w, A', a.trans t1, t2, t3, q⟩
theorem Up.i {Q : VKw} {v : V} {w : W} (ra : RepA K H A) (r : rep K H v w) (q : Q w A) : Up K H Q v H := ⟨w, A, TupLe.refl H, ra, r, q⟩
theorem UpD.trans_nx {D : Dw} {H1 H' : Hp} {σ' : L2.St} (a : TupLe K H H1) (u : (UpD K H1 D).nx σ' H') : (UpD K H D).nx σ' H' := let ⟨w, A', t1, t2, t3, q⟩ := u; ⟨w, A', a.trans t1, t2, t3, q⟩
theorem UpD.trans_bk {D : Dw} {H1 H' : Hp} {σ' : L2.St} (a : TupLe K H H1) (u : (UpD K H1 D).bk σ' H') : (UpD K H D).bk σ' H' := let ⟨w, A', t1, t2, t3, q⟩ := u; ⟨w, A', a.trans t1, t2, t3, q⟩
theorem UpD.trans_ct {D : Dw} {H1 H' : Hp} {σ' : L2.St} (a : TupLe K H H1) (u : (UpD K H1 D).ct σ' H') : (UpD K H D).ct σ' H' := let ⟨w, A', t1, t2, t3, q⟩ := u; ⟨w, A', a.trans t1, t2, t3, q⟩
theorem UpD.trans_rt {D : Dw} {H1 H' : Hp} {v : V} (a : TupLe K H H1) (u : (UpD K H1 D).rt v H') : (UpD K H D).rt v H' := Up.trans a u
/-- a statement's reading is used as the whole's -/
theorem loS_u {D : Dw} {H0 : Hp} (t0 : TupLe K H0 H) (sm : SimS K H σ ω) (ra : RepA K H A) (h : ts D ω A) : loS K ts (UpD K H0 D) σ H :=
  ⟨ω, A, D, sm, ra, h, fun _ _ u => UpD.trans_nx t0 u, fun _ _ u => UpD.trans_bk t0 u, fun _ _ u => UpD.trans_ct t0 u, fun _ _ u => UpD.trans_rt t0 u⟩
theorem lo_u {Q : VKw} {H0 : Hp} (t0 : TupLe K H0 H) (sm : SimS K H σ ω) (ra : RepA K H A) (h : t ω A Q) : lo K t σ H (Up K H0 Q) := ⟨ω, A, Q, sm, ra, h, fun _ _ u => Up.trans t0 u⟩
theorem loT_u {Q : Bool → AH → Prop} {H0 : Hp} (t0 : TupLe K H0 H) (sm : SimS K H σ ω) (ra : RepA K H A) (h : tt ω A Q) : loT K tt σ H (UpT K H0 Q) := ⟨ω, A, Q, sm, ra, h, fun _ _ ⟨A', t1, t2, q⟩ => ⟨A', t0.trans t1, t2, q⟩⟩
end

/-! ### the small rules -/
section
variable {X : Cx} {pos : Pos}
def wVar (i : Nat) : TEw := fun ω A Q => ∃ w, ω[i]? = some (some w) ∧ Q w A
def wC (w : W) : TEw := fun _ A Q => Q w A
theorem we_var {i : Nat} {e : Expr} (h : PE X e (tVar i)) : WE X e (wVar i) := WE.of h fun σ H ω A Q sm ra ⟨w, e, q⟩ => let ⟨v, e', r⟩ := sm.2 i w e; ⟨v, e', Up.i ra r q⟩
theorem we_c {e : Expr} {v : V} {w : W} (h : PE X e (tC v)) (r : ∀ H, rep X.K H v w) : WE X e (wC w) := WE.of h fun σ H ω A Q sm ra q => Up.i ra (r H) q
theorem we_int {i j} : WE X (.Constant (.int i) j pos) (wC (.int i)) := we_c pe_int fun _ => by simp only [rep]
theorem we_bl {b j} : WE X (.Constant (.bool b) j pos) (wC (.bl b)) := we_c pe_bl fun _ => by simp only [rep]
theorem we_non {j} : WE X (.Constant .none j pos) (wC .non) := we_c pe_non fun _ => by simp only [rep]
theorem we_str {x j} : WE X (.Constant (.str x) j pos) (wC (.str x)) := we_c pe_str fun _ => by simp only [rep]
/-- two places -/
abbrev R2w := W → W → AH → VKw → Prop
def OpW (X : Cx) (f : Value → Value → Sem Value) (r : R2w) : Prop :=
  ∀ (pins : List (Addr × Obj)) (s : Shared) (σ : L2.St) (H : Hp) (A : AH) (x y : V) (u v : Value) (a b : W) (Q : VKw), Inv X pins σ H s → RepA X.K H A → RelV x u → RelV y v → rep X.K H x a → rep X.K H y b → r a b A Q →
    wpAny (model X.prog X.w) X.A (f u v) (EPw X pins σ H Q) X.xe s
theorem OpW.of {f : Value → Value → Sem Value} {r2 : R2} {r : R2w} (h : OpR X f r2) (c : ∀ H A x y a b Q, RepA X.K H A → rep X.K H x a → rep X.K H y b → r a b A Q → r2 x y H (Up X.K H Q)) : OpW X f r :=
  fun pins s σ H A x y u v a b Q I ra rx ry ha hb q => thn (h pins s σ H x y u v _ I rx ry (c H A x y a b Q ra ha hb q)) fun _ _ ⟨v, H', I', r, w, A', t1, t2, t3, q⟩ => ⟨v, H', w, A', I', r, t1, t2, t3, q⟩
def wOp (r : R2w) (ta tb : TEw) : TEw := fun ω A Q => ta ω A fun a A1 => tb ω A1 fun b A2 => r a b A2 Q
theorem OpW.opr {f : Value → Value → Sem Value} {r : R2w} (h : OpW X f r) : OpR X f (fun x y H Q => ∃ A a b Q', RepA X.K H A ∧ rep X.K H x a ∧ rep X.K H y b ∧ r a b A Q' ∧ ∀ v H', Up X.K H Q' v H' → Q v H') :=
  fun pins s σ H x y u v Q I rx ry ⟨A, a, b, Q', ra, ha, hb, q, k⟩ => thn (h pins s σ H A x y u v a b Q' I ra rx ry ha hb q) fun _ _ ⟨v, H', w, A', I', r, t1, t2, t3, q⟩ => ⟨v, H', I', r, k v H' ⟨w, A', t1, t2, t3, q⟩⟩
variable {a b e : Expr} {es : List Expr} {ta tb te : TEw} {tA : TAw} {tt tu : TTw}
theorem wop_lo {r : R2w} {σ : L2.St} {H : Hp} {ω : Sw} {A : AH} {Q : VKw} (sm : SimS X.K H σ ω) (ra : RepA X.K H A) (h : wOp r ta tb ω A Q) :
    tOp (fun x y H Q => ∃ A a b Q', RepA X.K H A ∧ rep X.K H x a ∧ rep X.K H y b ∧ r a b A Q' ∧ ∀ v H', Up X.K H Q' v H' → Q v H') (lo X.K ta) (lo X.K tb) σ H (Up X.K H Q) :=
  lo_i sm ra h fun v1 H1 w1 A1 t1 sm1 ra1 r1 h1 => lo_i sm1 ra1 h1 fun v2 H2 w2 A2 t2 sm2 ra2 r2 h2 => ⟨A2, w1, w2, Q, ra2, rep_mono t2 _ _ r1, r2, h2, fun _ _ u => Up.trans (t1.trans t2) u⟩
theorem we_op {op : Operator} {r : R2w} (ho : OpW X (binaryOp op) r) (ha : WE X a ta) (hb : WE X b tb) : WE X (.BinOp a op b pos) (wOp r ta tb) := WE.of (pe_op ho.opr ha.pe hb.pe) fun _ _ _ _ _ sm ra h => wop_lo sm ra h
theorem we_cmp {op : CmpOp} {r : R2w} (ho : OpW X (compareOp op) r) (ha : WE X a ta) (hb : WE X b tb) (hm : behindInMarks op b = false) : WE X (.Compare a [op] [b] pos) (wOp r ta tb) := WE.of (pe_cmpR ho.opr ha.pe hb.pe hm) fun _ _ _ _ _ sm ra h => wop_lo sm ra h
/-- a value that is a bool, as a test -/
def wTest (t : TEw) : TTw := fun ω A Q => t ω A fun w A' => ∃ k, w = .bl k ∧ Q k A'
theorem wt_cmp {op : CmpOp} {r : R2w} (ho : OpW X (compareOp op) r) (ha : WE X a ta) (hb : WE X b tb) (hm : behindInMarks op b = false) : WT X (.Compare a [op] [b] pos) (wTest (wOp r ta tb)) := by
  refine WT.of (pt_cmpR ho.opr ha.pe hb.pe hm) fun σ H ω A Q sm ra h => ?_
  show tOp _ _ _ σ H _
  refine lo_i sm ra h fun v1 H1 w1 A1 t1 sm1 ra1 r1 h1 => lo_i sm1 ra1 h1 fun v2 H2 w2 A2 t2 sm2 ra2 r2 h2 => ⟨A2, w1, w2, _, ra2, rep_mono t2 _ _ r1, r2, h2, fun v H' ⟨w, A', u1, u2, u3, k, e, q⟩ => ?_⟩
  subst e
  simp only [rep] at u3
  exact ⟨k, u3, A', (t1.trans t2).trans u1, u2, q⟩
theorem wt_val (h : WE X e te) (he : ∀ whole, isTrue e X.env whole = (do let v ← whole; standAt e.pos; holding [v] (truthy v)) := by intro _; rfl) : WT X e (wTest te) := by
  refine WT.of (pt_val h.pe he) fun σ H ω A Q sm ra hq => lo_i sm ra hq fun v H' w A' t1 _ ra' r ⟨k, e, q⟩ => ?_
  subst e
  simp only [rep] at r
  exact ⟨k, r, A', t1, ra', q⟩
/-! and, or, not -/
structure WW (X : Cx) (e : Expr) (t : TTw) : Prop where
  run : PW X e (loT X.K t)
def wAnd (t u : TTw) : TTw := fun ω A Q => t ω A fun c A1 => if c = true then u ω A1 Q else Q false A1
def wOr (t u : TTw) : TTw := fun ω A Q => t ω A fun c A1 => if c = true then Q true A1 else u ω A1 Q
def wNot (t : TTw) : TTw := fun ω A Q => t ω A fun c A1 => Q (!c) A1
theorem PW.imp {e : Expr} {t u : TT} (h : PW X e t) (c : ∀ σ H Q, u σ H Q → t σ H Q) : PW X e u := ⟨fun wh pins s σ H Q I q => h.run wh pins s σ H Q I (c σ H Q q)⟩
theorem WW.wt (h : WW X e tt) : WT X e tt := WT.of h.run.pt fun σ H ω A Q sm ra q => loT_u (TupLe.refl H) sm ra q
theorem ww_and1 (ha : WT X a tt) : WW X (.BoolOp .And [a] pos) tt := ⟨pw_and1 ha.pt⟩
theorem ww_or1 (ha : WT X a tt) : WW X (.BoolOp .Or [a] pos) tt := ⟨pw_or1 ha.pt⟩
theorem ww_and {rest : List Expr} (ha : WT X a tt) (hb : WW X (.BoolOp .And (b :: rest) pos) tu) : WW X (.BoolOp .And (a :: b :: rest) pos) (wAnd tt tu) := ⟨PW.imp (pw_and ha.pt hb.run) fun σ H Q ⟨ω, A, Q', sm, ra, h, k⟩ =>
  loT_i sm ra h fun c H1 A1 t1 sm1 ra1 h1 => by
    cases c with
    | true => exact loT_i sm1 ra1 h1 fun d H2 A2 t2 _ ra2 q => k d H2 ⟨A2, t1.trans t2, ra2, q⟩
    | false => exact k false H1 ⟨A1, t1, ra1, h1⟩⟩
theorem ww_or {rest : List Expr} (ha : WT X a tt) (hb : WW X (.BoolOp .Or (b :: rest) pos) tu) : WW X (.BoolOp .Or (a :: b :: rest) pos) (wOr tt tu) := ⟨PW.imp (pw_or ha.pt hb.run) fun σ H Q ⟨ω, A, Q', sm, ra, h, k⟩ =>
  loT_i sm ra h fun c H1 A1 t1 sm1 ra1 h1 => by
    cases c with
    | false => exact loT_i sm1 ra1 h1 fun d H2 A2 t2 _ ra2 q => k d H2 ⟨A2, t1.trans t2, ra2, q⟩
    | true => exact k true H1 ⟨A1, t1, ra1, h1⟩⟩
theorem wt_not (ha : WT X a tt) : WT X (.UnaryOp .Not a pos) (wNot tt) := WT.of (pt_not ha.pt) fun σ H ω A Q sm ra h => loT_i sm ra h fun c H1 A1 t1 sm1 ra1 h1 => ⟨A1, t1, ra1, h1⟩
/-! as values: all but the last a bool -/
def wAndV (ta tb : TEw) : TEw := fun ω A Q => ta ω A fun x A1 => ∃ c, x = .bl c ∧ if c = true then tb ω A1 Q else Q (.bl false) A1
def wOrV (ta tb : TEw) : TEw := fun ω A Q => ta ω A fun x A1 => ∃ c, x = .bl c ∧ if c = true then Q (.bl true) A1 else tb ω A1 Q
def wNotV (ta : TEw) : TEw := fun ω A Q => ta ω A fun x A1 => ∃ c, x = .bl c ∧ Q (.bl (!c)) A1
theorem we_one {op} (h : WE X a ta) : WE X (.BoolOp op [a] pos) ta := WE.of (pe_one h.pe) fun σ H ω A Q sm ra q => lo_u (TupLe.refl H) sm ra q
theorem we_and {rest : List Expr} (ha : WE X a ta) (hb : WE X (.BoolOp .And (b :: rest) pos) tb) : WE X (.BoolOp .And (a :: b :: rest) pos) (wAndV ta tb) := WE.of (pe_and ha.pe hb.pe) fun σ H ω A Q sm ra h => lo_i sm ra h fun v H1 w A1 t1 sm1 ra1 r ⟨c, e, h1⟩ => by
  subst e
  simp only [rep] at r
  refine ⟨c, r, ?_⟩
  cases c with
  | true => exact lo_u t1 sm1 ra1 h1
  | false => exact ⟨.bl false, A1, t1, ra1, by simp only [rep], h1⟩
theorem we_or {rest : List Expr} (ha : WE X a ta) (hb : WE X (.BoolOp .Or (b :: rest) pos) tb) : WE X (.BoolOp .Or (a :: b :: rest) pos) (wOrV ta tb) := WE.of (pe_or ha.pe hb.pe) fun σ H ω A Q sm ra h => lo_i sm ra h fun v H1 w A1 t1 sm1 ra1 r ⟨c, e, h1⟩ => by
  subst e
  simp only [rep] at r
  refine ⟨c, r, ?_⟩
  cases c with
  | false => exact lo_u t1 sm1 ra1 h1
  | true => exact ⟨.bl true, A1, t1, ra1, by simp only [rep], h1⟩
theorem we_not (ha : WE X a ta) : WE X (.UnaryOp .Not a pos) (wNotV ta) := WE.of (pe_not ha.pe) fun σ H ω A Q sm ra h => lo_i sm ra h fun v H1 w A1 t1 sm1 ra1 r ⟨c, e, h1⟩ => by
  subst e
  simp only [rep] at r
  exact ⟨c, r, .bl (!c), A1, t1, ra1, by simp only [rep], h1⟩
def wIf (t : TTw) (ta tb : TEw) : TEw := fun ω A Q => t ω A fun c A1 => if c = true then ta ω A1 Q else tb ω A1 Q
theorem we_if {c : Expr} (hc : WT X c tt) (ha : WE X a ta) (hb : WE X b tb) : WE X (.IfExp c a b pos) (wIf tt ta tb) := WE.of (pe_ifExp hc.pt ha.pe hb.pe) fun σ H ω A Q sm ra h => loT_i sm ra h fun c H1 A1 t1 sm1 ra1 h1 => by
  cases c with
  | true => exact lo_u t1 sm1 ra1 h1
  | false => exact lo_u t1 sm1 ra1 h1
/-! arguments, displays -/
def wNil : TAw := fun _ A Q => Q [] A
def wCons (te : TEw) (tr : TAw) : TAw := fun ω A Q => te ω A fun w A1 => tr ω A1 fun ws A2 => Q (w :: ws) A2
theorem wa_nil : WA X [] wNil := WA.of pa_nil fun σ H ω A Q sm ra h => ⟨[], A, TupLe.refl H, ra, reps_nil, h⟩
theorem wa_cons (ha : WE X e te) (hr : WA X es tA) (hs : starEach (e :: es) X.env = (false, eval e X.env) :: starEach es X.env := by rfl) : WA X (e :: es) (wCons te tA) :=
  WA.of (pa_cons ha.pe hr.pa hs) fun σ H ω A Q sm ra h => lo_i sm ra h fun v H1 w A1 t1 sm1 ra1 r h1 => loA_i sm1 ra1 h1 fun vs H2 ws A2 t2 _ ra2 r2 q => ⟨w :: ws, A2, t1.trans t2, ra2, reps_cons (rep_mono t2 _ _ r) r2, q⟩
def wTup (t : TAw) : TEw := fun ω A Q => t ω A fun ws A1 => ws.length ≤ sizeLine ∧ Q (.tup ws) A1
def wLst (t : TAw) : TEw := fun ω A Q => t ω A fun ws A1 => ws.length ≤ sizeLine ∧ ∀ p, A1.h p = none → Q (.ref p) (A1.put p (.lst ws))
theorem rep_tup {K : PySem.W.Frag} {H : Hp} {p : Addr} {vs : List V} {ws : List W} (h : H p = some (.tup vs)) (r : reps K H vs ws) : rep K H (.ref p) (.tup ws) := by
  simp only [rep]
  exact ⟨p, vs, rfl, h, r⟩
theorem we_tup {k : Nat} (h : WA X es tA) : WE X (.Tuple es k pos) (wTup tA) := WE.of (pe_tup h.pa) fun σ H ω A Q sm ra hq => loA_i sm ra hq fun vs H1 ws A1 t1 sm1 ra1 r ⟨z, q⟩ =>
  ⟨by rw [reps_length r]; exact z, fun p hp => ⟨.tup ws, A1, t1.trans (tupLe_new hp), ra1.new0 hp, rep_tup upd_same (reps_mono (tupLe_new hp) _ _ r), q⟩⟩
theorem we_lst (h : WA X es tA) : WE X (.List es pos) (wLst tA) := WE.of (pe_lst h.pa) fun σ H ω A Q sm ra hq => loA_i sm ra hq fun vs H1 ws A1 t1 sm1 ra1 r ⟨z, q⟩ =>
  ⟨by rw [reps_length r]; exact z, fun p hp => ⟨.ref p, _, t1.trans (tupLe_new hp), ra1.new (wo := .lst ws) hp ⟨vs, upd_same, reps_mono (tupLe_new hp) _ _ r⟩, by simp only [rep], q p (ra1.fresh hp)⟩⟩
end
end Wx

set_option Elab.async false
set_option linter.all false
set_option maxRecDepth 100000
set_option maxHeartbeats 4000000
/-! WX3: targets, statements, what is walked, loops. -/
namespace Wx
open PySem L2

/-! ### targets -/
abbrev TGw := W → Sw → AH → (Sw → AH → Prop) → Prop
abbrev TGsw := List W → Sw → AH → (Sw → AH → Prop) → Prop
def UpS (K : PySem.W.Frag) (H : Hp) (Q : Sw → AH → Prop) : L2.St → Hp → Prop := fun σ' H' => ∃ ω' A', TupLe K H H' ∧ SimS K H' σ' ω' ∧ RepA K H' A' ∧ Q ω' A'
def loG (K : PySem.W.Frag) (t : TGw) : TG := fun v σ H Q => ∃ w ω A Q', rep K H v w ∧ SimS K H σ ω ∧ RepA K H A ∧ t w ω A Q' ∧ ∀ σ' H', UpS K H Q' σ' H' → Q σ' H'
def loGs (K : PySem.W.Frag) (t : TGsw) : TGs := fun vs σ H Q => ∃ ws ω A Q', reps K H vs ws ∧ SimS K H σ ω ∧ RepA K H A ∧ t ws ω A Q' ∧ ∀ σ' H', UpS K H Q' σ' H' → Q σ' H'
structure WG (X : Cx) (tg : Expr) (t : TGw) : Prop where
  pg : PG X tg (loG X.K t)
structure WGs (X : Cx) (tgs : List Expr) (t : TGsw) : Prop where
  pgs : PGs X tgs (loGs X.K t)
theorem PG.imp {X : Cx} {tg : Expr} {t u : TG} (h : PG X tg t) (c : ∀ v σ H Q, u v σ H Q → t v σ H Q) : PG X tg u := ⟨fun pins s σ H v u' Q I r q => h.run pins s σ H v u' Q I r (c v σ H Q q)⟩
theorem PGs.imp {X : Cx} {tg : List Expr} {t u : TGs} (h : PGs X tg t) (c : ∀ v σ H Q, u v σ H Q → t v σ H Q) : PGs X tg u := ⟨fun pins s σ H v u' Q I r q => h.run pins s σ H v u' Q I r (c v σ H Q q)⟩
section
variable {X : Cx} {pos : Pos} {K : PySem.W.Frag} {tg : Expr} {tgs : List Expr} {g : TGw} {gs : TGsw}
theorem UpS.i {H : Hp} {Q : Sw → AH → Prop} {σ : L2.St} {ω : Sw} {A : AH} (sm : SimS K H σ ω) (ra : RepA K H A) (q : Q ω A) : UpS K H Q σ H := ⟨ω, A, TupLe.refl H, sm, ra, q⟩
theorem loG_i {H : Hp} {v : V} {w : W} {σ : L2.St} {ω : Sw} {A : AH} {Q' : Sw → AH → Prop} {Q : L2.St → Hp → Prop} (r : rep K H v w) (sm : SimS K H σ ω) (ra : RepA K H A) (h : g w ω A Q')
    (k : ∀ σ' H' ω' A', TupLe K H H' → SimS K H' σ' ω' → RepA K H' A' → Q' ω' A' → Q σ' H') : loG K g v σ H Q := ⟨w, ω, A, Q', r, sm, ra, h, fun σ' H' ⟨ω', A', a, b, c, d⟩ => k σ' H' ω' A' a b c d⟩
theorem loGs_i {H : Hp} {v : List V} {w : List W} {σ : L2.St} {ω : Sw} {A : AH} {Q' : Sw → AH → Prop} {Q : L2.St → Hp → Prop} (r : reps K H v w) (sm : SimS K H σ ω) (ra : RepA K H A) (h : gs w ω A Q')
    (k : ∀ σ' H' ω' A', TupLe K H H' → SimS K H' σ' ω' → RepA K H' A' → Q' ω' A' → Q σ' H') : loGs K gs v σ H Q := ⟨w, ω, A, Q', r, sm, ra, h, fun σ' H' ⟨ω', A', a, b, c, d⟩ => k σ' H' ω' A' a b c d⟩
def wgName (i : Nat) : TGw := fun w ω A Q => Q (ω.set i (some w)) A
theorem wg_name {i : Nat} {x : Str} (hN : X.N.Nodup) (hi : X.N[i]? = some x) (hx : Loc X.env.scope x) (hf : X.fn x = true ∨ X.env.scope.names.lookup x = some .local := by first | exact .inl rfl | exact .inr rfl | assumption) : WG X (.Name x pos) (wgName i) :=
  ⟨PG.imp (pg_name hN hi hx hf) fun v σ H Q ⟨w, ω, A, Q', r, sm, ra, h, k⟩ => k _ _ (UpS.i (sm.set r) ra h)⟩
def wgNil : TGsw := fun ws ω A Q => ws = [] ∧ Q ω A
def wgCons (t : TGw) (u : TGsw) : TGsw := fun ws ω A Q => ∃ w r, ws = w :: r ∧ t w ω A fun ω' A' => u r ω' A' Q
theorem wgs_nil : WGs X [] wgNil := ⟨PGs.imp pgs_nil fun v σ H Q ⟨w, ω, A, Q', r, sm, ra, ⟨e, h⟩, k⟩ => ⟨by subst e; exact reps_unnil r, k _ _ (UpS.i sm ra h)⟩⟩
theorem wgs_cons (h1 : WG X tg g) (h2 : WGs X tgs gs) (hs : (assignEach (tg :: tgs) X.env).map (·.2) = assign tg X.env :: (assignEach tgs X.env).map (·.2) := by rfl) : WGs X (tg :: tgs) (wgCons g gs) :=
  ⟨PGs.imp (pgs_cons h1.pg h2.pgs hs) fun v σ H Q ⟨w, ω, A, Q', r, sm, ra, ⟨w0, wr, e, h⟩, k⟩ => by
    subst e
    obtain ⟨v0, vr, rfl, r0, rr⟩ := reps_uncons r
    exact ⟨v0, vr, rfl, loG_i r0 sm ra h fun σ1 H1 ω1 A1 t1 sm1 ra1 h1 => loGs_i (reps_mono t1 _ _ rr) sm1 ra1 h1 fun σ2 H2 ω2 A2 t2 sm2 ra2 q => k _ _ ⟨ω2, A2, t1.trans t2, sm2, ra2, q⟩⟩⟩
def wgTup (n : Nat) (t : TGsw) : TGw := fun w ω A Q => ∃ ws, w = .tup ws ∧ ws.length = n ∧ t ws ω A Q
theorem wg_tup {k n : Nat} (hc : X.calm = true) (h : WGs X tgs gs) (hn : (assignEach tgs X.env).length = n := by rfl) (hst : (assignEach tgs X.env).findIdx? (·.1) = none := by rfl) : WG X (.Tuple tgs k pos) (wgTup n gs) :=
  ⟨PG.imp (pg_tup hc h.pgs hn hst) fun v σ H Q ⟨w, ω, A, Q', r, sm, ra, ⟨ws, e, l, h⟩, k⟩ => by
    subst e
    simp only [rep] at r
    obtain ⟨a, vs, e, s, rs⟩ := r
    exact ⟨a, vs, e, SqT.of s, (reps_length rs).trans l, loGs_i rs sm ra h fun σ1 H1 ω1 A1 t1 sm1 ra1 q => k _ _ ⟨ω1, A1, t1, sm1, ra1, q⟩⟩⟩
end

/-! ### statements -/
section
variable {X : Cx} {pos : Pos} {st : Stmt} {sts : List Stmt} {e : Expr} {te : TEw} {t u : TSw} {tt : TTw} {g : TGw} {tg : Expr}
def wNext : TSw := fun D ω A => D.nx ω A
def wSeq (t u : TSw) : TSw := fun D ω A => t { D with nx := u D } ω A
def wBrk : TSw := fun D ω A => D.bk ω A
def wCont : TSw := fun D ω A => D.ct ω A
theorem wss_nil : WSs X [] wNext := WSs.of pss_nil fun D σ H ω A sm ra h => ⟨ω, A, TupLe.refl H, sm, ra, h⟩
theorem wss_cons (h1 : WS X st t) (h2 : WSs X sts u) : WSs X (st :: sts) (wSeq t u) := WSs.of (pss_cons h1.ps h2.ps) fun D σ H ω A sm ra h =>
  loS_i sm ra h (fun σ' H' ω' A' t1 sm1 ra1 q => loS_u t1 sm1 ra1 q) (fun σ' H' ω' A' t1 sm1 ra1 q => ⟨ω', A', t1, sm1, ra1, q⟩) (fun σ' H' ω' A' t1 sm1 ra1 q => ⟨ω', A', t1, sm1, ra1, q⟩) (fun v H' w A' t1 ra1 r q => ⟨w, A', t1, ra1, r, q⟩)
theorem wss_one (h1 : WS X st t) : WSs X [st] t := WSs.of (pss_one h1.ps) fun D σ H ω A sm ra h => loS_u (TupLe.refl H) sm ra h
theorem ws_pass : WS X (.Pass pos) wNext := WS.of ps_pass fun D σ H ω A sm ra h => ⟨ω, A, TupLe.refl H, sm, ra, h⟩
theorem ws_break : WS X (.Break pos) wBrk := WS.of ps_break fun D σ H ω A sm ra h => ⟨ω, A, TupLe.refl H, sm, ra, h⟩
theorem ws_continue : WS X (.Continue pos) wCont := WS.of ps_continue fun D σ H ω A sm ra h => ⟨ω, A, TupLe.refl H, sm, ra, h⟩
def wDrop (te : TEw) : TSw := fun D ω A => te ω A fun _ A1 => D.nx ω A1
theorem ws_expr (he : WE X e te) (hs : swapsWith e none pos.line X.env = pure false := by rfl) : WS X (.Expr e pos) (wDrop te) := WS.of (ps_expr he.pe hs) fun D σ H ω A sm ra h =>
  lo_i sm ra h fun v H1 w A1 t1 sm1 ra1 r q => ⟨ω, A1, t1, sm1, ra1, q⟩
def wRet (te : TEw) : TSw := fun D ω A => te ω A D.rt
theorem ws_ret (he : WE X e te) : WS X (.Return (some e) pos) (wRet te) := WS.of (ps_ret he.pe) fun D σ H ω A sm ra h => lo_u (TupLe.refl H) sm ra h
def wRetN : TSw := fun D _ A => D.rt .non A
theorem ws_retN : WS X (.Return none pos) wRetN := WS.of ps_retN fun D σ H ω A sm ra h => Up.i ra (by simp only [rep]) h
def wIfS (c : TTw) (t u : TSw) : TSw := fun D ω A => c ω A fun b A1 => if b = true then t D ω A1 else u D ω A1
theorem ws_if {c : Expr} {a b : List Stmt} (hc : WT X c tt) (ha : WSs X a t) (hb : WSs X b u) : WS X (.If c a b pos) (wIfS tt t u) := WS.of (ps_if hc.pt ha.ps hb.ps) fun D σ H ω A sm ra h =>
  loT_i sm ra h fun c H1 A1 t1 sm1 ra1 q => by
    cases c with
    | true => exact loS_u t1 sm1 ra1 q
    | false => exact loS_u t1 sm1 ra1 q
def wAsg (te : TEw) (g : TGw) : TSw := fun D ω A => te ω A fun w A1 => g w ω A1 D.nx
theorem ws_asg (he : WE X e te) (hg : WG X tg g) (hs : swapsWithSole [tg] e pos.line X.env = pure false := by rfl) (hw : swappedStores [tg] e X.env = pure none := by rfl)
    (h1 : (assignEach [tg] X.env).map (·.2) = [assign tg X.env] := by rfl) : WS X (.Assign [tg] e pos) (wAsg te g) := WS.of (ps_asg he.pe hg.pg hs hw h1) fun D σ H ω A sm ra h =>
  lo_i sm ra h fun v H1 w A1 t1 sm1 ra1 r q => loG_i r sm1 ra1 q fun σ2 H2 ω2 A2 t2 sm2 ra2 q2 => ⟨ω2, A2, t1.trans t2, sm2, ra2, q2⟩
theorem ws_set {i : Nat} {x : Str} {pos' : Pos} (hN : X.N.Nodup) (hi : X.N[i]? = some x) (hx : Loc X.env.scope x) (he : WE X e te) (hs : swapsWith e (some (.Name x pos')) pos.line X.env = pure false := by rfl) (hf : X.fn x = true ∨ X.env.scope.names.lookup x = some .local := by first | exact .inl rfl | exact .inr rfl | assumption) :
    WS X (.Assign [.Name x pos'] e pos) (wAsg te (wgName i)) := WS.of (ps_set hN hi hx he.pe hs hf) fun D σ H ω A sm ra h =>
  lo_i sm ra h fun v H1 w A1 t1 sm1 ra1 r q => ⟨ω.set i (some w), A1, t1, sm1.set r, ra1, q⟩
/-- a, b = x, y -/
def wPar (i j : Nat) (ta : TAw) : TSw := fun D ω A => ta ω A fun ws A1 => ∃ v w, ws = [v, w] ∧ D.nx ((ω.set i (some v)).set j (some w)) A1
theorem ws_par {i j : Nat} {x y : Str} {a b : Expr} {ta : TAw} {px py pt : Pos} {kt k2 pt2} (hc : X.calm = true) (hN : X.N.Nodup) (hi : X.N[i]? = some x) (hj : X.N[j]? = some y) (hij : i ≠ j)
    (hx : X.env.scope.names.lookup x = some .local) (hy : X.env.scope.names.lookup y = some .local) (ha : WA X [a, b] ta)
    (hw : swappedStores [.Tuple [.Name x px, .Name y py] kt pt] (.Tuple [a, b] k2 pt2) X.env = pure (some [x, y]))
    (hs : swapsWithSole [.Tuple [.Name x px, .Name y py] kt pt] (.Tuple [a, b] k2 pt2) pos.line X.env = pure false := by rfl) :
    WS X (.Assign [.Tuple [.Name x px, .Name y py] kt pt] (.Tuple [a, b] k2 pt2) pos) (wPar i j ta) := WS.of (ps_par hc hN hi hj hij hx hy ha.pa hw hs) fun D σ H ω A sm ra h =>
  loA_i sm ra h fun vs H1 ws A1 t1 sm1 ra1 r ⟨v, w, e, q⟩ => by
    subst e
    obtain ⟨v1, r1, rfl, h1, r⟩ := reps_uncons r
    obtain ⟨v2, r2, rfl, h2, r⟩ := reps_uncons r
    obtain rfl := reps_unnil r
    exact ⟨v1, v2, rfl, _, A1, t1, (sm1.set h1).set h2, ra1, q⟩
/-- x op= e -/
def wAug (i : Nat) (te : TEw) (r : R2w) : TSw := fun D ω A => ∃ x, ω[i]? = some (some x) ∧ te ω A fun y A1 => r x y A1 fun z A2 => D.nx (ω.set i (some z)) A2
theorem ws_aug {i : Nat} {x : Str} {op : Operator} {r : R2w} {pos' : Pos} (hN : X.N.Nodup) (hi : X.N[i]? = some x) (hx : Loc X.env.scope x) (he : WE X e te) (ho : OpW X (inplaceOp op) r) (hf : X.fn x = true ∨ X.env.scope.names.lookup x = some .local := by first | exact .inl rfl | exact .inr rfl | assumption) :
    WS X (.AugAssign (.Name x pos') op e pos) (wAug i te r) := by
  have hp : PIp X op (fun x y H Q => ∃ A a b Q', RepA X.K H A ∧ rep X.K H x a ∧ rep X.K H y b ∧ r a b A Q' ∧ ∀ v H', Up X.K H Q' v H' → Q v H') := fun pins s σ H x y v u Q I rx ry q => ho.opr pins s σ H x y v u Q I rx ry q
  refine WS.of (ps_aug hN hi hx he.pe hp hf) fun D σ H ω A sm ra ⟨x0, e0, h⟩ => ?_
  obtain ⟨v0, e1, r0⟩ := sm.2 i x0 e0
  exact ⟨v0, e1, lo_i sm ra h fun v H1 w A1 t1 sm1 ra1 r1 q => ⟨A1, x0, w, _, ra1, rep_mono t1 _ _ r0, r1, q, fun v2 H2 ⟨w2, A2, t2, ra2, r2, q2⟩ => ⟨ω.set i (some w2), A2, t1.trans t2, (sm1.mono t2).set r2, ra2, q2⟩⟩⟩
/-- what is known may be forgotten -/
def wFg (t : TEw) : TEw := fun ω A Q => t ω A fun w A' => ∃ A'', A''.Sub A' ∧ Q w A''
theorem we_fg (h : WE X e te) : WE X e (wFg te) := ⟨fun pins s σ H ω A Q I sm ra ht => thn (h.run pins s σ H ω A _ I sm ra ht) fun u s' ⟨v, H', w, A', I', r, t1, t2, t3, A'', sb, q⟩ => ⟨v, H', w, A'', I', r, t1, t2.sub sb, t3, q⟩⟩
def wFgS (t : TSw) : TSw := fun D ω A => ∃ A', A'.Sub A ∧ t D ω A'
theorem ws_fg (h : WS X st t) : WS X st (wFgS t) := ⟨fun pins s σ H ω A D I sm ra ⟨A', sb, ht⟩ => h.run pins s σ H ω A' D I sm (ra.sub sb) ht⟩
theorem wss_fg (h : WSs X sts t) : WSs X sts (wFgS t) := ⟨fun pins s σ H ω A D I sm ra ⟨A', sb, ht⟩ => h.run pins s σ H ω A' D I sm (ra.sub sb) ht⟩
theorem wss_never : WSs X sts (fun _ _ _ => False) := ⟨fun _ _ _ _ _ _ _ _ _ _ h => h.elim⟩
end

/-! ### what is walked -/
abbrev TIw := Sw → AH → (List W → (AH → Prop) → AH → Prop) → Prop
/-- J draws the items while g stands; H0: where it began -/
structure Draws (K : PySem.W.Frag) (H0 : Hp) (J : It) (items : List W) (g : AH → Prop) : Prop where
  stop : ∀ i H A, TupLe K H0 H → RepA K H A → g A → items.length ≤ i → J.stop i H
  go : ∀ i H A w, TupLe K H0 H → RepA K H A → g A → items[i]? = some w → J.go i H
  yld : ∀ i H A w x H', TupLe K H0 H → RepA K H A → g A → items[i]? = some w → J.yld i H x H' → TupLe K H H' ∧ RepA K H' A ∧ rep K H' x w
def loI (K : PySem.W.Frag) (t : TIw) : TI := fun σ H R => ∃ ω A R', SimS K H σ ω ∧ RepA K H A ∧ t ω A R' ∧ ∀ J H' items g A', TupLe K H H' → SimS K H' σ ω → RepA K H' A' → Draws K H' J items g → R' items g A' → R J H'
structure WI (X : Cx) (tg iter : Expr) (t : TIw) : Prop where
  pi : PI X tg iter (loI X.K t)
theorem PI.imp {X : Cx} {tg iter : Expr} {t u : TI} (h : PI X tg iter t) (c : ∀ σ H R, u σ H R → t σ H R) : PI X tg iter u := ⟨fun pins s σ H R I q => h.run pins s σ H R I (c σ H R q)⟩

def isL (A : AH) (a : Addr) (ws : List W) : Prop := A.h a = some (.lst ws) ∨ A.h a = some (.rol ws)
theorem isL.sq {K : PySem.W.Frag} {H : Hp} {A : AH} {a : Addr} {ws : List W} (h : isL A a ws) (ra : RepA K H A) : ∃ vs, SqL K H a vs ∧ reps K H vs ws := by
  rcases h with h | h
  · obtain ⟨vs, e, r⟩ := ra.1 a _ h
    exact ⟨vs, SqL.of e, r⟩
  · obtain ⟨vs, e, r⟩ := ra.1 a _ h
    exact ⟨vs, .inl e, r⟩
section
variable {X : Cx} {pos : Pos} {tg l : Expr} {te : TEw}
/-! the items of a value -/
def signs (z : Str) : List W := z.cps.toList.map fun c => .str ⟨#[c]⟩
def iterW (w : W) (A : AH) (R : List W → (AH → Prop) → AH → Prop) : Prop := match w with
  | .tup ws => R ws (fun _ => True) A
  | .ktup ws => R ws (fun _ => True) A
  | .str z => R (signs z) (fun _ => True) A
  | .ref a => ∃ ws, isL A a ws ∧ R ws (fun A' => isL A' a ws) A
  | _ => False
def wIt (te : TEw) : TIw := fun ω A R => te ω A fun w A1 => iterW w A1 R
/-- an iterable of a kind that is not known ahead -/
theorem pi_dyn {tl : TE} (hl : PE X l tl) : PI X tg l (fun σ H R => tl σ H fun x H1 => (∃ a xs, x = .ref a ∧ SqL X.K H1 a xs ∧ R (Itl X.K a) H1) ∨ (∃ a xs, x = .ref a ∧ SqT X.K H1 a xs ∧ R (Itt X.K a) H1) ∨ (∃ z, x = .str z ∧ R (Its z) H1)) := by
  refine ⟨fun pins s σ H R I h => ?_⟩
  refine thn (hl.run pins s σ H _ I h) fun v s1 ⟨x, H1, I1, r1, q1⟩ => ?_
  have back : ∀ {u : V} {tl' : TE}, RelV u v → tl' σ H1 (fun x' H' => x' = u ∧ H' = H1) → True := fun _ _ => trivial
  rcases q1 with ⟨a, xs, e, hq, q⟩ | ⟨a, xs, e, hq, q⟩ | ⟨z, e, q⟩
  · subst e
    cases r1
    have hp : PE X l (fun σ' H' Q => ∀ pins' s', Inv X pins' σ' H' s' → wpAny (model X.prog X.w) X.A (eval l X.env) (EP X pins' σ' Q) X.xe s') := ⟨fun pins' s' σ' H' Q I' q' => q' pins' s' I'⟩
    obtain ⟨its, rv, p, hz⟩ := I1.list hq
    refine PySem.wpAny_pyIter_list p.isList ?_
    refine ⟨s1.heap.objs.size, [s1.heap.objs.size], _, _, H1, rfl, I1.kept (t' := s1.toks) fun b o e => Heap.get?_push_of_some _ e, turn_list a _, ⟨_, Heap.get?_push_size _ rfl, rfl, rfl⟩, fun b hb => ?_, q⟩
    have e : b = s1.heap.objs.size := by simpa using hb
    subst e
    exact I1.fpOk (Nat.le_refl _) (I1.hok.fresh (Nat.le_refl _))
  · subst e
    cases r1
    obtain ⟨its, rv, p, hz⟩ := I1.tuple hq
    refine PySem.wpAny_pyIter_tuple (show s1.heap.IsTuple a its.toArray from p) ?_
    refine ⟨s1.heap.objs.size, [s1.heap.objs.size], _, _, H1, rfl, I1.kept (t' := s1.toks) fun b o e => Heap.get?_push_of_some _ e, turn_tuple a _, ⟨_, Heap.get?_push_size _ rfl, rfl, rfl⟩, fun b hb => ?_, q⟩
    have e : b = s1.heap.objs.size := by simpa using hb
    subst e
    exact I1.fpOk (Nat.le_refl _) (I1.hok.fresh (Nat.le_refl _))
  · subst e
    obtain ⟨t, rfl⟩ := r1
    cases ha : z.cps.all (· < 128)
    · exact wpAny_pyIter_wide ha (pi_one (tk := s1.toks) I1 _ (turn_str _ z t "str_iterator" (.inr rfl)) ⟨_, Heap.get?_push_size _ rfl, rfl, rfl⟩ q)
    · exact wpAny_pyIter_ascii ha (pi_one (tk := s1.toks) I1 _ (turn_str _ z t "str_ascii_iterator" (.inl rfl)) ⟨_, Heap.get?_push_size _ rfl, rfl, rfl⟩ q)
theorem draws_list {K : PySem.W.Frag} {H : Hp} {a : Addr} {vs : List V} {ws : List W} (r : reps K H vs ws) : Draws K H (Itl K a) ws (fun A => isL A a ws) where
  stop := fun i H' A t ra g hl => by
    obtain ⟨us, hs, r'⟩ := g.sq ra
    exact ⟨us, hs, by rw [reps_length r']; exact hl⟩
  go := fun i H' A w t ra g e => by
    obtain ⟨us, hs, r'⟩ := g.sq ra
    obtain ⟨v, ev, _⟩ := reps_get r' e
    exact ⟨us, v, hs, ev⟩
  yld := fun i H' A w x H2 t ra g e y => by
    obtain ⟨us, hs, r'⟩ := g.sq ra
    obtain ⟨v, ev, rv⟩ := reps_get r' e
    obtain ⟨e2, y⟩ := y
    subst e2
    have := y us hs
    rw [ev] at this
    cases this
    exact ⟨TupLe.refl _, ra, rv⟩
theorem draws_tup {K : PySem.W.Frag} {H : Hp} {a : Addr} {vs : List V} {ws : List W} (hs : SqT K H a vs) (r : reps K H vs ws) : Draws K H (Itt K a) ws (fun _ => True) where
  stop := fun i H' A t ra g hl => ⟨vs, t.sq hs, by rw [reps_length r]; exact hl⟩
  go := fun i H' A w t ra g e => by
    obtain ⟨v, ev, _⟩ := reps_get r e
    exact ⟨vs, v, t.sq hs, ev⟩
  yld := fun i H' A w x H2 t ra g e y => by
    obtain ⟨v, ev, rv⟩ := reps_get r e
    obtain ⟨e2, y⟩ := y
    subst e2
    have := y vs (t.sq hs)
    rw [ev] at this
    cases this
    exact ⟨TupLe.refl _, ra, rep_mono t _ _ rv⟩
theorem signs_get {z : Str} {i : Nat} {w : W} (h : (signs z)[i]? = some w) : ∃ c, z.cps[i]? = some c ∧ w = .str ⟨#[c]⟩ := by
  unfold signs at h
  rw [List.getElem?_map] at h
  cases e : z.cps.toList[i]? with
  | none => rw [e] at h; cases h
  | some c => rw [e] at h; cases h; exact ⟨c, by simpa using e, rfl⟩
theorem draws_str {K : PySem.W.Frag} {H : Hp} {z : Str} : Draws K H (Its z) (signs z) (fun _ => True) where
  stop := fun i H' A t ra g hl => by
    show z.cps.size ≤ i
    unfold signs at hl
    simpa using hl
  go := fun i H' A w t ra g e => by
    obtain ⟨c, e, _⟩ := signs_get e
    show i < z.cps.size
    exact (Array.getElem?_eq_some_iff.mp e).1
  yld := fun i H' A w x H2 t ra g e y => by
    obtain ⟨c, e3, rfl⟩ := signs_get e
    obtain ⟨e2, c', e', rfl⟩ := y
    subst e2
    obtain rfl : c = c' := Option.some.inj (e3.symm.trans e')
    exact ⟨TupLe.refl _, ra, by simp only [rep]⟩
theorem wi_it (hl : WE X l te) : WI X tg l (wIt te) := ⟨PI.imp (pi_dyn hl.pe) fun σ H R ⟨ω, A, R', sm, ra, h, k⟩ => lo_i sm ra h fun v H1 w A1 t1 sm1 ra1 r q => by
  cases w with
  | tup ws =>
    simp only [rep] at r
    obtain ⟨a, vs, e, s, rs⟩ := r
    exact .inr (.inl ⟨a, vs, e, SqT.of s, k _ _ _ _ _ t1 sm1 ra1 (draws_tup (SqT.of s) rs) q⟩)
  | ktup ws =>
    simp only [rep] at r
    obtain ⟨a, vs, e, s, rs⟩ := r
    exact .inr (.inl ⟨a, vs, e, s, k _ _ _ _ _ t1 sm1 ra1 (draws_tup s rs) q⟩)
  | str z =>
    simp only [rep] at r
    exact .inr (.inr ⟨z, r, k _ _ _ _ _ t1 sm1 ra1 draws_str q⟩)
  | ref a =>
    simp only [rep] at r
    obtain ⟨ws, hi, q⟩ := q
    obtain ⟨vs, hs, rs⟩ := hi.sq ra1
    exact .inl ⟨a, vs, r, hs, k _ _ _ _ _ t1 sm1 ra1 (draws_list rs) q⟩
  | non => exact False.elim q
  | bl b => exact False.elim q
  | int b => exact False.elim q
  | ty b => exact False.elim q⟩
/-! range -/
def wints (lo : Int) (n : Nat) : List W := (List.range n).map fun i => .int (lo + (i : Nat))
theorem wints_length {lo : Int} {n : Nat} : (wints lo n).length = n := by unfold wints; simp
theorem wints_get {lo : Int} {n i : Nat} {w : W} (h : (wints lo n)[i]? = some w) : i < n ∧ w = .int (lo + (i : Nat)) := by
  unfold wints at h
  rw [List.getElem?_map] at h
  by_cases hi : i < n
  · rw [List.getElem?_range hi] at h
    cases h
    exact ⟨hi, rfl⟩
  · rw [List.getElem?_eq_none (by simpa using hi)] at h
    cases h
theorem draws_rng {K : PySem.W.Frag} {H : Hp} {lo : Int} {n : Nat} : Draws K H (Itr lo n) (wints lo n) (fun _ => True) where
  stop := fun i H' A t ra g hl => by rw [wints_length] at hl; exact hl
  go := fun i H' A w t ra g e => (wints_get e).1
  yld := fun i H' A w x H2 t ra g e y => by
    obtain ⟨_, rfl⟩ := wints_get e
    obtain ⟨e2, rfl⟩ := y
    subst e2
    exact ⟨TupLe.refl _, ra, by simp only [rep]⟩
def wRng1 (ta : TAw) : TIw := fun ω A R => ta ω A fun ws A1 => ∃ j : Int, ws = [.int j] ∧ -(2 ^ 62) ≤ j ∧ j < 2 ^ 62 ∧ R (wints 0 j.toNat) (fun _ => True) A1
def wRng2 (ta : TAw) : TIw := fun ω A R => ta ω A fun ws A1 => ∃ i j : Int, ws = [.int i, .int j] ∧ (-(2 ^ 62) ≤ i ∧ i < 2 ^ 62 ∧ -(2 ^ 62) ≤ j ∧ j < 2 ^ 62) ∧ R (wints i (j - i).toNat) (fun _ => True) A1
variable {a b : Expr} {ta : TAw} {p : Pos}
theorem wi_range1 (hg : Gl X "range") (hm : X.mg "range" = none) (ha : WA X [a] ta) (hs : starEach [a] X.env = [(false, eval a X.env)] := by rfl) : WI X tg (.Call (.Name "range" p) [a] [] pos) (wRng1 ta) :=
  ⟨PI.imp (pi_range1 hg hm ha.pa hs) fun σ H R ⟨ω, A, R', sm, ra, h, k⟩ => loA_i sm ra h fun vs H1 ws A1 t1 sm1 ra1 r ⟨j, e, q1, q2, q⟩ => by
    subst e
    obtain ⟨v1, r1, rfl, h1, r⟩ := reps_uncons r
    obtain rfl := reps_unnil r
    simp only [rep] at h1
    exact ⟨j, by rw [h1], q1, q2, k _ _ _ _ _ t1 sm1 ra1 draws_rng q⟩⟩
theorem wi_range2 (hg : Gl X "range") (hm : X.mg "range" = none) (ha : WA X [a, b] ta) (hs : starEach [a, b] X.env = [(false, eval a X.env), (false, eval b X.env)] := by rfl) (hs2 : starEach [b] X.env = [(false, eval b X.env)] := by rfl) :
    WI X tg (.Call (.Name "range" p) [a, b] [] pos) (wRng2 ta) :=
  ⟨PI.imp (pi_range2 hg hm ha.pa hs hs2) fun σ H R ⟨ω, A, R', sm, ra, h, k⟩ => loA_i sm ra h fun vs H1 ws A1 t1 sm1 ra1 r ⟨i, j, e, q1, q⟩ => by
    subst e
    obtain ⟨v1, r1, rfl, h1, r⟩ := reps_uncons r
    obtain ⟨v2, r2, rfl, h2, r⟩ := reps_uncons r
    obtain rfl := reps_unnil r
    simp only [rep] at h1 h2
    exact ⟨i, j, by rw [h1, h2], q1, k _ _ _ _ _ t1 sm1 ra1 draws_rng q⟩⟩
end

/-! ### for -/
section
variable {X : Cx} {pos : Pos} {tg iter : Expr} {body : List Stmt} {ti : TIw} {g : TGw} {tb : TSw}
def wLoop (g : TGw) (tb : TSw) (D : Dw) (gd : AH → Prop) : List W → Sw → AH → Prop
  | [], ω, A => gd A ∧ D.nx ω A
  | w :: ws, ω, A => gd A ∧ g w ω A fun ω2 A2 => tb { D with nx := wLoop g tb D gd ws, ct := wLoop g tb D gd ws } ω2 A2
def wFor (ti : TIw) (g : TGw) (tb : TSw) : TSw := fun D ω A => ti ω A fun ws gd A1 => wLoop g tb { D with bk := D.nx, ct := D.nx } gd ws ω A1
theorem ws_for (hp : PassesOwn (model X.prog X.w) X.A X.env X.xe) (hc : X.calm = true) (hi : WI X tg iter ti) (hg : WG X tg g) (hb : WSs X body tb) (hs : ∀ x, foldedSetIterable iter X.env x = pure x := by intro _; rfl) :
    WS X (.For tg iter body [] pos) (wFor ti g tb) := WS.of (ps_for hp hc hi.pi hg.pg hb.ps hs) fun D σ H ω A sm ra h =>
  ⟨ω, A, _, sm, ra, h, fun J H1 items gd A1 t1 sm1 ra1 dr q => by
    refine ⟨fun i m σ' H' => m = items.length - i ∧ i ≤ items.length ∧ ∃ ω' A', TupLe X.K H1 H' ∧ SimS X.K H' σ' ω' ∧ RepA X.K H' A' ∧ wLoop g tb { D with bk := D.nx, ct := D.nx } gd (items.drop i) ω' A', ⟨items.length, by simp, Nat.zero_le _, ω, A1, TupLe.refl _, sm1, ra1, q⟩, ?_⟩
    rintro i m σ' H' ⟨rfl, hi, ω', A', t2, sm2, ra2, q2⟩
    by_cases hlt : i < items.length
    · right
      have ed : items.drop i = items[i] :: items.drop (i + 1) := List.drop_eq_getElem_cons hlt
      have ei : items[i]? = some items[i] := List.getElem?_eq_getElem hlt
      rw [ed] at q2
      obtain ⟨hgd, q2⟩ := q2
      refine ⟨dr.go i H' A' _ t2 ra2 hgd ei, fun σ3 H3 => ∃ ω' A', TupLe X.K H1 H3 ∧ SimS X.K H3 σ3 ω' ∧ RepA X.K H3 A' ∧ wLoop g tb { D with bk := D.nx, ct := D.nx } gd (items.drop (i + 1)) ω' A', fun σ3 H3 hh => ⟨items.length - (i + 1), by omega, rfl, hlt, hh⟩, fun x H3 y => ?_⟩
      obtain ⟨t3, ra3, rx⟩ := dr.yld i H' A' _ x H3 t2 ra2 hgd ei y
      refine loG_i rx (sm2.mono t3) ra3 q2 fun σ4 H4 ω4 A4 t4 sm4 ra4 q4 => ?_
      have t24 := (t2.trans t3).trans t4
      refine loS_i sm4 ra4 q4 (fun σ5 H5 ω5 A5 t5 sm5 ra5 q5 => ⟨ω5, A5, t24.trans t5, sm5, ra5, q5⟩) (fun σ5 H5 ω5 A5 t5 sm5 ra5 q5 => ⟨ω5, A5, t1.trans (t24.trans t5), sm5, ra5, q5⟩)
        (fun σ5 H5 ω5 A5 t5 sm5 ra5 q5 => ⟨ω5, A5, t24.trans t5, sm5, ra5, q5⟩) (fun v H5 w A5 t5 ra5 r5 q5 => ⟨w, A5, t1.trans (t24.trans t5), ra5, r5, q5⟩)
    · left
      have e : i = items.length := by omega
      subst e
      rw [List.drop_length] at q2
      exact ⟨dr.stop _ H' A' t2 ra2 q2.1 (Nat.le_refl _), ω', A', t1.trans t2, sm2, ra2, q2.2⟩⟩
/-! while -/
def wWhile (c : TTw) (tb : TSw) : TSw := fun D ω A => ∃ W : Nat → Sw → AH → Prop, (∃ m, W m ω A) ∧ ∀ m ω A, W m ω A →
  c ω A fun b A1 => if b = true then tb { D with nx := fun ω' A' => ∃ m', m' < m ∧ W m' ω' A', ct := fun ω' A' => ∃ m', m' < m ∧ W m' ω' A', bk := D.nx } ω A1 else D.nx ω A1
theorem ws_while {c : Expr} {tc : TTw} (hp : PassesOwn (model X.prog X.w) X.A X.env X.xe) (hc : WT X c tc) (hb : WSs X body tb) : WS X (.While c body [] pos) (wWhile tc tb) := WS.of (ps_while hp hc.pt hb.ps) fun D σ H ω A sm ra ⟨W, ⟨m0, w0⟩, turn⟩ => by
  refine ⟨fun m σ' H' => ∃ ω' A', TupLe X.K H H' ∧ SimS X.K H' σ' ω' ∧ RepA X.K H' A' ∧ W m ω' A', ⟨m0, ω, A, TupLe.refl _, sm, ra, w0⟩, ?_⟩
  rintro m σ' H' ⟨ω', A', t1, sm1, ra1, w1⟩
  refine loT_i sm1 ra1 (turn m ω' A' w1) fun b H2 A2 t2 sm2 ra2 q2 => ?_
  cases b with
  | true =>
    refine ⟨fun σ3 H3 => ∃ m', m' < m ∧ ∃ ω' A', TupLe X.K H H3 ∧ SimS X.K H3 σ3 ω' ∧ RepA X.K H3 A' ∧ W m' ω' A', fun σ3 H3 hh => hh, ?_⟩
    have t12 := t1.trans t2
    exact loS_i sm2 ra2 q2 (fun σ5 H5 ω5 A5 t5 sm5 ra5 ⟨m', hm, w5⟩ => ⟨m', hm, ω5, A5, t12.trans t5, sm5, ra5, w5⟩) (fun σ5 H5 ω5 A5 t5 sm5 ra5 q5 => ⟨ω5, A5, t12.trans t5, sm5, ra5, q5⟩)
      (fun σ5 H5 ω5 A5 t5 sm5 ra5 ⟨m', hm, w5⟩ => ⟨m', hm, ω5, A5, t12.trans t5, sm5, ra5, w5⟩) (fun v H5 w A5 t5 ra5 r5 q5 => ⟨w, A5, t12.trans t5, ra5, r5, q5⟩)
  | false => exact ⟨ω', A2, t1.trans t2, sm2, ra2, q2⟩
end
end Wx

set_option Elab.async false
set_option linter.all false
set_option maxRecDepth 100000
set_option maxHeartbeats 4000000
/-! WX4: comprehensions, calls of defs, a def's promise. -/
namespace Wx
open PySem L2

/-! ### comprehensions -/
def wipeW (ω : Sw) : List Nat → Sw
  | [] => ω
  | v :: vs => (wipeW ω vs).set v none
theorem SimS.wipe {K : PySem.W.Frag} {H : Hp} {σ : L2.St} {ω : Sw} (s : SimS K H σ ω) : ∀ vs : List Nat, SimS K H (L2.wipe σ vs) (wipeW ω vs)
  | [] => s
  | v :: vs => (SimS.wipe s vs).unset
/-- tests -/
structure WTs (X : Cx) (ifs : List Expr) (t : TTw) : Prop where
  pts : PTs X ifs (loT X.K t)
def wYes : TTw := fun _ A Q => Q true A
theorem PTs.imp {X : Cx} {ifs : List Expr} {t u : TT} (h : PTs X ifs t) (c : ∀ σ H Q, u σ H Q → t σ H Q) : PTs X ifs u := ⟨fun pins s σ H Q I q => h.run pins s σ H Q I (c σ H Q q)⟩
section
variable {X : Cx} {e : Expr} {tt : TTw}
theorem wts_nil : WTs X [] wYes := ⟨PTs.imp pts_nil fun σ H Q ⟨ω, A, Q', sm, ra, h, k⟩ => k true H ⟨A, TupLe.refl H, ra, h⟩⟩
theorem wts_one (h : WT X e tt) : WTs X [e] tt := ⟨pts_one h.pt⟩
end
def lcLoop (g : TGw) (tt : TTw) (te : TEw) (ωw : Sw) (gd : AH → Prop) (D : Addr) (Q : VKw) : List W → AH → Prop
  | [], A => gd A ∧ Q (.ref D) A
  | w :: ws, A => gd A ∧ g w ωw A fun ω2 A2 => tt ω2 A2 fun b A3 =>
      if b = true then te ω2 A3 fun y A4 => ∃ acc, A4.h D = some (.lst acc) ∧ acc.length < sizeLine ∧ lcLoop g tt te ωw gd D Q ws (A4.put D (.lst (acc ++ [y]))) else lcLoop g tt te ωw gd D Q ws A3
def wLc (ti : TIw) (g : TGw) (tt : TTw) (te : TEw) (vs : List Nat) : TEw := fun ω A Q => ti ω A fun ws gd A1 => ∀ D, A1.h D = none → lcLoop g tt te (wipeW ω vs) gd D Q ws (A1.put D (.lst []))
/-- a comprehension's target: it stores into the block's own slots -/
def loGc (K : PySem.W.Frag) (vs : List Nat) (t : TGw) : TG := fun v σ H Q => ∃ w ω A Q', rep K H v w ∧ SimS K H σ ω ∧ RepA K H A ∧ t w ω A Q' ∧ ∀ σ' H', L2.wipe σ' vs = L2.wipe σ vs → UpS K H Q' σ' H' → Q σ' H'
def loGsc (K : PySem.W.Frag) (vs : List Nat) (t : TGsw) : TGs := fun v σ H Q => ∃ w ω A Q', reps K H v w ∧ SimS K H σ ω ∧ RepA K H A ∧ t w ω A Q' ∧ ∀ σ' H', L2.wipe σ' vs = L2.wipe σ vs → UpS K H Q' σ' H' → Q σ' H'
structure WGc (X : Cx) (vs : List Nat) (tg : Expr) (t : TGw) : Prop where
  pg : PG X tg (loGc X.K vs t)
structure WGsc (X : Cx) (vs : List Nat) (tgs : List Expr) (t : TGsw) : Prop where
  pgs : PGs X tgs (loGsc X.K vs t)
theorem wipe_set_mem {σ : L2.St} {i : Nat} {v : Option V} : ∀ {vs : List Nat}, i ∈ vs → L2.wipe (σ.set i v) vs = L2.wipe σ vs
  | [], h => nomatch h
  | j :: vs, h => by
    unfold L2.wipe
    by_cases e : i ∈ vs
    · rw [wipe_set_mem e]
    · have ej : i = j := by
        rcases List.mem_cons.mp h with z | z
        · exact z
        · exact absurd z e
      subst ej
      have out : ∀ vs : List Nat, i ∉ vs → L2.wipe (σ.set i v) vs = (L2.wipe σ vs).set i v := by
        intro vs
        induction vs with
        | nil => intro _; rfl
        | cons k vs ih =>
          intro hk
          unfold L2.wipe
          rw [ih fun z => hk (List.mem_cons_of_mem _ z), List.set_comm _ _ (fun z => hk (by rw [z]; exact List.mem_cons_self))]
      rw [out vs e, List.set_set]
section
variable {X : Cx} {pos : Pos} {tg : Expr} {tgs : List Expr} {g : TGw} {gs : TGsw} {vs : List Nat}
theorem wgc_name {i : Nat} {x : Str} (hv : i ∈ vs) (hN : X.N.Nodup) (hi : X.N[i]? = some x) (hx : Loc X.env.scope x) (hf : X.fn x = true ∨ X.env.scope.names.lookup x = some .local := by first | exact .inl rfl | exact .inr rfl | assumption) : WGc X vs (.Name x pos) (wgName i) :=
  ⟨PG.imp (pg_name hN hi hx hf) fun v σ H Q ⟨w, ω, A, Q', r, sm, ra, h, k⟩ => k _ _ (wipe_set_mem hv) (UpS.i (sm.set r) ra h)⟩
theorem wgsc_nil : WGsc X vs [] wgNil := ⟨PGs.imp pgs_nil fun v σ H Q ⟨w, ω, A, Q', r, sm, ra, ⟨e, h⟩, k⟩ => ⟨by subst e; exact reps_unnil r, k _ _ rfl (UpS.i sm ra h)⟩⟩
theorem wgsc_cons (h1 : WGc X vs tg g) (h2 : WGsc X vs tgs gs) (hs : (assignEach (tg :: tgs) X.env).map (·.2) = assign tg X.env :: (assignEach tgs X.env).map (·.2) := by rfl) : WGsc X vs (tg :: tgs) (wgCons g gs) :=
  ⟨PGs.imp (pgs_cons h1.pg h2.pgs hs) fun v σ H Q ⟨w, ω, A, Q', r, sm, ra, ⟨w0, wr, e, h⟩, k⟩ => by
    subst e
    obtain ⟨v0, vr, rfl, r0, rr⟩ := reps_uncons r
    exact ⟨v0, vr, rfl, w0, ω, A, _, r0, sm, ra, h, fun σ1 H1 e1 ⟨ω1, A1, t1, sm1, ra1, h1⟩ => ⟨wr, ω1, A1, _, reps_mono t1 _ _ rr, sm1, ra1, h1, fun σ2 H2 e2 ⟨ω2, A2, t2, sm2, ra2, q⟩ => k _ _ (e2.trans e1) ⟨ω2, A2, t1.trans t2, sm2, ra2, q⟩⟩⟩⟩
theorem wgc_tup {k n : Nat} (hc : X.calm = true) (h : WGsc X vs tgs gs) (hn : (assignEach tgs X.env).length = n := by rfl) (hst : (assignEach tgs X.env).findIdx? (·.1) = none := by rfl) : WGc X vs (.Tuple tgs k pos) (wgTup n gs) :=
  ⟨PG.imp (pg_tup hc h.pgs hn hst) fun v σ H Q ⟨w, ω, A, Q', r, sm, ra, ⟨ws, e, l, h⟩, k⟩ => by
    subst e
    simp only [rep] at r
    obtain ⟨a, us, e, s, rs⟩ := r
    exact ⟨a, us, e, SqT.of s, (reps_length rs).trans l, ws, ω, A, Q', rs, sm, ra, h, k⟩⟩
end
theorem wipe_wipe (σ : L2.St) (vs : List Nat) : L2.wipe (L2.wipe σ vs) vs = L2.wipe σ vs := by
  have key : ∀ us : List Nat, (∀ i ∈ us, i ∈ vs) → L2.wipe (L2.wipe σ us) vs = L2.wipe σ vs := by
    intro us
    induction us with
    | nil => intro _; rfl
    | cons u us ih =>
      intro h
      rw [show L2.wipe σ (u :: us) = (L2.wipe σ us).set u none from rfl, wipe_set_mem (h u List.mem_cons_self)]
      exact ih fun i hi => h i (List.mem_cons_of_mem _ hi)
  exact key vs fun _ h => h
theorem tLc_mono {wi : TI} {g : TG} {tt : TT} {te : TE} {vs : List Nat} {σ : L2.St} {H : Hp} {Q Q' : VK} (h : tLc wi g tt te vs σ H Q) (k : ∀ v H', Q v H' → Q' v H') (mi : ∀ σ H (R R' : It → Hp → Prop), (∀ J H', R J H' → R' J H') → wi σ H R → wi σ H R') : tLc wi g tt te vs σ H Q' := by
  refine mi σ H _ _ (fun J H1 q D hD => ?_) h
  obtain ⟨W, h0, turn⟩ := q D hD
  refine ⟨W, h0, fun i m H w => ?_⟩
  rcases turn i m H w with ⟨a, b⟩ | b
  · exact .inl ⟨a, k _ _ b⟩
  · exact .inr b
theorem loI_mono {K : PySem.W.Frag} {t : TIw} : ∀ σ H (R R' : It → Hp → Prop), (∀ J H', R J H' → R' J H') → loI K t σ H R → loI K t σ H R' := fun σ H R R' k ⟨ω, A, R2, sm, ra, h, kk⟩ => ⟨ω, A, R2, sm, ra, h, fun J H' items g A' a b c d e => k J H' (kk J H' items g A' a b c d e)⟩
section
variable {X : Cx} {elt tg iter : Expr} {ifs : List Expr} {scope : Scope} {own : List (Str × Nat)} {pos : Pos} {ti : TIw} {g : TGw} {tt : TTw} {te : TEw}
theorem lc_low {K : PySem.W.Frag} {σ : L2.St} {H : Hp} {ω : Sw} {A : AH} {Q : VKw} {vs : List Nat} (sm : SimS K H σ ω) (ra : RepA K H A) (h : wLc ti g tt te vs ω A Q) :
    tLc (loI K ti) (loGc K vs g) (loT K tt) (lo K te) vs σ H (Up K H Q) := by
  refine ⟨ω, A, _, sm, ra, h, fun J H1 items gd A1 t1 sm1 ra1 dr q D hD => ?_⟩
  have q := q D (ra1.fresh hD)
  have ra1' : RepA K (upd H1 D (.lst [])) (A1.put D (.lst [])) := ra1.new (wo := .lst []) hD ⟨[], upd_same, reps_nil⟩
  have tn : TupLe K H1 (upd H1 D (.lst [])) := tupLe_new hD
  refine ⟨fun i m H' => m = items.length - i ∧ i ≤ items.length ∧ ∃ A', TupLe K H1 H' ∧ RepA K H' A' ∧ lcLoop g tt te (wipeW ω vs) gd D Q (items.drop i) A', ⟨items.length, by simp, Nat.zero_le _, A1.put D (.lst []), tn, ra1', q⟩, ?_⟩
  rintro i m H' ⟨rfl, hi, A', t2, ra2, q2⟩
  by_cases hlt : i < items.length
  · right
    have ed : items.drop i = items[i] :: items.drop (i + 1) := List.drop_eq_getElem_cons hlt
    have ei : items[i]? = some items[i] := List.getElem?_eq_getElem hlt
    rw [ed] at q2
    obtain ⟨hgd, q2⟩ := q2
    refine ⟨dr.go i H' A' _ t2 ra2 hgd ei, fun H3 => ∃ A', TupLe K H1 H3 ∧ RepA K H3 A' ∧ lcLoop g tt te (wipeW ω vs) gd D Q (items.drop (i + 1)) A', fun H3 hh => ⟨items.length - (i + 1), by omega, rfl, hlt, hh⟩, fun x H3 y => ?_⟩
    obtain ⟨t3, ra3, rx⟩ := dr.yld i H' A' _ x H3 t2 ra2 hgd ei y
    have smw : SimS K H3 (L2.wipe σ vs) (wipeW ω vs) := ((sm1.mono t2).mono t3).wipe vs
    refine ⟨_, _, _, _, rx, smw, ra3, q2, fun σ4 H4 ew ⟨ω4, A4, t4, sm4, ra4, q4⟩ => ⟨ew.trans (by first | rfl | exact wipe_wipe σ vs), ?_⟩⟩
    have t24 := (t2.trans t3).trans t4
    refine loT_i sm4 ra4 q4 fun b H5 A5 t5 sm5 ra5 q5 => ?_
    cases b with
    | true =>
      refine lo_i sm5 ra5 q5 fun v H6 w A6 t6 sm6 ra6 r6 ⟨acc, ea, hl, q6⟩ => ?_
      obtain ⟨vacc, eh, rs⟩ := ra6.1 D _ ea
      have ts : TupLe K H6 (upd H6 D (.lst (vacc ++ [v]))) := tupLe_set eh (by intro _ z; cases z) (by intro _ _ z; cases z)
      exact ⟨vacc, eh, by rw [reps_length rs]; exact hl, A6.put D (.lst (acc ++ [w])), ((t24.trans t5).trans t6).trans ts,
        ra6.set (wo' := .lst (acc ++ [w])) ea eh (by intro _ z; cases z) (by intro _ _ z; cases z) ⟨_, upd_same, reps_append (reps_mono ts _ _ rs) (reps_cons (rep_mono ts _ _ r6) reps_nil)⟩, q6⟩
    | false => exact ⟨A5, t24.trans t5, ra5, q5⟩
  · left
    have e : i = items.length := by omega
    subst e
    rw [List.drop_length] at q2
    exact ⟨dr.stop _ H' A' t2 ra2 q2.1 (Nat.le_refl _), .ref D, A', t1.trans t2, ra2, by simp only [rep], q2.2⟩
theorem we_lc (hc : X.calm = true) (hN : X.N.Nodup) (hi : WI X tg iter ti) (ok : BlkOk X.N X.env.scope scope own)
    (hg : ∀ (s : Shared) (H : Hp) (C : Addr) (cl : List (Str × Addr)) (fp : List Addr), WGc (X.blk s H scope (compEnvC scope cl C X.env) fp) (own.map (·.2)) tg g)
    (ht : ∀ (s : Shared) (H : Hp) (C : Addr) (cl : List (Str × Addr)) (fp : List Addr), WTs (X.blk s H scope (compEnvC scope cl C X.env) fp) ifs tt)
    (he : ∀ (s : Shared) (H : Hp) (C : Addr) (cl : List (Str × Addr)) (fp : List Addr), WE (X.blk s H scope (compEnvC scope cl C X.env) fp) elt te) (hs : ∀ x, foldedSetIterable iter X.env x = pure x := by intro _; rfl) :
    WE X (.ListComp elt [⟨tg, iter, ifs, 0⟩] scope pos) (wLc ti g tt te (own.map (·.2))) :=
  WE.of (pe_lc hc hN hi.pi ok (fun s H C cl fp => (hg s H C cl fp).pg) (fun s H C cl fp => (ht s H C cl fp).pts) (fun s H C cl fp => (he s H C cl fp).pe) hs) fun σ H ω A Q sm ra h => lc_low sm ra h
theorem ws_setLc {i : Nat} {y : Str} {py spos : Pos} (hc : X.calm = true) (hN : X.N.Nodup) (hy : X.N[i]? = some y) (hyl : X.env.scope.names.lookup y = some .local)
    (hsw : swapsWith (.ListComp elt [⟨tg, iter, ifs, 0⟩] scope pos) (some (.Name y py)) spos.line X.env = pure true) (hi : WI X tg iter ti) (ok : BlkOk X.N X.env.scope scope own)
    (hg : ∀ (s : Shared) (H : Hp) (C : Addr) (cl : List (Str × Addr)) (fp : List Addr), WGc (X.blk s H scope (compEnvC scope cl C X.env) fp) (own.map (·.2)) tg g)
    (ht : ∀ (s : Shared) (H : Hp) (C : Addr) (cl : List (Str × Addr)) (fp : List Addr), WTs (X.blk s H scope (compEnvC scope cl C X.env) fp) ifs tt)
    (he : ∀ (s : Shared) (H : Hp) (C : Addr) (cl : List (Str × Addr)) (fp : List Addr), WE (X.blk s H scope (compEnvC scope cl C X.env) fp) elt te) (hs : ∀ x, foldedSetIterable iter X.env x = pure x := by intro _; rfl) :
    WS X (.Assign [.Name y py] (.ListComp elt [⟨tg, iter, ifs, 0⟩] scope pos) spos) (wAsg (wLc ti g tt te (own.map (·.2))) (wgName i)) :=
  WS.of (ps_setLc hc hN hy hyl hsw hi.pi ok (fun s H C cl fp => (hg s H C cl fp).pg) (fun s H C cl fp => (ht s H C cl fp).pts) (fun s H C cl fp => (he s H C cl fp).pe) hs) fun D σ H ω A sm ra h => by
    have h1 := lc_low sm ra (h : wLc ti g tt te (own.map (·.2)) ω A fun w A1 => wgName i w ω A1 D.nx)
    refine tLc_mono h1 (fun v H' ⟨w, A', t1, ra1, r, q⟩ => ?_) loI_mono
    exact ⟨ω.set i (some w), A', t1, (sm.mono t1).set r, ra1, q⟩
end
end Wx

set_option Elab.async false
set_option linter.all false
set_option maxRecDepth 100000
set_option maxHeartbeats 4000000
/-! WX5: calls, a def's promise, raising. -/
namespace Wx
open PySem L2

abbrev XKw := Addr → List (Str × W) → AH → Prop
abbrev SpW := List W → AH → VKw → XKw → Prop
/-- the dict of an exception that is on its way -/
def ExAt (K : PySem.W.Frag) (H : Hp) (A : AH) (d : Option Addr) (fs : List (Str × W)) : Prop := (d = none ∧ fs = []) ∨ ∃ dd vf, d = some dd ∧ H dd = some (.xd vf) ∧ A.h dd = none ∧ prs K H vf fs
theorem ExAt.sub {K : PySem.W.Frag} {H : Hp} {A A' : AH} {d : Option Addr} {fs : List (Str × W)} (x : ExAt K H A' d fs) (s : A.Sub A') : ExAt K H A d fs := by
  rcases x with x | ⟨dd, vf, e1, e2, e3, e4⟩
  · exact .inl x
  · exact .inr ⟨dd, vf, e1, e2, s.none e3, e4⟩
def UpE (K : PySem.W.Frag) (H0 : Hp) (E : XKw) : XK := fun cls d H' => ∃ C fs A', cls = .ref C ∧ ExAt K H' A' d fs ∧ TupLe K H0 H' ∧ RepA K H' A' ∧ E C fs A'
/-- .. with the slots -/
abbrev XSw := Sw → XKw
def UpE0 (K : PySem.W.Frag) (E : XSw) : WX := fun cls d σ H' => ∃ C fs ω A', cls = .ref C ∧ ExAt K H' A' d fs ∧ SimS K H' σ ω ∧ RepA K H' A' ∧ E ω C fs A'
def fg (Q : VKw) : VKw := fun w A' => ∃ A'', A''.Sub A' ∧ Q w A''
def fgE (E : XKw) : XKw := fun C fs A' => ∃ A'', A''.Sub A' ∧ E C fs A''
theorem fg_i {Q : VKw} {w : W} {A : AH} (h : Q w A) : fg Q w A := ⟨A, AH.Sub.refl A, h⟩
theorem fgE_i {E : XKw} {C : Addr} {fs : List (Str × W)} {A : AH} (h : E C fs A) : fgE E C fs A := ⟨A, AH.Sub.refl A, h⟩
def E0w : XKw := fun _ _ _ => False
/-- a promise above as one below -/
def spL (K : PySem.W.Frag) (sp : SpW) : Sp := fun vs H Q E => ∃ ws A Q' E', reps K H vs ws ∧ RepA K H A ∧ sp ws A Q' E' ∧ (∀ v H', Up K H Q' v H' → Q v H') ∧ (∀ c d H', UpE K H E' c d H' → E c d H')
/-- the exceptions that leave the code are wished so -/
def TakesW (X : Cx) (E : XSw) : Prop := Takes X (UpE0 X.K E)
theorem Inv.tupLe0 {X : Cx} {pins : List (Addr × Obj)} {σ : L2.St} {H : Hp} {s : Shared} (I : Inv X pins σ H s) : TupLe X.K X.H_0 H := fun a vs => ⟨fun h => I.base.tups a vs h, fun o h => I.base.frzs a o _ h⟩
theorem takesW_of {X : Cx} {E0 : XK} {E : XKw} (t : Takes X (fun cls d _ H => E0 cls d H)) (k : ∀ c d H', UpE X.K X.H_0 E c d H' → E0 c d H') : TakesW X (fun _ => E) := fun u s' ⟨a, B, sI, pins, σ, H, cls, d, e, I, nb, up, sky, na, os, ag, C, fs, ω, A', e1, e2, _, e3, e4⟩ =>
  t u s' ⟨a, B, sI, pins, σ, H, cls, d, e, I, nb, up, sky, na, os, ag, k _ _ _ ⟨C, fs, A', e1, e2, Inv.tupLe0 I, e3, e4⟩⟩

/-! ### defs whose bodies may need that no guard is up -/
structure RoomG (g : Bool) (k : Nat) (A : Around) : Prop where
  r : Room k A
  gd : g = true → A.guards = some []
theorem RoomG.mono {g : Bool} {j k : Nat} {A : Around} (r : RoomG g k A) (h : j ≤ k) : RoomG g j A := ⟨r.r.mono h, r.gd⟩
theorem RoomG.units {g : Bool} {k : Nat} {A : Around} (r : RoomG g k A) : A.units + 64 < cLine := r.r.units
theorem RoomG.low {g : Bool} {k : Nat} {A : Around} (r : RoomG g k A) : RoomG false k A := ⟨r.r, fun z => nomatch z⟩
structure FnB (g : Bool) (P : Program) (w : World) (K : PySem.W.Frag) (mg : Str → Option Value) (base : Heap) (k : Nat) (f : Addr) (fd : FuncData) (ps : List Str) (sp : Sp) : Prop where
  len : ∀ vs H Q E, sp vs H Q E → vs.length = ps.length
  run : ∀ (A : Around) (outer : List Env) (s : Shared) (H : Hp) (args : Args) (us : List Value) (vs : List V) (Q : VK) (E : XK), RoomG g k A → Env0 P w K mg base A outer s H → BindsTo s fd args (ps.zip us) → Vals vs us → sp vs H Q E →
    codeAny (model P w) A (.call (.ref f) args) (CR (L2.CX P w) outer P w H s Q E) s
section
variable {g : Bool} {P : Program} {w : World} {K : PySem.W.Frag} {mg : Str → Option Value} {base : Heap} {k : Nat} {f : Addr} {fd : FuncData} {ps : List Str} {sp sp' : Sp}
theorem FnB.of (F : FnOk P w K mg base (L2.CX P w) k f fd ps sp) : FnB g P w K mg base k f fd ps sp := ⟨F.len, fun A outer s H args us vs Q E hr => F.run A outer s H args us vs Q E hr.r⟩
theorem FnB.ok (F : FnB false P w K mg base k f fd ps sp) : FnOk P w K mg base (L2.CX P w) k f fd ps sp := ⟨F.len, fun A outer s H args us vs Q E hr => F.run A outer s H args us vs Q E ⟨hr, fun z => nomatch z⟩⟩
theorem FnB.up (F : FnB false P w K mg base k f fd ps sp) : FnB g P w K mg base k f fd ps sp := FnB.of F.ok
theorem FnB.imp (F : FnB g P w K mg base k f fd ps sp) (h : ∀ vs H Q E, sp' vs H Q E → sp vs H Q E) : FnB g P w K mg base k f fd ps sp' :=
  ⟨fun vs H Q E q => F.len vs H Q E (h _ _ _ _ q), fun A outer s H args us vs Q E hr he hb hv hs => F.run A outer s H args us vs Q E hr he hb hv (h _ _ _ _ hs)⟩
/-- from the body to the def -/
theorem fnB_of {name qual : Str} {params : Arguments} {body : List Stmt} {scope : Scope} {dV kV doc pm cdv ct oc : Value} {an od : Option Addr} {osl : Array (Option Value)} {N : List Str}
    (lk : K.lookup f = some ⟨oc, od, .func (PySem.W.fnOf name qual params body scope dV kV doc pm an cdv ct), osl⟩) (hcd : PySem.W.codeIn K cdv qual = true) (S : FnScope N ps scope) (len : ∀ vs H Q E, sp vs H Q E → vs.length = ps.length)
    (hbody : ∀ (A : Around) (outer : List Env) (s : Shared) (H : Hp) (vs : List V) (Q : VK) (E : XK), RoomG g k (A.deeper (PyProof.Rows.envOfC qual scope s.heap.objs.size f cdv)) → sp vs H Q E →
      ∃ t, PSs (cxOf (L2.CX P w) P w K mg base N qual scope f cdv A outer s H E) body t ∧ t { nx := fun _ H' => Q .non H', rt := Q } (L2.start N vs) H) :
    FnB g P w K mg base (k + 1) f (PySem.W.fnOf name qual params body scope dV kV doc pm an cdv ct) ps sp where
  len := len
  run := by
    intro A outer s H args us vs Q E hr e0 hb rv hsp
    have keepB : ∀ b o, base.get? b = some o → s.heap.get? b = some o := fun b o e => (e0.bs b o e).1
    have lim : s.heap.NoLimit := e0.mod.nolimit.keeps keepB
    have KX : K.In s.heap := e0.mod.kin.keeps keepB
    have kinds : ∀ y ∈ ps.zip us, scope.names.lookup y.1 = some .local ∨ (scope.names.lookup y.1 = some .cell ∧ ((cellsFrom (s.heap.objs.size + 1) scope.names []).lookup y.1).isSome = true) := by
      rintro ⟨n, v⟩ hy
      exact (S.par n (List.of_mem_zip hy).1).imp (fun q => q) fun q => ⟨q, PySem.W.cellsFrom_some _ _ _ (.inl q)⟩
    refine codeAny_call_function hr.r.depth (KX _ _ lk) rfl S.co S.gen rfl (PySem.W.codeRec_of KX hcd) (hb _ _ _ _ (wpAny_newFunctionEnv_cells S.kind kinds fun env he s1 x => ?_))
    subst he
    obtain ⟨t, ht, hq⟩ := hbody A outer s H vs Q E ⟨hr.r.deeper _, hr.gd⟩ hsp
    have I : Inv (cxOf (L2.CX P w) P w K mg base N qual scope f cdv A outer s H E) [] (L2.start N vs) H s1 := inv_start S hr.r.hd e0 (len _ _ _ _ hsp) rv x
    refine ⟨lim.keeps x.toInCall.keep, codeAny_func (wpAny_mono (ht.run [] s1 (L2.start N vs) H _ I hq) (fun fl s' hs => ?_) fun e s' hs => hs)⟩
    cases fl with
    | next => obtain ⟨_, H', J, q⟩ := hs; exact ⟨V.non, H', J.os, J.bare, J.base, J.hok, rfl, q⟩
    | ret u => obtain ⟨v, _, H', J, rv, q⟩ := hs; exact ⟨v, H', J.os, J.bare, J.base, J.hok, rv, q⟩
    | brk => obtain ⟨_, _, _, z⟩ := hs; exact False.elim z
    | cont => obtain ⟨_, _, _, z⟩ := hs; exact False.elim z
end
section
variable {X : Cx} {g : Bool} {k : Nat} {f C : Addr} {fd : FuncData} {ps : List Str} {sp : Sp} {dvs : List V} {ds : List Value} {E : L2.St → XK} {x m : Str} {p pos apos : Pos} {e o : Expr} {es : List Expr} {t : TA}
theorem run_fnB {pins : List (Addr × Obj)} {σ : L2.St} {H : Hp} {s : Shared} {Q : VK} {us : List Value} {vs : List V} (F : FnB g X.prog X.w X.K X.mg X.base k f fd ps sp) (hr : RoomG g k X.A) (hb : Binds X.K fd ps ds) (hd : Vals dvs ds) (hx : PassesAt (L2.CX X.prog X.w) X σ (E σ))
    (I : Inv X pins σ H s) (r : Vals vs us) (h : sp (vs ++ dvs) H Q (E σ)) : wpAny (model X.prog X.w) X.A (call (.ref f) us) (EP X pins σ Q) X.xe s := by
  have r2 : Vals (vs ++ dvs) (us ++ ds) := r.append hd
  refine wpAny_call (codeAny_mono (F.run X.A X.stack s H ⟨us, []⟩ _ _ Q (E σ) hr I.env0 (hb s us I.kIn (r2.length ▸ F.len _ _ _ _ h)) r2 h) fun r s' hq => ?_)
  rcases r with er | fl
  · exact hx pins H s er s' I hq
  · cases fl <;> first | exact I.after hq | exact False.elim hq
theorem pe_callB' (F : FnB g X.prog X.w X.K X.mg X.base k f fd ps sp) (hr : RoomG g k X.A) (hg : Gl X x) (hm : X.mg x = some (.ref f)) (hk : PySem.W.keepIn X.K (.ref f) = true) (hb : Binds X.K fd ps ds) (hd : Vals dvs ds) (hx : ∀ σ, PassesAt (L2.CX X.prog X.w) X σ (E σ))
    (ha : PA X (e :: es) t) (hdb : (x == ("__debug__" : Str)) = false := by decide) (he : starEach (e :: es) X.env = (false, eval e X.env) :: starEach es X.env := by rfl) (hpl : (backTo pos (starEach es X.env)).any (·.1) = false := by rfl) :
    PE X (.Call (.Name x p) (e :: es) [] pos) (tCallSD sp dvs E t) :=
  ⟨fun pins s σ H Q I h => wpAny_Call_Name_kw (ld_glob I hg hm (PySem.W.callWith_K (h₀ := X.base) I.ok.mod.kin hk (thn (ha.run pos pins s σ H _ I h) fun us s1 ⟨vs, H1, I1, r, q⟩ => ⟨I1.kIn, run_fnB F hr hb hd (hx σ) I1 r q⟩) he hpl) hdb)⟩
theorem pe_callB0 (F : FnB g X.prog X.w X.K X.mg X.base k f fd ps sp) (hr : RoomG g k X.A) (hg : Gl X x) (hm : X.mg x = some (.ref f)) (hk : PySem.W.keepIn X.K (.ref f) = true) (hb : Binds X.K fd ps ds) (hd : Vals dvs ds) (hx : ∀ σ, PassesAt (L2.CX X.prog X.w) X σ (E σ))
    (hdb : (x == ("__debug__" : Str)) = false := by decide) : PE X (.Call (.Name x p) [] [] pos) (tCallSD sp dvs E tNil) :=
  ⟨fun pins s σ H Q I h => wpAny_Call_Name_kw (ld_glob I hg hm (PySem.W.callWith_K0 I.kIn hk (run_fnB (us := []) F hr hb hd (hx σ) I .nil h)) hdb)⟩
end
section
variable {X : Cx} {g : Bool} {k : Nat} {f C : Addr} {fd : FuncData} {ps : List Str} {sp : SpW} {dws : List W} {dvs : List V} {ds : List Value} {E : XSw} {x m : Str} {p pos apos : Pos} {e o : Expr} {es : List Expr} {te : TEw} {ta : TAw}
/-- f(..): nothing is let out -/
def wCall (sp : SpW) (dws : List W) (ta : TAw) : TEw := fun ω A Q => ta ω A fun ws A1 => sp (ws ++ dws) A1 Q E0w
/-- f(..): what is let out goes on -/
def wCallX (sp : SpW) (dws : List W) (ta : TAw) (E : XSw) : TEw := fun ω A Q => ta ω A fun ws A1 => sp (ws ++ dws) A1 Q (E ω)
theorem pass0L {X : Cx} : Passes (L2.CX X.prog X.w) X (fun _ _ _ => False) := fun _ _ _ _ _ _ _ h => by
  obtain ⟨_, _, _, _, _, _, _, _, _, _, _, _, z⟩ := h
  exact z.elim
theorem pass0At {X : Cx} (σ : L2.St) : PassesAt (L2.CX X.prog X.w) X σ (fun _ _ _ => False) := fun _ _ _ _ _ I h => pass0L _ _ _ _ _ _ I h
theorem we_callX (tk : TakesW X E) (F : FnB g X.prog X.w X.K X.mg X.base k f fd ps (spL X.K sp)) (hr : RoomG g k X.A) (hg : Gl X x) (hm : X.mg x = some (.ref f)) (hk : PySem.W.keepIn X.K (.ref f) = true) (hb : Binds X.K fd ps ds) (hd : Vals dvs ds) (hdw : ∀ H, reps X.K H dvs dws)
    (ha : WA X (e :: es) ta) (hdb : (x == ("__debug__" : Str)) = false := by decide) (he : starEach (e :: es) X.env = (false, eval e X.env) :: starEach es X.env := by rfl) (hpl : (backTo pos (starEach es X.env)).any (·.1) = false := by rfl) :
    WE X (.Call (.Name x p) (e :: es) [] pos) (wCallX sp dws ta E) := WE.of (pe_callB' F hr hg hm hk hb hd (fun σ => passAt tk σ) ha.pa hdb he hpl) fun σ H ω A Q sm ra h =>
  loA_i sm ra h fun vs H1 ws A1 t1 sm1 ra1 r q => ⟨ws ++ dws, A1, Q, E ω, reps_append r (hdw H1), ra1, q, fun v H' u => Up.trans t1 u, fun c d H' ⟨C, fs, A', e1, e2, t2, e3, e4⟩ => ⟨C, fs, ω, A', e1, e2, sm1.mono t2, e3, e4⟩⟩
theorem we_callX0 (tk : TakesW X E) (F : FnB g X.prog X.w X.K X.mg X.base k f fd ps (spL X.K sp)) (hr : RoomG g k X.A) (hg : Gl X x) (hm : X.mg x = some (.ref f)) (hk : PySem.W.keepIn X.K (.ref f) = true) (hb : Binds X.K fd ps ds) (hd : Vals dvs ds) (hdw : ∀ H, reps X.K H dvs dws)
    (hdb : (x == ("__debug__" : Str)) = false := by decide) :
    WE X (.Call (.Name x p) [] [] pos) (wCallX sp dws wNil E) := WE.of (pe_callB0 F hr hg hm hk hb hd (fun σ => passAt tk σ) hdb) fun σ H ω A Q sm ra h =>
  ⟨dws, A, Q, E ω, hdw H, ra, h, fun v H' u => u, fun c d H' ⟨C, fs, A', e1, e2, t2, e3, e4⟩ => ⟨C, fs, ω, A', e1, e2, sm.mono t2, e3, e4⟩⟩
theorem we_call (F : FnB g X.prog X.w X.K X.mg X.base k f fd ps (spL X.K sp)) (hr : RoomG g k X.A) (hg : Gl X x) (hm : X.mg x = some (.ref f)) (hk : PySem.W.keepIn X.K (.ref f) = true) (hb : Binds X.K fd ps ds) (hd : Vals dvs ds) (hdw : ∀ H, reps X.K H dvs dws)
    (ha : WA X (e :: es) ta) (hdb : (x == ("__debug__" : Str)) = false := by decide) (he : starEach (e :: es) X.env = (false, eval e X.env) :: starEach es X.env := by rfl) (hpl : (backTo pos (starEach es X.env)).any (·.1) = false := by rfl) :
    WE X (.Call (.Name x p) (e :: es) [] pos) (wCall sp dws ta) := WE.of (pe_callB' F hr hg hm hk hb hd (E := fun _ _ _ _ => False) pass0At ha.pa hdb he hpl) fun σ H ω A Q sm ra h =>
  loA_i sm ra h fun vs H1 ws A1 t1 sm1 ra1 r q => ⟨ws ++ dws, A1, Q, E0w, reps_append r (hdw H1), ra1, q, fun v H' u => Up.trans t1 u, fun c d H' ⟨_, _, _, _, _, _, _, z⟩ => z⟩
theorem we_call0 (F : FnB g X.prog X.w X.K X.mg X.base k f fd ps (spL X.K sp)) (hr : RoomG g k X.A) (hg : Gl X x) (hm : X.mg x = some (.ref f)) (hk : PySem.W.keepIn X.K (.ref f) = true) (hb : Binds X.K fd ps ds) (hd : Vals dvs ds) (hdw : ∀ H, reps X.K H dvs dws)
    (hdb : (x == ("__debug__" : Str)) = false := by decide) :
    WE X (.Call (.Name x p) [] [] pos) (wCall sp dws wNil) := WE.of (pe_callB0 F hr hg hm hk hb hd (E := fun _ _ _ _ => False) pass0At hdb) fun σ H ω A Q sm ra h =>
  ⟨dws, A, Q, E0w, hdw H, ra, h, fun v H' u => u, fun c d H' ⟨_, _, _, _, _, _, _, z⟩ => z⟩
end

/-! ### a def's body -/
def startW (N : List Str) (ws : List W) : Sw := ws.map some ++ List.replicate (N.length - ws.length) none
theorem simS_start {K : PySem.W.Frag} {H : Hp} {N : List Str} {vs : List V} {ws : List W} (r : reps K H vs ws) : SimS K H (L2.start N vs) (startW N ws) := by
  have hl := reps_length r
  refine ⟨by unfold L2.start startW; simp [hl], fun i w e => ?_⟩
  unfold startW at e
  unfold L2.start
  by_cases h : i < ws.length
  · rw [List.getElem?_append_left (by simpa using h), List.getElem?_map] at e
    cases e2 : ws[i]? with
    | none => rw [e2] at e; cases e
    | some w' =>
      rw [e2] at e
      cases e
      obtain ⟨v, ev, rv⟩ := reps_get r e2
      exact ⟨v, by rw [List.getElem?_append_left (by rw [List.length_map, hl]; exact h), List.getElem?_map, ev]; rfl, rv⟩
  · rw [List.getElem?_append_right (by simpa using h)] at e
    have := List.getElem?_eq_some_iff.mp e
    obtain ⟨_, z⟩ := this
    rw [List.getElem_replicate] at z
    cases z
section
variable {P : Program} {w : World} {K : PySem.W.Frag} {mg : Str → Option Value} {base : Heap}
/-- the context of a def's body -/
abbrev cxB (P : Program) (w : World) (K : PySem.W.Frag) (mg : Str → Option Value) (base : Heap) (N : List Str) (qual : Str) (st : Stmt) (f : Addr) (cdv : Value) (A : Around) (outer : List Env) (s : Shared) (H : Hp) (E : XK) : Cx :=
  cxOf (L2.CX P w) P w K mg base N qual (defScope st) f cdv A outer s H E
/-- THE RULE for a def -/
theorem fnW {x qual : Str} {st : Stmt} {f : Addr} {fd : FuncData} {N ps : List Str} {g : Bool} {k : Nat} {sp : SpW} {t : XSw → TSw} (F : Fun K x qual st f fd) (S : FnScope N ps (defScope st)) (len : ∀ ws A Q E, sp ws A Q E → ws.length = ps.length)
    (hbody : ∀ (cdv : Value) (A : Around) (outer : List Env) (s : Shared) (H : Hp) (E : XK) (Ew : XSw), RoomG g k (cxB P w K mg base N qual st f cdv A outer s H E).A → TakesW (cxB P w K mg base N qual st f cdv A outer s H E) Ew → WSs (cxB P w K mg base N qual st f cdv A outer s H E) (defBody st) (t Ew))
    (rd : ∀ ws A Q E, sp ws A Q E → t (fun _ => fgE E) { nx := fun _ A' => fg Q .non A', rt := fg Q } (startW N ws) A) : FnB g P w K mg base (k + 1) f fd ps (spL K sp) := by
  obtain ⟨oc, od, kV, doc, pm, an, cdv, ct, osl, rfl, lk, hcd⟩ := F.ex
  refine fnB_of lk hcd S (fun vs H Q E h => ?_) fun A outer s H vs Q E hr h => ?_
  · obtain ⟨ws, A, Q', E', r, _, h, _⟩ := h
    rw [reps_length r]
    exact len _ _ _ _ h
  · obtain ⟨ws, Aa, Q', E', r, ra, h, kQ, kE⟩ := h
    have tk : TakesW (cxB P w K mg base N qual st f cdv A outer s H E) (fun _ => fgE E') := takesW_of (takes_of rfl rfl rfl rfl) fun c d H' ⟨C, fs, A', e1, e2, e3, e4, A'', sb, e5⟩ => kE _ _ _ ⟨C, fs, A'', e1, e2.sub sb, e3, e4.sub sb, e5⟩
    refine ⟨_, (hbody cdv A outer s H E (fun _ => fgE E') hr tk).ps, ?_⟩
    refine loS_i (simS_start r) ra (rd ws Aa Q' E' h) (fun σ' H' ω' A' t1 sm1 ra1 ⟨A'', sb, q⟩ => kQ _ _ ⟨.non, A'', t1, ra1.sub sb, by simp only [rep], q⟩) (fun _ _ _ _ _ _ _ z => z) (fun _ _ _ _ _ _ _ z => z) (fun v H' w A' t1 ra1 r ⟨A'', sb, q⟩ => kQ _ _ ⟨w, A'', t1, ra1.sub sb, r, q⟩)
end

/-! ### builtins by values -/
def CallW (X : Cx) (f : Value) (r : List W → AH → VKw → Prop) : Prop :=
  ∀ (pins : List (Addr × Obj)) (s : Shared) (σ : L2.St) (H : Hp) (A : AH) (vs : List V) (us : List Value) (ws : List W) (Q : VKw), Inv X pins σ H s → RepA X.K H A → Vals vs us → reps X.K H vs ws → r ws A Q →
    wpAny (model X.prog X.w) X.A (call f us) (EPw X pins σ H Q) X.xe s
theorem CallW.of {X : Cx} {f : Value} {r2 : List V → Hp → VK → Prop} {r : List W → AH → VKw → Prop} (h : CallR X f r2) (c : ∀ H A vs ws Q, RepA X.K H A → reps X.K H vs ws → r ws A Q → r2 vs H (Up X.K H Q)) : CallW X f r :=
  fun pins s σ H A vs us ws Q I ra rv rw' q => thn (h pins s σ H vs us _ I rv (c H A vs ws Q ra rw' q)) fun _ _ ⟨v, H', I', r, w, A', t1, t2, t3, q⟩ => ⟨v, H', w, A', I', r, t1, t2, t3, q⟩
theorem CallW.cr {X : Cx} {f : Value} {r : List W → AH → VKw → Prop} (h : CallW X f r) : CallR X f (fun vs H Q => ∃ A ws Q', RepA X.K H A ∧ reps X.K H vs ws ∧ r ws A Q' ∧ ∀ v H', Up X.K H Q' v H' → Q v H') :=
  fun pins s σ H vs us Q I rv ⟨A, ws, Q', ra, rw', q, k⟩ => thn (h pins s σ H A vs us ws Q' I ra rv rw' q) fun _ _ ⟨v, H', w, A', I', r, t1, t2, t3, q⟩ => ⟨v, H', I', r, k v H' ⟨w, A', t1, t2, t3, q⟩⟩
theorem CallW.or {X : Cx} {f : Value} {r r' : List W → AH → VKw → Prop} (h : CallW X f r) (h' : CallW X f r') : CallW X f (fun ws A Q => r ws A Q ∨ r' ws A Q) := fun pins s σ H A vs us ws Q I ra rv rw' q => by
  rcases q with q | q
  · exact h pins s σ H A vs us ws Q I ra rv rw' q
  · exact h' pins s σ H A vs us ws Q I ra rv rw' q
def wCB (r : List W → AH → VKw → Prop) (ta : TAw) : TEw := fun ω A Q => ta ω A fun ws A1 => r ws A1 Q
section
variable {X : Cx} {x : Str} {p pos : Pos} {e : Expr} {es : List Expr} {t : TAw} {id T : String} {r : List W → AH → VKw → Prop}
theorem we_callB (hc : CallW X (.builtin id) r) (hg : Gl X x) (hm : X.mg x = none) (hv : bootBuiltins x = some (.builtin id)) (ha : WA X (e :: es) t) (hn : x ≠ "__name__" := by decide) (hdb : (x == ("__debug__" : Str)) = false := by decide)
    (he : starEach (e :: es) X.env = (false, eval e X.env) :: starEach es X.env := by rfl) (hpl : (backTo pos (starEach es X.env)).any (·.1) = false := by rfl) : WE X (.Call (.Name x p) (e :: es) [] pos) (wCB r t) :=
  WE.of (pe_callB hc.cr hg hm hv ha.pa hn hdb he hpl) fun σ H ω A Q sm ra h => loA_i sm ra h fun vs H1 ws A1 t1 sm1 ra1 rv q => ⟨A1, ws, Q, ra1, rv, q, fun v H' u => Up.trans t1 u⟩
theorem we_callTy (hc : CallW X (.type T) r) (hg : Gl X x) (hm : X.mg x = none) (hv : bootBuiltins x = some (.type T)) (ha : WA X (e :: es) t) (hn : x ≠ "__name__" := by decide) (hdb : (x == ("__debug__" : Str)) = false := by decide)
    (he : starEach (e :: es) X.env = (false, eval e X.env) :: starEach es X.env := by rfl) (hpl : (backTo pos (starEach es X.env)).any (·.1) = false := by rfl) : WE X (.Call (.Name x p) (e :: es) [] pos) (wCB r t) :=
  WE.of (pe_callTy hc.cr hg hm hv ha.pa hn hdb he hpl) fun σ H ω A Q sm ra h => loA_i sm ra h fun vs H1 ws A1 t1 sm1 ra1 rv q => ⟨A1, ws, Q, ra1, rv, q, fun v H' u => Up.trans t1 u⟩
end
/-! methods of built-in types -/
def MtW (X : Cx) (id : String) (r : W → List W → AH → VKw → Prop) : Prop :=
  ∀ (pins : List (Addr × Obj)) (s : Shared) (σ : L2.St) (H : Hp) (A : AH) (x : V) (v : Value) (a : W) (vs : List V) (us : List Value) (ws : List W) (Q : VKw), Inv X pins σ H s → RepA X.K H A → RelV x v → rep X.K H x a → Vals vs us → reps X.K H vs ws → r a ws A Q →
    wpAny (model X.prog X.w) X.A (call (.builtin id) (v :: us)) (EPw X pins σ H Q) X.xe s
theorem MtW.of {X : Cx} {id : String} {r2 : V → List V → Hp → VK → Prop} {r : W → List W → AH → VKw → Prop} (h : MtR X id r2) (c : ∀ H A x a vs ws Q, RepA X.K H A → rep X.K H x a → reps X.K H vs ws → r a ws A Q → r2 x vs H (Up X.K H Q)) : MtW X id r :=
  fun pins s σ H A x v a vs us ws Q I ra rx ha rv rw' q => thn (h pins s σ H x vs v us _ I rx rv (c H A x a vs ws Q ra ha rw' q)) fun _ _ ⟨v, H', I', r, w, A', t1, t2, t3, q⟩ => ⟨v, H', w, A', I', r, t1, t2, t3, q⟩
theorem MtW.mt {X : Cx} {id : String} {r : W → List W → AH → VKw → Prop} (h : MtW X id r) : MtR X id (fun x vs H Q => ∃ A a ws Q', RepA X.K H A ∧ rep X.K H x a ∧ reps X.K H vs ws ∧ r a ws A Q' ∧ ∀ v H', Up X.K H Q' v H' → Q v H') :=
  fun pins s σ H x vs v us Q I rx rv ⟨A, a, ws, Q', ra, ha, rw', q, k⟩ => thn (h pins s σ H A x v a vs us ws Q' I ra rx ha rv rw' q) fun _ _ ⟨v, H', w, A', I', r, t1, t2, t3, q⟩ => ⟨v, H', I', r, k v H' ⟨w, A', t1, t2, t3, q⟩⟩
/-- the receiver is of the type -/
def tyW (T : String) (w : W) (A : AH) : Prop := match w with
  | .str _ => T = "str"
  | .ref p => (T = "list" ∧ ∃ ws, isL A p ws) ∨ (T = "dict" ∧ ((∃ kvs, A.h p = some (.dK kvs)) ∨ ∃ kvs, A.h p = some (.dT kvs)))
  | _ => False
theorem tyW.v {K : PySem.W.Frag} {H : Hp} {A : AH} {T : String} {x : V} {w : W} (ra : RepA K H A) (r : rep K H x w) (h : tyW T w A) : tyV K T x H := by
  cases w with
  | str z => simp only [rep] at r; subst r; exact h
  | ref p =>
    simp only [rep] at r
    subst r
    rcases h with ⟨e, ws, hl⟩ | ⟨e, ⟨kvs, hk⟩ | ⟨kvs, hk⟩⟩
    · obtain ⟨vs, hs, _⟩ := hl.sq ra
      exact .inl ⟨e, vs, hs⟩
    · obtain ⟨kv, ek, _⟩ := ra.1 p _ hk
      exact .inr (.inr (.inl ⟨e, .inl ⟨kv, ek⟩⟩))
    · obtain ⟨kv, ek, _⟩ := ra.1 p _ hk
      exact .inr (.inr (.inl ⟨e, .inr ⟨kv, ek⟩⟩))
  | non => exact h.elim
  | bl _ => exact h.elim
  | int _ => exact h.elim
  | ty _ => exact h.elim
  | tup _ => exact h.elim
  | ktup _ => exact h.elim
def wBM0 (T : String) (r : W → List W → AH → VKw → Prop) (to : TEw) : TEw := fun ω A Q => to ω A fun w A1 => tyW T w A1 ∧ r w [] A1 Q
def wBM (T : String) (r : W → List W → AH → VKw → Prop) (to : TEw) (t : TAw) : TEw := fun ω A Q => to ω A fun w A1 => tyW T w A1 ∧ t ω A1 fun ws A2 => r w ws A2 Q
section
variable {X : Cx} {o e : Expr} {es : List Expr} {to : TEw} {t : TAw} {name : Str} {apos cpos : Pos} {T id : String} {r : W → List W → AH → VKw → Prop}
theorem we_bm0 (pa : PlainAttrs T) (slot : Slot T name id) (hty : typeOf (.builtin id) = pure (.type "method_descriptor")) (hm : MtW X id r) (ho : WE X o to)
    (hbase : attributeBase o name X.env (eval o X.env) = eval o X.env := by rfl) (hline : (apos.endLine == cpos.line) = true := by rfl) : WE X (.Call (.Attribute o name apos) [] [] cpos) (wBM0 T r to) :=
  WE.of (pe_bm0 pa slot hty hm.mt ho.pe hbase hline) fun σ H ω A Q sm ra h => lo_i sm ra h fun v H1 w A1 t1 sm1 ra1 rv ⟨ty, q⟩ => ⟨ty.v ra1 rv, A1, w, [], Q, ra1, rv, reps_nil, q, fun v H' u => Up.trans t1 u⟩
theorem we_bm (pa : PlainAttrs T) (slot : Slot T name id) (hty : typeOf (.builtin id) = pure (.type "method_descriptor")) (hm : MtW X id r) (ho : WE X o to) (ha : WA X (e :: es) t)
    (hbase : attributeBase o name X.env (eval o X.env) = eval o X.env := by rfl)
    (hfew : ((backTo cpos (starEach (e :: es) X.env)).all (fun x => !x.1) && (backToKw cpos (keywordEach [] X.env)).all (fun x => x.1.isSome)
      && decide ((e :: es).length + ([] : List Keyword).length + (if ([] : List Keyword).isEmpty then 0 else 1) < 30)) = true := by rfl)
    (hline : (apos.endLine == cpos.line) = true := by rfl) (hs : starEach (e :: es) X.env = (false, eval e X.env) :: starEach es X.env := by rfl) (hplain : (backTo cpos (starEach es X.env)).any (·.1) = false := by rfl) :
    WE X (.Call (.Attribute o name apos) (e :: es) [] cpos) (wBM T r to t) :=
  WE.of (pe_bm pa slot hty hm.mt ho.pe ha.pa hbase hfew hline hs hplain) fun σ H ω A Q sm ra h => lo_i sm ra h fun v H1 w A1 t1 sm1 ra1 rv ⟨ty, q⟩ => ⟨ty.v ra1 rv, loA_i sm1 ra1 q fun vs H2 ws A2 t2 sm2 ra2 rv2 q2 => ⟨A2, w, ws, Q, ra2, rep_mono t2 _ _ rv, rv2, q2, fun v H' u => Up.trans (t1.trans t2) u⟩⟩
end
/-! subscripts -/
def IxW (X : Cx) (r : R2w) : Prop :=
  ∀ (value slice : Expr) (pins : List (Addr × Obj)) (s : Shared) (σ : L2.St) (H : Hp) (A : AH) (x y : V) (v u : Value) (a b : W) (Q : VKw), Inv X pins σ H s → RepA X.K H A → RelV x v → RelV y u → rep X.K H x a → rep X.K H y b → r a b A Q →
    subscripted slice false v u = operate [v, u] (getItem v u) → wpAny (model X.prog X.w) X.A (PyProof.Rows.subscriptTail value slice v u) (EPw X pins σ H Q) X.xe s
theorem IxW.of {X : Cx} {r2 : R2} {r : R2w} (h : IxR X r2) (c : ∀ H A x y a b Q, RepA X.K H A → rep X.K H x a → rep X.K H y b → r a b A Q → r2 x y H (Up X.K H Q)) : IxW X r :=
  fun value slice pins s σ H A x y v u a b Q I ra rx ry ha hb q hs => thn (h value slice pins s σ H x y v u _ I rx ry (c H A x y a b Q ra ha hb q) hs) fun _ _ ⟨v, H', I', r, w, A', t1, t2, t3, q⟩ => ⟨v, H', w, A', I', r, t1, t2, t3, q⟩
theorem IxW.ix {X : Cx} {r : R2w} (h : IxW X r) : IxR X (fun x y H Q => ∃ A a b Q', RepA X.K H A ∧ rep X.K H x a ∧ rep X.K H y b ∧ r a b A Q' ∧ ∀ v H', Up X.K H Q' v H' → Q v H') :=
  fun value slice pins s σ H x y v u Q I rx ry ⟨A, a, b, Q', ra, ha, hb, q, k⟩ hs => thn (h value slice pins s σ H A x y v u a b Q' I ra rx ry ha hb q hs) fun _ _ ⟨v, H', w, A', I', r, t1, t2, t3, q⟩ => ⟨v, H', I', r, k v H' ⟨w, A', t1, t2, t3, q⟩⟩
section
variable {X : Cx} {a b : Expr} {ta tb : TEw} {pos : Pos}
theorem we_ix {r : R2w} (hr : IxW X r) (ha : WE X a ta) (hb : WE X b tb) (hs : PlainIx b) : WE X (.Subscript a b pos) (wOp r ta tb) := WE.of (pe_ix hr.ix ha.pe hb.pe hs) fun _ _ _ _ _ sm ra h => wop_lo sm ra h
end
end Wx

set_option Elab.async false
set_option linter.all false
set_option maxRecDepth 100000
set_option maxHeartbeats 4000000
/-! WX6: operators, comparisons, truth, len, subscripts, slices, list methods. -/
namespace Wx
open PySem L2

section
variable {K : PySem.W.Frag} {H : Hp} {A : AH}
theorem Up.new {Q : VKw} {p : Addr} {vs : List V} {ws : List W} (ra : RepA K H A) (hp : H p = none) (r : reps K H vs ws) (q : ∀ p, A.h p = none → Q (.ref p) (A.put p (.lst ws))) : Up K H Q (.ref p) (upd H p (.lst vs)) :=
  ⟨.ref p, _, tupLe_new hp, ra.new (wo := .lst ws) hp ⟨vs, upd_same, reps_mono (tupLe_new hp) _ _ r⟩, by simp only [rep], q p (ra.fresh hp)⟩
theorem Up.newT {Q : VKw} {p : Addr} {vs : List V} {ws : List W} (ra : RepA K H A) (hp : H p = none) (r : reps K H vs ws) (q : Q (.tup ws) A) : Up K H Q (.ref p) (upd H p (.tup vs)) :=
  ⟨.tup ws, A, tupLe_new hp, ra.new0 hp, rep_tup upd_same (reps_mono (tupLe_new hp) _ _ r), q⟩
/-- a list is written -/
theorem Up.setL {Q : VKw} {p : Addr} {vs vs' : List V} {ws ws' : List W} {v : V} {w : W} (ra : RepA K H A) (ea : A.h p = some (.lst ws)) (e : H p = some (.lst vs)) (r : reps K H vs' ws') (rv : rep K H v w) (q : Q w (A.put p (.lst ws'))) : Up K H Q v (upd H p (.lst vs')) := by
  have t : TupLe K H (upd H p (.lst vs')) := tupLe_set e (by intro _ z; cases z) (by intro _ _ z; cases z)
  exact ⟨w, _, t, ra.set (wo' := .lst ws') ea e (by intro _ z; cases z) (by intro _ _ z; cases z) ⟨vs', upd_same, reps_mono t _ _ r⟩, rep_mono t _ _ rv, q⟩
theorem RepA.lst (ra : RepA K H A) {p : Addr} {ws : List W} (e : A.h p = some (.lst ws)) : ∃ vs, H p = some (.lst vs) ∧ reps K H vs ws := ra.1 p _ e
end

section
variable {X : Cx}
theorem OpW.imp {f : Value → Value → Sem Value} {r r' : R2w} (h : OpW X f r) (c : ∀ a b A Q, r' a b A Q → r a b A Q) : OpW X f r' := fun pins s σ H A x y u v a b Q I ra rx ry ha hb q => h pins s σ H A x y u v a b Q I ra rx ry ha hb (c a b A Q q)
theorem OpW.or {f : Value → Value → Sem Value} {r r' : R2w} (h : OpW X f r) (h' : OpW X f r') : OpW X f (fun a b A Q => r a b A Q ∨ r' a b A Q) := fun pins s σ H A x y u v a b Q I ra rx ry ha hb q => by
  rcases q with q | q
  · exact h pins s σ H A x y u v a b Q I ra rx ry ha hb q
  · exact h' pins s σ H A x y u v a b Q I ra rx ry ha hb q
/-! ### arithmetic -/
def rwI (C : Int → Int → Prop) (g : Int → Int → W) : R2w := fun a b A Q => ∃ i j, a = .int i ∧ b = .int j ∧ C i j ∧ Q (g i j) A
theorem ow_I {f : Value → Value → Sem Value} {C : Int → Int → Prop} {g : Int → Int → V} {gw : Int → Int → W} (h : OpR X f (rI C g)) (hg : ∀ H i j, rep X.K H (g i j) (gw i j)) : OpW X f (rwI C gw) := by
  refine OpW.of h fun H A x y a b Q ra ha hb ⟨i, j, e1, e2, hc, q⟩ => ?_
  subst e1 e2
  simp only [rep] at ha hb
  subst ha hb
  exact ⟨_, _, rfl, rfl, hc, Up.i ra (hg _ _ _) q⟩
def rwI0 (g : Int → Int → W) : R2w := fun a b A Q => ∃ i j, a = .int i ∧ b = .int j ∧ Q (g i j) A
theorem ow_I0 {f : Value → Value → Sem Value} {g : Int → Int → V} {gw : Int → Int → W} (h : OpR X f (rI0 g)) (hg : ∀ H i j, rep X.K H (g i j) (gw i j)) : OpW X f (rwI0 gw) := by
  refine OpW.of h fun H A x y a b Q ra ha hb ⟨i, j, e1, e2, q⟩ => ?_
  subst e1 e2
  simp only [rep] at ha hb
  subst ha hb
  exact ⟨_, _, rfl, rfl, Up.i ra (hg _ _ _) q⟩
def rwAddS : R2w := fun a b A Q => ∃ x y, a = .str x ∧ b = .str y ∧ x.length + y.length ≤ sizeLine ∧ Q (.str (x ++ y)) A
def rwAddT : R2w := fun a b A Q => ∃ xs ys, a = .tup xs ∧ b = .tup ys ∧ xs.length + ys.length ≤ sizeLine ∧ Q (.tup (xs ++ ys)) A
def rwAddL : R2w := fun a b A Q => ∃ p q xs ys, a = .ref p ∧ b = .ref q ∧ A.h p = some (.lst xs) ∧ A.h q = some (.lst ys) ∧ xs.length + ys.length ≤ sizeLine ∧ ∀ r, A.h r = none → Q (.ref r) (A.put r (.lst (xs ++ ys)))
theorem ow_addS : OpW X (binaryOp .Add) rwAddS := OpW.of op_add_str fun H A x y a b Q ra ha hb ⟨z, u, e1, e2, l, q⟩ => by
  subst e1 e2
  simp only [rep] at ha hb
  exact ⟨z, u, ha, hb, l, Up.i ra (by simp only [rep]) q⟩
theorem ow_addT : OpW X (binaryOp .Add) rwAddT := OpW.of op_catA fun H A x y a b Q ra ha hb ⟨xs, ys, e1, e2, l, q⟩ => by
  subst e1 e2
  have ha' := ha
  have hb' := hb
  simp only [rep] at ha hb
  obtain ⟨p, vs, ep, sp, rp⟩ := ha
  obtain ⟨p', us, ep', sp', rp'⟩ := hb
  refine ⟨p, p', vs, us, ep, ep', SqT.of sp, SqT.of sp', by rw [reps_length rp, reps_length rp']; exact l, fun z => ?_, fun z z' => ?_, fun z z' r hr => ?_⟩
  · subst z
    have : xs = [] := List.eq_nil_of_length_eq_zero (by rw [← reps_length rp]; rfl)
    subst this
    exact Up.i ra (ep' ▸ hb') q
  · subst z'
    have : ys = [] := List.eq_nil_of_length_eq_zero (by rw [← reps_length rp']; rfl)
    subst this
    rw [List.append_nil] at q
    exact Up.i ra (ep ▸ ha') q
  · exact Up.newT ra hr (reps_append rp rp') q
theorem ow_addL : OpW X (binaryOp .Add) rwAddL := OpW.of op_cat fun H A x y a b Q ra ha hb ⟨p, p', xs, ys, e1, e2, h1, h2, l, q⟩ => by
  subst e1 e2
  simp only [rep] at ha hb
  obtain ⟨vs, ev, rv⟩ := ra.lst h1
  obtain ⟨us, eu, ru⟩ := ra.lst h2
  exact ⟨p, p', vs, us, ha, hb, ev, eu, by rw [reps_length rv, reps_length ru]; exact l, fun r hr => Up.new ra hr (reps_append rv ru) q⟩
def wAdd : R2w := fun a b A Q => match a, b with
  | .int i, .int j => Q (.int (i + j)) A
  | .str x, .str y => x.length + y.length ≤ sizeLine ∧ Q (.str (x ++ y)) A
  | .tup xs, .tup ys => xs.length + ys.length ≤ sizeLine ∧ Q (.tup (xs ++ ys)) A
  | .ref p, .ref q => ∃ xs ys, A.h p = some (.lst xs) ∧ A.h q = some (.lst ys) ∧ xs.length + ys.length ≤ sizeLine ∧ ∀ r, A.h r = none → Q (.ref r) (A.put r (.lst (xs ++ ys)))
  | _, _ => False
theorem ow_add : OpW X (binaryOp .Add) wAdd := OpW.imp ((ow_I0 op_add (gw := fun i j => .int (i + j)) fun _ _ _ => by simp only [rep]).or (ow_addS.or (ow_addT.or ow_addL))) fun a b A Q q => by
  cases a <;> cases b <;> first | exact False.elim q | skip
  · exact .inl ⟨_, _, rfl, rfl, q⟩
  · exact .inr (.inl ⟨_, _, rfl, rfl, q⟩)
  · obtain ⟨xs, ys, q⟩ := q
    exact .inr (.inr (.inr ⟨_, _, xs, ys, rfl, rfl, q⟩))
  · exact .inr (.inr (.inl ⟨_, _, rfl, rfl, q⟩))
/-- += on ints alone -/
def wIAdd : R2w := rwI0 fun i j => .int (i + j)
theorem ow_iadd : OpW X (inplaceOp .Add) wIAdd := ow_I0 iop_add fun _ _ _ => by simp only [rep]
def wISub : R2w := rwI0 fun i j => .int (i - j)
theorem ow_isub : OpW X (inplaceOp .Sub) wISub := ow_I0 iop_sub fun _ _ _ => by simp only [rep]
def wSub : R2w := rwI0 fun i j => .int (i - j)
theorem ow_sub : OpW X (binaryOp .Sub) wSub := ow_I0 op_sub fun _ _ _ => by simp only [rep]
def wMulI : R2w := rwI CMul fun i j => .int (i * j)
theorem ow_mulI : OpW X (binaryOp .Mult) wMulI := ow_I op_mul fun _ _ _ => by simp only [rep]
def wDiv : R2w := rwI CDivN fun i j => .int (i.fdiv j)
theorem ow_div : OpW X (binaryOp .FloorDiv) wDiv := ow_I op_fdivN fun _ _ _ => by simp only [rep]
def wMod : R2w := rwI (fun _ j => j ≠ 0) fun i j => .int (i.fmod j)
theorem ow_mod : OpW X (binaryOp .Mod) wMod := ow_I op_modN fun _ _ _ => by simp only [rep]
def wPow : R2w := rwI CPow fun i j => .int (i ^ j.toNat)
theorem ow_pow : OpW X (binaryOp .Pow) wPow := ow_I op_pow fun _ _ _ => by simp only [rep]
/-! ### comparisons of ints -/
def wLtI : R2w := rwI0 fun i j => .bl (decide (i < j))
theorem ow_ltI : OpW X (compareOp .Lt) wLtI := ow_I0 op_lt fun _ _ _ => by simp only [rep]
def wLeI : R2w := rwI0 fun i j => .bl (decide (i ≤ j))
theorem ow_leI : OpW X (compareOp .LtE) wLeI := ow_I0 op_le fun _ _ _ => by simp only [rep]
def wGtI : R2w := rwI0 fun i j => .bl (decide (j < i))
theorem ow_gtI : OpW X (compareOp .Gt) wGtI := ow_I0 op_gt fun _ _ _ => by simp only [rep]
def wGeI : R2w := rwI0 fun i j => .bl (decide (j ≤ i))
theorem ow_geI : OpW X (compareOp .GtE) wGeI := ow_I0 op_ge fun _ _ _ => by simp only [rep]
/-! is None, is True .. -/
def isNon : W → Bool
  | .non => true
  | _ => false
def wIsN : R2w := fun a b A Q => b = .non ∧ Q (.bl (isNon a)) A
theorem rep_non {K : PySem.W.Frag} {H : Hp} {x : V} {a : W} (h : rep K H x a) : decide (x = V.non) = isNon a := by
  cases a <;> simp only [rep] at h <;> first | (subst h; rfl) | (obtain ⟨_, _, e, _⟩ := h; subst e; rfl)
theorem ow_isN : OpW X (compareOp .Is) wIsN := OpW.of op_isN fun H A x y a b Q ra ha hb ⟨e, q⟩ => by
  subst e
  simp only [rep] at hb
  exact ⟨hb, Up.i ra (by simp only [rep, rep_non ha]) q⟩
def wNotN : R2w := fun a b A Q => b = .non ∧ Q (.bl (!isNon a)) A
theorem ow_notN : OpW X (compareOp .IsNot) wNotN := OpW.of op_notN fun H A x y a b Q ra ha hb ⟨e, q⟩ => by
  subst e
  simp only [rep] at hb
  exact ⟨hb, Up.i ra (by simp only [rep, rep_non ha]) q⟩
/-! ### equality of data -/
mutual
/-- w reads as the data d -/
def DL (A : AH) : PyData → W → Prop
  | .none, w => w = .non
  | .bool b, w => w = .bl b
  | .int i, w => w = .int i
  | .str x, w => w = .str x
  | .tuple ds, w => ∃ ws, (w = .tup ws ∨ w = .ktup ws) ∧ DLs A ds ws
  | .list ds, w => ∃ p ws, w = .ref p ∧ isL A p ws ∧ DLs A ds ws
  | .dict _, _ => False
def DLs (A : AH) : List PyData → List W → Prop
  | [], ws => ws = []
  | d :: ds, ws => ∃ w r, ws = w :: r ∧ DL A d w ∧ DLs A ds r
end
section
variable {K : PySem.W.Frag} {H : Hp} {A : AH}
mutual
theorem DL.dp (ra : RepA K H A) : ∀ (d : PyData) (w : W) (v : V), rep K H v w → DL A d w → Dp K H v d
  | .none, w, v, r, h => by simp only [DL] at h; subst h; simp only [rep] at r; subst r; exact .non
  | .bool b, w, v, r, h => by simp only [DL] at h; subst h; simp only [rep] at r; subst r; exact .bl b
  | .int b, w, v, r, h => by simp only [DL] at h; subst h; simp only [rep] at r; subst r; exact .int b
  | .str b, w, v, r, h => by simp only [DL] at h; subst h; simp only [rep] at r; subst r; exact .str b
  | .dict b, w, v, r, h => by simp only [DL] at h
  | .tuple ds, w, v, r, h => by
    simp only [DL] at h
    obtain ⟨ws, e, hs⟩ := h
    rcases e with e | e
    · subst e
      simp only [rep] at r
      obtain ⟨a, vs, rfl, s, rs⟩ := r
      exact .tup (SqT.of s) (DLs.dp ra ds ws vs rs hs)
    · subst e
      simp only [rep] at r
      obtain ⟨a, vs, rfl, s, rs⟩ := r
      exact .tup s (DLs.dp ra ds ws vs rs hs)
  | .list ds, w, v, r, h => by
    simp only [DL] at h
    obtain ⟨p, ws, e, hl, hs⟩ := h
    subst e
    simp only [rep] at r
    subst r
    obtain ⟨vs, sq, rs⟩ := hl.sq ra
    exact .lst sq (DLs.dp ra ds ws vs rs hs)
theorem DLs.dp (ra : RepA K H A) : ∀ (ds : List PyData) (ws : List W) (vs : List V), reps K H vs ws → DLs A ds ws → DpAll K H vs ds
  | [], ws, vs, r, h => by simp only [DLs] at h; subst h; rw [reps_unnil r]; exact .nil
  | d :: ds, ws, vs, r, h => by
    simp only [DLs] at h
    obtain ⟨w, wr, rfl, h1, h2⟩ := h
    obtain ⟨v, vr, rfl, r1, r2⟩ := reps_uncons r
    exact .cons (DL.dp ra d w v r1 h1) (DLs.dp ra ds wr vr r2 h2)
end
end
def wEqD (b : Bool) : R2w := fun x y A Q => ∃ d e, DL A d x ∧ DL A e y ∧ SeqAt.shaped d = true ∧ SeqAt.shaped e = true ∧ Q (.bl (if b then PyData.eqv d e else !PyData.eqv d e)) A
theorem ow_eqD (hu : X.A.units + 64 < cLine) : OpW X (compareOp .Eq) (wEqD true) := OpW.of (op_eqD hu) fun H A x y a b Q ra ha hb ⟨d, e, h1, h2, s1, s2, q⟩ => ⟨d, e, DL.dp ra _ _ _ ha h1, DL.dp ra _ _ _ hb h2, s1, s2, Up.i ra (by simp only [rep]; rfl) q⟩
theorem ow_neD (hu : X.A.units + 64 < cLine) : OpW X (compareOp .NotEq) (wEqD false) := OpW.of (op_neD hu) fun H A x y a b Q ra ha hb ⟨d, e, h1, h2, s1, s2, q⟩ => ⟨d, e, DL.dp ra _ _ _ ha h1, DL.dp ra _ _ _ hb h2, s1, s2, Up.i ra (by simp only [rep]; rfl) q⟩
/-- two scalars that are surely of one kind -/
def wEqS (b : Bool) : R2w := fun x y A Q => match x, y with
  | .int i, .int j => Q (.bl (if b then decide (i = j) else !decide (i = j))) A
  | .str i, .str j => Q (.bl (if b then decide (i = j) else !decide (i = j))) A
  | .bl i, .bl j => Q (.bl (if b then decide (i = j) else !decide (i = j))) A
  | _, _ => False
theorem v_int {i j : Int} : decide (V.int i = V.int j) = decide (i = j) := by simp
theorem v_str {i j : Str} : decide (V.str i = V.str j) = decide (i = j) := by simp
theorem v_bl {i j : Bool} : decide (V.bl i = V.bl j) = decide (i = j) := by simp
theorem ow_eqS : OpW X (compareOp .Eq) (wEqS true) := OpW.of op_eq fun H A x y a b Q ra ha hb q => by
  cases a <;> cases b <;> first | exact False.elim q | skip
  all_goals
    simp only [rep] at ha hb
    subst ha hb
    exact ⟨rfl, Up.i ra (by simp only [rep, v_int, v_str, v_bl]; rfl) q⟩
theorem ow_neS : OpW X (compareOp .NotEq) (wEqS false) := OpW.of op_ne fun H A x y a b Q ra ha hb q => by
  cases a <;> cases b <;> first | exact False.elim q | skip
  all_goals
    simp only [rep] at ha hb
    subst ha hb
    exact ⟨rfl, Up.i ra (by simp only [rep, v_int, v_str, v_bl]; rfl) q⟩
/-! ### len -/
def lenW (w : W) (A : AH) (k : Nat → Prop) : Prop := match w with
  | .str z => z.length ≤ sizeLine ∧ k z.length
  | .tup ws => k ws.length
  | .ktup ws => k ws.length
  | .ref p => ∃ ws, isL A p ws ∧ k ws.length
  | _ => False
def wLen : List W → AH → VKw → Prop := fun ws A Q => ∃ w, ws = [w] ∧ lenW w A fun n => Q (.int n) A
theorem cw_len : CallW X (.builtin "len") wLen := CallW.of call_len fun H A vs ws Q ra r ⟨w, e, q⟩ => by
  subst e
  obtain ⟨v, r0, rfl, r1, r2⟩ := reps_uncons r
  obtain rfl := reps_unnil r2
  cases w with
  | str z => simp only [rep] at r1; subst r1; exact ⟨_, _, rfl, ⟨q.1, rfl⟩, Up.i ra (by simp only [rep]) q.2⟩
  | tup us => simp only [rep] at r1; obtain ⟨p, vs, rfl, s, rs⟩ := r1; exact ⟨_, _, rfl, .inr ⟨vs, SqT.of s, rfl⟩, Up.i ra (by simp only [rep, reps_length rs]) q⟩
  | ktup us => simp only [rep] at r1; obtain ⟨p, vs, rfl, s, rs⟩ := r1; exact ⟨_, _, rfl, .inr ⟨vs, s, rfl⟩, Up.i ra (by simp only [rep, reps_length rs]) q⟩
  | ref p =>
    simp only [rep] at r1
    subst r1
    obtain ⟨us, hl, q⟩ := q
    obtain ⟨vs, s, rs⟩ := hl.sq ra
    exact ⟨_, _, rfl, .inl ⟨vs, s, rfl⟩, Up.i ra (by simp only [rep, reps_length rs]) q⟩
  | non => exact False.elim q
  | bl _ => exact False.elim q
  | int _ => exact False.elim q
  | ty _ => exact False.elim q
/-! ### subscripts -/
def wIx : R2w := fun a b A Q => match a, b with
  | .tup ws, .int i => ∃ w, atI ws i = some w ∧ Q w A
  | .ktup ws, .int i => ∃ w, atI ws i = some w ∧ Q w A
  | .ref p, .int i => ∃ ws w, isL A p ws ∧ atI ws i = some w ∧ Q w A
  | .str z, .int i => ∃ c, z.length ≤ sizeLine ∧ atI z.cps.toList i = some c ∧ Q (.str ⟨#[c]⟩) A
  | _, _ => False
theorem reps_atI {K : PySem.W.Frag} {H : Hp} {vs : List V} {ws : List W} {i : Int} {w : W} (r : reps K H vs ws) (h : atI ws i = some w) : ∃ v, atI vs i = some v ∧ rep K H v w := by
  unfold atI at h ⊢
  rw [reps_length r]
  cases e : ixN ws.length i with
  | none => rw [e] at h; cases h
  | some j =>
    rw [e] at h
    obtain ⟨v, ev, rv⟩ := reps_get r h
    exact ⟨v, ev, rv⟩
theorem iw_seq : IxW X wIx := IxW.of ix_seq fun H A x y a b Q ra ha hb q => by
  cases a <;> cases b <;> first | exact False.elim q | skip
  · simp only [rep] at ha hb
    obtain ⟨c, l, h, q⟩ := q
    exact .inr (.inr ⟨_, _, c, ha, hb, l, h, Up.i ra (by simp only [rep]) q⟩)
  · simp only [rep] at ha hb
    obtain ⟨ws, w, hl, h, q⟩ := q
    obtain ⟨vs, s, rs⟩ := hl.sq ra
    obtain ⟨v, ev, rv⟩ := reps_atI rs h
    exact .inl ⟨_, vs, _, v, ha, hb, s, ev, Up.i ra rv q⟩
  · simp only [rep] at ha hb
    obtain ⟨p, vs, e, s, rs⟩ := ha
    obtain ⟨w, h, q⟩ := q
    obtain ⟨v, ev, rv⟩ := reps_atI rs h
    exact .inr (.inl ⟨_, vs, _, v, e, hb, SqT.of s, ev, Up.i ra rv q⟩)
  · simp only [rep] at ha hb
    obtain ⟨p, vs, e, s, rs⟩ := ha
    obtain ⟨w, h, q⟩ := q
    obtain ⟨v, ev, rv⟩ := reps_atI rs h
    exact .inr (.inl ⟨_, vs, _, v, e, hb, s, ev, Up.i ra rv q⟩)
/-! ### methods of lists -/
def wAppend : W → List W → AH → VKw → Prop := fun x ws A Q => ∃ p xs y, x = .ref p ∧ ws = [y] ∧ A.h p = some (.lst xs) ∧ xs.length < sizeLine ∧ Q .non (A.put p (.lst (xs ++ [y])))
theorem mw_append : MtW X "list.append" wAppend := MtW.of mt_append fun H A x a vs ws Q ra ha r ⟨p, xs, y, e1, e2, h, l, q⟩ => by
  subst e1 e2
  simp only [rep] at ha
  obtain ⟨v, r0, rfl, r1, r2⟩ := reps_uncons r
  obtain rfl := reps_unnil r2
  obtain ⟨us, eu, ru⟩ := ra.lst h
  exact ⟨p, us, v, ha, rfl, eu, by rw [reps_length ru]; exact l, Up.setL ra h eu (reps_append ru (reps_cons r1 reps_nil)) (by simp only [rep]) q⟩
def wPopAt : W → List W → AH → VKw → Prop := fun x ws A Q => ∃ p xs i k y, x = .ref p ∧ ws = [.int i] ∧ A.h p = some (.lst xs) ∧ -(2 ^ 63) ≤ i ∧ i < 2 ^ 63 ∧ seqIndex? i xs.length = some k ∧ xs[k]? = some y ∧ Q y (A.put p (.lst (xs.eraseIdx k)))
theorem mw_popAt : MtW X "list.pop" wPopAt := MtW.of mt_popAt fun H A x a vs ws Q ra ha r ⟨p, xs, i, k, y, e1, e2, h, l1, l2, h3, h4, q⟩ => by
  subst e1 e2
  simp only [rep] at ha
  obtain ⟨v, r0, rfl, r1, r2⟩ := reps_uncons r
  obtain rfl := reps_unnil r2
  simp only [rep] at r1
  subst r1
  obtain ⟨us, eu, ru⟩ := ra.lst h
  obtain ⟨z, ez, rz⟩ := reps_get ru h4
  exact ⟨p, us, i, k, z, ha, rfl, eu, l1, l2, by rw [reps_length ru]; exact h3, ez, Up.setL ra h eu (reps_eraseIdx k ru) rz q⟩
def wPop : W → List W → AH → VKw → Prop := fun x ws A Q => ∃ p xs y, x = .ref p ∧ ws = [] ∧ A.h p = some (.lst xs) ∧ xs[xs.length - 1]? = some y ∧ Q y (A.put p (.lst xs.dropLast))
theorem reps_dropLast {K : PySem.W.Frag} {H : Hp} {vs : List V} {ws : List W} (r : reps K H vs ws) : reps K H vs.dropLast ws.dropLast := by
  rw [List.dropLast_eq_take, List.dropLast_eq_take, reps_length r]
  exact reps_take _ r
theorem mw_pop : MtW X "list.pop" wPop := MtW.of mt_pop fun H A x a vs ws Q ra ha r ⟨p, xs, y, e1, e2, h, h4, q⟩ => by
  subst e1 e2
  simp only [rep] at ha
  obtain rfl := reps_unnil r
  obtain ⟨us, eu, ru⟩ := ra.lst h
  obtain ⟨z, ez, rz⟩ := reps_get ru h4
  exact ⟨p, us, z, ha, rfl, eu, by rw [reps_length ru]; exact ez, Up.setL ra h eu (reps_dropLast ru) rz q⟩
/-! ### list(..), tuple(..) of a list or tuple -/
def seqW (w : W) (A : AH) (ws : List W) : Prop := match w with
  | .tup us => us = ws
  | .ktup us => us = ws
  | .ref p => isL A p ws
  | _ => False
theorem seqW.sq {K : PySem.W.Frag} {H : Hp} {A : AH} {w : W} {ws : List W} {v : V} (h : seqW w A ws) (ra : RepA K H A) (r : rep K H v w) : ∃ p vs, v = .ref p ∧ (SqL K H p vs ∨ SqT K H p vs) ∧ reps K H vs ws := by
  cases w with
  | tup us => simp only [rep] at r; obtain ⟨p, vs, e, s, rs⟩ := r; subst h; exact ⟨p, vs, e, .inr (SqT.of s), rs⟩
  | ktup us => simp only [rep] at r; obtain ⟨p, vs, e, s, rs⟩ := r; subst h; exact ⟨p, vs, e, .inr s, rs⟩
  | ref p => simp only [rep] at r; obtain ⟨vs, s, rs⟩ := isL.sq h ra; exact ⟨p, vs, r, .inl s, rs⟩
  | non => exact False.elim h
  | bl _ => exact False.elim h
  | int _ => exact False.elim h
  | str _ => exact False.elim h
  | ty _ => exact False.elim h
def wListOf : List W → AH → VKw → Prop := fun ws A Q => ∃ w us, ws = [w] ∧ seqW w A us ∧ ∀ p, A.h p = none → Q (.ref p) (A.put p (.lst us))
theorem cw_list : CallW X (.type "list") wListOf := CallW.of call_list_of fun H A vs ws Q ra r ⟨w, us, e, h, q⟩ => by
  subst e
  obtain ⟨v, r0, rfl, r1, r2⟩ := reps_uncons r
  obtain rfl := reps_unnil r2
  obtain ⟨p, zs, rfl, s, rs⟩ := h.sq ra r1
  exact ⟨p, zs, rfl, s, fun l hl => Up.new ra hl rs q⟩
def wTupleOf : List W → AH → VKw → Prop := fun ws A Q => ∃ w us, ws = [w] ∧ seqW w A us ∧ (match w with | .ktup _ => False | _ => True) ∧ Q (.tup us) A
theorem cw_tuple : CallW X (.type "tuple") wTupleOf := CallW.of call_tuple_of fun H A vs ws Q ra r ⟨w, us, e, h, hk, q⟩ => by
  subst e
  obtain ⟨v, r0, rfl, r1, r2⟩ := reps_uncons r
  obtain rfl := reps_unnil r2
  cases w with
  | ref p =>
    simp only [rep] at r1
    subst r1
    obtain ⟨vs, s, rs⟩ := isL.sq h ra
    exact ⟨p, vs, rfl, .inl ⟨s, fun l hl => Up.newT ra hl rs q⟩⟩
  | tup zs =>
    have r1' := r1
    simp only [rep] at r1
    obtain ⟨p, vs, rfl, s, rs⟩ := r1
    obtain rfl : zs = us := h
    exact ⟨p, vs, rfl, .inr ⟨SqT.of s, Up.i ra r1' q⟩⟩
  | ktup _ => exact False.elim hk
  | non => exact False.elim h
  | bl _ => exact False.elim h
  | int _ => exact False.elim h
  | str _ => exact False.elim h
  | ty _ => exact False.elim h
/-! int(n) -/
def wIntOf : List W → AH → VKw → Prop := fun ws A Q => (∃ i, ws = [.int i] ∧ Q (.int i) A) ∨ ∃ b, ws = [.bl b] ∧ Q (.int (if b then 1 else 0)) A
theorem cw_int : CallW X (.type "int") wIntOf := CallW.of call_int1 fun H A vs ws Q ra r q => by
  rcases q with ⟨i, e, q⟩ | ⟨i, e, q⟩
  all_goals
    subst e
    obtain ⟨v, r0, rfl, r1, r2⟩ := reps_uncons r
    obtain rfl := reps_unnil r2
    simp only [rep] at r1
    subst r1
  · exact .inl ⟨i, rfl, Up.i ra (by simp only [rep]) q⟩
  · exact .inr ⟨i, rfl, Up.i ra (by simp only [rep]) q⟩
/-! all, any of lists of bools -/
def wAllOf : List W → AH → VKw → Prop := fun ws A Q => ∃ (p : Addr) (bs : List Bool), ws = [.ref p] ∧ isL A p (bs.map W.bl) ∧ Q (.bl (bs.all id)) A
def wAnyOf : List W → AH → VKw → Prop := fun ws A Q => ∃ (p : Addr) (bs : List Bool), ws = [.ref p] ∧ isL A p (bs.map W.bl) ∧ Q (.bl (bs.any id)) A
theorem reps_bls_inv {K : PySem.W.Frag} {H : Hp} : ∀ {bs : List Bool} {vs : List V}, reps K H vs (bs.map W.bl) → vs = bs.map V.bl
  | [], vs, h => reps_unnil h
  | n :: ns, vs, h => by
    obtain ⟨v, r, rfl, h1, h2⟩ := reps_uncons h
    simp only [rep] at h1
    rw [h1, reps_bls_inv h2] <;> rfl
theorem cw_all (hc : X.calm = true) : CallW X (.builtin "all") wAllOf := CallW.of (cr_all hc) fun H A vs ws Q ra r ⟨p, bs, e, h, q⟩ => by
  subst e
  obtain ⟨v, r0, rfl, r1, r2⟩ := reps_uncons r
  obtain rfl := reps_unnil r2
  simp only [rep] at r1
  obtain ⟨us, s, rs⟩ := h.sq ra
  rw [reps_bls_inv rs] at s
  exact ⟨p, bs, by rw [r1], s, Up.i ra (by simp only [rep]) q⟩
theorem cw_any (hc : X.calm = true) : CallW X (.builtin "any") wAnyOf := CallW.of (cr_any hc) fun H A vs ws Q ra r ⟨p, bs, e, h, q⟩ => by
  subst e
  obtain ⟨v, r0, rfl, r1, r2⟩ := reps_uncons r
  obtain rfl := reps_unnil r2
  simp only [rep] at r1
  obtain ⟨us, s, rs⟩ := h.sq ra
  rw [reps_bls_inv rs] at s
  exact ⟨p, bs, by rw [r1], s, Up.i ra (by simp only [rep]) q⟩
/-! ### slices -/
abbrev TOw := Sw → AH → (Option Int → AH → Prop) → Prop
def loO (K : PySem.W.Frag) (t : TOw) : TO := fun σ H Q => ∃ ω A Q', SimS K H σ ω ∧ RepA K H A ∧ t ω A Q' ∧ ∀ o H' A', TupLe K H H' → SimS K H' σ ω → RepA K H' A' → Q' o A' → Q o H'
structure WP (X : Cx) (e : Option Expr) (t : TOw) : Prop where
  po : PO X e (loO X.K t)
theorem PO.imp {X : Cx} {e : Option Expr} {t u : TO} (h : PO X e t) (c : ∀ σ H Q, u σ H Q → t σ H Q) : PO X e u := ⟨fun pins s σ H Q I q => h.run pins s σ H Q I (c σ H Q q)⟩
def wNoPart : TOw := fun _ A Q => Q none A
def wPart (t : TEw) : TOw := fun ω A Q => t ω A fun w A1 => ∃ i, w = .int i ∧ Q (some i) A1
theorem wp_none : WP X none wNoPart := ⟨PO.imp po_none fun σ H Q ⟨ω, A, Q', sm, ra, h, k⟩ => k none H A (TupLe.refl H) sm ra h⟩
theorem wp_some {e : Expr} {te : TEw} (h : WE X e te) : WP X (some e) (wPart te) := ⟨PO.imp (po_some h.pe) fun σ H Q ⟨ω, A, Q', sm, ra, h, k⟩ => lo_i sm ra h fun v H1 w A1 t1 sm1 ra1 r ⟨i, e, q⟩ => by
  subst e
  simp only [rep] at r
  exact ⟨i, r, k _ _ _ t1 sm1 ra1 q⟩⟩
def cut {α : Type} (xs : List α) (lo hi : Option Int) : List α := (xs.drop (HT.sIx xs.length 0 lo)).take (HT.sIx xs.length xs.length hi - HT.sIx xs.length 0 lo)
def rwSl (w : W) (lo hi : Option Int) (A : AH) (Q : VKw) : Prop := match w with
  | .tup xs => Q (.tup (cut xs lo hi)) A
  | .str z => z.length ≤ sizeLine ∧ Q (.str (cutS z lo hi)) A
  | .ref p => ∃ xs, isL A p xs ∧ ∀ r, A.h r = none → Q (.ref r) (A.put r (.lst (cut xs lo hi)))
  | _ => False
theorem reps_cut {K : PySem.W.Frag} {H : Hp} {vs : List V} {ws : List W} (lo hi : Option Int) (r : reps K H vs ws) : reps K H (cutV vs lo hi) (cut ws lo hi) := by
  unfold cutV cut
  rw [reps_length r]
  exact reps_take _ (reps_drop _ r)
theorem sl_any : SlR X (fun x lo hi H Q => rSlL X.K x lo hi H Q ∨ rSlA X.K x lo hi H Q ∨ rSlS x lo hi H Q) := sl_list.or (sl_tupA.or sl_str)
theorem sIx_whole {n : Nat} {lo hi : Option Int} (h : HT.sIx n 0 lo = 0 ∧ HT.sIx n n hi = n) {α : Type} {xs : List α} (l : xs.length = n) : cut xs lo hi = xs := by
  unfold cut
  rw [l, h.1, h.2, List.drop_zero, Nat.sub_zero, ← l, List.take_length]
def wSl (te : TEw) (tl th : TOw) : TEw := fun ω A Q => te ω A fun w A1 => tl ω A1 fun l A2 => th ω A2 fun u A3 => rwSl w l u A3 Q
theorem we_slice {e : Expr} {lo hi : Option Expr} {te : TEw} {tl th : TOw} {pos p2 : Pos} (he : WE X e te) (hl : WP X lo tl) (hu : WP X hi th) : WE X (.Subscript e (.Slice lo hi none p2) pos) (wSl te tl th) :=
  WE.of (pe_slice sl_any he.pe hl.po hu.po) fun σ H ω A Q sm ra h => lo_i sm ra h fun v H1 w A1 t1 sm1 ra1 r h1 =>
    ⟨ω, A1, _, sm1, ra1, h1, fun l H2 A2 t2 sm2 ra2 h2 => ⟨ω, A2, _, sm2, ra2, h2, fun u H3 A3 t3 sm3 ra3 h3 => by
      have r3 := rep_mono (t2.trans t3) _ _ r
      have T := t1.trans (t2.trans t3)
      cases w with
      | tup xs =>
        have r4 := r3
        simp only [rep] at r3
        obtain ⟨p, vs, e, s, rs⟩ := r3
        refine .inr (.inl ⟨p, vs, e, SqT.of s, fun hw => ?_, fun _ q hq => Up.trans T (Up.newT ra3 hq (reps_cut l u rs) h3)⟩)
        have h3' : Q (.tup (cut xs l u)) A3 := h3
        rw [sIx_whole hw (reps_length rs).symm] at h3'
        exact Up.trans T (Up.i ra3 (e ▸ r4) h3')
      | str z =>
        simp only [rep] at r3
        exact .inr (.inr ⟨z, r3, h3.1, Up.trans T (Up.i ra3 (by simp only [rep]) h3.2)⟩)
      | ref p =>
        simp only [rep] at r3
        obtain ⟨xs, hl, q⟩ := h3
        obtain ⟨vs, s, rs⟩ := hl.sq ra3
        exact .inl ⟨p, vs, r3, s, fun q' hq => Up.trans T (Up.new ra3 hq (reps_cut l u rs) q)⟩
      | non => exact False.elim h3
      | bl _ => exact False.elim h3
      | int _ => exact False.elim h3
      | ty _ => exact False.elim h3
      | ktup _ => exact False.elim h3⟩⟩
end
end Wx

set_option Elab.async false
set_option linter.all false
set_option maxRecDepth 100000
set_option maxHeartbeats 4000000
/-! WX7: dicts. -/
namespace Wx
open PySem L2

section
variable {κ α : Type} [DecidableEq κ]
def lookK (kvs : List (κ × α)) (k : κ) : Option α := (kvs.find? fun kv => decide (kv.1 = k)).map (·.2)
def storeK (kvs : List (κ × α)) (k : κ) (v : α) : List (κ × α) :=
  if (kvs.any fun kv => decide (kv.1 = k)) = true then kvs.map (fun kv => if kv.1 = k then (kv.1, v) else kv) else kvs ++ [(k, v)]
theorem lookK_nil {k : κ} : lookK ([] : List (κ × α)) k = none := rfl
theorem lookK_pos {p : κ × α} {r : List (κ × α)} {k : κ} (e : p.1 = k) : lookK (p :: r) k = some p.2 := by simp [lookK, List.find?_cons, e]
theorem lookK_neg {p : κ × α} {r : List (κ × α)} {k : κ} (e : ¬ p.1 = k) : lookK (p :: r) k = lookK r k := by simp [lookK, List.find?_cons, e]
end
section
variable {κ : Type} [DecidableEq κ] {K : PySem.W.Frag} {H : Hp}
theorem prs_look {kv : List (κ × V)} {kvs : List (κ × W)} (r : prs K H kv kvs) (k : κ) : (∀ w, lookK kvs k = some w → ∃ v, valV kv k = some v ∧ rep K H v w) ∧ (lookK kvs k = none → valV kv k = none) := by
  unfold prs at r
  induction r with
  | nil => exact ⟨fun w e => (by rw [lookK_nil] at e; cases e), fun _ => rfl⟩
  | @cons p q ps qs h t ih =>
    obtain ⟨h1, h2⟩ := h
    by_cases e : q.1 = k
    · have e' : p.1 = k := h1.trans e
      rw [lookK_pos e, valV_pos e']
      exact ⟨fun w z => (by cases z; exact ⟨p.2, rfl, h2⟩), fun z => nomatch z⟩
    · have e' : ¬ p.1 = k := fun z => e (h1.symm.trans z)
      rw [lookK_neg e, valV_neg e']
      exact ih
theorem prs_store {kv : List (κ × V)} {kvs : List (κ × W)} (r : prs K H kv kvs) (k : κ) {v : V} {w : W} (rv : rep K H v w) : prs K H (putK kv k v) (storeK kvs k w) := by
  have any : (kv.any fun kv => decide (kv.1 = k)) = (kvs.any fun kv => decide (kv.1 = k)) := by
    unfold prs at r
    induction r with
    | nil => rfl
    | @cons p q ps qs h t ih => rw [List.any_cons, List.any_cons, ih, h.1]
  have m : prs K H (kv.map fun kv => if kv.1 = k then (kv.1, v) else kv) (kvs.map fun kv => if kv.1 = k then (kv.1, w) else kv) := by
    clear any
    unfold prs at r ⊢
    induction r with
    | nil => exact .nil
    | @cons p q ps qs h t ih =>
      rw [List.map_cons, List.map_cons]
      refine .cons ?_ ih
      by_cases e : q.1 = k
      · have e' : p.1 = k := h.1.trans e
        rw [if_pos e, if_pos e']
        exact ⟨h.1, rv⟩
      · have e' : ¬ p.1 = k := fun z => e (h.1.symm.trans z)
        rw [if_neg e, if_neg e']
        exact h
  have a : prs K H (kv ++ [(k, v)]) (kvs ++ [(k, w)]) := by
    clear any m
    unfold prs at r ⊢
    induction r with
    | nil => exact .cons ⟨rfl, rv⟩ .nil
    | @cons p q ps qs h t ih => exact .cons h ih
  unfold putK storeK
  rw [any]
  split
  · exact m
  · exact a
theorem prs_length {kv : List (κ × V)} {kvs : List (κ × W)} (r : prs K H kv kvs) : kv.length = kvs.length := Paired.length r
end
def keyW : Key → W
  | .inl i => .int i
  | .inr x => .str x
theorem rep_key {K : PySem.W.Frag} {H : Hp} {v : V} {k : Key} (r : rep K H v (keyW k)) : v = kV k := by
  cases k <;> (simp only [keyW, rep] at r; exact r)
theorem rep_keyI {K : PySem.W.Frag} {H : Hp} {k : Key} : rep K H (kV k) (keyW k) := by
  cases k <;> simp only [keyW, rep, kV]
theorem reps_keys {K : PySem.W.Frag} {H : Hp} : ∀ {ks : List Key} {vs : List V}, reps K H vs (ks.map keyW) → vs = ks.map kV
  | [], vs, h => reps_unnil h
  | k :: ks, vs, h => by
    obtain ⟨v, r, rfl, h1, h2⟩ := reps_uncons h
    rw [rep_key h1, reps_keys h2] <;> rfl
/-- what d has under y -/
def dGetW (A : AH) (a : Addr) (y : W) (o : Option W) : Prop :=
  (∃ kvs k, A.h a = some (.dK kvs) ∧ y = keyW k ∧ o = lookK kvs k) ∨ ∃ kvs k, A.h a = some (.dT kvs) ∧ y = .tup (k.map keyW) ∧ o = lookK kvs k
theorem dGetW.get {K : PySem.W.Frag} {H : Hp} {A : AH} {a : Addr} {y : W} {o : Option W} {v : V} (h : dGetW A a y o) (ra : RepA K H A) (r : rep K H v y) : ∃ ov, DGet H a v ov ∧ (∀ w, o = some w → ∃ v', ov = some v' ∧ rep K H v' w) ∧ (o = none → ov = none) := by
  rcases h with ⟨kvs, k, e, rfl, rfl⟩ | ⟨kvs, k, e, rfl, rfl⟩
  · obtain ⟨kv, ek, rk⟩ := ra.1 a _ e
    obtain rfl := rep_key r
    exact ⟨valV kv k, DGet.k ek, (prs_look rk k).1, (prs_look rk k).2⟩
  · obtain ⟨kv, ek, rk⟩ := ra.1 a _ e
    simp only [rep] at r
    obtain ⟨b, vs, rfl, eb, rs⟩ := r
    rw [reps_keys rs] at eb
    exact ⟨valV kv k, DGet.t ek eb, (prs_look rk k).1, (prs_look rk k).2⟩
def isDW (A : AH) (a : Addr) : Prop := (∃ kvs, A.h a = some (.dK kvs)) ∨ ∃ kvs, A.h a = some (.dT kvs)
theorem isDW.d {K : PySem.W.Frag} {H : Hp} {A : AH} {a : Addr} (h : isDW A a) (ra : RepA K H A) : IsD H a := by
  rcases h with ⟨kvs, e⟩ | ⟨kvs, e⟩
  · obtain ⟨kv, ek, _⟩ := ra.1 a _ e
    exact .inl ⟨kv, .inl ek⟩
  · obtain ⟨kv, ek, _⟩ := ra.1 a _ e
    exact .inr ⟨kv, .inl ek⟩
/-- d[y] = w -/
def dPutW (A : AH) (a : Addr) (y w : W) (Q : AH → Prop) : Prop :=
  (∃ kvs k, A.h a = some (.dK kvs) ∧ y = keyW k ∧ kvs.length < sizeLine ∧ Q (A.put a (.dK (storeK kvs k w)))) ∨ ∃ kvs k, A.h a = some (.dT kvs) ∧ y = .tup (k.map keyW) ∧ kvs.length < sizeLine ∧ Q (A.put a (.dT (storeK kvs k w)))
theorem dPutW.put {K : PySem.W.Frag} {H : Hp} {A : AH} {a : Addr} {y w : W} {Q : AH → Prop} {v u : V} (h : dPutW A a y w Q) (ra : RepA K H A) (ry : rep K H v y) (rw' : rep K H u w) : ∃ H' A', DPut H a v u H' ∧ TupLe K H H' ∧ RepA K H' A' ∧ Q A' := by
  rcases h with ⟨kvs, k, e, rfl, l, q⟩ | ⟨kvs, k, e, rfl, l, q⟩
  · obtain ⟨kv, ek, rk⟩ := ra.1 a _ e
    obtain rfl := rep_key ry
    have t : TupLe K H (upd H a (.dK (putK kv k u))) := tupLe_set ek (by intro _ z; cases z) (by intro _ _ z; cases z)
    exact ⟨_, _, DPut.k ek (by rw [prs_length rk]; exact l), t, ra.set (wo' := .dK (storeK kvs k w)) e ek (by intro _ z; cases z) (by intro _ _ z; cases z) ⟨_, upd_same, prs_mono t (prs_store rk k rw')⟩, q⟩
  · obtain ⟨kv, ek, rk⟩ := ra.1 a _ e
    simp only [rep] at ry
    obtain ⟨b, vs, rfl, eb, rs⟩ := ry
    rw [reps_keys rs] at eb
    have t : TupLe K H (upd H a (.dT (putK kv k u))) := tupLe_set ek (by intro _ z; cases z) (by intro _ _ z; cases z)
    exact ⟨_, _, DPut.t ek eb (by rw [prs_length rk]; exact l), t, ra.set (wo' := .dT (storeK kvs k w)) e ek (by intro _ z; cases z) (by intro _ _ z; cases z) ⟨_, upd_same, prs_mono t (prs_store rk k rw')⟩, q⟩

section
variable {X : Cx} {o i e f value : Expr} {pos pos' apos cpos : Pos} {td ty tv tx : TEw}
def wDGet (td ty : TEw) : TEw := fun ω A Q => td ω A fun x A1 => ty ω A1 fun y A2 => ∃ a w, x = .ref a ∧ dGetW A2 a y (some w) ∧ Q w A2
theorem we_dget (hu : X.A.units + 1 < cLine) (ho : WE X o td) (hi : WE X i ty) (hs : NoSl i := by intro _ _; rfl) : WE X (.Subscript o i pos) (wDGet td ty) := WE.of (pe_dget hu ho.pe hi.pe hs) fun σ H ω A Q sm ra h =>
  lo_i sm ra h fun v1 H1 w1 A1 t1 sm1 ra1 r1 h1 => lo_i sm1 ra1 h1 fun v2 H2 w2 A2 t2 sm2 ra2 r2 ⟨a, w, e, g, q⟩ => by
    subst e
    simp only [rep] at r1
    obtain ⟨ov, g', k1, _⟩ := g.get ra2 r2
    obtain ⟨v', rfl, rv⟩ := k1 w rfl
    exact ⟨a, v', r1, g', Up.trans (t1.trans t2) (Up.i ra2 rv q)⟩
def wDIn (b : Bool) (ty td : TEw) : TEw := fun ω A Q => ty ω A fun y A1 => td ω A1 fun x A2 => ∃ a o, x = .ref a ∧ dGetW A2 a y o ∧ Q (.bl (if b then o.isSome else !o.isSome)) A2
theorem isSome_rel {K : PySem.W.Frag} {H : Hp} {o : Option W} {ov : Option V} (k1 : ∀ w, o = some w → ∃ v', ov = some v' ∧ rep K H v' w) (k2 : o = none → ov = none) : ov.isSome = o.isSome := by
  cases o with
  | none => rw [k2 rfl] <;> rfl
  | some w => obtain ⟨v, rfl, _⟩ := k1 w rfl; rfl
theorem wc_din (hu : X.A.units + 1 < cLine) (hi : WE X i ty) (ho : WE X o td) (hm : behindInMarks .In o = false := by rfl) : WE X (.Compare i [.In] [o] pos) (wDIn true ty td) := WE.of (pe_cmp (pc_din hu hi.pe ho.pe) hm) fun σ H ω A Q sm ra h =>
  lo_i sm ra h fun v1 H1 w1 A1 t1 sm1 ra1 r1 h1 => lo_i sm1 ra1 h1 fun v2 H2 w2 A2 t2 sm2 ra2 r2 ⟨a, o, e, g, q⟩ => by
    subst e
    simp only [rep] at r2
    obtain ⟨ov, g', k1, k2⟩ := g.get ra2 (rep_mono t2 _ _ r1)
    exact ⟨a, ov, r2, g', Up.trans (t1.trans t2) (Up.i ra2 (by simp only [rep, isSome_rel k1 k2]; rfl) q)⟩
theorem wc_dnotin (hu : X.A.units + 1 < cLine) (hi : WE X i ty) (ho : WE X o td) (hm : behindInMarks .NotIn o = false := by rfl) : WE X (.Compare i [.NotIn] [o] pos) (wDIn false ty td) := WE.of (pe_cmp (pc_dnotin hu hi.pe ho.pe) hm) fun σ H ω A Q sm ra h =>
  lo_i sm ra h fun v1 H1 w1 A1 t1 sm1 ra1 r1 h1 => lo_i sm1 ra1 h1 fun v2 H2 w2 A2 t2 sm2 ra2 r2 ⟨a, o, e, g, q⟩ => by
    subst e
    simp only [rep] at r2
    obtain ⟨ov, g', k1, k2⟩ := g.get ra2 (rep_mono t2 _ _ r1)
    exact ⟨a, ov, r2, g', Up.trans (t1.trans t2) (Up.i ra2 (by simp only [rep, isSome_rel k1 k2]; rfl) q)⟩
def wDPut (td ty tv : TEw) : TSw := fun D ω A => tv ω A fun w A1 => td ω A1 fun x A2 => ty ω A2 fun y A3 => ∃ a, x = .ref a ∧ dPutW A3 a y w fun A4 => D.nx ω A4
theorem ws_dput (hu : X.A.units + 1 < cLine) (ho : WE X o td) (hi : WE X i ty) (hv : WE X value tv) (hs : swapsWith value (some (.Subscript o i pos')) pos.line X.env = pure false := by rfl) : WS X (.Assign [.Subscript o i pos'] value pos) (wDPut td ty tv) := WS.of (ps_dput hu ho.pe hi.pe hv.pe hs) fun D σ H ω A sm ra h =>
  lo_i sm ra h fun v1 H1 w1 A1 t1 sm1 ra1 r1 h1 => lo_i sm1 ra1 h1 fun v2 H2 w2 A2 t2 sm2 ra2 r2 h2 => lo_i sm2 ra2 h2 fun v3 H3 w3 A3 t3 sm3 ra3 r3 ⟨a, e, q⟩ => by
    subst e
    simp only [rep] at r2
    obtain ⟨H4, A4, p, t4, ra4, q⟩ := q.put ra3 r3 (rep_mono (t2.trans t3) _ _ r1)
    exact ⟨a, H4, r2, p, ω, A4, (t1.trans (t2.trans t3)).trans t4, sm3.mono t4, ra4, q⟩
/-- d.get(y), d.get(y, z) -/
def wDGet1 (td ty : TEw) : TEw := fun ω A Q => td ω A fun x A1 => ∃ a, x = .ref a ∧ isDW A1 a ∧ ty ω A1 fun y A2 => ∃ o, dGetW A2 a y o ∧ Q (o.getD .non) A2
def wDGet2 (td ty tx : TEw) : TEw := fun ω A Q => td ω A fun x A1 => ∃ a, x = .ref a ∧ isDW A1 a ∧ ty ω A1 fun y A2 => tx ω A2 fun z A3 => ∃ o, dGetW A3 a y o ∧ Q (o.getD z) A3
theorem getD_rel {K : PySem.W.Frag} {H : Hp} {o : Option W} {ov : Option V} {d : W} {dv : V} (k1 : ∀ w, o = some w → ∃ v', ov = some v' ∧ rep K H v' w) (k2 : o = none → ov = none) (rd : rep K H dv d) : rep K H (ov.getD dv) (o.getD d) := by
  cases o with
  | none => rw [k2 rfl]; exact rd
  | some w => obtain ⟨v, rfl, r⟩ := k1 w rfl; exact r
theorem we_dget1 (hu : X.A.units + 1 < cLine) (ho : WE X o td) (he : WE X e ty) (m : M1 X o "get" apos e cpos) : WE X (.Call (.Attribute o "get" apos) [e] [] cpos) (wDGet1 td ty) := WE.of (pe_dget1 hu ho.pe he.pe m) fun σ H ω A Q sm ra h =>
  lo_i sm ra h fun v1 H1 w1 A1 t1 sm1 ra1 r1 ⟨a, e, d, h1⟩ => by
    subst e
    simp only [rep] at r1
    exact ⟨a, r1, d.d ra1, lo_i sm1 ra1 h1 fun v2 H2 w2 A2 t2 sm2 ra2 r2 ⟨o, g, q⟩ => by
      obtain ⟨ov, g', k1, k2⟩ := g.get ra2 r2
      exact ⟨ov, g', Up.trans (t1.trans t2) (Up.i ra2 (getD_rel k1 k2 (by simp only [rep])) q)⟩⟩
theorem we_dget2 (hu : X.A.units + 1 < cLine) (ho : WE X o td) (he : WE X e ty) (hf : WE X f tx) (m : M2 X o "get" apos e f cpos) : WE X (.Call (.Attribute o "get" apos) [e, f] [] cpos) (wDGet2 td ty tx) := WE.of (pe_dget2 hu ho.pe he.pe hf.pe m) fun σ H ω A Q sm ra h =>
  lo_i sm ra h fun v1 H1 w1 A1 t1 sm1 ra1 r1 ⟨a, e, d, h1⟩ => by
    subst e
    simp only [rep] at r1
    exact ⟨a, r1, d.d ra1, lo_i sm1 ra1 h1 fun v2 H2 w2 A2 t2 sm2 ra2 r2 h2 => lo_i sm2 ra2 h2 fun v3 H3 w3 A3 t3 sm3 ra3 r3 ⟨o, g, q⟩ => by
      obtain ⟨ov, g', k1, k2⟩ := g.get ra3 (rep_mono t3 _ _ r2)
      exact ⟨ov, g', Up.trans (t1.trans (t2.trans t3)) (Up.i ra3 (getD_rel k1 k2 r3) q)⟩⟩
/-- {}: of keys, of tuples of keys -/
def wDNewK : TEw := fun _ A Q => ∀ p, A.h p = none → Q (.ref p) (A.put p (.dK []))
def wDNewT : TEw := fun _ A Q => ∀ p, A.h p = none → Q (.ref p) (A.put p (.dT []))
theorem we_dnewK : WE X (.Dict [] [] pos) wDNewK := WE.of pe_dnewK fun σ H ω A Q sm ra h p hp => ⟨.ref p, _, tupLe_new hp, ra.new (wo := .dK []) hp ⟨[], upd_same, .nil⟩, by simp only [rep], h p (ra.fresh hp)⟩
theorem we_dnewT : WE X (.Dict [] [] pos) wDNewT := WE.of pe_dnewT fun σ H ω A Q sm ra h p hp => ⟨.ref p, _, tupLe_new hp, ra.new (wo := .dT []) hp ⟨[], upd_same, .nil⟩, by simp only [rep], h p (ra.fresh hp)⟩
/-- {k: v, ..} -/
def wPairs : List (TEw × TEw) → Sw → AH → (List (W × W) → AH → Prop) → Prop
  | [], _, A, Q => Q [] A
  | (tk, tv) :: r, ω, A, Q => tk ω A fun x A1 => tv ω A1 fun y A2 => wPairs r ω A2 fun ps A3 => Q ((x, y) :: ps) A3
def wDisp (trs : List (TEw × TEw)) : TEw := fun ω A Q => ∀ p, A.h p = none → wPairs trs ω (A.put p (.dK [])) fun ps A2 => A2.h p = some (.dK []) ∧ ∃ kvs : List (Key × W), ps = kvs.map (fun kv => (keyW kv.1, kv.2)) ∧ kvs.length ≤ 15 ∧ Q (.ref p) (A2.put p (.dK (kvs.foldl (fun acc kv => storeK acc kv.1 kv.2) [])))
structure WPPs (X : Cx) (pos : Pos) (keys : List (Option Expr)) (values : List Expr) (trs : List (TEw × TEw)) : Prop where
  pps : PPs X pos keys values (trs.map fun t => (lo X.K t.1, lo X.K t.2))
theorem wpps_nil : WPPs X pos [] [] [] := ⟨pps_nil⟩
theorem wpps_cons {k v : Expr} {ks : List (Option Expr)} {vs : List Expr} {tk tv : TEw} {trs : List (TEw × TEw)} (hk : WE X k tk) (hv : WE X v tv) (hr : WPPs X pos ks vs trs) : WPPs X pos (some k :: ks) (v :: vs) ((tk, tv) :: trs) := ⟨pps_cons hk.pe hv.pe hr.pps⟩
def PVs (K : PySem.W.Frag) (H : Hp) : List (V × V) → List (W × W) → Prop := Paired fun p q => rep K H p.1 q.1 ∧ rep K H p.2 q.2
theorem pairs_low {K : PySem.W.Frag} {ω : Sw} : ∀ {trs : List (TEw × TEw)} {σ : L2.St} {H : Hp} {A : AH} {Q' : List (W × W) → AH → Prop} {Q : List (V × V) → Hp → Prop}, SimS K H σ ω → RepA K H A → wPairs trs ω A Q' → (∀ ps H' ws A', TupLe K H H' → SimS K H' σ ω → RepA K H' A' → PVs K H' ps ws → Q' ws A' → Q ps H') →
    tPairs (trs.map fun t => (lo K t.1, lo K t.2)) σ H Q
  | [], σ, H, A, Q', Q, sm, ra, h, k => k [] H [] A (TupLe.refl H) sm ra .nil h
  | (tk, tv) :: r, σ, H, A, Q', Q, sm, ra, h, k => lo_i sm ra h fun v1 H1 w1 A1 t1 sm1 ra1 r1 h1 => lo_i sm1 ra1 h1 fun v2 H2 w2 A2 t2 sm2 ra2 r2 h2 => pairs_low sm2 ra2 h2 fun ps H' ws A' t3 sm3 ra3 r3 q =>
      k _ H' _ A' (t1.trans (t2.trans t3)) sm3 ra3 (.cons ⟨rep_mono (t2.trans t3) _ _ r1, rep_mono t3 _ _ r2⟩ r3) q
theorem prs_fold {K : PySem.W.Frag} {H : Hp} : ∀ {more : List (Key × V)} {mores : List (Key × W)} {kv : List (Key × V)} {kvs : List (Key × W)}, prs K H more mores → prs K H kv kvs → prs K H (mergeK kv more) (mores.foldl (fun acc kv => storeK acc kv.1 kv.2) kvs) := by
  intro more mores kv kvs r
  unfold prs at r
  induction r generalizing kv kvs with
  | nil => intro q; exact q
  | @cons p q ps qs h t ih =>
    intro r0
    have := prs_store r0 p.1 h.2
    have e : prs K H (putK kv p.1 p.2) (storeK kvs q.1 q.2) := by rw [← h.1]; exact this
    exact ih e
theorem pvs_keys {K : PySem.W.Frag} {H : Hp} : ∀ {kvs : List (Key × W)} {ps : List (V × V)}, PVs K H ps (kvs.map fun kv => (keyW kv.1, kv.2)) → ∃ kv : List (Key × V), ps = kv.map (fun kv => (kV kv.1, kv.2)) ∧ prs K H kv kvs
  | [], ps, r => by unfold PVs at r; rw [List.map_nil] at r; cases r; exact ⟨[], rfl, .nil⟩
  | p :: kvs, ps, r => by
    unfold PVs at r
    rw [List.map_cons] at r
    cases r with
    | @cons a b as bs h t =>
      obtain ⟨kv, e, q⟩ := pvs_keys (kvs := kvs) t
      obtain ⟨a1, a2⟩ := a
      obtain ⟨h1, h2⟩ := h
      have h1' : a1 = kV p.1 := rep_key h1
      exact ⟨(p.1, a2) :: kv, by rw [List.map_cons, ← e, h1'], .cons ⟨rfl, h2⟩ q⟩
theorem we_disp {keys : List (Option Expr)} {values : List Expr} {trs : List (TEw × TEw)} (h : WPPs X pos keys values trs) (hall : keys.all (·.isSome) = true := by rfl) (hl : keys.length = values.length := by rfl) (h0 : keys ≠ [] := by intro z; cases z)
    (h15 : keys.length ≤ 15 := by decide) : WE X (.Dict keys values pos) (wDisp trs) := WE.of (pe_disp h.pps hall hl h0 h15) fun σ H ω A Q sm ra hq p hp => by
  have tn : TupLe X.K H (upd H p (.dK [])) := tupLe_new hp
  refine pairs_low (sm.mono tn) (ra.new (wo := .dK []) hp ⟨[], upd_same, .nil⟩) (hq p (ra.fresh hp)) fun ps H' ws A' t1 sm1 ra1 rp ⟨e, kvs, ew, l, q⟩ => ?_
  subst ew
  obtain ⟨kv, rfl, rk⟩ := pvs_keys rp
  obtain ⟨kv0, e0, r0⟩ := ra1.1 p _ e
  cases r0
  have ts : TupLe X.K H' (upd H' p (.dK (mergeK [] kv))) := tupLe_set e0 (by intro _ z; cases z) (by intro _ _ z; cases z)
  exact ⟨e0, kv, rfl, by rw [prs_length rk]; exact l, .ref p, _, (tn.trans t1).trans ts, ra1.set (wo' := .dK (kvs.foldl (fun acc kv => storeK acc kv.1 kv.2) [])) e e0 (by intro _ z; cases z) (by intro _ _ z; cases z) ⟨_, upd_same, prs_mono ts (prs_fold rk .nil)⟩, by simp only [rep], q⟩
end
end Wx

set_option Elab.async false
set_option linter.all false
set_option maxRecDepth 100000
set_option maxHeartbeats 4000000
/-! WX8: short words for printed derivations. -/
namespace Wx
open PySem L2
section
variable {X : Cx}
theorem wv (i : Nat) {x : Str} {pos : Pos} (hN : X.N[i]? = some x := by rfl) (hv : Vis X.env.scope x := by first | exact Or.inl rfl | exact Or.inr (Or.inl rfl) | exact Or.inr (Or.inr rfl)) (hd : (x == ("__debug__" : Str)) = false := by decide)
    (hcd : (x == ("__classdict__" : Str)) = false := by decide) : WE X (.Name x pos) (wVar i) := we_var (pe_var hN hv hd hcd)
theorem hu64 {A : Around} {k : Nat} {g : Bool} (hr : RoomG g k A) : A.units + 64 < cLine := hr.units
theorem huG {A : Around} {k : Nat} {g : Bool} (hr : RoomG g k A) : A.units + 1 < cLine := hu_of hr.r
end
/-- a def as it is called -/
structure Callee (g : Bool) (P : Program) (w : World) (K : PySem.W.Frag) (mg : Str → Option Value) (base : Heap) (k : Nat) (x : Str) (ps : List Str) (sp : SpW) : Prop where
  ex : ∃ f fd, FnB g P w K mg base k f fd ps (spL K sp) ∧ mg x = some (.ref f) ∧ PySem.W.keepIn K (.ref f) = true ∧ Binds K fd ps []
section
variable {X : Cx} {g : Bool} {k : Nat} {ps : List Str} {sp : SpW} {E : XSw} {x : Str} {p pos : Pos} {e : Expr} {es : List Expr} {ta : TAw}
theorem Callee.we (C : Callee g X.prog X.w X.K X.mg X.base k x ps sp) (hr : RoomG g k X.A) (hg : Gl X x) (ha : WA X (e :: es) ta) (hdb : (x == ("__debug__" : Str)) = false := by decide)
    (he : starEach (e :: es) X.env = (false, eval e X.env) :: starEach es X.env := by rfl) (hpl : (backTo pos (starEach es X.env)).any (·.1) = false := by rfl) : WE X (.Call (.Name x p) (e :: es) [] pos) (wCall sp [] ta) :=
  let ⟨_, _, F, hm, hk, hb⟩ := C.ex; we_call F hr hg hm hk hb .nil (fun _ => reps_nil) ha hdb he hpl
theorem Callee.we0 (C : Callee g X.prog X.w X.K X.mg X.base k x ps sp) (hr : RoomG g k X.A) (hg : Gl X x) (hdb : (x == ("__debug__" : Str)) = false := by decide) : WE X (.Call (.Name x p) [] [] pos) (wCall sp [] wNil) :=
  let ⟨_, _, F, hm, hk, hb⟩ := C.ex; we_call0 F hr hg hm hk hb .nil (fun _ => reps_nil) hdb
theorem Callee.weX (C : Callee g X.prog X.w X.K X.mg X.base k x ps sp) (tk : TakesW X E) (hr : RoomG g k X.A) (hg : Gl X x) (ha : WA X (e :: es) ta) (hdb : (x == ("__debug__" : Str)) = false := by decide)
    (he : starEach (e :: es) X.env = (false, eval e X.env) :: starEach es X.env := by rfl) (hpl : (backTo pos (starEach es X.env)).any (·.1) = false := by rfl) : WE X (.Call (.Name x p) (e :: es) [] pos) (wCallX sp [] ta E) :=
  let ⟨_, _, F, hm, hk, hb⟩ := C.ex; we_callX tk F hr hg hm hk hb .nil (fun _ => reps_nil) ha hdb he hpl
theorem Callee.weX0 (C : Callee g X.prog X.w X.K X.mg X.base k x ps sp) (tk : TakesW X E) (hr : RoomG g k X.A) (hg : Gl X x) (hdb : (x == ("__debug__" : Str)) = false := by decide) : WE X (.Call (.Name x p) [] [] pos) (wCallX sp [] wNil E) :=
  let ⟨_, _, F, hm, hk, hb⟩ := C.ex; we_callX0 tk F hr hg hm hk hb .nil (fun _ => reps_nil) hdb
theorem Callee.up {P : Program} {w : World} {K : PySem.W.Frag} {mg : Str → Option Value} {base : Heap} (C : Callee false P w K mg base k x ps sp) : Callee g P w K mg base k x ps sp :=
  let ⟨f, fd, F, hm, hk, hb⟩ := C.ex; ⟨f, fd, F.up, hm, hk, hb⟩
end
/-- what the law's pen is: from the dict to the pen and back -/
theorem pen_in {K : PySem.W.Frag} {H : Hp} {A : AH} {p cl : Addr} {ns : List Int} {at_ dg fo : Int} {n : Nat} (ra : RepA K H A) (hp : A.h p = some (.dK [(.inr "cells", .ref cl), (.inr "at", .int at_), (.inr "digits", .int dg), (.inr "count", .int n), (.inr "fold", .int fo)]))
    (hc : A.h cl = some (.lst (ns.map W.int))) (hn : A.pen = none) (h1 : 0 ≤ at_) (h2 : 0 ≤ dg) (h3 : -(2 ^ 40) < fo) (h4 : fo < 2 ^ 40) : RepA K H { pen := some (p, n), h := fun b => if b = p ∨ b = cl then none else A.h b, tp := A.tp } := by
  obtain ⟨kv, ek, rk⟩ := ra.1 p _ hp
  obtain ⟨vs, el, rl⟩ := ra.1 cl _ hc
  obtain rfl := reps_ints_inv rl
  have ekv : kv = penKv cl at_ dg n fo := by
    unfold prs at rk
    cases rk with
    | @cons p1 _ _ _ a1 r1 =>
    cases r1 with
    | @cons p2 _ _ _ a2 r2 =>
    cases r2 with
    | @cons p3 _ _ _ a3 r3 =>
    cases r3 with
    | @cons p4 _ _ _ a4 r4 =>
    cases r4 with
    | @cons p5 _ _ _ a5 r5 =>
    cases r5
    obtain ⟨p1, v1⟩ := p1
    obtain ⟨p2, v2⟩ := p2
    obtain ⟨p3, v3⟩ := p3
    obtain ⟨p4, v4⟩ := p4
    obtain ⟨p5, v5⟩ := p5
    simp only [rep] at a1 a2 a3 a4 a5
    obtain ⟨b1, c1⟩ := a1
    obtain ⟨b2, c2⟩ := a2
    obtain ⟨b3, c3⟩ := a3
    obtain ⟨b4, c4⟩ := a4
    obtain ⟨b5, c5⟩ := a5
    subst b1 b2 b3 b4 b5 c1 c2 c3 c4 c5
    rfl
  subst ekv
  refine ⟨fun a o e => ?_, fun q m e => ?_, ra.2.2⟩
  · have e' : (if a = p ∨ a = cl then none else A.h a) = some o := e
    by_cases z : a = p ∨ a = cl
    · rw [if_pos z] at e'; cases e'
    · rw [if_neg z] at e'
      refine (ra.1 a o e').keep (TupLe.refl H) (fun _ _ => rfl) fun b y _ => ?_
      show (if b = p ∨ b = cl then none else A.h b) = none
      rw [y, ite_self]
  · cases e
    exact ⟨cl, ns, at_, dg, fo, ek, el, if_pos (.inl rfl), if_pos (.inr rfl), h1, h2, h3, h4⟩
theorem pen_out {K : PySem.W.Frag} {H : Hp} {A : AH} {p : Addr} {n : Nat} (ra : RepA K H A) (hp : A.pen = some (p, n)) : ∃ (cl : Addr) (ns : List Int) (at_ dg fo : Int), A.h p = none ∧ A.h cl = none ∧ cl ≠ p ∧ 0 ≤ at_ ∧ 0 ≤ dg ∧ -(2 ^ 40) < fo ∧ fo < 2 ^ 40 ∧
    RepA K H { pen := none, h := fun b => if b = p then some (.dK [(.inr "cells", .ref cl), (.inr "at", .int at_), (.inr "digits", .int dg), (.inr "count", .int n), (.inr "fold", .int fo)]) else if b = cl then some (.lst (ns.map W.int)) else A.h b, tp := A.tp } := by
  obtain ⟨cl, ns, at_, dg, fo, e1, e2, e3, e4, h1, h2, h3, h4⟩ := ra.2.1 p n hp
  have ne : cl ≠ p := fun z => by rw [z, e1] at e2; cases e2
  refine ⟨cl, ns, at_, dg, fo, e3, e4, ne, h1, h2, h3, h4, fun a o e => ?_, (fun q m e => nomatch e), ra.2.2⟩
  have e' : (if a = p then some (WO.dK [(.inr "cells", .ref cl), (.inr "at", .int at_), (.inr "digits", .int dg), (.inr "count", .int n), (.inr "fold", .int fo)]) else if a = cl then some (.lst (ns.map W.int)) else A.h a) = some o := e
  by_cases z : a = p
  · rw [if_pos z] at e'
    cases e'
    subst z
    refine ⟨penKv cl at_ dg n fo, e1, ?_⟩
    unfold prs penKv
    exact .cons ⟨rfl, by simp only [rep]⟩ (.cons ⟨rfl, by simp only [rep]⟩ (.cons ⟨rfl, by simp only [rep]⟩ (.cons ⟨rfl, by simp only [rep]⟩ (.cons ⟨rfl, by simp only [rep]⟩ .nil))))
  · rw [if_neg z] at e'
    by_cases z2 : a = cl
    · rw [if_pos z2] at e'
      cases e'
      subst z2
      exact ⟨_, e2, reps_ints⟩
    · rw [if_neg z2] at e'
      refine (ra.1 a o e').keep (TupLe.refl H) (fun _ _ => rfl) fun b y ⟨vf, hb⟩ => ?_
      have n1 : b ≠ p := fun z => by
        subst z
        rw [e1] at hb
        have z' : HO.dK _ = HO.ext _ := Option.some.inj hb
        cases z'
      have n2 : b ≠ cl := fun z => by
        subst z
        rw [e2] at hb
        have z' : HO.lst _ = HO.ext _ := Option.some.inj hb
        cases z'
      show (if b = p then _ else if b = cl then _ else A.h b) = none
      rw [if_neg n1, if_neg n2]
      exact y
end Wx

set_option Elab.async false
set_option linter.all false
set_option maxRecDepth 100000
set_option maxHeartbeats 4000000
/-! WX9: readings by simp. -/
namespace Wx
open PySem L2
theorem ifd {c A B : Prop} [Decidable c] (h1 : c → A) (h2 : ¬ c → B) : if decide c = true then A else B := by
  by_cases h : c
  · rw [if_pos (decide_eq_true h)]; exact h1 h
  · rw [if_neg (by simpa using h)]; exact h2 h
theorem ifb {b : Bool} {A B : Prop} (h1 : b = true → A) (h2 : b = false → B) : if b = true then A else B := by
  cases b with
  | true => rw [if_pos rfl]; exact h1 rfl
  | false => rw [if_neg Bool.false_ne_true]; exact h2 rfl
/-- a bool, as such -/
def asB (w : W) (k : Bool → Prop) : Prop := match w with
  | .bl b => k b
  | _ => False
@[simp] theorem asB_bl {b : Bool} {k : Bool → Prop} : asB (.bl b) k = k b := id rfl
theorem asB_iff {w : W} {k : Bool → Prop} : (∃ b, w = .bl b ∧ k b) = asB w k := by
  apply propext
  constructor
  · rintro ⟨b, rfl, h⟩
    exact h
  · intro h
    cases w <;> first | exact False.elim h | exact ⟨_, rfl, h⟩
section
variable {t u : TSw} {te ta tb : TEw} {tt tu : TTw} {D : Dw} {ω : Sw} {A : AH} {Q : VKw} {QB : Bool → AH → Prop} {QA : List W → AH → Prop} {i j : Nat} {w : W} {g : TGw} {r : R2w} {tA : TAw}
@[simp] theorem wSeq_eq : wSeq t u D ω A = t { D with nx := u D } ω A := id rfl
@[simp] theorem wNext_eq : wNext D ω A = D.nx ω A := id rfl
@[simp] theorem wRet_eq : wRet te D ω A = te ω A D.rt := id rfl
@[simp] theorem wDrop_eq : wDrop te D ω A = te ω A fun _ A1 => D.nx ω A1 := id rfl
@[simp] theorem wIfS_eq : wIfS tt t u D ω A = tt ω A fun b A1 => if b = true then t D ω A1 else u D ω A1 := id rfl
@[simp] theorem wAsg_eq : wAsg te g D ω A = te ω A fun w A1 => g w ω A1 D.nx := id rfl
@[simp] theorem wgName_eq {Q : Sw → AH → Prop} : wgName i w ω A Q = Q (ω.set i (some w)) A := id rfl
@[simp] theorem wVar_eq : wVar i ω A Q = ∃ w, ω[i]? = some (some w) ∧ Q w A := id rfl
@[simp] theorem wC_eq : wC w ω A Q = Q w A := id rfl
@[simp] theorem wOp_eq : wOp r ta tb ω A Q = ta ω A fun a A1 => tb ω A1 fun b A2 => r a b A2 Q := id rfl
@[simp] theorem wTest_eq : wTest te ω A QB = te ω A fun w A' => asB w fun k => QB k A' := by
  unfold wTest
  simp only [asB_iff]
@[simp] theorem wNotV_eq : wNotV te ω A Q = te ω A fun w A' => asB w fun k => Q (.bl (!k)) A' := by
  unfold wNotV
  simp only [asB_iff]
@[simp] theorem wAndV_eq : wAndV ta tb ω A Q = ta ω A fun w A' => asB w fun c => if c = true then tb ω A' Q else Q (.bl false) A' := by
  unfold wAndV
  simp only [asB_iff]
@[simp] theorem wOrV_eq : wOrV ta tb ω A Q = ta ω A fun w A' => asB w fun c => if c = true then Q (.bl true) A' else tb ω A' Q := by
  unfold wOrV
  simp only [asB_iff]
@[simp] theorem wAnd_eq : wAnd tt tu ω A QB = tt ω A fun c A1 => if c = true then tu ω A1 QB else QB false A1 := id rfl
@[simp] theorem wOr_eq : wOr tt tu ω A QB = tt ω A fun c A1 => if c = true then QB true A1 else tu ω A1 QB := id rfl
@[simp] theorem wNot_eq : wNot tt ω A QB = tt ω A fun c A1 => QB (!c) A1 := id rfl
@[simp] theorem wIf_eq : wIf tt ta tb ω A Q = tt ω A fun c A1 => if c = true then ta ω A1 Q else tb ω A1 Q := id rfl
@[simp] theorem wNil_eq : wNil ω A QA = QA [] A := id rfl
@[simp] theorem wCons_eq : wCons te tA ω A QA = te ω A fun w A1 => tA ω A1 fun ws A2 => QA (w :: ws) A2 := id rfl
@[simp] theorem wTup_eq : wTup tA ω A Q = tA ω A fun ws A1 => ws.length ≤ sizeLine ∧ Q (.tup ws) A1 := id rfl
@[simp] theorem wLst_eq : wLst tA ω A Q = tA ω A fun ws A1 => ws.length ≤ sizeLine ∧ ∀ p, A1.h p = none → Q (.ref p) (A1.put p (.lst ws)) := id rfl
@[simp] theorem wCB_eq {r : List W → AH → VKw → Prop} : wCB r tA ω A Q = tA ω A fun ws A1 => r ws A1 Q := id rfl
@[simp] theorem wCall_eq {sp : SpW} {dws : List W} : wCall sp dws tA ω A Q = tA ω A fun ws A1 => sp (ws ++ dws) A1 Q E0w := id rfl
@[simp] theorem wFor_eq {ti : TIw} : wFor ti g t D ω A = ti ω A fun ws gd A1 => wLoop g t { D with bk := D.nx, ct := D.nx } gd ws ω A1 := id rfl
@[simp] theorem rwI0_eq {gg : Int → Int → W} {a b : Int} : rwI0 gg (.int a) (.int b) A Q = Q (gg a b) A := by
  unfold rwI0
  simp
@[simp] theorem rwI_eq {C : Int → Int → Prop} {gg : Int → Int → W} {a b : Int} : rwI C gg (.int a) (.int b) A Q = (C a b ∧ Q (gg a b) A) := by
  unfold rwI
  simp
@[simp] theorem wAdd_ii {a b : Int} : wAdd (.int a) (.int b) A Q = Q (.int (a + b)) A := id rfl
@[simp] theorem wAdd_ss {a b : Str} : wAdd (.str a) (.str b) A Q = (a.length + b.length ≤ sizeLine ∧ Q (.str (a ++ b)) A) := id rfl
@[simp] theorem wAdd_tt {a b : List W} : wAdd (.tup a) (.tup b) A Q = (a.length + b.length ≤ sizeLine ∧ Q (.tup (a ++ b)) A) := id rfl
@[simp] theorem wSub_eq {a b : Int} : wSub (.int a) (.int b) A Q = Q (.int (a - b)) A := rwI0_eq
@[simp] theorem wIAdd_eq {a b : Int} : wIAdd (.int a) (.int b) A Q = Q (.int (a + b)) A := rwI0_eq
@[simp] theorem wISub_eq {a b : Int} : wISub (.int a) (.int b) A Q = Q (.int (a - b)) A := rwI0_eq
@[simp] theorem wMulI_eq {a b : Int} : wMulI (.int a) (.int b) A Q = (CMul a b ∧ Q (.int (a * b)) A) := rwI_eq
@[simp] theorem wDiv_eq {a b : Int} : wDiv (.int a) (.int b) A Q = (CDivN a b ∧ Q (.int (a.fdiv b)) A) := rwI_eq
@[simp] theorem wMod_eq {a b : Int} : wMod (.int a) (.int b) A Q = (b ≠ 0 ∧ Q (.int (a.fmod b)) A) := rwI_eq
@[simp] theorem wPow_eq {a b : Int} : wPow (.int a) (.int b) A Q = (CPow a b ∧ Q (.int (a ^ b.toNat)) A) := rwI_eq
@[simp] theorem wLtI_eq {a b : Int} : wLtI (.int a) (.int b) A Q = Q (.bl (decide (a < b))) A := rwI0_eq
@[simp] theorem wLeI_eq {a b : Int} : wLeI (.int a) (.int b) A Q = Q (.bl (decide (a ≤ b))) A := rwI0_eq
@[simp] theorem wGtI_eq {a b : Int} : wGtI (.int a) (.int b) A Q = Q (.bl (decide (b < a))) A := rwI0_eq
@[simp] theorem wGeI_eq {a b : Int} : wGeI (.int a) (.int b) A Q = Q (.bl (decide (b ≤ a))) A := rwI0_eq
@[simp] theorem wEqS_ii {b : Bool} {x y : Int} : wEqS b (.int x) (.int y) A Q = Q (.bl (if b then decide (x = y) else !decide (x = y))) A := id rfl
@[simp] theorem wEqS_ss {b : Bool} {x y : Str} : wEqS b (.str x) (.str y) A Q = Q (.bl (if b then decide (x = y) else !decide (x = y))) A := id rfl
@[simp] theorem wEqS_bb {b : Bool} {x y : Bool} : wEqS b (.bl x) (.bl y) A Q = Q (.bl (if b then decide (x = y) else !decide (x = y))) A := id rfl
@[simp] theorem wIsN_eq {a : W} : wIsN a .non A Q = Q (.bl (isNon a)) A := by unfold wIsN; simp
@[simp] theorem wNotN_eq {a : W} : wNotN a .non A Q = Q (.bl (!isNon a)) A := by unfold wNotN; simp
@[simp] theorem wLen_eq : wLen [w] A Q = lenW w A fun n => Q (.int n) A := by unfold wLen; simp
@[simp] theorem lenW_str {z : Str} {k : Nat → Prop} : lenW (.str z) A k = (z.length ≤ sizeLine ∧ k z.length) := id rfl
@[simp] theorem lenW_tup {z : List W} {k : Nat → Prop} : lenW (.tup z) A k = k z.length := id rfl
@[simp] theorem lenW_ktup {z : List W} {k : Nat → Prop} : lenW (.ktup z) A k = k z.length := id rfl
@[simp] theorem wIntOf_i {x : Int} : wIntOf [.int x] A Q = Q (.int x) A := by unfold wIntOf; simp
@[simp] theorem wLoop_nil {gd : AH → Prop} : wLoop g t D gd [] ω A = (gd A ∧ D.nx ω A) := id rfl
@[simp] theorem wLoop_cons {gd : AH → Prop} {ws : List W} : wLoop g t D gd (w :: ws) ω A = (gd A ∧ g w ω A fun ω2 A2 => t { D with nx := wLoop g t D gd ws, ct := wLoop g t D gd ws } ω2 A2) := id rfl
@[simp] theorem put_h {a b : Addr} {o : WO} : (A.put a o).h b = if b = a then some o else A.h b := id rfl
@[simp] theorem put_put {a : Addr} {o o' : WO} : (A.put a o).put a o' = A.put a o' := AH.put_put
theorem isL_of {p : Addr} {ws : List W} (h : A.h p = some (.lst ws)) : isL A p ws := .inl h
theorem isL_iff {p : Addr} {ws us : List W} (h : A.h p = some (.lst ws)) : isL A p us ↔ us = ws := by
  unfold isL
  rw [h]
  constructor
  · rintro (e | e)
    · cases e; rfl
    · cases e
  · rintro rfl
    exact .inl rfl
theorem isL_iff_r {p : Addr} {ws us : List W} (h : A.h p = some (.rol ws)) : isL A p us ↔ us = ws := by
  unfold isL
  rw [h]
  constructor
  · rintro (e | e)
    · cases e
    · cases e; rfl
  · rintro rfl
    exact .inr rfl
theorem lenW_ref {p : Addr} {ws : List W} {k : Nat → Prop} (h : A.h p = some (.lst ws)) : lenW (.ref p) A k ↔ k ws.length := by
  show (∃ us, isL A p us ∧ k us.length) ↔ _
  simp [isL_iff h]
theorem lenW_ref_r {p : Addr} {ws : List W} {k : Nat → Prop} (h : A.h p = some (.rol ws)) : lenW (.ref p) A k ↔ k ws.length := by
  show (∃ us, isL A p us ∧ k us.length) ↔ _
  simp [isL_iff_r h]
theorem wIx_ref {p : Addr} {ws : List W} {n : Int} (h : A.h p = some (.lst ws)) : wIx (.ref p) (.int n) A Q ↔ ∃ w, atI ws n = some w ∧ Q w A := by
  show (∃ us w, isL A p us ∧ atI us n = some w ∧ Q w A) ↔ _
  simp [isL_iff h]
@[simp] theorem wIx_tup {ws : List W} {n : Int} : wIx (.tup ws) (.int n) A Q = ∃ w, atI ws n = some w ∧ Q w A := id rfl
@[simp] theorem wIx_ktup {ws : List W} {n : Int} : wIx (.ktup ws) (.int n) A Q = ∃ w, atI ws n = some w ∧ Q w A := id rfl
@[simp] theorem wIx_str {z : Str} {n : Int} : wIx (.str z) (.int n) A Q = ∃ c, z.length ≤ sizeLine ∧ atI z.cps.toList n = some c ∧ Q (.str ⟨#[c]⟩) A := id rfl
theorem wAdd_rr {p q : Addr} {xs ys : List W} (h : A.h p = some (.lst xs)) (h' : A.h q = some (.lst ys)) : wAdd (.ref p) (.ref q) A Q ↔ xs.length + ys.length ≤ sizeLine ∧ ∀ r, A.h r = none → Q (.ref r) (A.put r (.lst (xs ++ ys))) := by
  show (∃ xs ys, A.h p = some (.lst xs) ∧ A.h q = some (.lst ys) ∧ xs.length + ys.length ≤ sizeLine ∧ ∀ r, A.h r = none → Q (.ref r) (A.put r (.lst (xs ++ ys)))) ↔ _
  constructor
  · rintro ⟨a, b, e1, e2, z⟩
    rw [h] at e1; rw [h'] at e2
    cases e1; cases e2
    exact z
  · intro z
    exact ⟨xs, ys, h, h', z⟩
theorem dget_iff {p : Addr} {kvs : List (Key × W)} {x : Str} {o : Option W} (h : A.h p = some (.dK kvs)) : dGetW A p (.str x) o ↔ o = lookK kvs (.inr x) := by
  unfold dGetW
  rw [h]
  constructor
  · rintro (⟨kvs', k, e, e2, e3⟩ | ⟨kvs', k, e, _⟩)
    · cases e
      cases k with
      | inl i => cases e2
      | inr z => cases e2; exact e3
    · cases e
  · intro e
    exact .inl ⟨kvs, .inr x, rfl, rfl, e⟩
theorem dput_iff {p : Addr} {kvs : List (Key × W)} {x : Str} {w : W} {Q : AH → Prop} (h : A.h p = some (.dK kvs)) : dPutW A p (.str x) w Q ↔ kvs.length < sizeLine ∧ Q (A.put p (.dK (storeK kvs (.inr x) w))) := by
  unfold dPutW
  rw [h]
  constructor
  · rintro (⟨kvs', k, e, e2, e3⟩ | ⟨kvs', k, e, _⟩)
    · cases e
      cases k with
      | inl i => cases e2
      | inr z => cases e2; exact e3
    · cases e
  · intro e
    exact .inl ⟨kvs, .inr x, rfl, rfl, e⟩
@[simp] theorem wDGet_eq {td ty : TEw} : wDGet td ty ω A Q = td ω A fun x A1 => ty ω A1 fun y A2 => ∃ a w, x = .ref a ∧ dGetW A2 a y (some w) ∧ Q w A2 := id rfl
@[simp] theorem wDPut_eq {td ty tv : TEw} : wDPut td ty tv D ω A = tv ω A fun w A1 => td ω A1 fun x A2 => ty ω A2 fun y A3 => ∃ a, x = .ref a ∧ dPutW A3 a y w fun A4 => D.nx ω A4 := id rfl
@[simp] theorem startW_eq {N : List Str} {ws : List W} : startW N ws = ws.map some ++ List.replicate (N.length - ws.length) none := id rfl
end
end Wx

set_option Elab.async false
set_option linter.all false
set_option maxRecDepth 100000
set_option maxHeartbeats 4000000
/-! WX10: exceptions as values, raised, caught; isinstance; repr; enumerate; global names. -/
namespace Wx
open PySem L2

/-! ### abstract heap facts -/
section
variable {K : PySem.W.Frag} {H H' : Hp} {A : AH}
theorem tupLe_all (k : ∀ b u, H b = some u → H' b = some u) : TupLe K H H' := fun b vs => ⟨fun e => k b _ e, fun o e => k b _ e⟩
theorem RepA.all (ra : RepA K H A) (k : ∀ b u, H b = some u → H' b = some u) : RepA K H' A := ra.keep (tupLe_all k) fun b hb => by
  have : ∃ u, H b = some u := by
    rcases hb with ⟨o, e⟩ | ⟨_, u, e⟩
    · exact ra.there e
    · exact ⟨u, e⟩
  obtain ⟨u, e⟩ := this
  rw [e, k b u e]
theorem prs_zip {fields : List Str} : ∀ {vs : List V} {ws : List W}, reps K H vs ws → prs K H (fields.zip vs) (fields.zip ws) := by
  induction fields with
  | nil => intro vs ws _; simp only [List.zip_nil_left]; exact .nil
  | cons f fields ih =>
    intro vs ws r
    cases ws with
    | nil => rw [reps_unnil r]; simp only [List.zip_nil_right]; exact .nil
    | cons w ws =>
      obtain ⟨v, vr, rfl, r1, r2⟩ := reps_uncons r
      simp only [List.zip_cons_cons]
      exact .cons ⟨rfl, r1⟩ (ih r2)
theorem prs_append {κ : Type} {l l' : List (κ × V)} {m m' : List (κ × W)} (h : prs K H l m) (h' : prs K H l' m') : prs K H (l ++ l') (m ++ m') := by
  unfold prs at h
  induction h with
  | nil => exact h'
  | cons a t ih => exact .cons a ih
theorem prs_rev {κ : Type} {l : List (κ × V)} {m : List (κ × W)} (h : prs K H l m) : prs K H l.reverse m.reverse := by
  unfold prs at h
  induction h with
  | nil => exact .nil
  | cons a t ih =>
    rw [List.reverse_cons, List.reverse_cons]
    exact prs_append ih (.cons a .nil)
theorem prs_lookup {l : List (Str × V)} {m : List (Str × W)} (h : prs K H l m) {f : Str} {w : W} (e : m.lookup f = some w) : ∃ v, l.lookup f = some v ∧ rep K H v w := by
  unfold prs at h
  induction h with
  | nil => cases e
  | @cons a b as bs x t ih =>
    obtain ⟨f1, v1⟩ := a
    obtain ⟨g1, w1⟩ := b
    obtain ⟨e1, e2⟩ := x
    simp only at e1 e2
    subst e1
    rw [List.lookup_cons] at e ⊢
    cases q : f == f1 with
    | true => rw [q] at e; cases e; exact ⟨v1, rfl, e2⟩
    | false => rw [q] at e; exact ih e
end

/-! ### an own exception class -/
structure ExC (K : PySem.W.Frag) (C : Addr) : Prop where
  ox : OexC K C
  xf : XfC K C
  cl : (PySem.W.clsIn K C).isSome = true
  ac : PySem.W.findIn K (.ref C) "__class__" = some (some (.builtin "object.__class__"))
  mo : PySem.W.mroIn K C (.type "object") = some true
structure ExK (K : PySem.W.Frag) : Prop where
  hn : PySem.W.specialIn K (.builtin "object.__class__") "__get__" = some (some (.builtin "getset_descriptor.__get__"))
  ht : PySem.W.takesIn K (.builtin "object.__class__") = some true

/-! e.f of an exception as a value -/
def tXo (K : PySem.W.Frag) (n : Str) (te : TE) : TE := fun σ H Q => te σ H fun x H1 => ∃ (a C dd : Addr) (vf : List (Str × V)) (v : V), x = .ref a ∧ XfC K C ∧ PySem.W.findIn K (.ref C) n = some none ∧ H1 a = some (exo a C (some dd)) ∧ H1 dd = some (exd dd vf) ∧ vf.lookup n = some v ∧ Q v H1
section
variable {X : Cx} {e : Expr} {te : TE} {tw : TEw} {pos : Pos} {n : Str}
theorem pe_xo (he : PE X e te) (hb : attributeBase e n X.env (eval e X.env) = eval e X.env := by rfl) : PE X (.Attribute e n pos) (tXo X.K n te) := by
  refine ⟨fun pins s σ H Q I h => attr_of hb (thn (he.run pins s σ H _ I h) fun u s1 hh => ?_)⟩
  obtain ⟨x, H1, I1, rx, a, C, dd, vf, v, ex, T, hno, ea, ed, l, q⟩ := hh
  subst ex
  obtain rfl : u = Value.ref a := rx
  obtain ⟨t1, ho⟩ := exo_at I1.hok ea
  obtain ⟨mA, hns, hr⟩ := exd_at I1.hok ed
  obtain ⟨od, hod, hl⟩ := lookIn_ns hns
  obtain ⟨u, hu, ru⟩ := RelO.some_of (v := v) (o := mA n) (by rw [← l]; exact hr n)
  have J : PySem.W.InstAt s1.heap a { cls := .ref C, dict := some dd, data := .fields #[.ref t1, .none, .none, .none, .bool false, .none] } C (some od) := ⟨ho, rfl, rfl, hod⟩
  exact HandSPX.exc_get I1.kIn J T.ga T.gg T.exC (PySem.W.findObj_own T.hdC hno rfl (by rw [hl, hu])) (handed_of ru) ⟨v, H1, I1.tok _, ru, q⟩
def wXf (K : PySem.W.Frag) (n : Str) (te : TEw) : TEw := fun ω A Q => te ω A fun x A1 => ∃ a C fs w, x = .ref a ∧ XfC K C ∧ PySem.W.findIn K (.ref C) n = some none ∧ A1.h a = some (.exn C fs) ∧ fs.lookup n = some w ∧ Q w A1
theorem we_xf (he : WE X e tw) (hb : attributeBase e n X.env (eval e X.env) = eval e X.env := by rfl) : WE X (.Attribute e n pos) (wXf X.K n tw) := WE.of (pe_xo he.pe hb) fun σ H ω A Q sm ra h =>
  lo_i sm ra h fun v H1 w A1 t1 sm1 ra1 r ⟨a, C, fs, y, e, T, hno, ea, l, q⟩ => by
    subst e
    simp only [rep] at r
    rcases ra1.1 a _ ea with ⟨_, z⟩ | ⟨d, vf, e1, e2, _, e4⟩
    · subst z; cases l
    · obtain ⟨u, lu, ru⟩ := prs_lookup e4 l
      exact ⟨a, C, d, vf, u, r, T, hno, e1, e2, lu, Up.trans t1 (Up.i ra1 ru q)⟩
end

/-! ### __init__(self, f, ..): self.f = f .. -/
def sxp (C : Addr) (fields : List Str) : Sp := fun vs H Q _ => ∃ (a : Addr) (ys : List V), vs = .ref a :: ys ∧ ys.length = fields.length ∧ H a = some (exo a C none) ∧ ∀ d, H d = none → d ≠ a → Q .non (upd (upd H d (exd d (fields.zip ys).reverse)) a (exo a C (some d)))
theorem upd_swap {H : Hp} {a d : Addr} {x y z : HO} (n : d ≠ a) : upd (upd (upd H d x) a y) d z = upd (upd H d z) a y := by
  funext b
  unfold upd
  by_cases h1 : b = a
  · subst h1; simp [Ne.symm n]
  · by_cases h2 : b = d
    · subst h2; simp [n]
    · simp [h1, h2]
theorem upd_swap2 {H : Hp} {a d : Addr} {x y z : HO} (n : d ≠ a) : upd (upd (upd H a x) d y) a z = upd (upd H d y) a z := by
  funext b
  unfold upd
  by_cases h1 : b = a
  · subst h1; simp
  · simp [h1]
section
variable {P : Program} {w : World} {K : PySem.W.Frag} {mg : Str → Option Value} {base : Heap} {qual : Str} {st : Stmt} {f C : Addr} {fd : FuncData} {p1 p2 p3 f1 f2 f3 : Str}
theorem okX1 (F : Fun K "__init__" qual st f fd) (S : FnScope ["self", p1] ["self", p1] (defScope st)) (T : OexC K C) (n1 : PySem.W.findIn K (.ref C) f1 = some none)
    (hb : ∀ (cdv : Value) (A : Around) (outer : List Env) (s : Shared) (H : Hp) (E : XK), PSs (cxB P w K mg base ["self", p1] qual st f cdv A outer s H E) (defBody st) (tOst K f1 (tVar 0) (tVar 1))) :
    FnOk P w K mg base (L2.CX P w) 1 f fd ["self", p1] (sxp C [f1]) := by
  refine F.okX S (fun vs H Q E ⟨a, ys, e, l, _⟩ => by rw [e, List.length_cons, l]; rfl) fun cdv A outer s H vs Q E hr ⟨a, ys, e, l, ha, k⟩ => ⟨_, hb cdv A outer s H E, ?_⟩
  match ys, l with
  | [y1], _ =>
    subst e
    exact ⟨y1, rfl, .ref a, rfl, a, C, rfl, T, n1, .inl ⟨ha, fun d hd hne => k d hd hne⟩⟩
theorem okX2 (F : Fun K "__init__" qual st f fd) (S : FnScope ["self", p1, p2] ["self", p1, p2] (defScope st)) (T : OexC K C) (n1 : PySem.W.findIn K (.ref C) f1 = some none) (n2 : PySem.W.findIn K (.ref C) f2 = some none)
    (hb : ∀ (cdv : Value) (A : Around) (outer : List Env) (s : Shared) (H : Hp) (E : XK), PSs (cxB P w K mg base ["self", p1, p2] qual st f cdv A outer s H E) (defBody st) (tSeq (tOst K f1 (tVar 0) (tVar 1)) (tOst K f2 (tVar 0) (tVar 2)))) :
    FnOk P w K mg base (L2.CX P w) 1 f fd ["self", p1, p2] (sxp C [f1, f2]) := by
  refine F.okX S (fun vs H Q E ⟨a, ys, e, l, _⟩ => by rw [e, List.length_cons, l]; rfl) fun cdv A outer s H vs Q E hr ⟨a, ys, e, l, ha, k⟩ => ⟨_, hb cdv A outer s H E, ?_⟩
  match ys, l with
  | [y1, y2], _ =>
    subst e
    refine ⟨y1, rfl, .ref a, rfl, a, C, rfl, T, n1, .inl ⟨ha, fun d hd hne => ?_⟩⟩
    refine ⟨y2, rfl, .ref a, rfl, a, C, rfl, T, n2, .inr ⟨d, _, upd_same, (upd_ne hne).trans upd_same, by simp only [List.length_cons, List.length_nil]; omega, ?_⟩⟩
    rw [upd_swap hne]
    exact k d hd hne
theorem okX3 (F : Fun K "__init__" qual st f fd) (S : FnScope ["self", p1, p2, p3] ["self", p1, p2, p3] (defScope st)) (T : OexC K C) (n1 : PySem.W.findIn K (.ref C) f1 = some none) (n2 : PySem.W.findIn K (.ref C) f2 = some none) (n3 : PySem.W.findIn K (.ref C) f3 = some none)
    (hb : ∀ (cdv : Value) (A : Around) (outer : List Env) (s : Shared) (H : Hp) (E : XK), PSs (cxB P w K mg base ["self", p1, p2, p3] qual st f cdv A outer s H E) (defBody st) (tSeq (tOst K f1 (tVar 0) (tVar 1)) (tSeq (tOst K f2 (tVar 0) (tVar 2)) (tOst K f3 (tVar 0) (tVar 3))))) :
    FnOk P w K mg base (L2.CX P w) 1 f fd ["self", p1, p2, p3] (sxp C [f1, f2, f3]) := by
  refine F.okX S (fun vs H Q E ⟨a, ys, e, l, _⟩ => by rw [e, List.length_cons, l]; rfl) fun cdv A outer s H vs Q E hr ⟨a, ys, e, l, ha, k⟩ => ⟨_, hb cdv A outer s H E, ?_⟩
  match ys, l with
  | [y1, y2, y3], _ =>
    subst e
    refine ⟨y1, rfl, .ref a, rfl, a, C, rfl, T, n1, .inl ⟨ha, fun d hd hne => ?_⟩⟩
    refine ⟨y2, rfl, .ref a, rfl, a, C, rfl, T, n2, .inr ⟨d, _, upd_same, (upd_ne hne).trans upd_same, by simp only [List.length_cons, List.length_nil]; omega, ?_⟩⟩
    rw [upd_swap hne]
    refine ⟨y3, rfl, .ref a, rfl, a, C, rfl, T, n3, .inr ⟨d, _, upd_same, (upd_ne hne).trans upd_same, by simp only [List.length_cons, List.length_nil]; omega, ?_⟩⟩
    rw [upd_swap hne]
    exact k d hd hne
end
/-- an exception class with such an __init__, as it is called -/
structure XMk (P : Program) (w : World) (K : PySem.W.Frag) (mg : Str → Option Value) (base : Heap) (x : Str) (C : Addr) (fields : List Str) : Prop where
  ox : OexC K C
  mgC : mg x = some (.ref C)
  ex : ∃ f fd ps, PySem.W.findIn K (.ref C) "__init__" = some (some (.ref f)) ∧ PySem.W.typeIn K (.ref f) = some (.type "function") ∧ FnOk P w K mg base (L2.CX P w) 1 f fd ps (sxp C fields) ∧ Binds K fd ps []
/-- .. without an __init__ -/
structure XMk0 (K : PySem.W.Frag) (mg : Str → Option Value) (x : Str) (C : Addr) : Prop where
  ex : ∃ bmB, ExcBaseFacts "ValueError" "ValueError.__new__" "ValueError.__init__" bmB ∧ PySem.W.excIn K C bmB "ValueError.__new__" = true
  mgC : mg x = some (.ref C)
  kC : PySem.W.keepIn K (.ref C) = true
  exC : PySem.W.subIn K (.ref C) (.type "BaseException") = some true
  tyC : PySem.W.typeIn K (.ref C) = some (.type "type")
def tMkx (C : Addr) (fields : List Str) (ta : TA) : TE := fun σ H Q => ta σ H fun vs H1 => vs.length = fields.length ∧ vs.length ≤ 1000 ∧ ∀ a d, H1 a = none → H1 d = none → d ≠ a → Q (.ref a) (upd (upd H1 d (exd d (fields.zip vs).reverse)) a (exo a C (some d)))
def wMkx (C : Addr) (fields : List Str) (ta : TAw) : TEw := fun ω A Q => ta ω A fun ws A1 => ws.length = fields.length ∧ ws.length ≤ 1000 ∧ ∀ a, A1.h a = none → Q (.ref a) (A1.put a (.exn C (fields.zip ws).reverse))
def wMkx0 (C : Addr) : TEw := fun ω A Q => ∀ a, A.h a = none → Q (.ref a) (A.put a (.exn C []))
def wRaise (C : Addr) (fields : List Str) (ta : TAw) (E : XSw) : TSw := fun D ω A => ta ω A fun ws A1 => ws.length = fields.length ∧ ws.length ≤ 1000 ∧ E ω C (fields.zip ws).reverse A1
def wRaise0 (C : Addr) (E : XSw) : TSw := fun D ω A => E ω C [] A
section
variable {X : Cx} {x : Str} {C : Addr} {fields : List Str} {e : Expr} {es : List Expr} {ta : TA} {tw : TAw} {p pos pos2 : Pos} {k : Nat} {E : XSw}
theorem pe_mkx (M : XMk X.prog X.w X.K X.mg X.base x C fields) (hr : Room 2 X.A) (hg : Gl X x) (ha : PA X (e :: es) ta)
    (hdb : (x == ("__debug__" : Str)) = false := by decide) (he : starEach (e :: es) X.env = (false, eval e X.env) :: starEach es X.env := by rfl) (hpl : (backTo pos (starEach es X.env)).any (·.1) = false := by rfl) : PE X (.Call (.Name x p) (e :: es) [] pos) (tMkx C fields ta) := by
  refine ⟨fun pins s σ H Q I h => ?_⟩
  obtain ⟨fI, fd, ps, iC, tI, F1, hb⟩ := M.ex
  have T := M.ox
  obtain ⟨nm, q, N, bs, bm, sn, sub, ab, col, dd, k0, k1, k2, k3, k5, hC, hbm⟩ := T.cls
  refine wpAny_Call_Name_kw (ld_glob I hg M.mgC ?_ hdb)
  refine PySem.W.callWith_K (h₀ := X.base) I.ok.mod.kin T.kC (thn (ha.run pos pins s σ H _ I h) fun us s1 ⟨vs, H1, I1, r1, hz, hz2, q1⟩ => ⟨I1.kIn, ?_⟩) he hpl
  show wpAny _ _ (call (.ref C) us) _ _ _
  obtain ⟨hp, g, dr, tk, os⟩ := s1
  have hn : H1 (hp.objs.size + 1) = none := I1.hok.fresh (Nat.le_succ _)
  have hget : ((hp.push (PySem.W.kdv_tup us)).push (PySem.HandSPX.excO C hp.objs.size)).get? (hp.objs.size + 1) = some (PySem.HandSPX.excO C hp.objs.size) := by heap_get
  have I2 : Inv X pins σ (upd H1 (hp.objs.size + 1) (exo (hp.objs.size + 1) C none)) ⟨(hp.push (PySem.W.kdv_tup us)).push (PySem.HandSPX.excO C hp.objs.size), g, dr, tk, os⟩ :=
    I1.laid (t' := tk) (a := hp.objs.size + 1) (o := exo (hp.objs.size + 1) C none) (h' := (hp.push (PySem.W.kdv_tup us)).push (PySem.HandSPX.excO C hp.objs.size)) (fun b o e => Heap.get?_push_of_some _ (Heap.get?_push_of_some _ e)) (Nat.le_succ _) (exo_ok hget)
  have r2 : Vals (V.ref (hp.objs.size + 1) :: vs) (Value.ref (hp.objs.size + 1) :: us) := .cons rfl r1
  have hq : sxp C fields (V.ref (hp.objs.size + 1) :: vs) (upd H1 (hp.objs.size + 1) (exo (hp.objs.size + 1) C none)) (fun v H2 => v = .non ∧ ∃ d, H1 d = none ∧ d ≠ hp.objs.size + 1 ∧ H2 = upd (upd H1 d (exd d (fields.zip vs).reverse)) (hp.objs.size + 1) (exo (hp.objs.size + 1) C (some d))) (fun _ _ _ => False) :=
    ⟨_, vs, rfl, hz, upd_same, fun d hd hne => ⟨rfl, d, by rw [upd_ne hne] at hd; exact hd, hne, upd_swap2 hne⟩⟩
  have hl : (Value.ref (hp.objs.size + 1) :: us).length = ps.length := by rw [← r2.length]; exact F1.len _ _ _ _ hq
  have hus : us.length ≤ sizeLine := by
    rw [← Paired.length r1, sizeLine_eq]
    omega
  have bd := hb _ (Value.ref (hp.objs.size + 1) :: us) I2.kIn (by rw [List.append_nil]; exact hl)
  rw [List.append_nil] at bd
  refine wpAny_call (PySem.HandSPX.call_own F.excBase_ValueError (fun Y => PySem.HandSPX.refsVE_contains Y bm hbm) (I1.kIn _ _ hC) (PySem.W.looks_findIn I1.kIn iC) (fun self => PySem.W.bind_fn I1.kIn self tI) hus
    (codeAny_mono (F1.run _ X.stack _ _ ⟨Value.ref (hp.objs.size + 1) :: us, []⟩ (Value.ref (hp.objs.size + 1) :: us) _ _ (fun _ _ _ => False) (hr.make C us []) (I2.env0.make C us []) bd r2 hq) fun r s' hq' => ?_))
  rcases r with er | fl
  · exact pass0L (X := X) _ _ _ _ er s' I2 hq'
  · cases fl with
    | ret u =>
      obtain ⟨v, H2, I3, rv, ev, d, hd, hne, eH⟩ := I2.after hq'
      subst ev eH
      exact ⟨rv, V.ref (hp.objs.size + 1), _, I3, rfl, q1 _ d hn hd hne⟩
    | next => exact False.elim hq'
    | brk => exact False.elim hq'
    | cont => exact False.elim hq'
/-- the new exception, above -/
theorem mkx_up {K : PySem.W.Frag} {H : Hp} {A : AH} {Q : VKw} {a d C : Addr} {vs : List V} {ws : List W} (ra : RepA K H A) (r : reps K H vs ws) (ha : H a = none) (hd : H d = none) (hne : d ≠ a) (q : ∀ a, A.h a = none → Q (.ref a) (A.put a (.exn C (fields.zip ws).reverse))) :
    Up K H Q (.ref a) (upd (upd H d (exd d (fields.zip vs).reverse)) a (exo a C (some d))) := by
  have t1 : TupLe K H (upd H d (exd d (fields.zip vs).reverse)) := tupLe_new hd
  have ha1 : upd H d (exd d (fields.zip vs).reverse) a = none := by rw [upd_ne (Ne.symm hne)]; exact ha
  have t2 : TupLe K (upd H d (exd d (fields.zip vs).reverse)) (upd (upd H d (exd d (fields.zip vs).reverse)) a (exo a C (some d))) := tupLe_new ha1
  refine ⟨.ref a, _, t1.trans t2, (ra.new0 hd).new (wo := .exn C (fields.zip ws).reverse) ha1 (.inr ⟨d, _, upd_same, (upd_ne hne).trans upd_same, ?_, prs_rev (prs_zip (reps_mono (t1.trans t2) _ _ r))⟩), by simp only [rep], q a (ra.fresh ha)⟩
  rw [AH.put_ne hne]
  exact ra.fresh hd
theorem we_mkx {g : Bool} (M : XMk X.prog X.w X.K X.mg X.base x C fields) (hr : RoomG g 2 X.A) (hg : Gl X x) (ha : WA X (e :: es) tw)
    (hdb : (x == ("__debug__" : Str)) = false := by decide) (he : starEach (e :: es) X.env = (false, eval e X.env) :: starEach es X.env := by rfl) (hpl : (backTo pos (starEach es X.env)).any (·.1) = false := by rfl) : WE X (.Call (.Name x p) (e :: es) [] pos) (wMkx C fields tw) :=
  WE.of (pe_mkx M hr.r hg ha.pa hdb he hpl) fun σ H ω A Q sm ra h => loA_i sm ra h fun vs H1 ws A1 t1 sm1 ra1 r ⟨l, l2, q⟩ =>
    ⟨(reps_length r).trans l, by rw [reps_length r]; exact l2, fun a d ha hd hne => Up.trans t1 (mkx_up ra1 r ha hd hne q)⟩
theorem pe_mkx0 (M : XMk0 X.K X.mg x C) (hg : Gl X x) (hdb : (x == ("__debug__" : Str)) = false := by decide) : PE X (.Call (.Name x p) [] [] pos) (fun σ H Q => ∀ a, H a = none → Q (.ref a) (upd H a (exo a C none))) := by
  refine ⟨fun pins s σ H Q I h => ?_⟩
  obtain ⟨bmB, F, qx⟩ := M.ex
  refine wpAny_Call_Name_kw (ld_glob I hg M.mgC (PySem.W.callWith_K0 I.kIn M.kC ?_) hdb)
  show wpAny _ _ (call (.ref C) []) _ _ _
  obtain ⟨bm, N, nm, qn, bs, hdct, sn, sub, ab, col, dd, k0, k1, k2, k3, k5, mN, hC, hN, hni, T⟩ := exc_obj I.kIn qx
  refine wpAny_call_exc_subT F T hC hN hni (fun h' a hm => ?_) (by show 0 ≤ sizeLine; omega)
  have hn : H a = none := I.hok.gone hm.new
  obtain ⟨t, ht, _, _⟩ := hm.there
  exact ⟨.ref a, upd H a (exo a C none), I.laidN hm.keeps hm.new hn (exo_ok ht), rfl, h a hn⟩
theorem we_mkx0 (M : XMk0 X.K X.mg x C) (hg : Gl X x) (hdb : (x == ("__debug__" : Str)) = false := by decide) : WE X (.Call (.Name x p) [] [] pos) (wMkx0 C) :=
  WE.of (pe_mkx0 M hg hdb) fun σ H ω A Q sm ra h a ha => ⟨.ref a, _, tupLe_new ha, ra.new (wo := .exn C []) ha (.inl ⟨upd_same, rfl⟩), by simp only [rep], h a (ra.fresh ha)⟩
/-! raise -/
theorem ws_raise {g : Bool} (tk : TakesW X E) (hc : X.calm = true) (M : XMk X.prog X.w X.K X.mg X.base x C fields) (hr : RoomG g 2 X.A) (hg : Gl X x) (ha : WA X (e :: es) tw)
    (hdb : (x == ("__debug__" : Str)) = false := by decide) (he : starEach (e :: es) X.env = (false, eval e X.env) :: starEach es X.env := by rfl) (hpl : (backTo pos (starEach es X.env)).any (·.1) = false := by rfl) : WS X (.Raise (some (.Call (.Name x p) (e :: es) [] pos)) none pos2) (wRaise C fields tw E) := by
  obtain ⟨fI, fd, ps, iC, tI, F1, hb⟩ := M.ex
  refine WS.of (ps_raise hc tk (pmk_oex M.ox iC tI F1 hr.r hb .nil pass0L hg M.mgC ha.pa hdb he hpl)) fun D σ H ω A sm ra h => ?_
  show tMkO C (sxp C fields) [] (loA X.K tw) σ H _
  refine loA_i sm ra h fun vs H1 ws A1 t1 sm1 ra1 r ⟨l, l2, q⟩ => ⟨by rw [reps_length r]; exact l2, fun a ha => ⟨a, vs, by rw [List.append_nil], (reps_length r).trans l, upd_same, fun d hd hne => ⟨rfl, d, _, upd_same, (upd_ne hne).trans upd_same, ?_⟩⟩⟩
  have hd1 : H1 d = none := by rw [upd_ne hne] at hd; exact hd
  have kp : ∀ b u, H1 b = some u → upd (L2.del (upd (upd (upd H1 a (exo a C none)) d (exd d (fields.zip vs).reverse)) a (exo a C (some d))) a) d (.xd (fields.zip vs).reverse) b = some u := fun b u e => by
    have nd : b ≠ d := ne_of_none e hd1
    have na : b ≠ a := ne_of_none e ha
    rw [upd_ne nd, del_ne na, upd_ne na, upd_ne nd, upd_ne na]
    exact e
  exact ⟨hd1, C, (fields.zip ws).reverse, ω, A1, rfl, .inr ⟨d, _, rfl, upd_same, ra1.fresh hd1, prs_rev (prs_zip (reps_mono (tupLe_all kp) _ _ r))⟩, sm1.mono (tupLe_all kp), ra1.all kp, q⟩
theorem pmk_mkx0 (M : XMk0 X.K X.mg x C) (hg : Gl X x) (hdb : (x == ("__debug__" : Str)) = false := by decide) : PMk X (.Call (.Name x p) [] [] pos) (fun σ H Q => Q (.ref C) none H) := by
  intro pins s σ H Q I h
  obtain ⟨bmB, F, qx⟩ := M.ex
  refine wpAny_Call_Name_kw (ld_glob I hg M.mgC (PySem.W.callWith_K0 I.kIn M.kC ?_) hdb)
  show wpAny _ _ (call (.ref C) []) _ _ _
  obtain ⟨bm, N, nm, qn, bs, hdct, sn, sub, ab, col, dd, k0, k1, k2, k3, k5, mN, hC, hN, hni, T⟩ := exc_obj I.kIn qx
  refine wpAny_call_exc_subT F T hC hN hni (fun h' a hm => ?_) (by show 0 ≤ sizeLine; omega)
  exact mk_of I hm (raises_own M.exC M.tyC) h (I.hok.gone hm.new)
theorem ws_raise0 (tk : TakesW X E) (hc : X.calm = true) (M : XMk0 X.K X.mg x C) (hg : Gl X x) (hdb : (x == ("__debug__" : Str)) = false := by decide) : WS X (.Raise (some (.Call (.Name x p) [] [] pos)) none pos2) (wRaise0 C E) :=
  WS.of (ps_raise hc tk (pmk_mkx0 M hg hdb)) fun D σ H ω A sm ra h => ⟨C, [], ω, A, rfl, .inl ⟨rfl, rfl⟩, sm, ra, h⟩
end
end Wx

set_option Elab.async false
set_option linter.all false
set_option maxRecDepth 100000
set_option maxHeartbeats 4000000
/-! WX11: try, isinstance, repr, enumerate, names, signs. -/
namespace Wx
open PySem L2

def AH.at (A : AH) (tp : Hp) : AH := { A with tp := tp }
@[simp] theorem AH.at_h (A : AH) (tp : Hp) : (A.at tp).h = A.h := rfl
@[simp] theorem AH.at_pen (A : AH) (tp : Hp) : (A.at tp).pen = A.pen := rfl
@[simp] theorem AH.at_tp (A : AH) (tp : Hp) : (A.at tp).tp = tp := rfl
theorem AH.Sub.at {A : AH} {tp : Hp} (t : TupLe0 A.tp tp) : A.Sub (A.at tp) := ⟨fun _ _ h => h, .inr rfl, t⟩
/-- try: .. except c as n: .. ; ex: does the clause take an exception of the class at C -/
def wTry (ex : Addr → Option Bool) (i : Nat) (tb : XSw → TSw) (ts : Addr → Addr → Option Addr → TSw) (E : XSw) : TSw := fun D ω A => ∀ tp, TupLe0 A.tp tp →
  tb (fun ω' C fs A' => TupLe0 tp A'.tp ∧ ∃ b, ex C = some b ∧
    (b = true → (fs = [] → ∀ a, A'.h a = none → ts a C none { nx := fun ω2 A2 => D.nx (ω2.set i none) A2, rt := D.rt, bk := fun ω2 A2 => D.bk (ω2.set i none) A2, ct := fun ω2 A2 => D.ct (ω2.set i none) A2 } (ω'.set i (some (.ref a))) A') ∧
      ∀ a dd, A'.h a = none → A'.h dd = none → ts a C (some dd) { nx := fun ω2 A2 => D.nx (ω2.set i none) A2, rt := D.rt, bk := fun ω2 A2 => D.bk (ω2.set i none) A2, ct := fun ω2 A2 => D.ct (ω2.set i none) A2 } (ω'.set i (some (.ref a))) (A'.put dd (.xd fs))) ∧
    (b = false → E ω' C fs A')) D ω (A.at tp)
/-- the exception's dict becomes known -/
theorem RepA.xd {K : PySem.W.Frag} {H : Hp} {A : AH} {dd : Addr} {vf : List (Str × V)} {fs : List (Str × W)} (ra : RepA K H A) (e : H dd = some (.xd vf)) (n : A.h dd = none) (r : prs K H vf fs) : RepA K H (A.put dd (.xd fs)) := by
  refine ⟨fun b u q => ?_, fun p m q => ?_, ra.2.2⟩
  · by_cases hb : b = dd
    · subst hb
      rw [AH.put_same] at q
      cases q
      exact ⟨vf, e, r⟩
    · rw [AH.put_ne hb] at q
      refine (ra.1 b u q).keep (TupLe.refl (K := K) H) (fun _ _ => rfl) fun c z ⟨vx, hx⟩ => ?_
      rw [AH.put_ne ?_]
      · exact z
      · intro y
        subst y
        rw [e] at hx
        unfold exd at hx
        cases hx
  · obtain ⟨cl, ns, at_, dg, fo, e1, e2, e3, e4, rest⟩ := ra.2.1 p m q
    refine ⟨cl, ns, at_, dg, fo, e1, e2, ?_, ?_, rest⟩
    · rw [AH.put_ne]
      · exact e3
      · intro y; subst y; rw [e] at e1; cases e1
    · rw [AH.put_ne]
      · exact e4
      · intro y; subst y; rw [e] at e2; cases e2
section
variable {X : Cx} {x n : Str} {c : Value} {i : Nat} {body suite : List Stmt} {b₀ : Stmt} {np pos pos' : Pos} {tb : XSw → TSw} {ts : Addr → Addr → Option Addr → TSw} {E : XSw}
theorem ws_try (hs : X.stack = X.env :: X.outer) (hf : X.env.frame = some X.env.locals) (hN : X.N.Nodup) (hi : X.N[i]? = some n) (hln : X.env.kindOf n = some .local) (hc : Names X x c) (tk : TakesW X E)
    (hb : ∀ (E' : XSw) (pn : List (Addr × Obj)) (xe : Value → Shared → Prop), TakesW (X.tr pn xe) E' → PassesOwn (model X.prog X.w) X.A X.env xe → WSs (X.tr pn xe) body (tb E'))
    (hsu : ∀ (a C : Addr) (d : Option Addr) (oe : Obj) (pn : List (Addr × Obj)), Zc (.ref C) d oe → (∃ vs, oe.data = .fields vs) → WSs (X.suite a ((a, oe) :: pn)) (b₀ :: suite) (ts a C d)) :
    WS X (.Try body [.ExceptHandler (some (.Name x np)) (some n) (b₀ :: suite) pos'] [] [] pos) (wTry (fun C => PySem.W.exmOne X.K (.ref C) c) i tb ts E) := by
  refine WS.of (ps_try_as hs hf hN hi hln hc tk (tb := fun W D σ H => ∃ E', (∀ cls d σ' H', UpE0 X.K E' cls d σ' H' → W cls d σ' H') ∧ loS X.K (tb E') D σ H) (ts := fun a cls d D σ H => ∃ C, cls = .ref C ∧ loS X.K (ts a C d) D σ H)
    (fun W pn xe tkW po => ⟨fun pins s σ H D I ⟨E', hW, h⟩ => (hb E' pn xe (tkW.imp hW) po).ps.run pins s σ H D I h⟩)
    fun a oe cls d pn hz hd => ⟨fun pins s σ H D I ⟨C, e, h⟩ => by subst e; exact (hsu a C d oe pn hz hd).ps.run pins s σ H D I h⟩) fun D σ H ω A sm ra h => ?_
  have ra0 : RepA X.K H (A.at H) := ⟨ra.1, ra.2.1, TupLe.refl (K := X.K) H⟩
  refine ⟨_, ?_, loS_u (TupLe.refl H) sm ra0 (h H ra.2.2)⟩
  rintro cls d σ' H' ⟨C, fs, ω', A', rfl, ea, sm', ra', tle, b, hb1, h1, h2⟩
  have t : TupLe X.K H H' := TupLe.trans (K := X.K) tle ra'.2.2
  refine ⟨b, hb1, fun e a ha => ⟨C, rfl, ?_⟩, fun e => ⟨C, fs, ω', A', rfl, ea, sm', ra', h2 e⟩⟩
  obtain ⟨g1, g2⟩ := h1 e
  have sm2 : SimS X.K H' (σ'.set i (some (.ref a))) (ω'.set i (some (.ref a))) := sm'.set (by simp only [rep])
  rcases ea with ⟨rfl, e2⟩ | ⟨dd, vf, rfl, e2, e3, e4⟩
  · exact loS_i sm2 ra' (g1 e2 a (ra'.fresh ha)) (fun σ2 H2 ω2 A2 t2 sm2 ra2 q => ⟨_, A2, t.trans t2, sm2.unset, ra2, q⟩) (fun σ2 H2 ω2 A2 t2 sm2 ra2 q => ⟨_, A2, t.trans t2, sm2.unset, ra2, q⟩) (fun σ2 H2 ω2 A2 t2 sm2 ra2 q => ⟨_, A2, t.trans t2, sm2.unset, ra2, q⟩) fun v H2 w A2 t2 ra2 r q => ⟨w, A2, t.trans t2, ra2, r, q⟩
  · exact loS_i sm2 (ra'.xd e2 e3 e4) (g2 a dd (ra'.fresh ha) e3) (fun σ2 H2 ω2 A2 t2 sm2 ra2 q => ⟨_, A2, t.trans t2, sm2.unset, ra2, q⟩) (fun σ2 H2 ω2 A2 t2 sm2 ra2 q => ⟨_, A2, t.trans t2, sm2.unset, ra2, q⟩) (fun σ2 H2 ω2 A2 t2 sm2 ra2 q => ⟨_, A2, t.trans t2, sm2.unset, ra2, q⟩) fun v H2 w A2 t2 ra2 r q => ⟨w, A2, t.trans t2, ra2, r, q⟩
end
/-! ### the caught exception -/
/-- err.f -/
def wSf (K : PySem.W.Frag) (a C : Addr) (d : Option Addr) (n : Str) (te : TEw) : TEw := fun ω A Q => XfC K C ∧ PySem.W.findIn K (.ref C) n = some none ∧ te ω A fun x A1 => x = .ref a ∧ ∃ dd fs w, d = some dd ∧ A1.h dd = some (.xd fs) ∧ fs.lookup n = some w ∧ Q w A1
section
variable {X : Cx} {a C : Addr} {oe : Obj} {d : Option Addr} {pn : List (Addr × Obj)} {e : Expr} {te : TEw} {pos : Pos} {n : Str}
theorem we_sf (hz : Zc (.ref C) d oe) (hf : ∃ vs, oe.data = .fields vs) (he : WE (X.suite a ((a, oe) :: pn)) e te) (hb : attributeBase e n X.env (eval e X.env) = eval e X.env := by rfl) : WE (X.suite a ((a, oe) :: pn)) (.Attribute e n pos) (wSf X.K a C d n te) :=
  ⟨fun pins s σ H ω A Q I sm ra ⟨T, hno, h⟩ => thn ((pe_xf T hno hz hf he.pe hb).run pins s σ H (Up X.K H Q) I (lo_i sm ra h fun v H1 w A1 t1 sm1 ra1 r ⟨e1, dd, fs, y, ed, ea, l, q⟩ => by
    subst e1
    simp only [rep] at r
    obtain ⟨vf, ev, rv⟩ := ra1.1 dd _ ea
    obtain ⟨u, lu, ru⟩ := prs_lookup rv l
    exact ⟨r, rfl, dd, vf, u, ed, ev, lu, Up.trans t1 (Up.i ra1 ru q)⟩)) fun u s' ⟨v, H', I', r, w, A', t1, t2, t3, q⟩ => ⟨v, H', w, A', I', r, t1, t2, t3, q⟩⟩
end
/-! ### isinstance -/
def clsW (c : W) (u : Value) : Prop := (∃ n, c = .ty n ∧ u = .type n) ∨ ∃ C, c = .ref C ∧ u = .ref C
def isTuW : W → Prop
  | .tup _ => True
  | .ktup _ => True
  | _ => False
def tyO (K : PySem.W.Frag) (A : AH) (x : W) (t : Value) : Prop := match x with
  | .non => t = .type "NoneType"
  | .bl _ => t = .type "bool"
  | .int _ => t = .type "int"
  | .str _ => t = .type "str"
  | .tup _ => t = .type "tuple"
  | .ktup _ => t = .type "tuple"
  | .ref a => (t = .type "list" ∧ ∃ ws, isL A a ws) ∨ (t = .type "dict" ∧ isDW A a) ∨ ∃ C fs, A.h a = some (.exn C fs) ∧ ExC K C ∧ ExK K ∧ t = .ref C
  | .ty _ => False
def wIsi (K : PySem.W.Frag) : List W → AH → VKw → Prop := fun ws A Q => ∃ x c t u b, ws = [x, c] ∧ clsW c u ∧ tyO K A x t ∧ PySem.W.kitOne K t u = some b ∧ Q (.bl b) A
theorem clsW.v {K : PySem.W.Frag} {H : Hp} {c : W} {u : Value} {v : V} (h : clsW c u) (r : rep K H v c) : ClsV v u := by
  rcases h with ⟨n, rfl, rfl⟩ | ⟨C, rfl, rfl⟩ <;> (simp only [rep] at r; subst r; constructor)
theorem sqL_ty {K : PySem.W.Frag} {H : Hp} {a : Addr} {vs : List V} (h : SqL K H a vs) : TyX K H (.ref a) (.type "list") := by
  rcases h with (h | ⟨o, h⟩) | ⟨o, its, n, lk, c, _⟩
  · exact .base (.lst h)
  · exact .base (.frz h)
  · exact .kList lk c
theorem sqT_ty {K : PySem.W.Frag} {H : Hp} {a : Addr} {vs : List V} (h : SqT K H a vs) : TyX K H (.ref a) (.type "tuple") := by
  rcases h with (h | ⟨o, h⟩) | ⟨o, its, n, lk, c, _⟩
  · exact .base (.tup h)
  · exact .fTuple h
  · exact .kTuple lk c
theorem tyO.x {K : PySem.W.Frag} {H : Hp} {A : AH} {x : W} {t : Value} {v : V} (ra : RepA K H A) (r : rep K H v x) (h : tyO K A x t) : TyX K H v t ∨ ∃ a C fs, v = .ref a ∧ A.h a = some (.exn C fs) ∧ ExC K C ∧ ExK K ∧ t = .ref C := by
  cases x with
  | non => simp only [rep, tyO] at r h; subst r h; exact .inl (.base .non)
  | bl b => simp only [rep, tyO] at r h; subst r h; exact .inl (.base (.bl b))
  | int b => simp only [rep, tyO] at r h; subst r h; exact .inl (.base (.int b))
  | str b => simp only [rep, tyO] at r h; subst r h; exact .inl (.base (.str b))
  | ty b => simp only [tyO] at h
  | tup ws => simp only [rep, tyO] at r h; obtain ⟨a, vs, rfl, s, _⟩ := r; subst h; exact .inl (.base (.tup s))
  | ktup ws => simp only [rep, tyO] at r h; obtain ⟨a, vs, rfl, s, _⟩ := r; subst h; exact .inl (sqT_ty s)
  | ref a =>
    simp only [rep, tyO] at r h
    subst r
    rcases h with ⟨rfl, ws, hl⟩ | ⟨rfl, hd⟩ | ⟨C, fs, e, h1, h2, rfl⟩
    · obtain ⟨vs, s, _⟩ := hl.sq ra
      exact .inl (sqL_ty s)
    · rcases hd with ⟨kvs, e⟩ | ⟨kvs, e⟩
      · obtain ⟨kv, ek, _⟩ := ra.1 a _ e
        exact .inl (.base (.dK ek))
      · obtain ⟨kv, ek, _⟩ := ra.1 a _ e
        exact .inl (.base (.dT ek))
    · exact .inr ⟨a, C, fs, rfl, e, h1, h2, rfl⟩
theorem kit_exn {K : PySem.W.Frag} {C x : Addr} {ox : Obj} {od : Option Obj} (h1 : ExC K C) (h2 : ExK K) : PySem.W.KitX K (.ref x) (.ref C) (fun h => PySem.W.InstAt h x ox C od) :=
  PySem.W.kitx_exc h1.cl h1.xf.ga h1.xf.gg h1.xf.exC h1.ac h2.hn h2.ht h1.mo
section
variable {X : Cx}
theorem cw_isi : CallW X (.builtin "isinstance") (wIsi X.K) := by
  intro pins s σ H A vs us ws Q I ra rv rw' q
  obtain ⟨x, c, t, u, b, rfl, hc, ty, hk, q⟩ := q
  obtain ⟨v1, r1, rfl, h1, r2⟩ := reps_uncons rw'
  obtain ⟨v2, r3, rfl, h2, r4⟩ := reps_uncons r2
  obtain rfl := reps_unnil r4
  rcases ty.x ra h1 with ty' | ⟨a, C, fs, rfl, ea, e1, e2, rfl⟩
  · exact thn (call_isi pins s σ H _ us _ I rv ⟨v1, v2, t, u, b, rfl, hc.v h2, ty', hk, Up.i (Q := Q) ra (by simp only [rep]) q⟩) fun _ _ ⟨v, H', I', r, w, A', t1, t2, t3, q⟩ => ⟨v, H', w, A', I', r, t1, t2, t3, q⟩
  · obtain ⟨u1, u2, rfl, ru1, ru2⟩ := vals2 rv
    have e3 := (hc.v h2).eq ru2
    subst e3
    obtain rfl : u1 = Value.ref a := ru1
    have J : ∃ ox od, PySem.W.InstAt s.heap a ox C od := by
      rcases ra.1 a _ ea with ⟨h, _⟩ | ⟨d, vf, h, hd, _, _⟩
      · obtain ⟨t1, ho⟩ := exo_at I.hok h
        exact ⟨_, none, ho, rfl, rfl, trivial⟩
      · obtain ⟨t1, ho⟩ := exo_at I.hok h
        obtain ⟨mA, hns, hr⟩ := exd_at I.hok hd
        obtain ⟨od, hod, hl⟩ := lookIn_ns hns
        exact ⟨_, some od, ho, rfl, rfl, hod⟩
    obtain ⟨ox, od, J⟩ := J
    exact PySem.W.kia_one (kit_exn e1 e2) I.kIn J hk (fun z => nomatch z) fun tk => ⟨.bl b, H, .bl b, A, I.tok tk, rfl, TupLe.refl (K := X.K) H, ra, by simp only [rep], q⟩
/-- .. of the caught exception -/
def wIsS (K : PySem.W.Frag) (a C : Addr) (d : Option Addr) : List W → AH → VKw → Prop := fun ws A Q => ∃ c u b, ws = [.ref a, c] ∧ clsW c u ∧ ExC K C ∧ ExK K ∧ (d = none ∨ ∃ dd fs, d = some dd ∧ A.h dd = some (.xd fs)) ∧ PySem.W.kitOne K (.ref C) u = some b ∧ Q (.bl b) A
theorem cw_isS {a C : Addr} {oe : Obj} {d : Option Addr} {pn : List (Addr × Obj)} (hz : Zc (.ref C) d oe) (hf : ∃ vs, oe.data = .fields vs) : CallW (X.suite a ((a, oe) :: pn)) (.builtin "isinstance") (wIsS X.K a C d) := by
  intro pins s σ H A vs us ws Q I ra rv rw' q
  obtain ⟨c, u, b, rfl, hc, e1, e2, hd, hk, q⟩ := q
  obtain ⟨v1, r1, rfl, h1, r2⟩ := reps_uncons rw'
  obtain ⟨v2, r3, rfl, h2, r4⟩ := reps_uncons r2
  obtain rfl := reps_unnil r4
  simp only [rep] at h1
  subst h1
  obtain ⟨u1, u2, rfl, ru1, ru2⟩ := vals2 rv
  have e3 := (hc.v h2).eq ru2
  subst e3
  obtain rfl : u1 = Value.ref a := ru1
  obtain ⟨hget, _⟩ := I.pin (a, oe) (List.mem_append.mpr (.inl List.mem_cons_self))
  obtain ⟨vs, hv⟩ := hf
  obtain ⟨oc, odd, oda, osl⟩ := oe
  obtain ⟨z1, z2⟩ := hz
  dsimp only at z1 z2 hv
  subst z1 z2 hv
  have J : ∃ od, PySem.W.InstAt s.heap a ⟨.ref C, odd, .fields vs, osl⟩ C od := by
    rcases hd with rfl | ⟨dd, fs, rfl, ea⟩
    · exact ⟨none, hget, rfl, rfl, trivial⟩
    · obtain ⟨vf, ev, _⟩ := ra.1 dd _ ea
      have hx : ObjOk X.prog X.w H s.heap dd (.xd vf) := I.hok dd _ ev
      obtain ⟨mA, hns, hr⟩ := hx
      obtain ⟨od, hod, hl⟩ := lookIn_ns hns
      exact ⟨some od, hget, rfl, rfl, hod⟩
  obtain ⟨od, J⟩ := J
  exact PySem.W.kia_one (kit_exn e1 e2) I.kIn J hk (fun z => nomatch z) fun tk => ⟨.bl b, H, .bl b, A, I.tok tk, rfl, TupLe.refl (K := X.K) H, ra, by simp only [rep], q⟩
/-! ### repr of data -/
def wRepr : List W → AH → VKw → Prop := fun ws A Q => ∃ w d, ws = [w] ∧ DL A d w ∧ d.showable = true ∧ d.hasDict = false ∧ d.depth ≤ 60 ∧ d.shown.length ≤ sizeLine ∧ Q (.str d.shown) A
theorem cw_repr (hu : X.A.units + 64 < cLine) (hg : X.A.guards = some []) : CallW X (.builtin "repr") wRepr := by
  intro pins s σ H A vs us ws Q I ra rv rw' q
  obtain ⟨w, d, rfl, hd, hs, hnd, hdp, hz, q⟩ := q
  obtain ⟨v, r1, rfl, h1, r2⟩ := reps_uncons rw'
  obtain rfl := reps_unnil r2
  obtain ⟨u, rfl, ru⟩ := vals1 rv
  have dp := DL.dp ra d w v h1 hd
  obtain ⟨as, rd⟩ := Dp.reads I d v u dp ru
  have fin : ∀ h' tk, (∀ b o, s.heap.get? b = some o → h'.get? b = some o) → ∀ t, EPw X pins σ H Q (.str d.shown t) { s with heap := h', toks := tk } := fun h' tk k t => ⟨.str d.shown, H, .str d.shown, A, I.kept k, ⟨t, rfl⟩, TupLe.refl (K := X.K) H, ra, by simp only [rep], q⟩
  have fin0 : ∀ t tk, EPw X pins σ H Q (.str d.shown t) { s with toks := tk } := fun t tk => fin s.heap tk (fun _ _ e => e) t
  cases rd with
  | none =>
    simp only [PyData.shown] at fin0
    exact PySem.P.repr_of_none (fin0 _ _)
  | bool b =>
    simp only [PyData.shown] at fin0
    exact PySem.P.repr_of_bool (fin0 _ _)
  | int i t =>
    simp only [PyData.shown] at fin0
    exact PySem.P.repr_of_int (by simpa [PyData.showable] using hs) (fin0 _ _)
  | str x t =>
    simp only [PyData.shown] at fin0 hz
    exact PySem.P.repr_of_str (fin0 _ _) hz
  | list a1 a2 a3 a4 => exact repr_of_reads' (h₀ := s.heap) (.list a1 a2 a3 a4) hs (PyData.noDict_hsm hnd) hg (by omega) (fun _ _ e => e) (fun h' t tk k => fin h' tk k t) hz
  | tuple a1 a2 a3 a4 => exact repr_of_reads' (h₀ := s.heap) (.tuple a1 a2 a3 a4) hs (PyData.noDict_hsm hnd) hg (by omega) (fun _ _ e => e) (fun h' t tk k => fin h' tk k t) hz
  | dict a1 a2 a3 a4 a5 => simp only [DL] at hd
end
/-! ### enumerate of a list -/
def enumW (ws : List W) : List W := ws.mapIdx fun i w => .tup [.int (i : Nat), w]
def wEnum (ta : TAw) : TIw := fun ω A R => ta ω A fun ws A1 => ∃ a xs, ws = [.ref a] ∧ isL A1 a xs ∧ R (enumW xs) (fun A' => isL A' a xs) A1
theorem enumW_get {ws : List W} {i : Nat} {w : W} (h : (enumW ws)[i]? = some w) : ∃ x, ws[i]? = some x ∧ w = .tup [.int (i : Nat), x] := by
  unfold enumW at h
  rw [List.getElem?_mapIdx] at h
  cases e : ws[i]? with
  | none => rw [e] at h; cases h
  | some x => rw [e] at h; cases h; exact ⟨x, rfl, rfl⟩
theorem draws_enum {K : PySem.W.Frag} {H : Hp} {a : Addr} {ws : List W} : Draws K H (Ite K a) (enumW ws) (fun A => isL A a ws) where
  stop := fun i H' A t ra g hl => by
    obtain ⟨us, hs, r'⟩ := g.sq ra
    refine ⟨us, hs, ?_⟩
    rw [reps_length r']
    unfold enumW at hl
    simpa using hl
  go := fun i H' A w t ra g e => by
    obtain ⟨us, hs, r'⟩ := g.sq ra
    obtain ⟨x, ex, _⟩ := enumW_get e
    obtain ⟨v, ev, _⟩ := reps_get r' ex
    exact ⟨us, v, hs, ev⟩
  yld := fun i H' A w x H2 t ra g e y => by
    obtain ⟨us, hs, r'⟩ := g.sq ra
    obtain ⟨z, ez, rfl⟩ := enumW_get e
    obtain ⟨v, ev, rv⟩ := reps_get r' ez
    obtain ⟨T, u, rfl, hT, rfl, y⟩ := y
    have := y us hs
    rw [ev] at this
    cases this
    have tn : TupLe K H' (upd H' T (.tup [.int (i : Nat), v])) := tupLe_new hT
    exact ⟨tn, ra.new0 hT, rep_tup upd_same (reps_cons (by simp only [rep]) (reps_cons (rep_mono tn _ _ rv) reps_nil))⟩
section
variable {X : Cx} {e : Expr} {ta : TAw} {p pos tpos : Pos} {elts : List Expr} {kk : Nat} {x : Str}
theorem wi_enum (hg : Gl X "enumerate") (hm : X.mg "enumerate" = none) (ha : WA X [e] ta) (hs : starEach [e] X.env = [(false, eval e X.env)] := by rfl) : WI X (.Tuple elts kk tpos) (.Call (.Name "enumerate" p) [e] [] pos) (wEnum ta) :=
  ⟨PI.imp (pi_enum hg hm ha.pa hs) fun σ H R ⟨ω, A, R', sm, ra, h, k⟩ => loA_i sm ra h fun vs H1 ws A1 t1 sm1 ra1 r ⟨a, xs, e, hl, q⟩ => by
    subst e
    obtain ⟨v1, r1, rfl, h1, r⟩ := reps_uncons r
    obtain rfl := reps_unnil r
    simp only [rep] at h1
    obtain ⟨us, hs, _⟩ := hl.sq ra1
    exact ⟨a, us, by rw [h1], hs, k _ _ _ _ _ t1 sm1 ra1 draws_enum q⟩⟩
/-! ### names -/
theorem we_gref {C : Addr} (hg : Gl X x) (hm : X.mg x = some (.ref C)) (hd : (x == ("__debug__" : Str)) = false := by decide) : WE X (.Name x pos) (wC (.ref C)) := we_c (pe_glob hg hm (v := .ref C) rfl hd) fun _ => by simp only [rep]
theorem we_ty {n : String} (hg : Gl X x) (hm : X.mg x = none) (hv : bootBuiltins x = some (.type n)) (hn : x ≠ "__name__" := by decide) (hd : (x == ("__debug__" : Str)) = false := by decide) : WE X (.Name x pos) (wC (.ty n)) := we_c (pe_bltn hg hm hv (v := .ty n) rfl hn hd) fun _ => by simp only [rep]
/-! ### -n -/
def wNeg (te : TEw) : TEw := fun ω A Q => te ω A fun w A1 => ∃ i, w = .int i ∧ Q (.int (-i)) A1
theorem we_neg {te : TEw} (he : WE X e te) : WE X (.UnaryOp .USub e pos) (wNeg te) := WE.of (pe_un un_neg he.pe) fun σ H ω A Q sm ra h => lo_i sm ra h fun v H1 w A1 t1 sm1 ra1 r ⟨i, e, q⟩ => by
  subst e
  simp only [rep] at r
  exact ⟨i, r, Up.trans t1 (Up.i ra1 (by simp only [rep]) q)⟩
end
end Wx

set_option Elab.async false
set_option linter.all false
set_option maxRecDepth 100000
set_option maxHeartbeats 4000000
/-! WX12: more readings by simp. -/
namespace Wx
open PySem L2
section
variable {t u : TSw} {te ta tb td ty tv tx to : TEw} {tt tu : TTw} {ti : TIw} {D : Dw} {ω : Sw} {A : AH} {Q : VKw} {QB : Bool → AH → Prop} {QA : List W → AH → Prop} {QS : Sw → AH → Prop} {R : List W → (AH → Prop) → AH → Prop} {i j n : Nat} {w x y : W} {ws us : List W} {g : TGw} {gs : TGsw} {r : R2w} {tA : TAw} {K : PySem.W.Frag} {E : XSw} {C a p : Addr} {d : Option Addr} {f T : Str} {fields : List Str}
@[simp] theorem wBrk_eq : wBrk D ω A = D.bk ω A := id rfl
@[simp] theorem wCont_eq : wCont D ω A = D.ct ω A := id rfl
@[simp] theorem wRetN_eq : wRetN D ω A = D.rt .non A := id rfl
@[simp] theorem wPar_eq : wPar i j tA D ω A = tA ω A fun ws A1 => ∃ v w, ws = [v, w] ∧ D.nx ((ω.set i (some v)).set j (some w)) A1 := id rfl
@[simp] theorem wAug_eq : wAug i te r D ω A = ∃ x, ω[i]? = some (some x) ∧ te ω A fun y A1 => r x y A1 fun z A2 => D.nx (ω.set i (some z)) A2 := id rfl
@[simp] theorem wgNil_eq : wgNil ws ω A QS = (ws = [] ∧ QS ω A) := id rfl
@[simp] theorem wgCons_eq : wgCons g gs ws ω A QS = ∃ w r, ws = w :: r ∧ g w ω A fun ω' A' => gs r ω' A' QS := id rfl
@[simp] theorem wgTup_eq : wgTup n gs w ω A QS = ∃ ws, w = .tup ws ∧ ws.length = n ∧ gs ws ω A QS := id rfl
@[simp] theorem wIt_eq : wIt te ω A R = te ω A fun w A1 => iterW w A1 R := id rfl
@[simp] theorem iterW_tup : iterW (.tup ws) A R = R ws (fun _ => True) A := id rfl
@[simp] theorem iterW_ktup : iterW (.ktup ws) A R = R ws (fun _ => True) A := id rfl
@[simp] theorem iterW_str {z : Str} : iterW (.str z) A R = R (signs z) (fun _ => True) A := id rfl
theorem iterW_ref (h : A.h p = some (.lst ws)) : iterW (.ref p) A R ↔ R ws (fun A' => isL A' p ws) A := by
  show (∃ us, isL A p us ∧ R us (fun A' => isL A' p us) A) ↔ _
  simp [isL_iff h]
theorem iterW_ref_r (h : A.h p = some (.rol ws)) : iterW (.ref p) A R ↔ R ws (fun A' => isL A' p ws) A := by
  show (∃ us, isL A p us ∧ R us (fun A' => isL A' p us) A) ↔ _
  simp [isL_iff_r h]
@[simp] theorem wRng1_eq : wRng1 tA ω A R = tA ω A fun ws A1 => ∃ j : Int, ws = [.int j] ∧ -(2 ^ 62) ≤ j ∧ j < 2 ^ 62 ∧ R (wints 0 j.toNat) (fun _ => True) A1 := id rfl
@[simp] theorem wRng2_eq : wRng2 tA ω A R = tA ω A fun ws A1 => ∃ i j : Int, ws = [.int i, .int j] ∧ (-(2 ^ 62) ≤ i ∧ i < 2 ^ 62 ∧ -(2 ^ 62) ≤ j ∧ j < 2 ^ 62) ∧ R (wints i (j - i).toNat) (fun _ => True) A1 := id rfl
@[simp] theorem wEnum_eq : wEnum tA ω A R = tA ω A fun ws A1 => ∃ a xs, ws = [.ref a] ∧ isL A1 a xs ∧ R (enumW xs) (fun A' => isL A' a xs) A1 := id rfl
@[simp] theorem wLc_eq {vs : List Nat} : wLc ti g tt te vs ω A Q = ti ω A fun ws gd A1 => ∀ D, A1.h D = none → lcLoop g tt te (wipeW ω vs) gd D Q ws (A1.put D (.lst [])) := id rfl
@[simp] theorem lcLoop_nil {gd : AH → Prop} : lcLoop g tt te ω gd p Q [] A = (gd A ∧ Q (.ref p) A) := id rfl
@[simp] theorem lcLoop_cons {gd : AH → Prop} : lcLoop g tt te ω gd p Q (w :: ws) A = (gd A ∧ g w ω A fun ω2 A2 => tt ω2 A2 fun b A3 =>
      if b = true then te ω2 A3 fun y A4 => ∃ acc, A4.h p = some (.lst acc) ∧ acc.length < sizeLine ∧ lcLoop g tt te ω gd p Q ws (A4.put p (.lst (acc ++ [y]))) else lcLoop g tt te ω gd p Q ws A3) := rfl
@[simp] theorem wYes_eq : wYes ω A QB = QB true A := id rfl
@[simp] theorem wipeW_nil : wipeW ω [] = ω := id rfl
@[simp] theorem wipeW_cons {v : Nat} {vs : List Nat} : wipeW ω (v :: vs) = (wipeW ω vs).set v none := id rfl
@[simp] theorem wFg_eq : wFg te ω A Q = te ω A fun w A' => ∃ A'', A''.Sub A' ∧ Q w A'' := id rfl
@[simp] theorem wCallX_eq {sp : SpW} {dws : List W} : wCallX sp dws tA E ω A Q = tA ω A fun ws A1 => sp (ws ++ dws) A1 Q (E ω) := id rfl
@[simp] theorem wBM_eq {T : String} {m : W → List W → AH → VKw → Prop} : wBM T m to tA ω A Q = to ω A fun w A1 => tyW T w A1 ∧ tA ω A1 fun ws A2 => m w ws A2 Q := id rfl
@[simp] theorem wBM0_eq {T : String} {m : W → List W → AH → VKw → Prop} : wBM0 T m to ω A Q = to ω A fun w A1 => tyW T w A1 ∧ m w [] A1 Q := id rfl
@[simp] theorem tyW_str {T : String} {z : Str} : tyW T (.str z) A ↔ T = "str" := Iff.rfl
theorem tyW_list (h : A.h p = some (.lst ws)) : tyW "list" (.ref p) A ↔ True := ⟨fun _ => trivial, fun _ => .inl ⟨rfl, ws, .inl h⟩⟩
@[simp] theorem wAppend_eq : wAppend (.ref p) [y] A Q = ∃ xs, A.h p = some (.lst xs) ∧ xs.length < sizeLine ∧ Q .non (A.put p (.lst (xs ++ [y]))) := by unfold wAppend; simp
@[simp] theorem wPop_eq : wPop (.ref p) [] A Q = ∃ xs y, A.h p = some (.lst xs) ∧ xs[xs.length - 1]? = some y ∧ Q y (A.put p (.lst xs.dropLast)) := by unfold wPop; simp
@[simp] theorem wPopAt_eq {i : Int} : wPopAt (.ref p) [.int i] A Q = ∃ xs k y, A.h p = some (.lst xs) ∧ -(2 ^ 63) ≤ i ∧ i < 2 ^ 63 ∧ seqIndex? i xs.length = some k ∧ xs[k]? = some y ∧ Q y (A.put p (.lst (xs.eraseIdx k))) := by unfold wPopAt; simp
@[simp] theorem wListOf_eq : wListOf [w] A Q = ∃ us, seqW w A us ∧ ∀ p, A.h p = none → Q (.ref p) (A.put p (.lst us)) := by unfold wListOf; simp
@[simp] theorem wTupleOf_ref : wTupleOf [.ref p] A Q = ∃ us, isL A p us ∧ Q (.tup us) A := by unfold wTupleOf; simp [seqW]
@[simp] theorem wTupleOf_tup : wTupleOf [.tup ws] A Q = Q (.tup ws) A := by unfold wTupleOf; simp [seqW]
@[simp] theorem seqW_tup : seqW (.tup ws) A us = (ws = us) := id rfl
@[simp] theorem seqW_ktup : seqW (.ktup ws) A us = (ws = us) := id rfl
@[simp] theorem seqW_ref : seqW (.ref p) A us = isL A p us := id rfl
@[simp] theorem wNoPart_eq {Q : Option Int → AH → Prop} : wNoPart ω A Q = Q none A := id rfl
@[simp] theorem wPart_eq {Q : Option Int → AH → Prop} : wPart te ω A Q = te ω A fun w A1 => ∃ i, w = .int i ∧ Q (some i) A1 := id rfl
@[simp] theorem wSl_eq {tl th : TOw} : wSl te tl th ω A Q = te ω A fun w A1 => tl ω A1 fun l A2 => th ω A2 fun u A3 => rwSl w l u A3 Q := id rfl
@[simp] theorem rwSl_tup {l h : Option Int} : rwSl (.tup ws) l h A Q = Q (.tup (cut ws l h)) A := id rfl
@[simp] theorem rwSl_str {l h : Option Int} {z : Str} : rwSl (.str z) l h A Q = (z.length ≤ sizeLine ∧ Q (.str (cutS z l h)) A) := id rfl
theorem rwSl_ref {l h : Option Int} (e : A.h p = some (.lst ws)) : rwSl (.ref p) l h A Q ↔ ∀ r, A.h r = none → Q (.ref r) (A.put r (.lst (cut ws l h))) := by
  show (∃ xs, isL A p xs ∧ ∀ r, A.h r = none → Q (.ref r) (A.put r (.lst (cut xs l h)))) ↔ _
  simp [isL_iff e]
@[simp] theorem wPairs_nil {Q : List (W × W) → AH → Prop} : wPairs [] ω A Q = Q [] A := id rfl
@[simp] theorem wPairs_cons {Q : List (W × W) → AH → Prop} {tr : List (TEw × TEw)} : wPairs ((ta, tb) :: tr) ω A Q = ta ω A fun x A1 => tb ω A1 fun y A2 => wPairs tr ω A2 fun ps A3 => Q ((x, y) :: ps) A3 := id rfl
@[simp] theorem wDisp_eq {trs : List (TEw × TEw)} : wDisp trs ω A Q = ∀ p, A.h p = none → wPairs trs ω (A.put p (.dK [])) fun ps A2 => A2.h p = some (.dK []) ∧ ∃ kvs : List (Key × W), ps = kvs.map (fun kv => (keyW kv.1, kv.2)) ∧ kvs.length ≤ 15 ∧ Q (.ref p) (A2.put p (.dK (kvs.foldl (fun acc kv => storeK acc kv.1 kv.2) []))) := id rfl
@[simp] theorem wDNewK_eq : wDNewK ω A Q = ∀ p, A.h p = none → Q (.ref p) (A.put p (.dK [])) := id rfl
@[simp] theorem wDNewT_eq : wDNewT ω A Q = ∀ p, A.h p = none → Q (.ref p) (A.put p (.dT [])) := id rfl
@[simp] theorem wDGet1_eq : wDGet1 td ty ω A Q = td ω A fun x A1 => ∃ a, x = .ref a ∧ isDW A1 a ∧ ty ω A1 fun y A2 => ∃ o, dGetW A2 a y o ∧ Q (o.getD .non) A2 := id rfl
@[simp] theorem wDGet2_eq : wDGet2 td ty tx ω A Q = td ω A fun x A1 => ∃ a, x = .ref a ∧ isDW A1 a ∧ ty ω A1 fun y A2 => tx ω A2 fun z A3 => ∃ o, dGetW A3 a y o ∧ Q (o.getD z) A3 := id rfl
@[simp] theorem wDIn_eq {b : Bool} : wDIn b ty td ω A Q = ty ω A fun y A1 => td ω A1 fun x A2 => ∃ a o, x = .ref a ∧ dGetW A2 a y o ∧ Q (.bl (if b then o.isSome else !o.isSome)) A2 := id rfl
/-! exceptions -/
@[simp] theorem wXf_eq : wXf K f te ω A Q = te ω A fun x A1 => ∃ a C fs w, x = .ref a ∧ XfC K C ∧ PySem.W.findIn K (.ref C) f = some none ∧ A1.h a = some (.exn C fs) ∧ fs.lookup f = some w ∧ Q w A1 := id rfl
@[simp] theorem wMkx_eq : wMkx C fields tA ω A Q = tA ω A fun ws A1 => ws.length = fields.length ∧ ws.length ≤ 1000 ∧ ∀ a, A1.h a = none → Q (.ref a) (A1.put a (.exn C (fields.zip ws).reverse)) := id rfl
@[simp] theorem wMkx0_eq : wMkx0 C ω A Q = ∀ a, A.h a = none → Q (.ref a) (A.put a (.exn C [])) := id rfl
@[simp] theorem wRaise_eq : wRaise C fields tA E D ω A = tA ω A fun ws A1 => ws.length = fields.length ∧ ws.length ≤ 1000 ∧ E ω C (fields.zip ws).reverse A1 := id rfl
@[simp] theorem wRaise0_eq : wRaise0 C E D ω A = E ω C [] A := id rfl
@[simp] theorem wSf_eq : wSf K a C d f te ω A Q = (XfC K C ∧ PySem.W.findIn K (.ref C) f = some none ∧ te ω A fun x A1 => x = .ref a ∧ ∃ dd fs w, d = some dd ∧ A1.h dd = some (.xd fs) ∧ fs.lookup f = some w ∧ Q w A1) := id rfl
@[simp] theorem wNeg_eq : wNeg te ω A Q = te ω A fun w A1 => ∃ i, w = .int i ∧ Q (.int (-i)) A1 := id rfl
end
end Wx

set_option Elab.async false
set_option linter.all false
set_option maxRecDepth 100000
set_option maxHeartbeats 4000000
/-! WX13: what a class must be, by a check; growth of what is known. -/
namespace Wx
open PySem L2
theorem h_ne' {A : AH} {p q : Addr} {o : WO} (h : A.h p = some o) (h' : A.h q = none) : p ≠ q := fun z => by rw [z, h'] at h; cases h
/-- the pen moves on -/
def AH.pn (A : AH) (p : Addr) (n : Nat) : AH := { A with pen := some (p, n) }
abbrev AH.pn' := @AH.pn
def oxB (K : PySem.W.Frag) (C : Addr) : Bool := match K.lookup C with
  | some ⟨.type "type", _, .cls cd, sl⟩ => (match cd.mro, sl.toList with
    | .ref C' :: bm, [_, _, _, _, some (.builtin n), _] => C' == C && n == "ValueError.__new__" && !cd.hasDel && cd.hasDict && PySem.HandSPX.refsVE bm
    | _, _ => false)
  | _ => false
theorem oxB_cls {K : PySem.W.Frag} {C : Addr} (q : oxB K C = true) : ∃ nm q N bs bm sn sub ab col dd k0 k1 k2 k3 k5, K.lookup C = some (excClassObj nm q C N bs bm true sn sub ab col dd k0 k1 k2 k3 k5 "ValueError.__new__") ∧ PySem.HandSPX.refsVE bm = true := by
  unfold oxB at q
  split at q
  · rename_i dd cd sl ho
    split at q
    · rename_i C' bm k0 k1 k2 k3 n k5 hm hs
      simp only [Bool.and_eq_true, beq_iff_eq, Bool.not_eq_true'] at q
      obtain ⟨⟨⟨⟨rfl, rfl⟩, hdel⟩, hdict⟩, hv⟩ := q
      obtain ⟨nm, bs, mro, ns, qn, hd, sn, sub, ab, col, del⟩ := cd
      dsimp only at hm hdel hdict
      subst hm hdel hdict
      have hsl : sl = #[k0, k1, k2, k3, some (.builtin "ValueError.__new__"), k5] := by
        obtain ⟨l⟩ := sl
        simp only at hs
        rw [hs]
      subst hsl
      exact ⟨nm, qn, ns, bs, bm, sn, sub, ab, col, dd, k0, k1, k2, k3, k5, ho, hv⟩
    · cases q
  · cases q
def exB (K : PySem.W.Frag) (C : Addr) : Bool := oxB K C && (decide (PySem.W.findIn K (.ref C) "__setattr__" = some (some (.builtin "object.__setattr__"))) && (decide (PySem.W.subIn K (.ref C) (.type "BaseException") = some true) && (decide (PySem.W.typeIn K (.ref C) = some (.type "type")) && (PySem.W.keepIn K (.ref C) &&
  (xfB K C && ((PySem.W.clsIn K C).isSome && (decide (PySem.W.findIn K (.ref C) "__class__" = some (some (.builtin "object.__class__"))) && decide (PySem.W.mroIn K C (.type "object") = some true))))))))
theorem exB_ok {K : PySem.W.Frag} {C : Addr} (h : exB K C = true) : ExC K C := by
  unfold exB at h
  simp only [Bool.and_eq_true, decide_eq_true_eq] at h
  obtain ⟨h1, h2, h3, h4, h5, h6, h7, h8, h9⟩ := h
  exact ⟨⟨oxB_cls h1, h2, h3, h4, h5⟩, xfB_ok h6, h7, h8, h9⟩
def exkB (K : PySem.W.Frag) : Bool := decide (PySem.W.specialIn K (.builtin "object.__class__") "__get__" = some (some (.builtin "getset_descriptor.__get__"))) && decide (PySem.W.takesIn K (.builtin "object.__class__") = some true)
theorem exkB_ok {K : PySem.W.Frag} (h : exkB K = true) : ExK K := by
  unfold exkB at h
  simp only [Bool.and_eq_true, decide_eq_true_eq] at h
  exact ⟨h.1, h.2⟩
theorem isL_uniq {A : AH} {p : Addr} {ws us : List W} (h : isL A p ws) : isL A p us ↔ us = ws := by
  rcases h with h | h
  · exact isL_iff h
  · exact isL_iff_r h
theorem lenW_isL {A : AH} {p : Addr} {ws : List W} {k : Nat → Prop} (h : isL A p ws) : lenW (.ref p) A k ↔ k ws.length := by
  show (∃ us, isL A p us ∧ k us.length) ↔ _
  simp [isL_uniq h]
theorem wIx_isL {A : AH} {Q : VKw} {p : Addr} {ws : List W} {n : Int} (h : isL A p ws) : wIx (.ref p) (.int n) A Q ↔ ∃ w, atI ws n = some w ∧ Q w A := by
  show (∃ us w, isL A p us ∧ atI us n = some w ∧ Q w A) ↔ _
  simp [isL_uniq h]
theorem iterW_isL {A : AH} {R : List W → (AH → Prop) → AH → Prop} {p : Addr} {ws : List W} (h : isL A p ws) : iterW (.ref p) A R ↔ R ws (fun A' => isL A' p ws) A := by
  show (∃ us, isL A p us ∧ R us (fun A' => isL A' p us) A) ↔ _
  simp [isL_uniq h]
theorem rwSl_isL {A : AH} {Q : VKw} {p : Addr} {ws : List W} {l h : Option Int} (e : isL A p ws) : rwSl (.ref p) l h A Q ↔ ∀ r, A.h r = none → Q (.ref r) (A.put r (.lst (cut ws l h))) := by
  show (∃ xs, isL A p xs ∧ ∀ r, A.h r = none → Q (.ref r) (A.put r (.lst (cut xs l h)))) ↔ _
  simp [isL_uniq e]
theorem isL_get {A : AH} {p : Addr} {ws : List W} (h : A.h p = some (.lst ws)) : isL A p ws := .inl h
theorem isL_put {A : AH} {p q : Addr} {ws : List W} {o : WO} (h : isL A p ws) (n : A.h q = none) : isL (A.put q o) p ws := h.imp (fun e => by rw [AH.put_ne (h_ne' e n)]; exact e) fun e => by rw [AH.put_ne (h_ne' e n)]; exact e
@[simp] theorem isL_pn {A : AH} {p q : Addr} {n : Nat} {ws : List W} : isL (A.pn' p n) q ws = isL A q ws := rfl
theorem atI_mem {α : Type} {xs : List α} {d : Int} (h0 : 0 ≤ d) (h1 : d < xs.length) : ∃ x, atI xs d = some x ∧ x ∈ xs := by
  obtain ⟨k, rfl⟩ : ∃ k : Nat, d = k := ⟨d.toNat, by omega⟩
  have hk : k < xs.length := by omega
  exact ⟨xs[k], atI_nat (by simp [hk]), List.getElem_mem hk⟩
/-! ### growth -/
section
variable {A A' B : AH}
theorem isL.sub {p : Addr} {ws : List W} (h : isL A p ws) (s : A.Sub A') : isL A' p ws := h.imp (s.1 _ _) (s.1 _ _)
mutual
theorem DL.sub (s : A.Sub A') : ∀ (d : PyData) (w : W), DL A d w → DL A' d w
  | .none, w, h => by simpa only [DL] using h
  | .bool _, w, h => by simpa only [DL] using h
  | .int _, w, h => by simpa only [DL] using h
  | .str _, w, h => by simpa only [DL] using h
  | .dict _, w, h => by simp only [DL] at h
  | .tuple ds, w, h => by
    simp only [DL] at h ⊢
    obtain ⟨ws, e, hs⟩ := h
    exact ⟨ws, e, DLs.sub s ds ws hs⟩
  | .list ds, w, h => by
    simp only [DL] at h ⊢
    obtain ⟨p, ws, e, hl, hs⟩ := h
    exact ⟨p, ws, e, hl.sub s, DLs.sub s ds ws hs⟩
theorem DLs.sub (s : A.Sub A') : ∀ (ds : List PyData) (ws : List W), DLs A ds ws → DLs A' ds ws
  | [], ws, h => by simpa only [DLs] using h
  | d :: ds, ws, h => by
    simp only [DLs] at h ⊢
    obtain ⟨w, r, e, h1, h2⟩ := h
    exact ⟨w, r, e, DL.sub s d w h1, DLs.sub s ds r h2⟩
end
theorem DLs.nil : DLs A [] [] := by simp only [DLs]
theorem DLs.cons {d : PyData} {ds : List PyData} {w : W} {ws : List W} (h : DL A d w) (hs : DLs A ds ws) : DLs A (d :: ds) (w :: ws) := by
  simp only [DLs]
  exact ⟨w, ws, rfl, h, hs⟩
theorem DL.list {ds : List PyData} {p : Addr} {ws : List W} (h : A.h p = some (.lst ws)) (hs : DLs A ds ws) : DL A (.list ds) (.ref p) := by
  simp only [DL]
  exact ⟨p, ws, rfl, .inl h, hs⟩
theorem DL.tup {ds : List PyData} {ws : List W} (hs : DLs A ds ws) : DL A (.tuple ds) (.tup ws) := by
  simp only [DL]
  exact ⟨ws, .inl rfl, hs⟩
theorem AH.Sub.put' {p : Addr} {o : WO} (s : A.Sub B) (h : B.h p = Option.none) : A.Sub (B.put p o) := s.trans (AH.Sub.put h)
theorem AH.Sub.get (s : A.Sub B) {p : Addr} {o : WO} (h : A.h p = some o) : B.h p = some o := s.1 _ _ h
theorem AH.Sub.ne (s : A.Sub B) {p q : Addr} {o : WO} (h : A.h p = some o) (h' : B.h q = Option.none) : p ≠ q := fun z => by
  have := s.1 _ _ h
  rw [z, h'] at this
  cases this
theorem h_ne {p q : Addr} {o : WO} (h : A.h p = some o) (h' : A.h q = none) : p ≠ q := fun z => by rw [z, h'] at h; cases h
@[simp] theorem AH.pn_h {p : Addr} {n : Nat} : (A.pn p n).h = A.h := rfl
@[simp] theorem AH.pn_pen {p : Addr} {n : Nat} : (A.pn p n).pen = some (p, n) := rfl
@[simp] theorem AH.pn_pn {p q : Addr} {n m : Nat} : (A.pn p n).pn q m = A.pn q m := rfl
@[simp] theorem AH.put_pn {p a : Addr} {n : Nat} {o : WO} : (A.put a o).pn p n = (A.pn p n).put a o := rfl
theorem AH.Sub.pn {p : Addr} {n : Nat} (s : A.Sub B) : (A.pn p n).Sub (B.pn p n) := ⟨s.1, .inr rfl, s.2.2⟩
end
/-! ### loops by an invariant over what is left -/
section
variable {g : TGw} {tb : TSw} {D : Dw} {gd : AH → Prop}
theorem wLoop_ind {P : List W → Sw → AH → Prop} (h0 : ∀ ω A, P [] ω A → gd A ∧ D.nx ω A)
    (hs : ∀ w ws ω A (k : Sw → AH → Prop), (∀ ω A, P ws ω A → k ω A) → P (w :: ws) ω A → gd A ∧ g w ω A fun ω2 A2 => tb { D with nx := k, ct := k } ω2 A2) : ∀ ws ω A, P ws ω A → wLoop g tb D gd ws ω A
  | [], ω, A, h => h0 ω A h
  | w :: ws, ω, A, h => hs w ws ω A _ (fun ω A h => wLoop_ind h0 hs ws ω A h) h
theorem lcLoop_ind {tt : TTw} {te : TEw} {ωw : Sw} {p : Addr} {Q : VKw} {P : List W → AH → Prop} (h0 : ∀ A, P [] A → gd A ∧ Q (.ref p) A)
    (hs : ∀ w ws A (k : AH → Prop), (∀ A, P ws A → k A) → P (w :: ws) A → gd A ∧ g w ωw A fun ω2 A2 => tt ω2 A2 fun b A3 => if b = true then te ω2 A3 fun y A4 => ∃ acc, A4.h p = some (.lst acc) ∧ acc.length < sizeLine ∧ k (A4.put p (.lst (acc ++ [y]))) else k A3) :
    ∀ ws A, P ws A → lcLoop g tt te ωw gd p Q ws A
  | [], A, h => h0 A h
  | w :: ws, A, h => hs w ws A _ (fun A h => lcLoop_ind h0 hs ws A h) h
end
end Wx

set_option Elab.async false
set_option linter.all false
set_option maxRecDepth 100000
set_option maxHeartbeats 4000000
/-! WX14: the end: a law called with the script, where no guard is up. -/
namespace Wx
open PySem L2
/-- no list stands in the written part -/
def noLst (K : PySem.W.Frag) : Bool := K.all fun p => !(p.2.cls == Value.type "list")
theorem noLst_ok {K : PySem.W.Frag} (h : noLst K = true) {a : Addr} {o : Obj} (e : K.lookup a = some o) : o.cls ≠ .type "list" := by
  have hm : (a, o) ∈ (K : List (Addr × Obj)) := by
    unfold noLst at h
    clear h
    induction K with
    | nil => cases e
    | cons p K ih =>
      obtain ⟨b, u⟩ := p
      rw [List.lookup_cons] at e
      cases q : a == b with
      | true =>
        rw [q] at e
        cases e
        have : a = b := beq_iff_eq.mp q
        subst this
        exact List.mem_cons_self
      | false =>
        rw [q] at e
        exact List.mem_cons_of_mem _ (ih e)
  have := List.all_eq_true.mp h _ hm
  intro z
  simp [z] at this
theorem law_callG {P : Program} {w : World} {K : PySem.W.Frag} {mg mb : Str → Option Value} {k : Nat} {fa a : Addr} {fd : FuncData} {x : Str} {sp : SpW} {s₁ : Shared} {vs : List Value} {ns : List Int}
    (KX : K.In s₁.heap) (hns : s₁.heap.Ns mainGlobals mg) (hb : s₁.heap.Ns builtinsNs mb) (hbb : ∀ x : Str, x ≠ "__name__" → mb x = bootBuiltins x) (hlim : s₁.heap.NoLimit) (hg : s₁.gens = #[])
    (ha : s₁.heap.get? a = some { cls := .type "list", data := .seq vs.toArray }) (hi : PyProof.Rows.IntsAre vs ns) (hl : ns.length ≤ sizeLine) (hr : Room k callerA) (hk : K.lookup a = none)
    (F : ∀ base : Heap, K.In base → base.Ns mainGlobals mg → FnB true P w K mg base k fa fd [x] (spL K sp)) (hbind : ∀ (s : Shared) (u : Value), BindsTo s fd ⟨[u], []⟩ [(x, u)])
    (hsp : ∀ A : AH, A.h a = some (.rol (ns.map W.int)) → A.pen = none → sp [.ref a] A (fun v _ => v = .bl true) E0w) :
    codeAny (model P w) callerA (.call (.ref fa) ⟨[.ref a], []⟩) (fun r s' => r = .ok (.ret (.bool true)) ∧ OldK s₁.heap s'.heap ∧ s'.os = s₁.os ∧ PyProof.Rows.AllBare s'.gens) s₁ := by
  obtain ⟨H, eH⟩ : ∃ H : Hp, H = fun b => if b = a then some (.frz { cls := .type "list", data := .seq vs.toArray } (.lst (ns.map V.int))) else none := ⟨_, rfl⟩
  have Ha : H a = some (.frz { cls := .type "list", data := .seq vs.toArray } (.lst (ns.map V.int))) := by rw [eH]; exact if_pos rfl
  have Hn : ∀ {b : Addr}, b ≠ a → H b = none := fun {b} n => by rw [eH]; exact if_neg n
  have hok : HOk P w H s₁.heap := fun b u e => by
    by_cases z : b = a
    · subst z
      rw [Ha] at e
      cases e
      exact ⟨ha, by rw [List.length_map]; exact hl, vs, _, vals_ints hi, ha⟩
    · rw [Hn z] at e
      cases e
  have notA : ∀ {b : Addr} {o : Obj} {es : Array DictEntry} {ep : Nat}, s₁.heap.get? b = some o → o.data = .dict es ep → b ≠ a := fun {b o es ep} e d z => by
    subst z
    rw [ha] at e
    cases e
    have d' : Data.seq vs.toArray _ = Data.dict es ep := d
    cases d'
  have nsK : ∀ {b : Addr} {m : Str → Option Value}, s₁.heap.Ns b m → (hidT s₁.heap H).Ns b m := fun {b m} ⟨o, es, ep, e, d, r⟩ => ⟨o, es, ep, hidT_get e (Hn (notA e d)), d, r⟩
  have hKb : K.In (hidT s₁.heap H) := fun b o e => hidT_get (KX b o e) (Hn fun z => by rw [z, hk] at e; cases e)
  have hM : Mod K mg (hidT s₁.heap H) := ⟨hKb, nsK hns, ⟨mb, nsK hb, hbb⟩, let ⟨mc, h1, h2⟩ := hlim; ⟨mc, nsK h1, h2⟩⟩
  have e0 : Env0 P w K mg (hidT s₁.heap H) callerA [] s₁ H := ⟨rfl, hM, fun b o e => of_hidT e, Nat.le_of_eq (hidT_size _ _), trivial, fun b hb => absurd (show b ∈ ([] : List Addr) from hb) (by simp), hok, .of_eq hg⟩
  have ra : RepA K H { pen := none, h := fun b => if b = a then some (.rol (ns.map W.int)) else none } := by
    refine ⟨fun b o e => ?_, (fun p n e => nomatch e), fun b xs => ⟨(fun e => nomatch e), (fun o e => nomatch e)⟩⟩
    have e' : (if b = a then some (WO.rol (ns.map W.int)) else none) = some o := e
    by_cases z : b = a
    · subst z
      rw [if_pos rfl] at e'
      cases e'
      exact ⟨ns.map V.int, .inr ⟨_, Ha⟩, reps_ints⟩
    · rw [if_neg z] at e'
      cases e'
  refine codeAny_mono ((F _ hKb (nsK hns)).run callerA [] s₁ H ⟨[.ref a], []⟩ [.ref a] [.ref a] (fun v _ => v = .bl true) (fun _ _ _ => False) ⟨hr, fun _ => rfl⟩ e0 (hbind s₁ (.ref a)) (.cons rfl .nil)
    ⟨[.ref a], _, _, E0w, reps_cons (by simp only [rep]) reps_nil, ra, hsp _ (if_pos rfl) rfl, fun v H' ⟨w', A', _, _, r, e⟩ => ?_, fun c d H' ⟨_, _, _, _, _, _, _, z⟩ => z⟩) fun r s' h => ?_
  · subst e
    simp only [rep] at r
    exact r
  · rcases r with e | fl
    · obtain ⟨_, _, _, _, _, _, _, _, _, _, _, _, z⟩ := h
      exact z.elim
    · cases fl with
      | next => exact False.elim h
      | brk => exact False.elim h
      | cont => exact False.elim h
      | ret u =>
        obtain ⟨v, H', os, bare, un, hok', r', q⟩ := h
        have q' : v = .bl true := q
        subst q'
        obtain rfl : u = Value.bool true := r'
        refine ⟨rfl, OldK.of_keep fun b o e => ?_, os, bare⟩
        by_cases z : b = a
        · subst z
          obtain ⟨e1, _⟩ := hok b _ Ha
          obtain ⟨e2, _⟩ := hok' b _ (un.frzs b _ _ Ha)
          rw [e] at e1
          cases e1
          exact e2
        · exact un.keep b o e (Hn z) (by intro y; exact absurd (show b ∈ ([] : List Addr) from y) (by simp)) (by simp)
theorem walkG {l : PySem.W.OpenLaw} {n k : Nat} {q : Program} {loose : List Str} {XP : (Str → Option Value) → Heap → Prop} {YP : World → Heap → Prop} {d : DefRec} {K : Params → PySem.W.Frag} {sp : SpW} {x : Str}
    (hn : l.most = some n) (hn2 : n ≤ sizeLine) (hdf : d.params.defaults = []) (hr : Room k callerA)
    (hY : ∀ (w : World) (h : Heap), YP w h → (K w.params).In h) (hnl : ∀ w : World, noLst (K w.params) = true)
    (F : ∀ (w : World) (mg : Str → Option Value) (fa : Addr) (h : Heap), (K w.params).In h → h.Ns mainGlobals mg → mg d.name = some (.ref fa) →
      ∃ fd : FuncData, (∀ (s : Shared) (u : Value), BindsTo s fd ⟨[u], []⟩ [(x, u)]) ∧
        ∀ base : Heap, (K w.params).In base → base.Ns mainGlobals mg → FnB true l.prog w (K w.params) mg base k fa fd [x] (spL (K w.params) sp))
    (hsp : ∀ (A : AH) (a : Addr) (ns : List Int), ns.length ≤ n → A.h a = some (.rol (ns.map W.int)) → A.pen = none → sp [.ref a] A (fun v _ => v = .bl true) E0w) :
    PySem.W.WalkO q loose XP YP l.row.toRowW d [] (fun f vs => PySem.call f vs) := by
  refine Att.attach_call hn hdf fun w s₀ s₁ mg mb fa o pm cd doc a vs ns G Y ho hd hcd hmg hobj hints hlen hg => ?_
  have KX := hY w _ Y
  obtain ⟨fd, hb, hF⟩ := F w mg fa _ KX G.T.g hmg
  have hk : (K w.params).lookup a = none := by
    cases e : (K w.params).lookup a with
    | none => rfl
    | some o =>
      have e1 := KX _ _ e
      rw [hobj] at e1
      cases e1
      exact absurd rfl (noLst_ok (hnl w) e)
  exact law_callG KX G.T.g G.T.b G.T.builtins G.T.nolimit hg hobj hints (Nat.le_trans hlen hn2) hr hk hF hb fun A hA hp => hsp A a ns hlen hA hp
end Wx

set_option Elab.async false
set_option linter.all false
set_option maxRecDepth 100000
set_option maxHeartbeats 4000000
namespace Wx
open PySem L2
def top (i : Nat) : Stmt := PySem.Challenge.pw_unseendeeds_k01_errors.main.body.getD i (.Pass ⟨0, 0, 0, 0⟩)
@[irreducible] def big40 : Int := 10 ^ 40
theorem big40_eq : big40 = 10 ^ 40 := by unfold big40; rfl
def wPow40 : R2w := fun a b A Q => a = .int 10 ∧ b = .int 40 ∧ Q (.int big40) A
theorem ow_pow40 {X : Cx} : OpW X (binaryOp .Pow) wPow40 := OpW.imp ow_pow fun a b A Q ⟨e1, e2, q⟩ => ⟨10, 40, e1, e2, ⟨by decide, by decide, by decide⟩, by show Q (.int ((10 : Int) ^ 40)) A; rw [← big40_eq]; exact q⟩
@[simp] theorem wPow40_eq {A : AH} {Q : VKw} : wPow40 (.int 10) (.int 40) A Q = Q (.int big40) A := by unfold wPow40; simp
def specs10 : List (Str × List Str) := [("BadText", ["line", "word"]), ("BadName", ["name"]), ("BadNumber", ["what", "number"]), ("BadRow", ["what", "row"]), ("NoName", ["name"]), ("TakenName", ["name"]), ("Unlike", ["what"]), ("NotThere", ["what"]), ("TooMany", ["what", "many", "limit"]), ("NotKept", ["promise", "witness"])]
def kinds12 : List Str := ["BadText", "BadName", "BadNumber", "BadRow", "NoName", "TakenName", "Unlike", "NotThere", "TooMany", "NotKept", "NothingToUndo", "NothingToRedo"]
/-- what the text leans on -/
structure Txt (P : Program) (w : World) (K : PySem.W.Frag) (mg : Str → Option Value) (base : Heap) (cl : Str → Addr) : Prop where
  b_ValueError : mg "ValueError" = none
  b_enumerate : mg "enumerate" = none
  b_int : mg "int" = none
  b_isinstance : mg "isinstance" = none
  b_len : mg "len" = none
  b_list : mg "list" = none
  b_range : mg "range" = none
  b_repr : mg "repr" = none
  m_BadName : mg "BadName" = some (.ref (cl "BadName"))
  m_BadNumber : mg "BadNumber" = some (.ref (cl "BadNumber"))
  m_BadRow : mg "BadRow" = some (.ref (cl "BadRow"))
  m_BadText : mg "BadText" = some (.ref (cl "BadText"))
  m_DeedsError : mg "DeedsError" = some (.ref (cl "DeedsError"))
  m_NoName : mg "NoName" = some (.ref (cl "NoName"))
  m_NotKept : mg "NotKept" = some (.ref (cl "NotKept"))
  m_NotThere : mg "NotThere" = some (.ref (cl "NotThere"))
  m_NothingToRedo : mg "NothingToRedo" = some (.ref (cl "NothingToRedo"))
  m_NothingToUndo : mg "NothingToUndo" = some (.ref (cl "NothingToUndo"))
  m_TakenName : mg "TakenName" = some (.ref (cl "TakenName"))
  m_TooMany : mg "TooMany" = some (.ref (cl "TooMany"))
  m_Unlike : mg "Unlike" = some (.ref (cl "Unlike"))
  x_BadName : XMk P w K mg base "BadName" (cl "BadName") ["name"]
  x_BadNumber : XMk P w K mg base "BadNumber" (cl "BadNumber") ["what", "number"]
  x_BadRow : XMk P w K mg base "BadRow" (cl "BadRow") ["what", "row"]
  x_BadText : XMk P w K mg base "BadText" (cl "BadText") ["line", "word"]
  x_NoName : XMk P w K mg base "NoName" (cl "NoName") ["name"]
  x_NotKept : XMk P w K mg base "NotKept" (cl "NotKept") ["promise", "witness"]
  x_NotThere : XMk P w K mg base "NotThere" (cl "NotThere") ["what"]
  x_NothingToRedo : XMk0 K mg "NothingToRedo" (cl "NothingToRedo")
  x_NothingToUndo : XMk0 K mg "NothingToUndo" (cl "NothingToUndo")
  x_TakenName : XMk P w K mg base "TakenName" (cl "TakenName") ["name"]
  x_TooMany : XMk P w K mg base "TooMany" (cl "TooMany") ["what", "many", "limit"]
  x_Unlike : XMk P w K mg base "Unlike" (cl "Unlike") ["what"]
  ec : ∀ c ∈ kinds12, ExC K (cl c)
  ek : ExK K
  kit : ∀ c ∈ kinds12, ∀ d ∈ kinds12, PySem.W.kitOne K (.ref (cl c)) (.ref (cl d)) = some (c == d)
  kitD : ∀ c ∈ kinds12, PySem.W.kitOne K (.ref (cl c)) (.ref (cl "DeedsError")) = some true
  kitV : ∀ c ∈ kinds12, PySem.W.kitOne K (.ref (cl c)) (.type "ValueError") = some true
  no : ∀ s ∈ specs10, ∀ f ∈ s.2, PySem.W.findIn K (.ref (cl s.1)) f = some none
  exm : PySem.W.exmOne K (.ref (cl "NotThere")) (.ref (cl "DeedsError")) = some true
/-! the promises -/
def sp__law_draw : SpW := fun ws A Q _ => ∃ (p : Addr) (n : Nat) (m : Int), ws = [.ref p, .int m] ∧ A.pen = some (p, n) ∧ n < 2 ^ 40 ∧ 0 < m ∧ m < 2 ^ 30 ∧ ∀ d : Int, 0 ≤ d → d < m → Q (.int d) (A.pn p (n + 1))
def sp__law_pen : SpW := fun ws A Q _ => ∃ (a : Addr) (ns : List Int), ws = [.ref a] ∧ A.h a = some (.rol (ns.map W.int)) ∧ A.pen = none ∧ ns.length ≤ 63 ∧ ∀ p A', A'.pen = some (p, 0) → A.Sub { A' with pen := none } → Q (.ref p) A'
def sp__law_pick : SpW := fun ws A Q _ => ∃ (p l : Addr) (n : Nat) (xs : List W), ws = [.ref p, .ref l] ∧ A.pen = some (p, n) ∧ n < 2 ^ 40 ∧ isL A l xs ∧ 0 < xs.length ∧ xs.length < 2 ^ 30 ∧ ∀ x ∈ xs, Q x (A.pn p (n + 1))
/-- data that can be shown -/
structure GoodD (d : PyData) : Prop where
  s : d.showable = true
  n : d.hasDict = false
  p : d.depth ≤ 5
  z : d.shown.length ≤ 1000
def sp__law_value : SpW := fun ws A Q _ => ∃ (p : Addr) (n : Nat), ws = [.ref p] ∧ A.pen = some (p, n) ∧ n < 2 ^ 40 ∧ ∀ w d A', (A.pn p (n + 1)).Sub A' → DL A' d w → GoodD d → Q w A'
def names10 : List Str := ["line", "word", "name", "what", "number", "row", "many", "limit", "promise", "witness"]
def sp__law_fields (K : PySem.W.Frag) : SpW := fun ws A Q _ => ∃ (e l C : Addr) (fs : List (Str × W)) (ns : List Str) (vals : List W), ws = [.ref e, .ref l] ∧ A.h e = some (.exn C fs) ∧ A.h l = some (.lst (ns.map W.str)) ∧ ns.length ≤ 3 ∧ (∀ f ∈ ns, f ∈ names10 ∧ PySem.W.findIn K (.ref C) f = some none) ∧ XfC K C ∧
  ns.map (fun f => fs.lookup f) = vals.map some ∧ ∀ p A', A.Sub A' → A'.h p = some (.lst vals) → Q (.ref p) A'
/-- the rows of made errors -/
def Rws (A : AH) (cl : Str → Addr) (vals : List W) : List W → List (Str × List Str) → Prop
  | [], [] => True
  | row :: rows, (c, fs) :: specs => (∃ e l, row = .tup [.ref e, .ref l] ∧ A.h e = some (.exn (cl c) (fs.zip vals).reverse) ∧ A.h l = some (.lst (fs.map W.str))) ∧ Rws A cl vals rows specs
  | _, _ => False
def sp__law_made_errors (cl : Str → Addr) : SpW := fun ws A Q _ => ∃ one two three, ws = [one, two, three] ∧ ∀ p rows A', A.Sub A' → A'.h p = some (.lst rows) → Rws A' cl [one, two, three] rows specs10 → Q (.ref p) A'
def sp__law_kinds (K : PySem.W.Frag) (cl : Str → Addr) : SpW := fun ws A Q _ => ∃ (e : Addr) (c : Str) (fs : List (Str × W)), ws = [.ref e] ∧ A.h e = some (.exn (cl c) fs) ∧ c ∈ kinds12 ∧ ∀ p A', A.Sub A' → A'.h p = some (.lst (kinds12.map fun k => .bl (c == k))) → Q (.ref p) A'
def sp_law : SpW := fun ws A Q _ => ∃ (a : Addr) (ns : List Int), ws = [.ref a] ∧ A.h a = some (.rol (ns.map W.int)) ∧ A.pen = none ∧ ns.length ≤ 63 ∧ ∀ A', Q (.bl true) A'

section
variable {P : Program} {w : World} {K : PySem.W.Frag} {mg : Str → Option Value} {base : Heap} {cl : Str → Addr}
abbrev s_BadText : Stmt := inClass (top 2) 0
theorem sc_BadText : FnScope ["self", "line", "word"] ["self", "line", "word"] (defScope s_BadText) := ⟨rfl, rfl, rfl, by decide +kernel, rfl, by decide +kernel, by decide +kernel⟩
theorem xm_BadText {f C : Addr} {fd : FuncData} (F : Fun K "__init__" "BadText.__init__" s_BadText f fd) (T : OexC K C) (hm : mg "BadText" = some (.ref C)) (iC : PySem.W.findIn K (.ref C) "__init__" = some (some (.ref f))) (tI : PySem.W.typeIn K (.ref f) = some (.type "function")) (n1 : PySem.W.findIn K (.ref C) "line" = some none) (n2 : PySem.W.findIn K (.ref C) "word" = some none) : XMk P w K mg base "BadText" C ["line", "word"] :=
  ⟨T, hm, f, fd, _, iC, tI, okX2 F sc_BadText T n1 n2 (fun cdv A outer s H E => (pss_cons (ps_ost (pv 0) (pv 1)) (pss_one (ps_ost (pv 0) (pv 2))))), F.binds fun _ _ _ _ _ _ us hl => match us, hl with | [_, _, _], _ => rfl⟩

abbrev s_BadName : Stmt := inClass (top 3) 0
theorem sc_BadName : FnScope ["self", "name"] ["self", "name"] (defScope s_BadName) := ⟨rfl, rfl, rfl, by decide +kernel, rfl, by decide +kernel, by decide +kernel⟩
theorem xm_BadName {f C : Addr} {fd : FuncData} (F : Fun K "__init__" "BadName.__init__" s_BadName f fd) (T : OexC K C) (hm : mg "BadName" = some (.ref C)) (iC : PySem.W.findIn K (.ref C) "__init__" = some (some (.ref f))) (tI : PySem.W.typeIn K (.ref f) = some (.type "function")) (n1 : PySem.W.findIn K (.ref C) "name" = some none) : XMk P w K mg base "BadName" C ["name"] :=
  ⟨T, hm, f, fd, _, iC, tI, okX1 F sc_BadName T n1 (fun cdv A outer s H E => (pss_one (ps_ost (pv 0) (pv 1)))), F.binds fun _ _ _ _ _ _ us hl => match us, hl with | [_, _], _ => rfl⟩

abbrev s_BadNumber : Stmt := inClass (top 4) 0
theorem sc_BadNumber : FnScope ["self", "what", "number"] ["self", "what", "number"] (defScope s_BadNumber) := ⟨rfl, rfl, rfl, by decide +kernel, rfl, by decide +kernel, by decide +kernel⟩
theorem xm_BadNumber {f C : Addr} {fd : FuncData} (F : Fun K "__init__" "BadNumber.__init__" s_BadNumber f fd) (T : OexC K C) (hm : mg "BadNumber" = some (.ref C)) (iC : PySem.W.findIn K (.ref C) "__init__" = some (some (.ref f))) (tI : PySem.W.typeIn K (.ref f) = some (.type "function")) (n1 : PySem.W.findIn K (.ref C) "what" = some none) (n2 : PySem.W.findIn K (.ref C) "number" = some none) : XMk P w K mg base "BadNumber" C ["what", "number"] :=
  ⟨T, hm, f, fd, _, iC, tI, okX2 F sc_BadNumber T n1 n2 (fun cdv A outer s H E => (pss_cons (ps_ost (pv 0) (pv 1)) (pss_one (ps_ost (pv 0) (pv 2))))), F.binds fun _ _ _ _ _ _ us hl => match us, hl with | [_, _, _], _ => rfl⟩

abbrev s_BadRow : Stmt := inClass (top 5) 0
theorem sc_BadRow : FnScope ["self", "what", "row"] ["self", "what", "row"] (defScope s_BadRow) := ⟨rfl, rfl, rfl, by decide +kernel, rfl, by decide +kernel, by decide +kernel⟩
theorem xm_BadRow {f C : Addr} {fd : FuncData} (F : Fun K "__init__" "BadRow.__init__" s_BadRow f fd) (T : OexC K C) (hm : mg "BadRow" = some (.ref C)) (iC : PySem.W.findIn K (.ref C) "__init__" = some (some (.ref f))) (tI : PySem.W.typeIn K (.ref f) = some (.type "function")) (n1 : PySem.W.findIn K (.ref C) "what" = some none) (n2 : PySem.W.findIn K (.ref C) "row" = some none) : XMk P w K mg base "BadRow" C ["what", "row"] :=
  ⟨T, hm, f, fd, _, iC, tI, okX2 F sc_BadRow T n1 n2 (fun cdv A outer s H E => (pss_cons (ps_ost (pv 0) (pv 1)) (pss_one (ps_ost (pv 0) (pv 2))))), F.binds fun _ _ _ _ _ _ us hl => match us, hl with | [_, _, _], _ => rfl⟩

abbrev s_NoName : Stmt := inClass (top 6) 0
theorem sc_NoName : FnScope ["self", "name"] ["self", "name"] (defScope s_NoName) := ⟨rfl, rfl, rfl, by decide +kernel, rfl, by decide +kernel, by decide +kernel⟩
theorem xm_NoName {f C : Addr} {fd : FuncData} (F : Fun K "__init__" "NoName.__init__" s_NoName f fd) (T : OexC K C) (hm : mg "NoName" = some (.ref C)) (iC : PySem.W.findIn K (.ref C) "__init__" = some (some (.ref f))) (tI : PySem.W.typeIn K (.ref f) = some (.type "function")) (n1 : PySem.W.findIn K (.ref C) "name" = some none) : XMk P w K mg base "NoName" C ["name"] :=
  ⟨T, hm, f, fd, _, iC, tI, okX1 F sc_NoName T n1 (fun cdv A outer s H E => (pss_one (ps_ost (pv 0) (pv 1)))), F.binds fun _ _ _ _ _ _ us hl => match us, hl with | [_, _], _ => rfl⟩

abbrev s_TakenName : Stmt := inClass (top 7) 0
theorem sc_TakenName : FnScope ["self", "name"] ["self", "name"] (defScope s_TakenName) := ⟨rfl, rfl, rfl, by decide +kernel, rfl, by decide +kernel, by decide +kernel⟩
theorem xm_TakenName {f C : Addr} {fd : FuncData} (F : Fun K "__init__" "TakenName.__init__" s_TakenName f fd) (T : OexC K C) (hm : mg "TakenName" = some (.ref C)) (iC : PySem.W.findIn K (.ref C) "__init__" = some (some (.ref f))) (tI : PySem.W.typeIn K (.ref f) = some (.type "function")) (n1 : PySem.W.findIn K (.ref C) "name" = some none) : XMk P w K mg base "TakenName" C ["name"] :=
  ⟨T, hm, f, fd, _, iC, tI, okX1 F sc_TakenName T n1 (fun cdv A outer s H E => (pss_one (ps_ost (pv 0) (pv 1)))), F.binds fun _ _ _ _ _ _ us hl => match us, hl with | [_, _], _ => rfl⟩

abbrev s_Unlike : Stmt := inClass (top 8) 0
theorem sc_Unlike : FnScope ["self", "what"] ["self", "what"] (defScope s_Unlike) := ⟨rfl, rfl, rfl, by decide +kernel, rfl, by decide +kernel, by decide +kernel⟩
theorem xm_Unlike {f C : Addr} {fd : FuncData} (F : Fun K "__init__" "Unlike.__init__" s_Unlike f fd) (T : OexC K C) (hm : mg "Unlike" = some (.ref C)) (iC : PySem.W.findIn K (.ref C) "__init__" = some (some (.ref f))) (tI : PySem.W.typeIn K (.ref f) = some (.type "function")) (n1 : PySem.W.findIn K (.ref C) "what" = some none) : XMk P w K mg base "Unlike" C ["what"] :=
  ⟨T, hm, f, fd, _, iC, tI, okX1 F sc_Unlike T n1 (fun cdv A outer s H E => (pss_one (ps_ost (pv 0) (pv 1)))), F.binds fun _ _ _ _ _ _ us hl => match us, hl with | [_, _], _ => rfl⟩

abbrev s_NotThere : Stmt := inClass (top 9) 0
theorem sc_NotThere : FnScope ["self", "what"] ["self", "what"] (defScope s_NotThere) := ⟨rfl, rfl, rfl, by decide +kernel, rfl, by decide +kernel, by decide +kernel⟩
theorem xm_NotThere {f C : Addr} {fd : FuncData} (F : Fun K "__init__" "NotThere.__init__" s_NotThere f fd) (T : OexC K C) (hm : mg "NotThere" = some (.ref C)) (iC : PySem.W.findIn K (.ref C) "__init__" = some (some (.ref f))) (tI : PySem.W.typeIn K (.ref f) = some (.type "function")) (n1 : PySem.W.findIn K (.ref C) "what" = some none) : XMk P w K mg base "NotThere" C ["what"] :=
  ⟨T, hm, f, fd, _, iC, tI, okX1 F sc_NotThere T n1 (fun cdv A outer s H E => (pss_one (ps_ost (pv 0) (pv 1)))), F.binds fun _ _ _ _ _ _ us hl => match us, hl with | [_, _], _ => rfl⟩

abbrev s_TooMany : Stmt := inClass (top 10) 0
theorem sc_TooMany : FnScope ["self", "what", "many", "limit"] ["self", "what", "many", "limit"] (defScope s_TooMany) := ⟨rfl, rfl, rfl, by decide +kernel, rfl, by decide +kernel, by decide +kernel⟩
theorem xm_TooMany {f C : Addr} {fd : FuncData} (F : Fun K "__init__" "TooMany.__init__" s_TooMany f fd) (T : OexC K C) (hm : mg "TooMany" = some (.ref C)) (iC : PySem.W.findIn K (.ref C) "__init__" = some (some (.ref f))) (tI : PySem.W.typeIn K (.ref f) = some (.type "function")) (n1 : PySem.W.findIn K (.ref C) "what" = some none) (n2 : PySem.W.findIn K (.ref C) "many" = some none) (n3 : PySem.W.findIn K (.ref C) "limit" = some none) : XMk P w K mg base "TooMany" C ["what", "many", "limit"] :=
  ⟨T, hm, f, fd, _, iC, tI, okX3 F sc_TooMany T n1 n2 n3 (fun cdv A outer s H E => (pss_cons (ps_ost (pv 0) (pv 1)) (pss_cons (ps_ost (pv 0) (pv 2)) (pss_one (ps_ost (pv 0) (pv 3)))))), F.binds fun _ _ _ _ _ _ us hl => match us, hl with | [_, _, _, _], _ => rfl⟩

abbrev s_NotKept : Stmt := inClass (top 11) 0
theorem sc_NotKept : FnScope ["self", "promise", "witness"] ["self", "promise", "witness"] (defScope s_NotKept) := ⟨rfl, rfl, rfl, by decide +kernel, rfl, by decide +kernel, by decide +kernel⟩
theorem xm_NotKept {f C : Addr} {fd : FuncData} (F : Fun K "__init__" "NotKept.__init__" s_NotKept f fd) (T : OexC K C) (hm : mg "NotKept" = some (.ref C)) (iC : PySem.W.findIn K (.ref C) "__init__" = some (some (.ref f))) (tI : PySem.W.typeIn K (.ref f) = some (.type "function")) (n1 : PySem.W.findIn K (.ref C) "promise" = some none) (n2 : PySem.W.findIn K (.ref C) "witness" = some none) : XMk P w K mg base "NotKept" C ["promise", "witness"] :=
  ⟨T, hm, f, fd, _, iC, tI, okX2 F sc_NotKept T n1 n2 (fun cdv A outer s H E => (pss_cons (ps_ost (pv 0) (pv 1)) (pss_one (ps_ost (pv 0) (pv 2))))), F.binds fun _ _ _ _ _ _ us hl => match us, hl with | [_, _, _], _ => rfl⟩

/-! _law_pen -/
abbrev s__law_pen : Stmt := top 15
abbrev n__law_pen : List Str := ["script", "fold", "cell"]
theorem sc__law_pen : FnScope n__law_pen ["script"] (defScope s__law_pen) := ⟨rfl, rfl, rfl, by decide +kernel, rfl, by decide +kernel, by decide +kernel⟩
def t__law_pen (K : PySem.W.Frag) (cl : Str → Addr) (Ew : XSw) : TSw :=
    (wSeq (wAsg (wC (.int 37)) (wgName 1))
    (wSeq (wFor (wIt (wVar 0)) (wgName 2)
    (wAsg (wOp wMod (wCB wIntOf (wCons (wOp wAdd (wOp wMulI (wVar 1) (wC (.int 137))) (wVar 2)) wNil)) (wC (.int 1000000439))) (wgName 1)))
    (wRet (wDisp [((wC (.str "cells")), (wCB wListOf (wCons (wVar 0) wNil))), ((wC (.str "at")), (wC (.int 0))), ((wC (.str "digits")), (wC (.int 0))), ((wC (.str "count")), (wC (.int 0))), ((wC (.str "fold")), (wVar 1))]))))
theorem d__law_pen (T : Txt P w K mg base cl) {f : Addr} : ∀ (cdv : Value) (A : Around) (outer : List Env) (s : Shared) (H : Hp) (E : XK) (Ew : XSw), RoomG false 0 (cxB P w K mg base n__law_pen "_law_pen" s__law_pen f cdv A outer s H E).A → TakesW (cxB P w K mg base n__law_pen "_law_pen" s__law_pen f cdv A outer s H E) Ew → WSs (cxB P w K mg base n__law_pen "_law_pen" s__law_pen f cdv A outer s H E) (defBody s__law_pen) (t__law_pen K cl Ew) :=
  fun cdv A outer s H E Ew hr tk =>
    have nd : n__law_pen.Nodup := sc__law_pen.nd
    (wss_cons (ws_set (i := 1) nd rfl (by first | exact .inl rfl | exact .inr rfl) we_int)
    (wss_cons (ws_for PassesOwn.leaving rfl (wi_it (wv 0)) (wg_name (i := 2) nd rfl (by first | exact .inl rfl | exact .inr rfl))
    (wss_one (ws_set (i := 1) nd rfl (by first | exact .inl rfl | exact .inr rfl) (we_op ow_mod (we_callTy cw_int (by rfl) T.b_int (by decide +kernel) (wa_cons (we_op ow_add (we_op ow_mulI (wv 1) we_int) (wv 2)) wa_nil)) we_int))))
    (wss_one (ws_ret (we_disp (wpps_cons we_str (we_callTy cw_list (by rfl) T.b_list (by decide +kernel) (wa_cons (wv 0) wa_nil)) (wpps_cons we_str we_int (wpps_cons we_str we_int (wpps_cons we_str we_int (wpps_cons we_str (wv 1) wpps_nil))))))))))

/-! _law_draw -/
abbrev s__law_draw : Stmt := top 16
abbrev n__law_draw : List Str := ["pen", "many", "cell", "digit", "blend"]
theorem sc__law_draw : FnScope n__law_draw ["pen", "many"] (defScope s__law_draw) := ⟨rfl, rfl, rfl, by decide +kernel, rfl, by decide +kernel, by decide +kernel⟩
def t__law_draw (K : PySem.W.Frag) (cl : Str → Addr) (Ew : XSw) : TSw :=
    (wSeq (wDPut (wVar 0) (wC (.str "count")) (wOp wAdd (wDGet (wVar 0) (wC (.str "count"))) (wC (.int 1))))
    (wSeq (wIfS (wAnd (wTest (wOp (wEqS true) (wDGet (wVar 0) (wC (.str "digits"))) (wC (.int 0)))) (wTest (wOp wLtI (wDGet (wVar 0) (wC (.str "at"))) (wCB wLen (wCons (wDGet (wVar 0) (wC (.str "cells"))) wNil)))))
    (wSeq (wAsg (wOp wIx (wDGet (wVar 0) (wC (.str "cells"))) (wDGet (wVar 0) (wC (.str "at")))) (wgName 2))
    (wSeq (wDPut (wVar 0) (wC (.str "at")) (wOp wAdd (wDGet (wVar 0) (wC (.str "at"))) (wC (.int 1))))
    (wIfS (wTest (wOp wGeI (wVar 2) (wOp wPow (wC (.int 10)) (wC (.int 18)))))
    (wDPut (wVar 0) (wC (.str "digits")) (wOp wSub (wVar 2) (wOp wPow (wC (.int 10)) (wC (.int 18)))))
    (wDPut (wVar 0) (wC (.str "fold")) (wOp wMod (wCB wIntOf (wCons (wOp wAdd (wOp wMulI (wDGet (wVar 0) (wC (.str "fold"))) (wC (.int 70079))) (wVar 2)) wNil)) (wC (.int 2147483237)))))))
    wNext)
    (wSeq (wIfS (wTest (wOp wGtI (wDGet (wVar 0) (wC (.str "digits"))) (wC (.int 0))))
    (wSeq (wAsg (wOp wMod (wCB wIntOf (wCons (wDGet (wVar 0) (wC (.str "digits"))) wNil)) (wVar 1)) (wgName 3))
    (wSeq (wDPut (wVar 0) (wC (.str "digits")) (wOp wDiv (wDGet (wVar 0) (wC (.str "digits"))) (wVar 1)))
    (wRet (wVar 3))))
    wNext)
    (wSeq (wAsg (wOp wAdd (wOp wAdd (wDGet (wVar 0) (wC (.str "fold"))) (wOp wMulI (wDGet (wVar 0) (wC (.str "count"))) (wC (.int 7993)))) (wC (.int 71))) (wgName 4))
    (wRet (wOp wMod (wOp wDiv (wCB wIntOf (wCons (wOp wMod (wOp wPow (wVar 4) (wC (.int 17))) (wC (.int 2305843009213693951))) wNil)) (wC (.int 128))) (wVar 1)))))))
theorem d__law_draw (T : Txt P w K mg base cl) {f : Addr} : ∀ (cdv : Value) (A : Around) (outer : List Env) (s : Shared) (H : Hp) (E : XK) (Ew : XSw), RoomG false 0 (cxB P w K mg base n__law_draw "_law_draw" s__law_draw f cdv A outer s H E).A → TakesW (cxB P w K mg base n__law_draw "_law_draw" s__law_draw f cdv A outer s H E) Ew → WSs (cxB P w K mg base n__law_draw "_law_draw" s__law_draw f cdv A outer s H E) (defBody s__law_draw) (t__law_draw K cl Ew) :=
  fun cdv A outer s H E Ew hr tk =>
    have nd : n__law_draw.Nodup := sc__law_draw.nd
    (wss_cons (ws_dput (huG hr) (wv 0) we_str (we_op ow_add (we_dget (huG hr) (wv 0) we_str) we_int))
    (wss_cons (ws_if (ww_and (wt_cmp ow_eqS (we_dget (huG hr) (wv 0) we_str) we_int (nomark _)) (ww_and1 (wt_cmp ow_ltI (we_dget (huG hr) (wv 0) we_str) (we_callB cw_len (by rfl) T.b_len (by decide +kernel) (wa_cons (we_dget (huG hr) (wv 0) we_str) wa_nil)) (nomark _)))).wt
    (wss_cons (ws_set (i := 2) nd rfl (by first | exact .inl rfl | exact .inr rfl) (we_ix iw_seq (we_dget (huG hr) (wv 0) we_str) (we_dget (huG hr) (wv 0) we_str) (fun _ _ => rfl)))
    (wss_cons (ws_dput (huG hr) (wv 0) we_str (we_op ow_add (we_dget (huG hr) (wv 0) we_str) we_int))
    (wss_one (ws_if (wt_cmp ow_geI (wv 2) (we_op ow_pow we_int we_int) (nomark _))
    (wss_one (ws_dput (huG hr) (wv 0) we_str (we_op ow_sub (wv 2) (we_op ow_pow we_int we_int))))
    (wss_one (ws_dput (huG hr) (wv 0) we_str (we_op ow_mod (we_callTy cw_int (by rfl) T.b_int (by decide +kernel) (wa_cons (we_op ow_add (we_op ow_mulI (we_dget (huG hr) (wv 0) we_str) we_int) (wv 2)) wa_nil)) we_int)))))))
    wss_nil)
    (wss_cons (ws_if (wt_cmp ow_gtI (we_dget (huG hr) (wv 0) we_str) we_int (nomark _))
    (wss_cons (ws_set (i := 3) nd rfl (by first | exact .inl rfl | exact .inr rfl) (we_op ow_mod (we_callTy cw_int (by rfl) T.b_int (by decide +kernel) (wa_cons (we_dget (huG hr) (wv 0) we_str) wa_nil)) (wv 1)))
    (wss_cons (ws_dput (huG hr) (wv 0) we_str (we_op ow_div (we_dget (huG hr) (wv 0) we_str) (wv 1)))
    (wss_one (ws_ret (wv 3)))))
    wss_nil)
    (wss_cons (ws_set (i := 4) nd rfl (by first | exact .inl rfl | exact .inr rfl) (we_op ow_add (we_op ow_add (we_dget (huG hr) (wv 0) we_str) (we_op ow_mulI (we_dget (huG hr) (wv 0) we_str) we_int)) we_int))
    (wss_one (ws_ret (we_op ow_mod (we_op ow_div (we_callTy cw_int (by rfl) T.b_int (by decide +kernel) (wa_cons (we_op ow_mod (we_op ow_pow (wv 4) we_int) we_int) wa_nil)) we_int) (wv 1))))))))

/-! _law_pick -/
abbrev s__law_pick : Stmt := top 17
abbrev n__law_pick : List Str := ["pen", "some"]
theorem sc__law_pick : FnScope n__law_pick ["pen", "some"] (defScope s__law_pick) := ⟨rfl, rfl, rfl, by decide +kernel, rfl, by decide +kernel, by decide +kernel⟩
def t__law_pick (K : PySem.W.Frag) (cl : Str → Addr) (Ew : XSw) : TSw :=
    (wRet (wOp wIx (wVar 1) (wCall (sp__law_draw) [] (wCons (wVar 0) (wCons (wCB wLen (wCons (wVar 1) wNil)) wNil)))))
theorem d__law_pick (T : Txt P w K mg base cl) (C__law_draw : Callee false P w K mg base 1 "_law_draw" ["pen", "many"] (sp__law_draw)) {f : Addr} : ∀ (cdv : Value) (A : Around) (outer : List Env) (s : Shared) (H : Hp) (E : XK) (Ew : XSw), RoomG false 1 (cxB P w K mg base n__law_pick "_law_pick" s__law_pick f cdv A outer s H E).A → TakesW (cxB P w K mg base n__law_pick "_law_pick" s__law_pick f cdv A outer s H E) Ew → WSs (cxB P w K mg base n__law_pick "_law_pick" s__law_pick f cdv A outer s H E) (defBody s__law_pick) (t__law_pick K cl Ew) :=
  fun cdv A outer s H E Ew hr tk =>
    have nd : n__law_pick.Nodup := sc__law_pick.nd
    (wss_one (ws_ret (we_ix iw_seq (wv 1) (C__law_draw.we (hr.mono (by decide)) (by rfl) (wa_cons (wv 0) (wa_cons (we_callB cw_len (by rfl) T.b_len (by decide +kernel) (wa_cons (wv 1) wa_nil)) wa_nil))) (fun _ _ => rfl))))

/-! _law_value -/
abbrev s__law_value : Stmt := top 18
abbrev n__law_value : List Str := ["pen"]
theorem sc__law_value : FnScope n__law_value ["pen"] (defScope s__law_value) := ⟨rfl, rfl, rfl, by decide +kernel, rfl, by decide +kernel, by decide +kernel⟩
def t__law_value (K : PySem.W.Frag) (cl : Str → Addr) (Ew : XSw) : TSw :=
    (wRet (wCall (sp__law_pick) [] (wCons (wVar 0) (wCons (wLst (wCons (wC (.str "")) (wCons (wC (.str "a")) (wCons (wC (.int 0)) (wCons (wNeg (wC (.int 1))) (wCons (wC (.bl true)) (wCons (wC .non) (wCons (wTup wNil) (wCons (wTup (wCons (wC (.str "a")) (wCons (wC (.int 1)) wNil))) (wCons (wLst (wCons (wC (.int 1)) (wCons (wC (.str "b")) wNil))) (wCons (wLst wNil) (wCons (wOp wPow40 (wC (.int 10)) (wC (.int 40))) (wCons (wTup (wCons (wTup (wCons (wC (.str "x")) (wCons (wC (.int 2)) wNil))) (wCons (wC .non) wNil))) wNil))))))))))))) wNil))))
theorem d__law_value (T : Txt P w K mg base cl) (C__law_pick : Callee false P w K mg base 2 "_law_pick" ["pen", "some"] (sp__law_pick)) {f : Addr} : ∀ (cdv : Value) (A : Around) (outer : List Env) (s : Shared) (H : Hp) (E : XK) (Ew : XSw), RoomG false 2 (cxB P w K mg base n__law_value "_law_value" s__law_value f cdv A outer s H E).A → TakesW (cxB P w K mg base n__law_value "_law_value" s__law_value f cdv A outer s H E) Ew → WSs (cxB P w K mg base n__law_value "_law_value" s__law_value f cdv A outer s H E) (defBody s__law_value) (t__law_value K cl Ew) :=
  fun cdv A outer s H E Ew hr tk =>
    have nd : n__law_value.Nodup := sc__law_value.nd
    (wss_one (ws_ret (C__law_pick.we (hr.mono (by decide)) (by rfl) (wa_cons (wv 0) (wa_cons (we_lst (wa_cons we_str (wa_cons we_str (wa_cons we_int (wa_cons (we_neg we_int) (wa_cons we_bl (wa_cons we_non (wa_cons (we_tup wa_nil) (wa_cons (we_tup (wa_cons we_str (wa_cons we_int wa_nil))) (wa_cons (we_lst (wa_cons we_int (wa_cons we_str wa_nil))) (wa_cons (we_lst wa_nil) (wa_cons (we_op ow_pow40 we_int we_int) (wa_cons (we_tup (wa_cons (we_tup (wa_cons we_str (wa_cons we_int wa_nil))) (wa_cons we_non wa_nil))) wa_nil))))))))))))) wa_nil)))))

/-! _law_fields -/
abbrev s__law_fields : Stmt := top 19
abbrev n__law_fields : List Str := ["one", "names", "found", "name"]
theorem sc__law_fields : FnScope n__law_fields ["one", "names"] (defScope s__law_fields) := ⟨rfl, rfl, rfl, by decide +kernel, rfl, by decide +kernel, by decide +kernel⟩
def t__law_fields (K : PySem.W.Frag) (cl : Str → Addr) (Ew : XSw) : TSw :=
    (wSeq (wAsg (wLst wNil) (wgName 2))
    (wSeq (wFor (wIt (wVar 1)) (wgName 3)
    (wIfS (wTest (wOp (wEqS true) (wVar 3) (wC (.str "line"))))
    (wDrop (wBM "list" wAppend (wVar 2) (wCons (wXf K "line" (wVar 0)) wNil)))
    (wIfS (wTest (wOp (wEqS true) (wVar 3) (wC (.str "word"))))
    (wDrop (wBM "list" wAppend (wVar 2) (wCons (wXf K "word" (wVar 0)) wNil)))
    (wIfS (wTest (wOp (wEqS true) (wVar 3) (wC (.str "name"))))
    (wDrop (wBM "list" wAppend (wVar 2) (wCons (wXf K "name" (wVar 0)) wNil)))
    (wIfS (wTest (wOp (wEqS true) (wVar 3) (wC (.str "what"))))
    (wDrop (wBM "list" wAppend (wVar 2) (wCons (wXf K "what" (wVar 0)) wNil)))
    (wIfS (wTest (wOp (wEqS true) (wVar 3) (wC (.str "number"))))
    (wDrop (wBM "list" wAppend (wVar 2) (wCons (wXf K "number" (wVar 0)) wNil)))
    (wIfS (wTest (wOp (wEqS true) (wVar 3) (wC (.str "row"))))
    (wDrop (wBM "list" wAppend (wVar 2) (wCons (wXf K "row" (wVar 0)) wNil)))
    (wIfS (wTest (wOp (wEqS true) (wVar 3) (wC (.str "many"))))
    (wDrop (wBM "list" wAppend (wVar 2) (wCons (wXf K "many" (wVar 0)) wNil)))
    (wIfS (wTest (wOp (wEqS true) (wVar 3) (wC (.str "limit"))))
    (wDrop (wBM "list" wAppend (wVar 2) (wCons (wXf K "limit" (wVar 0)) wNil)))
    (wIfS (wTest (wOp (wEqS true) (wVar 3) (wC (.str "promise"))))
    (wDrop (wBM "list" wAppend (wVar 2) (wCons (wXf K "promise" (wVar 0)) wNil)))
    (wDrop (wBM "list" wAppend (wVar 2) (wCons (wXf K "witness" (wVar 0)) wNil)))))))))))))
    (wRet (wVar 2))))
theorem d__law_fields (T : Txt P w K mg base cl) {f : Addr} : ∀ (cdv : Value) (A : Around) (outer : List Env) (s : Shared) (H : Hp) (E : XK) (Ew : XSw), RoomG false 0 (cxB P w K mg base n__law_fields "_law_fields" s__law_fields f cdv A outer s H E).A → TakesW (cxB P w K mg base n__law_fields "_law_fields" s__law_fields f cdv A outer s H E) Ew → WSs (cxB P w K mg base n__law_fields "_law_fields" s__law_fields f cdv A outer s H E) (defBody s__law_fields) (t__law_fields K cl Ew) :=
  fun cdv A outer s H E Ew hr tk =>
    have nd : n__law_fields.Nodup := sc__law_fields.nd
    (wss_cons (ws_set (i := 2) nd rfl (by first | exact .inl rfl | exact .inr rfl) (we_lst wa_nil))
    (wss_cons (ws_for PassesOwn.leaving rfl (wi_it (wv 1)) (wg_name (i := 3) nd rfl (by first | exact .inl rfl | exact .inr rfl))
    (wss_one (ws_if (wt_cmp ow_eqS (wv 3) we_str (nomark _))
    (wss_one (ws_expr (we_bm PySem.F.plainAttrs_list PySem.F.slot_list_append PySem.F.type_list_append mw_append (wv 2) (wa_cons (we_xf (wv 0)) wa_nil))))
    (wss_one (ws_if (wt_cmp ow_eqS (wv 3) we_str (nomark _))
    (wss_one (ws_expr (we_bm PySem.F.plainAttrs_list PySem.F.slot_list_append PySem.F.type_list_append mw_append (wv 2) (wa_cons (we_xf (wv 0)) wa_nil))))
    (wss_one (ws_if (wt_cmp ow_eqS (wv 3) we_str (nomark _))
    (wss_one (ws_expr (we_bm PySem.F.plainAttrs_list PySem.F.slot_list_append PySem.F.type_list_append mw_append (wv 2) (wa_cons (we_xf (wv 0)) wa_nil))))
    (wss_one (ws_if (wt_cmp ow_eqS (wv 3) we_str (nomark _))
    (wss_one (ws_expr (we_bm PySem.F.plainAttrs_list PySem.F.slot_list_append PySem.F.type_list_append mw_append (wv 2) (wa_cons (we_xf (wv 0)) wa_nil))))
    (wss_one (ws_if (wt_cmp ow_eqS (wv 3) we_str (nomark _))
    (wss_one (ws_expr (we_bm PySem.F.plainAttrs_list PySem.F.slot_list_append PySem.F.type_list_append mw_append (wv 2) (wa_cons (we_xf (wv 0)) wa_nil))))
    (wss_one (ws_if (wt_cmp ow_eqS (wv 3) we_str (nomark _))
    (wss_one (ws_expr (we_bm PySem.F.plainAttrs_list PySem.F.slot_list_append PySem.F.type_list_append mw_append (wv 2) (wa_cons (we_xf (wv 0)) wa_nil))))
    (wss_one (ws_if (wt_cmp ow_eqS (wv 3) we_str (nomark _))
    (wss_one (ws_expr (we_bm PySem.F.plainAttrs_list PySem.F.slot_list_append PySem.F.type_list_append mw_append (wv 2) (wa_cons (we_xf (wv 0)) wa_nil))))
    (wss_one (ws_if (wt_cmp ow_eqS (wv 3) we_str (nomark _))
    (wss_one (ws_expr (we_bm PySem.F.plainAttrs_list PySem.F.slot_list_append PySem.F.type_list_append mw_append (wv 2) (wa_cons (we_xf (wv 0)) wa_nil))))
    (wss_one (ws_if (wt_cmp ow_eqS (wv 3) we_str (nomark _))
    (wss_one (ws_expr (we_bm PySem.F.plainAttrs_list PySem.F.slot_list_append PySem.F.type_list_append mw_append (wv 2) (wa_cons (we_xf (wv 0)) wa_nil))))
    (wss_one (ws_expr (we_bm PySem.F.plainAttrs_list PySem.F.slot_list_append PySem.F.type_list_append mw_append (wv 2) (wa_cons (we_xf (wv 0)) wa_nil)))))))))))))))))))))))
    (wss_one (ws_ret (wv 2)))))

/-! _law_made_errors -/
abbrev s__law_made_errors : Stmt := top 20
abbrev n__law_made_errors : List Str := ["one", "two", "three", "rows"]
theorem sc__law_made_errors : FnScope n__law_made_errors ["one", "two", "three"] (defScope s__law_made_errors) := ⟨rfl, rfl, rfl, by decide +kernel, rfl, by decide +kernel, by decide +kernel⟩
def t__law_made_errors (K : PySem.W.Frag) (cl : Str → Addr) (Ew : XSw) : TSw :=
    (wSeq (wAsg (wLst (wCons (wTup (wCons (wMkx (cl "BadText") ["line", "word"] (wCons (wVar 0) (wCons (wVar 1) wNil))) (wCons (wLst (wCons (wC (.str "line")) (wCons (wC (.str "word")) wNil))) wNil))) (wCons (wTup (wCons (wMkx (cl "BadName") ["name"] (wCons (wVar 0) wNil)) (wCons (wLst (wCons (wC (.str "name")) wNil)) wNil))) (wCons (wTup (wCons (wMkx (cl "BadNumber") ["what", "number"] (wCons (wVar 0) (wCons (wVar 1) wNil))) (wCons (wLst (wCons (wC (.str "what")) (wCons (wC (.str "number")) wNil))) wNil))) wNil)))) (wgName 3))
    (wSeq (wAsg (wOp wAdd (wVar 3) (wLst (wCons (wTup (wCons (wMkx (cl "BadRow") ["what", "row"] (wCons (wVar 0) (wCons (wVar 1) wNil))) (wCons (wLst (wCons (wC (.str "what")) (wCons (wC (.str "row")) wNil))) wNil))) (wCons (wTup (wCons (wMkx (cl "NoName") ["name"] (wCons (wVar 0) wNil)) (wCons (wLst (wCons (wC (.str "name")) wNil)) wNil))) (wCons (wTup (wCons (wMkx (cl "TakenName") ["name"] (wCons (wVar 0) wNil)) (wCons (wLst (wCons (wC (.str "name")) wNil)) wNil))) wNil))))) (wgName 3))
    (wSeq (wAsg (wOp wAdd (wVar 3) (wLst (wCons (wTup (wCons (wMkx (cl "Unlike") ["what"] (wCons (wVar 0) wNil)) (wCons (wLst (wCons (wC (.str "what")) wNil)) wNil))) (wCons (wTup (wCons (wMkx (cl "NotThere") ["what"] (wCons (wVar 0) wNil)) (wCons (wLst (wCons (wC (.str "what")) wNil)) wNil))) (wCons (wTup (wCons (wMkx (cl "TooMany") ["what", "many", "limit"] (wCons (wVar 0) (wCons (wVar 1) (wCons (wVar 2) wNil)))) (wCons (wLst (wCons (wC (.str "what")) (wCons (wC (.str "many")) (wCons (wC (.str "limit")) wNil)))) wNil))) wNil))))) (wgName 3))
    (wRet (wOp wAdd (wVar 3) (wLst (wCons (wTup (wCons (wMkx (cl "NotKept") ["promise", "witness"] (wCons (wVar 0) (wCons (wVar 1) wNil))) (wCons (wLst (wCons (wC (.str "promise")) (wCons (wC (.str "witness")) wNil))) wNil))) wNil)))))))
theorem d__law_made_errors (T : Txt P w K mg base cl) {f : Addr} : ∀ (cdv : Value) (A : Around) (outer : List Env) (s : Shared) (H : Hp) (E : XK) (Ew : XSw), RoomG false 2 (cxB P w K mg base n__law_made_errors "_law_made_errors" s__law_made_errors f cdv A outer s H E).A → TakesW (cxB P w K mg base n__law_made_errors "_law_made_errors" s__law_made_errors f cdv A outer s H E) Ew → WSs (cxB P w K mg base n__law_made_errors "_law_made_errors" s__law_made_errors f cdv A outer s H E) (defBody s__law_made_errors) (t__law_made_errors K cl Ew) :=
  fun cdv A outer s H E Ew hr tk =>
    have nd : n__law_made_errors.Nodup := sc__law_made_errors.nd
    (wss_cons (ws_set (i := 3) nd rfl (by first | exact .inl rfl | exact .inr rfl) (we_lst (wa_cons (we_tup (wa_cons (we_mkx T.x_BadText (hr.mono (by decide)) (by rfl) (wa_cons (wv 0) (wa_cons (wv 1) wa_nil))) (wa_cons (we_lst (wa_cons we_str (wa_cons we_str wa_nil))) wa_nil))) (wa_cons (we_tup (wa_cons (we_mkx T.x_BadName (hr.mono (by decide)) (by rfl) (wa_cons (wv 0) wa_nil)) (wa_cons (we_lst (wa_cons we_str wa_nil)) wa_nil))) (wa_cons (we_tup (wa_cons (we_mkx T.x_BadNumber (hr.mono (by decide)) (by rfl) (wa_cons (wv 0) (wa_cons (wv 1) wa_nil))) (wa_cons (we_lst (wa_cons we_str (wa_cons we_str wa_nil))) wa_nil))) wa_nil)))))
    (wss_cons (ws_set (i := 3) nd rfl (by first | exact .inl rfl | exact .inr rfl) (we_op ow_add (wv 3) (we_lst (wa_cons (we_tup (wa_cons (we_mkx T.x_BadRow (hr.mono (by decide)) (by rfl) (wa_cons (wv 0) (wa_cons (wv 1) wa_nil))) (wa_cons (we_lst (wa_cons we_str (wa_cons we_str wa_nil))) wa_nil))) (wa_cons (we_tup (wa_cons (we_mkx T.x_NoName (hr.mono (by decide)) (by rfl) (wa_cons (wv 0) wa_nil)) (wa_cons (we_lst (wa_cons we_str wa_nil)) wa_nil))) (wa_cons (we_tup (wa_cons (we_mkx T.x_TakenName (hr.mono (by decide)) (by rfl) (wa_cons (wv 0) wa_nil)) (wa_cons (we_lst (wa_cons we_str wa_nil)) wa_nil))) wa_nil))))))
    (wss_cons (ws_set (i := 3) nd rfl (by first | exact .inl rfl | exact .inr rfl) (we_op ow_add (wv 3) (we_lst (wa_cons (we_tup (wa_cons (we_mkx T.x_Unlike (hr.mono (by decide)) (by rfl) (wa_cons (wv 0) wa_nil)) (wa_cons (we_lst (wa_cons we_str wa_nil)) wa_nil))) (wa_cons (we_tup (wa_cons (we_mkx T.x_NotThere (hr.mono (by decide)) (by rfl) (wa_cons (wv 0) wa_nil)) (wa_cons (we_lst (wa_cons we_str wa_nil)) wa_nil))) (wa_cons (we_tup (wa_cons (we_mkx T.x_TooMany (hr.mono (by decide)) (by rfl) (wa_cons (wv 0) (wa_cons (wv 1) (wa_cons (wv 2) wa_nil)))) (wa_cons (we_lst (wa_cons we_str (wa_cons we_str (wa_cons we_str wa_nil)))) wa_nil))) wa_nil))))))
    (wss_one (ws_ret (we_op ow_add (wv 3) (we_lst (wa_cons (we_tup (wa_cons (we_mkx T.x_NotKept (hr.mono (by decide)) (by rfl) (wa_cons (wv 0) (wa_cons (wv 1) wa_nil))) (wa_cons (we_lst (wa_cons we_str (wa_cons we_str wa_nil))) wa_nil))) wa_nil))))))))

/-! _law_kinds -/
abbrev s__law_kinds : Stmt := top 21
abbrev n__law_kinds : List Str := ["one", "found"]
theorem sc__law_kinds : FnScope n__law_kinds ["one"] (defScope s__law_kinds) := ⟨rfl, rfl, rfl, by decide +kernel, rfl, by decide +kernel, by decide +kernel⟩
def t__law_kinds (K : PySem.W.Frag) (cl : Str → Addr) (Ew : XSw) : TSw :=
    (wSeq (wAsg (wLst (wCons (wCB (wIsi K) (wCons (wVar 0) (wCons (wC (.ref (cl "BadText"))) wNil))) (wCons (wCB (wIsi K) (wCons (wVar 0) (wCons (wC (.ref (cl "BadName"))) wNil))) (wCons (wCB (wIsi K) (wCons (wVar 0) (wCons (wC (.ref (cl "BadNumber"))) wNil))) (wCons (wCB (wIsi K) (wCons (wVar 0) (wCons (wC (.ref (cl "BadRow"))) wNil))) wNil))))) (wgName 1))
    (wSeq (wAsg (wOp wAdd (wVar 1) (wLst (wCons (wCB (wIsi K) (wCons (wVar 0) (wCons (wC (.ref (cl "NoName"))) wNil))) (wCons (wCB (wIsi K) (wCons (wVar 0) (wCons (wC (.ref (cl "TakenName"))) wNil))) (wCons (wCB (wIsi K) (wCons (wVar 0) (wCons (wC (.ref (cl "Unlike"))) wNil))) (wCons (wCB (wIsi K) (wCons (wVar 0) (wCons (wC (.ref (cl "NotThere"))) wNil))) wNil)))))) (wgName 1))
    (wSeq (wAsg (wOp wAdd (wVar 1) (wLst (wCons (wCB (wIsi K) (wCons (wVar 0) (wCons (wC (.ref (cl "TooMany"))) wNil))) (wCons (wCB (wIsi K) (wCons (wVar 0) (wCons (wC (.ref (cl "NotKept"))) wNil))) (wCons (wCB (wIsi K) (wCons (wVar 0) (wCons (wC (.ref (cl "NothingToUndo"))) wNil))) wNil))))) (wgName 1))
    (wRet (wOp wAdd (wVar 1) (wLst (wCons (wCB (wIsi K) (wCons (wVar 0) (wCons (wC (.ref (cl "NothingToRedo"))) wNil))) wNil)))))))
theorem d__law_kinds (T : Txt P w K mg base cl) {f : Addr} : ∀ (cdv : Value) (A : Around) (outer : List Env) (s : Shared) (H : Hp) (E : XK) (Ew : XSw), RoomG false 0 (cxB P w K mg base n__law_kinds "_law_kinds" s__law_kinds f cdv A outer s H E).A → TakesW (cxB P w K mg base n__law_kinds "_law_kinds" s__law_kinds f cdv A outer s H E) Ew → WSs (cxB P w K mg base n__law_kinds "_law_kinds" s__law_kinds f cdv A outer s H E) (defBody s__law_kinds) (t__law_kinds K cl Ew) :=
  fun cdv A outer s H E Ew hr tk =>
    have nd : n__law_kinds.Nodup := sc__law_kinds.nd
    (wss_cons (ws_set (i := 1) nd rfl (by first | exact .inl rfl | exact .inr rfl) (we_lst (wa_cons (we_callB cw_isi (by rfl) T.b_isinstance (by decide +kernel) (wa_cons (wv 0) (wa_cons (we_gref (by rfl) T.m_BadText) wa_nil))) (wa_cons (we_callB cw_isi (by rfl) T.b_isinstance (by decide +kernel) (wa_cons (wv 0) (wa_cons (we_gref (by rfl) T.m_BadName) wa_nil))) (wa_cons (we_callB cw_isi (by rfl) T.b_isinstance (by decide +kernel) (wa_cons (wv 0) (wa_cons (we_gref (by rfl) T.m_BadNumber) wa_nil))) (wa_cons (we_callB cw_isi (by rfl) T.b_isinstance (by decide +kernel) (wa_cons (wv 0) (wa_cons (we_gref (by rfl) T.m_BadRow) wa_nil))) wa_nil))))))
    (wss_cons (ws_set (i := 1) nd rfl (by first | exact .inl rfl | exact .inr rfl) (we_op ow_add (wv 1) (we_lst (wa_cons (we_callB cw_isi (by rfl) T.b_isinstance (by decide +kernel) (wa_cons (wv 0) (wa_cons (we_gref (by rfl) T.m_NoName) wa_nil))) (wa_cons (we_callB cw_isi (by rfl) T.b_isinstance (by decide +kernel) (wa_cons (wv 0) (wa_cons (we_gref (by rfl) T.m_TakenName) wa_nil))) (wa_cons (we_callB cw_isi (by rfl) T.b_isinstance (by decide +kernel) (wa_cons (wv 0) (wa_cons (we_gref (by rfl) T.m_Unlike) wa_nil))) (wa_cons (we_callB cw_isi (by rfl) T.b_isinstance (by decide +kernel) (wa_cons (wv 0) (wa_cons (we_gref (by rfl) T.m_NotThere) wa_nil))) wa_nil)))))))
    (wss_cons (ws_set (i := 1) nd rfl (by first | exact .inl rfl | exact .inr rfl) (we_op ow_add (wv 1) (we_lst (wa_cons (we_callB cw_isi (by rfl) T.b_isinstance (by decide +kernel) (wa_cons (wv 0) (wa_cons (we_gref (by rfl) T.m_TooMany) wa_nil))) (wa_cons (we_callB cw_isi (by rfl) T.b_isinstance (by decide +kernel) (wa_cons (wv 0) (wa_cons (we_gref (by rfl) T.m_NotKept) wa_nil))) (wa_cons (we_callB cw_isi (by rfl) T.b_isinstance (by decide +kernel) (wa_cons (wv 0) (wa_cons (we_gref (by rfl) T.m_NothingToUndo) wa_nil))) wa_nil))))))
    (wss_one (ws_ret (we_op ow_add (wv 1) (we_lst (wa_cons (we_callB cw_isi (by rfl) T.b_isinstance (by decide +kernel) (wa_cons (wv 0) (wa_cons (we_gref (by rfl) T.m_NothingToRedo) wa_nil))) wa_nil))))))))

/-! law -/
abbrev s_law : Stmt := top 22
abbrev n_law : List Str := ["script", "pen", "values", "at", "made", "one", "names", "due", "place", "kept", "last", "found", "told"]
theorem sc_law : FnScope n_law ["script"] (defScope s_law) := ⟨rfl, rfl, rfl, by decide +kernel, rfl, by decide +kernel, by decide +kernel⟩
def t_law (K : PySem.W.Frag) (cl : Str → Addr) (Ew : XSw) : TSw :=
    (wSeq (wAsg (wCall (sp__law_pen) [] (wCons (wVar 0) wNil)) (wgName 1))
    (wSeq (wAsg (wLst (wCons (wCall (sp__law_value) [] (wCons (wVar 1) wNil)) (wCons (wCall (sp__law_value) [] (wCons (wVar 1) wNil)) (wCons (wCall (sp__law_value) [] (wCons (wVar 1) wNil)) wNil)))) (wgName 2))
    (wSeq (wFor (wEnum (wCons (wOp wAdd (wCall (sp__law_made_errors cl) [] (wCons (wOp wIx (wVar 2) (wC (.int 0))) (wCons (wOp wIx (wVar 2) (wC (.int 1))) (wCons (wOp wIx (wVar 2) (wC (.int 2))) wNil)))) (wLst (wCons (wTup (wCons (wMkx0 (cl "NothingToUndo")) (wCons (wLst wNil) wNil))) (wCons (wTup (wCons (wMkx0 (cl "NothingToRedo")) (wCons (wLst wNil) wNil))) wNil)))) wNil)) (wgTup 2 (wgCons (wgName 3) (wgCons (wgName 4) wgNil)))
    (wSeq (wAsg (wVar 4) (wgTup 2 (wgCons (wgName 5) (wgCons (wgName 6) wgNil))))
    (wSeq (wIfS (wOr (wNot (wTest (wCB (wIsi K) (wCons (wVar 5) (wCons (wC (.ref (cl "DeedsError"))) wNil))))) (wNot (wTest (wCB (wIsi K) (wCons (wVar 5) (wCons (wC (.ty "ValueError")) wNil))))))
    (wRet (wC (.bl false)))
    wNext)
    (wSeq (wAsg (wSl (wVar 2) wNoPart (wPart (wCB wLen (wCons (wVar 6) wNil)))) (wgName 7))
    (wSeq (wIfS (wTest (wOp (wEqS false) (wCB wRepr (wCons (wCall (sp__law_fields K) [] (wCons (wVar 5) (wCons (wVar 6) wNil))) wNil)) (wCB wRepr (wCons (wVar 7) wNil))))
    (wRet (wC (.bl false)))
    wNext)
    (wIfS (wTest (wOp (wEqD false) (wCall (sp__law_kinds K cl) [] (wCons (wVar 5) wNil)) (wLc (wRng1 (wCons (wC (.int 12)) wNil)) (wgName 8) wYes (wOp (wEqS true) (wVar 8) (wVar 3)) [8])))
    (wRet (wC (.bl false)))
    wNext))))))
    (wSeq (wAsg (wLst (wCons (wC (.int 1)) (wCons (wLst (wCons (wC (.int 2)) wNil)) wNil))) (wgName 9))
    (wSeq (wAsg (wMkx (cl "BadRow") ["what", "row"] (wCons (wC (.str "x")) (wCons (wVar 9) wNil))) (wgName 10))
    (wSeq (wDrop (wBM "list" wAppend (wVar 9) (wCons (wC (.int 3)) wNil)))
    (wSeq (wIfS (wTest (wOp (wEqD false) (wXf K "row" (wVar 10)) (wLst (wCons (wC (.int 1)) (wCons (wLst (wCons (wC (.int 2)) wNil)) (wCons (wC (.int 3)) wNil))))))
    (wRet (wC (.bl false)))
    wNext)
    (wSeq (wAsg (wLst wNil) (wgName 11))
    (wSeq (wTry (fun C => PySem.W.exmOne K (.ref C) (.ref (cl "DeedsError"))) 12 (fun Ew => (wRaise (cl "NotThere") ["what"] (wCons (wLst (wCons (wC (.int 1)) (wCons (wLst (wCons (wC (.int 2)) wNil)) (wCons (wC (.int 3)) wNil)))) wNil) Ew))
    (fun xa xC xd => (wDrop (wBM "list" wAppend (wVar 11) (wCons (wAndV (wCB (wIsS K xa xC xd) (wCons (wVar 12) (wCons (wC (.ty "ValueError")) wNil))) (wAndV (wCB (wIsS K xa xC xd) (wCons (wVar 12) (wCons (wC (.ref (cl "NotThere"))) wNil))) (wOp (wEqD true) (wSf K xa xC xd "what" (wVar 12)) (wLst (wCons (wC (.int 1)) (wCons (wLst (wCons (wC (.int 2)) wNil)) (wCons (wC (.int 3)) wNil))))))) wNil)))) Ew)
    (wRet (wOp (wEqD true) (wVar 11) (wLst (wCons (wC (.bl true)) wNil)))))))))))))
theorem d_law (T : Txt P w K mg base cl) (C__law_fields : Callee true P w K mg base 1 "_law_fields" ["one", "names"] (sp__law_fields K)) (C__law_kinds : Callee true P w K mg base 1 "_law_kinds" ["one"] (sp__law_kinds K cl)) (C__law_made_errors : Callee true P w K mg base 3 "_law_made_errors" ["one", "two", "three"] (sp__law_made_errors cl)) (C__law_pen : Callee true P w K mg base 1 "_law_pen" ["script"] (sp__law_pen)) (C__law_value : Callee true P w K mg base 3 "_law_value" ["pen"] (sp__law_value)) {f : Addr} : ∀ (cdv : Value) (A : Around) (outer : List Env) (s : Shared) (H : Hp) (E : XK) (Ew : XSw), RoomG true 3 (cxB P w K mg base n_law "law" s_law f cdv A outer s H E).A → TakesW (cxB P w K mg base n_law "law" s_law f cdv A outer s H E) Ew → WSs (cxB P w K mg base n_law "law" s_law f cdv A outer s H E) (defBody s_law) (t_law K cl Ew) :=
  fun cdv A outer s H E Ew hr tk =>
    have nd : n_law.Nodup := sc_law.nd
    (wss_cons (ws_set (i := 1) nd rfl (by first | exact .inl rfl | exact .inr rfl) (C__law_pen.we (hr.mono (by decide)) (by rfl) (wa_cons (wv 0) wa_nil)))
    (wss_cons (ws_set (i := 2) nd rfl (by first | exact .inl rfl | exact .inr rfl) (we_lst (wa_cons (C__law_value.we (hr.mono (by decide)) (by rfl) (wa_cons (wv 1) wa_nil)) (wa_cons (C__law_value.we (hr.mono (by decide)) (by rfl) (wa_cons (wv 1) wa_nil)) (wa_cons (C__law_value.we (hr.mono (by decide)) (by rfl) (wa_cons (wv 1) wa_nil)) wa_nil)))))
    (wss_cons (ws_for PassesOwn.leaving rfl (wi_enum (by rfl) T.b_enumerate (wa_cons (we_op ow_add (C__law_made_errors.we (hr.mono (by decide)) (by rfl) (wa_cons (we_ix iw_seq (wv 2) we_int (fun _ _ => rfl)) (wa_cons (we_ix iw_seq (wv 2) we_int (fun _ _ => rfl)) (wa_cons (we_ix iw_seq (wv 2) we_int (fun _ _ => rfl)) wa_nil)))) (we_lst (wa_cons (we_tup (wa_cons (we_mkx0 T.x_NothingToUndo (by rfl)) (wa_cons (we_lst wa_nil) wa_nil))) (wa_cons (we_tup (wa_cons (we_mkx0 T.x_NothingToRedo (by rfl)) (wa_cons (we_lst wa_nil) wa_nil))) wa_nil)))) wa_nil)) (wg_tup rfl (wgs_cons (wg_name (i := 3) nd rfl (by first | exact .inl rfl | exact .inr rfl)) (wgs_cons (wg_name (i := 4) nd rfl (by first | exact .inl rfl | exact .inr rfl)) wgs_nil)))
    (wss_cons (ws_asg (wv 4) (wg_tup rfl (wgs_cons (wg_name (i := 5) nd rfl (by first | exact .inl rfl | exact .inr rfl)) (wgs_cons (wg_name (i := 6) nd rfl (by first | exact .inl rfl | exact .inr rfl)) wgs_nil))))
    (wss_cons (ws_if (ww_or (wt_not (wt_val (we_callB cw_isi (by rfl) T.b_isinstance (by decide +kernel) (wa_cons (wv 5) (wa_cons (we_gref (by rfl) T.m_DeedsError) wa_nil))))) (ww_or1 (wt_not (wt_val (we_callB cw_isi (by rfl) T.b_isinstance (by decide +kernel) (wa_cons (wv 5) (wa_cons (we_ty (by rfl) T.b_ValueError (by decide +kernel)) wa_nil))))))).wt
    (wss_one (ws_ret we_bl))
    wss_nil)
    (wss_cons (ws_set (i := 7) nd rfl (by first | exact .inl rfl | exact .inr rfl) (we_slice (wv 2) wp_none (wp_some (we_callB cw_len (by rfl) T.b_len (by decide +kernel) (wa_cons (wv 6) wa_nil)))))
    (wss_cons (ws_if (wt_cmp ow_neS (we_callB (cw_repr hr.units (hr.gd rfl)) (by rfl) T.b_repr (by decide +kernel) (wa_cons (C__law_fields.we (hr.mono (by decide)) (by rfl) (wa_cons (wv 5) (wa_cons (wv 6) wa_nil))) wa_nil)) (we_callB (cw_repr hr.units (hr.gd rfl)) (by rfl) T.b_repr (by decide +kernel) (wa_cons (wv 7) wa_nil)) (nomark _))
    (wss_one (ws_ret we_bl))
    wss_nil)
    (wss_one (ws_if (wt_cmp (ow_neD hr.units) (C__law_kinds.we (hr.mono (by decide)) (by rfl) (wa_cons (wv 5) wa_nil)) (we_lc (own := [("place", 8)]) rfl nd (wi_range1 (by rfl) T.b_range (wa_cons we_int wa_nil)) (blkOk_by (own := [("place", 8)]) (N := n_law) (sc := defScope s_law) (by decide +kernel)) (fun _ _ _ _ _ => (wgc_name (i := 8) (by decide) nd rfl (by first | exact .inl rfl | exact .inr rfl))) (fun _ _ _ _ _ => wts_nil) (fun _ _ _ _ _ => (we_cmp ow_eqS (wv 8) (wv 3) (nomark _)))) (nomark _))
    (wss_one (ws_ret we_bl))
    wss_nil)))))))
    (wss_cons (ws_set (i := 9) nd rfl (by first | exact .inl rfl | exact .inr rfl) (we_lst (wa_cons we_int (wa_cons (we_lst (wa_cons we_int wa_nil)) wa_nil))))
    (wss_cons (ws_set (i := 10) nd rfl (by first | exact .inl rfl | exact .inr rfl) (we_mkx T.x_BadRow (hr.mono (by decide)) (by rfl) (wa_cons we_str (wa_cons (wv 9) wa_nil))))
    (wss_cons (ws_expr (we_bm PySem.F.plainAttrs_list PySem.F.slot_list_append PySem.F.type_list_append mw_append (wv 9) (wa_cons we_int wa_nil)))
    (wss_cons (ws_if (wt_cmp (ow_neD hr.units) (we_xf (wv 10)) (we_lst (wa_cons we_int (wa_cons (we_lst (wa_cons we_int wa_nil)) (wa_cons we_int wa_nil)))) (nomark _))
    (wss_one (ws_ret we_bl))
    wss_nil)
    (wss_cons (ws_set (i := 11) nd rfl (by first | exact .inl rfl | exact .inr rfl) (we_lst wa_nil))
    (wss_cons (ws_try rfl rfl nd (i := 12) rfl rfl ⟨rfl, by decide, .inl T.m_DeedsError⟩ tk (fun Ew pn xe tk po => (wss_one (ws_raise tk rfl T.x_NotThere (hr.mono (by decide)) (by rfl) (wa_cons (we_lst (wa_cons we_int (wa_cons (we_lst (wa_cons we_int wa_nil)) (wa_cons we_int wa_nil)))) wa_nil))))
    (fun xa xC xd oe pn hz hf => (wss_one (ws_expr (we_bm PySem.F.plainAttrs_list PySem.F.slot_list_append PySem.F.type_list_append mw_append (wv 11) (wa_cons (we_and (we_callB (cw_isS hz hf) (by rfl) T.b_isinstance (by decide +kernel) (wa_cons (wv 12) (wa_cons (we_ty (by rfl) T.b_ValueError (by decide +kernel)) wa_nil))) (we_and (we_callB (cw_isS hz hf) (by rfl) T.b_isinstance (by decide +kernel) (wa_cons (wv 12) (wa_cons (we_gref (by rfl) T.m_NotThere) wa_nil))) (we_one (we_cmp (ow_eqD hr.units) (we_sf hz hf (wv 12)) (we_lst (wa_cons we_int (wa_cons (we_lst (wa_cons we_int wa_nil)) (wa_cons we_int wa_nil)))) (nomark _))))) wa_nil))))))
    (wss_one (ws_ret (we_cmp (ow_eqD hr.units) (wv 11) (we_lst (wa_cons we_bl wa_nil)) (nomark _)))))))))))))

end
end Wx

set_option Elab.async false
set_option linter.all false
set_option maxRecDepth 100000
set_option maxHeartbeats 4000000
namespace Wx
open PySem L2
def pk (cl : Addr) (a d : Int) (n : Int) (f : Int) : List (Key × W) := [(.inr "cells", .ref cl), (.inr "at", .int a), (.inr "digits", .int d), (.inr "count", .int n), (.inr "fold", .int f)]
@[simp] theorem pk_cells {cl : Addr} {a d n f : Int} : lookK (pk cl a d n f) (.inr "cells") = some (.ref cl) := by rfl
@[simp] theorem pk_at {cl : Addr} {a d n f : Int} : lookK (pk cl a d n f) (.inr "at") = some (.int a) := by rfl
@[simp] theorem pk_digits {cl : Addr} {a d n f : Int} : lookK (pk cl a d n f) (.inr "digits") = some (.int d) := by rfl
@[simp] theorem pk_count {cl : Addr} {a d n f : Int} : lookK (pk cl a d n f) (.inr "count") = some (.int n) := by rfl
@[simp] theorem pk_fold {cl : Addr} {a d n f : Int} : lookK (pk cl a d n f) (.inr "fold") = some (.int f) := by rfl
@[simp] theorem pk_sat {cl : Addr} {a d n f x : Int} : storeK (pk cl a d n f) (.inr "at") (.int x) = pk cl x d n f := by rfl
@[simp] theorem pk_sdigits {cl : Addr} {a d n f x : Int} : storeK (pk cl a d n f) (.inr "digits") (.int x) = pk cl a x n f := by rfl
@[simp] theorem pk_scount {cl : Addr} {a d n f x : Int} : storeK (pk cl a d n f) (.inr "count") (.int x) = pk cl a d x f := by rfl
@[simp] theorem pk_sfold {cl : Addr} {a d n f x : Int} : storeK (pk cl a d n f) (.inr "fold") (.int x) = pk cl a d n x := by rfl
theorem rd_dget {td ty : TEw} {ω : Sw} {A : AH} {Q : VKw} {p : Addr} {kvs : List (Key × W)} {x : Str} {w : W} (h1 : ∀ Q, Q (.ref p) A → td ω A Q) (h2 : ∀ Q, Q (.str x) A → ty ω A Q) (h : A.h p = some (.dK kvs)) (l : lookK kvs (.inr x) = some w) (q : Q w A) : wDGet td ty ω A Q :=
  h1 _ (h2 _ ⟨p, w, rfl, .inl ⟨kvs, .inr x, h, rfl, l.symm⟩, q⟩)
theorem rd_dput {td ty tv : TEw} {D : Dw} {ω : Sw} {A A1 : AH} {p : Addr} {kvs kvs' : List (Key × W)} {x : Str} {w : W} (h0 : ∀ Q, Q w A1 → tv ω A Q) (h1 : ∀ Q, Q (.ref p) A1 → td ω A1 Q) (h2 : ∀ Q, Q (.str x) A1 → ty ω A1 Q) (h : A1.h p = some (.dK kvs)) (hl : kvs.length < sizeLine)
    (l : storeK kvs (.inr x) w = kvs') (q : D.nx ω (A1.put p (.dK kvs'))) : wDPut td ty tv D ω A :=
  h0 _ (h1 _ (h2 _ ⟨p, rfl, .inl ⟨kvs, .inr x, h, rfl, hl, by rw [l]; exact q⟩⟩))
theorem len5 {cl : Addr} {a d n f : Int} : (pk cl a d n f).length < sizeLine := by rw [sizeLine_eq]; show 5 < _; decide
def spD_draw : SpW := fun ws A Q _ => ∃ (p cl : Addr) (n : Nat) (m a d f : Int) (ns : List Int), ws = [.ref p, .int m] ∧ A.h p = some (.dK (pk cl a d n f)) ∧ A.h cl = some (.lst (ns.map W.int)) ∧ cl ≠ p ∧ n < 2 ^ 40 ∧ 0 < m ∧ m < 2 ^ 30 ∧ 0 ≤ a ∧ 0 ≤ d ∧ -(2 ^ 40) < f ∧ f < 2 ^ 40 ∧
  ∀ x a' d' f' : Int, 0 ≤ x → x < m → 0 ≤ a' → 0 ≤ d' → -(2 ^ 40) < f' → f' < 2 ^ 40 → Q (.int x) (A.put p (.dK (pk cl a' d' (n + 1 : Nat) f')))

set_option pp.deepTerms false in
theorem rd_draw {K : PySem.W.Frag} {cl : Str → Addr} : ∀ ws A Q E, spD_draw ws A Q E → t__law_draw K cl (fun _ => fgE E) { nx := fun _ A' => fg Q .non A', rt := fg Q } (startW n__law_draw ws) A := by
  rintro ws A Q E ⟨p, cl, n, m, a, d, f, ns, rfl, hp, hc, ne, hn, hm, hm2, ha, hd, hf, hf2, q⟩
  have small : ∀ x : Int, -(2 ^ 41) < x → x < 2 ^ 41 → CPow (x + ((n : Int) + 1) * 7993 + 71) 17 := fun x h1 h2 => ⟨by decide, by decide, by omega⟩
  have div : ∀ y : Int, 0 ≤ y → CDivN y 128 := fun y hy => ⟨by decide, by decide⟩
  have fin : ∀ (a' d' f' : Int), 0 ≤ a' → 0 ≤ d' → -(2 ^ 40) < f' → f' < 2 ^ 40 →
      (if 0 < d' then ¬m = 0 ∧ CDivN d' m ∧ fg Q (W.int (d'.fmod m)) (A.put p (WO.dK (pk cl a' (d'.fdiv m) ((n : Int) + 1) f')))
      else CMul ((n : Int) + 1) 7993 ∧ CPow (f' + ((n : Int) + 1) * 7993 + 71) 17 ∧ CDivN (((f' + ((n : Int) + 1) * 7993 + 71) ^ 17).fmod 2305843009213693951) 128 ∧ ¬m = 0 ∧
        fg Q (W.int (((((f' + ((n : Int) + 1) * 7993 + 71) ^ 17).fmod 2305843009213693951).fdiv 128).fmod m)) (A.put p (WO.dK (pk cl a' d' ((n : Int) + 1) f')))) := by
    intro a' d' f' ha' hd' hf' hf2'
    split
    · refine ⟨by omega, ⟨by omega, by omega⟩, fg_i ?_⟩
      have b1 := Int.fmod_nonneg_of_pos d' hm
      have b2 := Int.fmod_lt_of_pos d' hm
      have b3 : 0 ≤ d'.fdiv m := Int.fdiv_nonneg hd' (by omega)
      exact q _ _ _ _ b1 b2 ha' b3 hf' hf2'
    · refine ⟨.inr ⟨by decide, by decide⟩, small _ (by omega) (by omega), ⟨by decide, by decide⟩, by omega, fg_i ?_⟩
      have b1 := Int.fmod_nonneg_of_pos (((((f' + ((n : Int) + 1) * 7993 + 71) ^ 17).fmod 2305843009213693951).fdiv 128)) hm
      have b2 := Int.fmod_lt_of_pos (((((f' + ((n : Int) + 1) * 7993 + 71) ^ 17).fmod 2305843009213693951).fdiv 128)) hm
      exact q _ _ _ _ b1 b2 ha' hd' hf' hf2'
  have c18 : CPow 10 18 := ⟨by decide, by decide, by decide⟩
  unfold t__law_draw
  simp [hp, dget_iff, dput_iff, len5, ne, hc, lenW_ref, wIx_ref, c18]
  split
  · split
    · rename_i h0 hlt
      obtain ⟨k, hk⟩ : ∃ k : Nat, a = k := ⟨a.toNat, by omega⟩
      subst hk
      have hk : k < ns.length := by omega
      refine ⟨.int ns[k], atI_nat (by simp [hk]), ?_⟩
      simp [hp, dget_iff, dput_iff, len5, ne, hc, lenW_ref, wIx_ref, c18]
      split
      · rename_i hge
        have h := fin (k + 1) (ns[k] - 1000000000000000000) f (by omega) (by omega) hf hf2
        simpa only [Int.sub_pos] using h
      · refine ⟨.inr ⟨by decide, by decide⟩, ?_⟩
        have b1 := Int.fmod_nonneg_of_pos (f * 70079 + ns[k]) (b := 2147483237) (by decide)
        have b2 := Int.fmod_lt_of_pos (f * 70079 + ns[k]) (b := 2147483237) (by decide)
        exact fin _ _ _ (by omega) hd (by omega) (by omega)
    · exact fin _ _ _ ha hd hf hf2
  · exact fin _ _ _ ha hd hf hf2
end Wx

set_option Elab.async false
set_option linter.all false
set_option maxRecDepth 100000
set_option maxHeartbeats 4000000
namespace Wx
open PySem L2
theorem AH.ext' {A B : AH} (h1 : A.pen = B.pen) (h2 : ∀ b, A.h b = B.h b) (h3 : A.tp = B.tp) : A = B := by
  cases A; cases B
  simp only at h1 h2 h3
  subst h1 h3
  congr 1
  funext b
  exact h2 b
section
variable {P : Program} {w : World} {K : PySem.W.Frag} {mg : Str → Option Value} {base : Heap}
theorem draw_imp (vs : List V) (H : Hp) (Q : VK) (E : XK) (h : spL K sp__law_draw vs H Q E) : spL K spD_draw vs H Q E := by
  obtain ⟨ws, A, Q', E', r, ra, ⟨p, n, m, rfl, hp, hn, hm, hm2, q⟩, kQ, kE⟩ := h
  obtain ⟨cl, ns, at_, dg, fo, h1, h2, ne, h3, h4, h5, h6, ra1⟩ := pen_out ra hp
  refine ⟨_, _, fun w A2 => ∃ x a' d' f' : Int, w = .int x ∧ 0 ≤ x ∧ x < m ∧ 0 ≤ a' ∧ 0 ≤ d' ∧ -(2 ^ 40) < f' ∧ f' < 2 ^ 40 ∧ A2 = ({ pen := none, h := fun b => if b = p then some (.dK (pk cl at_ dg n fo)) else if b = cl then some (.lst (ns.map W.int)) else A.h b, tp := A.tp } : AH).put p (.dK (pk cl a' d' (n + 1 : Nat) f')), E', r, ra1,
    ⟨p, cl, n, m, at_, dg, fo, ns, rfl, if_pos rfl, by show (if cl = p then _ else if cl = cl then _ else _) = _; rw [if_neg ne, if_pos rfl], ne, hn, hm, hm2, h3, h4, h5, h6, fun x a' d' f' b1 b2 b3 b4 b5 b6 => ⟨x, a', d', f', rfl, b1, b2, b3, b4, b5, b6, rfl⟩⟩, fun v H' ⟨w, A2, t, ra2, rv, x, a', d', f', e1, b1, b2, b3, b4, b5, b6, e2⟩ => ?_, kE⟩
  subst e1 e2
  refine kQ v H' ⟨.int x, _, t, ?_, rv, q x b1 b2⟩
  have hpen := pen_in (p := p) (cl := cl) (ns := ns) (n := n + 1) ra2 (by show (if p = p then _ else _) = _; rw [if_pos rfl]; rfl)
    (by show (if cl = p then _ else if cl = p then _ else if cl = cl then _ else _) = _; rw [if_neg ne, if_neg ne, if_pos rfl]) rfl b3 b4 b5 b6
  have e : ({ pen := some (p, n + 1), h := fun b => if b = p ∨ b = cl then none else (({ pen := none, h := fun b => if b = p then some (.dK (pk cl at_ dg n fo)) else if b = cl then some (.lst (ns.map W.int)) else A.h b, tp := A.tp } : AH).put p (.dK (pk cl a' d' (n + 1 : Nat) f'))).h b, tp := A.tp } : AH) = A.pn p (n + 1) := by
    refine AH.ext' rfl (fun b => ?_) rfl
    show (if b = p ∨ b = cl then none else if b = p then _ else if b = p then _ else if b = cl then _ else A.h b) = A.h b
    by_cases z : b = p
    · rw [if_pos (.inl z), z, h1]
    · by_cases z2 : b = cl
      · rw [if_pos (.inr z2), z2, h2]
      · rw [if_neg (fun y => y.elim z z2), if_neg z, if_neg z, if_neg z2]
  rw [← e]
  exact hpen
theorem ok_draw {clA : Str → Addr} (T : Txt P w K mg base clA) {f : Addr} {fd : FuncData} (F : Fun K "_law_draw" "_law_draw" s__law_draw f fd) : FnB false P w K mg base 1 f fd ["pen", "many"] (spL K sp__law_draw) :=
  (fnW (t := t__law_draw K clA) F sc__law_draw (fun ws A Q E ⟨_, _, _, _, _, _, _, _, e, _⟩ => by rw [e]; rfl) (d__law_draw T) rd_draw).imp draw_imp
/-! _law_pen -/
def spD_pen : SpW := fun ws A Q _ => ∃ (a : Addr) (ns : List Int), ws = [.ref a] ∧ A.h a = some (.rol (ns.map W.int)) ∧ A.pen = none ∧ ns.length ≤ 63 ∧ ∀ p cl f, A.h p = none → A.h cl = none → cl ≠ p → -(2 ^ 40) < f → f < 2 ^ 40 → Q (.ref p) ((((A.put p (.dK [])).put cl (.lst (ns.map W.int))).put p (.dK (pk cl 0 0 (0 : Nat) f))))
theorem rd_pen {clA : Str → Addr} : ∀ ws A Q E, spD_pen ws A Q E → t__law_pen K clA (fun _ => fgE E) { nx := fun _ A' => fg Q .non A', rt := fg Q } (startW n__law_pen ws) A := by
  rintro ws A Q E ⟨a, ns, rfl, ha, hn, hl, q⟩
  unfold t__law_pen
  simp
  refine ⟨ns.map W.int, .inr ha, ?_⟩
  -- the loop
  have loop : ∀ (l : List Int) (f : Int) (c : Option W) (D : Dw), -(2 ^ 40) < f → f < 2 ^ 40 → (∀ f c, -(2 ^ 40) < f → f < 2 ^ 40 → D.nx [some (.ref a), some (.int f), c] A) →
      wLoop (wgName 2) (wAsg (wOp wMod (wCB wIntOf (wCons (wOp wAdd (wOp wMulI (wVar 1) (wC (.int 137))) (wVar 2)) wNil)) (wC (.int 1000000439))) (wgName 1)) D (fun A' => isL A' a (ns.map W.int)) (l.map W.int) [some (.ref a), some (.int f), c] A := by
    intro l
    induction l with
    | nil =>
      intro f c D h1 h2 k
      exact ⟨.inr ha, k f c h1 h2⟩
    | cons x l ih =>
      intro f c D h1 h2 k
      simp
      have b1 := Int.fmod_nonneg_of_pos (f * 137 + x) (b := 1000000439) (by decide)
      have b2 := Int.fmod_lt_of_pos (f * 137 + x) (b := 1000000439) (by decide)
      refine ⟨.inr ha, .inr ⟨by decide, by decide⟩, ?_⟩
      exact ih _ _ _ (by omega) (by omega) k
  refine loop ns 37 none _ (by decide) (by decide) fun f c h1 h2 => ?_
  simp
  intro p hp
  have pa : a ≠ p := h_ne ha hp
  have e1 : isL (A.put p (.dK [])) a (ns.map W.int) := .inr (by show (if a = p then _ else _) = _; rw [if_neg pa]; exact ha)
  refine ⟨_, e1, fun cl hcl => ?_⟩
  by_cases z : cl = p
  · rw [if_pos z] at hcl; cases hcl
  rw [if_neg z] at hcl
  refine ⟨fun y => z y.symm, [(.inr "cells", .ref cl), (.inr "at", .int 0), (.inr "digits", .int 0), (.inr "count", .int 0), (.inr "fold", .int f)], rfl, by simp, fg_i ?_⟩
  exact q p cl f hp hcl z h1 h2
/-- the pen's dict is hidden behind the pen -/
theorem pen_imp (vs : List V) (H : Hp) (Q : VK) (E : XK) (h : spL K sp__law_pen vs H Q E) : spL K spD_pen vs H Q E := by
  obtain ⟨ws, A, Q', E', r, ra, ⟨a, ns, rfl, ha, hn, hl, q⟩, kQ, kE⟩ := h
  refine ⟨_, A, fun w A2 => ∃ p cl f, w = .ref p ∧ A.h p = none ∧ A.h cl = none ∧ cl ≠ p ∧ -(2 ^ 40) < f ∧ f < 2 ^ 40 ∧ A2 = (((A.put p (.dK [])).put cl (.lst (ns.map W.int))).put p (.dK (pk cl 0 0 (0 : Nat) f))), E', r, ra, ⟨a, ns, rfl, ha, hn, hl, fun p cl f h1 h2 h3 h4 h5 => ⟨p, cl, f, rfl, h1, h2, h3, h4, h5, rfl⟩⟩, fun v H' ⟨w, A2, t, ra2, rv, p, cl, f, e1, h1, h2, h3, h4, h5, e2⟩ => ?_, kE⟩
  subst e1 e2
  have hpen := pen_in (p := p) (cl := cl) (ns := ns) (n := 0) ra2 AH.put_same (by rw [AH.put_ne h3, AH.put_same]) hn (Int.le_refl 0) (Int.le_refl 0) h4 h5
  refine kQ v H' ⟨.ref p, _, t, hpen, rv, q p _ rfl ⟨fun b o e => ?_, .inl hn, fun _ _ => ⟨fun h => h, fun _ h => h⟩⟩⟩
  have n1 : b ≠ p := h_ne e h1
  have n2 : b ≠ cl := h_ne e h2
  show (if b = p ∨ b = cl then none else _) = _
  rw [if_neg (fun z => z.elim n1 n2), AH.put_ne n1, AH.put_ne n2, AH.put_ne n1]
  exact e
theorem ok_pen {clA : Str → Addr} (T : Txt P w K mg base clA) {f : Addr} {fd : FuncData} (F : Fun K "_law_pen" "_law_pen" s__law_pen f fd) : FnB false P w K mg base 1 f fd ["script"] (spL K sp__law_pen) :=
  (fnW (t := t__law_pen K clA) F sc__law_pen (fun ws A Q E ⟨_, _, e, _⟩ => by rw [e]; rfl) (d__law_pen T) rd_pen).imp pen_imp
end
end Wx

set_option Elab.async false
set_option linter.all false
set_option maxRecDepth 100000
set_option maxHeartbeats 4000000
namespace Wx
open PySem L2
section
variable {P : Program} {w : World} {K : PySem.W.Frag} {mg : Str → Option Value} {base : Heap} {cl : Str → Addr}
theorem rd_pick : ∀ ws A Q E, sp__law_pick ws A Q E → t__law_pick K cl (fun _ => fgE E) { nx := fun _ A' => fg Q .non A', rt := fg Q } (startW n__law_pick ws) A := by
  rintro ws A Q E ⟨p, l, n, xs, rfl, hp, hn, hl, h0, h1, q⟩
  unfold t__law_pick
  simp [lenW_isL hl]
  refine ⟨p, n, xs.length, rfl, hp, hn, by omega, by omega, fun d d0 d1 => ?_⟩
  obtain ⟨x, e, hx⟩ := atI_mem d0 d1
  exact ⟨xs, x, hl, e, fg_i (q x hx)⟩
theorem ok_pick (T : Txt P w K mg base cl) (C : Callee false P w K mg base 1 "_law_draw" ["pen", "many"] sp__law_draw) {f : Addr} {fd : FuncData} (F : Fun K "_law_pick" "_law_pick" s__law_pick f fd) : FnB false P w K mg base 2 f fd ["pen", "some"] (spL K sp__law_pick) :=
  fnW (t := t__law_pick K cl) F sc__law_pick (fun ws A Q E ⟨_, _, _, _, e, _⟩ => by rw [e]; rfl) (d__law_pick T C) rd_pick
theorem good_big : GoodD (.int big40) := by
  rw [big40_eq]
  exact ⟨by decide +kernel, by decide +kernel, by decide +kernel, by decide +kernel⟩
theorem rd_value : ∀ ws A Q E, sp__law_value ws A Q E → t__law_value K cl (fun _ => fgE E) { nx := fun _ A' => fg Q .non A', rt := fg Q } (startW n__law_value ws) A := by
  rintro ws A Q E ⟨p, n, rfl, hp, hn, q⟩
  unfold t__law_value
  simp [sizeLine_eq]
  intro p1 h1 p2 h2 p3 h3
  refine ⟨p, p3, n, _, rfl, hp, hn, .inl AH.put_same, by simp, by simp, fun x hx => ?_⟩
  have s : (A.pn p (n + 1)).Sub ((((A.put p1 (.lst [.int 1, .str "b"])).put p2 (.lst [])).put p3 (.lst [.str "", .str "a", .int 0, .int (-1), .bl true, .non, .tup [], .tup [.str "a", .int 1], .ref p1, .ref p2, .int big40, .tup [.tup [.str "x", .int 2], .non]])).pn p (n + 1)) :=
    AH.Sub.pn ((((AH.Sub.refl A).put' h1).put' h2).put' h3)
  have n21 : p2 ≠ p1 := fun z => by rw [if_pos z] at h2; cases h2
  have n32 : p3 ≠ p2 := fun z => by rw [if_pos z] at h3; cases h3
  have n31 : p3 ≠ p1 := fun z => by rw [if_neg (fun y => n21 (y.symm.trans z)), if_pos z] at h3; cases h3
  simp only [List.mem_cons, List.not_mem_nil, or_false] at hx
  rcases hx with rfl | rfl | rfl | rfl | rfl | rfl | rfl | rfl | rfl | rfl | rfl | rfl
  · exact fg_i (q _ (.str "") _ s (by simp only [DL]) ⟨by decide +kernel, by decide +kernel, by decide +kernel, by decide +kernel⟩)
  · exact fg_i (q _ (.str "a") _ s (by simp only [DL]) ⟨by decide +kernel, by decide +kernel, by decide +kernel, by decide +kernel⟩)
  · exact fg_i (q _ (.int 0) _ s (by simp only [DL]) ⟨by decide +kernel, by decide +kernel, by decide +kernel, by decide +kernel⟩)
  · exact fg_i (q _ (.int (-1)) _ s (by simp only [DL]) ⟨by decide +kernel, by decide +kernel, by decide +kernel, by decide +kernel⟩)
  · exact fg_i (q _ (.bool true) _ s (by simp only [DL]) ⟨by decide +kernel, by decide +kernel, by decide +kernel, by decide +kernel⟩)
  · exact fg_i (q _ .none _ s (by simp only [DL]) ⟨by decide +kernel, by decide +kernel, by decide +kernel, by decide +kernel⟩)
  · exact fg_i (q _ (.tuple []) _ s (DL.tup .nil) ⟨by decide +kernel, by decide +kernel, by decide +kernel, by decide +kernel⟩)
  · exact fg_i (q _ (.tuple [.str "a", .int 1]) _ s (DL.tup (.cons (by simp only [DL]) (.cons (by simp only [DL]) .nil))) ⟨by decide +kernel, by decide +kernel, by decide +kernel, by decide +kernel⟩)
  · exact fg_i (q _ (.list [.int 1, .str "b"]) _ s (DL.list (ws := [.int 1, .str "b"]) (by simp [n31.symm, n21.symm]) (.cons (by simp only [DL]) (.cons (by simp only [DL]) .nil))) ⟨by decide +kernel, by decide +kernel, by decide +kernel, by decide +kernel⟩)
  · exact fg_i (q _ (.list []) _ s (DL.list (ws := []) (by simp [n32.symm]) .nil) ⟨by decide +kernel, by decide +kernel, by decide +kernel, by decide +kernel⟩)
  · exact fg_i (q _ (.int big40) _ s (by simp only [DL]) good_big)
  · exact fg_i (q _ (.tuple [.tuple [.str "x", .int 2], .none]) _ s (DL.tup (.cons (DL.tup (.cons (by simp only [DL]) (.cons (by simp only [DL]) .nil))) (.cons (by simp only [DL]) .nil))) ⟨by decide +kernel, by decide +kernel, by decide +kernel, by decide +kernel⟩)
theorem ok_value (T : Txt P w K mg base cl) (C : Callee false P w K mg base 2 "_law_pick" ["pen", "some"] sp__law_pick) {f : Addr} {fd : FuncData} (F : Fun K "_law_value" "_law_value" s__law_value f fd) : FnB false P w K mg base 3 f fd ["pen"] (spL K sp__law_value) :=
  fnW (t := t__law_value K cl) F sc__law_value (fun ws A Q E ⟨_, _, e, _⟩ => by rw [e]; rfl) (d__law_value T C) rd_value
/-! _law_fields -/
theorem rd_fields : ∀ ws A Q E, sp__law_fields K ws A Q E → t__law_fields K cl (fun _ => fgE E) { nx := fun _ A' => fg Q .non A', rt := fg Q } (startW n__law_fields ws) A := by
  rintro ws A Q E ⟨e, l, C, fs, ns, vals, rfl, he, hl, hn, hns, hC, hv, q⟩
  unfold t__law_fields
  simp [sizeLine_eq]
  intro p hp
  have pe : e ≠ p := h_ne he hp
  have pl : l ≠ p := h_ne hl hp
  refine (iterW_isL (ws := ns.map W.str) (.inl (by rw [put_h, if_neg pl]; exact hl))).mpr ?_
  refine wLoop_ind (P := fun ws ω A' => ∃ k c, k ≤ ns.length ∧ ws = (ns.drop k).map W.str ∧ ω = [some (.ref e), some (.ref l), some (.ref p), c] ∧ A' = A.put p (.lst (vals.take k))) ?_ ?_ _ _ _ ⟨0, none, Nat.zero_le _, rfl, rfl, rfl⟩
  · rintro ω A' ⟨k, c, hk, hw, rfl, rfl⟩
    have e1 : ns.length ≤ k := by
      have := congrArg List.length hw
      simp at this
      omega
    have e2 : vals.length = ns.length := by
      have := congrArg List.length hv
      simpa using this.symm
    rw [List.take_of_length_le (by omega)]
    refine ⟨.inl (by rw [put_h, if_neg pl]; exact hl), ?_⟩
    simp
    exact fg_i (q p _ (AH.Sub.put hp) AH.put_same)
  · rintro w ws ω A' kk hkk ⟨k, c, hk, hw, rfl, rfl⟩
    have hlt : k < ns.length := by
      apply Classical.byContradiction
      intro hh
      rw [List.drop_of_length_le (by omega)] at hw
      cases hw
    rw [List.drop_eq_getElem_cons hlt, List.map_cons] at hw
    obtain ⟨rfl, rfl⟩ := List.cons.inj hw
    have e2 : vals.length = ns.length := by
      have := congrArg List.length hv
      simpa using this.symm
    have hvk : fs.lookup ns[k] = some vals[k] := by
      have := congrArg (fun z => z[k]?) hv
      simpa [hlt, e2] using this
    obtain ⟨hm, hno⟩ := hns ns[k] (List.getElem_mem hlt)
    refine ⟨.inl (by rw [put_h, if_neg pl]; exact hl), ?_⟩
    have fin : kk [some (.ref e), some (.ref l), some (.ref p), some (.str ns[k])] (A.put p (.lst (vals.take k ++ [vals[k]]))) := hkk _ _ ⟨k + 1, _, hlt, rfl, rfl, by rw [List.take_append_getElem]⟩
    have ty : tyW "list" (.ref p) (A.put p (.lst (vals.take k))) := (tyW_list AH.put_same).mpr trivial
    generalize ns[k] = f at hm hno hvk fin
    simp only [names10, List.mem_cons, List.not_mem_nil, or_false] at hm
    rcases hm with rfl | rfl | rfl | rfl | rfl | rfl | rfl | rfl | rfl | rfl
    all_goals
      simp [pe, he, hC, hno, hvk, ty, sizeLine_eq]
      exact ⟨C, hC, hno, fs, ⟨rfl, rfl⟩, _, hvk, by omega, fin⟩
theorem ok_fields (T : Txt P w K mg base cl) {f : Addr} {fd : FuncData} (F : Fun K "_law_fields" "_law_fields" s__law_fields f fd) : FnB false P w K mg base 1 f fd ["one", "names"] (spL K (sp__law_fields K)) :=
  fnW (t := t__law_fields K cl) F sc__law_fields (fun ws A Q E ⟨_, _, _, _, _, _, e, _⟩ => by rw [e]; rfl) (d__law_fields T) rd_fields
end
end Wx

set_option Elab.async false
set_option linter.all false
set_option maxRecDepth 100000
set_option maxHeartbeats 400000
namespace Wx
open PySem L2
section
variable {P : Program} {w : World} {K : PySem.W.Frag} {mg : Str → Option Value} {base : Heap} {cl : Str → Addr}
/-! _law_made_errors -/
theorem Rws.sub {A A' : AH} (s : A.Sub A') {vals : List W} : ∀ {rows : List W} {specs : List (Str × List Str)}, Rws A cl vals rows specs → Rws A' cl vals rows specs
  | [], [], _ => trivial
  | row :: rows, (c, fs) :: specs, ⟨⟨e, l, h1, h2, h3⟩, h⟩ => ⟨⟨e, l, h1, s.1 _ _ h2, s.1 _ _ h3⟩, Rws.sub s h⟩
theorem Rws.length {A : AH} {vals : List W} : ∀ {rows : List W} {specs : List (Str × List Str)}, Rws A cl vals rows specs → rows.length = specs.length
  | [], [], _ => rfl
  | row :: rows, (c, fs) :: specs, ⟨_, h⟩ => by rw [List.length_cons, List.length_cons, Rws.length h]
theorem Rws.append {A : AH} {vals : List W} : ∀ {rows rows' : List W} {specs specs' : List (Str × List Str)}, Rws A cl vals rows specs → Rws A cl vals rows' specs' → Rws A cl vals (rows ++ rows') (specs ++ specs')
  | [], _, [], _, _, h' => h'
  | row :: rows, _, (c, fs) :: specs, _, ⟨h0, h⟩, h' => ⟨h0, Rws.append h h'⟩
/-- a display of rows -/
def RowsW (cl : Str → Addr) (vals : List W) (ω : Sw) (ta : TAw) (specs : List (Str × List Str)) : Prop := ∀ (A : AH) (QA : List W → AH → Prop), (∀ A1 rows, A.Sub A1 → Rws A1 cl vals rows specs → QA rows A1) → ta ω A QA
theorem rowsW_nil {vals : List W} {ω : Sw} : RowsW cl vals ω wNil [] := fun A QA k => k A [] (AH.Sub.refl A) trivial
theorem rowsW_cons {vals : List W} {ω : Sw} {tM tL : TEw} {ta : TAw} {c : Str} {fs : List Str} {specs : List (Str × List Str)} (hM : ∀ (A : AH) (Q : VKw), (∀ a, A.h a = none → Q (.ref a) (A.put a (.exn (cl c) (fs.zip vals).reverse))) → tM ω A Q)
    (hL : ∀ (A : AH) (Q : VKw), (∀ l, A.h l = none → Q (.ref l) (A.put l (.lst (fs.map W.str)))) → tL ω A Q) (hr : RowsW cl vals ω ta specs) : RowsW cl vals ω (wCons (wTup (wCons tM (wCons tL wNil))) ta) ((c, fs) :: specs) := by
  intro A QA k
  refine hM A _ fun e he => hL _ _ fun l hl => ?_
  have s : A.Sub ((A.put e (.exn (cl c) (fs.zip vals).reverse)).put l (.lst (fs.map W.str))) := ((AH.Sub.refl A).put' he).put' hl
  have nl : e ≠ l := h_ne AH.put_same hl
  refine ⟨by rw [sizeLine_eq]; show 2 ≤ _; omega, hr _ _ fun A1 rows s1 r1 => k A1 _ (s.trans s1) ⟨⟨e, l, rfl, s1.1 _ _ ?_, s1.1 _ _ AH.put_same⟩, r1⟩⟩
  rw [AH.put_ne nl, AH.put_same]
theorem rd_made : ∀ ws A Q E, sp__law_made_errors cl ws A Q E → t__law_made_errors K cl (fun _ => fgE E) { nx := fun _ A' => fg Q .non A', rt := fg Q } (startW n__law_made_errors ws) A := by
  rintro ws A Q E ⟨one, two, three, rfl, q⟩
  have R1 : ∀ x, RowsW cl [one, two, three] [some one, some two, some three, x] _ [("BadText", ["line", "word"]), ("BadName", ["name"]), ("BadNumber", ["what", "number"])] := fun x =>
    rowsW_cons (tM := wMkx (cl "BadText") ["line", "word"] (wCons (wVar 0) (wCons (wVar 1) wNil))) (tL := wLst (wCons (wC (.str "line")) (wCons (wC (.str "word")) wNil))) (fun A Q h => by simpa using h) (fun A Q h => by simpa [sizeLine_eq] using h)
    (rowsW_cons (tM := wMkx (cl "BadName") ["name"] (wCons (wVar 0) wNil)) (tL := wLst (wCons (wC (.str "name")) wNil)) (fun A Q h => by simpa using h) (fun A Q h => by simpa [sizeLine_eq] using h)
    (rowsW_cons (tM := wMkx (cl "BadNumber") ["what", "number"] (wCons (wVar 0) (wCons (wVar 1) wNil))) (tL := wLst (wCons (wC (.str "what")) (wCons (wC (.str "number")) wNil))) (fun A Q h => by simpa using h) (fun A Q h => by simpa [sizeLine_eq] using h) rowsW_nil))
  have R2 : ∀ x, RowsW cl [one, two, three] [some one, some two, some three, x] _ [("BadRow", ["what", "row"]), ("NoName", ["name"]), ("TakenName", ["name"])] := fun x =>
    rowsW_cons (tM := wMkx (cl "BadRow") ["what", "row"] (wCons (wVar 0) (wCons (wVar 1) wNil))) (tL := wLst (wCons (wC (.str "what")) (wCons (wC (.str "row")) wNil))) (fun A Q h => by simpa using h) (fun A Q h => by simpa [sizeLine_eq] using h)
    (rowsW_cons (tM := wMkx (cl "NoName") ["name"] (wCons (wVar 0) wNil)) (tL := wLst (wCons (wC (.str "name")) wNil)) (fun A Q h => by simpa using h) (fun A Q h => by simpa [sizeLine_eq] using h)
    (rowsW_cons (tM := wMkx (cl "TakenName") ["name"] (wCons (wVar 0) wNil)) (tL := wLst (wCons (wC (.str "name")) wNil)) (fun A Q h => by simpa using h) (fun A Q h => by simpa [sizeLine_eq] using h) rowsW_nil))
  have R3 : ∀ x, RowsW cl [one, two, three] [some one, some two, some three, x] _ [("Unlike", ["what"]), ("NotThere", ["what"]), ("TooMany", ["what", "many", "limit"])] := fun x =>
    rowsW_cons (tM := wMkx (cl "Unlike") ["what"] (wCons (wVar 0) wNil)) (tL := wLst (wCons (wC (.str "what")) wNil)) (fun A Q h => by simpa using h) (fun A Q h => by simpa [sizeLine_eq] using h)
    (rowsW_cons (tM := wMkx (cl "NotThere") ["what"] (wCons (wVar 0) wNil)) (tL := wLst (wCons (wC (.str "what")) wNil)) (fun A Q h => by simpa using h) (fun A Q h => by simpa [sizeLine_eq] using h)
    (rowsW_cons (tM := wMkx (cl "TooMany") ["what", "many", "limit"] (wCons (wVar 0) (wCons (wVar 1) (wCons (wVar 2) wNil)))) (tL := wLst (wCons (wC (.str "what")) (wCons (wC (.str "many")) (wCons (wC (.str "limit")) wNil)))) (fun A Q h => by simpa using h) (fun A Q h => by simpa [sizeLine_eq] using h) rowsW_nil))
  have R4 : ∀ x, RowsW cl [one, two, three] [some one, some two, some three, x] _ [("NotKept", ["promise", "witness"])] := fun x =>
    rowsW_cons (tM := wMkx (cl "NotKept") ["promise", "witness"] (wCons (wVar 0) (wCons (wVar 1) wNil))) (tL := wLst (wCons (wC (.str "promise")) (wCons (wC (.str "witness")) wNil))) (fun A Q h => by simpa using h) (fun A Q h => by simpa [sizeLine_eq] using h) rowsW_nil
  unfold t__law_made_errors
  rw [show startW n__law_made_errors [one, two, three] = [some one, some two, some three, none] from rfl]
  simp only [wSeq_eq, wAsg_eq, wLst_eq, wOp_eq, wVar_eq, wRet_eq, wgName_eq]
  refine R1 none A _ fun A1 rows1 s1 r1 => ⟨by rw [r1.length, sizeLine_eq]; show 3 ≤ _; omega, fun p1 hp1 => ?_⟩
  refine ⟨_, rfl, R2 _ _ _ fun A2 rows2 s2 r2 => ⟨by rw [r2.length, sizeLine_eq]; show 3 ≤ _; omega, fun p2 hp2 => ?_⟩⟩
  have g1 := s2.1 _ _ (AH.put_same (A := A1) (a := p1) (o := .lst rows1))
  refine (wAdd_rr (by rw [AH.put_ne (h_ne g1 hp2)]; exact g1) AH.put_same).mpr ⟨by rw [r1.length, r2.length, sizeLine_eq]; show 6 ≤ _; omega, fun p3 hp3 => ?_⟩
  refine ⟨_, rfl, R3 _ _ _ fun A3 rows3 s3 r3 => ⟨by rw [r3.length, sizeLine_eq]; show 3 ≤ _; omega, fun p4 hp4 => ?_⟩⟩
  have g2 := s3.1 _ _ (AH.put_same (a := p3) (o := .lst (rows1 ++ rows2)))
  refine (wAdd_rr (by rw [AH.put_ne (h_ne g2 hp4)]; exact g2) AH.put_same).mpr ⟨by rw [List.length_append, r1.length, r2.length, r3.length, sizeLine_eq]; show 9 ≤ _; omega, fun p5 hp5 => ?_⟩
  refine ⟨_, rfl, R4 _ _ _ fun A4 rows4 s4 r4 => ⟨by rw [r4.length, sizeLine_eq]; show 1 ≤ _; omega, fun p6 hp6 => ?_⟩⟩
  have g3 := s4.1 _ _ (AH.put_same (a := p5) (o := .lst ((rows1 ++ rows2) ++ rows3)))
  refine (wAdd_rr (by rw [AH.put_ne (h_ne g3 hp6)]; exact g3) AH.put_same).mpr ⟨by rw [List.length_append, List.length_append, r1.length, r2.length, r3.length, r4.length, sizeLine_eq]; show 10 ≤ _; omega, fun p7 hp7 => ?_⟩
  have t4 : A4.Sub ((A4.put p6 (.lst rows4)).put p7 (.lst (((rows1 ++ rows2) ++ rows3) ++ rows4))) := ((AH.Sub.refl A4).put' hp6).put' hp7
  have t3 := (((AH.Sub.refl A3).put' hp4).put' hp5).trans (s4.trans t4)
  have t2 := (((AH.Sub.refl A2).put' hp2).put' hp3).trans (s3.trans t3)
  have t1 := ((AH.Sub.refl A1).put' hp1).trans (s2.trans t2)
  exact fg_i (q p7 _ _ (s1.trans t1) AH.put_same ((((r1.sub t1).append (r2.sub t2)).append (r3.sub t3)).append (r4.sub t4)))
end
end Wx

set_option Elab.async false
set_option linter.all false
set_option maxRecDepth 100000
set_option maxHeartbeats 400000
namespace Wx
open PySem L2
section
variable {P : Program} {w : World} {K : PySem.W.Frag} {mg : Str → Option Value} {base : Heap} {cl : Str → Addr}
theorem ok_made (T : Txt P w K mg base cl) {f : Addr} {fd : FuncData} (F : Fun K "_law_made_errors" "_law_made_errors" s__law_made_errors f fd) : FnB false P w K mg base 3 f fd ["one", "two", "three"] (spL K (sp__law_made_errors cl)) :=
  fnW (t := t__law_made_errors K cl) F sc__law_made_errors (fun ws A Q E ⟨_, _, _, e, _⟩ => by rw [e]; rfl) (d__law_made_errors T) rd_made
theorem put_get {A : AH} {e p : Addr} {o o2 : WO} (he : A.h e = some o) (h : A.h p = none) : (A.put p o2).h e = some o := by rw [AH.put_ne (h_ne he h)]; exact he
/-! _law_kinds -/
theorem isi_ok (T : Txt P w K mg base cl) {A : AH} {Q : VKw} {e : Addr} {c X : Str} {fs : List (Str × W)} {ω : Sw} (he : A.h e = some (.exn (cl c) fs)) (hc : c ∈ kinds12) (hX : X ∈ kinds12) (h0 : ω[0]? = some (some (.ref e))) (q : Q (.bl (c == X)) A) :
    wCB (wIsi K) (wCons (wVar 0) (wCons (wC (.ref (cl X))) wNil)) ω A Q :=
  ⟨_, h0, ⟨.ref e, .ref (cl X), .ref (cl c), .ref (cl X), c == X, rfl, .inr ⟨_, rfl, rfl⟩, .inr (.inr ⟨_, _, he, T.ec c hc, T.ek, rfl⟩), T.kit c hc X hX, q⟩⟩
theorem rd_kinds (T : Txt P w K mg base cl) : ∀ ws A Q E, sp__law_kinds K cl ws A Q E → t__law_kinds K cl (fun _ => fgE E) { nx := fun _ A' => fg Q .non A', rt := fg Q } (startW n__law_kinds ws) A := by
  rintro ws A Q E ⟨e, c, fs, rfl, he, hc, q⟩
  unfold t__law_kinds
  rw [show startW n__law_kinds [W.ref e] = [some (.ref e), none] from rfl]
  simp only [wSeq_eq, wAsg_eq, wLst_eq, wOp_eq, wRet_eq, wgName_eq, wCons_eq, wNil_eq]
  have m : ∀ {i : Nat} {x : Str}, kinds12[i]? = some x → x ∈ kinds12 := fun h => List.mem_of_getElem? h
  refine isi_ok T he hc (m (i := 0) rfl) rfl (isi_ok T he hc (m (i := 1) rfl) rfl (isi_ok T he hc (m (i := 2) rfl) rfl (isi_ok T he hc (m (i := 3) rfl) rfl ⟨by rw [sizeLine_eq]; show 4 ≤ _; omega, fun p1 h1 => ?_⟩)))
  have e1 : (A.put p1 (.lst [.bl (c == "BadText"), .bl (c == "BadName"), .bl (c == "BadNumber"), .bl (c == "BadRow")])).h e = some (.exn (cl c) fs) := by rw [AH.put_ne (h_ne he h1)]; exact he
  refine ⟨_, rfl, isi_ok T e1 hc (m (i := 4) rfl) rfl (isi_ok T e1 hc (m (i := 5) rfl) rfl (isi_ok T e1 hc (m (i := 6) rfl) rfl (isi_ok T e1 hc (m (i := 7) rfl) rfl ⟨by rw [sizeLine_eq]; show 4 ≤ _; omega, fun p2 h2 => ?_⟩)))⟩
  refine (wAdd_rr (by rw [AH.put_ne (h_ne AH.put_same h2), AH.put_same]) AH.put_same).mpr ⟨by rw [sizeLine_eq]; show 8 ≤ _; omega, fun p3 h3 => ?_⟩
  refine ⟨_, rfl, isi_ok T (put_get (put_get e1 h2) h3) hc (m (i := 8) rfl) rfl (isi_ok T (put_get (put_get e1 h2) h3) hc (m (i := 9) rfl) rfl (isi_ok T (put_get (put_get e1 h2) h3) hc (m (i := 10) rfl) rfl ⟨by rw [sizeLine_eq]; show 3 ≤ _; omega, fun p4 h4 => ?_⟩))⟩
  refine (wAdd_rr (by rw [AH.put_ne (h_ne AH.put_same h4), AH.put_same]) AH.put_same).mpr ⟨by rw [sizeLine_eq]; show 11 ≤ _; omega, fun p5 h5 => ?_⟩
  refine ⟨_, rfl, isi_ok T (put_get (put_get (put_get (put_get e1 h2) h3) h4) h5) hc (m (i := 11) rfl) rfl ⟨by rw [sizeLine_eq]; show 1 ≤ _; omega, fun p6 h6 => ?_⟩⟩
  refine (wAdd_rr (by rw [AH.put_ne (h_ne AH.put_same h6), AH.put_same]) AH.put_same).mpr ⟨by rw [sizeLine_eq]; show 12 ≤ _; omega, fun p7 h7 => ?_⟩
  refine fg_i (q p7 _ ?_ AH.put_same)
  exact ((((((((AH.Sub.refl A).put' h1).put' h2).put' h3).put' h4).put' h5).put' h6).put' h7)
theorem ok_kinds (T : Txt P w K mg base cl) {f : Addr} {fd : FuncData} (F : Fun K "_law_kinds" "_law_kinds" s__law_kinds f fd) : FnB false P w K mg base 1 f fd ["one"] (spL K (sp__law_kinds K cl)) :=
  fnW (t := t__law_kinds K cl) F sc__law_kinds (fun ws A Q E ⟨_, _, _, e, _⟩ => by rw [e]; rfl) (d__law_kinds T) (rd_kinds T)
end
end Wx

set_option Elab.async false
set_option linter.all false
set_option maxRecDepth 100000
set_option maxHeartbeats 400000
namespace Wx
open PySem L2
/-! a comprehension whose element is a plain function of the item -/
theorem lc_map {g : TGw} {tt : TTw} {te : TEw} {ωw : Sw} {gd : AH → Prop} {p : Addr} {Q : VKw} {A : AH} {f : W → W} (hp : A.h p = none) (hgd : ∀ A', A.Sub A' → gd A') : ∀ (ws acc : List W),
    (∀ w ∈ ws, ∀ (A' : AH) (k : VKw) (k' : AH → Prop), A.Sub A' → k (f w) A' → g w ωw A' fun ω2 A2 => tt ω2 A2 fun b A3 => if b = true then te ω2 A3 k else k' A3) →
    acc.length + ws.length < sizeLine → Q (.ref p) (A.put p (.lst (acc ++ ws.map f))) → lcLoop g tt te ωw gd p Q ws (A.put p (.lst acc))
  | [], acc, _, _, q => ⟨hgd _ (AH.Sub.put hp), by rw [List.map_nil, List.append_nil] at q; exact q⟩
  | w :: ws, acc, hs, hl, q => ⟨hgd _ (AH.Sub.put hp), hs w List.mem_cons_self _ _ _ (AH.Sub.put hp) ⟨acc, AH.put_same, by rw [List.length_cons] at hl; omega, by
      rw [AH.put_put]
      refine lc_map hp hgd ws (acc ++ [f w]) (fun w' h' => hs w' (List.mem_cons_of_mem _ h')) (by rw [List.length_append, List.length_cons] at *; simp; omega) ?_
      rw [List.append_assoc]
      exact q⟩⟩
theorem textFrom_le : ∀ (ts : List Str) (k : Nat) (acc : Str), (textFrom k acc ts).length ≤ acc.length + (ts.map fun t => t.length + 2).sum
  | [], _, acc => by simp [textFrom]
  | t :: ts, k, acc => by
    have h := textFrom_le ts (k + 1) (acc ++ (if k > 0 then ", " else "" : String) ++ t)
    have e : (acc ++ (if k > 0 then ", " else "" : String) ++ t).length ≤ acc.length + 2 + t.length := by
      rw [strLen_append, strLen_append]
      have : ((if k > 0 then ", " else "" : String) : Str).length ≤ 2 := by split <;> decide
      omega
    show (textFrom (k + 1) _ ts).length ≤ _
    simp only [List.map_cons, List.sum_cons]
    omega
theorem good_list {ds : List PyData} (h : ∀ d ∈ ds, GoodD d) (l : ds.length ≤ 3) : PyData.showable (.list ds) = true ∧ PyData.hasDict (.list ds) = false ∧ PyData.depth (.list ds) ≤ 60 ∧ (PyData.shown (.list ds)).length ≤ sizeLine := by
  have h1 : PyData.showableAll ds = true ∧ PyData.hasDictAll ds = false ∧ PyData.depthAll ds ≤ 5 ∧ ((PyData.shownAll ds).map fun t => t.length + 2).sum ≤ 1002 * ds.length := by
    clear l
    induction ds with
    | nil => exact ⟨by simp only [PyData.showableAll], by simp only [PyData.hasDictAll], by simp only [PyData.depthAll]; omega, by simp [PyData.shownAll]⟩
    | cons d ds ih =>
      obtain ⟨a, b, c, e⟩ := ih fun x hx => h x (List.mem_cons_of_mem _ hx)
      obtain ⟨g1, g2, g3, g4⟩ := h d List.mem_cons_self
      refine ⟨by simp only [PyData.showableAll, g1, a, Bool.and_self], by simp only [PyData.hasDictAll, g2, b, Bool.or_self], by simp only [PyData.depthAll]; omega, ?_⟩
      simp only [PyData.shownAll, List.map_cons, List.sum_cons, List.length_cons]
      omega
  obtain ⟨a, b, c, e⟩ := h1
  refine ⟨by simpa only [PyData.showable] using a, by simpa only [PyData.hasDict] using b, by simp only [PyData.depth]; omega, ?_⟩
  simp only [PyData.shown]
  have := textFrom_le (PyData.shownAll ds) 0 "["
  show (textFrom 0 "[" (PyData.shownAll ds) ++ "]").length ≤ _
  rw [strLen_append, sizeLine_eq]
  have e1 : (("[" : String) : Str).length = 1 := by decide
  have e2 : (("]" : String) : Str).length = 1 := by decide
  omega
end Wx

set_option Elab.async false
set_option linter.all false
set_option maxRecDepth 100000
set_option maxHeartbeats 800000
namespace Wx
open PySem L2
section
variable {P : Program} {w : World} {K : PySem.W.Frag} {mg : Str → Option Value} {base : Heap} {cl : Str → Addr}
def iterL (cl : Str → Addr) : TIw := (wEnum (wCons (wOp wAdd (wCall (sp__law_made_errors cl) [] (wCons (wOp wIx (wVar 2) (wC (.int 0))) (wCons (wOp wIx (wVar 2) (wC (.int 1))) (wCons (wOp wIx (wVar 2) (wC (.int 2))) wNil)))) (wLst (wCons (wTup (wCons (wMkx0 (cl "NothingToUndo")) (wCons (wLst wNil) wNil))) (wCons (wTup (wCons (wMkx0 (cl "NothingToRedo")) (wCons (wLst wNil) wNil))) wNil)))) wNil))
def tgL : TGw := (wgTup 2 (wgCons (wgName 3) (wgCons (wgName 4) wgNil)))
def bodyL (K : PySem.W.Frag) (cl : Str → Addr) : TSw := (wSeq (wAsg (wVar 4) (wgTup 2 (wgCons (wgName 5) (wgCons (wgName 6) wgNil)))) (wSeq (wIfS (wOr (wNot (wTest (wCB (wIsi K) (wCons (wVar 5) (wCons (wC (.ref (cl "DeedsError"))) wNil))))) (wNot (wTest (wCB (wIsi K) (wCons (wVar 5) (wCons (wC (.ty "ValueError")) wNil)))))) (wRet (wC (.bl false))) wNext) (wSeq (wAsg (wSl (wVar 2) wNoPart (wPart (wCB wLen (wCons (wVar 6) wNil)))) (wgName 7)) (wSeq (wIfS (wTest (wOp (wEqS false) (wCB wRepr (wCons (wCall (sp__law_fields K) [] (wCons (wVar 5) (wCons (wVar 6) wNil))) wNil)) (wCB wRepr (wCons (wVar 7) wNil)))) (wRet (wC (.bl false))) wNext) (wIfS (wTest (wOp (wEqD false) (wCall (sp__law_kinds K cl) [] (wCons (wVar 5) wNil)) (wLc (wRng1 (wCons (wC (.int 12)) wNil)) (wgName 8) wYes (wOp (wEqS true) (wVar 8) (wVar 3)) [8]))) (wRet (wC (.bl false))) wNext)))))
def tailL (K : PySem.W.Frag) (cl : Str → Addr) (Ew : XSw) : TSw := (wSeq (wAsg (wLst (wCons (wC (.int 1)) (wCons (wLst (wCons (wC (.int 2)) wNil)) wNil))) (wgName 9)) (wSeq (wAsg (wMkx (cl "BadRow") ["what", "row"] (wCons (wC (.str "x")) (wCons (wVar 9) wNil))) (wgName 10)) (wSeq (wDrop (wBM "list" wAppend (wVar 9) (wCons (wC (.int 3)) wNil))) (wSeq (wIfS (wTest (wOp (wEqD false) (wXf K "row" (wVar 10)) (wLst (wCons (wC (.int 1)) (wCons (wLst (wCons (wC (.int 2)) wNil)) (wCons (wC (.int 3)) wNil)))))) (wRet (wC (.bl false))) wNext) (wSeq (wAsg (wLst wNil) (wgName 11)) (wSeq (wTry (fun C => PySem.W.exmOne K (.ref C) (.ref (cl "DeedsError"))) 12 (fun Ew => (wRaise (cl "NotThere") ["what"] (wCons (wLst (wCons (wC (.int 1)) (wCons (wLst (wCons (wC (.int 2)) wNil)) (wCons (wC (.int 3)) wNil)))) wNil) Ew)) (fun xa xC xd => (wDrop (wBM "list" wAppend (wVar 11) (wCons (wAndV (wCB (wIsS K xa xC xd) (wCons (wVar 12) (wCons (wC (.ty "ValueError")) wNil))) (wAndV (wCB (wIsS K xa xC xd) (wCons (wVar 12) (wCons (wC (.ref (cl "NotThere"))) wNil))) (wOp (wEqD true) (wSf K xa xC xd "what" (wVar 12)) (wLst (wCons (wC (.int 1)) (wCons (wLst (wCons (wC (.int 2)) wNil)) (wCons (wC (.int 3)) wNil))))))) wNil)))) Ew) (wRet (wOp (wEqD true) (wVar 11) (wLst (wCons (wC (.bl true)) wNil))))))))))
theorem t_law_eq {K : PySem.W.Frag} {cl : Str → Addr} {Ew : XSw} : t_law K cl Ew = wSeq (wAsg (wCall (sp__law_pen) [] (wCons (wVar 0) wNil)) (wgName 1)) (wSeq (wAsg (wLst (wCons (wCall (sp__law_value) [] (wCons (wVar 1) wNil)) (wCons (wCall (sp__law_value) [] (wCons (wVar 1) wNil)) (wCons (wCall (sp__law_value) [] (wCons (wVar 1) wNil)) wNil)))) (wgName 2)) (wSeq (wFor (iterL cl) tgL (bodyL K cl)) (tailL K cl Ew))) := rfl

theorem slz {n : Nat} (h : n ≤ 1000) : n ≤ sizeLine := by rw [sizeLine_eq]; omega
theorem slt {n : Nat} (h : n ≤ 1000) : n < sizeLine := by rw [sizeLine_eq]; omega
/-- [1, [2], 3] at p -/
def isK (A : AH) (p : Addr) : Prop := ∃ r, A.h p = some (.lst [.int 1, .ref r, .int 3]) ∧ A.h r = some (.lst [.int 2])
theorem isK.dl {A : AH} {p : Addr} (h : isK A p) : DL A (.list [.int 1, .list [.int 2], .int 3]) (.ref p) := by
  obtain ⟨r, h1, h2⟩ := h
  exact DL.list h1 (.cons (by simp only [DL]) (.cons (DL.list h2 (.cons (by simp only [DL]) .nil)) (.cons (by simp only [DL]) .nil)))
theorem isK.sub {A B : AH} {p : Addr} (h : isK A p) (s : A.Sub B) : isK B p := let ⟨r, h1, h2⟩ := h; ⟨r, s.1 _ _ h1, s.1 _ _ h2⟩
/-- the display of it -/
theorem k_disp {A : AH} {ω : Sw} {Q : VKw} (k : ∀ A1 p, A.Sub A1 → isK A1 p → Q (.ref p) A1) : wLst (wCons (wC (.int 1)) (wCons (wLst (wCons (wC (.int 2)) wNil)) (wCons (wC (.int 3)) wNil))) ω A Q := by
  simp only [wLst_eq, wC_eq, wCons_eq, wNil_eq]
  refine ⟨slz (by simp), fun p1 h1 => ⟨slz (by simp), fun p2 h2 => k _ _ (((AH.Sub.refl A).put' h1).put' h2) ⟨p1, AH.put_same, ?_⟩⟩⟩
  rw [AH.put_ne (h_ne AH.put_same h2), AH.put_same]
theorem neD_no {A : AH} {x y : W} {Q : VKw} (d : PyData) (h1 : DL A d x) (h2 : DL A d y) (hs : SeqAt.shaped d = true) (he : PyData.eqv d d = true) (q : Q (.bl false) A) : wEqD false x y A Q := ⟨d, d, h1, h2, hs, hs, by rw [he]; exact q⟩
theorem eqD_yes {A : AH} {x y : W} {Q : VKw} (d : PyData) (h1 : DL A d x) (h2 : DL A d y) (hs : SeqAt.shaped d = true) (he : PyData.eqv d d = true) (q : Q (.bl true) A) : wEqD true x y A Q := ⟨d, d, h1, h2, hs, hs, by rw [he]; exact q⟩
abbrev kD : PyData := .list [.int 1, .list [.int 2], .int 3]
theorem tail_ok (T : Txt P w K mg base cl) {x0 x1 x2 x3 x4 x5 x6 x7 x8 : Option W} {A : AH} {D : Dw} {Ew : XSw} (q : ∀ A', D.rt (.bl true) A') : tailL K cl Ew D [x0, x1, x2, x3, x4, x5, x6, x7, x8, none, none, none, none] A := by
  unfold tailL
  simp only [wSeq_eq, wAsg_eq, wgName_eq, wDrop_eq, wIfS_eq, wTest_eq, wOp_eq, wRet_eq, wNext_eq]
  simp only [wLst_eq (tA := wCons (wC (.int 1)) (wCons (wLst (wCons (wC (.int 2)) wNil)) wNil)), wLst_eq (tA := wCons (wC (.int 2)) wNil), wMkx_eq, wVar_eq, wBM_eq, wXf_eq, wCons_eq, wNil_eq, wC_eq]
  refine ⟨slz (by simp), fun p1 h1 => ⟨slz (by simp), fun p2 h2 => ?_⟩⟩
  have mBR : ("BadRow" : Str) ∈ kinds12 := List.mem_of_getElem? (i := 3) rfl
  have mNT : ("NotThere" : Str) ∈ kinds12 := List.mem_of_getElem? (i := 7) rfl
  refine ⟨_, rfl, rfl, by simp, fun e he => ?_⟩
  have n12 : p1 ≠ p2 := h_ne AH.put_same h2
  have n1e : p1 ≠ e := h_ne (put_get AH.put_same h2) he
  have n2e : p2 ≠ e := h_ne AH.put_same he
  refine ⟨_, rfl, (tyW_list (put_get AH.put_same he)).mpr trivial, p2, [.int 1, .ref p1], .int 3, rfl, rfl, put_get AH.put_same he, slt (by simp), ?_⟩
  refine ⟨_, rfl, e, cl "BadRow", _, _, rfl, (T.ec _ mBR).xf, T.no ("BadRow", ["what", "row"]) (List.mem_of_getElem? (i := 3) rfl) "row" (List.mem_of_getElem? (i := 1) rfl), by rw [AH.put_ne n2e.symm, AH.put_same], rfl, ?_⟩
  refine k_disp fun A5 p5 s5 k5 => ?_
  have k2 : isK A5 p2 := isK.sub ⟨p1, AH.put_same, by rw [AH.put_ne n12, AH.put_ne n1e, AH.put_ne n12, AH.put_same]⟩ s5
  refine neD_no kD k2.dl k5.dl rfl rfl ?_
  simp only [asB_bl, Bool.false_eq_true, if_false, wLst_eq (tA := wNil), wNil_eq]
  refine ⟨slz (by simp), fun pf hpf => ?_⟩
  intro tp htp
  rw [wRaise_eq, wCons_eq]
  refine k_disp fun A7 p7 s7 k7 => ?_
  rw [wNil_eq]
  refine ⟨rfl, by simp, ?_⟩
  refine ⟨s7.2.2, true, T.exm, fun _ => ⟨fun z => (by cases z), fun xa dd ha hd => ?_⟩, fun z => (by cases z)⟩
  have g7 : A7.h pf = some (.lst []) := s7.1 _ _ AH.put_same
  have g8 : (A7.put dd (.xd ((["what"] : List Str).zip [W.ref p7]).reverse)).h pf = some (.lst []) := put_get g7 hd
  simp only [wDrop_eq, wBM_eq, wVar_eq, wCons_eq, wNil_eq, wCB_eq, wOp_eq, wSf_eq, wAndV_eq, wC_eq]
  refine ⟨_, rfl, (tyW_list g8).mpr trivial, ?_⟩
  refine ⟨.ref xa, rfl, .ty "ValueError", .type "ValueError", true, rfl, .inl ⟨_, rfl, rfl⟩, T.ec _ mNT, T.ek, .inr ⟨dd, _, rfl, AH.put_same⟩, T.kitV _ mNT, ?_⟩
  simp only [asB_bl, eq_self, if_true]
  refine ⟨.ref xa, rfl, .ref (cl "NotThere"), .ref (cl "NotThere"), true, rfl, .inr ⟨_, rfl, rfl⟩, T.ec _ mNT, T.ek, .inr ⟨dd, _, rfl, AH.put_same⟩, (T.kit _ mNT _ mNT).trans rfl, ?_⟩
  simp only [asB_bl, eq_self, if_true]
  refine ⟨(T.ec _ mNT).xf, T.no ("NotThere", ["what"]) (List.mem_of_getElem? (i := 7) rfl) "what" (List.mem_of_getElem? (i := 0) rfl), _, rfl, rfl, dd, _, _, rfl, AH.put_same, rfl, k_disp fun A9 p9 s9 k9 => ?_⟩
  refine eqD_yes kD ((k7.sub (AH.Sub.put hd)).sub s9).dl k9.dl rfl rfl ?_
  refine ⟨pf, [], .bl true, rfl, rfl, s9.1 _ _ g8, slt (by simp), ?_⟩
  simp only [wRet_eq, wOp_eq, wVar_eq, wLst_eq, wCons_eq, wNil_eq, wC_eq]
  refine ⟨_, rfl, slz (by simp), fun pz hz => eqD_yes (.list [.bool true]) (DL.list (put_get AH.put_same hz) (.cons (by simp only [DL]) .nil)) (DL.list AH.put_same (.cons (by simp only [DL]) .nil)) rfl rfl (q _)⟩
end
end Wx

set_option Elab.async false
set_option linter.all false
set_option maxRecDepth 100000
set_option maxHeartbeats 800000
namespace Wx
open PySem L2
section
variable {P : Program} {w : World} {K : PySem.W.Frag} {mg : Str → Option Value} {base : Heap} {cl : Str → Addr}
def specs12 : List (Str × List Str) := specs10 ++ [(("NothingToUndo" : Str), []), ("NothingToRedo", [])]
theorem Rws.get {A : AH} {vals : List W} : ∀ {rows : List W} {specs : List (Str × List Str)} {k : Nat} {row : W}, Rws A cl vals rows specs → rows[k]? = some row → ∃ c fs, specs[k]? = some (c, fs) ∧ ∃ e l, row = .tup [.ref e, .ref l] ∧ A.h e = some (.exn (cl c) (fs.zip vals).reverse) ∧ A.h l = some (.lst (fs.map W.str))
  | [], [], k, row, _, h => by simp at h
  | row :: rows, (c, fs) :: specs, 0, r, h, e => by
    simp at e
    subst e
    exact ⟨c, fs, rfl, h.1⟩
  | row :: rows, (c, fs) :: specs, k + 1, r, h, e => by
    rw [List.getElem?_cons_succ] at e
    obtain ⟨c', fs', e1, e2⟩ := Rws.get h.2 e
    exact ⟨c', fs', by rw [List.getElem?_cons_succ]; exact e1, e2⟩
theorem pen_sub {A B : AH} {p : Addr} {n : Nat} (s : (A.pn p n).Sub B) : B.pen = some (p, n) := by
  rcases s.2.1 with e | e
  · cases e
  · exact e.symm
def bs (k : Nat) : List Bool := kinds12.map (fun x => (kinds12[k]?.getD "") == x)
def dK (k : Nat) : PyData := .list ((bs k).map .bool)
theorem dK_ok : ∀ k, k < 12 → SeqAt.shaped (dK k) = true ∧ PyData.eqv (dK k) (dK k) = true ∧ (List.range 12).map (fun i => decide ((0 + ((i : Nat) : Int)) = (k : Int))) = bs k := by decide +kernel
theorem kinds_at : ∀ k, k < 12 → (specs12[k]?.map (·.1)) = kinds12[k]? := by decide +kernel
theorem spec_ok {c : Str} {fs : List Str} (h : (c, fs) ∈ specs12) : c ∈ kinds12 ∧ fs.length ≤ 3 ∧ (∀ f ∈ fs, f ∈ names10) ∧ ∀ v0 v1 v2 : W, fs.map (fun f => ((fs.zip [v0, v1, v2]).reverse).lookup f) = ([v0, v1, v2].take fs.length).map some ∧ cut [v0, v1, v2] none (some ((fs.length : Nat) : Int)) = [v0, v1, v2].take fs.length := by
  simp only [specs12, specs10, List.cons_append, List.nil_append, List.mem_cons, List.not_mem_nil, or_false, Prod.mk.injEq] at h
  rcases h with ⟨rfl, rfl⟩ | ⟨rfl, rfl⟩ | ⟨rfl, rfl⟩ | ⟨rfl, rfl⟩ | ⟨rfl, rfl⟩ | ⟨rfl, rfl⟩ | ⟨rfl, rfl⟩ | ⟨rfl, rfl⟩ | ⟨rfl, rfl⟩ | ⟨rfl, rfl⟩ | ⟨rfl, rfl⟩ | ⟨rfl, rfl⟩
  all_goals exact ⟨by decide +kernel, by decide, by decide +kernel, fun v0 v1 v2 => ⟨rfl, rfl⟩⟩
theorem no_ok (T : Txt P w K mg base cl) {c : Str} {fs : List Str} (h : (c, fs) ∈ specs12) : ∀ f ∈ fs, PySem.W.findIn K (.ref (cl c)) f = some none := by
  unfold specs12 at h
  rcases List.mem_append.mp h with h | h
  · exact T.no _ h
  · simp only [List.mem_cons, List.not_mem_nil, or_false, Prod.mk.injEq] at h
    rcases h with ⟨_, rfl⟩ | ⟨_, rfl⟩ <;> (intro f hf; cases hf)
theorem neS_no {A : AH} {s : Str} {Q : VKw} (q : Q (.bl false) A) : wEqS false (.str s) (.str s) A Q := by
  show Q (.bl (!decide (s = s))) A
  rw [decide_eq_true rfl]
  exact q
theorem DLs.take {A : AH} : ∀ {ds : List PyData} {ws : List W} (n : Nat), DLs A ds ws → DLs A (ds.take n) (ws.take n)
  | ds, ws, 0, _ => by simp only [List.take_zero]; exact .nil
  | [], ws, n + 1, h => by simp only [DLs] at h; subst h; simp only [List.take_nil]; exact .nil
  | d :: ds, ws, n + 1, h => by
    simp only [DLs] at h
    obtain ⟨w, r, rfl, h1, h2⟩ := h
    simp only [List.take_succ_cons]
    exact .cons h1 (DLs.take n h2)
theorem DLs.bls {A : AH} : ∀ {l : List Bool}, DLs A (l.map .bool) (l.map W.bl)
  | [] => .nil
  | b :: l => .cons (by simp only [DL]) DLs.bls
theorem body_ok (T : Txt P w K mg base cl) {x0 x1 x5 x6 x7 x8 : Option W} {A : AH} {D : Dw} {pv e l : Addr} {k : Nat} {c : Str} {fs : List Str} {v0 v1 v2 : W} {d0 d1 d2 : PyData} (hk : k < 12) (hs : specs12[k]? = some (c, fs)) (hpv : A.h pv = some (.lst [v0, v1, v2])) (dl : DLs A [d0, d1, d2] [v0, v1, v2]) (g0 : GoodD d0) (g1 : GoodD d1) (g2 : GoodD d2)
    (he : A.h e = some (.exn (cl c) (fs.zip [v0, v1, v2]).reverse)) (hl : A.h l = some (.lst (fs.map W.str)))
    (q : ∀ y5 y6 y7 y8 A', A.Sub A' → D.nx [x0, x1, some (.ref pv), some (.int k), some (.tup [.ref e, .ref l]), y5, y6, y7, y8, none, none, none, none] A') :
    bodyL K cl D [x0, x1, some (.ref pv), some (.int k), some (.tup [.ref e, .ref l]), x5, x6, x7, x8, none, none, none, none] A := by
  have hm := List.mem_of_getElem? hs
  obtain ⟨hc, hl3, hn10, hcut⟩ := spec_ok hm
  obtain ⟨hlk, hct⟩ := hcut v0 v1 v2
  have hkc : kinds12[k]? = some c := by rw [← kinds_at k hk, hs]; rfl
  obtain ⟨dk1, dk2, dk3⟩ := dK_ok k hk
  have hbs : bs k = kinds12.map fun x => (c == x) := by unfold bs; rw [hkc]; rfl
  have gds : ∀ d ∈ [d0, d1, d2].take fs.length, GoodD d := fun d hd => by
    have := List.mem_of_mem_take hd
    simp only [List.mem_cons, List.not_mem_nil, or_false] at this
    rcases this with rfl | rfl | rfl <;> assumption
  obtain ⟨s1, s2, s3, s4⟩ := good_list gds (by rw [List.length_take]; simp; omega)
  unfold bodyL
  simp only [wSeq_eq, wAsg_eq, wgTup_eq, wgCons_eq, wgNil_eq, wgName_eq, wIfS_eq, wOr_eq, wNot_eq, wTest_eq, wCB_eq, wVar_eq, wCons_eq, wNil_eq, wC_eq, wOp_eq, wSl_eq, wNoPart_eq, wPart_eq, wCall_eq, List.append_nil, wLen_eq, wNext_eq, wRet_eq, wLc_eq, wRng1_eq]
  refine ⟨_, rfl, _, rfl, rfl, _, _, rfl, _, _, rfl, rfl, ?_⟩
  refine ⟨.ref e, rfl, .ref e, .ref (cl "DeedsError"), .ref (cl c), .ref (cl "DeedsError"), true, rfl, .inr ⟨_, rfl, rfl⟩, .inr (.inr ⟨_, _, he, T.ec c hc, T.ek, rfl⟩), T.kitD c hc, ?_⟩
  simp only [asB_bl, Bool.not_true, Bool.false_eq_true, if_false]
  refine ⟨.ref e, rfl, .ref e, .ty "ValueError", .ref (cl c), .type "ValueError", true, rfl, .inl ⟨_, rfl, rfl⟩, .inr (.inr ⟨_, _, he, T.ec c hc, T.ek, rfl⟩), T.kitV c hc, ?_⟩
  simp only [asB_bl, Bool.not_true, Bool.false_eq_true, if_false]
  refine ⟨_, rfl, _, rfl, (lenW_isL (.inl hl)).mpr ⟨_, rfl, (rwSl_isL (.inl hpv)).mpr fun pd hpd => ?_⟩⟩
  rw [List.length_map, hct]
  have he1 : (A.put pd (.lst ([v0, v1, v2].take fs.length))).h e = some (.exn (cl c) (fs.zip [v0, v1, v2]).reverse) := by rw [AH.put_ne (h_ne he hpd)]; exact he
  have hl1 : (A.put pd (.lst ([v0, v1, v2].take fs.length))).h l = some (.lst (fs.map W.str)) := by rw [AH.put_ne (h_ne hl hpd)]; exact hl
  refine ⟨_, rfl, _, rfl, e, l, cl c, _, fs, [v0, v1, v2].take fs.length, rfl, he1, hl1, hl3, fun f hf => ⟨hn10 f hf, no_ok T hm f hf⟩, (T.ec c hc).xf, hlk, fun pp A2 t2 hpp => ?_⟩
  have dl2 := DLs.take fs.length (DLs.sub ((AH.Sub.put hpd).trans t2) _ _ dl)
  refine ⟨.ref pp, .list ([d0, d1, d2].take fs.length), rfl, DL.list hpp dl2, s1, s2, s3, s4, _, rfl, .ref pd, .list ([d0, d1, d2].take fs.length), rfl, DL.list (t2.1 _ _ AH.put_same) dl2, s1, s2, s3, s4, neS_no ?_⟩
  simp only [asB_bl, Bool.false_eq_true, if_false]
  refine ⟨_, rfl, e, c, _, rfl, t2.1 _ _ he1, hc, fun pk A3 t3 hpk => ?_⟩
  refine ⟨12, rfl, by decide, by decide, fun pD hD => ?_⟩
  have e12 : (wints 0 (12 : Int).toNat).map (fun w => match w with | .int i => W.bl (decide (i = (k : Int))) | _ => .non) = (bs k).map W.bl := by
    rw [← dk3]
    unfold wints
    rw [List.map_map, List.map_map]
    rfl
  refine lc_map (f := fun w => match w with | .int i => W.bl (decide (i = (k : Int))) | _ => .non) hD (fun _ _ => trivial) _ [] (fun w hw A' k1 k' _ hk1 => ?_) (by rw [wints_length, sizeLine_eq]; decide) ?_
  · unfold wints at hw
    obtain ⟨i, _, rfl⟩ := List.mem_map.mp hw
    exact ⟨_, rfl, _, rfl, hk1⟩
  · rw [e12, List.nil_append]
    refine neD_no (dK k) (DL.list (ws := (bs k).map W.bl) (by rw [AH.put_ne (h_ne hpk hD), hpk, hbs, List.map_map]; rfl) DLs.bls) (DL.list AH.put_same DLs.bls) dk1 dk2 ?_
    simp only [asB_bl, Bool.false_eq_true, if_false]
    exact q _ _ _ _ _ (((AH.Sub.put hpd).trans t2).trans (t3.put' hD))
end
end Wx

set_option Elab.async false
set_option linter.all false
set_option maxRecDepth 100000
set_option maxHeartbeats 800000
namespace Wx
open PySem L2
section
variable {P : Program} {w : World} {K : PySem.W.Frag} {mg : Str → Option Value} {base : Heap} {cl : Str → Addr}
theorem enumW_length {ws : List W} : (enumW ws).length = ws.length := by unfold enumW; simp
theorem rowsW2 {vals : List W} {ω : Sw} : RowsW cl vals ω (wCons (wTup (wCons (wMkx0 (cl "NothingToUndo")) (wCons (wLst wNil) wNil))) (wCons (wTup (wCons (wMkx0 (cl "NothingToRedo")) (wCons (wLst wNil) wNil))) wNil)) [("NothingToUndo", []), ("NothingToRedo", [])] :=
  rowsW_cons (fun A Q h => by simpa using h) (fun A Q h => by simpa [sizeLine_eq] using h) (rowsW_cons (fun A Q h => by simpa using h) (fun A Q h => by simpa [sizeLine_eq] using h) rowsW_nil)
mutual
theorem pnDL {A : AH} {p : Addr} {n : Nat} : ∀ {d : PyData} {w : W}, DL A d w → DL (A.pn p n) d w
  | .none, w, h => by simpa only [DL] using h
  | .bool _, w, h => by simpa only [DL] using h
  | .int _, w, h => by simpa only [DL] using h
  | .str _, w, h => by simpa only [DL] using h
  | .dict _, w, h => by simp only [DL] at h
  | .tuple ds, w, h => by
    simp only [DL] at h ⊢
    obtain ⟨ws, e, hs⟩ := h
    exact ⟨ws, e, pnDLs hs⟩
  | .list ds, w, h => by
    simp only [DL] at h ⊢
    obtain ⟨q, ws, e, hl, hs⟩ := h
    exact ⟨q, ws, e, hl, pnDLs hs⟩
theorem pnDLs {A : AH} {p : Addr} {n : Nat} : ∀ {ds : List PyData} {ws : List W}, DLs A ds ws → DLs (A.pn p n) ds ws
  | [], ws, h => by simpa only [DLs] using h
  | d :: ds, ws, h => by
    simp only [DLs] at h ⊢
    obtain ⟨w, r, e, h1, h2⟩ := h
    exact ⟨w, r, e, pnDL h1, pnDLs h2⟩
end
theorem rd_law (T : Txt P w K mg base cl) : ∀ ws A Q E, sp_law ws A Q E → t_law K cl (fun _ => fgE E) { nx := fun _ A' => fg Q .non A', rt := fg Q } (startW n_law ws) A := by
  rintro ws A Q E ⟨a, ns, rfl, ha, hn, hl, q⟩
  rw [t_law_eq]
  rw [show startW n_law [W.ref a] = [some (.ref a), none, none, none, none, none, none, none, none, none, none, none, none] from rfl]
  simp only [wSeq_eq, wAsg_eq, wLst_eq, wCall_eq, wCons_eq, wNil_eq, wVar_eq, wgName_eq, List.append_nil]
  refine ⟨_, rfl, a, ns, rfl, ha, hn, hl, fun p A1 hp1 s1 => ?_⟩
  refine ⟨_, rfl, p, 0, rfl, hp1, by decide, fun v0 d0 A2 s2 dl0 g0 => ?_⟩
  refine ⟨_, rfl, p, 1, rfl, pen_sub s2, by decide, fun v1 d1 A3 s3 dl1 g1 => ?_⟩
  refine ⟨_, rfl, p, 2, rfl, pen_sub s3, by decide, fun v2 d2 A4 s4 dl2 g2 => ⟨slz (by simp), fun pv hpv => ?_⟩⟩
  have dl : DLs (A4.put pv (.lst [v0, v1, v2])) [d0, d1, d2] [v0, v1, v2] := by
    have t4 := AH.Sub.put (o := .lst [v0, v1, v2]) hpv
    have h1 : DL A4 d1 v1 := DL.sub s4 _ _ (by exact (show DL (A3.pn p (2 + 1)) d1 v1 from by exact pnDL dl1))
    have h0 : DL A4 d0 v0 := DL.sub s4 _ _ (pnDL (DL.sub s3 _ _ (pnDL dl0)))
    exact .cons (DL.sub t4 _ _ h0) (.cons (DL.sub t4 _ _ h1) (.cons (DL.sub t4 _ _ dl2) .nil))
  rw [wFor_eq]
  unfold iterL
  simp only [wEnum_eq, wCons_eq, wNil_eq, wOp_eq, wCall_eq, wVar_eq, wC_eq, List.append_nil]
  refine ⟨_, rfl, (wIx_isL (.inl AH.put_same)).mpr ⟨v0, rfl, _, rfl, (wIx_isL (.inl AH.put_same)).mpr ⟨v1, rfl, _, rfl, (wIx_isL (.inl AH.put_same)).mpr ⟨v2, rfl, v0, v1, v2, rfl, fun pr rows A5 s5 hr r5 => ?_⟩⟩⟩⟩
  show wLst _ _ _ _
  rw [wLst_eq]
  refine rowsW2 (vals := [v0, v1, v2]) _ _ fun A6 rows2 s6 r6 => ⟨slz (by rw [r6.length]; decide), fun pq hpq => ?_⟩
  refine (wAdd_rr (put_get (s6.1 _ _ hr) hpq) AH.put_same).mpr ⟨slz (by rw [r5.length, r6.length]; decide), fun pz hpz => ?_⟩
  have t6 : A6.Sub ((A6.put pq (.lst rows2)).put pz (.lst (rows ++ rows2))) := ((AH.Sub.refl A6).put' hpq).put' hpz
  refine ⟨pz, rows ++ rows2, rfl, .inl AH.put_same, ?_⟩
  have hrw : Rws ((A6.put pq (.lst rows2)).put pz (.lst (rows ++ rows2))) cl [v0, v1, v2] (rows ++ rows2) specs12 := (r5.sub (s6.trans t6)).append (r6.sub t6)
  have hpv7 := (s5.trans (s6.trans t6)).1 _ _ (AH.put_same (A := A4) (a := pv) (o := .lst [v0, v1, v2]))
  have dl7 := DLs.sub (s5.trans (s6.trans t6)) _ _ dl
  have hz : ((A6.put pq (.lst rows2)).put pz (.lst (rows ++ rows2))).h pz = some (.lst (rows ++ rows2)) := AH.put_same
  generalize (A6.put pq (.lst rows2)).put pz (.lst (rows ++ rows2)) = A7 at *
  generalize rows ++ rows2 = rws at *
  have hlen : rws.length = 12 := hrw.length
  refine wLoop_ind (P := fun ws ω A => ∃ (k : Nat) (y3 y4 y5 y6 y7 y8 : Option W), k ≤ 12 ∧ ws = (enumW rws).drop k ∧ ω = [some (.ref a), some (.ref p), some (.ref pv), y3, y4, y5, y6, y7, y8, none, none, none, none] ∧ A7.Sub A) ?_ ?_ _ _ _ ⟨0, none, none, none, none, none, none, Nat.zero_le _, rfl, rfl, AH.Sub.refl A7⟩
  · rintro ω A' ⟨k, y3, y4, y5, y6, y7, y8, hk, _, rfl, sb⟩
    exact ⟨.inl (sb.1 _ _ hz), tail_ok T fun A'' => fg_i (q A'')⟩
  · rintro w0 ws ω A' kk hkk ⟨k, y3, y4, y5, y6, y7, y8, hk, hw, rfl, sb⟩
    have hlt : k < 12 := by
      apply Classical.byContradiction
      intro hh
      rw [List.drop_of_length_le (by rw [enumW_length, hlen]; omega)] at hw
      cases hw
    have hlt2 : k < (enumW rws).length := by rw [enumW_length, hlen]; exact hlt
    rw [List.drop_eq_getElem_cons hlt2] at hw
    obtain ⟨rfl, rfl⟩ := List.cons.inj hw
    obtain ⟨row, hrow, e0⟩ := enumW_get (List.getElem?_eq_getElem hlt2)
    obtain ⟨c, fs, hs, e, l, rfl, he, hl2⟩ := hrw.get hrow
    rw [e0]
    refine ⟨.inl (sb.1 _ _ hz), [.int (k : Nat), .tup [.ref e, .ref l]], rfl, rfl, _, _, rfl, _, _, rfl, rfl, ?_⟩
    exact body_ok T hlt hs (sb.1 _ _ hpv7) (DLs.sub sb _ _ dl7) g0 g1 g2 (sb.1 _ _ he) (sb.1 _ _ hl2) fun z5 z6 z7 z8 A'' sb2 => hkk _ _ ⟨k + 1, _, _, z5, z6, z7, z8, hlt, rfl, rfl, sb.trans sb2⟩
theorem ok_law (T : Txt P w K mg base cl) (C1 : Callee true P w K mg base 1 "_law_fields" ["one", "names"] (sp__law_fields K)) (C2 : Callee true P w K mg base 1 "_law_kinds" ["one"] (sp__law_kinds K cl)) (C3 : Callee true P w K mg base 3 "_law_made_errors" ["one", "two", "three"] (sp__law_made_errors cl)) (C4 : Callee true P w K mg base 1 "_law_pen" ["script"] sp__law_pen) (C5 : Callee true P w K mg base 3 "_law_value" ["pen"] sp__law_value)
    {f : Addr} {fd : FuncData} (F : Fun K "law" "law" s_law f fd) : FnB true P w K mg base 4 f fd ["script"] (spL K sp_law) :=
  fnW (t := t_law K cl) F sc_law (fun ws A Q E ⟨_, _, e, _⟩ => by rw [e]; rfl) (d_law T C1 C2 C3 C4 C5) (rd_law T)
end
end Wx

set_option Elab.async false
set_option linter.all false
set_option maxRecDepth 100000
set_option maxHeartbeats 4000000
namespace Wx
open PySem L2
def clOf (C0 C1 C2 C3 C4 C5 C6 C7 C8 C9 C10 C11 C12 : Addr) : Str → Addr := fun s => (([("BadName", C0), ("BadNumber", C1), ("BadRow", C2), ("BadText", C3), ("DeedsError", C4), ("NoName", C5), ("NotKept", C6), ("NotThere", C7), ("NothingToRedo", C8), ("NothingToUndo", C9), ("TakenName", C10), ("TooMany", C11), ("Unlike", C12)] : List (Str × Addr)).lookup s).getD 0
def bmVE : List Value := [.type "ValueError", .type "Exception", .type "BaseException", .type "object"]
def chk (K : PySem.W.Frag) (cl : Str → Addr) : Bool := kinds12.all (fun c => exB K (cl c)) && (exkB K && (kinds12.all (fun c => kinds12.all fun d => decide (PySem.W.kitOne K (.ref (cl c)) (.ref (cl d)) = some (c == d))) && (kinds12.all (fun c => decide (PySem.W.kitOne K (.ref (cl c)) (.ref (cl "DeedsError")) = some true)) &&
  (kinds12.all (fun c => decide (PySem.W.kitOne K (.ref (cl c)) (.type "ValueError") = some true)) && (specs10.all (fun s => s.2.all fun f => decide (PySem.W.findIn K (.ref (cl s.1)) f = some none)) && (decide (PySem.W.exmOne K (.ref (cl "NotThere")) (.ref (cl "DeedsError")) = some true) &&
  (PySem.W.excIn K (cl "NothingToUndo") bmVE "ValueError.__new__" && PySem.W.excIn K (cl "NothingToRedo") bmVE "ValueError.__new__")))))))
theorem chk_ok {K : PySem.W.Frag} {cl : Str → Addr} (h : chk K cl = true) : (∀ c ∈ kinds12, ExC K (cl c)) ∧ ExK K ∧ (∀ c ∈ kinds12, ∀ d ∈ kinds12, PySem.W.kitOne K (.ref (cl c)) (.ref (cl d)) = some (c == d)) ∧ (∀ c ∈ kinds12, PySem.W.kitOne K (.ref (cl c)) (.ref (cl "DeedsError")) = some true) ∧
    (∀ c ∈ kinds12, PySem.W.kitOne K (.ref (cl c)) (.type "ValueError") = some true) ∧ (∀ s ∈ specs10, ∀ f ∈ s.2, PySem.W.findIn K (.ref (cl s.1)) f = some none) ∧ PySem.W.exmOne K (.ref (cl "NotThere")) (.ref (cl "DeedsError")) = some true ∧
    PySem.W.excIn K (cl "NothingToUndo") bmVE "ValueError.__new__" = true ∧ PySem.W.excIn K (cl "NothingToRedo") bmVE "ValueError.__new__" = true := by
  unfold chk at h
  simp only [Bool.and_eq_true, List.all_eq_true, decide_eq_true_eq] at h
  obtain ⟨h1, h2, h3, h4, h5, h6, h7, h8, h9⟩ := h
  exact ⟨fun c hc => exB_ok (h1 c hc), exkB_ok h2, h3, h4, h5, h6, h7, h8, h9⟩
theorem all_mk {l : PySem.W.OpenLaw} {w : World} {K : PySem.W.Frag} {h : Heap} {mg : Str → Option Value} {fa C0 C1 C2 C3 C4 C5 C6 C7 C8 C9 C10 C11 C12 fBadName fBadNumber fBadRow fBadText fNoName fNotKept fNotThere fTakenName fTooMany fUnlike f_law_pen f_law_draw f_law_pick f_law_value f_law_fields f_law_made_errors f_law_kinds flaw : Addr} (X : K.In h) (G : h.Ns mainGlobals mg) (hfa : mg "law" = some (.ref fa))
    {odBadName anBadName odBadNumber anBadNumber odBadRow anBadRow odBadText anBadText odNoName anNoName odNotKept anNotKept odNotThere anNotThere odTakenName anTakenName odTooMany anTooMany odUnlike anUnlike od_law_pen an_law_pen od_law_draw an_law_draw od_law_pick an_law_pick od_law_value an_law_value od_law_fields an_law_fields od_law_made_errors an_law_made_errors od_law_kinds an_law_kinds odlaw anlaw : Option Addr} {slBadName slBadNumber slBadRow slBadText slNoName slNotKept slNotThere slTakenName slTooMany slUnlike sl_law_pen sl_law_draw sl_law_pick sl_law_value sl_law_fields sl_law_made_errors sl_law_kinds sllaw : Array (Option Value)} {ocBadName kVBadName dcBadName pmBadName cdBadName ctBadName ocBadNumber kVBadNumber dcBadNumber pmBadNumber cdBadNumber ctBadNumber ocBadRow kVBadRow dcBadRow pmBadRow cdBadRow ctBadRow ocBadText kVBadText dcBadText pmBadText cdBadText ctBadText ocNoName kVNoName dcNoName pmNoName cdNoName ctNoName ocNotKept kVNotKept dcNotKept pmNotKept cdNotKept ctNotKept ocNotThere kVNotThere dcNotThere pmNotThere cdNotThere ctNotThere ocTakenName kVTakenName dcTakenName pmTakenName cdTakenName ctTakenName ocTooMany kVTooMany dcTooMany pmTooMany cdTooMany ctTooMany ocUnlike kVUnlike dcUnlike pmUnlike cdUnlike ctUnlike oc_law_pen kV_law_pen dc_law_pen pm_law_pen cd_law_pen ct_law_pen oc_law_draw kV_law_draw dc_law_draw pm_law_draw cd_law_draw ct_law_draw oc_law_pick kV_law_pick dc_law_pick pm_law_pick cd_law_pick ct_law_pick oc_law_value kV_law_value dc_law_value pm_law_value cd_law_value ct_law_value oc_law_fields kV_law_fields dc_law_fields pm_law_fields cd_law_fields ct_law_fields oc_law_made_errors kV_law_made_errors dc_law_made_errors pm_law_made_errors cd_law_made_errors ct_law_made_errors oc_law_kinds kV_law_kinds dc_law_kinds pm_law_kinds cd_law_kinds ct_law_kinds oclaw kVlaw dclaw pmlaw cdlaw ctlaw : Value}
    (aBadName : PySem.W.nsIn K mainGlobals "BadName" = some (some (.ref C0)))
    (aBadNumber : PySem.W.nsIn K mainGlobals "BadNumber" = some (some (.ref C1)))
    (aBadRow : PySem.W.nsIn K mainGlobals "BadRow" = some (some (.ref C2)))
    (aBadText : PySem.W.nsIn K mainGlobals "BadText" = some (some (.ref C3)))
    (aDeedsError : PySem.W.nsIn K mainGlobals "DeedsError" = some (some (.ref C4)))
    (aNoName : PySem.W.nsIn K mainGlobals "NoName" = some (some (.ref C5)))
    (aNotKept : PySem.W.nsIn K mainGlobals "NotKept" = some (some (.ref C6)))
    (aNotThere : PySem.W.nsIn K mainGlobals "NotThere" = some (some (.ref C7)))
    (aNothingToRedo : PySem.W.nsIn K mainGlobals "NothingToRedo" = some (some (.ref C8)))
    (aNothingToUndo : PySem.W.nsIn K mainGlobals "NothingToUndo" = some (some (.ref C9)))
    (aTakenName : PySem.W.nsIn K mainGlobals "TakenName" = some (some (.ref C10)))
    (aTooMany : PySem.W.nsIn K mainGlobals "TooMany" = some (some (.ref C11)))
    (aUnlike : PySem.W.nsIn K mainGlobals "Unlike" = some (some (.ref C12)))
    (iBadName : PySem.W.findIn K (.ref C0) "__init__" = some (some (.ref fBadName)))
    (tBadName : PySem.W.typeIn K (.ref fBadName) = some (.type "function"))
    (lBadName : K.lookup fBadName = some ⟨ocBadName, odBadName, .func (PySem.W.fnOf "__init__" "BadName.__init__" (defArgs s_BadName) (defBody s_BadName) (defScope s_BadName) .none kVBadName dcBadName pmBadName anBadName cdBadName ctBadName), slBadName⟩)
    (cBadName : PySem.W.codeIn K cdBadName "BadName.__init__" = true)
    (kBadName : PySem.W.keepIn K (.ref fBadName) = true)
    (iBadNumber : PySem.W.findIn K (.ref C1) "__init__" = some (some (.ref fBadNumber)))
    (tBadNumber : PySem.W.typeIn K (.ref fBadNumber) = some (.type "function"))
    (lBadNumber : K.lookup fBadNumber = some ⟨ocBadNumber, odBadNumber, .func (PySem.W.fnOf "__init__" "BadNumber.__init__" (defArgs s_BadNumber) (defBody s_BadNumber) (defScope s_BadNumber) .none kVBadNumber dcBadNumber pmBadNumber anBadNumber cdBadNumber ctBadNumber), slBadNumber⟩)
    (cBadNumber : PySem.W.codeIn K cdBadNumber "BadNumber.__init__" = true)
    (kBadNumber : PySem.W.keepIn K (.ref fBadNumber) = true)
    (iBadRow : PySem.W.findIn K (.ref C2) "__init__" = some (some (.ref fBadRow)))
    (tBadRow : PySem.W.typeIn K (.ref fBadRow) = some (.type "function"))
    (lBadRow : K.lookup fBadRow = some ⟨ocBadRow, odBadRow, .func (PySem.W.fnOf "__init__" "BadRow.__init__" (defArgs s_BadRow) (defBody s_BadRow) (defScope s_BadRow) .none kVBadRow dcBadRow pmBadRow anBadRow cdBadRow ctBadRow), slBadRow⟩)
    (cBadRow : PySem.W.codeIn K cdBadRow "BadRow.__init__" = true)
    (kBadRow : PySem.W.keepIn K (.ref fBadRow) = true)
    (iBadText : PySem.W.findIn K (.ref C3) "__init__" = some (some (.ref fBadText)))
    (tBadText : PySem.W.typeIn K (.ref fBadText) = some (.type "function"))
    (lBadText : K.lookup fBadText = some ⟨ocBadText, odBadText, .func (PySem.W.fnOf "__init__" "BadText.__init__" (defArgs s_BadText) (defBody s_BadText) (defScope s_BadText) .none kVBadText dcBadText pmBadText anBadText cdBadText ctBadText), slBadText⟩)
    (cBadText : PySem.W.codeIn K cdBadText "BadText.__init__" = true)
    (kBadText : PySem.W.keepIn K (.ref fBadText) = true)
    (iNoName : PySem.W.findIn K (.ref C5) "__init__" = some (some (.ref fNoName)))
    (tNoName : PySem.W.typeIn K (.ref fNoName) = some (.type "function"))
    (lNoName : K.lookup fNoName = some ⟨ocNoName, odNoName, .func (PySem.W.fnOf "__init__" "NoName.__init__" (defArgs s_NoName) (defBody s_NoName) (defScope s_NoName) .none kVNoName dcNoName pmNoName anNoName cdNoName ctNoName), slNoName⟩)
    (cNoName : PySem.W.codeIn K cdNoName "NoName.__init__" = true)
    (kNoName : PySem.W.keepIn K (.ref fNoName) = true)
    (iNotKept : PySem.W.findIn K (.ref C6) "__init__" = some (some (.ref fNotKept)))
    (tNotKept : PySem.W.typeIn K (.ref fNotKept) = some (.type "function"))
    (lNotKept : K.lookup fNotKept = some ⟨ocNotKept, odNotKept, .func (PySem.W.fnOf "__init__" "NotKept.__init__" (defArgs s_NotKept) (defBody s_NotKept) (defScope s_NotKept) .none kVNotKept dcNotKept pmNotKept anNotKept cdNotKept ctNotKept), slNotKept⟩)
    (cNotKept : PySem.W.codeIn K cdNotKept "NotKept.__init__" = true)
    (kNotKept : PySem.W.keepIn K (.ref fNotKept) = true)
    (iNotThere : PySem.W.findIn K (.ref C7) "__init__" = some (some (.ref fNotThere)))
    (tNotThere : PySem.W.typeIn K (.ref fNotThere) = some (.type "function"))
    (lNotThere : K.lookup fNotThere = some ⟨ocNotThere, odNotThere, .func (PySem.W.fnOf "__init__" "NotThere.__init__" (defArgs s_NotThere) (defBody s_NotThere) (defScope s_NotThere) .none kVNotThere dcNotThere pmNotThere anNotThere cdNotThere ctNotThere), slNotThere⟩)
    (cNotThere : PySem.W.codeIn K cdNotThere "NotThere.__init__" = true)
    (kNotThere : PySem.W.keepIn K (.ref fNotThere) = true)
    (iTakenName : PySem.W.findIn K (.ref C10) "__init__" = some (some (.ref fTakenName)))
    (tTakenName : PySem.W.typeIn K (.ref fTakenName) = some (.type "function"))
    (lTakenName : K.lookup fTakenName = some ⟨ocTakenName, odTakenName, .func (PySem.W.fnOf "__init__" "TakenName.__init__" (defArgs s_TakenName) (defBody s_TakenName) (defScope s_TakenName) .none kVTakenName dcTakenName pmTakenName anTakenName cdTakenName ctTakenName), slTakenName⟩)
    (cTakenName : PySem.W.codeIn K cdTakenName "TakenName.__init__" = true)
    (kTakenName : PySem.W.keepIn K (.ref fTakenName) = true)
    (iTooMany : PySem.W.findIn K (.ref C11) "__init__" = some (some (.ref fTooMany)))
    (tTooMany : PySem.W.typeIn K (.ref fTooMany) = some (.type "function"))
    (lTooMany : K.lookup fTooMany = some ⟨ocTooMany, odTooMany, .func (PySem.W.fnOf "__init__" "TooMany.__init__" (defArgs s_TooMany) (defBody s_TooMany) (defScope s_TooMany) .none kVTooMany dcTooMany pmTooMany anTooMany cdTooMany ctTooMany), slTooMany⟩)
    (cTooMany : PySem.W.codeIn K cdTooMany "TooMany.__init__" = true)
    (kTooMany : PySem.W.keepIn K (.ref fTooMany) = true)
    (iUnlike : PySem.W.findIn K (.ref C12) "__init__" = some (some (.ref fUnlike)))
    (tUnlike : PySem.W.typeIn K (.ref fUnlike) = some (.type "function"))
    (lUnlike : K.lookup fUnlike = some ⟨ocUnlike, odUnlike, .func (PySem.W.fnOf "__init__" "Unlike.__init__" (defArgs s_Unlike) (defBody s_Unlike) (defScope s_Unlike) .none kVUnlike dcUnlike pmUnlike anUnlike cdUnlike ctUnlike), slUnlike⟩)
    (cUnlike : PySem.W.codeIn K cdUnlike "Unlike.__init__" = true)
    (kUnlike : PySem.W.keepIn K (.ref fUnlike) = true)
    (a_law_pen : PySem.W.nsIn K mainGlobals "_law_pen" = some (some (.ref f_law_pen)))
    (l_law_pen : K.lookup f_law_pen = some ⟨oc_law_pen, od_law_pen, .func (PySem.W.fnOf "_law_pen" "_law_pen" (defArgs s__law_pen) (defBody s__law_pen) (defScope s__law_pen) .none kV_law_pen dc_law_pen pm_law_pen an_law_pen cd_law_pen ct_law_pen), sl_law_pen⟩)
    (c_law_pen : PySem.W.codeIn K cd_law_pen "_law_pen" = true)
    (k_law_pen : PySem.W.keepIn K (.ref f_law_pen) = true)
    (a_law_draw : PySem.W.nsIn K mainGlobals "_law_draw" = some (some (.ref f_law_draw)))
    (l_law_draw : K.lookup f_law_draw = some ⟨oc_law_draw, od_law_draw, .func (PySem.W.fnOf "_law_draw" "_law_draw" (defArgs s__law_draw) (defBody s__law_draw) (defScope s__law_draw) .none kV_law_draw dc_law_draw pm_law_draw an_law_draw cd_law_draw ct_law_draw), sl_law_draw⟩)
    (c_law_draw : PySem.W.codeIn K cd_law_draw "_law_draw" = true)
    (k_law_draw : PySem.W.keepIn K (.ref f_law_draw) = true)
    (a_law_pick : PySem.W.nsIn K mainGlobals "_law_pick" = some (some (.ref f_law_pick)))
    (l_law_pick : K.lookup f_law_pick = some ⟨oc_law_pick, od_law_pick, .func (PySem.W.fnOf "_law_pick" "_law_pick" (defArgs s__law_pick) (defBody s__law_pick) (defScope s__law_pick) .none kV_law_pick dc_law_pick pm_law_pick an_law_pick cd_law_pick ct_law_pick), sl_law_pick⟩)
    (c_law_pick : PySem.W.codeIn K cd_law_pick "_law_pick" = true)
    (k_law_pick : PySem.W.keepIn K (.ref f_law_pick) = true)
    (a_law_value : PySem.W.nsIn K mainGlobals "_law_value" = some (some (.ref f_law_value)))
    (l_law_value : K.lookup f_law_value = some ⟨oc_law_value, od_law_value, .func (PySem.W.fnOf "_law_value" "_law_value" (defArgs s__law_value) (defBody s__law_value) (defScope s__law_value) .none kV_law_value dc_law_value pm_law_value an_law_value cd_law_value ct_law_value), sl_law_value⟩)
    (c_law_value : PySem.W.codeIn K cd_law_value "_law_value" = true)
    (k_law_value : PySem.W.keepIn K (.ref f_law_value) = true)
    (a_law_fields : PySem.W.nsIn K mainGlobals "_law_fields" = some (some (.ref f_law_fields)))
    (l_law_fields : K.lookup f_law_fields = some ⟨oc_law_fields, od_law_fields, .func (PySem.W.fnOf "_law_fields" "_law_fields" (defArgs s__law_fields) (defBody s__law_fields) (defScope s__law_fields) .none kV_law_fields dc_law_fields pm_law_fields an_law_fields cd_law_fields ct_law_fields), sl_law_fields⟩)
    (c_law_fields : PySem.W.codeIn K cd_law_fields "_law_fields" = true)
    (k_law_fields : PySem.W.keepIn K (.ref f_law_fields) = true)
    (a_law_made_errors : PySem.W.nsIn K mainGlobals "_law_made_errors" = some (some (.ref f_law_made_errors)))
    (l_law_made_errors : K.lookup f_law_made_errors = some ⟨oc_law_made_errors, od_law_made_errors, .func (PySem.W.fnOf "_law_made_errors" "_law_made_errors" (defArgs s__law_made_errors) (defBody s__law_made_errors) (defScope s__law_made_errors) .none kV_law_made_errors dc_law_made_errors pm_law_made_errors an_law_made_errors cd_law_made_errors ct_law_made_errors), sl_law_made_errors⟩)
    (c_law_made_errors : PySem.W.codeIn K cd_law_made_errors "_law_made_errors" = true)
    (k_law_made_errors : PySem.W.keepIn K (.ref f_law_made_errors) = true)
    (a_law_kinds : PySem.W.nsIn K mainGlobals "_law_kinds" = some (some (.ref f_law_kinds)))
    (l_law_kinds : K.lookup f_law_kinds = some ⟨oc_law_kinds, od_law_kinds, .func (PySem.W.fnOf "_law_kinds" "_law_kinds" (defArgs s__law_kinds) (defBody s__law_kinds) (defScope s__law_kinds) .none kV_law_kinds dc_law_kinds pm_law_kinds an_law_kinds cd_law_kinds ct_law_kinds), sl_law_kinds⟩)
    (c_law_kinds : PySem.W.codeIn K cd_law_kinds "_law_kinds" = true)
    (k_law_kinds : PySem.W.keepIn K (.ref f_law_kinds) = true)
    (alaw : PySem.W.nsIn K mainGlobals "law" = some (some (.ref flaw)))
    (llaw : K.lookup flaw = some ⟨oclaw, odlaw, .func (PySem.W.fnOf "law" "law" (defArgs s_law) (defBody s_law) (defScope s_law) .none kVlaw dclaw pmlaw anlaw cdlaw ctlaw), sllaw⟩)
    (claw : PySem.W.codeIn K cdlaw "law" = true)
    (klaw : PySem.W.keepIn K (.ref flaw) = true)
    (zValueError : PySem.W.nsIn K mainGlobals "ValueError" = some none)
    (zenumerate : PySem.W.nsIn K mainGlobals "enumerate" = some none)
    (zint : PySem.W.nsIn K mainGlobals "int" = some none)
    (zisinstance : PySem.W.nsIn K mainGlobals "isinstance" = some none)
    (zlen : PySem.W.nsIn K mainGlobals "len" = some none)
    (zlist : PySem.W.nsIn K mainGlobals "list" = some none)
    (zrange : PySem.W.nsIn K mainGlobals "range" = some none)
    (zrepr : PySem.W.nsIn K mainGlobals "repr" = some none)
    (hchk : chk K (clOf C0 C1 C2 C3 C4 C5 C6 C7 C8 C9 C10 C11 C12) = true)
    : ∃ fd : FuncData, (∀ (s : Shared) (v : Value), BindsTo s fd ⟨[v], []⟩ [("script", v)]) ∧ ∀ base : Heap, K.In base → base.Ns mainGlobals mg → FnB true l.prog w K mg base 4 fa fd ["script"] (spL K sp_law) := by
  have e := hfa.symm.trans (PySem.W.mg_of X G alaw)
  cases e
  obtain ⟨hec, hek, hkit, hkD, hkV, hno, hexm, hx1, hx2⟩ := chk_ok hchk
  have F_law_pen := fun_mk (st := s__law_pen) l_law_pen c_law_pen k_law_pen
  have F_law_draw := fun_mk (st := s__law_draw) l_law_draw c_law_draw k_law_draw
  have F_law_pick := fun_mk (st := s__law_pick) l_law_pick c_law_pick k_law_pick
  have F_law_value := fun_mk (st := s__law_value) l_law_value c_law_value k_law_value
  have F_law_fields := fun_mk (st := s__law_fields) l_law_fields c_law_fields k_law_fields
  have F_law_made_errors := fun_mk (st := s__law_made_errors) l_law_made_errors c_law_made_errors k_law_made_errors
  have F_law_kinds := fun_mk (st := s__law_kinds) l_law_kinds c_law_kinds k_law_kinds
  have Flaw := fun_mk (st := s_law) llaw claw klaw
  have FBadName := fun_mk (st := s_BadName) lBadName cBadName kBadName
  have FBadNumber := fun_mk (st := s_BadNumber) lBadNumber cBadNumber kBadNumber
  have FBadRow := fun_mk (st := s_BadRow) lBadRow cBadRow kBadRow
  have FBadText := fun_mk (st := s_BadText) lBadText cBadText kBadText
  have FNoName := fun_mk (st := s_NoName) lNoName cNoName kNoName
  have FNotKept := fun_mk (st := s_NotKept) lNotKept cNotKept kNotKept
  have FNotThere := fun_mk (st := s_NotThere) lNotThere cNotThere kNotThere
  have FTakenName := fun_mk (st := s_TakenName) lTakenName cTakenName kTakenName
  have FTooMany := fun_mk (st := s_TooMany) lTooMany cTooMany kTooMany
  have FUnlike := fun_mk (st := s_Unlike) lUnlike cUnlike kUnlike
  have m : ∀ {i : Nat} {x : Str}, kinds12[i]? = some x → x ∈ kinds12 := fun h => List.mem_of_getElem? h
  refine ⟨PySem.W.fnOf "law" "law" (defArgs s_law) (defBody s_law) (defScope s_law) .none kVlaw dclaw pmlaw anlaw cdlaw ctlaw, fun s v => .of_eq rfl, fun base _ _ => ?_⟩
  have T : Txt l.prog w K mg base (clOf C0 C1 C2 C3 C4 C5 C6 C7 C8 C9 C10 C11 C12) := {
    b_ValueError := PySem.W.mg_none_of X G zValueError,
    b_enumerate := PySem.W.mg_none_of X G zenumerate,
    b_int := PySem.W.mg_none_of X G zint,
    b_isinstance := PySem.W.mg_none_of X G zisinstance,
    b_len := PySem.W.mg_none_of X G zlen,
    b_list := PySem.W.mg_none_of X G zlist,
    b_range := PySem.W.mg_none_of X G zrange,
    b_repr := PySem.W.mg_none_of X G zrepr,
    m_BadName := PySem.W.mg_of X G aBadName,
    m_BadNumber := PySem.W.mg_of X G aBadNumber,
    m_BadRow := PySem.W.mg_of X G aBadRow,
    m_BadText := PySem.W.mg_of X G aBadText,
    m_DeedsError := PySem.W.mg_of X G aDeedsError,
    m_NoName := PySem.W.mg_of X G aNoName,
    m_NotKept := PySem.W.mg_of X G aNotKept,
    m_NotThere := PySem.W.mg_of X G aNotThere,
    m_NothingToRedo := PySem.W.mg_of X G aNothingToRedo,
    m_NothingToUndo := PySem.W.mg_of X G aNothingToUndo,
    m_TakenName := PySem.W.mg_of X G aTakenName,
    m_TooMany := PySem.W.mg_of X G aTooMany,
    m_Unlike := PySem.W.mg_of X G aUnlike,
    x_BadName := xm_BadName FBadName (hec _ (m (i := 1) rfl)).ox (PySem.W.mg_of X G aBadName) iBadName tBadName (hno _ (List.mem_of_getElem? (i := 1) rfl) _ (List.mem_of_getElem? (i := 0) rfl)),
    x_BadNumber := xm_BadNumber FBadNumber (hec _ (m (i := 2) rfl)).ox (PySem.W.mg_of X G aBadNumber) iBadNumber tBadNumber (hno _ (List.mem_of_getElem? (i := 2) rfl) _ (List.mem_of_getElem? (i := 0) rfl)) (hno _ (List.mem_of_getElem? (i := 2) rfl) _ (List.mem_of_getElem? (i := 1) rfl)),
    x_BadRow := xm_BadRow FBadRow (hec _ (m (i := 3) rfl)).ox (PySem.W.mg_of X G aBadRow) iBadRow tBadRow (hno _ (List.mem_of_getElem? (i := 3) rfl) _ (List.mem_of_getElem? (i := 0) rfl)) (hno _ (List.mem_of_getElem? (i := 3) rfl) _ (List.mem_of_getElem? (i := 1) rfl)),
    x_BadText := xm_BadText FBadText (hec _ (m (i := 0) rfl)).ox (PySem.W.mg_of X G aBadText) iBadText tBadText (hno _ (List.mem_of_getElem? (i := 0) rfl) _ (List.mem_of_getElem? (i := 0) rfl)) (hno _ (List.mem_of_getElem? (i := 0) rfl) _ (List.mem_of_getElem? (i := 1) rfl)),
    x_NoName := xm_NoName FNoName (hec _ (m (i := 4) rfl)).ox (PySem.W.mg_of X G aNoName) iNoName tNoName (hno _ (List.mem_of_getElem? (i := 4) rfl) _ (List.mem_of_getElem? (i := 0) rfl)),
    x_NotKept := xm_NotKept FNotKept (hec _ (m (i := 9) rfl)).ox (PySem.W.mg_of X G aNotKept) iNotKept tNotKept (hno _ (List.mem_of_getElem? (i := 9) rfl) _ (List.mem_of_getElem? (i := 0) rfl)) (hno _ (List.mem_of_getElem? (i := 9) rfl) _ (List.mem_of_getElem? (i := 1) rfl)),
    x_NotThere := xm_NotThere FNotThere (hec _ (m (i := 7) rfl)).ox (PySem.W.mg_of X G aNotThere) iNotThere tNotThere (hno _ (List.mem_of_getElem? (i := 7) rfl) _ (List.mem_of_getElem? (i := 0) rfl)),
    x_NothingToRedo := ⟨⟨_, F.excBase_ValueError, hx2⟩, PySem.W.mg_of X G aNothingToRedo, (hec _ (m (i := 11) rfl)).ox.kC, (hec _ (m (i := 11) rfl)).ox.exC, (hec _ (m (i := 11) rfl)).ox.tyC⟩,
    x_NothingToUndo := ⟨⟨_, F.excBase_ValueError, hx1⟩, PySem.W.mg_of X G aNothingToUndo, (hec _ (m (i := 10) rfl)).ox.kC, (hec _ (m (i := 10) rfl)).ox.exC, (hec _ (m (i := 10) rfl)).ox.tyC⟩,
    x_TakenName := xm_TakenName FTakenName (hec _ (m (i := 5) rfl)).ox (PySem.W.mg_of X G aTakenName) iTakenName tTakenName (hno _ (List.mem_of_getElem? (i := 5) rfl) _ (List.mem_of_getElem? (i := 0) rfl)),
    x_TooMany := xm_TooMany FTooMany (hec _ (m (i := 8) rfl)).ox (PySem.W.mg_of X G aTooMany) iTooMany tTooMany (hno _ (List.mem_of_getElem? (i := 8) rfl) _ (List.mem_of_getElem? (i := 0) rfl)) (hno _ (List.mem_of_getElem? (i := 8) rfl) _ (List.mem_of_getElem? (i := 1) rfl)) (hno _ (List.mem_of_getElem? (i := 8) rfl) _ (List.mem_of_getElem? (i := 2) rfl)),
    x_Unlike := xm_Unlike FUnlike (hec _ (m (i := 6) rfl)).ox (PySem.W.mg_of X G aUnlike) iUnlike tUnlike (hno _ (List.mem_of_getElem? (i := 6) rfl) _ (List.mem_of_getElem? (i := 0) rfl)),
    ec := hec,
    ek := hek,
    kit := hkit,
    kitD := hkD,
    kitV := hkV,
    no := hno,
    exm := hexm }
  have bd1 : ∀ {f : Addr} {fd : FuncData} {x qual : Str} {st : Stmt} (F : Fun K x qual st f fd), True := fun _ => trivial
  have c1 : Callee false l.prog w K mg base 1 "_law_draw" ["pen", "many"] sp__law_draw := ⟨_, _, ok_draw T F_law_draw, PySem.W.mg_of X G a_law_draw, k_law_draw, F_law_draw.binds fun _ _ _ _ _ _ us hl => match us, hl with | [_, _], _ => rfl⟩
  have c2 : Callee false l.prog w K mg base 2 "_law_pick" ["pen", "some"] sp__law_pick := ⟨_, _, ok_pick T c1 F_law_pick, PySem.W.mg_of X G a_law_pick, k_law_pick, F_law_pick.binds fun _ _ _ _ _ _ us hl => match us, hl with | [_, _], _ => rfl⟩
  have c3 : Callee false l.prog w K mg base 3 "_law_value" ["pen"] sp__law_value := ⟨_, _, ok_value T c2 F_law_value, PySem.W.mg_of X G a_law_value, k_law_value, F_law_value.binds fun _ _ _ _ _ _ us hl => match us, hl with | [_], _ => rfl⟩
  have c4 : Callee false l.prog w K mg base 1 "_law_pen" ["script"] sp__law_pen := ⟨_, _, ok_pen T F_law_pen, PySem.W.mg_of X G a_law_pen, k_law_pen, F_law_pen.binds fun _ _ _ _ _ _ us hl => match us, hl with | [_], _ => rfl⟩
  have c5 : Callee false l.prog w K mg base 1 "_law_fields" ["one", "names"] (sp__law_fields K) := ⟨_, _, ok_fields T F_law_fields, PySem.W.mg_of X G a_law_fields, k_law_fields, F_law_fields.binds fun _ _ _ _ _ _ us hl => match us, hl with | [_, _], _ => rfl⟩
  have c6 : Callee false l.prog w K mg base 3 "_law_made_errors" ["one", "two", "three"] (sp__law_made_errors _) := ⟨_, _, ok_made T F_law_made_errors, PySem.W.mg_of X G a_law_made_errors, k_law_made_errors, F_law_made_errors.binds fun _ _ _ _ _ _ us hl => match us, hl with | [_, _, _], _ => rfl⟩
  have c7 : Callee false l.prog w K mg base 1 "_law_kinds" ["one"] (sp__law_kinds K _) := ⟨_, _, ok_kinds T F_law_kinds, PySem.W.mg_of X G a_law_kinds, k_law_kinds, F_law_kinds.binds fun _ _ _ _ _ _ us hl => match us, hl with | [_], _ => rfl⟩
  exact ok_law T c5.up c7.up c6.up c4.up c3.up Flaw
end Wx

set_option Elab.async false
open PySem PySem.W PyProof.Rows in
set_option maxRecDepth 100000 in
set_option maxHeartbeats 0 in
theorem PySem.Challenge.cw_unseendeeds_k01_errors_holds : PySem.Challenge.rw_unseendeeds_k01_errors.Holds := by
  w_on; o_law; k_head; (case hw => w_witness2)
  k_fill
  refine Wx.walkG (l := PySem.Challenge.rw_unseendeeds_k01_errors) (n := 63) (k := 4) (sp := Wx.sp_law) (x := "script") rfl (by decide) rfl ⟨rfl, by decide, by decide⟩ (fun w h Y => PySem.W.kIn_of Y) ?nl ?F ?S
  case nl => intro w; exact (by kernel_rfl)
  case F =>
    intro w mg fa h KX G hmg
    refine' Wx.all_mk KX G hmg ?aBadName ?aBadNumber ?aBadRow ?aBadText ?aDeedsError ?aNoName ?aNotKept ?aNotThere ?aNothingToRedo ?aNothingToUndo ?aTakenName ?aTooMany ?aUnlike ?iBadName ?tBadName ?lBadName ?cBadName ?kBadName ?iBadNumber ?tBadNumber ?lBadNumber ?cBadNumber ?kBadNumber ?iBadRow ?tBadRow ?lBadRow ?cBadRow ?kBadRow ?iBadText ?tBadText ?lBadText ?cBadText ?kBadText ?iNoName ?tNoName ?lNoName ?cNoName ?kNoName ?iNotKept ?tNotKept ?lNotKept ?cNotKept ?kNotKept ?iNotThere ?tNotThere ?lNotThere ?cNotThere ?kNotThere ?iTakenName ?tTakenName ?lTakenName ?cTakenName ?kTakenName ?iTooMany ?tTooMany ?lTooMany ?cTooMany ?kTooMany ?iUnlike ?tUnlike ?lUnlike ?cUnlike ?kUnlike ?a_law_pen ?l_law_pen ?c_law_pen ?k_law_pen ?a_law_draw ?l_law_draw ?c_law_draw ?k_law_draw ?a_law_pick ?l_law_pick ?c_law_pick ?k_law_pick ?a_law_value ?l_law_value ?c_law_value ?k_law_value ?a_law_fields ?l_law_fields ?c_law_fields ?k_law_fields ?a_law_made_errors ?l_law_made_errors ?c_law_made_errors ?k_law_made_errors ?a_law_kinds ?l_law_kinds ?c_law_kinds ?k_law_kinds ?alaw ?llaw ?claw ?klaw ?zValueError ?zenumerate ?zint ?zisinstance ?zlen ?zlist ?zrange ?zrepr ?hchk
    (case aBadName => k_is)
    (case aBadNumber => k_is)
    (case aBadRow => k_is)
    (case aBadText => k_is)
    (case aDeedsError => k_is)
    (case aNoName => k_is)
    (case aNotKept => k_is)
    (case aNotThere => k_is)
    (case aNothingToRedo => k_is)
    (case aNothingToUndo => k_is)
    (case aTakenName => k_is)
    (case aTooMany => k_is)
    (case aUnlike => k_is)
    (case iBadName => k_is)
    (case tBadName => k_is)
    (case lBadName => k_is)
    (case cBadName => k_is)
    (case kBadName => k_is)
    (case iBadNumber => k_is)
    (case tBadNumber => k_is)
    (case lBadNumber => k_is)
    (case cBadNumber => k_is)
    (case kBadNumber => k_is)
    (case iBadRow => k_is)
    (case tBadRow => k_is)
    (case lBadRow => k_is)
    (case cBadRow => k_is)
    (case kBadRow => k_is)
    (case iBadText => k_is)
    (case tBadText => k_is)
    (case lBadText => k_is)
    (case cBadText => k_is)
    (case kBadText => k_is)
    (case iNoName => k_is)
    (case tNoName => k_is)
    (case lNoName => k_is)
    (case cNoName => k_is)
    (case kNoName => k_is)
    (case iNotKept => k_is)
    (case tNotKept => k_is)
    (case lNotKept => k_is)
    (case cNotKept => k_is)
    (case kNotKept => k_is)
    (case iNotThere => k_is)
    (case tNotThere => k_is)
    (case lNotThere => k_is)
    (case cNotThere => k_is)
    (case kNotThere => k_is)
    (case iTakenName => k_is)
    (case tTakenName => k_is)
    (case lTakenName => k_is)
    (case cTakenName => k_is)
    (case kTakenName => k_is)
    (case iTooMany => k_is)
    (case tTooMany => k_is)
    (case lTooMany => k_is)
    (case cTooMany => k_is)
    (case kTooMany => k_is)
    (case iUnlike => k_is)
    (case tUnlike => k_is)
    (case lUnlike => k_is)
    (case cUnlike => k_is)
    (case kUnlike => k_is)
    (case a_law_pen => k_is)
    (case l_law_pen => k_is)
    (case c_law_pen => k_is)
    (case k_law_pen => k_is)
    (case a_law_draw => k_is)
    (case l_law_draw => k_is)
    (case c_law_draw => k_is)
    (case k_law_draw => k_is)
    (case a_law_pick => k_is)
    (case l_law_pick => k_is)
    (case c_law_pick => k_is)
    (case k_law_pick => k_is)
    (case a_law_value => k_is)
    (case l_law_value => k_is)
    (case c_law_value => k_is)
    (case k_law_value => k_is)
    (case a_law_fields => k_is)
    (case l_law_fields => k_is)
    (case c_law_fields => k_is)
    (case k_law_fields => k_is)
    (case a_law_made_errors => k_is)
    (case l_law_made_errors => k_is)
    (case c_law_made_errors => k_is)
    (case k_law_made_errors => k_is)
    (case a_law_kinds => k_is)
    (case l_law_kinds => k_is)
    (case c_law_kinds => k_is)
    (case k_law_kinds => k_is)
    (case alaw => k_is)
    (case llaw => k_is)
    (case claw => k_is)
    (case klaw => k_is)
    (case zValueError => k_is)
    (case zenumerate => k_is)
    (case zint => k_is)
    (case zisinstance => k_is)
    (case zlen => k_is)
    (case zlist => k_is)
    (case zrange => k_is)
    (case zrepr => k_is)
    (case hchk => kernel_rfl)
  case S =>
    exact fun A a ns hl hA hp => ⟨a, ns, rfl, hA, hp, hl, fun A' => rfl⟩

