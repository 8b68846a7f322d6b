import PyProof.Rows.All
import Wide.All
import OpenK.AllK
import Wide.FinOn
import HandS.ForMost
import HandS.ForExc
import HandS.ExcInit
import HandS.Lambda
import HandS.ExcOwn
import HandS.CallSlots
import HandS.TupAny
import HandS.IsInst
import HandS.Small
import HandS.TupLe
import KE.KExcIs
import HandS.ExcField
import HandS.ExcValue
import HandS.WordsExc
import HandS.Deep
import KE.SortData
import HandS.MapJoin
import HandS.More
import HandS.Zip
import HandS.TupMul
import HandS.Style
import HandS.Strs
import KE.DataCmp
import HandS.TupSets
import HandS.TryMany
import HandS.Text
import PyProof.Rows.ListMul
import PyProof.Rows.ListMulCarried
import PyProof.StrOps2
import HandS.EndTab
import PySem.Challenge.RW_unseendeeds_k02_names_and_words
set_option Elab.async false
set_option linter.all false
set_option maxRecDepth 100000
set_option maxHeartbeats 4000000
/-! WX1: values with tuples in them, an abstract heap that may forget, what stands for what. -/
namespace Wx
open PySem L2

/-- a value; a tuple of values is a value itself -/
inductive W where
  | non | bl (b : Bool) | int (i : Int) | str (x : Str) | ref (a : Addr) | ty (n : String) | tup (ws : List W) | ktup (ws : List W)

mutual
def rep (K : PySem.W.Frag) (H : Hp) (v : V) : W → Prop
  | .non => v = .non
  | .bl b => v = .bl b
  | .int i => v = .int i
  | .str x => v = .str x
  | .ref a => v = .ref a
  | .ty n => v = .ty n
  | .tup ws => ∃ a vs, v = .ref a ∧ H a = some (.tup vs) ∧ reps K H vs ws
  | .ktup ws => ∃ a vs, v = .ref a ∧ SqT K H a vs ∧ reps K H vs ws
def reps (K : PySem.W.Frag) (H : Hp) (vs : List V) : List W → Prop
  | [] => vs = []
  | w :: ws => ∃ v r, vs = v :: r ∧ rep K H v w ∧ reps K H r ws
end

/-- tuples stay -/
def TupLe0 (H H' : Hp) : Prop := ∀ a vs, (H a = some (.tup vs) → H' a = some (.tup vs)) ∧ ∀ o, H a = some (.frz o (.tup vs)) → H' a = some (.frz o (.tup vs))
abbrev TupLe (K : PySem.W.Frag) (H H' : Hp) : Prop := TupLe0 H H'
theorem TupLe.refl {K : PySem.W.Frag} (H : Hp) : TupLe K H H := fun _ _ => ⟨fun h => h, fun _ h => h⟩
theorem TupLe.trans {K : PySem.W.Frag} {H H1 H2 : Hp} (a : TupLe K H H1) (b : TupLe K H1 H2) : TupLe K H H2 := fun x vs => ⟨fun h => (b x vs).1 ((a x vs).1 h), fun o h => (b x vs).2 o ((a x vs).2 o h)⟩
theorem TupLe.sq {K : PySem.W.Frag} {H H' : Hp} (t : TupLe K H H') {a : Addr} {vs : List V} (h : SqT K H a vs) : SqT K H' a vs := by
  rcases h with (h | ⟨o, h⟩) | h
  · exact .inl (.inl ((t a vs).1 h))
  · exact .inl (.inr ⟨o, (t a vs).2 o h⟩)
  · exact .inr h

section
variable {K : PySem.W.Frag} {H H' : Hp}
mutual
theorem rep_mono (t : TupLe K H H') : ∀ (w : W) (v : V), rep K H v w → rep K H' v w
  | .non, _, h => h
  | .bl _, _, h => h
  | .int _, _, h => h
  | .str _, _, h => h
  | .ref _, _, h => h
  | .ty _, _, h => h
  | .tup ws, v, h => by
    simp only [rep] at h ⊢
    obtain ⟨a, vs, e, s, r⟩ := h
    exact ⟨a, vs, e, (t a vs).1 s, reps_mono t ws vs r⟩
  | .ktup ws, v, h => by
    simp only [rep] at h ⊢
    obtain ⟨a, vs, e, s, r⟩ := h
    exact ⟨a, vs, e, t.sq s, reps_mono t ws vs r⟩
theorem reps_mono (t : TupLe K H H') : ∀ (ws : List W) (vs : List V), reps K H vs ws → reps K H' vs ws
  | [], _, h => by simpa only [reps] using h
  | w :: ws, vs, h => by
    simp only [reps] at h ⊢
    obtain ⟨v, r, e, h1, h2⟩ := h
    exact ⟨v, r, e, rep_mono t w v h1, reps_mono t ws r h2⟩
end
theorem reps_nil : reps K H [] [] := by simp only [reps]
theorem reps_cons {v : V} {vs : List V} {w : W} {ws : List W} (h : rep K H v w) (hs : reps K H vs ws) : reps K H (v :: vs) (w :: ws) := by
  simp only [reps]
  exact ⟨v, vs, rfl, h, hs⟩
theorem reps_uncons {vs : List V} {w : W} {ws : List W} (h : reps K H vs (w :: ws)) : ∃ v r, vs = v :: r ∧ rep K H v w ∧ reps K H r ws := by
  simpa only [reps] using h
theorem reps_unnil {vs : List V} (h : reps K H vs []) : vs = [] := by simpa only [reps] using h
theorem reps_length : ∀ {ws : List W} {vs : List V}, reps K H vs ws → vs.length = ws.length
  | [], vs, h => by rw [reps_unnil h] <;> rfl
  | w :: ws, vs, h => by
    obtain ⟨v, r, rfl, _, h2⟩ := reps_uncons h
    rw [List.length_cons, List.length_cons, reps_length h2]
theorem reps_append : ∀ {ws us : List W} {vs zs : List V}, reps K H vs ws → reps K H zs us → reps K H (vs ++ zs) (ws ++ us)
  | [], us, vs, zs, h, h' => by rw [reps_unnil h]; exact h'
  | w :: ws, us, vs, zs, h, h' => by
    obtain ⟨v, r, rfl, h1, h2⟩ := reps_uncons h
    exact reps_cons h1 (reps_append h2 h')
theorem reps_get : ∀ {ws : List W} {vs : List V} {i : Nat} {w : W}, reps K H vs ws → ws[i]? = some w → ∃ v, vs[i]? = some v ∧ rep K H v w
  | [], _, i, w, _, e => by simp at e
  | x :: ws, vs, 0, w, h, e => by
    obtain ⟨v, r, rfl, h1, _⟩ := reps_uncons h
    simp at e; subst e
    exact ⟨v, rfl, h1⟩
  | x :: ws, vs, i + 1, w, h, e => by
    obtain ⟨v, r, rfl, _, h2⟩ := reps_uncons h
    obtain ⟨v', e', h'⟩ := reps_get (i := i) h2 (by simpa using e)
    exact ⟨v', by simpa using e', h'⟩
theorem reps_get' : ∀ {ws : List W} {vs : List V} {i : Nat} {v : V}, reps K H vs ws → vs[i]? = some v → ∃ w, ws[i]? = some w ∧ rep K H v w
  | [], vs, i, v, h, e => by rw [reps_unnil h] at e; simp at e
  | x :: ws, vs, 0, v, h, e => by
    obtain ⟨v', r, rfl, h1, _⟩ := reps_uncons h
    simp at e; subst e
    exact ⟨x, rfl, h1⟩
  | x :: ws, vs, i + 1, v, h, e => by
    obtain ⟨v', r, rfl, _, h2⟩ := reps_uncons h
    obtain ⟨w', e', h'⟩ := reps_get' (i := i) h2 (by simpa using e)
    exact ⟨w', by simpa using e', h'⟩
theorem reps_take : ∀ {ws : List W} {vs : List V} (n : Nat), reps K H vs ws → reps K H (vs.take n) (ws.take n)
  | _, _, 0, _ => by rw [List.take_zero, List.take_zero]; exact reps_nil
  | [], vs, n + 1, h => by rw [reps_unnil h]; exact reps_nil
  | w :: ws, vs, n + 1, h => by
    obtain ⟨v, r, rfl, h1, h2⟩ := reps_uncons h
    exact reps_cons h1 (reps_take n h2)
theorem reps_drop : ∀ {ws : List W} {vs : List V} (n : Nat), reps K H vs ws → reps K H (vs.drop n) (ws.drop n)
  | _, _, 0, h => h
  | [], vs, n + 1, h => by rw [reps_unnil h]; exact reps_nil
  | w :: ws, vs, n + 1, h => by
    obtain ⟨v, r, rfl, h1, h2⟩ := reps_uncons h
    exact reps_drop n h2
theorem reps_reverse : ∀ {ws : List W} {vs : List V}, reps K H vs ws → reps K H vs.reverse ws.reverse
  | [], vs, h => by rw [reps_unnil h]; exact reps_nil
  | w :: ws, vs, h => by
    obtain ⟨v, r, rfl, h1, h2⟩ := reps_uncons h
    rw [List.reverse_cons, List.reverse_cons]
    exact reps_append (reps_reverse h2) (reps_cons h1 reps_nil)
theorem reps_set : ∀ {ws : List W} {vs : List V} (i : Nat) {v : V} {w : W}, reps K H vs ws → rep K H v w → reps K H (vs.set i v) (ws.set i w)
  | [], vs, i, v, w, h, _ => by rw [reps_unnil h]; exact reps_nil
  | x :: ws, vs, 0, v, w, h, h' => by
    obtain ⟨_, r, rfl, h1, h2⟩ := reps_uncons h
    exact reps_cons h' h2
  | x :: ws, vs, i + 1, v, w, h, h' => by
    obtain ⟨_, r, rfl, h1, h2⟩ := reps_uncons h
    exact reps_cons h1 (reps_set i h2 h')
theorem reps_eraseIdx : ∀ {ws : List W} {vs : List V} (i : Nat), reps K H vs ws → reps K H (vs.eraseIdx i) (ws.eraseIdx i)
  | [], vs, i, h => by rw [reps_unnil h]; exact reps_nil
  | x :: ws, vs, 0, h => by
    obtain ⟨_, r, rfl, h1, h2⟩ := reps_uncons h
    exact h2
  | x :: ws, vs, i + 1, h => by
    obtain ⟨_, r, rfl, h1, h2⟩ := reps_uncons h
    exact reps_cons h1 (reps_eraseIdx i h2)
theorem reps_ints {ns : List Int} : reps K H (ns.map V.int) (ns.map W.int) := by
  induction ns with
  | nil => exact reps_nil
  | cons n r ih => exact reps_cons (by simp only [rep]) ih
theorem reps_ints_inv : ∀ {ns : List Int} {vs : List V}, reps K H vs (ns.map W.int) → vs = ns.map V.int
  | [], vs, h => reps_unnil h
  | n :: ns, vs, h => by
    obtain ⟨v, r, rfl, h1, h2⟩ := reps_uncons h
    simp only [rep] at h1
    rw [h1, reps_ints_inv h2] <;> rfl
end

/-- pairs whose second halves stand for each other -/
def prs {κ : Type} (K : PySem.W.Frag) (H : Hp) : List (κ × V) → List (κ × W) → Prop := Paired fun (p : κ × V) (q : κ × W) => p.1 = q.1 ∧ rep K H p.2 q.2

/-- what stands at a tracked address -/
inductive WO where
  | lst (ws : List W)
  | rol (ws : List W)
  | dK (kvs : List (Key × W))
  | dT (kvs : List (List Key × W))
  | ins (C : Addr) (fs : List (Str × W))
  | exn (C : Addr) (fs : List (Str × W))
  | xd (fs : List (Str × W))
  | hid (o : HO)

abbrev Ah := Addr → Option WO
def RepAt (K : PySem.W.Frag) (H : Hp) (h : Ah) (a : Addr) : WO → Prop
  | .lst ws => ∃ vs, H a = some (.lst vs) ∧ reps K H vs ws
  | .rol ws => ∃ vs, Rd H a (.lst vs) ∧ reps K H vs ws
  | .dK kvs => ∃ kv, H a = some (.dK kv) ∧ prs K H kv kvs
  | .dT kvs => ∃ kv, H a = some (.dT kv) ∧ prs K H kv kvs
  | .ins C fs => ∃ dx vf, H a = some (.ins C dx vf) ∧ prs K H vf fs
  | .exn C fs => (H a = some (exo a C none) ∧ fs = []) ∨ ∃ d vf, H a = some (exo a C (some d)) ∧ H d = some (exd d vf) ∧ h d = none ∧ prs K H vf fs
  | .xd fs => ∃ vf, H a = some (.xd vf) ∧ prs K H vf fs
  | .hid o => H a = some o ∧ ∀ ps, o ≠ .tbl ps

/-- the abstract state: where the pen is and how many draws were made; the heap -/
structure AH where
  pen : Option (Addr × Nat)
  h : Ah
  tp : Hp := fun _ => none
  tb : List (Addr × Str) := []
def AH.put (A : AH) (a : Addr) (o : WO) : AH := { A with h := fun b => if b = a then some o else A.h b }
@[simp] theorem AH.put_tp (A : AH) (a : Addr) (o : WO) : (A.put a o).tp = A.tp := rfl
@[simp] theorem AH.put_tb (A : AH) (a : Addr) (o : WO) : (A.put a o).tb = A.tb := rfl
@[simp] theorem AH.put_pen (A : AH) (a : Addr) (o : WO) : (A.put a o).pen = A.pen := rfl
theorem AH.put_same {A : AH} {a : Addr} {o : WO} : (A.put a o).h a = some o := if_pos rfl
theorem AH.put_ne {A : AH} {a b : Addr} {o : WO} (h : b ≠ a) : (A.put a o).h b = A.h b := if_neg h
theorem AH.put_put {A : AH} {a : Addr} {o u : WO} : (A.put a o).put a u = A.put a u := by
  unfold AH.put
  congr 1
  funext b
  by_cases h : b = a
  · simp [h]
  · simp [h]

/-- the pen's dict at p, its cells' list at cl -/
def penKv (cl : Addr) (atv dg : Int) (n : Nat) (fo : Int) : List (Key × V) :=
  [(.inr "cells", .ref cl), (.inr "at", .int atv), (.inr "digits", .int dg), (.inr "count", .int n), (.inr "fold", .int fo)]
def PenAt (H : Hp) (h : Ah) (p : Addr) (n : Nat) : Prop :=
  ∃ (cl : Addr) (ns : List Int) (at_ dg fo : Int), H p = some (.dK (penKv cl at_ dg n fo)) ∧ H cl = some (.lst (ns.map V.int)) ∧ h p = none ∧ h cl = none ∧ 0 ≤ at_ ∧ 0 ≤ dg ∧ -(2 ^ 40) < fo ∧ fo < 2 ^ 40
def RepA (K : PySem.W.Frag) (H : Hp) (A : AH) : Prop := (∀ a o, A.h a = some o → RepAt K H A.h a o) ∧ (∀ p n, A.pen = some (p, n) → PenAt H A.h p n) ∧ TupLe K A.tp H ∧ LamX.Tabs A.tb H
theorem tabs_keep {T : List (Addr × Str)} {H H' : Hp} (t : LamX.Tabs T H) (e : ∀ b o, H b = some o → ((∃ ps, o = .tbl ps) ∨ ∃ φ, o = .ext φ) → H' b = some o) : LamX.Tabs T H' := fun p hp => by
  obtain ⟨ps, h1, h2, h3⟩ := t p hp
  refine ⟨ps, e _ _ h1 (.inl ⟨_, rfl⟩), h2, fun pos cv hc => ?_⟩
  obtain ⟨c, e1, e2⟩ := h3 pos cv hc
  exact ⟨c, e1, e _ _ e2 (.inr ⟨_, rfl⟩)⟩

section
variable {K : PySem.W.Frag} {H H' : Hp} {A : AH} {a p : Addr}
theorem prs_mono {κ : Type} (t : TupLe K H H') {l : List (κ × V)} {m : List (κ × W)} (h : prs K H l m) : prs K H' l m := Paired.mapP h fun _ _ z => ⟨z.1, rep_mono t _ _ z.2⟩
theorem Rd_some {u : HO} (h : Rd H a u) : ∃ o, H a = some o := by
  rcases h with h | ⟨o, h⟩
  · exact ⟨_, h⟩
  · exact ⟨_, h⟩
theorem RepAt.there {h : Ah} {o : WO} (x : RepAt K H h a o) : ∃ ho, H a = some ho := by
  cases o with
  | lst ws => obtain ⟨_, e, _⟩ := x; exact ⟨_, e⟩
  | rol ws => obtain ⟨_, e, _⟩ := x; exact Rd_some e
  | dK kvs => obtain ⟨_, e, _⟩ := x; exact ⟨_, e⟩
  | dT kvs => obtain ⟨_, e, _⟩ := x; exact ⟨_, e⟩
  | ins C fs => obtain ⟨_, _, e, _⟩ := x; exact ⟨_, e⟩
  | exn C fs =>
    rcases x with ⟨e, _⟩ | ⟨_, _, e, _⟩
    · exact ⟨_, e⟩
    · exact ⟨_, e⟩
  | xd fs => obtain ⟨_, e, _⟩ := x; exact ⟨_, e⟩
  | hid o => exact ⟨_, x.1⟩
theorem RepAt.keep {h h' : Ah} {o : WO} (t : TupLe K H H') (k : ∀ b, (b = a ∨ (h b = none ∧ ∃ u, H b = some u)) → H' b = H b) (kh : ∀ b, h b = none → (∃ vf, H b = some (exd b vf)) → h' b = none) (x : RepAt K H h a o) : RepAt K H' h' a o := by
  have ka := k a (.inl rfl)
  cases o with
  | lst ws => obtain ⟨vs, e, r⟩ := x; exact ⟨vs, ka.trans e, reps_mono t _ _ r⟩
  | rol ws =>
    obtain ⟨vs, e, r⟩ := x
    refine ⟨vs, ?_, reps_mono t _ _ r⟩
    rcases e with e | ⟨o, e⟩
    · exact .inl (ka.trans e)
    · exact .inr ⟨o, ka.trans e⟩
  | dK kvs => obtain ⟨vs, e, r⟩ := x; exact ⟨vs, ka.trans e, prs_mono t r⟩
  | dT kvs => obtain ⟨vs, e, r⟩ := x; exact ⟨vs, ka.trans e, prs_mono t r⟩
  | ins C fs => obtain ⟨dx, vs, e, r⟩ := x; exact ⟨dx, vs, ka.trans e, prs_mono t r⟩
  | exn C fs =>
    rcases x with ⟨e, z⟩ | ⟨d, vf, e, e2, e3, r⟩
    · exact .inl ⟨ka.trans e, z⟩
    · exact .inr ⟨d, vf, ka.trans e, (k d (.inr ⟨e3, _, e2⟩)).trans e2, kh d e3 ⟨_, e2⟩, prs_mono t r⟩
  | xd fs => obtain ⟨vs, e, r⟩ := x; exact ⟨vs, ka.trans e, prs_mono t r⟩
  | hid o => exact ⟨Eq.trans ka x.1, x.2⟩
theorem RepA.there (r : RepA K H A) {o : WO} (e : A.h a = some o) : ∃ ho, H a = some ho := (r.1 a o e).there
theorem RepA.fresh (r : RepA K H A) (e : H a = none) : A.h a = none := by
  cases q : A.h a with
  | none => rfl
  | some o =>
    obtain ⟨ho, z⟩ := r.there q
    rw [e] at z
    cases z
/-- all that is tracked above stays as it is below -/
theorem RepA.keep (r : RepA K H A) (t : TupLe K H H') (k : ∀ b, (∃ o, A.h b = some o) ∨ (A.h b = none ∧ ∃ u, H b = some u) → H' b = H b) (kt : LamX.Tabs A.tb H') : RepA K H' A := by
  refine ⟨fun b o e => (r.1 b o e).keep t (fun c hc => ?_) fun _ z _ => z, fun p n e => ?_, r.2.2.1.trans t, kt⟩
  · rcases hc with z | z
    · subst z; exact k c (.inl ⟨o, e⟩)
    · exact k c (.inr z)
  · obtain ⟨cl, ns, at_, dg, fo, e1, e2, e3, e4, q⟩ := r.2.1 p n e
    exact ⟨cl, ns, at_, dg, fo, (k p (.inr ⟨e3, _, e1⟩)).trans e1, (k cl (.inr ⟨e4, _, e2⟩)).trans e2, e3, e4, q⟩
theorem tupLe_new {o : HO} (e : H p = none) : TupLe K H (upd H p o) := fun b vs => ⟨fun s => by rw [upd_ne (ne_of_none s e)]; exact s, fun ob s => by rw [upd_ne (ne_of_none s e)]; exact s⟩
theorem tupLe_set {o u : HO} (e : H p = some u) (n1 : ∀ vs, u ≠ .tup vs) (n2 : ∀ ob w, u ≠ .frz ob w) : TupLe K H (upd H p o) := fun b vs =>
  ⟨fun s => by rw [upd_ne (fun z => by subst z; rw [e] at s; exact n1 vs (Option.some.inj s))]; exact s,
   fun ob s => by rw [upd_ne (fun z => by subst z; rw [e] at s; exact n2 ob _ (Option.some.inj s))]; exact s⟩
/-- a new object that is not tracked above (a tuple, what may be forgotten) -/
theorem RepA.new0 {o : HO} (r : RepA K H A) (e : H p = none) : RepA K (upd H p o) A := by
  refine r.keep (tupLe_new e) (fun b hb => upd_ne fun z => ?_) (r.2.2.2.ext fun b u q => by rw [upd_ne (ne_of_none q e)]; exact q)
  subst z
  rcases hb with ⟨u, q⟩ | ⟨_, u, q⟩
  · obtain ⟨ho, z⟩ := r.there q
    rw [e] at z; cases z
  · rw [e] at q; cases q
/-- a new object -/
theorem RepA.new {o : HO} {wo : WO} (r : RepA K H A) (e : H p = none) (n : RepAt K (upd H p o) (A.put p wo).h p wo) : RepA K (upd H p o) (A.put p wo) := by
  have ne : ∀ b, (∃ u, H b = some u) → b ≠ p := fun b ⟨u, q⟩ z => by subst z; rw [e] at q; cases q
  refine ⟨fun b u q => ?_, fun q n eq => ?_, r.2.2.1.trans (tupLe_new (K := K) e), r.2.2.2.ext fun b u q => by rw [upd_ne (ne_of_none q e)]; exact q⟩
  · by_cases hb : b = p
    · subst hb; rw [AH.put_same] at q; cases q; exact n
    · rw [AH.put_ne hb] at q
      have rb := r.1 b u q
      exact rb.keep (tupLe_new e) (fun c hc => upd_ne (ne c (by rcases hc with z | z; · rw [z]; exact rb.there
                                                                · exact z.2))) fun c z ⟨_, u⟩ => by rw [AH.put_ne (ne c ⟨_, u⟩)]; exact z
  · obtain ⟨cl, ns, at_, dg, fo, e1, e2, e3, e4, rest⟩ := r.2.1 q n eq
    have n1 : q ≠ p := ne q ⟨_, e1⟩
    have n2 : cl ≠ p := ne cl ⟨_, e2⟩
    exact ⟨cl, ns, at_, dg, fo, by rw [upd_ne n1]; exact e1, by rw [upd_ne n2]; exact e2, by rw [AH.put_ne n1]; exact e3, by rw [AH.put_ne n2]; exact e4, rest⟩
/-- a tracked object is written -/
theorem RepA.set {u o : HO} {wo wo' : WO} (r : RepA K H A) (ew : A.h p = some wo) (e : H p = some u) (n1 : ∀ vs, u ≠ .tup vs) (n2 : ∀ ob w, u ≠ .frz ob w) (n : RepAt K (upd H p o) (A.put p wo').h p wo') (n3 : ∀ ps, u ≠ .tbl ps := by intro _ z; cases z) (n4 : ∀ φ, u ≠ .ext φ := by intro _ z; cases z) : RepA K (upd H p o) (A.put p wo') := by
  have t : TupLe K H (upd H p o) := tupLe_set e n1 n2
  have ne : ∀ b, A.h b = none → b ≠ p := fun b q z => by subst z; rw [ew] at q; cases q
  refine ⟨fun b z q => ?_, fun q n eq => ?_, r.2.2.1.trans t, tabs_keep r.2.2.2 fun b w q hw => by
    rw [upd_ne (fun z => ?_)]
    · exact q
    · subst z
      rw [e] at q
      cases q
      rcases hw with ⟨ps, z⟩ | ⟨φ, z⟩
      · exact n3 _ z
      · exact n4 _ z⟩
  · by_cases hb : b = p
    · subst hb; rw [AH.put_same] at q; cases q; exact n
    · rw [AH.put_ne hb] at q
      refine (r.1 b z q).keep t (fun c hc => upd_ne ?_) fun c y _ => by rw [AH.put_ne (ne c y)]; exact y
      rcases hc with y | y
      · rw [y]; exact hb
      · exact ne c y.1
  · obtain ⟨cl, ns, at_, dg, fo, e1, e2, e3, e4, rest⟩ := r.2.1 q n eq
    have m1 : q ≠ p := ne q e3
    have m2 : cl ≠ p := ne cl e4
    exact ⟨cl, ns, at_, dg, fo, by rw [upd_ne m1]; exact e1, by rw [upd_ne m2]; exact e2, by rw [AH.put_ne m1]; exact e3, by rw [AH.put_ne m2]; exact e4, rest⟩
/-- less is known -/
def AH.Sub (A A' : AH) : Prop := (∀ a o, A.h a = some o → A'.h a = some o) ∧ (A.pen = none ∨ A.pen = A'.pen) ∧ TupLe0 A.tp A'.tp ∧ A.tb = A'.tb
theorem AH.Sub.refl (A : AH) : A.Sub A := ⟨fun _ _ h => h, .inr rfl, fun _ _ => ⟨fun h => h, fun _ h => h⟩, rfl⟩
theorem AH.Sub.trans {A B C : AH} (x : A.Sub B) (y : B.Sub C) : A.Sub C := ⟨fun a o h => y.1 a o (x.1 a o h), by
  rcases x.2.1 with e | e
  · exact .inl e
  · rcases y.2.1 with e' | e'
    · exact .inl (e.trans e')
    · exact .inr (e.trans e'), fun b vs => ⟨fun h => (y.2.2.1 b vs).1 ((x.2.2.1 b vs).1 h), fun o h => (y.2.2.1 b vs).2 o ((x.2.2.1 b vs).2 o h)⟩, x.2.2.2.trans y.2.2.2⟩
theorem AH.Sub.put {A : AH} {o : WO} (h : A.h p = none) : A.Sub (A.put p o) := ⟨fun b u e => by
  rw [AH.put_ne (fun z => by subst z; rw [h] at e; cases e)]
  exact e, .inr rfl, fun _ _ => ⟨fun h => h, fun _ h => h⟩, rfl⟩
theorem AH.Sub.put2 {A B : AH} {o : WO} (s : A.Sub B) : (A.put p o).Sub (B.put p o) := ⟨fun b u e => by
  by_cases hb : b = p
  · subst hb; rw [AH.put_same] at e ⊢; exact e
  · rw [AH.put_ne hb] at e ⊢; exact s.1 b u e, s.2.1, s.2.2⟩
theorem AH.Sub.none {A' : AH} (s : A.Sub A') {b : Addr} (e : A'.h b = none) : A.h b = none := by
  cases q : A.h b with
  | none => rfl
  | some o => rw [s.1 b o q] at e; cases e
theorem RepA.sub {A' : AH} (r : RepA K H A') (s : A.Sub A') : RepA K H A := by
  refine ⟨fun a o e => (r.1 a o (s.1 a o e)).keep (TupLe.refl (K := K) H) (fun _ _ => rfl) fun b z _ => s.none z, fun p n e => ?_, TupLe.trans (K := K) s.2.2.1 r.2.2.1, by rw [s.2.2.2]; exact r.2.2.2⟩
  rcases s.2.1 with z | z
  · rw [z] at e; cases e
  · obtain ⟨cl, ns, at_, dg, fo, e1, e2, e3, e4, rest⟩ := r.2.1 p n (z ▸ e)
    exact ⟨cl, ns, at_, dg, fo, e1, e2, s.none e3, s.none e4, rest⟩
end

/-- slots -/
abbrev Sw := List (Option W)
def SimS (K : PySem.W.Frag) (H : Hp) (σ : L2.St) (ω : Sw) : Prop := σ.length = ω.length ∧ ∀ (i : Nat) (w : W), ω[i]? = some (some w) → ∃ v, σ[i]? = some (some v) ∧ rep K H v w
section
variable {K : PySem.W.Frag} {H H' : Hp} {σ : L2.St} {ω : Sw}
theorem SimS.mono (t : TupLe K H H') (s : SimS K H σ ω) : SimS K H' σ ω := ⟨s.1, fun i w e => let ⟨v, e', r⟩ := s.2 i w e; ⟨v, e', rep_mono t _ _ r⟩⟩
theorem SimS.set {i : Nat} {v : V} {w : W} (s : SimS K H σ ω) (r : rep K H v w) : SimS K H (σ.set i (some v)) (ω.set i (some w)) := by
  refine ⟨by simpa using s.1, fun j u e => ?_⟩
  by_cases h : i = j
  · subst h
    by_cases hl : i < ω.length
    · rw [List.getElem?_set_self hl] at e
      cases e
      exact ⟨v, List.getElem?_set_self (by rw [s.1]; exact hl), r⟩
    · rw [List.getElem?_eq_none (by simpa using hl)] at e; cases e
  · rw [List.getElem?_set_ne h] at e ⊢
    exact s.2 j u e
theorem SimS.unset {i : Nat} (s : SimS K H σ ω) : SimS K H (σ.set i none) (ω.set i none) := by
  refine ⟨by simpa using s.1, fun j u e => ?_⟩
  by_cases h : i = j
  · subst h
    by_cases hl : i < ω.length
    · rw [List.getElem?_set_self hl] at e
      cases e
    · rw [List.getElem?_eq_none (by simpa using hl)] at e; cases e
  · rw [List.getElem?_set_ne h] at e ⊢
    exact s.2 j u e
end
end Wx

set_option Elab.async false
set_option linter.all false
set_option maxRecDepth 100000
set_option maxHeartbeats 4000000
/-! WX2: the judgements over W, and how a rule below is lifted. -/
namespace Wx
open PySem L2

abbrev VKw := W → AH → Prop
abbrev TEw := Sw → AH → VKw → Prop
abbrev TTw := Sw → AH → (Bool → AH → Prop) → Prop
abbrev TAw := Sw → AH → (List W → AH → Prop) → Prop
structure Dw where
  nx : Sw → AH → Prop
  rt : VKw
  bk : Sw → AH → Prop := fun _ _ => False
  ct : Sw → AH → Prop := fun _ _ => False
abbrev TSw := Dw → Sw → AH → Prop

def EPw (X : Cx) (pins : List (Addr × Obj)) (σ : L2.St) (H : Hp) (Q : VKw) (u : Value) (s' : Shared) : Prop :=
  ∃ v H' w A', Inv X pins σ H' s' ∧ RelV v u ∧ TupLe X.K H H' ∧ RepA X.K H' A' ∧ rep X.K H' v w ∧ Q w A'
def TPw (X : Cx) (pins : List (Addr × Obj)) (σ : L2.St) (H : Hp) (Q : Bool → AH → Prop) (b : Bool) (s' : Shared) : Prop :=
  ∃ H' A', Inv X pins σ H' s' ∧ TupLe X.K H H' ∧ RepA X.K H' A' ∧ Q b A'
def APw (X : Cx) (pins : List (Addr × Obj)) (σ : L2.St) (H : Hp) (Q : List W → AH → Prop) (us : List Value) (s' : Shared) : Prop :=
  ∃ vs H' ws A', Inv X pins σ H' s' ∧ Vals vs us ∧ TupLe X.K H H' ∧ RepA X.K H' A' ∧ reps X.K H' vs ws ∧ Q ws A'
def SPw (X : Cx) (pins : List (Addr × Obj)) (H : Hp) (D : Dw) (f : Flow) (s' : Shared) : Prop :=
  match f with
  | .next => ∃ σ' H' ω' A', Inv X pins σ' H' s' ∧ TupLe X.K H H' ∧ SimS X.K H' σ' ω' ∧ RepA X.K H' A' ∧ D.nx ω' A'
  | .brk => ∃ σ' H' ω' A', Inv X pins σ' H' s' ∧ TupLe X.K H H' ∧ SimS X.K H' σ' ω' ∧ RepA X.K H' A' ∧ D.bk ω' A'
  | .cont => ∃ σ' H' ω' A', Inv X pins σ' H' s' ∧ TupLe X.K H H' ∧ SimS X.K H' σ' ω' ∧ RepA X.K H' A' ∧ D.ct ω' A'
  | .ret u => ∃ v σ' H' w A', Inv X pins σ' H' s' ∧ RelV v u ∧ TupLe X.K H H' ∧ RepA X.K H' A' ∧ rep X.K H' v w ∧ D.rt w A'

structure WE (X : Cx) (e : Expr) (t : TEw) : Prop where
  run : ∀ (pins : List (Addr × Obj)) (s : Shared) (σ : L2.St) (H : Hp) (ω : Sw) (A : AH) (Q : VKw), Inv X pins σ H s → SimS X.K H σ ω → RepA X.K H A → t ω A Q →
    wpAny (model X.prog X.w) X.A (eval e X.env) (EPw X pins σ H Q) X.xe s
structure WT (X : Cx) (e : Expr) (t : TTw) : Prop where
  run : ∀ (pins : List (Addr × Obj)) (s : Shared) (σ : L2.St) (H : Hp) (ω : Sw) (A : AH) (Q : Bool → AH → Prop), Inv X pins σ H s → SimS X.K H σ ω → RepA X.K H A → t ω A Q →
    wpAny (model X.prog X.w) X.A (isTrue e X.env (eval e X.env)) (TPw X pins σ H Q) X.xe s
structure WA (X : Cx) (es : List Expr) (t : TAw) : Prop where
  run : ∀ (pos : Pos) (pins : List (Addr × Obj)) (s : Shared) (σ : L2.St) (H : Hp) (ω : Sw) (A : AH) (Q : List W → AH → Prop), Inv X pins σ H s → SimS X.K H σ ω → RepA X.K H A → t ω A Q →
    wpAny (model X.prog X.w) X.A (spliced (backTo pos (starEach es X.env))) (APw X pins σ H Q) X.xe s
structure WS (X : Cx) (st : Stmt) (t : TSw) : Prop where
  run : ∀ (pins : List (Addr × Obj)) (s : Shared) (σ : L2.St) (H : Hp) (ω : Sw) (A : AH) (D : Dw), Inv X pins σ H s → SimS X.K H σ ω → RepA X.K H A → t D ω A →
    wpAny (model X.prog X.w) X.A (exec st X.env) (SPw X pins H D) X.xe s
structure WSs (X : Cx) (st : List Stmt) (t : TSw) : Prop where
  run : ∀ (pins : List (Addr × Obj)) (s : Shared) (σ : L2.St) (H : Hp) (ω : Sw) (A : AH) (D : Dw), Inv X pins σ H s → SimS X.K H σ ω → RepA X.K H A → t D ω A →
    wpAny (model X.prog X.w) X.A (execs st X.env) (SPw X pins H D) X.xe s

/-! ### down and up -/
/-- a value wish above, told below -/
def Up (K : PySem.W.Frag) (H : Hp) (Q : VKw) : VK := fun v H' => ∃ w A', TupLe K H H' ∧ RepA K H' A' ∧ rep K H' v w ∧ Q w A'
def UpT (K : PySem.W.Frag) (H : Hp) (Q : Bool → AH → Prop) : Bool → Hp → Prop := fun b H' => ∃ A', TupLe K H H' ∧ RepA K H' A' ∧ Q b A'
def UpA (K : PySem.W.Frag) (H : Hp) (Q : List W → AH → Prop) : List V → Hp → Prop := fun vs H' => ∃ ws A', TupLe K H H' ∧ RepA K H' A' ∧ reps K H' vs ws ∧ Q ws A'
def UpD (K : PySem.W.Frag) (H : Hp) (D : Dw) : Ends where
  nx := fun σ H' => ∃ ω A', TupLe K H H' ∧ SimS K H' σ ω ∧ RepA K H' A' ∧ D.nx ω A'
  bk := fun σ H' => ∃ ω A', TupLe K H H' ∧ SimS K H' σ ω ∧ RepA K H' A' ∧ D.bk ω A'
  ct := fun σ H' => ∃ ω A', TupLe K H H' ∧ SimS K H' σ ω ∧ RepA K H' A' ∧ D.ct ω A'
  rt := Up K H D.rt
/-- a reading above as one below -/
def lo (K : PySem.W.Frag) (t : TEw) : TE := fun σ H Q => ∃ ω A Q', SimS K H σ ω ∧ RepA K H A ∧ t ω A Q' ∧ ∀ v H', Up K H Q' v H' → Q v H'
def loT (K : PySem.W.Frag) (t : TTw) : TT := fun σ H Q => ∃ ω A Q', SimS K H σ ω ∧ RepA K H A ∧ t ω A Q' ∧ ∀ v H', UpT K H Q' v H' → Q v H'
def loA (K : PySem.W.Frag) (t : TAw) : TA := fun σ H Q => ∃ ω A Q', SimS K H σ ω ∧ RepA K H A ∧ t ω A Q' ∧ ∀ v H', UpA K H Q' v H' → Q v H'
def loS (K : PySem.W.Frag) (t : TSw) : TS := fun D σ H => ∃ ω A D', SimS K H σ ω ∧ RepA K H A ∧ t D' ω A ∧ (∀ σ H', (UpD K H D').nx σ H' → D.nx σ H') ∧ (∀ σ H', (UpD K H D').bk σ H' → D.bk σ H') ∧ (∀ σ H', (UpD K H D').ct σ H' → D.ct σ H') ∧ (∀ v H', (UpD K H D').rt v H' → D.rt v H')

section
variable {X : Cx} {e : Expr} {es : List Expr} {st : Stmt} {sts : List Stmt} {t : TEw} {tt : TTw} {ta : TAw} {ts : TSw}
theorem WE.pe (h : WE X e t) : PE X e (lo X.K t) := ⟨fun pins s σ H Q I ⟨ω, A, Q', sm, ra, ht, k⟩ =>
  thn (h.run pins s σ H ω A Q' I sm ra ht) fun u s' ⟨v, H', w, A', I', r, t1, t2, t3, q⟩ => ⟨v, H', I', r, k v H' ⟨w, A', t1, t2, t3, q⟩⟩⟩
theorem WE.of {te : TE} (h : PE X e te) (c : ∀ σ H ω A Q, SimS X.K H σ ω → RepA X.K H A → t ω A Q → te σ H (Up X.K H Q)) : WE X e t := ⟨fun pins s σ H ω A Q I sm ra ht =>
  thn (h.run pins s σ H _ I (c σ H ω A Q sm ra ht)) fun u s' ⟨v, H', I', r, w, A', t1, t2, t3, q⟩ => ⟨v, H', w, A', I', r, t1, t2, t3, q⟩⟩
theorem WT.pt (h : WT X e tt) : PT X e (loT X.K tt) := ⟨fun pins s σ H Q I ⟨ω, A, Q', sm, ra, ht, k⟩ =>
  thn (h.run pins s σ H ω A Q' I sm ra ht) fun u s' ⟨H', A', I', t1, t2, q⟩ => ⟨H', I', k u H' ⟨A', t1, t2, q⟩⟩⟩
theorem WT.of {te : TT} (h : PT X e te) (c : ∀ σ H ω A Q, SimS X.K H σ ω → RepA X.K H A → tt ω A Q → te σ H (UpT X.K H Q)) : WT X e tt := ⟨fun pins s σ H ω A Q I sm ra ht =>
  thn (h.run pins s σ H _ I (c σ H ω A Q sm ra ht)) fun u s' ⟨H', I', A', t1, t2, q⟩ => ⟨H', A', I', t1, t2, q⟩⟩
theorem WA.pa (h : WA X es ta) : PA X es (loA X.K ta) := ⟨fun pos pins s σ H Q I ⟨ω, A, Q', sm, ra, ht, k⟩ =>
  thn (h.run pos pins s σ H ω A Q' I sm ra ht) fun u s' ⟨v, H', w, A', I', r, t1, t2, t3, q⟩ => ⟨v, H', I', r, k v H' ⟨w, A', t1, t2, t3, q⟩⟩⟩
theorem WA.of {te : TA} (h : PA X es te) (c : ∀ σ H ω A Q, SimS X.K H σ ω → RepA X.K H A → ta ω A Q → te σ H (UpA X.K H Q)) : WA X es ta := ⟨fun pos pins s σ H ω A Q I sm ra ht =>
  thn (h.run pos pins s σ H _ I (c σ H ω A Q sm ra ht)) fun u s' ⟨v, H', I', r, w, A', t1, t2, t3, q⟩ => ⟨v, H', w, A', I', r, t1, t2, t3, q⟩⟩
theorem sp_up {pins : List (Addr × Obj)} {H : Hp} {D : Dw} {f : Flow} {s' : Shared} (h : SP X pins (UpD X.K H D) f s') : SPw X pins H D f s' := by
  cases f with
  | next => obtain ⟨σ', H', I', ω', A', a, b, c, d⟩ := h; exact ⟨σ', H', ω', A', I', a, b, c, d⟩
  | brk => obtain ⟨σ', H', I', ω', A', a, b, c, d⟩ := h; exact ⟨σ', H', ω', A', I', a, b, c, d⟩
  | cont => obtain ⟨σ', H', I', ω', A', a, b, c, d⟩ := h; exact ⟨σ', H', ω', A', I', a, b, c, d⟩
  | ret u => obtain ⟨v, σ', H', I', r, w, A', a, b, c, d⟩ := h; exact ⟨v, σ', H', w, A', I', r, a, b, c, d⟩
theorem sp_lo {pins : List (Addr × Obj)} {H : Hp} {D' : Dw} {D : Ends} {f : Flow} {s' : Shared} (h1 : ∀ σ H', (UpD X.K H D').nx σ H' → D.nx σ H') (h2 : ∀ σ H', (UpD X.K H D').bk σ H' → D.bk σ H') (h3 : ∀ σ H', (UpD X.K H D').ct σ H' → D.ct σ H')
    (h4 : ∀ v H', (UpD X.K H D').rt v H' → D.rt v H') (h : SPw X pins H D' f s') : SP X pins D f s' := by
  cases f with
  | next => obtain ⟨σ', H', ω', A', I', a, b, c, d⟩ := h; exact ⟨σ', H', I', h1 _ _ ⟨ω', A', a, b, c, d⟩⟩
  | brk => obtain ⟨σ', H', ω', A', I', a, b, c, d⟩ := h; exact ⟨σ', H', I', h2 _ _ ⟨ω', A', a, b, c, d⟩⟩
  | cont => obtain ⟨σ', H', ω', A', I', a, b, c, d⟩ := h; exact ⟨σ', H', I', h3 _ _ ⟨ω', A', a, b, c, d⟩⟩
  | ret u => obtain ⟨v, σ', H', w, A', I', r, a, b, c, d⟩ := h; exact ⟨v, σ', H', I', r, h4 _ _ ⟨w, A', a, b, c, d⟩⟩
theorem WS.ps (h : WS X st ts) : PS X st (loS X.K ts) := ⟨fun pins s σ H D I ⟨ω, A, D', sm, ra, ht, h1, h2, h3, h4⟩ => thn (h.run pins s σ H ω A D' I sm ra ht) fun f s' q => sp_lo h1 h2 h3 h4 q⟩
theorem WSs.ps (h : WSs X sts ts) : PSs X sts (loS X.K ts) := ⟨fun pins s σ H D I ⟨ω, A, D', sm, ra, ht, h1, h2, h3, h4⟩ => thn (h.run pins s σ H ω A D' I sm ra ht) fun f s' q => sp_lo h1 h2 h3 h4 q⟩
theorem WS.of {te : TS} (h : PS X st te) (c : ∀ D σ H ω A, SimS X.K H σ ω → RepA X.K H A → ts D ω A → te (UpD X.K H D) σ H) : WS X st ts := ⟨fun pins s σ H ω A D I sm ra ht =>
  thn (h.run pins s σ H _ I (c D σ H ω A sm ra ht)) fun f s' q => sp_up q⟩
theorem WSs.of {te : TS} (h : PSs X sts te) (c : ∀ D σ H ω A, SimS X.K H σ ω → RepA X.K H A → ts D ω A → te (UpD X.K H D) σ H) : WSs X sts ts := ⟨fun pins s σ H ω A D I sm ra ht =>
  thn (h.run pins s σ H _ I (c D σ H ω A sm ra ht)) fun f s' q => sp_up q⟩
end
section
variable {K : PySem.W.Frag} {σ : L2.St} {H : Hp} {ω : Sw} {A : AH} {t : TEw} {tt : TTw} {ta : TAw} {ts : TSw}
/-- how a reading above is used below -/
theorem lo_i {Q' : VKw} {Q : VK} (sm : SimS K H σ ω) (ra : RepA K H A) (h : t ω A Q') (k : ∀ v H' w A', TupLe K H H' → SimS K H' σ ω → RepA K H' A' → rep K H' v w → Q' w A' → Q v H') : lo K t σ H Q :=
  ⟨ω, A, Q', sm, ra, h, fun v H' ⟨w, A', t1, t2, t3, q⟩ => k v H' w A' t1 (sm.mono t1) t2 t3 q⟩
theorem loT_i {Q' : Bool → AH → Prop} {Q : Bool → Hp → Prop} (sm : SimS K H σ ω) (ra : RepA K H A) (h : tt ω A Q') (k : ∀ b H' A', TupLe K H H' → SimS K H' σ ω → RepA K H' A' → Q' b A' → Q b H') : loT K tt σ H Q :=
  ⟨ω, A, Q', sm, ra, h, fun v H' ⟨A', t1, t2, q⟩ => k v H' A' t1 (sm.mono t1) t2 q⟩
theorem loA_i {Q' : List W → AH → Prop} {Q : List V → Hp → Prop} (sm : SimS K H σ ω) (ra : RepA K H A) (h : ta ω A Q') (k : ∀ vs H' ws A', TupLe K H H' → SimS K H' σ ω → RepA K H' A' → reps K H' vs ws → Q' ws A' → Q vs H') : loA K ta σ H Q :=
  ⟨ω, A, Q', sm, ra, h, fun v H' ⟨w, A', t1, t2, t3, q⟩ => k v H' w A' t1 (sm.mono t1) t2 t3 q⟩
theorem loS_i {D' : Dw} {D : Ends} (sm : SimS K H σ ω) (ra : RepA K H A) (h : ts D' ω A) (h1 : ∀ σ' H' ω' A', TupLe K H H' → SimS K H' σ' ω' → RepA K H' A' → D'.nx ω' A' → D.nx σ' H')
    (h2 : ∀ σ' H' ω' A', TupLe K H H' → SimS K H' σ' ω' → RepA K H' A' → D'.bk ω' A' → D.bk σ' H') (h3 : ∀ σ' H' ω' A', TupLe K H H' → SimS K H' σ' ω' → RepA K H' A' → D'.ct ω' A' → D.ct σ' H')
    (h4 : ∀ v H' w A', TupLe K H H' → RepA K H' A' → rep K H' v w → D'.rt w A' → D.rt v H') : loS K ts D σ H :=
  ⟨ω, A, D', sm, ra, h, fun σ' H' ⟨ω', A', a, b, c, d⟩ => h1 σ' H' ω' A' a b c d, fun σ' H' ⟨ω', A', a, b, c, d⟩ => h2 σ' H' ω' A' a b c d, fun σ' H' ⟨ω', A', a, b, c, d⟩ => h3 σ' H' ω' A' a b c d,
    fun v H' ⟨w, A', a, b, c, d⟩ => h4 v H' w A' a b c d⟩
theorem Up.trans {H1 : Hp} {Q : VKw} {v : V} {H' : Hp} (a : TupLe K H H1) (u : Up K H1 Q v H') : Up K H Q v H' := let ⟨w, A', t1, t2, t3, q⟩ := u; ⟨w, A', a.trans t1, t2, t3, q⟩
theorem Up.i {Q : VKw} {v : V} {w : W} (ra : RepA K H A) (r : rep K H v w) (q : Q w A) : Up K H Q v H := ⟨w, A, TupLe.refl H, ra, r, q⟩
theorem UpD.trans_nx {D : Dw} {H1 H' : Hp} {σ' : L2.St} (a : TupLe K H H1) (u : (UpD K H1 D).nx σ' H') : (UpD K H D).nx σ' H' := let ⟨w, A', t1, t2, t3, q⟩ := u; ⟨w, A', a.trans t1, t2, t3, q⟩
theorem UpD.trans_bk {D : Dw} {H1 H' : Hp} {σ' : L2.St} (a : TupLe K H H1) (u : (UpD K H1 D).bk σ' H') : (UpD K H D).bk σ' H' := let ⟨w, A', t1, t2, t3, q⟩ := u; ⟨w, A', a.trans t1, t2, t3, q⟩
theorem UpD.trans_ct {D : Dw} {H1 H' : Hp} {σ' : L2.St} (a : TupLe K H H1) (u : (UpD K H1 D).ct σ' H') : (UpD K H D).ct σ' H' := let ⟨w, A', t1, t2, t3, q⟩ := u; ⟨w, A', a.trans t1, t2, t3, q⟩
theorem UpD.trans_rt {D : Dw} {H1 H' : Hp} {v : V} (a : TupLe K H H1) (u : (UpD K H1 D).rt v H') : (UpD K H D).rt v H' := Up.trans a u
/-- a statement's reading is used as the whole's -/
theorem loS_u {D : Dw} {H0 : Hp} (t0 : TupLe K H0 H) (sm : SimS K H σ ω) (ra : RepA K H A) (h : ts D ω A) : loS K ts (UpD K H0 D) σ H :=
  ⟨ω, A, D, sm, ra, h, fun _ _ u => UpD.trans_nx t0 u, fun _ _ u => UpD.trans_bk t0 u, fun _ _ u => UpD.trans_ct t0 u, fun _ _ u => UpD.trans_rt t0 u⟩
theorem lo_u {Q : VKw} {H0 : Hp} (t0 : TupLe K H0 H) (sm : SimS K H σ ω) (ra : RepA K H A) (h : t ω A Q) : lo K t σ H (Up K H0 Q) := ⟨ω, A, Q, sm, ra, h, fun _ _ u => Up.trans t0 u⟩
theorem loT_u {Q : Bool → AH → Prop} {H0 : Hp} (t0 : TupLe K H0 H) (sm : SimS K H σ ω) (ra : RepA K H A) (h : tt ω A Q) : loT K tt σ H (UpT K H0 Q) := ⟨ω, A, Q, sm, ra, h, fun _ _ ⟨A', t1, t2, q⟩ => ⟨A', t0.trans t1, t2, q⟩⟩
end

/-! ### the small rules -/
section
variable {X : Cx} {pos : Pos}
def wVar (i : Nat) : TEw := fun ω A Q => ∃ w, ω[i]? = some (some w) ∧ Q w A
def wC (w : W) : TEw := fun _ A Q => Q w A
theorem we_var {i : Nat} {e : Expr} (h : PE X e (tVar i)) : WE X e (wVar i) := WE.of h fun σ H ω A Q sm ra ⟨w, e, q⟩ => let ⟨v, e', r⟩ := sm.2 i w e; ⟨v, e', Up.i ra r q⟩
theorem we_c {e : Expr} {v : V} {w : W} (h : PE X e (tC v)) (r : ∀ H, rep X.K H v w) : WE X e (wC w) := WE.of h fun σ H ω A Q sm ra q => Up.i ra (r H) q
theorem we_int {i j} : WE X (.Constant (.int i) j pos) (wC (.int i)) := we_c pe_int fun _ => by simp only [rep]
theorem we_bl {b j} : WE X (.Constant (.bool b) j pos) (wC (.bl b)) := we_c pe_bl fun _ => by simp only [rep]
theorem we_non {j} : WE X (.Constant .none j pos) (wC .non) := we_c pe_non fun _ => by simp only [rep]
theorem we_str {x j} : WE X (.Constant (.str x) j pos) (wC (.str x)) := we_c pe_str fun _ => by simp only [rep]
/-- two places -/
abbrev R2w := W → W → AH → VKw → Prop
def OpW (X : Cx) (f : Value → Value → Sem Value) (r : R2w) : Prop :=
  ∀ (pins : List (Addr × Obj)) (s : Shared) (σ : L2.St) (H : Hp) (A : AH) (x y : V) (u v : Value) (a b : W) (Q : VKw), Inv X pins σ H s → RepA X.K H A → RelV x u → RelV y v → rep X.K H x a → rep X.K H y b → r a b A Q →
    wpAny (model X.prog X.w) X.A (f u v) (EPw X pins σ H Q) X.xe s
theorem OpW.of {f : Value → Value → Sem Value} {r2 : R2} {r : R2w} (h : OpR X f r2) (c : ∀ H A x y a b Q, RepA X.K H A → rep X.K H x a → rep X.K H y b → r a b A Q → r2 x y H (Up X.K H Q)) : OpW X f r :=
  fun pins s σ H A x y u v a b Q I ra rx ry ha hb q => thn (h pins s σ H x y u v _ I rx ry (c H A x y a b Q ra ha hb q)) fun _ _ ⟨v, H', I', r, w, A', t1, t2, t3, q⟩ => ⟨v, H', w, A', I', r, t1, t2, t3, q⟩
def wOp (r : R2w) (ta tb : TEw) : TEw := fun ω A Q => ta ω A fun a A1 => tb ω A1 fun b A2 => r a b A2 Q
theorem OpW.opr {f : Value → Value → Sem Value} {r : R2w} (h : OpW X f r) : OpR X f (fun x y H Q => ∃ A a b Q', RepA X.K H A ∧ rep X.K H x a ∧ rep X.K H y b ∧ r a b A Q' ∧ ∀ v H', Up X.K H Q' v H' → Q v H') :=
  fun pins s σ H x y u v Q I rx ry ⟨A, a, b, Q', ra, ha, hb, q, k⟩ => thn (h pins s σ H A x y u v a b Q' I ra rx ry ha hb q) fun _ _ ⟨v, H', w, A', I', r, t1, t2, t3, q⟩ => ⟨v, H', I', r, k v H' ⟨w, A', t1, t2, t3, q⟩⟩
variable {a b e : Expr} {es : List Expr} {ta tb te : TEw} {tA : TAw} {tt tu : TTw}
theorem wop_lo {r : R2w} {σ : L2.St} {H : Hp} {ω : Sw} {A : AH} {Q : VKw} (sm : SimS X.K H σ ω) (ra : RepA X.K H A) (h : wOp r ta tb ω A Q) :
    tOp (fun x y H Q => ∃ A a b Q', RepA X.K H A ∧ rep X.K H x a ∧ rep X.K H y b ∧ r a b A Q' ∧ ∀ v H', Up X.K H Q' v H' → Q v H') (lo X.K ta) (lo X.K tb) σ H (Up X.K H Q) :=
  lo_i sm ra h fun v1 H1 w1 A1 t1 sm1 ra1 r1 h1 => lo_i sm1 ra1 h1 fun v2 H2 w2 A2 t2 sm2 ra2 r2 h2 => ⟨A2, w1, w2, Q, ra2, rep_mono t2 _ _ r1, r2, h2, fun _ _ u => Up.trans (t1.trans t2) u⟩
theorem we_op {op : Operator} {r : R2w} (ho : OpW X (binaryOp op) r) (ha : WE X a ta) (hb : WE X b tb) : WE X (.BinOp a op b pos) (wOp r ta tb) := WE.of (pe_op ho.opr ha.pe hb.pe) fun _ _ _ _ _ sm ra h => wop_lo sm ra h
theorem we_cmp {op : CmpOp} {r : R2w} (ho : OpW X (compareOp op) r) (ha : WE X a ta) (hb : WE X b tb) (hm : behindInMarks op b = false) : WE X (.Compare a [op] [b] pos) (wOp r ta tb) := WE.of (pe_cmpR ho.opr ha.pe hb.pe hm) fun _ _ _ _ _ sm ra h => wop_lo sm ra h
/-- a value that is a bool, as a test -/
def wTest (t : TEw) : TTw := fun ω A Q => t ω A fun w A' => ∃ k, w = .bl k ∧ Q k A'
theorem wt_cmp {op : CmpOp} {r : R2w} (ho : OpW X (compareOp op) r) (ha : WE X a ta) (hb : WE X b tb) (hm : behindInMarks op b = false) : WT X (.Compare a [op] [b] pos) (wTest (wOp r ta tb)) := by
  refine WT.of (pt_cmpR ho.opr ha.pe hb.pe hm) fun σ H ω A Q sm ra h => ?_
  show tOp _ _ _ σ H _
  refine lo_i sm ra h fun v1 H1 w1 A1 t1 sm1 ra1 r1 h1 => lo_i sm1 ra1 h1 fun v2 H2 w2 A2 t2 sm2 ra2 r2 h2 => ⟨A2, w1, w2, _, ra2, rep_mono t2 _ _ r1, r2, h2, fun v H' ⟨w, A', u1, u2, u3, k, e, q⟩ => ?_⟩
  subst e
  simp only [rep] at u3
  exact ⟨k, u3, A', (t1.trans t2).trans u1, u2, q⟩
theorem wt_val (h : WE X e te) (he : ∀ whole, isTrue e X.env whole = (do let v ← whole; standAt e.pos; holding [v] (truthy v)) := by intro _; rfl) : WT X e (wTest te) := by
  refine WT.of (pt_val h.pe he) fun σ H ω A Q sm ra hq => lo_i sm ra hq fun v H' w A' t1 _ ra' r ⟨k, e, q⟩ => ?_
  subst e
  simp only [rep] at r
  exact ⟨k, r, A', t1, ra', q⟩
/-! and, or, not -/
structure WW (X : Cx) (e : Expr) (t : TTw) : Prop where
  run : PW X e (loT X.K t)
def wAnd (t u : TTw) : TTw := fun ω A Q => t ω A fun c A1 => if c = true then u ω A1 Q else Q false A1
def wOr (t u : TTw) : TTw := fun ω A Q => t ω A fun c A1 => if c = true then Q true A1 else u ω A1 Q
def wNot (t : TTw) : TTw := fun ω A Q => t ω A fun c A1 => Q (!c) A1
theorem PW.imp {e : Expr} {t u : TT} (h : PW X e t) (c : ∀ σ H Q, u σ H Q → t σ H Q) : PW X e u := ⟨fun wh pins s σ H Q I q => h.run wh pins s σ H Q I (c σ H Q q)⟩
theorem WW.wt (h : WW X e tt) : WT X e tt := WT.of h.run.pt fun σ H ω A Q sm ra q => loT_u (TupLe.refl H) sm ra q
theorem ww_and1 (ha : WT X a tt) : WW X (.BoolOp .And [a] pos) tt := ⟨pw_and1 ha.pt⟩
theorem ww_or1 (ha : WT X a tt) : WW X (.BoolOp .Or [a] pos) tt := ⟨pw_or1 ha.pt⟩
theorem ww_and {rest : List Expr} (ha : WT X a tt) (hb : WW X (.BoolOp .And (b :: rest) pos) tu) : WW X (.BoolOp .And (a :: b :: rest) pos) (wAnd tt tu) := ⟨PW.imp (pw_and ha.pt hb.run) fun σ H Q ⟨ω, A, Q', sm, ra, h, k⟩ =>
  loT_i sm ra h fun c H1 A1 t1 sm1 ra1 h1 => by
    cases c with
    | true => exact loT_i sm1 ra1 h1 fun d H2 A2 t2 _ ra2 q => k d H2 ⟨A2, t1.trans t2, ra2, q⟩
    | false => exact k false H1 ⟨A1, t1, ra1, h1⟩⟩
theorem ww_or {rest : List Expr} (ha : WT X a tt) (hb : WW X (.BoolOp .Or (b :: rest) pos) tu) : WW X (.BoolOp .Or (a :: b :: rest) pos) (wOr tt tu) := ⟨PW.imp (pw_or ha.pt hb.run) fun σ H Q ⟨ω, A, Q', sm, ra, h, k⟩ =>
  loT_i sm ra h fun c H1 A1 t1 sm1 ra1 h1 => by
    cases c with
    | false => exact loT_i sm1 ra1 h1 fun d H2 A2 t2 _ ra2 q => k d H2 ⟨A2, t1.trans t2, ra2, q⟩
    | true => exact k true H1 ⟨A1, t1, ra1, h1⟩⟩
theorem wt_not (ha : WT X a tt) : WT X (.UnaryOp .Not a pos) (wNot tt) := WT.of (pt_not ha.pt) fun σ H ω A Q sm ra h => loT_i sm ra h fun c H1 A1 t1 sm1 ra1 h1 => ⟨A1, t1, ra1, h1⟩
/-! as values: all but the last a bool -/
def wAndV (ta tb : TEw) : TEw := fun ω A Q => ta ω A fun x A1 => ∃ c, x = .bl c ∧ if c = true then tb ω A1 Q else Q (.bl false) A1
def wOrV (ta tb : TEw) : TEw := fun ω A Q => ta ω A fun x A1 => ∃ c, x = .bl c ∧ if c = true then Q (.bl true) A1 else tb ω A1 Q
def wNotV (ta : TEw) : TEw := fun ω A Q => ta ω A fun x A1 => ∃ c, x = .bl c ∧ Q (.bl (!c)) A1
theorem we_one {op} (h : WE X a ta) : WE X (.BoolOp op [a] pos) ta := WE.of (pe_one h.pe) fun σ H ω A Q sm ra q => lo_u (TupLe.refl H) sm ra q
theorem we_and {rest : List Expr} (ha : WE X a ta) (hb : WE X (.BoolOp .And (b :: rest) pos) tb) : WE X (.BoolOp .And (a :: b :: rest) pos) (wAndV ta tb) := WE.of (pe_and ha.pe hb.pe) fun σ H ω A Q sm ra h => lo_i sm ra h fun v H1 w A1 t1 sm1 ra1 r ⟨c, e, h1⟩ => by
  subst e
  simp only [rep] at r
  refine ⟨c, r, ?_⟩
  cases c with
  | true => exact lo_u t1 sm1 ra1 h1
  | false => exact ⟨.bl false, A1, t1, ra1, by simp only [rep], h1⟩
theorem we_or {rest : List Expr} (ha : WE X a ta) (hb : WE X (.BoolOp .Or (b :: rest) pos) tb) : WE X (.BoolOp .Or (a :: b :: rest) pos) (wOrV ta tb) := WE.of (pe_or ha.pe hb.pe) fun σ H ω A Q sm ra h => lo_i sm ra h fun v H1 w A1 t1 sm1 ra1 r ⟨c, e, h1⟩ => by
  subst e
  simp only [rep] at r
  refine ⟨c, r, ?_⟩
  cases c with
  | false => exact lo_u t1 sm1 ra1 h1
  | true => exact ⟨.bl true, A1, t1, ra1, by simp only [rep], h1⟩
theorem we_not (ha : WE X a ta) : WE X (.UnaryOp .Not a pos) (wNotV ta) := WE.of (pe_not ha.pe) fun σ H ω A Q sm ra h => lo_i sm ra h fun v H1 w A1 t1 sm1 ra1 r ⟨c, e, h1⟩ => by
  subst e
  simp only [rep] at r
  exact ⟨c, r, .bl (!c), A1, t1, ra1, by simp only [rep], h1⟩
def wIf (t : TTw) (ta tb : TEw) : TEw := fun ω A Q => t ω A fun c A1 => if c = true then ta ω A1 Q else tb ω A1 Q
theorem we_if {c : Expr} (hc : WT X c tt) (ha : WE X a ta) (hb : WE X b tb) : WE X (.IfExp c a b pos) (wIf tt ta tb) := WE.of (pe_ifExp hc.pt ha.pe hb.pe) fun σ H ω A Q sm ra h => loT_i sm ra h fun c H1 A1 t1 sm1 ra1 h1 => by
  cases c with
  | true => exact lo_u t1 sm1 ra1 h1
  | false => exact lo_u t1 sm1 ra1 h1
/-! arguments, displays -/
def wNil : TAw := fun _ A Q => Q [] A
def wCons (te : TEw) (tr : TAw) : TAw := fun ω A Q => te ω A fun w A1 => tr ω A1 fun ws A2 => Q (w :: ws) A2
theorem wa_nil : WA X [] wNil := WA.of pa_nil fun σ H ω A Q sm ra h => ⟨[], A, TupLe.refl H, ra, reps_nil, h⟩
theorem wa_cons (ha : WE X e te) (hr : WA X es tA) (hs : starEach (e :: es) X.env = (false, eval e X.env) :: starEach es X.env := by rfl) : WA X (e :: es) (wCons te tA) :=
  WA.of (pa_cons ha.pe hr.pa hs) fun σ H ω A Q sm ra h => lo_i sm ra h fun v H1 w A1 t1 sm1 ra1 r h1 => loA_i sm1 ra1 h1 fun vs H2 ws A2 t2 _ ra2 r2 q => ⟨w :: ws, A2, t1.trans t2, ra2, reps_cons (rep_mono t2 _ _ r) r2, q⟩
def wTup (t : TAw) : TEw := fun ω A Q => t ω A fun ws A1 => ws.length ≤ sizeLine ∧ Q (.tup ws) A1
def wLst (t : TAw) : TEw := fun ω A Q => t ω A fun ws A1 => ws.length ≤ sizeLine ∧ ∀ p, A1.h p = none → Q (.ref p) (A1.put p (.lst ws))
theorem rep_tup {K : PySem.W.Frag} {H : Hp} {p : Addr} {vs : List V} {ws : List W} (h : H p = some (.tup vs)) (r : reps K H vs ws) : rep K H (.ref p) (.tup ws) := by
  simp only [rep]
  exact ⟨p, vs, rfl, h, r⟩
theorem we_tup {k : Nat} (h : WA X es tA) : WE X (.Tuple es k pos) (wTup tA) := WE.of (pe_tup h.pa) fun σ H ω A Q sm ra hq => loA_i sm ra hq fun vs H1 ws A1 t1 sm1 ra1 r ⟨z, q⟩ =>
  ⟨by rw [reps_length r]; exact z, fun p hp => ⟨.tup ws, A1, t1.trans (tupLe_new hp), ra1.new0 hp, rep_tup upd_same (reps_mono (tupLe_new hp) _ _ r), q⟩⟩
theorem we_lst (h : WA X es tA) : WE X (.List es pos) (wLst tA) := WE.of (pe_lst h.pa) fun σ H ω A Q sm ra hq => loA_i sm ra hq fun vs H1 ws A1 t1 sm1 ra1 r ⟨z, q⟩ =>
  ⟨by rw [reps_length r]; exact z, fun p hp => ⟨.ref p, _, t1.trans (tupLe_new hp), ra1.new (wo := .lst ws) hp ⟨vs, upd_same, reps_mono (tupLe_new hp) _ _ r⟩, by simp only [rep], q p (ra1.fresh hp)⟩⟩
end
end Wx

set_option Elab.async false
set_option linter.all false
set_option maxRecDepth 100000
set_option maxHeartbeats 4000000
/-! WX3: targets, statements, what is walked, loops. -/
namespace Wx
open PySem L2

/-! ### targets -/
abbrev TGw := W → Sw → AH → (Sw → AH → Prop) → Prop
abbrev TGsw := List W → Sw → AH → (Sw → AH → Prop) → Prop
def UpS (K : PySem.W.Frag) (H : Hp) (Q : Sw → AH → Prop) : L2.St → Hp → Prop := fun σ' H' => ∃ ω' A', TupLe K H H' ∧ SimS K H' σ' ω' ∧ RepA K H' A' ∧ Q ω' A'
def loG (K : PySem.W.Frag) (t : TGw) : TG := fun v σ H Q => ∃ w ω A Q', rep K H v w ∧ SimS K H σ ω ∧ RepA K H A ∧ t w ω A Q' ∧ ∀ σ' H', UpS K H Q' σ' H' → Q σ' H'
def loGs (K : PySem.W.Frag) (t : TGsw) : TGs := fun vs σ H Q => ∃ ws ω A Q', reps K H vs ws ∧ SimS K H σ ω ∧ RepA K H A ∧ t ws ω A Q' ∧ ∀ σ' H', UpS K H Q' σ' H' → Q σ' H'
structure WG (X : Cx) (tg : Expr) (t : TGw) : Prop where
  pg : PG X tg (loG X.K t)
structure WGs (X : Cx) (tgs : List Expr) (t : TGsw) : Prop where
  pgs : PGs X tgs (loGs X.K t)
theorem PG.imp {X : Cx} {tg : Expr} {t u : TG} (h : PG X tg t) (c : ∀ v σ H Q, u v σ H Q → t v σ H Q) : PG X tg u := ⟨fun pins s σ H v u' Q I r q => h.run pins s σ H v u' Q I r (c v σ H Q q)⟩
theorem PGs.imp {X : Cx} {tg : List Expr} {t u : TGs} (h : PGs X tg t) (c : ∀ v σ H Q, u v σ H Q → t v σ H Q) : PGs X tg u := ⟨fun pins s σ H v u' Q I r q => h.run pins s σ H v u' Q I r (c v σ H Q q)⟩
section
variable {X : Cx} {pos : Pos} {K : PySem.W.Frag} {tg : Expr} {tgs : List Expr} {g : TGw} {gs : TGsw}
theorem UpS.i {H : Hp} {Q : Sw → AH → Prop} {σ : L2.St} {ω : Sw} {A : AH} (sm : SimS K H σ ω) (ra : RepA K H A) (q : Q ω A) : UpS K H Q σ H := ⟨ω, A, TupLe.refl H, sm, ra, q⟩
theorem loG_i {H : Hp} {v : V} {w : W} {σ : L2.St} {ω : Sw} {A : AH} {Q' : Sw → AH → Prop} {Q : L2.St → Hp → Prop} (r : rep K H v w) (sm : SimS K H σ ω) (ra : RepA K H A) (h : g w ω A Q')
    (k : ∀ σ' H' ω' A', TupLe K H H' → SimS K H' σ' ω' → RepA K H' A' → Q' ω' A' → Q σ' H') : loG K g v σ H Q := ⟨w, ω, A, Q', r, sm, ra, h, fun σ' H' ⟨ω', A', a, b, c, d⟩ => k σ' H' ω' A' a b c d⟩
theorem loGs_i {H : Hp} {v : List V} {w : List W} {σ : L2.St} {ω : Sw} {A : AH} {Q' : Sw → AH → Prop} {Q : L2.St → Hp → Prop} (r : reps K H v w) (sm : SimS K H σ ω) (ra : RepA K H A) (h : gs w ω A Q')
    (k : ∀ σ' H' ω' A', TupLe K H H' → SimS K H' σ' ω' → RepA K H' A' → Q' ω' A' → Q σ' H') : loGs K gs v σ H Q := ⟨w, ω, A, Q', r, sm, ra, h, fun σ' H' ⟨ω', A', a, b, c, d⟩ => k σ' H' ω' A' a b c d⟩
def wgName (i : Nat) : TGw := fun w ω A Q => Q (ω.set i (some w)) A
theorem wg_name {i : Nat} {x : Str} (hN : X.N.Nodup) (hi : X.N[i]? = some x) (hx : Loc X.env.scope x) (hf : X.fn x = true ∨ X.env.scope.names.lookup x = some .local := by first | exact .inl rfl | exact .inr rfl | assumption) : WG X (.Name x pos) (wgName i) :=
  ⟨PG.imp (pg_name hN hi hx hf) fun v σ H Q ⟨w, ω, A, Q', r, sm, ra, h, k⟩ => k _ _ (UpS.i (sm.set r) ra h)⟩
def wgNil : TGsw := fun ws ω A Q => ws = [] ∧ Q ω A
def wgCons (t : TGw) (u : TGsw) : TGsw := fun ws ω A Q => ∃ w r, ws = w :: r ∧ t w ω A fun ω' A' => u r ω' A' Q
theorem wgs_nil : WGs X [] wgNil := ⟨PGs.imp pgs_nil fun v σ H Q ⟨w, ω, A, Q', r, sm, ra, ⟨e, h⟩, k⟩ => ⟨by subst e; exact reps_unnil r, k _ _ (UpS.i sm ra h)⟩⟩
theorem wgs_cons (h1 : WG X tg g) (h2 : WGs X tgs gs) (hs : (assignEach (tg :: tgs) X.env).map (·.2) = assign tg X.env :: (assignEach tgs X.env).map (·.2) := by rfl) : WGs X (tg :: tgs) (wgCons g gs) :=
  ⟨PGs.imp (pgs_cons h1.pg h2.pgs hs) fun v σ H Q ⟨w, ω, A, Q', r, sm, ra, ⟨w0, wr, e, h⟩, k⟩ => by
    subst e
    obtain ⟨v0, vr, rfl, r0, rr⟩ := reps_uncons r
    exact ⟨v0, vr, rfl, loG_i r0 sm ra h fun σ1 H1 ω1 A1 t1 sm1 ra1 h1 => loGs_i (reps_mono t1 _ _ rr) sm1 ra1 h1 fun σ2 H2 ω2 A2 t2 sm2 ra2 q => k _ _ ⟨ω2, A2, t1.trans t2, sm2, ra2, q⟩⟩⟩
def wgTup (n : Nat) (t : TGsw) : TGw := fun w ω A Q => ∃ ws, w = .tup ws ∧ ws.length = n ∧ t ws ω A Q
theorem wg_tup {k n : Nat} (hc : X.calm = true) (h : WGs X tgs gs) (hn : (assignEach tgs X.env).length = n := by rfl) (hst : (assignEach tgs X.env).findIdx? (·.1) = none := by rfl) : WG X (.Tuple tgs k pos) (wgTup n gs) :=
  ⟨PG.imp (pg_tup hc h.pgs hn hst) fun v σ H Q ⟨w, ω, A, Q', r, sm, ra, ⟨ws, e, l, h⟩, k⟩ => by
    subst e
    simp only [rep] at r
    obtain ⟨a, vs, e, s, rs⟩ := r
    exact ⟨a, vs, e, SqT.of s, (reps_length rs).trans l, loGs_i rs sm ra h fun σ1 H1 ω1 A1 t1 sm1 ra1 q => k _ _ ⟨ω1, A1, t1, sm1, ra1, q⟩⟩⟩
end

/-! ### statements -/
section
variable {X : Cx} {pos : Pos} {st : Stmt} {sts : List Stmt} {e : Expr} {te : TEw} {t u : TSw} {tt : TTw} {g : TGw} {tg : Expr}
def wNext : TSw := fun D ω A => D.nx ω A
def wSeq (t u : TSw) : TSw := fun D ω A => t { D with nx := u D } ω A
def wBrk : TSw := fun D ω A => D.bk ω A
def wCont : TSw := fun D ω A => D.ct ω A
theorem wss_nil : WSs X [] wNext := WSs.of pss_nil fun D σ H ω A sm ra h => ⟨ω, A, TupLe.refl H, sm, ra, h⟩
theorem wss_cons (h1 : WS X st t) (h2 : WSs X sts u) : WSs X (st :: sts) (wSeq t u) := WSs.of (pss_cons h1.ps h2.ps) fun D σ H ω A sm ra h =>
  loS_i sm ra h (fun σ' H' ω' A' t1 sm1 ra1 q => loS_u t1 sm1 ra1 q) (fun σ' H' ω' A' t1 sm1 ra1 q => ⟨ω', A', t1, sm1, ra1, q⟩) (fun σ' H' ω' A' t1 sm1 ra1 q => ⟨ω', A', t1, sm1, ra1, q⟩) (fun v H' w A' t1 ra1 r q => ⟨w, A', t1, ra1, r, q⟩)
theorem wss_one (h1 : WS X st t) : WSs X [st] t := WSs.of (pss_one h1.ps) fun D σ H ω A sm ra h => loS_u (TupLe.refl H) sm ra h
theorem ws_pass : WS X (.Pass pos) wNext := WS.of ps_pass fun D σ H ω A sm ra h => ⟨ω, A, TupLe.refl H, sm, ra, h⟩
theorem ws_break : WS X (.Break pos) wBrk := WS.of ps_break fun D σ H ω A sm ra h => ⟨ω, A, TupLe.refl H, sm, ra, h⟩
theorem ws_continue : WS X (.Continue pos) wCont := WS.of ps_continue fun D σ H ω A sm ra h => ⟨ω, A, TupLe.refl H, sm, ra, h⟩
def wDrop (te : TEw) : TSw := fun D ω A => te ω A fun _ A1 => D.nx ω A1
theorem ws_expr (he : WE X e te) (hs : swapsWith e none pos.line X.env = pure false := by rfl) : WS X (.Expr e pos) (wDrop te) := WS.of (ps_expr he.pe hs) fun D σ H ω A sm ra h =>
  lo_i sm ra h fun v H1 w A1 t1 sm1 ra1 r q => ⟨ω, A1, t1, sm1, ra1, q⟩
def wRet (te : TEw) : TSw := fun D ω A => te ω A D.rt
theorem ws_ret (he : WE X e te) : WS X (.Return (some e) pos) (wRet te) := WS.of (ps_ret he.pe) fun D σ H ω A sm ra h => lo_u (TupLe.refl H) sm ra h
def wRetN : TSw := fun D _ A => D.rt .non A
theorem ws_retN : WS X (.Return none pos) wRetN := WS.of ps_retN fun D σ H ω A sm ra h => Up.i ra (by simp only [rep]) h
def wIfS (c : TTw) (t u : TSw) : TSw := fun D ω A => c ω A fun b A1 => if b = true then t D ω A1 else u D ω A1
theorem ws_if {c : Expr} {a b : List Stmt} (hc : WT X c tt) (ha : WSs X a t) (hb : WSs X b u) : WS X (.If c a b pos) (wIfS tt t u) := WS.of (ps_if hc.pt ha.ps hb.ps) fun D σ H ω A sm ra h =>
  loT_i sm ra h fun c H1 A1 t1 sm1 ra1 q => by
    cases c with
    | true => exact loS_u t1 sm1 ra1 q
    | false => exact loS_u t1 sm1 ra1 q
def wAsg (te : TEw) (g : TGw) : TSw := fun D ω A => te ω A fun w A1 => g w ω A1 D.nx
theorem ws_asg (he : WE X e te) (hg : WG X tg g) (hs : swapsWithSole [tg] e pos.line X.env = pure false := by rfl) (hw : swappedStores [tg] e X.env = pure none := by rfl)
    (h1 : (assignEach [tg] X.env).map (·.2) = [assign tg X.env] := by rfl) : WS X (.Assign [tg] e pos) (wAsg te g) := WS.of (ps_asg he.pe hg.pg hs hw h1) fun D σ H ω A sm ra h =>
  lo_i sm ra h fun v H1 w A1 t1 sm1 ra1 r q => loG_i r sm1 ra1 q fun σ2 H2 ω2 A2 t2 sm2 ra2 q2 => ⟨ω2, A2, t1.trans t2, sm2, ra2, q2⟩
theorem ws_set {i : Nat} {x : Str} {pos' : Pos} (hN : X.N.Nodup) (hi : X.N[i]? = some x) (hx : Loc X.env.scope x) (he : WE X e te) (hs : swapsWith e (some (.Name x pos')) pos.line X.env = pure false := by rfl) (hf : X.fn x = true ∨ X.env.scope.names.lookup x = some .local := by first | exact .inl rfl | exact .inr rfl | assumption) :
    WS X (.Assign [.Name x pos'] e pos) (wAsg te (wgName i)) := WS.of (ps_set hN hi hx he.pe hs hf) fun D σ H ω A sm ra h =>
  lo_i sm ra h fun v H1 w A1 t1 sm1 ra1 r q => ⟨ω.set i (some w), A1, t1, sm1.set r, ra1, q⟩
/-- a, b = x, y -/
def wPar (i j : Nat) (ta : TAw) : TSw := fun D ω A => ta ω A fun ws A1 => ∃ v w, ws = [v, w] ∧ D.nx ((ω.set i (some v)).set j (some w)) A1
theorem ws_par {i j : Nat} {x y : Str} {a b : Expr} {ta : TAw} {px py pt : Pos} {kt k2 pt2} (hc : X.calm = true) (hN : X.N.Nodup) (hi : X.N[i]? = some x) (hj : X.N[j]? = some y) (hij : i ≠ j)
    (hx : X.env.scope.names.lookup x = some .local) (hy : X.env.scope.names.lookup y = some .local) (ha : WA X [a, b] ta)
    (hw : swappedStores [.Tuple [.Name x px, .Name y py] kt pt] (.Tuple [a, b] k2 pt2) X.env = pure (some [x, y]))
    (hs : swapsWithSole [.Tuple [.Name x px, .Name y py] kt pt] (.Tuple [a, b] k2 pt2) pos.line X.env = pure false := by rfl) :
    WS X (.Assign [.Tuple [.Name x px, .Name y py] kt pt] (.Tuple [a, b] k2 pt2) pos) (wPar i j ta) := WS.of (ps_par hc hN hi hj hij hx hy ha.pa hw hs) fun D σ H ω A sm ra h =>
  loA_i sm ra h fun vs H1 ws A1 t1 sm1 ra1 r ⟨v, w, e, q⟩ => by
    subst e
    obtain ⟨v1, r1, rfl, h1, r⟩ := reps_uncons r
    obtain ⟨v2, r2, rfl, h2, r⟩ := reps_uncons r
    obtain rfl := reps_unnil r
    exact ⟨v1, v2, rfl, _, A1, t1, (sm1.set h1).set h2, ra1, q⟩
/-- x op= e -/
def wAug (i : Nat) (te : TEw) (r : R2w) : TSw := fun D ω A => ∃ x, ω[i]? = some (some x) ∧ te ω A fun y A1 => r x y A1 fun z A2 => D.nx (ω.set i (some z)) A2
theorem ws_aug {i : Nat} {x : Str} {op : Operator} {r : R2w} {pos' : Pos} (hN : X.N.Nodup) (hi : X.N[i]? = some x) (hx : Loc X.env.scope x) (he : WE X e te) (ho : OpW X (inplaceOp op) r) (hf : X.fn x = true ∨ X.env.scope.names.lookup x = some .local := by first | exact .inl rfl | exact .inr rfl | assumption) :
    WS X (.AugAssign (.Name x pos') op e pos) (wAug i te r) := by
  have hp : PIp X op (fun x y H Q => ∃ A a b Q', RepA X.K H A ∧ rep X.K H x a ∧ rep X.K H y b ∧ r a b A Q' ∧ ∀ v H', Up X.K H Q' v H' → Q v H') := fun pins s σ H x y v u Q I rx ry q => ho.opr pins s σ H x y v u Q I rx ry q
  refine WS.of (ps_aug hN hi hx he.pe hp hf) fun D σ H ω A sm ra ⟨x0, e0, h⟩ => ?_
  obtain ⟨v0, e1, r0⟩ := sm.2 i x0 e0
  exact ⟨v0, e1, lo_i sm ra h fun v H1 w A1 t1 sm1 ra1 r1 q => ⟨A1, x0, w, _, ra1, rep_mono t1 _ _ r0, r1, q, fun v2 H2 ⟨w2, A2, t2, ra2, r2, q2⟩ => ⟨ω.set i (some w2), A2, t1.trans t2, (sm1.mono t2).set r2, ra2, q2⟩⟩⟩
/-- what is known may be forgotten -/
def wFg (t : TEw) : TEw := fun ω A Q => t ω A fun w A' => ∃ A'', A''.Sub A' ∧ Q w A''
theorem we_fg (h : WE X e te) : WE X e (wFg te) := ⟨fun pins s σ H ω A Q I sm ra ht => thn (h.run pins s σ H ω A _ I sm ra ht) fun u s' ⟨v, H', w, A', I', r, t1, t2, t3, A'', sb, q⟩ => ⟨v, H', w, A'', I', r, t1, t2.sub sb, t3, q⟩⟩
def wFgS (t : TSw) : TSw := fun D ω A => ∃ A', A'.Sub A ∧ t D ω A'
theorem ws_fg (h : WS X st t) : WS X st (wFgS t) := ⟨fun pins s σ H ω A D I sm ra ⟨A', sb, ht⟩ => h.run pins s σ H ω A' D I sm (ra.sub sb) ht⟩
theorem wss_fg (h : WSs X sts t) : WSs X sts (wFgS t) := ⟨fun pins s σ H ω A D I sm ra ⟨A', sb, ht⟩ => h.run pins s σ H ω A' D I sm (ra.sub sb) ht⟩
theorem wss_never : WSs X sts (fun _ _ _ => False) := ⟨fun _ _ _ _ _ _ _ _ _ _ h => h.elim⟩
end

/-! ### what is walked -/
abbrev TIw := Sw → AH → (List W → (AH → Prop) → AH → Prop) → Prop
/-- J draws the items while g stands; H0: where it began -/
structure Draws (K : PySem.W.Frag) (H0 : Hp) (J : It) (items : List W) (g : AH → Prop) : Prop where
  stop : ∀ i H A, TupLe K H0 H → RepA K H A → g A → items.length ≤ i → J.stop i H
  go : ∀ i H A w, TupLe K H0 H → RepA K H A → g A → items[i]? = some w → J.go i H
  yld : ∀ i H A w x H', TupLe K H0 H → RepA K H A → g A → items[i]? = some w → J.yld i H x H' → TupLe K H H' ∧ RepA K H' A ∧ rep K H' x w
def loI (K : PySem.W.Frag) (t : TIw) : TI := fun σ H R => ∃ ω A R', SimS K H σ ω ∧ RepA K H A ∧ t ω A R' ∧ ∀ J H' items g A', TupLe K H H' → SimS K H' σ ω → RepA K H' A' → Draws K H' J items g → R' items g A' → R J H'
structure WI (X : Cx) (tg iter : Expr) (t : TIw) : Prop where
  pi : PI X tg iter (loI X.K t)
theorem PI.imp {X : Cx} {tg iter : Expr} {t u : TI} (h : PI X tg iter t) (c : ∀ σ H R, u σ H R → t σ H R) : PI X tg iter u := ⟨fun pins s σ H R I q => h.run pins s σ H R I (c σ H R q)⟩

def isL (A : AH) (a : Addr) (ws : List W) : Prop := A.h a = some (.lst ws) ∨ A.h a = some (.rol ws)
theorem isL.sq {K : PySem.W.Frag} {H : Hp} {A : AH} {a : Addr} {ws : List W} (h : isL A a ws) (ra : RepA K H A) : ∃ vs, SqL K H a vs ∧ reps K H vs ws := by
  rcases h with h | h
  · obtain ⟨vs, e, r⟩ := ra.1 a _ h
    exact ⟨vs, SqL.of e, r⟩
  · obtain ⟨vs, e, r⟩ := ra.1 a _ h
    exact ⟨vs, .inl e, r⟩
section
variable {X : Cx} {pos : Pos} {tg l : Expr} {te : TEw}
/-! the items of a value -/
def signs (z : Str) : List W := z.cps.toList.map fun c => .str ⟨#[c]⟩
def iterW (w : W) (A : AH) (R : List W → (AH → Prop) → AH → Prop) : Prop := match w with
  | .tup ws => R ws (fun _ => True) A
  | .ktup ws => R ws (fun _ => True) A
  | .str z => R (signs z) (fun _ => True) A
  | .ref a => ∃ ws, isL A a ws ∧ R ws (fun A' => isL A' a ws) A
  | _ => False
def wIt (te : TEw) : TIw := fun ω A R => te ω A fun w A1 => iterW w A1 R
/-- an iterable of a kind that is not known ahead -/
theorem pi_dyn {tl : TE} (hl : PE X l tl) : PI X tg l (fun σ H R => tl σ H fun x H1 => (∃ a xs, x = .ref a ∧ SqL X.K H1 a xs ∧ R (Itl X.K a) H1) ∨ (∃ a xs, x = .ref a ∧ SqT X.K H1 a xs ∧ R (Itt X.K a) H1) ∨ (∃ z, x = .str z ∧ R (Its z) H1)) := by
  refine ⟨fun pins s σ H R I h => ?_⟩
  refine thn (hl.run pins s σ H _ I h) fun v s1 ⟨x, H1, I1, r1, q1⟩ => ?_
  have back : ∀ {u : V} {tl' : TE}, RelV u v → tl' σ H1 (fun x' H' => x' = u ∧ H' = H1) → True := fun _ _ => trivial
  rcases q1 with ⟨a, xs, e, hq, q⟩ | ⟨a, xs, e, hq, q⟩ | ⟨z, e, q⟩
  · subst e
    cases r1
    have hp : PE X l (fun σ' H' Q => ∀ pins' s', Inv X pins' σ' H' s' → wpAny (model X.prog X.w) X.A (eval l X.env) (EP X pins' σ' Q) X.xe s') := ⟨fun pins' s' σ' H' Q I' q' => q' pins' s' I'⟩
    obtain ⟨its, rv, p, hz⟩ := I1.list hq
    refine PySem.wpAny_pyIter_list p.isList ?_
    refine ⟨s1.heap.objs.size, [s1.heap.objs.size], _, _, H1, rfl, I1.kept (t' := s1.toks) fun b o e => Heap.get?_push_of_some _ e, turn_list a _, ⟨_, Heap.get?_push_size _ rfl, rfl, rfl⟩, fun b hb => ?_, q⟩
    have e : b = s1.heap.objs.size := by simpa using hb
    subst e
    exact I1.fpOk (Nat.le_refl _) (I1.hok.fresh (Nat.le_refl _))
  · subst e
    cases r1
    obtain ⟨its, rv, p, hz⟩ := I1.tuple hq
    refine PySem.wpAny_pyIter_tuple (show s1.heap.IsTuple a its.toArray from p) ?_
    refine ⟨s1.heap.objs.size, [s1.heap.objs.size], _, _, H1, rfl, I1.kept (t' := s1.toks) fun b o e => Heap.get?_push_of_some _ e, turn_tuple a _, ⟨_, Heap.get?_push_size _ rfl, rfl, rfl⟩, fun b hb => ?_, q⟩
    have e : b = s1.heap.objs.size := by simpa using hb
    subst e
    exact I1.fpOk (Nat.le_refl _) (I1.hok.fresh (Nat.le_refl _))
  · subst e
    obtain ⟨t, rfl⟩ := r1
    cases ha : z.cps.all (· < 128)
    · exact wpAny_pyIter_wide ha (pi_one (tk := s1.toks) I1 _ (turn_str _ z t "str_iterator" (.inr rfl)) ⟨_, Heap.get?_push_size _ rfl, rfl, rfl⟩ q)
    · exact wpAny_pyIter_ascii ha (pi_one (tk := s1.toks) I1 _ (turn_str _ z t "str_ascii_iterator" (.inl rfl)) ⟨_, Heap.get?_push_size _ rfl, rfl, rfl⟩ q)
theorem draws_list {K : PySem.W.Frag} {H : Hp} {a : Addr} {vs : List V} {ws : List W} (r : reps K H vs ws) : Draws K H (Itl K a) ws (fun A => isL A a ws) where
  stop := fun i H' A t ra g hl => by
    obtain ⟨us, hs, r'⟩ := g.sq ra
    exact ⟨us, hs, by rw [reps_length r']; exact hl⟩
  go := fun i H' A w t ra g e => by
    obtain ⟨us, hs, r'⟩ := g.sq ra
    obtain ⟨v, ev, _⟩ := reps_get r' e
    exact ⟨us, v, hs, ev⟩
  yld := fun i H' A w x H2 t ra g e y => by
    obtain ⟨us, hs, r'⟩ := g.sq ra
    obtain ⟨v, ev, rv⟩ := reps_get r' e
    obtain ⟨e2, y⟩ := y
    subst e2
    have := y us hs
    rw [ev] at this
    cases this
    exact ⟨TupLe.refl _, ra, rv⟩
theorem draws_tup {K : PySem.W.Frag} {H : Hp} {a : Addr} {vs : List V} {ws : List W} (hs : SqT K H a vs) (r : reps K H vs ws) : Draws K H (Itt K a) ws (fun _ => True) where
  stop := fun i H' A t ra g hl => ⟨vs, t.sq hs, by rw [reps_length r]; exact hl⟩
  go := fun i H' A w t ra g e => by
    obtain ⟨v, ev, _⟩ := reps_get r e
    exact ⟨vs, v, t.sq hs, ev⟩
  yld := fun i H' A w x H2 t ra g e y => by
    obtain ⟨v, ev, rv⟩ := reps_get r e
    obtain ⟨e2, y⟩ := y
    subst e2
    have := y vs (t.sq hs)
    rw [ev] at this
    cases this
    exact ⟨TupLe.refl _, ra, rep_mono t _ _ rv⟩
theorem signs_get {z : Str} {i : Nat} {w : W} (h : (signs z)[i]? = some w) : ∃ c, z.cps[i]? = some c ∧ w = .str ⟨#[c]⟩ := by
  unfold signs at h
  rw [List.getElem?_map] at h
  cases e : z.cps.toList[i]? with
  | none => rw [e] at h; cases h
  | some c => rw [e] at h; cases h; exact ⟨c, by simpa using e, rfl⟩
theorem draws_str {K : PySem.W.Frag} {H : Hp} {z : Str} : Draws K H (Its z) (signs z) (fun _ => True) where
  stop := fun i H' A t ra g hl => by
    show z.cps.size ≤ i
    unfold signs at hl
    simpa using hl
  go := fun i H' A w t ra g e => by
    obtain ⟨c, e, _⟩ := signs_get e
    show i < z.cps.size
    exact (Array.getElem?_eq_some_iff.mp e).1
  yld := fun i H' A w x H2 t ra g e y => by
    obtain ⟨c, e3, rfl⟩ := signs_get e
    obtain ⟨e2, c', e', rfl⟩ := y
    subst e2
    obtain rfl : c = c' := Option.some.inj (e3.symm.trans e')
    exact ⟨TupLe.refl _, ra, by simp only [rep]⟩
theorem wi_it (hl : WE X l te) : WI X tg l (wIt te) := ⟨PI.imp (pi_dyn hl.pe) fun σ H R ⟨ω, A, R', sm, ra, h, k⟩ => lo_i sm ra h fun v H1 w A1 t1 sm1 ra1 r q => by
  cases w with
  | tup ws =>
    simp only [rep] at r
    obtain ⟨a, vs, e, s, rs⟩ := r
    exact .inr (.inl ⟨a, vs, e, SqT.of s, k _ _ _ _ _ t1 sm1 ra1 (draws_tup (SqT.of s) rs) q⟩)
  | ktup ws =>
    simp only [rep] at r
    obtain ⟨a, vs, e, s, rs⟩ := r
    exact .inr (.inl ⟨a, vs, e, s, k _ _ _ _ _ t1 sm1 ra1 (draws_tup s rs) q⟩)
  | str z =>
    simp only [rep] at r
    exact .inr (.inr ⟨z, r, k _ _ _ _ _ t1 sm1 ra1 draws_str q⟩)
  | ref a =>
    simp only [rep] at r
    obtain ⟨ws, hi, q⟩ := q
    obtain ⟨vs, hs, rs⟩ := hi.sq ra1
    exact .inl ⟨a, vs, r, hs, k _ _ _ _ _ t1 sm1 ra1 (draws_list rs) q⟩
  | non => exact False.elim q
  | bl b => exact False.elim q
  | int b => exact False.elim q
  | ty b => exact False.elim q⟩
/-! range -/
def wints (lo : Int) (n : Nat) : List W := (List.range n).map fun i => .int (lo + (i : Nat))
theorem wints_length {lo : Int} {n : Nat} : (wints lo n).length = n := by unfold wints; simp
theorem wints_get {lo : Int} {n i : Nat} {w : W} (h : (wints lo n)[i]? = some w) : i < n ∧ w = .int (lo + (i : Nat)) := by
  unfold wints at h
  rw [List.getElem?_map] at h
  by_cases hi : i < n
  · rw [List.getElem?_range hi] at h
    cases h
    exact ⟨hi, rfl⟩
  · rw [List.getElem?_eq_none (by simpa using hi)] at h
    cases h
theorem draws_rng {K : PySem.W.Frag} {H : Hp} {lo : Int} {n : Nat} : Draws K H (Itr lo n) (wints lo n) (fun _ => True) where
  stop := fun i H' A t ra g hl => by rw [wints_length] at hl; exact hl
  go := fun i H' A w t ra g e => (wints_get e).1
  yld := fun i H' A w x H2 t ra g e y => by
    obtain ⟨_, rfl⟩ := wints_get e
    obtain ⟨e2, rfl⟩ := y
    subst e2
    exact ⟨TupLe.refl _, ra, by simp only [rep]⟩
def wRng1 (ta : TAw) : TIw := fun ω A R => ta ω A fun ws A1 => ∃ j : Int, ws = [.int j] ∧ -(2 ^ 62) ≤ j ∧ j < 2 ^ 62 ∧ R (wints 0 j.toNat) (fun _ => True) A1
def wRng2 (ta : TAw) : TIw := fun ω A R => ta ω A fun ws A1 => ∃ i j : Int, ws = [.int i, .int j] ∧ (-(2 ^ 62) ≤ i ∧ i < 2 ^ 62 ∧ -(2 ^ 62) ≤ j ∧ j < 2 ^ 62) ∧ R (wints i (j - i).toNat) (fun _ => True) A1
variable {a b : Expr} {ta : TAw} {p : Pos}
theorem wi_range1 (hg : Gl X "range") (hm : X.mg "range" = none) (ha : WA X [a] ta) (hs : starEach [a] X.env = [(false, eval a X.env)] := by rfl) : WI X tg (.Call (.Name "range" p) [a] [] pos) (wRng1 ta) :=
  ⟨PI.imp (pi_range1 hg hm ha.pa hs) fun σ H R ⟨ω, A, R', sm, ra, h, k⟩ => loA_i sm ra h fun vs H1 ws A1 t1 sm1 ra1 r ⟨j, e, q1, q2, q⟩ => by
    subst e
    obtain ⟨v1, r1, rfl, h1, r⟩ := reps_uncons r
    obtain rfl := reps_unnil r
    simp only [rep] at h1
    exact ⟨j, by rw [h1], q1, q2, k _ _ _ _ _ t1 sm1 ra1 draws_rng q⟩⟩
theorem wi_range2 (hg : Gl X "range") (hm : X.mg "range" = none) (ha : WA X [a, b] ta) (hs : starEach [a, b] X.env = [(false, eval a X.env), (false, eval b X.env)] := by rfl) (hs2 : starEach [b] X.env = [(false, eval b X.env)] := by rfl) :
    WI X tg (.Call (.Name "range" p) [a, b] [] pos) (wRng2 ta) :=
  ⟨PI.imp (pi_range2 hg hm ha.pa hs hs2) fun σ H R ⟨ω, A, R', sm, ra, h, k⟩ => loA_i sm ra h fun vs H1 ws A1 t1 sm1 ra1 r ⟨i, j, e, q1, q⟩ => by
    subst e
    obtain ⟨v1, r1, rfl, h1, r⟩ := reps_uncons r
    obtain ⟨v2, r2, rfl, h2, r⟩ := reps_uncons r
    obtain rfl := reps_unnil r
    simp only [rep] at h1 h2
    exact ⟨i, j, by rw [h1, h2], q1, k _ _ _ _ _ t1 sm1 ra1 draws_rng q⟩⟩
end

/-! ### for -/
section
variable {X : Cx} {pos : Pos} {tg iter : Expr} {body : List Stmt} {ti : TIw} {g : TGw} {tb : TSw}
def wLoop (g : TGw) (tb : TSw) (D : Dw) (gd : AH → Prop) : List W → Sw → AH → Prop
  | [], ω, A => gd A ∧ D.nx ω A
  | w :: ws, ω, A => gd A ∧ g w ω A fun ω2 A2 => tb { D with nx := wLoop g tb D gd ws, ct := wLoop g tb D gd ws } ω2 A2
def wFor (ti : TIw) (g : TGw) (tb : TSw) : TSw := fun D ω A => ti ω A fun ws gd A1 => wLoop g tb { D with bk := D.nx, ct := D.nx } gd ws ω A1
theorem ws_for (hp : PassesOwn (model X.prog X.w) X.A X.env X.xe) (hc : X.calm = true) (hi : WI X tg iter ti) (hg : WG X tg g) (hb : WSs X body tb) (hs : ∀ x, foldedSetIterable iter X.env x = pure x := by intro _; rfl) :
    WS X (.For tg iter body [] pos) (wFor ti g tb) := WS.of (ps_for hp hc hi.pi hg.pg hb.ps hs) fun D σ H ω A sm ra h =>
  ⟨ω, A, _, sm, ra, h, fun J H1 items gd A1 t1 sm1 ra1 dr q => by
    refine ⟨fun i m σ' H' => m = items.length - i ∧ i ≤ items.length ∧ ∃ ω' A', TupLe X.K H1 H' ∧ SimS X.K H' σ' ω' ∧ RepA X.K H' A' ∧ wLoop g tb { D with bk := D.nx, ct := D.nx } gd (items.drop i) ω' A', ⟨items.length, by simp, Nat.zero_le _, ω, A1, TupLe.refl _, sm1, ra1, q⟩, ?_⟩
    rintro i m σ' H' ⟨rfl, hi, ω', A', t2, sm2, ra2, q2⟩
    by_cases hlt : i < items.length
    · right
      have ed : items.drop i = items[i] :: items.drop (i + 1) := List.drop_eq_getElem_cons hlt
      have ei : items[i]? = some items[i] := List.getElem?_eq_getElem hlt
      rw [ed] at q2
      obtain ⟨hgd, q2⟩ := q2
      refine ⟨dr.go i H' A' _ t2 ra2 hgd ei, fun σ3 H3 => ∃ ω' A', TupLe X.K H1 H3 ∧ SimS X.K H3 σ3 ω' ∧ RepA X.K H3 A' ∧ wLoop g tb { D with bk := D.nx, ct := D.nx } gd (items.drop (i + 1)) ω' A', fun σ3 H3 hh => ⟨items.length - (i + 1), by omega, rfl, hlt, hh⟩, fun x H3 y => ?_⟩
      obtain ⟨t3, ra3, rx⟩ := dr.yld i H' A' _ x H3 t2 ra2 hgd ei y
      refine loG_i rx (sm2.mono t3) ra3 q2 fun σ4 H4 ω4 A4 t4 sm4 ra4 q4 => ?_
      have t24 := (t2.trans t3).trans t4
      refine loS_i sm4 ra4 q4 (fun σ5 H5 ω5 A5 t5 sm5 ra5 q5 => ⟨ω5, A5, t24.trans t5, sm5, ra5, q5⟩) (fun σ5 H5 ω5 A5 t5 sm5 ra5 q5 => ⟨ω5, A5, t1.trans (t24.trans t5), sm5, ra5, q5⟩)
        (fun σ5 H5 ω5 A5 t5 sm5 ra5 q5 => ⟨ω5, A5, t24.trans t5, sm5, ra5, q5⟩) (fun v H5 w A5 t5 ra5 r5 q5 => ⟨w, A5, t1.trans (t24.trans t5), ra5, r5, q5⟩)
    · left
      have e : i = items.length := by omega
      subst e
      rw [List.drop_length] at q2
      exact ⟨dr.stop _ H' A' t2 ra2 q2.1 (Nat.le_refl _), ω', A', t1.trans t2, sm2, ra2, q2.2⟩⟩
/-! while -/
def wWhile (c : TTw) (tb : TSw) : TSw := fun D ω A => ∃ W : Nat → Sw → AH → Prop, (∃ m, W m ω A) ∧ ∀ m ω A, W m ω A →
  c ω A fun b A1 => if b = true then tb { D with nx := fun ω' A' => ∃ m', m' < m ∧ W m' ω' A', ct := fun ω' A' => ∃ m', m' < m ∧ W m' ω' A', bk := D.nx } ω A1 else D.nx ω A1
theorem ws_while {c : Expr} {tc : TTw} (hp : PassesOwn (model X.prog X.w) X.A X.env X.xe) (hc : WT X c tc) (hb : WSs X body tb) : WS X (.While c body [] pos) (wWhile tc tb) := WS.of (ps_while hp hc.pt hb.ps) fun D σ H ω A sm ra ⟨W, ⟨m0, w0⟩, turn⟩ => by
  refine ⟨fun m σ' H' => ∃ ω' A', TupLe X.K H H' ∧ SimS X.K H' σ' ω' ∧ RepA X.K H' A' ∧ W m ω' A', ⟨m0, ω, A, TupLe.refl _, sm, ra, w0⟩, ?_⟩
  rintro m σ' H' ⟨ω', A', t1, sm1, ra1, w1⟩
  refine loT_i sm1 ra1 (turn m ω' A' w1) fun b H2 A2 t2 sm2 ra2 q2 => ?_
  cases b with
  | true =>
    refine ⟨fun σ3 H3 => ∃ m', m' < m ∧ ∃ ω' A', TupLe X.K H H3 ∧ SimS X.K H3 σ3 ω' ∧ RepA X.K H3 A' ∧ W m' ω' A', fun σ3 H3 hh => hh, ?_⟩
    have t12 := t1.trans t2
    exact loS_i sm2 ra2 q2 (fun σ5 H5 ω5 A5 t5 sm5 ra5 ⟨m', hm, w5⟩ => ⟨m', hm, ω5, A5, t12.trans t5, sm5, ra5, w5⟩) (fun σ5 H5 ω5 A5 t5 sm5 ra5 q5 => ⟨ω5, A5, t12.trans t5, sm5, ra5, q5⟩)
      (fun σ5 H5 ω5 A5 t5 sm5 ra5 ⟨m', hm, w5⟩ => ⟨m', hm, ω5, A5, t12.trans t5, sm5, ra5, w5⟩) (fun v H5 w A5 t5 ra5 r5 q5 => ⟨w, A5, t12.trans t5, ra5, r5, q5⟩)
  | false => exact ⟨ω', A2, t1.trans t2, sm2, ra2, q2⟩
end
end Wx

set_option Elab.async false
set_option linter.all false
set_option maxRecDepth 100000
set_option maxHeartbeats 4000000
/-! WX4: comprehensions, calls of defs, a def's promise. -/
namespace Wx
open PySem L2

/-! ### comprehensions -/
def wipeW (ω : Sw) : List Nat → Sw
  | [] => ω
  | v :: vs => (wipeW ω vs).set v none
theorem SimS.wipe {K : PySem.W.Frag} {H : Hp} {σ : L2.St} {ω : Sw} (s : SimS K H σ ω) : ∀ vs : List Nat, SimS K H (L2.wipe σ vs) (wipeW ω vs)
  | [] => s
  | v :: vs => (SimS.wipe s vs).unset
/-- tests -/
structure WTs (X : Cx) (ifs : List Expr) (t : TTw) : Prop where
  pts : PTs X ifs (loT X.K t)
def wYes : TTw := fun _ A Q => Q true A
theorem PTs.imp {X : Cx} {ifs : List Expr} {t u : TT} (h : PTs X ifs t) (c : ∀ σ H Q, u σ H Q → t σ H Q) : PTs X ifs u := ⟨fun pins s σ H Q I q => h.run pins s σ H Q I (c σ H Q q)⟩
section
variable {X : Cx} {e : Expr} {tt : TTw}
theorem wts_nil : WTs X [] wYes := ⟨PTs.imp pts_nil fun σ H Q ⟨ω, A, Q', sm, ra, h, k⟩ => k true H ⟨A, TupLe.refl H, ra, h⟩⟩
theorem wts_one (h : WT X e tt) : WTs X [e] tt := ⟨pts_one h.pt⟩
end
def lcLoop (g : TGw) (tt : TTw) (te : TEw) (ωw : Sw) (gd : AH → Prop) (D : Addr) (Q : VKw) : List W → AH → Prop
  | [], A => gd A ∧ Q (.ref D) A
  | w :: ws, A => gd A ∧ g w ωw A fun ω2 A2 => tt ω2 A2 fun b A3 =>
      if b = true then te ω2 A3 fun y A4 => ∃ acc, A4.h D = some (.lst acc) ∧ acc.length < sizeLine ∧ lcLoop g tt te ωw gd D Q ws (A4.put D (.lst (acc ++ [y]))) else lcLoop g tt te ωw gd D Q ws A3
def wLc (ti : TIw) (g : TGw) (tt : TTw) (te : TEw) (vs : List Nat) : TEw := fun ω A Q => ti ω A fun ws gd A1 => ∀ D, A1.h D = none → lcLoop g tt te (wipeW ω vs) gd D Q ws (A1.put D (.lst []))
/-- a comprehension's target: it stores into the block's own slots -/
def loGc (K : PySem.W.Frag) (vs : List Nat) (t : TGw) : TG := fun v σ H Q => ∃ w ω A Q', rep K H v w ∧ SimS K H σ ω ∧ RepA K H A ∧ t w ω A Q' ∧ ∀ σ' H', L2.wipe σ' vs = L2.wipe σ vs → UpS K H Q' σ' H' → Q σ' H'
def loGsc (K : PySem.W.Frag) (vs : List Nat) (t : TGsw) : TGs := fun v σ H Q => ∃ w ω A Q', reps K H v w ∧ SimS K H σ ω ∧ RepA K H A ∧ t w ω A Q' ∧ ∀ σ' H', L2.wipe σ' vs = L2.wipe σ vs → UpS K H Q' σ' H' → Q σ' H'
structure WGc (X : Cx) (vs : List Nat) (tg : Expr) (t : TGw) : Prop where
  pg : PG X tg (loGc X.K vs t)
structure WGsc (X : Cx) (vs : List Nat) (tgs : List Expr) (t : TGsw) : Prop where
  pgs : PGs X tgs (loGsc X.K vs t)
theorem wipe_set_mem {σ : L2.St} {i : Nat} {v : Option V} : ∀ {vs : List Nat}, i ∈ vs → L2.wipe (σ.set i v) vs = L2.wipe σ vs
  | [], h => nomatch h
  | j :: vs, h => by
    unfold L2.wipe
    by_cases e : i ∈ vs
    · rw [wipe_set_mem e]
    · have ej : i = j := by
        rcases List.mem_cons.mp h with z | z
        · exact z
        · exact absurd z e
      subst ej
      have out : ∀ vs : List Nat, i ∉ vs → L2.wipe (σ.set i v) vs = (L2.wipe σ vs).set i v := by
        intro vs
        induction vs with
        | nil => intro _; rfl
        | cons k vs ih =>
          intro hk
          unfold L2.wipe
          rw [ih fun z => hk (List.mem_cons_of_mem _ z), List.set_comm _ _ (fun z => hk (by rw [z]; exact List.mem_cons_self))]
      rw [out vs e, List.set_set]
section
variable {X : Cx} {pos : Pos} {tg : Expr} {tgs : List Expr} {g : TGw} {gs : TGsw} {vs : List Nat}
theorem wgc_name {i : Nat} {x : Str} (hv : i ∈ vs) (hN : X.N.Nodup) (hi : X.N[i]? = some x) (hx : Loc X.env.scope x) (hf : X.fn x = true ∨ X.env.scope.names.lookup x = some .local := by first | exact .inl rfl | exact .inr rfl | assumption) : WGc X vs (.Name x pos) (wgName i) :=
  ⟨PG.imp (pg_name hN hi hx hf) fun v σ H Q ⟨w, ω, A, Q', r, sm, ra, h, k⟩ => k _ _ (wipe_set_mem hv) (UpS.i (sm.set r) ra h)⟩
theorem wgsc_nil : WGsc X vs [] wgNil := ⟨PGs.imp pgs_nil fun v σ H Q ⟨w, ω, A, Q', r, sm, ra, ⟨e, h⟩, k⟩ => ⟨by subst e; exact reps_unnil r, k _ _ rfl (UpS.i sm ra h)⟩⟩
theorem wgsc_cons (h1 : WGc X vs tg g) (h2 : WGsc X vs tgs gs) (hs : (assignEach (tg :: tgs) X.env).map (·.2) = assign tg X.env :: (assignEach tgs X.env).map (·.2) := by rfl) : WGsc X vs (tg :: tgs) (wgCons g gs) :=
  ⟨PGs.imp (pgs_cons h1.pg h2.pgs hs) fun v σ H Q ⟨w, ω, A, Q', r, sm, ra, ⟨w0, wr, e, h⟩, k⟩ => by
    subst e
    obtain ⟨v0, vr, rfl, r0, rr⟩ := reps_uncons r
    exact ⟨v0, vr, rfl, w0, ω, A, _, r0, sm, ra, h, fun σ1 H1 e1 ⟨ω1, A1, t1, sm1, ra1, h1⟩ => ⟨wr, ω1, A1, _, reps_mono t1 _ _ rr, sm1, ra1, h1, fun σ2 H2 e2 ⟨ω2, A2, t2, sm2, ra2, q⟩ => k _ _ (e2.trans e1) ⟨ω2, A2, t1.trans t2, sm2, ra2, q⟩⟩⟩⟩
theorem wgc_tup {k n : Nat} (hc : X.calm = true) (h : WGsc X vs tgs gs) (hn : (assignEach tgs X.env).length = n := by rfl) (hst : (assignEach tgs X.env).findIdx? (·.1) = none := by rfl) : WGc X vs (.Tuple tgs k pos) (wgTup n gs) :=
  ⟨PG.imp (pg_tup hc h.pgs hn hst) fun v σ H Q ⟨w, ω, A, Q', r, sm, ra, ⟨ws, e, l, h⟩, k⟩ => by
    subst e
    simp only [rep] at r
    obtain ⟨a, us, e, s, rs⟩ := r
    exact ⟨a, us, e, SqT.of s, (reps_length rs).trans l, ws, ω, A, Q', rs, sm, ra, h, k⟩⟩
end
theorem wipe_wipe (σ : L2.St) (vs : List Nat) : L2.wipe (L2.wipe σ vs) vs = L2.wipe σ vs := by
  have key : ∀ us : List Nat, (∀ i ∈ us, i ∈ vs) → L2.wipe (L2.wipe σ us) vs = L2.wipe σ vs := by
    intro us
    induction us with
    | nil => intro _; rfl
    | cons u us ih =>
      intro h
      rw [show L2.wipe σ (u :: us) = (L2.wipe σ us).set u none from rfl, wipe_set_mem (h u List.mem_cons_self)]
      exact ih fun i hi => h i (List.mem_cons_of_mem _ hi)
  exact key vs fun _ h => h
theorem tLc_mono {wi : TI} {g : TG} {tt : TT} {te : TE} {vs : List Nat} {σ : L2.St} {H : Hp} {Q Q' : VK} (h : tLc wi g tt te vs σ H Q) (k : ∀ v H', Q v H' → Q' v H') (mi : ∀ σ H (R R' : It → Hp → Prop), (∀ J H', R J H' → R' J H') → wi σ H R → wi σ H R') : tLc wi g tt te vs σ H Q' := by
  refine mi σ H _ _ (fun J H1 q D hD => ?_) h
  obtain ⟨W, h0, turn⟩ := q D hD
  refine ⟨W, h0, fun i m H w => ?_⟩
  rcases turn i m H w with ⟨a, b⟩ | b
  · exact .inl ⟨a, k _ _ b⟩
  · exact .inr b
theorem loI_mono {K : PySem.W.Frag} {t : TIw} : ∀ σ H (R R' : It → Hp → Prop), (∀ J H', R J H' → R' J H') → loI K t σ H R → loI K t σ H R' := fun σ H R R' k ⟨ω, A, R2, sm, ra, h, kk⟩ => ⟨ω, A, R2, sm, ra, h, fun J H' items g A' a b c d e => k J H' (kk J H' items g A' a b c d e)⟩
section
variable {X : Cx} {elt tg iter : Expr} {ifs : List Expr} {scope : Scope} {own : List (Str × Nat)} {pos : Pos} {ti : TIw} {g : TGw} {tt : TTw} {te : TEw}
theorem lc_low {K : PySem.W.Frag} {σ : L2.St} {H : Hp} {ω : Sw} {A : AH} {Q : VKw} {vs : List Nat} (sm : SimS K H σ ω) (ra : RepA K H A) (h : wLc ti g tt te vs ω A Q) :
    tLc (loI K ti) (loGc K vs g) (loT K tt) (lo K te) vs σ H (Up K H Q) := by
  refine ⟨ω, A, _, sm, ra, h, fun J H1 items gd A1 t1 sm1 ra1 dr q D hD => ?_⟩
  have q := q D (ra1.fresh hD)
  have ra1' : RepA K (upd H1 D (.lst [])) (A1.put D (.lst [])) := ra1.new (wo := .lst []) hD ⟨[], upd_same, reps_nil⟩
  have tn : TupLe K H1 (upd H1 D (.lst [])) := tupLe_new hD
  refine ⟨fun i m H' => m = items.length - i ∧ i ≤ items.length ∧ ∃ A', TupLe K H1 H' ∧ RepA K H' A' ∧ lcLoop g tt te (wipeW ω vs) gd D Q (items.drop i) A', ⟨items.length, by simp, Nat.zero_le _, A1.put D (.lst []), tn, ra1', q⟩, ?_⟩
  rintro i m H' ⟨rfl, hi, A', t2, ra2, q2⟩
  by_cases hlt : i < items.length
  · right
    have ed : items.drop i = items[i] :: items.drop (i + 1) := List.drop_eq_getElem_cons hlt
    have ei : items[i]? = some items[i] := List.getElem?_eq_getElem hlt
    rw [ed] at q2
    obtain ⟨hgd, q2⟩ := q2
    refine ⟨dr.go i H' A' _ t2 ra2 hgd ei, fun H3 => ∃ A', TupLe K H1 H3 ∧ RepA K H3 A' ∧ lcLoop g tt te (wipeW ω vs) gd D Q (items.drop (i + 1)) A', fun H3 hh => ⟨items.length - (i + 1), by omega, rfl, hlt, hh⟩, fun x H3 y => ?_⟩
    obtain ⟨t3, ra3, rx⟩ := dr.yld i H' A' _ x H3 t2 ra2 hgd ei y
    have smw : SimS K H3 (L2.wipe σ vs) (wipeW ω vs) := ((sm1.mono t2).mono t3).wipe vs
    refine ⟨_, _, _, _, rx, smw, ra3, q2, fun σ4 H4 ew ⟨ω4, A4, t4, sm4, ra4, q4⟩ => ⟨ew.trans (by first | rfl | exact wipe_wipe σ vs), ?_⟩⟩
    have t24 := (t2.trans t3).trans t4
    refine loT_i sm4 ra4 q4 fun b H5 A5 t5 sm5 ra5 q5 => ?_
    cases b with
    | true =>
      refine lo_i sm5 ra5 q5 fun v H6 w A6 t6 sm6 ra6 r6 ⟨acc, ea, hl, q6⟩ => ?_
      obtain ⟨vacc, eh, rs⟩ := ra6.1 D _ ea
      have ts : TupLe K H6 (upd H6 D (.lst (vacc ++ [v]))) := tupLe_set eh (by intro _ z; cases z) (by intro _ _ z; cases z)
      exact ⟨vacc, eh, by rw [reps_length rs]; exact hl, A6.put D (.lst (acc ++ [w])), ((t24.trans t5).trans t6).trans ts,
        ra6.set (wo' := .lst (acc ++ [w])) ea eh (by intro _ z; cases z) (by intro _ _ z; cases z) ⟨_, upd_same, reps_append (reps_mono ts _ _ rs) (reps_cons (rep_mono ts _ _ r6) reps_nil)⟩, q6⟩
    | false => exact ⟨A5, t24.trans t5, ra5, q5⟩
  · left
    have e : i = items.length := by omega
    subst e
    rw [List.drop_length] at q2
    exact ⟨dr.stop _ H' A' t2 ra2 q2.1 (Nat.le_refl _), .ref D, A', t1.trans t2, ra2, by simp only [rep], q2.2⟩
theorem we_lc (hc : X.calm = true) (hN : X.N.Nodup) (hi : WI X tg iter ti) (ok : BlkOk X.N X.env.scope scope own)
    (hg : ∀ (s : Shared) (H : Hp) (C : Addr) (cl : List (Str × Addr)) (fp : List Addr), WGc (X.blk s H scope (compEnvC scope cl C X.env) fp) (own.map (·.2)) tg g)
    (ht : ∀ (s : Shared) (H : Hp) (C : Addr) (cl : List (Str × Addr)) (fp : List Addr), WTs (X.blk s H scope (compEnvC scope cl C X.env) fp) ifs tt)
    (he : ∀ (s : Shared) (H : Hp) (C : Addr) (cl : List (Str × Addr)) (fp : List Addr), WE (X.blk s H scope (compEnvC scope cl C X.env) fp) elt te) (hs : ∀ x, foldedSetIterable iter X.env x = pure x := by intro _; rfl) :
    WE X (.ListComp elt [⟨tg, iter, ifs, 0⟩] scope pos) (wLc ti g tt te (own.map (·.2))) :=
  WE.of (pe_lc hc hN hi.pi ok (fun s H C cl fp => (hg s H C cl fp).pg) (fun s H C cl fp => (ht s H C cl fp).pts) (fun s H C cl fp => (he s H C cl fp).pe) hs) fun σ H ω A Q sm ra h => lc_low sm ra h
theorem ws_setLc {i : Nat} {y : Str} {py spos : Pos} (hc : X.calm = true) (hN : X.N.Nodup) (hy : X.N[i]? = some y) (hyl : X.env.scope.names.lookup y = some .local)
    (hsw : swapsWith (.ListComp elt [⟨tg, iter, ifs, 0⟩] scope pos) (some (.Name y py)) spos.line X.env = pure true) (hi : WI X tg iter ti) (ok : BlkOk X.N X.env.scope scope own)
    (hg : ∀ (s : Shared) (H : Hp) (C : Addr) (cl : List (Str × Addr)) (fp : List Addr), WGc (X.blk s H scope (compEnvC scope cl C X.env) fp) (own.map (·.2)) tg g)
    (ht : ∀ (s : Shared) (H : Hp) (C : Addr) (cl : List (Str × Addr)) (fp : List Addr), WTs (X.blk s H scope (compEnvC scope cl C X.env) fp) ifs tt)
    (he : ∀ (s : Shared) (H : Hp) (C : Addr) (cl : List (Str × Addr)) (fp : List Addr), WE (X.blk s H scope (compEnvC scope cl C X.env) fp) elt te) (hs : ∀ x, foldedSetIterable iter X.env x = pure x := by intro _; rfl) :
    WS X (.Assign [.Name y py] (.ListComp elt [⟨tg, iter, ifs, 0⟩] scope pos) spos) (wAsg (wLc ti g tt te (own.map (·.2))) (wgName i)) :=
  WS.of (ps_setLc hc hN hy hyl hsw hi.pi ok (fun s H C cl fp => (hg s H C cl fp).pg) (fun s H C cl fp => (ht s H C cl fp).pts) (fun s H C cl fp => (he s H C cl fp).pe) hs) fun D σ H ω A sm ra h => by
    have h1 := lc_low sm ra (h : wLc ti g tt te (own.map (·.2)) ω A fun w A1 => wgName i w ω A1 D.nx)
    refine tLc_mono h1 (fun v H' ⟨w, A', t1, ra1, r, q⟩ => ?_) loI_mono
    exact ⟨ω.set i (some w), A', t1, (sm.mono t1).set r, ra1, q⟩
end
end Wx

set_option Elab.async false
set_option linter.all false
set_option maxRecDepth 100000
set_option maxHeartbeats 4000000
/-! WX5: calls, a def's promise, raising. -/
namespace Wx
open PySem L2

abbrev XKw := Addr → List (Str × W) → AH → Prop
abbrev SpW := List W → AH → VKw → XKw → Prop
/-- the dict of an exception that is on its way -/
def ExAt (K : PySem.W.Frag) (H : Hp) (A : AH) (d : Option Addr) (fs : List (Str × W)) : Prop := (d = none ∧ fs = []) ∨ ∃ dd vf, d = some dd ∧ H dd = some (.xd vf) ∧ A.h dd = none ∧ prs K H vf fs
theorem ExAt.sub {K : PySem.W.Frag} {H : Hp} {A A' : AH} {d : Option Addr} {fs : List (Str × W)} (x : ExAt K H A' d fs) (s : A.Sub A') : ExAt K H A d fs := by
  rcases x with x | ⟨dd, vf, e1, e2, e3, e4⟩
  · exact .inl x
  · exact .inr ⟨dd, vf, e1, e2, s.none e3, e4⟩
def UpE (K : PySem.W.Frag) (H0 : Hp) (E : XKw) : XK := fun cls d H' => ∃ C fs A', cls = .ref C ∧ ExAt K H' A' d fs ∧ TupLe K H0 H' ∧ RepA K H' A' ∧ E C fs A'
/-- .. with the slots -/
abbrev XSw := Sw → XKw
def UpE0 (K : PySem.W.Frag) (E : XSw) : WX := fun cls d σ H' => ∃ C fs ω A', cls = .ref C ∧ ExAt K H' A' d fs ∧ SimS K H' σ ω ∧ RepA K H' A' ∧ E ω C fs A'
def fg (Q : VKw) : VKw := fun w A' => ∃ A'', A''.Sub A' ∧ Q w A''
def fgE (E : XKw) : XKw := fun C fs A' => ∃ A'', A''.Sub A' ∧ E C fs A''
theorem fg_i {Q : VKw} {w : W} {A : AH} (h : Q w A) : fg Q w A := ⟨A, AH.Sub.refl A, h⟩
theorem fgE_i {E : XKw} {C : Addr} {fs : List (Str × W)} {A : AH} (h : E C fs A) : fgE E C fs A := ⟨A, AH.Sub.refl A, h⟩
def E0w : XKw := fun _ _ _ => False
/-- a promise above as one below -/
def spL (K : PySem.W.Frag) (sp : SpW) : Sp := fun vs H Q E => ∃ ws A Q' E', reps K H vs ws ∧ RepA K H A ∧ sp ws A Q' E' ∧ (∀ v H', Up K H Q' v H' → Q v H') ∧ (∀ c d H', UpE K H E' c d H' → E c d H')
/-- the exceptions that leave the code are wished so -/
def TakesW (X : Cx) (E : XSw) : Prop := Takes X (UpE0 X.K E)
theorem Inv.tupLe0 {X : Cx} {pins : List (Addr × Obj)} {σ : L2.St} {H : Hp} {s : Shared} (I : Inv X pins σ H s) : TupLe X.K X.H_0 H := fun a vs => ⟨fun h => I.base.tups a vs h, fun o h => I.base.frzs a o _ h⟩
theorem takesW_of {X : Cx} {E0 : XK} {E : XKw} (t : Takes X (fun cls d _ H => E0 cls d H)) (k : ∀ c d H', UpE X.K X.H_0 E c d H' → E0 c d H') : TakesW X (fun _ => E) := fun u s' ⟨a, B, sI, pins, σ, H, cls, d, e, I, nb, up, sky, na, os, ag, C, fs, ω, A', e1, e2, _, e3, e4⟩ =>
  t u s' ⟨a, B, sI, pins, σ, H, cls, d, e, I, nb, up, sky, na, os, ag, k _ _ _ ⟨C, fs, A', e1, e2, Inv.tupLe0 I, e3, e4⟩⟩

/-! ### defs whose bodies may need that no guard is up -/
structure RoomG (g : Bool) (k : Nat) (A : Around) : Prop where
  r : Room k A
  gd : g = true → A.guards = some []
theorem RoomG.mono {g : Bool} {j k : Nat} {A : Around} (r : RoomG g k A) (h : j ≤ k) : RoomG g j A := ⟨r.r.mono h, r.gd⟩
theorem RoomG.units {g : Bool} {k : Nat} {A : Around} (r : RoomG g k A) : A.units + 64 < cLine := r.r.units
theorem RoomG.low {g : Bool} {k : Nat} {A : Around} (r : RoomG g k A) : RoomG false k A := ⟨r.r, fun z => nomatch z⟩
structure FnB (g : Bool) (P : Program) (w : World) (K : PySem.W.Frag) (mg : Str → Option Value) (base : Heap) (k : Nat) (f : Addr) (fd : FuncData) (ps : List Str) (sp : Sp) : Prop where
  len : ∀ vs H Q E, sp vs H Q E → vs.length = ps.length
  run : ∀ (A : Around) (outer : List Env) (s : Shared) (H : Hp) (args : Args) (us : List Value) (vs : List V) (Q : VK) (E : XK), RoomG g k A → Env0 P w K mg base A outer s H → BindsTo s fd args (ps.zip us) → Vals vs us → sp vs H Q E →
    codeAny (model P w) A (.call (.ref f) args) (CR (L2.CX P w) outer P w H s Q E) s
section
variable {g : Bool} {P : Program} {w : World} {K : PySem.W.Frag} {mg : Str → Option Value} {base : Heap} {k : Nat} {f : Addr} {fd : FuncData} {ps : List Str} {sp sp' : Sp}
theorem FnB.of (F : FnOk P w K mg base (L2.CX P w) k f fd ps sp) : FnB g P w K mg base k f fd ps sp := ⟨F.len, fun A outer s H args us vs Q E hr => F.run A outer s H args us vs Q E hr.r⟩
theorem FnB.ok (F : FnB false P w K mg base k f fd ps sp) : FnOk P w K mg base (L2.CX P w) k f fd ps sp := ⟨F.len, fun A outer s H args us vs Q E hr => F.run A outer s H args us vs Q E ⟨hr, fun z => nomatch z⟩⟩
theorem FnB.up (F : FnB false P w K mg base k f fd ps sp) : FnB g P w K mg base k f fd ps sp := FnB.of F.ok
theorem FnB.imp (F : FnB g P w K mg base k f fd ps sp) (h : ∀ vs H Q E, sp' vs H Q E → sp vs H Q E) : FnB g P w K mg base k f fd ps sp' :=
  ⟨fun vs H Q E q => F.len vs H Q E (h _ _ _ _ q), fun A outer s H args us vs Q E hr he hb hv hs => F.run A outer s H args us vs Q E hr he hb hv (h _ _ _ _ hs)⟩
/-- from the body to the def -/
theorem fnB_of {name qual : Str} {params : Arguments} {body : List Stmt} {scope : Scope} {dV kV doc pm cdv ct oc : Value} {an od : Option Addr} {osl : Array (Option Value)} {N : List Str}
    (lk : K.lookup f = some ⟨oc, od, .func (PySem.W.fnOf name qual params body scope dV kV doc pm an cdv ct), osl⟩) (hcd : PySem.W.codeIn K cdv qual = true) (S : FnScope N ps scope) (len : ∀ vs H Q E, sp vs H Q E → vs.length = ps.length)
    (hbody : ∀ (A : Around) (outer : List Env) (s : Shared) (H : Hp) (vs : List V) (Q : VK) (E : XK), RoomG g k (A.deeper (PyProof.Rows.envOfC qual scope s.heap.objs.size f cdv)) → sp vs H Q E →
      ∃ t, PSs (cxOf (L2.CX P w) P w K mg base N qual scope f cdv A outer s H E) body t ∧ t { nx := fun _ H' => Q .non H', rt := Q } (L2.start N vs) H) :
    FnB g P w K mg base (k + 1) f (PySem.W.fnOf name qual params body scope dV kV doc pm an cdv ct) ps sp where
  len := len
  run := by
    intro A outer s H args us vs Q E hr e0 hb rv hsp
    have keepB : ∀ b o, base.get? b = some o → s.heap.get? b = some o := fun b o e => (e0.bs b o e).1
    have lim : s.heap.NoLimit := e0.mod.nolimit.keeps keepB
    have KX : K.In s.heap := e0.mod.kin.keeps keepB
    have kinds : ∀ y ∈ ps.zip us, scope.names.lookup y.1 = some .local ∨ (scope.names.lookup y.1 = some .cell ∧ ((cellsFrom (s.heap.objs.size + 1) scope.names []).lookup y.1).isSome = true) := by
      rintro ⟨n, v⟩ hy
      exact (S.par n (List.of_mem_zip hy).1).imp (fun q => q) fun q => ⟨q, PySem.W.cellsFrom_some _ _ _ (.inl q)⟩
    refine codeAny_call_function hr.r.depth (KX _ _ lk) rfl S.co S.gen rfl (PySem.W.codeRec_of KX hcd) (hb _ _ _ _ (wpAny_newFunctionEnv_cells S.kind kinds fun env he s1 x => ?_))
    subst he
    obtain ⟨t, ht, hq⟩ := hbody A outer s H vs Q E ⟨hr.r.deeper _, hr.gd⟩ hsp
    have I : Inv (cxOf (L2.CX P w) P w K mg base N qual scope f cdv A outer s H E) [] (L2.start N vs) H s1 := inv_start S hr.r.hd e0 (len _ _ _ _ hsp) rv x
    refine ⟨lim.keeps x.toInCall.keep, codeAny_func (wpAny_mono (ht.run [] s1 (L2.start N vs) H _ I hq) (fun fl s' hs => ?_) fun e s' hs => hs)⟩
    cases fl with
    | next => obtain ⟨_, H', J, q⟩ := hs; exact ⟨V.non, H', J.os, J.bare, J.base, J.hok, rfl, q⟩
    | ret u => obtain ⟨v, _, H', J, rv, q⟩ := hs; exact ⟨v, H', J.os, J.bare, J.base, J.hok, rv, q⟩
    | brk => obtain ⟨_, _, _, z⟩ := hs; exact False.elim z
    | cont => obtain ⟨_, _, _, z⟩ := hs; exact False.elim z
end
section
variable {X : Cx} {g : Bool} {k : Nat} {f C : Addr} {fd : FuncData} {ps : List Str} {sp : Sp} {dvs : List V} {ds : List Value} {E : L2.St → XK} {x m : Str} {p pos apos : Pos} {e o : Expr} {es : List Expr} {t : TA}
theorem run_fnB {pins : List (Addr × Obj)} {σ : L2.St} {H : Hp} {s : Shared} {Q : VK} {us : List Value} {vs : List V} (F : FnB g X.prog X.w X.K X.mg X.base k f fd ps sp) (hr : RoomG g k X.A) (hb : Binds X.K fd ps ds) (hd : Vals dvs ds) (hx : PassesAt (L2.CX X.prog X.w) X σ (E σ))
    (I : Inv X pins σ H s) (r : Vals vs us) (h : sp (vs ++ dvs) H Q (E σ)) : wpAny (model X.prog X.w) X.A (call (.ref f) us) (EP X pins σ Q) X.xe s := by
  have r2 : Vals (vs ++ dvs) (us ++ ds) := r.append hd
  refine wpAny_call (codeAny_mono (F.run X.A X.stack s H ⟨us, []⟩ _ _ Q (E σ) hr I.env0 (hb s us I.kIn (r2.length ▸ F.len _ _ _ _ h)) r2 h) fun r s' hq => ?_)
  rcases r with er | fl
  · exact hx pins H s er s' I hq
  · cases fl <;> first | exact I.after hq | exact False.elim hq
theorem pe_callB' (F : FnB g X.prog X.w X.K X.mg X.base k f fd ps sp) (hr : RoomG g k X.A) (hg : Gl X x) (hm : X.mg x = some (.ref f)) (hk : PySem.W.keepIn X.K (.ref f) = true) (hb : Binds X.K fd ps ds) (hd : Vals dvs ds) (hx : ∀ σ, PassesAt (L2.CX X.prog X.w) X σ (E σ))
    (ha : PA X (e :: es) t) (hdb : (x == ("__debug__" : Str)) = false := by decide) (he : starEach (e :: es) X.env = (false, eval e X.env) :: starEach es X.env := by rfl) (hpl : (backTo pos (starEach es X.env)).any (·.1) = false := by rfl) :
    PE X (.Call (.Name x p) (e :: es) [] pos) (tCallSD sp dvs E t) :=
  ⟨fun pins s σ H Q I h => wpAny_Call_Name_kw (ld_glob I hg hm (PySem.W.callWith_K (h₀ := X.base) I.ok.mod.kin hk (thn (ha.run pos pins s σ H _ I h) fun us s1 ⟨vs, H1, I1, r, q⟩ => ⟨I1.kIn, run_fnB F hr hb hd (hx σ) I1 r q⟩) he hpl) hdb)⟩
theorem pe_callB0 (F : FnB g X.prog X.w X.K X.mg X.base k f fd ps sp) (hr : RoomG g k X.A) (hg : Gl X x) (hm : X.mg x = some (.ref f)) (hk : PySem.W.keepIn X.K (.ref f) = true) (hb : Binds X.K fd ps ds) (hd : Vals dvs ds) (hx : ∀ σ, PassesAt (L2.CX X.prog X.w) X σ (E σ))
    (hdb : (x == ("__debug__" : Str)) = false := by decide) : PE X (.Call (.Name x p) [] [] pos) (tCallSD sp dvs E tNil) :=
  ⟨fun pins s σ H Q I h => wpAny_Call_Name_kw (ld_glob I hg hm (PySem.W.callWith_K0 I.kIn hk (run_fnB (us := []) F hr hb hd (hx σ) I .nil h)) hdb)⟩
end
section
variable {X : Cx} {g : Bool} {k : Nat} {f C : Addr} {fd : FuncData} {ps : List Str} {sp : SpW} {dws : List W} {dvs : List V} {ds : List Value} {E : XSw} {x m : Str} {p pos apos : Pos} {e o : Expr} {es : List Expr} {te : TEw} {ta : TAw}
/-- f(..): nothing is let out -/
def wCall (sp : SpW) (dws : List W) (ta : TAw) : TEw := fun ω A Q => ta ω A fun ws A1 => sp (ws ++ dws) A1 Q E0w
/-- f(..): what is let out goes on -/
def wCallX (sp : SpW) (dws : List W) (ta : TAw) (E : XSw) : TEw := fun ω A Q => ta ω A fun ws A1 => sp (ws ++ dws) A1 Q (E ω)
theorem pass0L {X : Cx} : Passes (L2.CX X.prog X.w) X (fun _ _ _ => False) := fun _ _ _ _ _ _ _ h => by
  obtain ⟨_, _, _, _, _, _, _, _, _, _, _, _, z⟩ := h
  exact z.elim
theorem pass0At {X : Cx} (σ : L2.St) : PassesAt (L2.CX X.prog X.w) X σ (fun _ _ _ => False) := fun _ _ _ _ _ I h => pass0L _ _ _ _ _ _ I h
theorem we_callX (tk : TakesW X E) (F : FnB g X.prog X.w X.K X.mg X.base k f fd ps (spL X.K sp)) (hr : RoomG g k X.A) (hg : Gl X x) (hm : X.mg x = some (.ref f)) (hk : PySem.W.keepIn X.K (.ref f) = true) (hb : Binds X.K fd ps ds) (hd : Vals dvs ds) (hdw : ∀ H, reps X.K H dvs dws)
    (ha : WA X (e :: es) ta) (hdb : (x == ("__debug__" : Str)) = false := by decide) (he : starEach (e :: es) X.env = (false, eval e X.env) :: starEach es X.env := by rfl) (hpl : (backTo pos (starEach es X.env)).any (·.1) = false := by rfl) :
    WE X (.Call (.Name x p) (e :: es) [] pos) (wCallX sp dws ta E) := WE.of (pe_callB' F hr hg hm hk hb hd (fun σ => passAt tk σ) ha.pa hdb he hpl) fun σ H ω A Q sm ra h =>
  loA_i sm ra h fun vs H1 ws A1 t1 sm1 ra1 r q => ⟨ws ++ dws, A1, Q, E ω, reps_append r (hdw H1), ra1, q, fun v H' u => Up.trans t1 u, fun c d H' ⟨C, fs, A', e1, e2, t2, e3, e4⟩ => ⟨C, fs, ω, A', e1, e2, sm1.mono t2, e3, e4⟩⟩
theorem we_callX0 (tk : TakesW X E) (F : FnB g X.prog X.w X.K X.mg X.base k f fd ps (spL X.K sp)) (hr : RoomG g k X.A) (hg : Gl X x) (hm : X.mg x = some (.ref f)) (hk : PySem.W.keepIn X.K (.ref f) = true) (hb : Binds X.K fd ps ds) (hd : Vals dvs ds) (hdw : ∀ H, reps X.K H dvs dws)
    (hdb : (x == ("__debug__" : Str)) = false := by decide) :
    WE X (.Call (.Name x p) [] [] pos) (wCallX sp dws wNil E) := WE.of (pe_callB0 F hr hg hm hk hb hd (fun σ => passAt tk σ) hdb) fun σ H ω A Q sm ra h =>
  ⟨dws, A, Q, E ω, hdw H, ra, h, fun v H' u => u, fun c d H' ⟨C, fs, A', e1, e2, t2, e3, e4⟩ => ⟨C, fs, ω, A', e1, e2, sm.mono t2, e3, e4⟩⟩
theorem we_call (F : FnB g X.prog X.w X.K X.mg X.base k f fd ps (spL X.K sp)) (hr : RoomG g k X.A) (hg : Gl X x) (hm : X.mg x = some (.ref f)) (hk : PySem.W.keepIn X.K (.ref f) = true) (hb : Binds X.K fd ps ds) (hd : Vals dvs ds) (hdw : ∀ H, reps X.K H dvs dws)
    (ha : WA X (e :: es) ta) (hdb : (x == ("__debug__" : Str)) = false := by decide) (he : starEach (e :: es) X.env = (false, eval e X.env) :: starEach es X.env := by rfl) (hpl : (backTo pos (starEach es X.env)).any (·.1) = false := by rfl) :
    WE X (.Call (.Name x p) (e :: es) [] pos) (wCall sp dws ta) := WE.of (pe_callB' F hr hg hm hk hb hd (E := fun _ _ _ _ => False) pass0At ha.pa hdb he hpl) fun σ H ω A Q sm ra h =>
  loA_i sm ra h fun vs H1 ws A1 t1 sm1 ra1 r q => ⟨ws ++ dws, A1, Q, E0w, reps_append r (hdw H1), ra1, q, fun v H' u => Up.trans t1 u, fun c d H' ⟨_, _, _, _, _, _, _, z⟩ => z⟩
theorem we_call0 (F : FnB g X.prog X.w X.K X.mg X.base k f fd ps (spL X.K sp)) (hr : RoomG g k X.A) (hg : Gl X x) (hm : X.mg x = some (.ref f)) (hk : PySem.W.keepIn X.K (.ref f) = true) (hb : Binds X.K fd ps ds) (hd : Vals dvs ds) (hdw : ∀ H, reps X.K H dvs dws)
    (hdb : (x == ("__debug__" : Str)) = false := by decide) :
    WE X (.Call (.Name x p) [] [] pos) (wCall sp dws wNil) := WE.of (pe_callB0 F hr hg hm hk hb hd (E := fun _ _ _ _ => False) pass0At hdb) fun σ H ω A Q sm ra h =>
  ⟨dws, A, Q, E0w, hdw H, ra, h, fun v H' u => u, fun c d H' ⟨_, _, _, _, _, _, _, z⟩ => z⟩
end

/-! ### a def's body -/
def startW (N : List Str) (ws : List W) : Sw := ws.map some ++ List.replicate (N.length - ws.length) none
theorem simS_start {K : PySem.W.Frag} {H : Hp} {N : List Str} {vs : List V} {ws : List W} (r : reps K H vs ws) : SimS K H (L2.start N vs) (startW N ws) := by
  have hl := reps_length r
  refine ⟨by unfold L2.start startW; simp [hl], fun i w e => ?_⟩
  unfold startW at e
  unfold L2.start
  by_cases h : i < ws.length
  · rw [List.getElem?_append_left (by simpa using h), List.getElem?_map] at e
    cases e2 : ws[i]? with
    | none => rw [e2] at e; cases e
    | some w' =>
      rw [e2] at e
      cases e
      obtain ⟨v, ev, rv⟩ := reps_get r e2
      exact ⟨v, by rw [List.getElem?_append_left (by rw [List.length_map, hl]; exact h), List.getElem?_map, ev]; rfl, rv⟩
  · rw [List.getElem?_append_right (by simpa using h)] at e
    have := List.getElem?_eq_some_iff.mp e
    obtain ⟨_, z⟩ := this
    rw [List.getElem_replicate] at z
    cases z
section
variable {P : Program} {w : World} {K : PySem.W.Frag} {mg : Str → Option Value} {base : Heap}
/-- the context of a def's body -/
abbrev cxB (P : Program) (w : World) (K : PySem.W.Frag) (mg : Str → Option Value) (base : Heap) (N : List Str) (qual : Str) (st : Stmt) (f : Addr) (cdv : Value) (A : Around) (outer : List Env) (s : Shared) (H : Hp) (E : XK) : Cx :=
  cxOf (L2.CX P w) P w K mg base N qual (defScope st) f cdv A outer s H E
/-- THE RULE for a def -/
theorem fnW {x qual : Str} {st : Stmt} {f : Addr} {fd : FuncData} {N ps : List Str} {g : Bool} {k : Nat} {sp : SpW} {t : XSw → TSw} (F : Fun K x qual st f fd) (S : FnScope N ps (defScope st)) (len : ∀ ws A Q E, sp ws A Q E → ws.length = ps.length)
    (hbody : ∀ (cdv : Value) (A : Around) (outer : List Env) (s : Shared) (H : Hp) (E : XK) (Ew : XSw), RoomG g k (cxB P w K mg base N qual st f cdv A outer s H E).A → TakesW (cxB P w K mg base N qual st f cdv A outer s H E) Ew → WSs (cxB P w K mg base N qual st f cdv A outer s H E) (defBody st) (t Ew))
    (rd : ∀ ws A Q E, sp ws A Q E → t (fun _ => fgE E) { nx := fun _ A' => fg Q .non A', rt := fg Q } (startW N ws) A) : FnB g P w K mg base (k + 1) f fd ps (spL K sp) := by
  obtain ⟨oc, od, kV, doc, pm, an, cdv, ct, osl, rfl, lk, hcd⟩ := F.ex
  refine fnB_of lk hcd S (fun vs H Q E h => ?_) fun A outer s H vs Q E hr h => ?_
  · obtain ⟨ws, A, Q', E', r, _, h, _⟩ := h
    rw [reps_length r]
    exact len _ _ _ _ h
  · obtain ⟨ws, Aa, Q', E', r, ra, h, kQ, kE⟩ := h
    have tk : TakesW (cxB P w K mg base N qual st f cdv A outer s H E) (fun _ => fgE E') := takesW_of (takes_of rfl rfl rfl rfl) fun c d H' ⟨C, fs, A', e1, e2, e3, e4, A'', sb, e5⟩ => kE _ _ _ ⟨C, fs, A'', e1, e2.sub sb, e3, e4.sub sb, e5⟩
    refine ⟨_, (hbody cdv A outer s H E (fun _ => fgE E') hr tk).ps, ?_⟩
    refine loS_i (simS_start r) ra (rd ws Aa Q' E' h) (fun σ' H' ω' A' t1 sm1 ra1 ⟨A'', sb, q⟩ => kQ _ _ ⟨.non, A'', t1, ra1.sub sb, by simp only [rep], q⟩) (fun _ _ _ _ _ _ _ z => z) (fun _ _ _ _ _ _ _ z => z) (fun v H' w A' t1 ra1 r ⟨A'', sb, q⟩ => kQ _ _ ⟨w, A'', t1, ra1.sub sb, r, q⟩)
end

/-! ### builtins by values -/
def CallW (X : Cx) (f : Value) (r : List W → AH → VKw → Prop) : Prop :=
  ∀ (pins : List (Addr × Obj)) (s : Shared) (σ : L2.St) (H : Hp) (A : AH) (vs : List V) (us : List Value) (ws : List W) (Q : VKw), Inv X pins σ H s → RepA X.K H A → Vals vs us → reps X.K H vs ws → r ws A Q →
    wpAny (model X.prog X.w) X.A (call f us) (EPw X pins σ H Q) X.xe s
theorem CallW.of {X : Cx} {f : Value} {r2 : List V → Hp → VK → Prop} {r : List W → AH → VKw → Prop} (h : CallR X f r2) (c : ∀ H A vs ws Q, RepA X.K H A → reps X.K H vs ws → r ws A Q → r2 vs H (Up X.K H Q)) : CallW X f r :=
  fun pins s σ H A vs us ws Q I ra rv rw' q => thn (h pins s σ H vs us _ I rv (c H A vs ws Q ra rw' q)) fun _ _ ⟨v, H', I', r, w, A', t1, t2, t3, q⟩ => ⟨v, H', w, A', I', r, t1, t2, t3, q⟩
theorem CallW.cr {X : Cx} {f : Value} {r : List W → AH → VKw → Prop} (h : CallW X f r) : CallR X f (fun vs H Q => ∃ A ws Q', RepA X.K H A ∧ reps X.K H vs ws ∧ r ws A Q' ∧ ∀ v H', Up X.K H Q' v H' → Q v H') :=
  fun pins s σ H vs us Q I rv ⟨A, ws, Q', ra, rw', q, k⟩ => thn (h pins s σ H A vs us ws Q' I ra rv rw' q) fun _ _ ⟨v, H', w, A', I', r, t1, t2, t3, q⟩ => ⟨v, H', I', r, k v H' ⟨w, A', t1, t2, t3, q⟩⟩
theorem CallW.or {X : Cx} {f : Value} {r r' : List W → AH → VKw → Prop} (h : CallW X f r) (h' : CallW X f r') : CallW X f (fun ws A Q => r ws A Q ∨ r' ws A Q) := fun pins s σ H A vs us ws Q I ra rv rw' q => by
  rcases q with q | q
  · exact h pins s σ H A vs us ws Q I ra rv rw' q
  · exact h' pins s σ H A vs us ws Q I ra rv rw' q
def wCB (r : List W → AH → VKw → Prop) (ta : TAw) : TEw := fun ω A Q => ta ω A fun ws A1 => r ws A1 Q
section
variable {X : Cx} {x : Str} {p pos : Pos} {e : Expr} {es : List Expr} {t : TAw} {id T : String} {r : List W → AH → VKw → Prop}
theorem we_callB (hc : CallW X (.builtin id) r) (hg : Gl X x) (hm : X.mg x = none) (hv : bootBuiltins x = some (.builtin id)) (ha : WA X (e :: es) t) (hn : x ≠ "__name__" := by decide) (hdb : (x == ("__debug__" : Str)) = false := by decide)
    (he : starEach (e :: es) X.env = (false, eval e X.env) :: starEach es X.env := by rfl) (hpl : (backTo pos (starEach es X.env)).any (·.1) = false := by rfl) : WE X (.Call (.Name x p) (e :: es) [] pos) (wCB r t) :=
  WE.of (pe_callB hc.cr hg hm hv ha.pa hn hdb he hpl) fun σ H ω A Q sm ra h => loA_i sm ra h fun vs H1 ws A1 t1 sm1 ra1 rv q => ⟨A1, ws, Q, ra1, rv, q, fun v H' u => Up.trans t1 u⟩
theorem we_callTy (hc : CallW X (.type T) r) (hg : Gl X x) (hm : X.mg x = none) (hv : bootBuiltins x = some (.type T)) (ha : WA X (e :: es) t) (hn : x ≠ "__name__" := by decide) (hdb : (x == ("__debug__" : Str)) = false := by decide)
    (he : starEach (e :: es) X.env = (false, eval e X.env) :: starEach es X.env := by rfl) (hpl : (backTo pos (starEach es X.env)).any (·.1) = false := by rfl) : WE X (.Call (.Name x p) (e :: es) [] pos) (wCB r t) :=
  WE.of (pe_callTy hc.cr hg hm hv ha.pa hn hdb he hpl) fun σ H ω A Q sm ra h => loA_i sm ra h fun vs H1 ws A1 t1 sm1 ra1 rv q => ⟨A1, ws, Q, ra1, rv, q, fun v H' u => Up.trans t1 u⟩
end
/-! methods of built-in types -/
def MtW (X : Cx) (id : String) (r : W → List W → AH → VKw → Prop) : Prop :=
  ∀ (pins : List (Addr × Obj)) (s : Shared) (σ : L2.St) (H : Hp) (A : AH) (x : V) (v : Value) (a : W) (vs : List V) (us : List Value) (ws : List W) (Q : VKw), Inv X pins σ H s → RepA X.K H A → RelV x v → rep X.K H x a → Vals vs us → reps X.K H vs ws → r a ws A Q →
    wpAny (model X.prog X.w) X.A (call (.builtin id) (v :: us)) (EPw X pins σ H Q) X.xe s
theorem MtW.of {X : Cx} {id : String} {r2 : V → List V → Hp → VK → Prop} {r : W → List W → AH → VKw → Prop} (h : MtR X id r2) (c : ∀ H A x a vs ws Q, RepA X.K H A → rep X.K H x a → reps X.K H vs ws → r a ws A Q → r2 x vs H (Up X.K H Q)) : MtW X id r :=
  fun pins s σ H A x v a vs us ws Q I ra rx ha rv rw' q => thn (h pins s σ H x vs v us _ I rx rv (c H A x a vs ws Q ra ha rw' q)) fun _ _ ⟨v, H', I', r, w, A', t1, t2, t3, q⟩ => ⟨v, H', w, A', I', r, t1, t2, t3, q⟩
theorem MtW.mt {X : Cx} {id : String} {r : W → List W → AH → VKw → Prop} (h : MtW X id r) : MtR X id (fun x vs H Q => ∃ A a ws Q', RepA X.K H A ∧ rep X.K H x a ∧ reps X.K H vs ws ∧ r a ws A Q' ∧ ∀ v H', Up X.K H Q' v H' → Q v H') :=
  fun pins s σ H x vs v us Q I rx rv ⟨A, a, ws, Q', ra, ha, rw', q, k⟩ => thn (h pins s σ H A x v a vs us ws Q' I ra rx ha rv rw' q) fun _ _ ⟨v, H', w, A', I', r, t1, t2, t3, q⟩ => ⟨v, H', I', r, k v H' ⟨w, A', t1, t2, t3, q⟩⟩
/-- the receiver is of the type -/
def tyW (T : String) (w : W) (A : AH) : Prop := match w with
  | .str _ => T = "str"
  | .ref p => (T = "list" ∧ ∃ ws, isL A p ws) ∨ (T = "dict" ∧ ((∃ kvs, A.h p = some (.dK kvs)) ∨ ∃ kvs, A.h p = some (.dT kvs)))
  | _ => False
theorem tyW.v {K : PySem.W.Frag} {H : Hp} {A : AH} {T : String} {x : V} {w : W} (ra : RepA K H A) (r : rep K H x w) (h : tyW T w A) : tyV K T x H := by
  cases w with
  | str z => simp only [rep] at r; subst r; exact h
  | ref p =>
    simp only [rep] at r
    subst r
    rcases h with ⟨e, ws, hl⟩ | ⟨e, ⟨kvs, hk⟩ | ⟨kvs, hk⟩⟩
    · obtain ⟨vs, hs, _⟩ := hl.sq ra
      exact .inl ⟨e, vs, hs⟩
    · obtain ⟨kv, ek, _⟩ := ra.1 p _ hk
      exact .inr (.inr (.inl ⟨e, .inl ⟨kv, ek⟩⟩))
    · obtain ⟨kv, ek, _⟩ := ra.1 p _ hk
      exact .inr (.inr (.inl ⟨e, .inr ⟨kv, ek⟩⟩))
  | non => exact h.elim
  | bl _ => exact h.elim
  | int _ => exact h.elim
  | ty _ => exact h.elim
  | tup _ => exact h.elim
  | ktup _ => exact h.elim
def wBM0 (T : String) (r : W → List W → AH → VKw → Prop) (to : TEw) : TEw := fun ω A Q => to ω A fun w A1 => tyW T w A1 ∧ r w [] A1 Q
def wBM (T : String) (r : W → List W → AH → VKw → Prop) (to : TEw) (t : TAw) : TEw := fun ω A Q => to ω A fun w A1 => tyW T w A1 ∧ t ω A1 fun ws A2 => r w ws A2 Q
section
variable {X : Cx} {o e : Expr} {es : List Expr} {to : TEw} {t : TAw} {name : Str} {apos cpos : Pos} {T id : String} {r : W → List W → AH → VKw → Prop}
theorem we_bm0 (pa : PlainAttrs T) (slot : Slot T name id) (hty : typeOf (.builtin id) = pure (.type "method_descriptor")) (hm : MtW X id r) (ho : WE X o to)
    (hbase : attributeBase o name X.env (eval o X.env) = eval o X.env := by rfl) (hline : (apos.endLine == cpos.line) = true := by rfl) : WE X (.Call (.Attribute o name apos) [] [] cpos) (wBM0 T r to) :=
  WE.of (pe_bm0 pa slot hty hm.mt ho.pe hbase hline) fun σ H ω A Q sm ra h => lo_i sm ra h fun v H1 w A1 t1 sm1 ra1 rv ⟨ty, q⟩ => ⟨ty.v ra1 rv, A1, w, [], Q, ra1, rv, reps_nil, q, fun v H' u => Up.trans t1 u⟩
theorem we_bm (pa : PlainAttrs T) (slot : Slot T name id) (hty : typeOf (.builtin id) = pure (.type "method_descriptor")) (hm : MtW X id r) (ho : WE X o to) (ha : WA X (e :: es) t)
    (hbase : attributeBase o name X.env (eval o X.env) = eval o X.env := by rfl)
    (hfew : ((backTo cpos (starEach (e :: es) X.env)).all (fun x => !x.1) && (backToKw cpos (keywordEach [] X.env)).all (fun x => x.1.isSome)
      && decide ((e :: es).length + ([] : List Keyword).length + (if ([] : List Keyword).isEmpty then 0 else 1) < 30)) = true := by rfl)
    (hline : (apos.endLine == cpos.line) = true := by rfl) (hs : starEach (e :: es) X.env = (false, eval e X.env) :: starEach es X.env := by rfl) (hplain : (backTo cpos (starEach es X.env)).any (·.1) = false := by rfl) :
    WE X (.Call (.Attribute o name apos) (e :: es) [] cpos) (wBM T r to t) :=
  WE.of (pe_bm pa slot hty hm.mt ho.pe ha.pa hbase hfew hline hs hplain) fun σ H ω A Q sm ra h => lo_i sm ra h fun v H1 w A1 t1 sm1 ra1 rv ⟨ty, q⟩ => ⟨ty.v ra1 rv, loA_i sm1 ra1 q fun vs H2 ws A2 t2 sm2 ra2 rv2 q2 => ⟨A2, w, ws, Q, ra2, rep_mono t2 _ _ rv, rv2, q2, fun v H' u => Up.trans (t1.trans t2) u⟩⟩
end
/-! subscripts -/
def IxW (X : Cx) (r : R2w) : Prop :=
  ∀ (value slice : Expr) (pins : List (Addr × Obj)) (s : Shared) (σ : L2.St) (H : Hp) (A : AH) (x y : V) (v u : Value) (a b : W) (Q : VKw), Inv X pins σ H s → RepA X.K H A → RelV x v → RelV y u → rep X.K H x a → rep X.K H y b → r a b A Q →
    subscripted slice false v u = operate [v, u] (getItem v u) → wpAny (model X.prog X.w) X.A (PyProof.Rows.subscriptTail value slice v u) (EPw X pins σ H Q) X.xe s
theorem IxW.of {X : Cx} {r2 : R2} {r : R2w} (h : IxR X r2) (c : ∀ H A x y a b Q, RepA X.K H A → rep X.K H x a → rep X.K H y b → r a b A Q → r2 x y H (Up X.K H Q)) : IxW X r :=
  fun value slice pins s σ H A x y v u a b Q I ra rx ry ha hb q hs => thn (h value slice pins s σ H x y v u _ I rx ry (c H A x y a b Q ra ha hb q) hs) fun _ _ ⟨v, H', I', r, w, A', t1, t2, t3, q⟩ => ⟨v, H', w, A', I', r, t1, t2, t3, q⟩
theorem IxW.ix {X : Cx} {r : R2w} (h : IxW X r) : IxR X (fun x y H Q => ∃ A a b Q', RepA X.K H A ∧ rep X.K H x a ∧ rep X.K H y b ∧ r a b A Q' ∧ ∀ v H', Up X.K H Q' v H' → Q v H') :=
  fun value slice pins s σ H x y v u Q I rx ry ⟨A, a, b, Q', ra, ha, hb, q, k⟩ hs => thn (h value slice pins s σ H A x y v u a b Q' I ra rx ry ha hb q hs) fun _ _ ⟨v, H', w, A', I', r, t1, t2, t3, q⟩ => ⟨v, H', I', r, k v H' ⟨w, A', t1, t2, t3, q⟩⟩
section
variable {X : Cx} {a b : Expr} {ta tb : TEw} {pos : Pos}
theorem we_ix {r : R2w} (hr : IxW X r) (ha : WE X a ta) (hb : WE X b tb) (hs : PlainIx b) : WE X (.Subscript a b pos) (wOp r ta tb) := WE.of (pe_ix hr.ix ha.pe hb.pe hs) fun _ _ _ _ _ sm ra h => wop_lo sm ra h
end
end Wx

set_option Elab.async false
set_option linter.all false
set_option maxRecDepth 100000
set_option maxHeartbeats 4000000
/-! WX6: operators, comparisons, truth, len, subscripts, slices, list methods. -/
namespace Wx
open PySem L2

section
variable {K : PySem.W.Frag} {H : Hp} {A : AH}
theorem Up.new {Q : VKw} {p : Addr} {vs : List V} {ws : List W} (ra : RepA K H A) (hp : H p = none) (r : reps K H vs ws) (q : ∀ p, A.h p = none → Q (.ref p) (A.put p (.lst ws))) : Up K H Q (.ref p) (upd H p (.lst vs)) :=
  ⟨.ref p, _, tupLe_new hp, ra.new (wo := .lst ws) hp ⟨vs, upd_same, reps_mono (tupLe_new hp) _ _ r⟩, by simp only [rep], q p (ra.fresh hp)⟩
theorem Up.newT {Q : VKw} {p : Addr} {vs : List V} {ws : List W} (ra : RepA K H A) (hp : H p = none) (r : reps K H vs ws) (q : Q (.tup ws) A) : Up K H Q (.ref p) (upd H p (.tup vs)) :=
  ⟨.tup ws, A, tupLe_new hp, ra.new0 hp, rep_tup upd_same (reps_mono (tupLe_new hp) _ _ r), q⟩
/-- a list is written -/
theorem Up.setL {Q : VKw} {p : Addr} {vs vs' : List V} {ws ws' : List W} {v : V} {w : W} (ra : RepA K H A) (ea : A.h p = some (.lst ws)) (e : H p = some (.lst vs)) (r : reps K H vs' ws') (rv : rep K H v w) (q : Q w (A.put p (.lst ws'))) : Up K H Q v (upd H p (.lst vs')) := by
  have t : TupLe K H (upd H p (.lst vs')) := tupLe_set e (by intro _ z; cases z) (by intro _ _ z; cases z)
  exact ⟨w, _, t, ra.set (wo' := .lst ws') ea e (by intro _ z; cases z) (by intro _ _ z; cases z) ⟨vs', upd_same, reps_mono t _ _ r⟩, rep_mono t _ _ rv, q⟩
theorem RepA.lst (ra : RepA K H A) {p : Addr} {ws : List W} (e : A.h p = some (.lst ws)) : ∃ vs, H p = some (.lst vs) ∧ reps K H vs ws := ra.1 p _ e
end

section
variable {X : Cx}
theorem OpW.imp {f : Value → Value → Sem Value} {r r' : R2w} (h : OpW X f r) (c : ∀ a b A Q, r' a b A Q → r a b A Q) : OpW X f r' := fun pins s σ H A x y u v a b Q I ra rx ry ha hb q => h pins s σ H A x y u v a b Q I ra rx ry ha hb (c a b A Q q)
theorem OpW.or {f : Value → Value → Sem Value} {r r' : R2w} (h : OpW X f r) (h' : OpW X f r') : OpW X f (fun a b A Q => r a b A Q ∨ r' a b A Q) := fun pins s σ H A x y u v a b Q I ra rx ry ha hb q => by
  rcases q with q | q
  · exact h pins s σ H A x y u v a b Q I ra rx ry ha hb q
  · exact h' pins s σ H A x y u v a b Q I ra rx ry ha hb q
/-! ### arithmetic -/
def rwI (C : Int → Int → Prop) (g : Int → Int → W) : R2w := fun a b A Q => ∃ i j, a = .int i ∧ b = .int j ∧ C i j ∧ Q (g i j) A
theorem ow_I {f : Value → Value → Sem Value} {C : Int → Int → Prop} {g : Int → Int → V} {gw : Int → Int → W} (h : OpR X f (rI C g)) (hg : ∀ H i j, rep X.K H (g i j) (gw i j)) : OpW X f (rwI C gw) := by
  refine OpW.of h fun H A x y a b Q ra ha hb ⟨i, j, e1, e2, hc, q⟩ => ?_
  subst e1 e2
  simp only [rep] at ha hb
  subst ha hb
  exact ⟨_, _, rfl, rfl, hc, Up.i ra (hg _ _ _) q⟩
def rwI0 (g : Int → Int → W) : R2w := fun a b A Q => ∃ i j, a = .int i ∧ b = .int j ∧ Q (g i j) A
theorem ow_I0 {f : Value → Value → Sem Value} {g : Int → Int → V} {gw : Int → Int → W} (h : OpR X f (rI0 g)) (hg : ∀ H i j, rep X.K H (g i j) (gw i j)) : OpW X f (rwI0 gw) := by
  refine OpW.of h fun H A x y a b Q ra ha hb ⟨i, j, e1, e2, q⟩ => ?_
  subst e1 e2
  simp only [rep] at ha hb
  subst ha hb
  exact ⟨_, _, rfl, rfl, Up.i ra (hg _ _ _) q⟩
def rwAddS : R2w := fun a b A Q => ∃ x y, a = .str x ∧ b = .str y ∧ x.length + y.length ≤ sizeLine ∧ Q (.str (x ++ y)) A
def rwAddT : R2w := fun a b A Q => ∃ xs ys, a = .tup xs ∧ b = .tup ys ∧ xs.length + ys.length ≤ sizeLine ∧ Q (.tup (xs ++ ys)) A
def rwAddL : R2w := fun a b A Q => ∃ p q xs ys, a = .ref p ∧ b = .ref q ∧ A.h p = some (.lst xs) ∧ A.h q = some (.lst ys) ∧ xs.length + ys.length ≤ sizeLine ∧ ∀ r, A.h r = none → Q (.ref r) (A.put r (.lst (xs ++ ys)))
theorem ow_addS : OpW X (binaryOp .Add) rwAddS := OpW.of op_add_str fun H A x y a b Q ra ha hb ⟨z, u, e1, e2, l, q⟩ => by
  subst e1 e2
  simp only [rep] at ha hb
  exact ⟨z, u, ha, hb, l, Up.i ra (by simp only [rep]) q⟩
theorem ow_addT : OpW X (binaryOp .Add) rwAddT := OpW.of op_catA fun H A x y a b Q ra ha hb ⟨xs, ys, e1, e2, l, q⟩ => by
  subst e1 e2
  have ha' := ha
  have hb' := hb
  simp only [rep] at ha hb
  obtain ⟨p, vs, ep, sp, rp⟩ := ha
  obtain ⟨p', us, ep', sp', rp'⟩ := hb
  refine ⟨p, p', vs, us, ep, ep', SqT.of sp, SqT.of sp', by rw [reps_length rp, reps_length rp']; exact l, fun z => ?_, fun z z' => ?_, fun z z' r hr => ?_⟩
  · subst z
    have : xs = [] := List.eq_nil_of_length_eq_zero (by rw [← reps_length rp]; rfl)
    subst this
    exact Up.i ra (ep' ▸ hb') q
  · subst z'
    have : ys = [] := List.eq_nil_of_length_eq_zero (by rw [← reps_length rp']; rfl)
    subst this
    rw [List.append_nil] at q
    exact Up.i ra (ep ▸ ha') q
  · exact Up.newT ra hr (reps_append rp rp') q
theorem ow_addL : OpW X (binaryOp .Add) rwAddL := OpW.of op_cat fun H A x y a b Q ra ha hb ⟨p, p', xs, ys, e1, e2, h1, h2, l, q⟩ => by
  subst e1 e2
  simp only [rep] at ha hb
  obtain ⟨vs, ev, rv⟩ := ra.lst h1
  obtain ⟨us, eu, ru⟩ := ra.lst h2
  exact ⟨p, p', vs, us, ha, hb, ev, eu, by rw [reps_length rv, reps_length ru]; exact l, fun r hr => Up.new ra hr (reps_append rv ru) q⟩
def wAdd : R2w := fun a b A Q => match a, b with
  | .int i, .int j => Q (.int (i + j)) A
  | .str x, .str y => x.length + y.length ≤ sizeLine ∧ Q (.str (x ++ y)) A
  | .tup xs, .tup ys => xs.length + ys.length ≤ sizeLine ∧ Q (.tup (xs ++ ys)) A
  | .ref p, .ref q => ∃ xs ys, A.h p = some (.lst xs) ∧ A.h q = some (.lst ys) ∧ xs.length + ys.length ≤ sizeLine ∧ ∀ r, A.h r = none → Q (.ref r) (A.put r (.lst (xs ++ ys)))
  | _, _ => False
theorem ow_add : OpW X (binaryOp .Add) wAdd := OpW.imp ((ow_I0 op_add (gw := fun i j => .int (i + j)) fun _ _ _ => by simp only [rep]).or (ow_addS.or (ow_addT.or ow_addL))) fun a b A Q q => by
  cases a <;> cases b <;> first | exact False.elim q | skip
  · exact .inl ⟨_, _, rfl, rfl, q⟩
  · exact .inr (.inl ⟨_, _, rfl, rfl, q⟩)
  · obtain ⟨xs, ys, q⟩ := q
    exact .inr (.inr (.inr ⟨_, _, xs, ys, rfl, rfl, q⟩))
  · exact .inr (.inr (.inl ⟨_, _, rfl, rfl, q⟩))
/-- += on ints alone -/
def wIAdd : R2w := rwI0 fun i j => .int (i + j)
theorem ow_iadd : OpW X (inplaceOp .Add) wIAdd := ow_I0 iop_add fun _ _ _ => by simp only [rep]
def wISub : R2w := rwI0 fun i j => .int (i - j)
theorem ow_isub : OpW X (inplaceOp .Sub) wISub := ow_I0 iop_sub fun _ _ _ => by simp only [rep]
def wSub : R2w := rwI0 fun i j => .int (i - j)
theorem ow_sub : OpW X (binaryOp .Sub) wSub := ow_I0 op_sub fun _ _ _ => by simp only [rep]
def wMulI : R2w := rwI CMul fun i j => .int (i * j)
theorem ow_mulI : OpW X (binaryOp .Mult) wMulI := ow_I op_mul fun _ _ _ => by simp only [rep]
def wDiv : R2w := rwI CDivN fun i j => .int (i.fdiv j)
theorem ow_div : OpW X (binaryOp .FloorDiv) wDiv := ow_I op_fdivN fun _ _ _ => by simp only [rep]
def wMod : R2w := rwI (fun _ j => j ≠ 0) fun i j => .int (i.fmod j)
theorem ow_mod : OpW X (binaryOp .Mod) wMod := ow_I op_modN fun _ _ _ => by simp only [rep]
def wPow : R2w := rwI CPow fun i j => .int (i ^ j.toNat)
theorem ow_pow : OpW X (binaryOp .Pow) wPow := ow_I op_pow fun _ _ _ => by simp only [rep]
/-! ### comparisons of ints -/
def wLtI : R2w := rwI0 fun i j => .bl (decide (i < j))
theorem ow_ltI : OpW X (compareOp .Lt) wLtI := ow_I0 op_lt fun _ _ _ => by simp only [rep]
def wLeI : R2w := rwI0 fun i j => .bl (decide (i ≤ j))
theorem ow_leI : OpW X (compareOp .LtE) wLeI := ow_I0 op_le fun _ _ _ => by simp only [rep]
def wGtI : R2w := rwI0 fun i j => .bl (decide (j < i))
theorem ow_gtI : OpW X (compareOp .Gt) wGtI := ow_I0 op_gt fun _ _ _ => by simp only [rep]
def wGeI : R2w := rwI0 fun i j => .bl (decide (j ≤ i))
theorem ow_geI : OpW X (compareOp .GtE) wGeI := ow_I0 op_ge fun _ _ _ => by simp only [rep]
/-! is None, is True .. -/
def isNon : W → Bool
  | .non => true
  | _ => false
def wIsN : R2w := fun a b A Q => b = .non ∧ Q (.bl (isNon a)) A
theorem rep_non {K : PySem.W.Frag} {H : Hp} {x : V} {a : W} (h : rep K H x a) : decide (x = V.non) = isNon a := by
  cases a <;> simp only [rep] at h <;> first | (subst h; rfl) | (obtain ⟨_, _, e, _⟩ := h; subst e; rfl)
theorem ow_isN : OpW X (compareOp .Is) wIsN := OpW.of op_isN fun H A x y a b Q ra ha hb ⟨e, q⟩ => by
  subst e
  simp only [rep] at hb
  exact ⟨hb, Up.i ra (by simp only [rep, rep_non ha]) q⟩
def wNotN : R2w := fun a b A Q => b = .non ∧ Q (.bl (!isNon a)) A
theorem ow_notN : OpW X (compareOp .IsNot) wNotN := OpW.of op_notN fun H A x y a b Q ra ha hb ⟨e, q⟩ => by
  subst e
  simp only [rep] at hb
  exact ⟨hb, Up.i ra (by simp only [rep, rep_non ha]) q⟩
/-! ### equality of data -/
mutual
/-- w reads as the data d -/
def DL (A : AH) : PyData → W → Prop
  | .none, w => w = .non
  | .bool b, w => w = .bl b
  | .int i, w => w = .int i
  | .str x, w => w = .str x
  | .tuple ds, w => ∃ ws, (w = .tup ws ∨ w = .ktup ws) ∧ DLs A ds ws
  | .list ds, w => ∃ p ws, w = .ref p ∧ isL A p ws ∧ DLs A ds ws
  | .dict _, _ => False
def DLs (A : AH) : List PyData → List W → Prop
  | [], ws => ws = []
  | d :: ds, ws => ∃ w r, ws = w :: r ∧ DL A d w ∧ DLs A ds r
end
section
variable {K : PySem.W.Frag} {H : Hp} {A : AH}
mutual
theorem DL.dp (ra : RepA K H A) : ∀ (d : PyData) (w : W) (v : V), rep K H v w → DL A d w → Dp K H v d
  | .none, w, v, r, h => by simp only [DL] at h; subst h; simp only [rep] at r; subst r; exact .non
  | .bool b, w, v, r, h => by simp only [DL] at h; subst h; simp only [rep] at r; subst r; exact .bl b
  | .int b, w, v, r, h => by simp only [DL] at h; subst h; simp only [rep] at r; subst r; exact .int b
  | .str b, w, v, r, h => by simp only [DL] at h; subst h; simp only [rep] at r; subst r; exact .str b
  | .dict b, w, v, r, h => by simp only [DL] at h
  | .tuple ds, w, v, r, h => by
    simp only [DL] at h
    obtain ⟨ws, e, hs⟩ := h
    rcases e with e | e
    · subst e
      simp only [rep] at r
      obtain ⟨a, vs, rfl, s, rs⟩ := r
      exact .tup (SqT.of s) (DLs.dp ra ds ws vs rs hs)
    · subst e
      simp only [rep] at r
      obtain ⟨a, vs, rfl, s, rs⟩ := r
      exact .tup s (DLs.dp ra ds ws vs rs hs)
  | .list ds, w, v, r, h => by
    simp only [DL] at h
    obtain ⟨p, ws, e, hl, hs⟩ := h
    subst e
    simp only [rep] at r
    subst r
    obtain ⟨vs, sq, rs⟩ := hl.sq ra
    exact .lst sq (DLs.dp ra ds ws vs rs hs)
theorem DLs.dp (ra : RepA K H A) : ∀ (ds : List PyData) (ws : List W) (vs : List V), reps K H vs ws → DLs A ds ws → DpAll K H vs ds
  | [], ws, vs, r, h => by simp only [DLs] at h; subst h; rw [reps_unnil r]; exact .nil
  | d :: ds, ws, vs, r, h => by
    simp only [DLs] at h
    obtain ⟨w, wr, rfl, h1, h2⟩ := h
    obtain ⟨v, vr, rfl, r1, r2⟩ := reps_uncons r
    exact .cons (DL.dp ra d w v r1 h1) (DLs.dp ra ds wr vr r2 h2)
end
end
def wEqD (b : Bool) : R2w := fun x y A Q => ∃ d e, DL A d x ∧ DL A e y ∧ SeqAt.shaped d = true ∧ SeqAt.shaped e = true ∧ Q (.bl (if b then PyData.eqv d e else !PyData.eqv d e)) A
theorem ow_eqD (hu : X.A.units + 64 < cLine) : OpW X (compareOp .Eq) (wEqD true) := OpW.of (op_eqD hu) fun H A x y a b Q ra ha hb ⟨d, e, h1, h2, s1, s2, q⟩ => ⟨d, e, DL.dp ra _ _ _ ha h1, DL.dp ra _ _ _ hb h2, s1, s2, Up.i ra (by simp only [rep]; rfl) q⟩
theorem ow_neD (hu : X.A.units + 64 < cLine) : OpW X (compareOp .NotEq) (wEqD false) := OpW.of (op_neD hu) fun H A x y a b Q ra ha hb ⟨d, e, h1, h2, s1, s2, q⟩ => ⟨d, e, DL.dp ra _ _ _ ha h1, DL.dp ra _ _ _ hb h2, s1, s2, Up.i ra (by simp only [rep]; rfl) q⟩
/-- two scalars that are surely of one kind -/
def wEqS (b : Bool) : R2w := fun x y A Q => match x, y with
  | .int i, .int j => Q (.bl (if b then decide (i = j) else !decide (i = j))) A
  | .str i, .str j => Q (.bl (if b then decide (i = j) else !decide (i = j))) A
  | .bl i, .bl j => Q (.bl (if b then decide (i = j) else !decide (i = j))) A
  | _, _ => False
theorem v_int {i j : Int} : decide (V.int i = V.int j) = decide (i = j) := by simp
theorem v_str {i j : Str} : decide (V.str i = V.str j) = decide (i = j) := by simp
theorem v_bl {i j : Bool} : decide (V.bl i = V.bl j) = decide (i = j) := by simp
theorem ow_eqS : OpW X (compareOp .Eq) (wEqS true) := OpW.of op_eq fun H A x y a b Q ra ha hb q => by
  cases a <;> cases b <;> first | exact False.elim q | skip
  all_goals
    simp only [rep] at ha hb
    subst ha hb
    exact ⟨rfl, Up.i ra (by simp only [rep, v_int, v_str, v_bl]; rfl) q⟩
theorem ow_neS : OpW X (compareOp .NotEq) (wEqS false) := OpW.of op_ne fun H A x y a b Q ra ha hb q => by
  cases a <;> cases b <;> first | exact False.elim q | skip
  all_goals
    simp only [rep] at ha hb
    subst ha hb
    exact ⟨rfl, Up.i ra (by simp only [rep, v_int, v_str, v_bl]; rfl) q⟩
/-! ### len -/
def lenW (w : W) (A : AH) (k : Nat → Prop) : Prop := match w with
  | .str z => z.length ≤ sizeLine ∧ k z.length
  | .tup ws => k ws.length
  | .ktup ws => k ws.length
  | .ref p => ∃ ws, isL A p ws ∧ k ws.length
  | _ => False
def wLen : List W → AH → VKw → Prop := fun ws A Q => ∃ w, ws = [w] ∧ lenW w A fun n => Q (.int n) A
theorem cw_len : CallW X (.builtin "len") wLen := CallW.of call_len fun H A vs ws Q ra r ⟨w, e, q⟩ => by
  subst e
  obtain ⟨v, r0, rfl, r1, r2⟩ := reps_uncons r
  obtain rfl := reps_unnil r2
  cases w with
  | str z => simp only [rep] at r1; subst r1; exact ⟨_, _, rfl, ⟨q.1, rfl⟩, Up.i ra (by simp only [rep]) q.2⟩
  | tup us => simp only [rep] at r1; obtain ⟨p, vs, rfl, s, rs⟩ := r1; exact ⟨_, _, rfl, .inr ⟨vs, SqT.of s, rfl⟩, Up.i ra (by simp only [rep, reps_length rs]) q⟩
  | ktup us => simp only [rep] at r1; obtain ⟨p, vs, rfl, s, rs⟩ := r1; exact ⟨_, _, rfl, .inr ⟨vs, s, rfl⟩, Up.i ra (by simp only [rep, reps_length rs]) q⟩
  | ref p =>
    simp only [rep] at r1
    subst r1
    obtain ⟨us, hl, q⟩ := q
    obtain ⟨vs, s, rs⟩ := hl.sq ra
    exact ⟨_, _, rfl, .inl ⟨vs, s, rfl⟩, Up.i ra (by simp only [rep, reps_length rs]) q⟩
  | non => exact False.elim q
  | bl _ => exact False.elim q
  | int _ => exact False.elim q
  | ty _ => exact False.elim q
/-! ### subscripts -/
def wIx : R2w := fun a b A Q => match a, b with
  | .tup ws, .int i => ∃ w, atI ws i = some w ∧ Q w A
  | .ktup ws, .int i => ∃ w, atI ws i = some w ∧ Q w A
  | .ref p, .int i => ∃ ws w, isL A p ws ∧ atI ws i = some w ∧ Q w A
  | .str z, .int i => ∃ c, z.length ≤ sizeLine ∧ atI z.cps.toList i = some c ∧ Q (.str ⟨#[c]⟩) A
  | _, _ => False
theorem reps_atI {K : PySem.W.Frag} {H : Hp} {vs : List V} {ws : List W} {i : Int} {w : W} (r : reps K H vs ws) (h : atI ws i = some w) : ∃ v, atI vs i = some v ∧ rep K H v w := by
  unfold atI at h ⊢
  rw [reps_length r]
  cases e : ixN ws.length i with
  | none => rw [e] at h; cases h
  | some j =>
    rw [e] at h
    obtain ⟨v, ev, rv⟩ := reps_get r h
    exact ⟨v, ev, rv⟩
theorem iw_seq : IxW X wIx := IxW.of ix_seq fun H A x y a b Q ra ha hb q => by
  cases a <;> cases b <;> first | exact False.elim q | skip
  · simp only [rep] at ha hb
    obtain ⟨c, l, h, q⟩ := q
    exact .inr (.inr ⟨_, _, c, ha, hb, l, h, Up.i ra (by simp only [rep]) q⟩)
  · simp only [rep] at ha hb
    obtain ⟨ws, w, hl, h, q⟩ := q
    obtain ⟨vs, s, rs⟩ := hl.sq ra
    obtain ⟨v, ev, rv⟩ := reps_atI rs h
    exact .inl ⟨_, vs, _, v, ha, hb, s, ev, Up.i ra rv q⟩
  · simp only [rep] at ha hb
    obtain ⟨p, vs, e, s, rs⟩ := ha
    obtain ⟨w, h, q⟩ := q
    obtain ⟨v, ev, rv⟩ := reps_atI rs h
    exact .inr (.inl ⟨_, vs, _, v, e, hb, SqT.of s, ev, Up.i ra rv q⟩)
  · simp only [rep] at ha hb
    obtain ⟨p, vs, e, s, rs⟩ := ha
    obtain ⟨w, h, q⟩ := q
    obtain ⟨v, ev, rv⟩ := reps_atI rs h
    exact .inr (.inl ⟨_, vs, _, v, e, hb, s, ev, Up.i ra rv q⟩)
/-! ### methods of lists -/
def wAppend : W → List W → AH → VKw → Prop := fun x ws A Q => ∃ p xs y, x = .ref p ∧ ws = [y] ∧ A.h p = some (.lst xs) ∧ xs.length < sizeLine ∧ Q .non (A.put p (.lst (xs ++ [y])))
theorem mw_append : MtW X "list.append" wAppend := MtW.of mt_append fun H A x a vs ws Q ra ha r ⟨p, xs, y, e1, e2, h, l, q⟩ => by
  subst e1 e2
  simp only [rep] at ha
  obtain ⟨v, r0, rfl, r1, r2⟩ := reps_uncons r
  obtain rfl := reps_unnil r2
  obtain ⟨us, eu, ru⟩ := ra.lst h
  exact ⟨p, us, v, ha, rfl, eu, by rw [reps_length ru]; exact l, Up.setL ra h eu (reps_append ru (reps_cons r1 reps_nil)) (by simp only [rep]) q⟩
def wPopAt : W → List W → AH → VKw → Prop := fun x ws A Q => ∃ p xs i k y, x = .ref p ∧ ws = [.int i] ∧ A.h p = some (.lst xs) ∧ -(2 ^ 63) ≤ i ∧ i < 2 ^ 63 ∧ seqIndex? i xs.length = some k ∧ xs[k]? = some y ∧ Q y (A.put p (.lst (xs.eraseIdx k)))
theorem mw_popAt : MtW X "list.pop" wPopAt := MtW.of mt_popAt fun H A x a vs ws Q ra ha r ⟨p, xs, i, k, y, e1, e2, h, l1, l2, h3, h4, q⟩ => by
  subst e1 e2
  simp only [rep] at ha
  obtain ⟨v, r0, rfl, r1, r2⟩ := reps_uncons r
  obtain rfl := reps_unnil r2
  simp only [rep] at r1
  subst r1
  obtain ⟨us, eu, ru⟩ := ra.lst h
  obtain ⟨z, ez, rz⟩ := reps_get ru h4
  exact ⟨p, us, i, k, z, ha, rfl, eu, l1, l2, by rw [reps_length ru]; exact h3, ez, Up.setL ra h eu (reps_eraseIdx k ru) rz q⟩
def wPop : W → List W → AH → VKw → Prop := fun x ws A Q => ∃ p xs y, x = .ref p ∧ ws = [] ∧ A.h p = some (.lst xs) ∧ xs[xs.length - 1]? = some y ∧ Q y (A.put p (.lst xs.dropLast))
theorem reps_dropLast {K : PySem.W.Frag} {H : Hp} {vs : List V} {ws : List W} (r : reps K H vs ws) : reps K H vs.dropLast ws.dropLast := by
  rw [List.dropLast_eq_take, List.dropLast_eq_take, reps_length r]
  exact reps_take _ r
theorem mw_pop : MtW X "list.pop" wPop := MtW.of mt_pop fun H A x a vs ws Q ra ha r ⟨p, xs, y, e1, e2, h, h4, q⟩ => by
  subst e1 e2
  simp only [rep] at ha
  obtain rfl := reps_unnil r
  obtain ⟨us, eu, ru⟩ := ra.lst h
  obtain ⟨z, ez, rz⟩ := reps_get ru h4
  exact ⟨p, us, z, ha, rfl, eu, by rw [reps_length ru]; exact ez, Up.setL ra h eu (reps_dropLast ru) rz q⟩
/-! ### list(..), tuple(..) of a list or tuple -/
def seqW (w : W) (A : AH) (ws : List W) : Prop := match w with
  | .tup us => us = ws
  | .ktup us => us = ws
  | .ref p => isL A p ws
  | _ => False
theorem seqW.sq {K : PySem.W.Frag} {H : Hp} {A : AH} {w : W} {ws : List W} {v : V} (h : seqW w A ws) (ra : RepA K H A) (r : rep K H v w) : ∃ p vs, v = .ref p ∧ (SqL K H p vs ∨ SqT K H p vs) ∧ reps K H vs ws := by
  cases w with
  | tup us => simp only [rep] at r; obtain ⟨p, vs, e, s, rs⟩ := r; subst h; exact ⟨p, vs, e, .inr (SqT.of s), rs⟩
  | ktup us => simp only [rep] at r; obtain ⟨p, vs, e, s, rs⟩ := r; subst h; exact ⟨p, vs, e, .inr s, rs⟩
  | ref p => simp only [rep] at r; obtain ⟨vs, s, rs⟩ := isL.sq h ra; exact ⟨p, vs, r, .inl s, rs⟩
  | non => exact False.elim h
  | bl _ => exact False.elim h
  | int _ => exact False.elim h
  | str _ => exact False.elim h
  | ty _ => exact False.elim h
def wListOf : List W → AH → VKw → Prop := fun ws A Q => ∃ w us, ws = [w] ∧ seqW w A us ∧ ∀ p, A.h p = none → Q (.ref p) (A.put p (.lst us))
theorem cw_list : CallW X (.type "list") wListOf := CallW.of call_list_of fun H A vs ws Q ra r ⟨w, us, e, h, q⟩ => by
  subst e
  obtain ⟨v, r0, rfl, r1, r2⟩ := reps_uncons r
  obtain rfl := reps_unnil r2
  obtain ⟨p, zs, rfl, s, rs⟩ := h.sq ra r1
  exact ⟨p, zs, rfl, s, fun l hl => Up.new ra hl rs q⟩
def wTupleOf : List W → AH → VKw → Prop := fun ws A Q => ∃ w us, ws = [w] ∧ seqW w A us ∧ (match w with | .ktup _ => False | _ => True) ∧ Q (.tup us) A
theorem cw_tuple : CallW X (.type "tuple") wTupleOf := CallW.of call_tuple_of fun H A vs ws Q ra r ⟨w, us, e, h, hk, q⟩ => by
  subst e
  obtain ⟨v, r0, rfl, r1, r2⟩ := reps_uncons r
  obtain rfl := reps_unnil r2
  cases w with
  | ref p =>
    simp only [rep] at r1
    subst r1
    obtain ⟨vs, s, rs⟩ := isL.sq h ra
    exact ⟨p, vs, rfl, .inl ⟨s, fun l hl => Up.newT ra hl rs q⟩⟩
  | tup zs =>
    have r1' := r1
    simp only [rep] at r1
    obtain ⟨p, vs, rfl, s, rs⟩ := r1
    obtain rfl : zs = us := h
    exact ⟨p, vs, rfl, .inr ⟨SqT.of s, Up.i ra r1' q⟩⟩
  | ktup _ => exact False.elim hk
  | non => exact False.elim h
  | bl _ => exact False.elim h
  | int _ => exact False.elim h
  | str _ => exact False.elim h
  | ty _ => exact False.elim h
/-! int(n) -/
def wIntOf : List W → AH → VKw → Prop := fun ws A Q => (∃ i, ws = [.int i] ∧ Q (.int i) A) ∨ ∃ b, ws = [.bl b] ∧ Q (.int (if b then 1 else 0)) A
theorem cw_int : CallW X (.type "int") wIntOf := CallW.of call_int1 fun H A vs ws Q ra r q => by
  rcases q with ⟨i, e, q⟩ | ⟨i, e, q⟩
  all_goals
    subst e
    obtain ⟨v, r0, rfl, r1, r2⟩ := reps_uncons r
    obtain rfl := reps_unnil r2
    simp only [rep] at r1
    subst r1
  · exact .inl ⟨i, rfl, Up.i ra (by simp only [rep]) q⟩
  · exact .inr ⟨i, rfl, Up.i ra (by simp only [rep]) q⟩
/-! all, any of lists of bools -/
def wAllOf : List W → AH → VKw → Prop := fun ws A Q => ∃ (p : Addr) (bs : List Bool), ws = [.ref p] ∧ isL A p (bs.map W.bl) ∧ Q (.bl (bs.all id)) A
def wAnyOf : List W → AH → VKw → Prop := fun ws A Q => ∃ (p : Addr) (bs : List Bool), ws = [.ref p] ∧ isL A p (bs.map W.bl) ∧ Q (.bl (bs.any id)) A
theorem reps_bls_inv {K : PySem.W.Frag} {H : Hp} : ∀ {bs : List Bool} {vs : List V}, reps K H vs (bs.map W.bl) → vs = bs.map V.bl
  | [], vs, h => reps_unnil h
  | n :: ns, vs, h => by
    obtain ⟨v, r, rfl, h1, h2⟩ := reps_uncons h
    simp only [rep] at h1
    rw [h1, reps_bls_inv h2] <;> rfl
theorem cw_all (hc : X.calm = true) : CallW X (.builtin "all") wAllOf := CallW.of (cr_all hc) fun H A vs ws Q ra r ⟨p, bs, e, h, q⟩ => by
  subst e
  obtain ⟨v, r0, rfl, r1, r2⟩ := reps_uncons r
  obtain rfl := reps_unnil r2
  simp only [rep] at r1
  obtain ⟨us, s, rs⟩ := h.sq ra
  rw [reps_bls_inv rs] at s
  exact ⟨p, bs, by rw [r1], s, Up.i ra (by simp only [rep]) q⟩
theorem cw_any (hc : X.calm = true) : CallW X (.builtin "any") wAnyOf := CallW.of (cr_any hc) fun H A vs ws Q ra r ⟨p, bs, e, h, q⟩ => by
  subst e
  obtain ⟨v, r0, rfl, r1, r2⟩ := reps_uncons r
  obtain rfl := reps_unnil r2
  simp only [rep] at r1
  obtain ⟨us, s, rs⟩ := h.sq ra
  rw [reps_bls_inv rs] at s
  exact ⟨p, bs, by rw [r1], s, Up.i ra (by simp only [rep]) q⟩
/-! ### slices -/
abbrev TOw := Sw → AH → (Option Int → AH → Prop) → Prop
def loO (K : PySem.W.Frag) (t : TOw) : TO := fun σ H Q => ∃ ω A Q', SimS K H σ ω ∧ RepA K H A ∧ t ω A Q' ∧ ∀ o H' A', TupLe K H H' → SimS K H' σ ω → RepA K H' A' → Q' o A' → Q o H'
structure WP (X : Cx) (e : Option Expr) (t : TOw) : Prop where
  po : PO X e (loO X.K t)
theorem PO.imp {X : Cx} {e : Option Expr} {t u : TO} (h : PO X e t) (c : ∀ σ H Q, u σ H Q → t σ H Q) : PO X e u := ⟨fun pins s σ H Q I q => h.run pins s σ H Q I (c σ H Q q)⟩
def wNoPart : TOw := fun _ A Q => Q none A
def wPart (t : TEw) : TOw := fun ω A Q => t ω A fun w A1 => ∃ i, w = .int i ∧ Q (some i) A1
theorem wp_none : WP X none wNoPart := ⟨PO.imp po_none fun σ H Q ⟨ω, A, Q', sm, ra, h, k⟩ => k none H A (TupLe.refl H) sm ra h⟩
theorem wp_some {e : Expr} {te : TEw} (h : WE X e te) : WP X (some e) (wPart te) := ⟨PO.imp (po_some h.pe) fun σ H Q ⟨ω, A, Q', sm, ra, h, k⟩ => lo_i sm ra h fun v H1 w A1 t1 sm1 ra1 r ⟨i, e, q⟩ => by
  subst e
  simp only [rep] at r
  exact ⟨i, r, k _ _ _ t1 sm1 ra1 q⟩⟩
def cut {α : Type} (xs : List α) (lo hi : Option Int) : List α := (xs.drop (HT.sIx xs.length 0 lo)).take (HT.sIx xs.length xs.length hi - HT.sIx xs.length 0 lo)
def rwSl (w : W) (lo hi : Option Int) (A : AH) (Q : VKw) : Prop := match w with
  | .tup xs => Q (.tup (cut xs lo hi)) A
  | .str z => z.length ≤ sizeLine ∧ Q (.str (cutS z lo hi)) A
  | .ref p => ∃ xs, isL A p xs ∧ ∀ r, A.h r = none → Q (.ref r) (A.put r (.lst (cut xs lo hi)))
  | _ => False
theorem reps_cut {K : PySem.W.Frag} {H : Hp} {vs : List V} {ws : List W} (lo hi : Option Int) (r : reps K H vs ws) : reps K H (cutV vs lo hi) (cut ws lo hi) := by
  unfold cutV cut
  rw [reps_length r]
  exact reps_take _ (reps_drop _ r)
theorem sl_any : SlR X (fun x lo hi H Q => rSlL X.K x lo hi H Q ∨ rSlA X.K x lo hi H Q ∨ rSlS x lo hi H Q) := sl_list.or (sl_tupA.or sl_str)
theorem sIx_whole {n : Nat} {lo hi : Option Int} (h : HT.sIx n 0 lo = 0 ∧ HT.sIx n n hi = n) {α : Type} {xs : List α} (l : xs.length = n) : cut xs lo hi = xs := by
  unfold cut
  rw [l, h.1, h.2, List.drop_zero, Nat.sub_zero, ← l, List.take_length]
def wSl (te : TEw) (tl th : TOw) : TEw := fun ω A Q => te ω A fun w A1 => tl ω A1 fun l A2 => th ω A2 fun u A3 => rwSl w l u A3 Q
theorem we_slice {e : Expr} {lo hi : Option Expr} {te : TEw} {tl th : TOw} {pos p2 : Pos} (he : WE X e te) (hl : WP X lo tl) (hu : WP X hi th) : WE X (.Subscript e (.Slice lo hi none p2) pos) (wSl te tl th) :=
  WE.of (pe_slice sl_any he.pe hl.po hu.po) fun σ H ω A Q sm ra h => lo_i sm ra h fun v H1 w A1 t1 sm1 ra1 r h1 =>
    ⟨ω, A1, _, sm1, ra1, h1, fun l H2 A2 t2 sm2 ra2 h2 => ⟨ω, A2, _, sm2, ra2, h2, fun u H3 A3 t3 sm3 ra3 h3 => by
      have r3 := rep_mono (t2.trans t3) _ _ r
      have T := t1.trans (t2.trans t3)
      cases w with
      | tup xs =>
        have r4 := r3
        simp only [rep] at r3
        obtain ⟨p, vs, e, s, rs⟩ := r3
        refine .inr (.inl ⟨p, vs, e, SqT.of s, fun hw => ?_, fun _ q hq => Up.trans T (Up.newT ra3 hq (reps_cut l u rs) h3)⟩)
        have h3' : Q (.tup (cut xs l u)) A3 := h3
        rw [sIx_whole hw (reps_length rs).symm] at h3'
        exact Up.trans T (Up.i ra3 (e ▸ r4) h3')
      | str z =>
        simp only [rep] at r3
        exact .inr (.inr ⟨z, r3, h3.1, Up.trans T (Up.i ra3 (by simp only [rep]) h3.2)⟩)
      | ref p =>
        simp only [rep] at r3
        obtain ⟨xs, hl, q⟩ := h3
        obtain ⟨vs, s, rs⟩ := hl.sq ra3
        exact .inl ⟨p, vs, r3, s, fun q' hq => Up.trans T (Up.new ra3 hq (reps_cut l u rs) q)⟩
      | non => exact False.elim h3
      | bl _ => exact False.elim h3
      | int _ => exact False.elim h3
      | ty _ => exact False.elim h3
      | ktup _ => exact False.elim h3⟩⟩
end
end Wx

set_option Elab.async false
set_option linter.all false
set_option maxRecDepth 100000
set_option maxHeartbeats 4000000
/-! WX7: dicts. -/
namespace Wx
open PySem L2

section
variable {κ α : Type} [DecidableEq κ]
def lookK (kvs : List (κ × α)) (k : κ) : Option α := (kvs.find? fun kv => decide (kv.1 = k)).map (·.2)
def storeK (kvs : List (κ × α)) (k : κ) (v : α) : List (κ × α) :=
  if (kvs.any fun kv => decide (kv.1 = k)) = true then kvs.map (fun kv => if kv.1 = k then (kv.1, v) else kv) else kvs ++ [(k, v)]
theorem lookK_nil {k : κ} : lookK ([] : List (κ × α)) k = none := rfl
theorem lookK_pos {p : κ × α} {r : List (κ × α)} {k : κ} (e : p.1 = k) : lookK (p :: r) k = some p.2 := by simp [lookK, List.find?_cons, e]
theorem lookK_neg {p : κ × α} {r : List (κ × α)} {k : κ} (e : ¬ p.1 = k) : lookK (p :: r) k = lookK r k := by simp [lookK, List.find?_cons, e]
end
section
variable {κ : Type} [DecidableEq κ] {K : PySem.W.Frag} {H : Hp}
theorem prs_look {kv : List (κ × V)} {kvs : List (κ × W)} (r : prs K H kv kvs) (k : κ) : (∀ w, lookK kvs k = some w → ∃ v, valV kv k = some v ∧ rep K H v w) ∧ (lookK kvs k = none → valV kv k = none) := by
  unfold prs at r
  induction r with
  | nil => exact ⟨fun w e => (by rw [lookK_nil] at e; cases e), fun _ => rfl⟩
  | @cons p q ps qs h t ih =>
    obtain ⟨h1, h2⟩ := h
    by_cases e : q.1 = k
    · have e' : p.1 = k := h1.trans e
      rw [lookK_pos e, valV_pos e']
      exact ⟨fun w z => (by cases z; exact ⟨p.2, rfl, h2⟩), fun z => nomatch z⟩
    · have e' : ¬ p.1 = k := fun z => e (h1.symm.trans z)
      rw [lookK_neg e, valV_neg e']
      exact ih
theorem prs_store {kv : List (κ × V)} {kvs : List (κ × W)} (r : prs K H kv kvs) (k : κ) {v : V} {w : W} (rv : rep K H v w) : prs K H (putK kv k v) (storeK kvs k w) := by
  have any : (kv.any fun kv => decide (kv.1 = k)) = (kvs.any fun kv => decide (kv.1 = k)) := by
    unfold prs at r
    induction r with
    | nil => rfl
    | @cons p q ps qs h t ih => rw [List.any_cons, List.any_cons, ih, h.1]
  have m : prs K H (kv.map fun kv => if kv.1 = k then (kv.1, v) else kv) (kvs.map fun kv => if kv.1 = k then (kv.1, w) else kv) := by
    clear any
    unfold prs at r ⊢
    induction r with
    | nil => exact .nil
    | @cons p q ps qs h t ih =>
      rw [List.map_cons, List.map_cons]
      refine .cons ?_ ih
      by_cases e : q.1 = k
      · have e' : p.1 = k := h.1.trans e
        rw [if_pos e, if_pos e']
        exact ⟨h.1, rv⟩
      · have e' : ¬ p.1 = k := fun z => e (h.1.symm.trans z)
        rw [if_neg e, if_neg e']
        exact h
  have a : prs K H (kv ++ [(k, v)]) (kvs ++ [(k, w)]) := by
    clear any m
    unfold prs at r ⊢
    induction r with
    | nil => exact .cons ⟨rfl, rv⟩ .nil
    | @cons p q ps qs h t ih => exact .cons h ih
  unfold putK storeK
  rw [any]
  split
  · exact m
  · exact a
theorem prs_length {kv : List (κ × V)} {kvs : List (κ × W)} (r : prs K H kv kvs) : kv.length = kvs.length := Paired.length r
end
def keyW : Key → W
  | .inl i => .int i
  | .inr x => .str x
theorem rep_key {K : PySem.W.Frag} {H : Hp} {v : V} {k : Key} (r : rep K H v (keyW k)) : v = kV k := by
  cases k <;> (simp only [keyW, rep] at r; exact r)
theorem rep_keyI {K : PySem.W.Frag} {H : Hp} {k : Key} : rep K H (kV k) (keyW k) := by
  cases k <;> simp only [keyW, rep, kV]
theorem reps_keys {K : PySem.W.Frag} {H : Hp} : ∀ {ks : List Key} {vs : List V}, reps K H vs (ks.map keyW) → vs = ks.map kV
  | [], vs, h => reps_unnil h
  | k :: ks, vs, h => by
    obtain ⟨v, r, rfl, h1, h2⟩ := reps_uncons h
    rw [rep_key h1, reps_keys h2] <;> rfl
/-- what d has under y -/
def dGetW (A : AH) (a : Addr) (y : W) (o : Option W) : Prop :=
  (∃ kvs k, A.h a = some (.dK kvs) ∧ y = keyW k ∧ o = lookK kvs k) ∨ ∃ kvs k, A.h a = some (.dT kvs) ∧ y = .tup (k.map keyW) ∧ o = lookK kvs k
theorem dGetW.get {K : PySem.W.Frag} {H : Hp} {A : AH} {a : Addr} {y : W} {o : Option W} {v : V} (h : dGetW A a y o) (ra : RepA K H A) (r : rep K H v y) : ∃ ov, DGet H a v ov ∧ (∀ w, o = some w → ∃ v', ov = some v' ∧ rep K H v' w) ∧ (o = none → ov = none) := by
  rcases h with ⟨kvs, k, e, rfl, rfl⟩ | ⟨kvs, k, e, rfl, rfl⟩
  · obtain ⟨kv, ek, rk⟩ := ra.1 a _ e
    obtain rfl := rep_key r
    exact ⟨valV kv k, DGet.k ek, (prs_look rk k).1, (prs_look rk k).2⟩
  · obtain ⟨kv, ek, rk⟩ := ra.1 a _ e
    simp only [rep] at r
    obtain ⟨b, vs, rfl, eb, rs⟩ := r
    rw [reps_keys rs] at eb
    exact ⟨valV kv k, DGet.t ek eb, (prs_look rk k).1, (prs_look rk k).2⟩
def isDW (A : AH) (a : Addr) : Prop := (∃ kvs, A.h a = some (.dK kvs)) ∨ ∃ kvs, A.h a = some (.dT kvs)
theorem isDW.d {K : PySem.W.Frag} {H : Hp} {A : AH} {a : Addr} (h : isDW A a) (ra : RepA K H A) : IsD H a := by
  rcases h with ⟨kvs, e⟩ | ⟨kvs, e⟩
  · obtain ⟨kv, ek, _⟩ := ra.1 a _ e
    exact .inl ⟨kv, .inl ek⟩
  · obtain ⟨kv, ek, _⟩ := ra.1 a _ e
    exact .inr ⟨kv, .inl ek⟩
/-- d[y] = w -/
def dPutW (A : AH) (a : Addr) (y w : W) (Q : AH → Prop) : Prop :=
  (∃ kvs k, A.h a = some (.dK kvs) ∧ y = keyW k ∧ kvs.length < sizeLine ∧ Q (A.put a (.dK (storeK kvs k w)))) ∨ ∃ kvs k, A.h a = some (.dT kvs) ∧ y = .tup (k.map keyW) ∧ kvs.length < sizeLine ∧ Q (A.put a (.dT (storeK kvs k w)))
theorem dPutW.put {K : PySem.W.Frag} {H : Hp} {A : AH} {a : Addr} {y w : W} {Q : AH → Prop} {v u : V} (h : dPutW A a y w Q) (ra : RepA K H A) (ry : rep K H v y) (rw' : rep K H u w) : ∃ H' A', DPut H a v u H' ∧ TupLe K H H' ∧ RepA K H' A' ∧ Q A' := by
  rcases h with ⟨kvs, k, e, rfl, l, q⟩ | ⟨kvs, k, e, rfl, l, q⟩
  · obtain ⟨kv, ek, rk⟩ := ra.1 a _ e
    obtain rfl := rep_key ry
    have t : TupLe K H (upd H a (.dK (putK kv k u))) := tupLe_set ek (by intro _ z; cases z) (by intro _ _ z; cases z)
    exact ⟨_, _, DPut.k ek (by rw [prs_length rk]; exact l), t, ra.set (wo' := .dK (storeK kvs k w)) e ek (by intro _ z; cases z) (by intro _ _ z; cases z) ⟨_, upd_same, prs_mono t (prs_store rk k rw')⟩, q⟩
  · obtain ⟨kv, ek, rk⟩ := ra.1 a _ e
    simp only [rep] at ry
    obtain ⟨b, vs, rfl, eb, rs⟩ := ry
    rw [reps_keys rs] at eb
    have t : TupLe K H (upd H a (.dT (putK kv k u))) := tupLe_set ek (by intro _ z; cases z) (by intro _ _ z; cases z)
    exact ⟨_, _, DPut.t ek eb (by rw [prs_length rk]; exact l), t, ra.set (wo' := .dT (storeK kvs k w)) e ek (by intro _ z; cases z) (by intro _ _ z; cases z) ⟨_, upd_same, prs_mono t (prs_store rk k rw')⟩, q⟩

section
variable {X : Cx} {o i e f value : Expr} {pos pos' apos cpos : Pos} {td ty tv tx : TEw}
def wDGet (td ty : TEw) : TEw := fun ω A Q => td ω A fun x A1 => ty ω A1 fun y A2 => ∃ a w, x = .ref a ∧ dGetW A2 a y (some w) ∧ Q w A2
theorem we_dget (hu : X.A.units + 1 < cLine) (ho : WE X o td) (hi : WE X i ty) (hs : NoSl i := by intro _ _; rfl) : WE X (.Subscript o i pos) (wDGet td ty) := WE.of (pe_dget hu ho.pe hi.pe hs) fun σ H ω A Q sm ra h =>
  lo_i sm ra h fun v1 H1 w1 A1 t1 sm1 ra1 r1 h1 => lo_i sm1 ra1 h1 fun v2 H2 w2 A2 t2 sm2 ra2 r2 ⟨a, w, e, g, q⟩ => by
    subst e
    simp only [rep] at r1
    obtain ⟨ov, g', k1, _⟩ := g.get ra2 r2
    obtain ⟨v', rfl, rv⟩ := k1 w rfl
    exact ⟨a, v', r1, g', Up.trans (t1.trans t2) (Up.i ra2 rv q)⟩
def wDIn (b : Bool) (ty td : TEw) : TEw := fun ω A Q => ty ω A fun y A1 => td ω A1 fun x A2 => ∃ a o, x = .ref a ∧ dGetW A2 a y o ∧ Q (.bl (if b then o.isSome else !o.isSome)) A2
theorem isSome_rel {K : PySem.W.Frag} {H : Hp} {o : Option W} {ov : Option V} (k1 : ∀ w, o = some w → ∃ v', ov = some v' ∧ rep K H v' w) (k2 : o = none → ov = none) : ov.isSome = o.isSome := by
  cases o with
  | none => rw [k2 rfl] <;> rfl
  | some w => obtain ⟨v, rfl, _⟩ := k1 w rfl; rfl
theorem wc_din (hu : X.A.units + 1 < cLine) (hi : WE X i ty) (ho : WE X o td) (hm : behindInMarks .In o = false := by rfl) : WE X (.Compare i [.In] [o] pos) (wDIn true ty td) := WE.of (pe_cmp (pc_din hu hi.pe ho.pe) hm) fun σ H ω A Q sm ra h =>
  lo_i sm ra h fun v1 H1 w1 A1 t1 sm1 ra1 r1 h1 => lo_i sm1 ra1 h1 fun v2 H2 w2 A2 t2 sm2 ra2 r2 ⟨a, o, e, g, q⟩ => by
    subst e
    simp only [rep] at r2
    obtain ⟨ov, g', k1, k2⟩ := g.get ra2 (rep_mono t2 _ _ r1)
    exact ⟨a, ov, r2, g', Up.trans (t1.trans t2) (Up.i ra2 (by simp only [rep, isSome_rel k1 k2]; rfl) q)⟩
theorem wc_dnotin (hu : X.A.units + 1 < cLine) (hi : WE X i ty) (ho : WE X o td) (hm : behindInMarks .NotIn o = false := by rfl) : WE X (.Compare i [.NotIn] [o] pos) (wDIn false ty td) := WE.of (pe_cmp (pc_dnotin hu hi.pe ho.pe) hm) fun σ H ω A Q sm ra h =>
  lo_i sm ra h fun v1 H1 w1 A1 t1 sm1 ra1 r1 h1 => lo_i sm1 ra1 h1 fun v2 H2 w2 A2 t2 sm2 ra2 r2 ⟨a, o, e, g, q⟩ => by
    subst e
    simp only [rep] at r2
    obtain ⟨ov, g', k1, k2⟩ := g.get ra2 (rep_mono t2 _ _ r1)
    exact ⟨a, ov, r2, g', Up.trans (t1.trans t2) (Up.i ra2 (by simp only [rep, isSome_rel k1 k2]; rfl) q)⟩
def wDPut (td ty tv : TEw) : TSw := fun D ω A => tv ω A fun w A1 => td ω A1 fun x A2 => ty ω A2 fun y A3 => ∃ a, x = .ref a ∧ dPutW A3 a y w fun A4 => D.nx ω A4
theorem ws_dput (hu : X.A.units + 1 < cLine) (ho : WE X o td) (hi : WE X i ty) (hv : WE X value tv) (hs : swapsWith value (some (.Subscript o i pos')) pos.line X.env = pure false := by rfl) : WS X (.Assign [.Subscript o i pos'] value pos) (wDPut td ty tv) := WS.of (ps_dput hu ho.pe hi.pe hv.pe hs) fun D σ H ω A sm ra h =>
  lo_i sm ra h fun v1 H1 w1 A1 t1 sm1 ra1 r1 h1 => lo_i sm1 ra1 h1 fun v2 H2 w2 A2 t2 sm2 ra2 r2 h2 => lo_i sm2 ra2 h2 fun v3 H3 w3 A3 t3 sm3 ra3 r3 ⟨a, e, q⟩ => by
    subst e
    simp only [rep] at r2
    obtain ⟨H4, A4, p, t4, ra4, q⟩ := q.put ra3 r3 (rep_mono (t2.trans t3) _ _ r1)
    exact ⟨a, H4, r2, p, ω, A4, (t1.trans (t2.trans t3)).trans t4, sm3.mono t4, ra4, q⟩
/-- d.get(y), d.get(y, z) -/
def wDGet1 (td ty : TEw) : TEw := fun ω A Q => td ω A fun x A1 => ∃ a, x = .ref a ∧ isDW A1 a ∧ ty ω A1 fun y A2 => ∃ o, dGetW A2 a y o ∧ Q (o.getD .non) A2
def wDGet2 (td ty tx : TEw) : TEw := fun ω A Q => td ω A fun x A1 => ∃ a, x = .ref a ∧ isDW A1 a ∧ ty ω A1 fun y A2 => tx ω A2 fun z A3 => ∃ o, dGetW A3 a y o ∧ Q (o.getD z) A3
theorem getD_rel {K : PySem.W.Frag} {H : Hp} {o : Option W} {ov : Option V} {d : W} {dv : V} (k1 : ∀ w, o = some w → ∃ v', ov = some v' ∧ rep K H v' w) (k2 : o = none → ov = none) (rd : rep K H dv d) : rep K H (ov.getD dv) (o.getD d) := by
  cases o with
  | none => rw [k2 rfl]; exact rd
  | some w => obtain ⟨v, rfl, r⟩ := k1 w rfl; exact r
theorem we_dget1 (hu : X.A.units + 1 < cLine) (ho : WE X o td) (he : WE X e ty) (m : M1 X o "get" apos e cpos) : WE X (.Call (.Attribute o "get" apos) [e] [] cpos) (wDGet1 td ty) := WE.of (pe_dget1 hu ho.pe he.pe m) fun σ H ω A Q sm ra h =>
  lo_i sm ra h fun v1 H1 w1 A1 t1 sm1 ra1 r1 ⟨a, e, d, h1⟩ => by
    subst e
    simp only [rep] at r1
    exact ⟨a, r1, d.d ra1, lo_i sm1 ra1 h1 fun v2 H2 w2 A2 t2 sm2 ra2 r2 ⟨o, g, q⟩ => by
      obtain ⟨ov, g', k1, k2⟩ := g.get ra2 r2
      exact ⟨ov, g', Up.trans (t1.trans t2) (Up.i ra2 (getD_rel k1 k2 (by simp only [rep])) q)⟩⟩
theorem we_dget2 (hu : X.A.units + 1 < cLine) (ho : WE X o td) (he : WE X e ty) (hf : WE X f tx) (m : M2 X o "get" apos e f cpos) : WE X (.Call (.Attribute o "get" apos) [e, f] [] cpos) (wDGet2 td ty tx) := WE.of (pe_dget2 hu ho.pe he.pe hf.pe m) fun σ H ω A Q sm ra h =>
  lo_i sm ra h fun v1 H1 w1 A1 t1 sm1 ra1 r1 ⟨a, e, d, h1⟩ => by
    subst e
    simp only [rep] at r1
    exact ⟨a, r1, d.d ra1, lo_i sm1 ra1 h1 fun v2 H2 w2 A2 t2 sm2 ra2 r2 h2 => lo_i sm2 ra2 h2 fun v3 H3 w3 A3 t3 sm3 ra3 r3 ⟨o, g, q⟩ => by
      obtain ⟨ov, g', k1, k2⟩ := g.get ra3 (rep_mono t3 _ _ r2)
      exact ⟨ov, g', Up.trans (t1.trans (t2.trans t3)) (Up.i ra3 (getD_rel k1 k2 r3) q)⟩⟩
/-- {}: of keys, of tuples of keys -/
def wDNewK : TEw := fun _ A Q => ∀ p, A.h p = none → Q (.ref p) (A.put p (.dK []))
def wDNewT : TEw := fun _ A Q => ∀ p, A.h p = none → Q (.ref p) (A.put p (.dT []))
theorem we_dnewK : WE X (.Dict [] [] pos) wDNewK := WE.of pe_dnewK fun σ H ω A Q sm ra h p hp => ⟨.ref p, _, tupLe_new hp, ra.new (wo := .dK []) hp ⟨[], upd_same, .nil⟩, by simp only [rep], h p (ra.fresh hp)⟩
theorem we_dnewT : WE X (.Dict [] [] pos) wDNewT := WE.of pe_dnewT fun σ H ω A Q sm ra h p hp => ⟨.ref p, _, tupLe_new hp, ra.new (wo := .dT []) hp ⟨[], upd_same, .nil⟩, by simp only [rep], h p (ra.fresh hp)⟩
/-- {k: v, ..} -/
def wPairs : List (TEw × TEw) → Sw → AH → (List (W × W) → AH → Prop) → Prop
  | [], _, A, Q => Q [] A
  | (tk, tv) :: r, ω, A, Q => tk ω A fun x A1 => tv ω A1 fun y A2 => wPairs r ω A2 fun ps A3 => Q ((x, y) :: ps) A3
def wDisp (trs : List (TEw × TEw)) : TEw := fun ω A Q => ∀ p, A.h p = none → wPairs trs ω (A.put p (.dK [])) fun ps A2 => A2.h p = some (.dK []) ∧ ∃ kvs : List (Key × W), ps = kvs.map (fun kv => (keyW kv.1, kv.2)) ∧ kvs.length ≤ 15 ∧ Q (.ref p) (A2.put p (.dK (kvs.foldl (fun acc kv => storeK acc kv.1 kv.2) [])))
structure WPPs (X : Cx) (pos : Pos) (keys : List (Option Expr)) (values : List Expr) (trs : List (TEw × TEw)) : Prop where
  pps : PPs X pos keys values (trs.map fun t => (lo X.K t.1, lo X.K t.2))
theorem wpps_nil : WPPs X pos [] [] [] := ⟨pps_nil⟩
theorem wpps_cons {k v : Expr} {ks : List (Option Expr)} {vs : List Expr} {tk tv : TEw} {trs : List (TEw × TEw)} (hk : WE X k tk) (hv : WE X v tv) (hr : WPPs X pos ks vs trs) : WPPs X pos (some k :: ks) (v :: vs) ((tk, tv) :: trs) := ⟨pps_cons hk.pe hv.pe hr.pps⟩
def PVs (K : PySem.W.Frag) (H : Hp) : List (V × V) → List (W × W) → Prop := Paired fun p q => rep K H p.1 q.1 ∧ rep K H p.2 q.2
theorem pairs_low {K : PySem.W.Frag} {ω : Sw} : ∀ {trs : List (TEw × TEw)} {σ : L2.St} {H : Hp} {A : AH} {Q' : List (W × W) → AH → Prop} {Q : List (V × V) → Hp → Prop}, SimS K H σ ω → RepA K H A → wPairs trs ω A Q' → (∀ ps H' ws A', TupLe K H H' → SimS K H' σ ω → RepA K H' A' → PVs K H' ps ws → Q' ws A' → Q ps H') →
    tPairs (trs.map fun t => (lo K t.1, lo K t.2)) σ H Q
  | [], σ, H, A, Q', Q, sm, ra, h, k => k [] H [] A (TupLe.refl H) sm ra .nil h
  | (tk, tv) :: r, σ, H, A, Q', Q, sm, ra, h, k => lo_i sm ra h fun v1 H1 w1 A1 t1 sm1 ra1 r1 h1 => lo_i sm1 ra1 h1 fun v2 H2 w2 A2 t2 sm2 ra2 r2 h2 => pairs_low sm2 ra2 h2 fun ps H' ws A' t3 sm3 ra3 r3 q =>
      k _ H' _ A' (t1.trans (t2.trans t3)) sm3 ra3 (.cons ⟨rep_mono (t2.trans t3) _ _ r1, rep_mono t3 _ _ r2⟩ r3) q
theorem prs_fold {K : PySem.W.Frag} {H : Hp} : ∀ {more : List (Key × V)} {mores : List (Key × W)} {kv : List (Key × V)} {kvs : List (Key × W)}, prs K H more mores → prs K H kv kvs → prs K H (mergeK kv more) (mores.foldl (fun acc kv => storeK acc kv.1 kv.2) kvs) := by
  intro more mores kv kvs r
  unfold prs at r
  induction r generalizing kv kvs with
  | nil => intro q; exact q
  | @cons p q ps qs h t ih =>
    intro r0
    have := prs_store r0 p.1 h.2
    have e : prs K H (putK kv p.1 p.2) (storeK kvs q.1 q.2) := by rw [← h.1]; exact this
    exact ih e
theorem pvs_keys {K : PySem.W.Frag} {H : Hp} : ∀ {kvs : List (Key × W)} {ps : List (V × V)}, PVs K H ps (kvs.map fun kv => (keyW kv.1, kv.2)) → ∃ kv : List (Key × V), ps = kv.map (fun kv => (kV kv.1, kv.2)) ∧ prs K H kv kvs
  | [], ps, r => by unfold PVs at r; rw [List.map_nil] at r; cases r; exact ⟨[], rfl, .nil⟩
  | p :: kvs, ps, r => by
    unfold PVs at r
    rw [List.map_cons] at r
    cases r with
    | @cons a b as bs h t =>
      obtain ⟨kv, e, q⟩ := pvs_keys (kvs := kvs) t
      obtain ⟨a1, a2⟩ := a
      obtain ⟨h1, h2⟩ := h
      have h1' : a1 = kV p.1 := rep_key h1
      exact ⟨(p.1, a2) :: kv, by rw [List.map_cons, ← e, h1'], .cons ⟨rfl, h2⟩ q⟩
theorem we_disp {keys : List (Option Expr)} {values : List Expr} {trs : List (TEw × TEw)} (h : WPPs X pos keys values trs) (hall : keys.all (·.isSome) = true := by rfl) (hl : keys.length = values.length := by rfl) (h0 : keys ≠ [] := by intro z; cases z)
    (h15 : keys.length ≤ 15 := by decide) : WE X (.Dict keys values pos) (wDisp trs) := WE.of (pe_disp h.pps hall hl h0 h15) fun σ H ω A Q sm ra hq p hp => by
  have tn : TupLe X.K H (upd H p (.dK [])) := tupLe_new hp
  refine pairs_low (sm.mono tn) (ra.new (wo := .dK []) hp ⟨[], upd_same, .nil⟩) (hq p (ra.fresh hp)) fun ps H' ws A' t1 sm1 ra1 rp ⟨e, kvs, ew, l, q⟩ => ?_
  subst ew
  obtain ⟨kv, rfl, rk⟩ := pvs_keys rp
  obtain ⟨kv0, e0, r0⟩ := ra1.1 p _ e
  cases r0
  have ts : TupLe X.K H' (upd H' p (.dK (mergeK [] kv))) := tupLe_set e0 (by intro _ z; cases z) (by intro _ _ z; cases z)
  exact ⟨e0, kv, rfl, by rw [prs_length rk]; exact l, .ref p, _, (tn.trans t1).trans ts, ra1.set (wo' := .dK (kvs.foldl (fun acc kv => storeK acc kv.1 kv.2) [])) e e0 (by intro _ z; cases z) (by intro _ _ z; cases z) ⟨_, upd_same, prs_mono ts (prs_fold rk .nil)⟩, by simp only [rep], q⟩
end
end Wx

set_option Elab.async false
set_option linter.all false
set_option maxRecDepth 100000
set_option maxHeartbeats 4000000
/-! WX8: short words for printed derivations. -/
namespace Wx
open PySem L2
section
variable {X : Cx}
theorem wv (i : Nat) {x : Str} {pos : Pos} (hN : X.N[i]? = some x := by rfl) (hv : Vis X.env.scope x := by first | exact Or.inl rfl | exact Or.inr (Or.inl rfl) | exact Or.inr (Or.inr rfl)) (hd : (x == ("__debug__" : Str)) = false := by decide)
    (hcd : (x == ("__classdict__" : Str)) = false := by decide) : WE X (.Name x pos) (wVar i) := we_var (pe_var hN hv hd hcd)
theorem hu64 {A : Around} {k : Nat} {g : Bool} (hr : RoomG g k A) : A.units + 64 < cLine := hr.units
theorem huG {A : Around} {k : Nat} {g : Bool} (hr : RoomG g k A) : A.units + 1 < cLine := hu_of hr.r
end
/-- a def as it is called -/
structure Callee (g : Bool) (P : Program) (w : World) (K : PySem.W.Frag) (mg : Str → Option Value) (base : Heap) (k : Nat) (x : Str) (ps : List Str) (sp : SpW) : Prop where
  ex : ∃ f fd, FnB g P w K mg base k f fd ps (spL K sp) ∧ mg x = some (.ref f) ∧ PySem.W.keepIn K (.ref f) = true ∧ Binds K fd ps []
section
variable {X : Cx} {g : Bool} {k : Nat} {ps : List Str} {sp : SpW} {E : XSw} {x : Str} {p pos : Pos} {e : Expr} {es : List Expr} {ta : TAw}
theorem Callee.we (C : Callee g X.prog X.w X.K X.mg X.base k x ps sp) (hr : RoomG g k X.A) (hg : Gl X x) (ha : WA X (e :: es) ta) (hdb : (x == ("__debug__" : Str)) = false := by decide)
    (he : starEach (e :: es) X.env = (false, eval e X.env) :: starEach es X.env := by rfl) (hpl : (backTo pos (starEach es X.env)).any (·.1) = false := by rfl) : WE X (.Call (.Name x p) (e :: es) [] pos) (wCall sp [] ta) :=
  let ⟨_, _, F, hm, hk, hb⟩ := C.ex; we_call F hr hg hm hk hb .nil (fun _ => reps_nil) ha hdb he hpl
theorem Callee.we0 (C : Callee g X.prog X.w X.K X.mg X.base k x ps sp) (hr : RoomG g k X.A) (hg : Gl X x) (hdb : (x == ("__debug__" : Str)) = false := by decide) : WE X (.Call (.Name x p) [] [] pos) (wCall sp [] wNil) :=
  let ⟨_, _, F, hm, hk, hb⟩ := C.ex; we_call0 F hr hg hm hk hb .nil (fun _ => reps_nil) hdb
theorem Callee.weX (C : Callee g X.prog X.w X.K X.mg X.base k x ps sp) (tk : TakesW X E) (hr : RoomG g k X.A) (hg : Gl X x) (ha : WA X (e :: es) ta) (hdb : (x == ("__debug__" : Str)) = false := by decide)
    (he : starEach (e :: es) X.env = (false, eval e X.env) :: starEach es X.env := by rfl) (hpl : (backTo pos (starEach es X.env)).any (·.1) = false := by rfl) : WE X (.Call (.Name x p) (e :: es) [] pos) (wCallX sp [] ta E) :=
  let ⟨_, _, F, hm, hk, hb⟩ := C.ex; we_callX tk F hr hg hm hk hb .nil (fun _ => reps_nil) ha hdb he hpl
theorem Callee.weX0 (C : Callee g X.prog X.w X.K X.mg X.base k x ps sp) (tk : TakesW X E) (hr : RoomG g k X.A) (hg : Gl X x) (hdb : (x == ("__debug__" : Str)) = false := by decide) : WE X (.Call (.Name x p) [] [] pos) (wCallX sp [] wNil E) :=
  let ⟨_, _, F, hm, hk, hb⟩ := C.ex; we_callX0 tk F hr hg hm hk hb .nil (fun _ => reps_nil) hdb
theorem Callee.up {P : Program} {w : World} {K : PySem.W.Frag} {mg : Str → Option Value} {base : Heap} (C : Callee false P w K mg base k x ps sp) : Callee g P w K mg base k x ps sp :=
  let ⟨f, fd, F, hm, hk, hb⟩ := C.ex; ⟨f, fd, F.up, hm, hk, hb⟩
end
/-- what the law's pen is: from the dict to the pen and back -/
theorem pen_in {K : PySem.W.Frag} {H : Hp} {A : AH} {p cl : Addr} {ns : List Int} {at_ dg fo : Int} {n : Nat} (ra : RepA K H A) (hp : A.h p = some (.dK [(.inr "cells", .ref cl), (.inr "at", .int at_), (.inr "digits", .int dg), (.inr "count", .int n), (.inr "fold", .int fo)]))
    (hc : A.h cl = some (.lst (ns.map W.int))) (hn : A.pen = none) (h1 : 0 ≤ at_) (h2 : 0 ≤ dg) (h3 : -(2 ^ 40) < fo) (h4 : fo < 2 ^ 40) : RepA K H { pen := some (p, n), h := fun b => if b = p ∨ b = cl then none else A.h b, tp := A.tp, tb := A.tb } := by
  obtain ⟨kv, ek, rk⟩ := ra.1 p _ hp
  obtain ⟨vs, el, rl⟩ := ra.1 cl _ hc
  obtain rfl := reps_ints_inv rl
  have ekv : kv = penKv cl at_ dg n fo := by
    unfold prs at rk
    cases rk with
    | @cons p1 _ _ _ a1 r1 =>
    cases r1 with
    | @cons p2 _ _ _ a2 r2 =>
    cases r2 with
    | @cons p3 _ _ _ a3 r3 =>
    cases r3 with
    | @cons p4 _ _ _ a4 r4 =>
    cases r4 with
    | @cons p5 _ _ _ a5 r5 =>
    cases r5
    obtain ⟨p1, v1⟩ := p1
    obtain ⟨p2, v2⟩ := p2
    obtain ⟨p3, v3⟩ := p3
    obtain ⟨p4, v4⟩ := p4
    obtain ⟨p5, v5⟩ := p5
    simp only [rep] at a1 a2 a3 a4 a5
    obtain ⟨b1, c1⟩ := a1
    obtain ⟨b2, c2⟩ := a2
    obtain ⟨b3, c3⟩ := a3
    obtain ⟨b4, c4⟩ := a4
    obtain ⟨b5, c5⟩ := a5
    subst b1 b2 b3 b4 b5 c1 c2 c3 c4 c5
    rfl
  subst ekv
  refine ⟨fun a o e => ?_, fun q m e => ?_, ra.2.2⟩
  · have e' : (if a = p ∨ a = cl then none else A.h a) = some o := e
    by_cases z : a = p ∨ a = cl
    · rw [if_pos z] at e'; cases e'
    · rw [if_neg z] at e'
      refine (ra.1 a o e').keep (TupLe.refl H) (fun _ _ => rfl) fun b y _ => ?_
      show (if b = p ∨ b = cl then none else A.h b) = none
      rw [y, ite_self]
  · cases e
    exact ⟨cl, ns, at_, dg, fo, ek, el, if_pos (.inl rfl), if_pos (.inr rfl), h1, h2, h3, h4⟩
theorem pen_out {K : PySem.W.Frag} {H : Hp} {A : AH} {p : Addr} {n : Nat} (ra : RepA K H A) (hp : A.pen = some (p, n)) : ∃ (cl : Addr) (ns : List Int) (at_ dg fo : Int), A.h p = none ∧ A.h cl = none ∧ cl ≠ p ∧ 0 ≤ at_ ∧ 0 ≤ dg ∧ -(2 ^ 40) < fo ∧ fo < 2 ^ 40 ∧
    RepA K H { pen := none, h := fun b => if b = p then some (.dK [(.inr "cells", .ref cl), (.inr "at", .int at_), (.inr "digits", .int dg), (.inr "count", .int n), (.inr "fold", .int fo)]) else if b = cl then some (.lst (ns.map W.int)) else A.h b, tp := A.tp, tb := A.tb } := by
  obtain ⟨cl, ns, at_, dg, fo, e1, e2, e3, e4, h1, h2, h3, h4⟩ := ra.2.1 p n hp
  have ne : cl ≠ p := fun z => by rw [z, e1] at e2; cases e2
  refine ⟨cl, ns, at_, dg, fo, e3, e4, ne, h1, h2, h3, h4, fun a o e => ?_, (fun q m e => nomatch e), ra.2.2⟩
  have e' : (if a = p then some (WO.dK [(.inr "cells", .ref cl), (.inr "at", .int at_), (.inr "digits", .int dg), (.inr "count", .int n), (.inr "fold", .int fo)]) else if a = cl then some (.lst (ns.map W.int)) else A.h a) = some o := e
  by_cases z : a = p
  · rw [if_pos z] at e'
    cases e'
    subst z
    refine ⟨penKv cl at_ dg n fo, e1, ?_⟩
    unfold prs penKv
    exact .cons ⟨rfl, by simp only [rep]⟩ (.cons ⟨rfl, by simp only [rep]⟩ (.cons ⟨rfl, by simp only [rep]⟩ (.cons ⟨rfl, by simp only [rep]⟩ (.cons ⟨rfl, by simp only [rep]⟩ .nil))))
  · rw [if_neg z] at e'
    by_cases z2 : a = cl
    · rw [if_pos z2] at e'
      cases e'
      subst z2
      exact ⟨_, e2, reps_ints⟩
    · rw [if_neg z2] at e'
      refine (ra.1 a o e').keep (TupLe.refl H) (fun _ _ => rfl) fun b y ⟨vf, hb⟩ => ?_
      have n1 : b ≠ p := fun z => by
        subst z
        rw [e1] at hb
        have z' : HO.dK _ = HO.ext _ := Option.some.inj hb
        cases z'
      have n2 : b ≠ cl := fun z => by
        subst z
        rw [e2] at hb
        have z' : HO.lst _ = HO.ext _ := Option.some.inj hb
        cases z'
      show (if b = p then _ else if b = cl then _ else A.h b) = none
      rw [if_neg n1, if_neg n2]
      exact y
end Wx

set_option Elab.async false
set_option linter.all false
set_option maxRecDepth 100000
set_option maxHeartbeats 4000000
/-! WX9: readings by simp. -/
namespace Wx
open PySem L2
theorem ifd {c A B : Prop} [Decidable c] (h1 : c → A) (h2 : ¬ c → B) : if decide c = true then A else B := by
  by_cases h : c
  · rw [if_pos (decide_eq_true h)]; exact h1 h
  · rw [if_neg (by simpa using h)]; exact h2 h
theorem ifb {b : Bool} {A B : Prop} (h1 : b = true → A) (h2 : b = false → B) : if b = true then A else B := by
  cases b with
  | true => rw [if_pos rfl]; exact h1 rfl
  | false => rw [if_neg Bool.false_ne_true]; exact h2 rfl
/-- a bool, as such -/
def asB (w : W) (k : Bool → Prop) : Prop := match w with
  | .bl b => k b
  | _ => False
@[simp] theorem asB_bl {b : Bool} {k : Bool → Prop} : asB (.bl b) k = k b := id rfl
theorem asB_iff {w : W} {k : Bool → Prop} : (∃ b, w = .bl b ∧ k b) = asB w k := by
  apply propext
  constructor
  · rintro ⟨b, rfl, h⟩
    exact h
  · intro h
    cases w <;> first | exact False.elim h | exact ⟨_, rfl, h⟩
section
variable {t u : TSw} {te ta tb : TEw} {tt tu : TTw} {D : Dw} {ω : Sw} {A : AH} {Q : VKw} {QB : Bool → AH → Prop} {QA : List W → AH → Prop} {i j : Nat} {w : W} {g : TGw} {r : R2w} {tA : TAw}
@[simp] theorem wSeq_eq : wSeq t u D ω A = t { D with nx := u D } ω A := id rfl
@[simp] theorem wNext_eq : wNext D ω A = D.nx ω A := id rfl
@[simp] theorem wRet_eq : wRet te D ω A = te ω A D.rt := id rfl
@[simp] theorem wDrop_eq : wDrop te D ω A = te ω A fun _ A1 => D.nx ω A1 := id rfl
@[simp] theorem wIfS_eq : wIfS tt t u D ω A = tt ω A fun b A1 => if b = true then t D ω A1 else u D ω A1 := id rfl
@[simp] theorem wAsg_eq : wAsg te g D ω A = te ω A fun w A1 => g w ω A1 D.nx := id rfl
@[simp] theorem wgName_eq {Q : Sw → AH → Prop} : wgName i w ω A Q = Q (ω.set i (some w)) A := id rfl
@[simp] theorem wVar_eq : wVar i ω A Q = ∃ w, ω[i]? = some (some w) ∧ Q w A := id rfl
@[simp] theorem wC_eq : wC w ω A Q = Q w A := id rfl
@[simp] theorem wOp_eq : wOp r ta tb ω A Q = ta ω A fun a A1 => tb ω A1 fun b A2 => r a b A2 Q := id rfl
@[simp] theorem wTest_eq : wTest te ω A QB = te ω A fun w A' => asB w fun k => QB k A' := by
  unfold wTest
  simp only [asB_iff]
@[simp] theorem wNotV_eq : wNotV te ω A Q = te ω A fun w A' => asB w fun k => Q (.bl (!k)) A' := by
  unfold wNotV
  simp only [asB_iff]
@[simp] theorem wAndV_eq : wAndV ta tb ω A Q = ta ω A fun w A' => asB w fun c => if c = true then tb ω A' Q else Q (.bl false) A' := by
  unfold wAndV
  simp only [asB_iff]
@[simp] theorem wOrV_eq : wOrV ta tb ω A Q = ta ω A fun w A' => asB w fun c => if c = true then Q (.bl true) A' else tb ω A' Q := by
  unfold wOrV
  simp only [asB_iff]
@[simp] theorem wAnd_eq : wAnd tt tu ω A QB = tt ω A fun c A1 => if c = true then tu ω A1 QB else QB false A1 := id rfl
@[simp] theorem wOr_eq : wOr tt tu ω A QB = tt ω A fun c A1 => if c = true then QB true A1 else tu ω A1 QB := id rfl
@[simp] theorem wNot_eq : wNot tt ω A QB = tt ω A fun c A1 => QB (!c) A1 := id rfl
@[simp] theorem wIf_eq : wIf tt ta tb ω A Q = tt ω A fun c A1 => if c = true then ta ω A1 Q else tb ω A1 Q := id rfl
@[simp] theorem wNil_eq : wNil ω A QA = QA [] A := id rfl
@[simp] theorem wCons_eq : wCons te tA ω A QA = te ω A fun w A1 => tA ω A1 fun ws A2 => QA (w :: ws) A2 := id rfl
@[simp] theorem wTup_eq : wTup tA ω A Q = tA ω A fun ws A1 => ws.length ≤ sizeLine ∧ Q (.tup ws) A1 := id rfl
@[simp] theorem wLst_eq : wLst tA ω A Q = tA ω A fun ws A1 => ws.length ≤ sizeLine ∧ ∀ p, A1.h p = none → Q (.ref p) (A1.put p (.lst ws)) := id rfl
@[simp] theorem wCB_eq {r : List W → AH → VKw → Prop} : wCB r tA ω A Q = tA ω A fun ws A1 => r ws A1 Q := id rfl
@[simp] theorem wCall_eq {sp : SpW} {dws : List W} : wCall sp dws tA ω A Q = tA ω A fun ws A1 => sp (ws ++ dws) A1 Q E0w := id rfl
@[simp] theorem wFor_eq {ti : TIw} : wFor ti g t D ω A = ti ω A fun ws gd A1 => wLoop g t { D with bk := D.nx, ct := D.nx } gd ws ω A1 := id rfl
@[simp] theorem rwI0_eq {gg : Int → Int → W} {a b : Int} : rwI0 gg (.int a) (.int b) A Q = Q (gg a b) A := by
  unfold rwI0
  simp
@[simp] theorem rwI_eq {C : Int → Int → Prop} {gg : Int → Int → W} {a b : Int} : rwI C gg (.int a) (.int b) A Q = (C a b ∧ Q (gg a b) A) := by
  unfold rwI
  simp
@[simp] theorem wAdd_ii {a b : Int} : wAdd (.int a) (.int b) A Q = Q (.int (a + b)) A := id rfl
@[simp] theorem wAdd_ss {a b : Str} : wAdd (.str a) (.str b) A Q = (a.length + b.length ≤ sizeLine ∧ Q (.str (a ++ b)) A) := id rfl
@[simp] theorem wAdd_tt {a b : List W} : wAdd (.tup a) (.tup b) A Q = (a.length + b.length ≤ sizeLine ∧ Q (.tup (a ++ b)) A) := id rfl
@[simp] theorem wSub_eq {a b : Int} : wSub (.int a) (.int b) A Q = Q (.int (a - b)) A := rwI0_eq
@[simp] theorem wIAdd_eq {a b : Int} : wIAdd (.int a) (.int b) A Q = Q (.int (a + b)) A := rwI0_eq
@[simp] theorem wISub_eq {a b : Int} : wISub (.int a) (.int b) A Q = Q (.int (a - b)) A := rwI0_eq
@[simp] theorem wMulI_eq {a b : Int} : wMulI (.int a) (.int b) A Q = (CMul a b ∧ Q (.int (a * b)) A) := rwI_eq
@[simp] theorem wDiv_eq {a b : Int} : wDiv (.int a) (.int b) A Q = (CDivN a b ∧ Q (.int (a.fdiv b)) A) := rwI_eq
@[simp] theorem wMod_eq {a b : Int} : wMod (.int a) (.int b) A Q = (b ≠ 0 ∧ Q (.int (a.fmod b)) A) := rwI_eq
@[simp] theorem wPow_eq {a b : Int} : wPow (.int a) (.int b) A Q = (CPow a b ∧ Q (.int (a ^ b.toNat)) A) := rwI_eq
@[simp] theorem wLtI_eq {a b : Int} : wLtI (.int a) (.int b) A Q = Q (.bl (decide (a < b))) A := rwI0_eq
@[simp] theorem wLeI_eq {a b : Int} : wLeI (.int a) (.int b) A Q = Q (.bl (decide (a ≤ b))) A := rwI0_eq
@[simp] theorem wGtI_eq {a b : Int} : wGtI (.int a) (.int b) A Q = Q (.bl (decide (b < a))) A := rwI0_eq
@[simp] theorem wGeI_eq {a b : Int} : wGeI (.int a) (.int b) A Q = Q (.bl (decide (b ≤ a))) A := rwI0_eq
@[simp] theorem wEqS_ii {b : Bool} {x y : Int} : wEqS b (.int x) (.int y) A Q = Q (.bl (if b then decide (x = y) else !decide (x = y))) A := id rfl
@[simp] theorem wEqS_ss {b : Bool} {x y : Str} : wEqS b (.str x) (.str y) A Q = Q (.bl (if b then decide (x = y) else !decide (x = y))) A := id rfl
@[simp] theorem wEqS_bb {b : Bool} {x y : Bool} : wEqS b (.bl x) (.bl y) A Q = Q (.bl (if b then decide (x = y) else !decide (x = y))) A := id rfl
@[simp] theorem wIsN_eq {a : W} : wIsN a .non A Q = Q (.bl (isNon a)) A := by unfold wIsN; simp
@[simp] theorem wNotN_eq {a : W} : wNotN a .non A Q = Q (.bl (!isNon a)) A := by unfold wNotN; simp
@[simp] theorem wLen_eq : wLen [w] A Q = lenW w A fun n => Q (.int n) A := by unfold wLen; simp
@[simp] theorem lenW_str {z : Str} {k : Nat → Prop} : lenW (.str z) A k = (z.length ≤ sizeLine ∧ k z.length) := id rfl
@[simp] theorem lenW_tup {z : List W} {k : Nat → Prop} : lenW (.tup z) A k = k z.length := id rfl
@[simp] theorem lenW_ktup {z : List W} {k : Nat → Prop} : lenW (.ktup z) A k = k z.length := id rfl
@[simp] theorem wIntOf_i {x : Int} : wIntOf [.int x] A Q = Q (.int x) A := by unfold wIntOf; simp
@[simp] theorem wLoop_nil {gd : AH → Prop} : wLoop g t D gd [] ω A = (gd A ∧ D.nx ω A) := id rfl
@[simp] theorem wLoop_cons {gd : AH → Prop} {ws : List W} : wLoop g t D gd (w :: ws) ω A = (gd A ∧ g w ω A fun ω2 A2 => t { D with nx := wLoop g t D gd ws, ct := wLoop g t D gd ws } ω2 A2) := id rfl
@[simp] theorem put_h {a b : Addr} {o : WO} : (A.put a o).h b = if b = a then some o else A.h b := id rfl
@[simp] theorem put_put {a : Addr} {o o' : WO} : (A.put a o).put a o' = A.put a o' := AH.put_put
theorem isL_of {p : Addr} {ws : List W} (h : A.h p = some (.lst ws)) : isL A p ws := .inl h
theorem isL_iff {p : Addr} {ws us : List W} (h : A.h p = some (.lst ws)) : isL A p us ↔ us = ws := by
  unfold isL
  rw [h]
  constructor
  · rintro (e | e)
    · cases e; rfl
    · cases e
  · rintro rfl
    exact .inl rfl
theorem isL_iff_r {p : Addr} {ws us : List W} (h : A.h p = some (.rol ws)) : isL A p us ↔ us = ws := by
  unfold isL
  rw [h]
  constructor
  · rintro (e | e)
    · cases e
    · cases e; rfl
  · rintro rfl
    exact .inr rfl
theorem lenW_ref {p : Addr} {ws : List W} {k : Nat → Prop} (h : A.h p = some (.lst ws)) : lenW (.ref p) A k ↔ k ws.length := by
  show (∃ us, isL A p us ∧ k us.length) ↔ _
  simp [isL_iff h]
theorem lenW_ref_r {p : Addr} {ws : List W} {k : Nat → Prop} (h : A.h p = some (.rol ws)) : lenW (.ref p) A k ↔ k ws.length := by
  show (∃ us, isL A p us ∧ k us.length) ↔ _
  simp [isL_iff_r h]
theorem wIx_ref {p : Addr} {ws : List W} {n : Int} (h : A.h p = some (.lst ws)) : wIx (.ref p) (.int n) A Q ↔ ∃ w, atI ws n = some w ∧ Q w A := by
  show (∃ us w, isL A p us ∧ atI us n = some w ∧ Q w A) ↔ _
  simp [isL_iff h]
@[simp] theorem wIx_tup {ws : List W} {n : Int} : wIx (.tup ws) (.int n) A Q = ∃ w, atI ws n = some w ∧ Q w A := id rfl
@[simp] theorem wIx_ktup {ws : List W} {n : Int} : wIx (.ktup ws) (.int n) A Q = ∃ w, atI ws n = some w ∧ Q w A := id rfl
@[simp] theorem wIx_str {z : Str} {n : Int} : wIx (.str z) (.int n) A Q = ∃ c, z.length ≤ sizeLine ∧ atI z.cps.toList n = some c ∧ Q (.str ⟨#[c]⟩) A := id rfl
theorem wAdd_rr {p q : Addr} {xs ys : List W} (h : A.h p = some (.lst xs)) (h' : A.h q = some (.lst ys)) : wAdd (.ref p) (.ref q) A Q ↔ xs.length + ys.length ≤ sizeLine ∧ ∀ r, A.h r = none → Q (.ref r) (A.put r (.lst (xs ++ ys))) := by
  show (∃ xs ys, A.h p = some (.lst xs) ∧ A.h q = some (.lst ys) ∧ xs.length + ys.length ≤ sizeLine ∧ ∀ r, A.h r = none → Q (.ref r) (A.put r (.lst (xs ++ ys)))) ↔ _
  constructor
  · rintro ⟨a, b, e1, e2, z⟩
    rw [h] at e1; rw [h'] at e2
    cases e1; cases e2
    exact z
  · intro z
    exact ⟨xs, ys, h, h', z⟩
theorem dget_iff {p : Addr} {kvs : List (Key × W)} {x : Str} {o : Option W} (h : A.h p = some (.dK kvs)) : dGetW A p (.str x) o ↔ o = lookK kvs (.inr x) := by
  unfold dGetW
  rw [h]
  constructor
  · rintro (⟨kvs', k, e, e2, e3⟩ | ⟨kvs', k, e, _⟩)
    · cases e
      cases k with
      | inl i => cases e2
      | inr z => cases e2; exact e3
    · cases e
  · intro e
    exact .inl ⟨kvs, .inr x, rfl, rfl, e⟩
theorem dput_iff {p : Addr} {kvs : List (Key × W)} {x : Str} {w : W} {Q : AH → Prop} (h : A.h p = some (.dK kvs)) : dPutW A p (.str x) w Q ↔ kvs.length < sizeLine ∧ Q (A.put p (.dK (storeK kvs (.inr x) w))) := by
  unfold dPutW
  rw [h]
  constructor
  · rintro (⟨kvs', k, e, e2, e3⟩ | ⟨kvs', k, e, _⟩)
    · cases e
      cases k with
      | inl i => cases e2
      | inr z => cases e2; exact e3
    · cases e
  · intro e
    exact .inl ⟨kvs, .inr x, rfl, rfl, e⟩
@[simp] theorem wDGet_eq {td ty : TEw} : wDGet td ty ω A Q = td ω A fun x A1 => ty ω A1 fun y A2 => ∃ a w, x = .ref a ∧ dGetW A2 a y (some w) ∧ Q w A2 := id rfl
@[simp] theorem wDPut_eq {td ty tv : TEw} : wDPut td ty tv D ω A = tv ω A fun w A1 => td ω A1 fun x A2 => ty ω A2 fun y A3 => ∃ a, x = .ref a ∧ dPutW A3 a y w fun A4 => D.nx ω A4 := id rfl
@[simp] theorem startW_eq {N : List Str} {ws : List W} : startW N ws = ws.map some ++ List.replicate (N.length - ws.length) none := id rfl
end
end Wx

set_option Elab.async false
set_option linter.all false
set_option maxRecDepth 100000
set_option maxHeartbeats 4000000
/-! WX10: exceptions as values, raised, caught; isinstance; repr; enumerate; global names. -/
namespace Wx
open PySem L2

/-! ### abstract heap facts -/
section
variable {K : PySem.W.Frag} {H H' : Hp} {A : AH}
theorem tupLe_all (k : ∀ b u, H b = some u → H' b = some u) : TupLe K H H' := fun b vs => ⟨fun e => k b _ e, fun o e => k b _ e⟩
theorem RepA.all (ra : RepA K H A) (k : ∀ b u, H b = some u → H' b = some u) : RepA K H' A := ra.keep (tupLe_all k) (fun b hb => by
  have : ∃ u, H b = some u := by
    rcases hb with ⟨o, e⟩ | ⟨_, u, e⟩
    · exact ra.there e
    · exact ⟨u, e⟩
  obtain ⟨u, e⟩ := this
  rw [e, k b u e]) (ra.2.2.2.ext k)
theorem prs_zip {fields : List Str} : ∀ {vs : List V} {ws : List W}, reps K H vs ws → prs K H (fields.zip vs) (fields.zip ws) := by
  induction fields with
  | nil => intro vs ws _; simp only [List.zip_nil_left]; exact .nil
  | cons f fields ih =>
    intro vs ws r
    cases ws with
    | nil => rw [reps_unnil r]; simp only [List.zip_nil_right]; exact .nil
    | cons w ws =>
      obtain ⟨v, vr, rfl, r1, r2⟩ := reps_uncons r
      simp only [List.zip_cons_cons]
      exact .cons ⟨rfl, r1⟩ (ih r2)
theorem prs_append {κ : Type} {l l' : List (κ × V)} {m m' : List (κ × W)} (h : prs K H l m) (h' : prs K H l' m') : prs K H (l ++ l') (m ++ m') := by
  unfold prs at h
  induction h with
  | nil => exact h'
  | cons a t ih => exact .cons a ih
theorem prs_rev {κ : Type} {l : List (κ × V)} {m : List (κ × W)} (h : prs K H l m) : prs K H l.reverse m.reverse := by
  unfold prs at h
  induction h with
  | nil => exact .nil
  | cons a t ih =>
    rw [List.reverse_cons, List.reverse_cons]
    exact prs_append ih (.cons a .nil)
theorem prs_lookup {l : List (Str × V)} {m : List (Str × W)} (h : prs K H l m) {f : Str} {w : W} (e : m.lookup f = some w) : ∃ v, l.lookup f = some v ∧ rep K H v w := by
  unfold prs at h
  induction h with
  | nil => cases e
  | @cons a b as bs x t ih =>
    obtain ⟨f1, v1⟩ := a
    obtain ⟨g1, w1⟩ := b
    obtain ⟨e1, e2⟩ := x
    simp only at e1 e2
    subst e1
    rw [List.lookup_cons] at e ⊢
    cases q : f == f1 with
    | true => rw [q] at e; cases e; exact ⟨v1, rfl, e2⟩
    | false => rw [q] at e; exact ih e
end

/-! ### an own exception class -/
structure ExC (K : PySem.W.Frag) (C : Addr) : Prop where
  ox : OexC K C
  xf : XfC K C
  cl : (PySem.W.clsIn K C).isSome = true
  ac : PySem.W.findIn K (.ref C) "__class__" = some (some (.builtin "object.__class__"))
  mo : PySem.W.mroIn K C (.type "object") = some true
structure ExK (K : PySem.W.Frag) : Prop where
  hn : PySem.W.specialIn K (.builtin "object.__class__") "__get__" = some (some (.builtin "getset_descriptor.__get__"))
  ht : PySem.W.takesIn K (.builtin "object.__class__") = some true

/-! e.f of an exception as a value -/
def tXo (K : PySem.W.Frag) (n : Str) (te : TE) : TE := fun σ H Q => te σ H fun x H1 => ∃ (a C dd : Addr) (vf : List (Str × V)) (v : V), x = .ref a ∧ XfC K C ∧ PySem.W.findIn K (.ref C) n = some none ∧ H1 a = some (exo a C (some dd)) ∧ H1 dd = some (exd dd vf) ∧ vf.lookup n = some v ∧ Q v H1
section
variable {X : Cx} {e : Expr} {te : TE} {tw : TEw} {pos : Pos} {n : Str}
theorem pe_xo (he : PE X e te) (hb : attributeBase e n X.env (eval e X.env) = eval e X.env := by rfl) : PE X (.Attribute e n pos) (tXo X.K n te) := by
  refine ⟨fun pins s σ H Q I h => attr_of hb (thn (he.run pins s σ H _ I h) fun u s1 hh => ?_)⟩
  obtain ⟨x, H1, I1, rx, a, C, dd, vf, v, ex, T, hno, ea, ed, l, q⟩ := hh
  subst ex
  obtain rfl : u = Value.ref a := rx
  obtain ⟨t1, ho⟩ := exo_at I1.hok ea
  obtain ⟨mA, hns, hr⟩ := exd_at I1.hok ed
  obtain ⟨od, hod, hl⟩ := lookIn_ns hns
  obtain ⟨u, hu, ru⟩ := RelO.some_of (v := v) (o := mA n) (by rw [← l]; exact hr n)
  have J : PySem.W.InstAt s1.heap a { cls := .ref C, dict := some dd, data := .fields #[.ref t1, .none, .none, .none, .bool false, .none] } C (some od) := ⟨ho, rfl, rfl, hod⟩
  exact HandSPX.exc_get I1.kIn J T.ga T.gg T.exC (PySem.W.findObj_own T.hdC hno rfl (by rw [hl, hu])) (handed_of ru) ⟨v, H1, I1.tok _, ru, q⟩
def wXf (K : PySem.W.Frag) (n : Str) (te : TEw) : TEw := fun ω A Q => te ω A fun x A1 => ∃ a C fs w, x = .ref a ∧ XfC K C ∧ PySem.W.findIn K (.ref C) n = some none ∧ A1.h a = some (.exn C fs) ∧ fs.lookup n = some w ∧ Q w A1
theorem we_xf (he : WE X e tw) (hb : attributeBase e n X.env (eval e X.env) = eval e X.env := by rfl) : WE X (.Attribute e n pos) (wXf X.K n tw) := WE.of (pe_xo he.pe hb) fun σ H ω A Q sm ra h =>
  lo_i sm ra h fun v H1 w A1 t1 sm1 ra1 r ⟨a, C, fs, y, e, T, hno, ea, l, q⟩ => by
    subst e
    simp only [rep] at r
    rcases ra1.1 a _ ea with ⟨_, z⟩ | ⟨d, vf, e1, e2, _, e4⟩
    · subst z; cases l
    · obtain ⟨u, lu, ru⟩ := prs_lookup e4 l
      exact ⟨a, C, d, vf, u, r, T, hno, e1, e2, lu, Up.trans t1 (Up.i ra1 ru q)⟩
end

/-! ### __init__(self, f, ..): self.f = f .. -/
def sxp (C : Addr) (fields : List Str) : Sp := fun vs H Q _ => ∃ (a : Addr) (ys : List V), vs = .ref a :: ys ∧ ys.length = fields.length ∧ H a = some (exo a C none) ∧ ∀ d, H d = none → d ≠ a → Q .non (upd (upd H d (exd d (fields.zip ys).reverse)) a (exo a C (some d)))
theorem upd_swap {H : Hp} {a d : Addr} {x y z : HO} (n : d ≠ a) : upd (upd (upd H d x) a y) d z = upd (upd H d z) a y := by
  funext b
  unfold upd
  by_cases h1 : b = a
  · subst h1; simp [Ne.symm n]
  · by_cases h2 : b = d
    · subst h2; simp [n]
    · simp [h1, h2]
theorem upd_swap2 {H : Hp} {a d : Addr} {x y z : HO} (n : d ≠ a) : upd (upd (upd H a x) d y) a z = upd (upd H d y) a z := by
  funext b
  unfold upd
  by_cases h1 : b = a
  · subst h1; simp
  · simp [h1]
section
variable {P : Program} {w : World} {K : PySem.W.Frag} {mg : Str → Option Value} {base : Heap} {qual : Str} {st : Stmt} {f C : Addr} {fd : FuncData} {p1 p2 p3 f1 f2 f3 : Str}
theorem okX1 (F : Fun K "__init__" qual st f fd) (S : FnScope ["self", p1] ["self", p1] (defScope st)) (T : OexC K C) (n1 : PySem.W.findIn K (.ref C) f1 = some none)
    (hb : ∀ (cdv : Value) (A : Around) (outer : List Env) (s : Shared) (H : Hp) (E : XK), PSs (cxB P w K mg base ["self", p1] qual st f cdv A outer s H E) (defBody st) (tOst K f1 (tVar 0) (tVar 1))) :
    FnOk P w K mg base (L2.CX P w) 1 f fd ["self", p1] (sxp C [f1]) := by
  refine F.okX S (fun vs H Q E ⟨a, ys, e, l, _⟩ => by rw [e, List.length_cons, l]; rfl) fun cdv A outer s H vs Q E hr ⟨a, ys, e, l, ha, k⟩ => ⟨_, hb cdv A outer s H E, ?_⟩
  match ys, l with
  | [y1], _ =>
    subst e
    exact ⟨y1, rfl, .ref a, rfl, a, C, rfl, T, n1, .inl ⟨ha, fun d hd hne => k d hd hne⟩⟩
theorem okX2 (F : Fun K "__init__" qual st f fd) (S : FnScope ["self", p1, p2] ["self", p1, p2] (defScope st)) (T : OexC K C) (n1 : PySem.W.findIn K (.ref C) f1 = some none) (n2 : PySem.W.findIn K (.ref C) f2 = some none)
    (hb : ∀ (cdv : Value) (A : Around) (outer : List Env) (s : Shared) (H : Hp) (E : XK), PSs (cxB P w K mg base ["self", p1, p2] qual st f cdv A outer s H E) (defBody st) (tSeq (tOst K f1 (tVar 0) (tVar 1)) (tOst K f2 (tVar 0) (tVar 2)))) :
    FnOk P w K mg base (L2.CX P w) 1 f fd ["self", p1, p2] (sxp C [f1, f2]) := by
  refine F.okX S (fun vs H Q E ⟨a, ys, e, l, _⟩ => by rw [e, List.length_cons, l]; rfl) fun cdv A outer s H vs Q E hr ⟨a, ys, e, l, ha, k⟩ => ⟨_, hb cdv A outer s H E, ?_⟩
  match ys, l with
  | [y1, y2], _ =>
    subst e
    refine ⟨y1, rfl, .ref a, rfl, a, C, rfl, T, n1, .inl ⟨ha, fun d hd hne => ?_⟩⟩
    refine ⟨y2, rfl, .ref a, rfl, a, C, rfl, T, n2, .inr ⟨d, _, upd_same, (upd_ne hne).trans upd_same, by simp only [List.length_cons, List.length_nil]; omega, ?_⟩⟩
    rw [upd_swap hne]
    exact k d hd hne
theorem okX3 (F : Fun K "__init__" qual st f fd) (S : FnScope ["self", p1, p2, p3] ["self", p1, p2, p3] (defScope st)) (T : OexC K C) (n1 : PySem.W.findIn K (.ref C) f1 = some none) (n2 : PySem.W.findIn K (.ref C) f2 = some none) (n3 : PySem.W.findIn K (.ref C) f3 = some none)
    (hb : ∀ (cdv : Value) (A : Around) (outer : List Env) (s : Shared) (H : Hp) (E : XK), PSs (cxB P w K mg base ["self", p1, p2, p3] qual st f cdv A outer s H E) (defBody st) (tSeq (tOst K f1 (tVar 0) (tVar 1)) (tSeq (tOst K f2 (tVar 0) (tVar 2)) (tOst K f3 (tVar 0) (tVar 3))))) :
    FnOk P w K mg base (L2.CX P w) 1 f fd ["self", p1, p2, p3] (sxp C [f1, f2, f3]) := by
  refine F.okX S (fun vs H Q E ⟨a, ys, e, l, _⟩ => by rw [e, List.length_cons, l]; rfl) fun cdv A outer s H vs Q E hr ⟨a, ys, e, l, ha, k⟩ => ⟨_, hb cdv A outer s H E, ?_⟩
  match ys, l with
  | [y1, y2, y3], _ =>
    subst e
    refine ⟨y1, rfl, .ref a, rfl, a, C, rfl, T, n1, .inl ⟨ha, fun d hd hne => ?_⟩⟩
    refine ⟨y2, rfl, .ref a, rfl, a, C, rfl, T, n2, .inr ⟨d, _, upd_same, (upd_ne hne).trans upd_same, by simp only [List.length_cons, List.length_nil]; omega, ?_⟩⟩
    rw [upd_swap hne]
    refine ⟨y3, rfl, .ref a, rfl, a, C, rfl, T, n3, .inr ⟨d, _, upd_same, (upd_ne hne).trans upd_same, by simp only [List.length_cons, List.length_nil]; omega, ?_⟩⟩
    rw [upd_swap hne]
    exact k d hd hne
end
/-- an exception class with such an __init__, as it is called -/
structure XMk (P : Program) (w : World) (K : PySem.W.Frag) (mg : Str → Option Value) (base : Heap) (x : Str) (C : Addr) (fields : List Str) : Prop where
  ox : OexC K C
  mgC : mg x = some (.ref C)
  ex : ∃ f fd ps, PySem.W.findIn K (.ref C) "__init__" = some (some (.ref f)) ∧ PySem.W.typeIn K (.ref f) = some (.type "function") ∧ FnOk P w K mg base (L2.CX P w) 1 f fd ps (sxp C fields) ∧ Binds K fd ps []
/-- .. without an __init__ -/
structure XMk0 (K : PySem.W.Frag) (mg : Str → Option Value) (x : Str) (C : Addr) : Prop where
  ex : ∃ bmB, ExcBaseFacts "ValueError" "ValueError.__new__" "ValueError.__init__" bmB ∧ PySem.W.excIn K C bmB "ValueError.__new__" = true
  mgC : mg x = some (.ref C)
  kC : PySem.W.keepIn K (.ref C) = true
  exC : PySem.W.subIn K (.ref C) (.type "BaseException") = some true
  tyC : PySem.W.typeIn K (.ref C) = some (.type "type")
def tMkx (C : Addr) (fields : List Str) (ta : TA) : TE := fun σ H Q => ta σ H fun vs H1 => vs.length = fields.length ∧ vs.length ≤ 1000 ∧ ∀ a d, H1 a = none → H1 d = none → d ≠ a → Q (.ref a) (upd (upd H1 d (exd d (fields.zip vs).reverse)) a (exo a C (some d)))
def wMkx (C : Addr) (fields : List Str) (ta : TAw) : TEw := fun ω A Q => ta ω A fun ws A1 => ws.length = fields.length ∧ ws.length ≤ 1000 ∧ ∀ a, A1.h a = none → Q (.ref a) (A1.put a (.exn C (fields.zip ws).reverse))
def wMkx0 (C : Addr) : TEw := fun ω A Q => ∀ a, A.h a = none → Q (.ref a) (A.put a (.exn C []))
def wRaise (C : Addr) (fields : List Str) (ta : TAw) (E : XSw) : TSw := fun D ω A => ta ω A fun ws A1 => ws.length = fields.length ∧ ws.length ≤ 1000 ∧ E ω C (fields.zip ws).reverse A1
def wRaise0 (C : Addr) (E : XSw) : TSw := fun D ω A => E ω C [] A
section
variable {X : Cx} {x : Str} {C : Addr} {fields : List Str} {e : Expr} {es : List Expr} {ta : TA} {tw : TAw} {p pos pos2 : Pos} {k : Nat} {E : XSw}
theorem pe_mkx (M : XMk X.prog X.w X.K X.mg X.base x C fields) (hr : Room 2 X.A) (hg : Gl X x) (ha : PA X (e :: es) ta)
    (hdb : (x == ("__debug__" : Str)) = false := by decide) (he : starEach (e :: es) X.env = (false, eval e X.env) :: starEach es X.env := by rfl) (hpl : (backTo pos (starEach es X.env)).any (·.1) = false := by rfl) : PE X (.Call (.Name x p) (e :: es) [] pos) (tMkx C fields ta) := by
  refine ⟨fun pins s σ H Q I h => ?_⟩
  obtain ⟨fI, fd, ps, iC, tI, F1, hb⟩ := M.ex
  have T := M.ox
  obtain ⟨nm, q, N, bs, bm, sn, sub, ab, col, dd, k0, k1, k2, k3, k5, hC, hbm⟩ := T.cls
  refine wpAny_Call_Name_kw (ld_glob I hg M.mgC ?_ hdb)
  refine PySem.W.callWith_K (h₀ := X.base) I.ok.mod.kin T.kC (thn (ha.run pos pins s σ H _ I h) fun us s1 ⟨vs, H1, I1, r1, hz, hz2, q1⟩ => ⟨I1.kIn, ?_⟩) he hpl
  show wpAny _ _ (call (.ref C) us) _ _ _
  obtain ⟨hp, g, dr, tk, os⟩ := s1
  have hn : H1 (hp.objs.size + 1) = none := I1.hok.fresh (Nat.le_succ _)
  have hget : ((hp.push (PySem.W.kdv_tup us)).push (PySem.HandSPX.excO C hp.objs.size)).get? (hp.objs.size + 1) = some (PySem.HandSPX.excO C hp.objs.size) := by heap_get
  have I2 : Inv X pins σ (upd H1 (hp.objs.size + 1) (exo (hp.objs.size + 1) C none)) ⟨(hp.push (PySem.W.kdv_tup us)).push (PySem.HandSPX.excO C hp.objs.size), g, dr, tk, os⟩ :=
    I1.laid (t' := tk) (a := hp.objs.size + 1) (o := exo (hp.objs.size + 1) C none) (h' := (hp.push (PySem.W.kdv_tup us)).push (PySem.HandSPX.excO C hp.objs.size)) (fun b o e => Heap.get?_push_of_some _ (Heap.get?_push_of_some _ e)) (Nat.le_succ _) (exo_ok hget)
  have r2 : Vals (V.ref (hp.objs.size + 1) :: vs) (Value.ref (hp.objs.size + 1) :: us) := .cons rfl r1
  have hq : sxp C fields (V.ref (hp.objs.size + 1) :: vs) (upd H1 (hp.objs.size + 1) (exo (hp.objs.size + 1) C none)) (fun v H2 => v = .non ∧ ∃ d, H1 d = none ∧ d ≠ hp.objs.size + 1 ∧ H2 = upd (upd H1 d (exd d (fields.zip vs).reverse)) (hp.objs.size + 1) (exo (hp.objs.size + 1) C (some d))) (fun _ _ _ => False) :=
    ⟨_, vs, rfl, hz, upd_same, fun d hd hne => ⟨rfl, d, by rw [upd_ne hne] at hd; exact hd, hne, upd_swap2 hne⟩⟩
  have hl : (Value.ref (hp.objs.size + 1) :: us).length = ps.length := by rw [← r2.length]; exact F1.len _ _ _ _ hq
  have hus : us.length ≤ sizeLine := by
    rw [← Paired.length r1, sizeLine_eq]
    omega
  have bd := hb _ (Value.ref (hp.objs.size + 1) :: us) I2.kIn (by rw [List.append_nil]; exact hl)
  rw [List.append_nil] at bd
  refine wpAny_call (PySem.HandSPX.call_own F.excBase_ValueError (fun Y => PySem.HandSPX.refsVE_contains Y bm hbm) (I1.kIn _ _ hC) (PySem.W.looks_findIn I1.kIn iC) (fun self => PySem.W.bind_fn I1.kIn self tI) hus
    (codeAny_mono (F1.run _ X.stack _ _ ⟨Value.ref (hp.objs.size + 1) :: us, []⟩ (Value.ref (hp.objs.size + 1) :: us) _ _ (fun _ _ _ => False) (hr.make C us []) (I2.env0.make C us []) bd r2 hq) fun r s' hq' => ?_))
  rcases r with er | fl
  · exact pass0L (X := X) _ _ _ _ er s' I2 hq'
  · cases fl with
    | ret u =>
      obtain ⟨v, H2, I3, rv, ev, d, hd, hne, eH⟩ := I2.after hq'
      subst ev eH
      exact ⟨rv, V.ref (hp.objs.size + 1), _, I3, rfl, q1 _ d hn hd hne⟩
    | next => exact False.elim hq'
    | brk => exact False.elim hq'
    | cont => exact False.elim hq'
/-- the new exception, above -/
theorem mkx_up {K : PySem.W.Frag} {H : Hp} {A : AH} {Q : VKw} {a d C : Addr} {vs : List V} {ws : List W} (ra : RepA K H A) (r : reps K H vs ws) (ha : H a = none) (hd : H d = none) (hne : d ≠ a) (q : ∀ a, A.h a = none → Q (.ref a) (A.put a (.exn C (fields.zip ws).reverse))) :
    Up K H Q (.ref a) (upd (upd H d (exd d (fields.zip vs).reverse)) a (exo a C (some d))) := by
  have t1 : TupLe K H (upd H d (exd d (fields.zip vs).reverse)) := tupLe_new hd
  have ha1 : upd H d (exd d (fields.zip vs).reverse) a = none := by rw [upd_ne (Ne.symm hne)]; exact ha
  have t2 : TupLe K (upd H d (exd d (fields.zip vs).reverse)) (upd (upd H d (exd d (fields.zip vs).reverse)) a (exo a C (some d))) := tupLe_new ha1
  refine ⟨.ref a, _, t1.trans t2, (ra.new0 hd).new (wo := .exn C (fields.zip ws).reverse) ha1 (.inr ⟨d, _, upd_same, (upd_ne hne).trans upd_same, ?_, prs_rev (prs_zip (reps_mono (t1.trans t2) _ _ r))⟩), by simp only [rep], q a (ra.fresh ha)⟩
  rw [AH.put_ne hne]
  exact ra.fresh hd
theorem we_mkx {g : Bool} (M : XMk X.prog X.w X.K X.mg X.base x C fields) (hr : RoomG g 2 X.A) (hg : Gl X x) (ha : WA X (e :: es) tw)
    (hdb : (x == ("__debug__" : Str)) = false := by decide) (he : starEach (e :: es) X.env = (false, eval e X.env) :: starEach es X.env := by rfl) (hpl : (backTo pos (starEach es X.env)).any (·.1) = false := by rfl) : WE X (.Call (.Name x p) (e :: es) [] pos) (wMkx C fields tw) :=
  WE.of (pe_mkx M hr.r hg ha.pa hdb he hpl) fun σ H ω A Q sm ra h => loA_i sm ra h fun vs H1 ws A1 t1 sm1 ra1 r ⟨l, l2, q⟩ =>
    ⟨(reps_length r).trans l, by rw [reps_length r]; exact l2, fun a d ha hd hne => Up.trans t1 (mkx_up ra1 r ha hd hne q)⟩
theorem pe_mkx0 (M : XMk0 X.K X.mg x C) (hg : Gl X x) (hdb : (x == ("__debug__" : Str)) = false := by decide) : PE X (.Call (.Name x p) [] [] pos) (fun σ H Q => ∀ a, H a = none → Q (.ref a) (upd H a (exo a C none))) := by
  refine ⟨fun pins s σ H Q I h => ?_⟩
  obtain ⟨bmB, F, qx⟩ := M.ex
  refine wpAny_Call_Name_kw (ld_glob I hg M.mgC (PySem.W.callWith_K0 I.kIn M.kC ?_) hdb)
  show wpAny _ _ (call (.ref C) []) _ _ _
  obtain ⟨bm, N, nm, qn, bs, hdct, sn, sub, ab, col, dd, k0, k1, k2, k3, k5, mN, hC, hN, hni, T⟩ := exc_obj I.kIn qx
  refine wpAny_call_exc_subT F T hC hN hni (fun h' a hm => ?_) (by show 0 ≤ sizeLine; omega)
  have hn : H a = none := I.hok.gone hm.new
  obtain ⟨t, ht, _, _⟩ := hm.there
  exact ⟨.ref a, upd H a (exo a C none), I.laidN hm.keeps hm.new hn (exo_ok ht), rfl, h a hn⟩
theorem we_mkx0 (M : XMk0 X.K X.mg x C) (hg : Gl X x) (hdb : (x == ("__debug__" : Str)) = false := by decide) : WE X (.Call (.Name x p) [] [] pos) (wMkx0 C) :=
  WE.of (pe_mkx0 M hg hdb) fun σ H ω A Q sm ra h a ha => ⟨.ref a, _, tupLe_new ha, ra.new (wo := .exn C []) ha (.inl ⟨upd_same, rfl⟩), by simp only [rep], h a (ra.fresh ha)⟩
/-! raise -/
theorem ws_raise {g : Bool} (tk : TakesW X E) (hc : X.calm = true) (M : XMk X.prog X.w X.K X.mg X.base x C fields) (hr : RoomG g 2 X.A) (hg : Gl X x) (ha : WA X (e :: es) tw)
    (hdb : (x == ("__debug__" : Str)) = false := by decide) (he : starEach (e :: es) X.env = (false, eval e X.env) :: starEach es X.env := by rfl) (hpl : (backTo pos (starEach es X.env)).any (·.1) = false := by rfl) : WS X (.Raise (some (.Call (.Name x p) (e :: es) [] pos)) none pos2) (wRaise C fields tw E) := by
  obtain ⟨fI, fd, ps, iC, tI, F1, hb⟩ := M.ex
  refine WS.of (ps_raise hc tk (pmk_oex M.ox iC tI F1 hr.r hb .nil pass0L hg M.mgC ha.pa hdb he hpl)) fun D σ H ω A sm ra h => ?_
  show tMkO C (sxp C fields) [] (loA X.K tw) σ H _
  refine loA_i sm ra h fun vs H1 ws A1 t1 sm1 ra1 r ⟨l, l2, q⟩ => ⟨by rw [reps_length r]; exact l2, fun a ha => ⟨a, vs, by rw [List.append_nil], (reps_length r).trans l, upd_same, fun d hd hne => ⟨rfl, d, _, upd_same, (upd_ne hne).trans upd_same, ?_⟩⟩⟩
  have hd1 : H1 d = none := by rw [upd_ne hne] at hd; exact hd
  have kp : ∀ b u, H1 b = some u → upd (L2.del (upd (upd (upd H1 a (exo a C none)) d (exd d (fields.zip vs).reverse)) a (exo a C (some d))) a) d (.xd (fields.zip vs).reverse) b = some u := fun b u e => by
    have nd : b ≠ d := ne_of_none e hd1
    have na : b ≠ a := ne_of_none e ha
    rw [upd_ne nd, del_ne na, upd_ne na, upd_ne nd, upd_ne na]
    exact e
  exact ⟨hd1, C, (fields.zip ws).reverse, ω, A1, rfl, .inr ⟨d, _, rfl, upd_same, ra1.fresh hd1, prs_rev (prs_zip (reps_mono (tupLe_all kp) _ _ r))⟩, sm1.mono (tupLe_all kp), ra1.all kp, q⟩
theorem pmk_mkx0 (M : XMk0 X.K X.mg x C) (hg : Gl X x) (hdb : (x == ("__debug__" : Str)) = false := by decide) : PMk X (.Call (.Name x p) [] [] pos) (fun σ H Q => Q (.ref C) none H) := by
  intro pins s σ H Q I h
  obtain ⟨bmB, F, qx⟩ := M.ex
  refine wpAny_Call_Name_kw (ld_glob I hg M.mgC (PySem.W.callWith_K0 I.kIn M.kC ?_) hdb)
  show wpAny _ _ (call (.ref C) []) _ _ _
  obtain ⟨bm, N, nm, qn, bs, hdct, sn, sub, ab, col, dd, k0, k1, k2, k3, k5, mN, hC, hN, hni, T⟩ := exc_obj I.kIn qx
  refine wpAny_call_exc_subT F T hC hN hni (fun h' a hm => ?_) (by show 0 ≤ sizeLine; omega)
  exact mk_of I hm (raises_own M.exC M.tyC) h (I.hok.gone hm.new)
theorem ws_raise0 (tk : TakesW X E) (hc : X.calm = true) (M : XMk0 X.K X.mg x C) (hg : Gl X x) (hdb : (x == ("__debug__" : Str)) = false := by decide) : WS X (.Raise (some (.Call (.Name x p) [] [] pos)) none pos2) (wRaise0 C E) :=
  WS.of (ps_raise hc tk (pmk_mkx0 M hg hdb)) fun D σ H ω A sm ra h => ⟨C, [], ω, A, rfl, .inl ⟨rfl, rfl⟩, sm, ra, h⟩
end
end Wx

set_option Elab.async false
set_option linter.all false
set_option maxRecDepth 100000
set_option maxHeartbeats 4000000
/-! WX11: try, isinstance, repr, enumerate, names, signs. -/
namespace Wx
open PySem L2

def AH.at (A : AH) (tp : Hp) : AH := { A with tp := tp }
@[simp] theorem AH.at_h (A : AH) (tp : Hp) : (A.at tp).h = A.h := rfl
@[simp] theorem AH.at_pen (A : AH) (tp : Hp) : (A.at tp).pen = A.pen := rfl
@[simp] theorem AH.at_tp (A : AH) (tp : Hp) : (A.at tp).tp = tp := rfl
theorem AH.Sub.at {A : AH} {tp : Hp} (t : TupLe0 A.tp tp) : A.Sub (A.at tp) := ⟨fun _ _ h => h, .inr rfl, t, rfl⟩
/-- try: .. except c as n: .. ; ex: does the clause take an exception of the class at C -/
def wTry (ex : Addr → Option Bool) (i : Nat) (tb : XSw → TSw) (ts : Addr → Addr → Option Addr → TSw) (E : XSw) : TSw := fun D ω A => ∀ tp, TupLe0 A.tp tp →
  tb (fun ω' C fs A' => TupLe0 tp A'.tp ∧ ∃ b, ex C = some b ∧
    (b = true → (fs = [] → ∀ a, A'.h a = none → ts a C none { nx := fun ω2 A2 => D.nx (ω2.set i none) A2, rt := D.rt, bk := fun ω2 A2 => D.bk (ω2.set i none) A2, ct := fun ω2 A2 => D.ct (ω2.set i none) A2 } (ω'.set i (some (.ref a))) A') ∧
      ∀ a dd, A'.h a = none → A'.h dd = none → ts a C (some dd) { nx := fun ω2 A2 => D.nx (ω2.set i none) A2, rt := D.rt, bk := fun ω2 A2 => D.bk (ω2.set i none) A2, ct := fun ω2 A2 => D.ct (ω2.set i none) A2 } (ω'.set i (some (.ref a))) (A'.put dd (.xd fs))) ∧
    (b = false → E ω' C fs A')) D ω (A.at tp)
/-- the exception's dict becomes known -/
theorem RepA.xd {K : PySem.W.Frag} {H : Hp} {A : AH} {dd : Addr} {vf : List (Str × V)} {fs : List (Str × W)} (ra : RepA K H A) (e : H dd = some (.xd vf)) (n : A.h dd = none) (r : prs K H vf fs) : RepA K H (A.put dd (.xd fs)) := by
  refine ⟨fun b u q => ?_, fun p m q => ?_, ra.2.2⟩
  · by_cases hb : b = dd
    · subst hb
      rw [AH.put_same] at q
      cases q
      exact ⟨vf, e, r⟩
    · rw [AH.put_ne hb] at q
      refine (ra.1 b u q).keep (TupLe.refl (K := K) H) (fun _ _ => rfl) fun c z ⟨vx, hx⟩ => ?_
      rw [AH.put_ne ?_]
      · exact z
      · intro y
        subst y
        rw [e] at hx
        unfold exd at hx
        cases hx
  · obtain ⟨cl, ns, at_, dg, fo, e1, e2, e3, e4, rest⟩ := ra.2.1 p m q
    refine ⟨cl, ns, at_, dg, fo, e1, e2, ?_, ?_, rest⟩
    · rw [AH.put_ne]
      · exact e3
      · intro y; subst y; rw [e] at e1; cases e1
    · rw [AH.put_ne]
      · exact e4
      · intro y; subst y; rw [e] at e2; cases e2
section
variable {X : Cx} {x n : Str} {c : Value} {i : Nat} {body suite : List Stmt} {b₀ : Stmt} {np pos pos' : Pos} {tb : XSw → TSw} {ts : Addr → Addr → Option Addr → TSw} {E : XSw}
theorem ws_try (hs : X.stack = X.env :: X.outer) (hf : X.env.frame = some X.env.locals) (hN : X.N.Nodup) (hi : X.N[i]? = some n) (hln : X.env.kindOf n = some .local) (hc : Names X x c) (tk : TakesW X E)
    (hb : ∀ (E' : XSw) (pn : List (Addr × Obj)) (xe : Value → Shared → Prop), TakesW (X.tr pn xe) E' → PassesOwn (model X.prog X.w) X.A X.env xe → WSs (X.tr pn xe) body (tb E'))
    (hsu : ∀ (a C : Addr) (d : Option Addr) (oe : Obj) (pn : List (Addr × Obj)), Zc (.ref C) d oe → (∃ vs, oe.data = .fields vs) → WSs (X.suite a ((a, oe) :: pn)) (b₀ :: suite) (ts a C d)) :
    WS X (.Try body [.ExceptHandler (some (.Name x np)) (some n) (b₀ :: suite) pos'] [] [] pos) (wTry (fun C => PySem.W.exmOne X.K (.ref C) c) i tb ts E) := by
  refine WS.of (ps_try_as hs hf hN hi hln hc tk (tb := fun W D σ H => ∃ E', (∀ cls d σ' H', UpE0 X.K E' cls d σ' H' → W cls d σ' H') ∧ loS X.K (tb E') D σ H) (ts := fun a cls d D σ H => ∃ C, cls = .ref C ∧ loS X.K (ts a C d) D σ H)
    (fun W pn xe tkW po => ⟨fun pins s σ H D I ⟨E', hW, h⟩ => (hb E' pn xe (tkW.imp hW) po).ps.run pins s σ H D I h⟩)
    fun a oe cls d pn hz hd => ⟨fun pins s σ H D I ⟨C, e, h⟩ => by subst e; exact (hsu a C d oe pn hz hd).ps.run pins s σ H D I h⟩) fun D σ H ω A sm ra h => ?_
  have ra0 : RepA X.K H (A.at H) := ⟨ra.1, ra.2.1, TupLe.refl (K := X.K) H, ra.2.2.2⟩
  refine ⟨_, ?_, loS_u (TupLe.refl H) sm ra0 (h H ra.2.2.1)⟩
  rintro cls d σ' H' ⟨C, fs, ω', A', rfl, ea, sm', ra', tle, b, hb1, h1, h2⟩
  have t : TupLe X.K H H' := TupLe.trans (K := X.K) tle ra'.2.2.1
  refine ⟨b, hb1, fun e a ha => ⟨C, rfl, ?_⟩, fun e => ⟨C, fs, ω', A', rfl, ea, sm', ra', h2 e⟩⟩
  obtain ⟨g1, g2⟩ := h1 e
  have sm2 : SimS X.K H' (σ'.set i (some (.ref a))) (ω'.set i (some (.ref a))) := sm'.set (by simp only [rep])
  rcases ea with ⟨rfl, e2⟩ | ⟨dd, vf, rfl, e2, e3, e4⟩
  · exact loS_i sm2 ra' (g1 e2 a (ra'.fresh ha)) (fun σ2 H2 ω2 A2 t2 sm2 ra2 q => ⟨_, A2, t.trans t2, sm2.unset, ra2, q⟩) (fun σ2 H2 ω2 A2 t2 sm2 ra2 q => ⟨_, A2, t.trans t2, sm2.unset, ra2, q⟩) (fun σ2 H2 ω2 A2 t2 sm2 ra2 q => ⟨_, A2, t.trans t2, sm2.unset, ra2, q⟩) fun v H2 w A2 t2 ra2 r q => ⟨w, A2, t.trans t2, ra2, r, q⟩
  · exact loS_i sm2 (ra'.xd e2 e3 e4) (g2 a dd (ra'.fresh ha) e3) (fun σ2 H2 ω2 A2 t2 sm2 ra2 q => ⟨_, A2, t.trans t2, sm2.unset, ra2, q⟩) (fun σ2 H2 ω2 A2 t2 sm2 ra2 q => ⟨_, A2, t.trans t2, sm2.unset, ra2, q⟩) (fun σ2 H2 ω2 A2 t2 sm2 ra2 q => ⟨_, A2, t.trans t2, sm2.unset, ra2, q⟩) fun v H2 w A2 t2 ra2 r q => ⟨w, A2, t.trans t2, ra2, r, q⟩
end
/-! ### the caught exception -/
/-- err.f -/
def wSf (K : PySem.W.Frag) (a C : Addr) (d : Option Addr) (n : Str) (te : TEw) : TEw := fun ω A Q => XfC K C ∧ PySem.W.findIn K (.ref C) n = some none ∧ te ω A fun x A1 => x = .ref a ∧ ∃ dd fs w, d = some dd ∧ A1.h dd = some (.xd fs) ∧ fs.lookup n = some w ∧ Q w A1
section
variable {X : Cx} {a C : Addr} {oe : Obj} {d : Option Addr} {pn : List (Addr × Obj)} {e : Expr} {te : TEw} {pos : Pos} {n : Str}
theorem we_sf (hz : Zc (.ref C) d oe) (hf : ∃ vs, oe.data = .fields vs) (he : WE (X.suite a ((a, oe) :: pn)) e te) (hb : attributeBase e n X.env (eval e X.env) = eval e X.env := by rfl) : WE (X.suite a ((a, oe) :: pn)) (.Attribute e n pos) (wSf X.K a C d n te) :=
  ⟨fun pins s σ H ω A Q I sm ra ⟨T, hno, h⟩ => thn ((pe_xf T hno hz hf he.pe hb).run pins s σ H (Up X.K H Q) I (lo_i sm ra h fun v H1 w A1 t1 sm1 ra1 r ⟨e1, dd, fs, y, ed, ea, l, q⟩ => by
    subst e1
    simp only [rep] at r
    obtain ⟨vf, ev, rv⟩ := ra1.1 dd _ ea
    obtain ⟨u, lu, ru⟩ := prs_lookup rv l
    exact ⟨r, rfl, dd, vf, u, ed, ev, lu, Up.trans t1 (Up.i ra1 ru q)⟩)) fun u s' ⟨v, H', I', r, w, A', t1, t2, t3, q⟩ => ⟨v, H', w, A', I', r, t1, t2, t3, q⟩⟩
end
/-! ### isinstance -/
def clsW (c : W) (u : Value) : Prop := (∃ n, c = .ty n ∧ u = .type n) ∨ ∃ C, c = .ref C ∧ u = .ref C
def isTuW : W → Prop
  | .tup _ => True
  | .ktup _ => True
  | _ => False
def tyO (K : PySem.W.Frag) (A : AH) (x : W) (t : Value) : Prop := match x with
  | .non => t = .type "NoneType"
  | .bl _ => t = .type "bool"
  | .int _ => t = .type "int"
  | .str _ => t = .type "str"
  | .tup _ => t = .type "tuple"
  | .ktup _ => t = .type "tuple"
  | .ref a => (t = .type "list" ∧ ∃ ws, isL A a ws) ∨ (t = .type "dict" ∧ isDW A a) ∨ ∃ C fs, A.h a = some (.exn C fs) ∧ ExC K C ∧ ExK K ∧ t = .ref C
  | .ty _ => False
def wIsi (K : PySem.W.Frag) : List W → AH → VKw → Prop := fun ws A Q => ∃ x c t u b, ws = [x, c] ∧ clsW c u ∧ tyO K A x t ∧ PySem.W.kitOne K t u = some b ∧ Q (.bl b) A
theorem clsW.v {K : PySem.W.Frag} {H : Hp} {c : W} {u : Value} {v : V} (h : clsW c u) (r : rep K H v c) : ClsV v u := by
  rcases h with ⟨n, rfl, rfl⟩ | ⟨C, rfl, rfl⟩ <;> (simp only [rep] at r; subst r; constructor)
theorem sqL_ty {K : PySem.W.Frag} {H : Hp} {a : Addr} {vs : List V} (h : SqL K H a vs) : TyX K H (.ref a) (.type "list") := by
  rcases h with (h | ⟨o, h⟩) | ⟨o, its, n, lk, c, _⟩
  · exact .base (.lst h)
  · exact .base (.frz h)
  · exact .kList lk c
theorem sqT_ty {K : PySem.W.Frag} {H : Hp} {a : Addr} {vs : List V} (h : SqT K H a vs) : TyX K H (.ref a) (.type "tuple") := by
  rcases h with (h | ⟨o, h⟩) | ⟨o, its, n, lk, c, _⟩
  · exact .base (.tup h)
  · exact .fTuple h
  · exact .kTuple lk c
theorem tyO.x {K : PySem.W.Frag} {H : Hp} {A : AH} {x : W} {t : Value} {v : V} (ra : RepA K H A) (r : rep K H v x) (h : tyO K A x t) : TyX K H v t ∨ ∃ a C fs, v = .ref a ∧ A.h a = some (.exn C fs) ∧ ExC K C ∧ ExK K ∧ t = .ref C := by
  cases x with
  | non => simp only [rep, tyO] at r h; subst r h; exact .inl (.base .non)
  | bl b => simp only [rep, tyO] at r h; subst r h; exact .inl (.base (.bl b))
  | int b => simp only [rep, tyO] at r h; subst r h; exact .inl (.base (.int b))
  | str b => simp only [rep, tyO] at r h; subst r h; exact .inl (.base (.str b))
  | ty b => simp only [tyO] at h
  | tup ws => simp only [rep, tyO] at r h; obtain ⟨a, vs, rfl, s, _⟩ := r; subst h; exact .inl (.base (.tup s))
  | ktup ws => simp only [rep, tyO] at r h; obtain ⟨a, vs, rfl, s, _⟩ := r; subst h; exact .inl (sqT_ty s)
  | ref a =>
    simp only [rep, tyO] at r h
    subst r
    rcases h with ⟨rfl, ws, hl⟩ | ⟨rfl, hd⟩ | ⟨C, fs, e, h1, h2, rfl⟩
    · obtain ⟨vs, s, _⟩ := hl.sq ra
      exact .inl (sqL_ty s)
    · rcases hd with ⟨kvs, e⟩ | ⟨kvs, e⟩
      · obtain ⟨kv, ek, _⟩ := ra.1 a _ e
        exact .inl (.base (.dK ek))
      · obtain ⟨kv, ek, _⟩ := ra.1 a _ e
        exact .inl (.base (.dT ek))
    · exact .inr ⟨a, C, fs, rfl, e, h1, h2, rfl⟩
theorem kit_exn {K : PySem.W.Frag} {C x : Addr} {ox : Obj} {od : Option Obj} (h1 : ExC K C) (h2 : ExK K) : PySem.W.KitX K (.ref x) (.ref C) (fun h => PySem.W.InstAt h x ox C od) :=
  PySem.W.kitx_exc h1.cl h1.xf.ga h1.xf.gg h1.xf.exC h1.ac h2.hn h2.ht h1.mo
section
variable {X : Cx}
theorem cw_isi : CallW X (.builtin "isinstance") (wIsi X.K) := by
  intro pins s σ H A vs us ws Q I ra rv rw' q
  obtain ⟨x, c, t, u, b, rfl, hc, ty, hk, q⟩ := q
  obtain ⟨v1, r1, rfl, h1, r2⟩ := reps_uncons rw'
  obtain ⟨v2, r3, rfl, h2, r4⟩ := reps_uncons r2
  obtain rfl := reps_unnil r4
  rcases ty.x ra h1 with ty' | ⟨a, C, fs, rfl, ea, e1, e2, rfl⟩
  · exact thn (call_isi pins s σ H _ us _ I rv ⟨v1, v2, t, u, b, rfl, hc.v h2, ty', hk, Up.i (Q := Q) ra (by simp only [rep]) q⟩) fun _ _ ⟨v, H', I', r, w, A', t1, t2, t3, q⟩ => ⟨v, H', w, A', I', r, t1, t2, t3, q⟩
  · obtain ⟨u1, u2, rfl, ru1, ru2⟩ := vals2 rv
    have e3 := (hc.v h2).eq ru2
    subst e3
    obtain rfl : u1 = Value.ref a := ru1
    have J : ∃ ox od, PySem.W.InstAt s.heap a ox C od := by
      rcases ra.1 a _ ea with ⟨h, _⟩ | ⟨d, vf, h, hd, _, _⟩
      · obtain ⟨t1, ho⟩ := exo_at I.hok h
        exact ⟨_, none, ho, rfl, rfl, trivial⟩
      · obtain ⟨t1, ho⟩ := exo_at I.hok h
        obtain ⟨mA, hns, hr⟩ := exd_at I.hok hd
        obtain ⟨od, hod, hl⟩ := lookIn_ns hns
        exact ⟨_, some od, ho, rfl, rfl, hod⟩
    obtain ⟨ox, od, J⟩ := J
    exact PySem.W.kia_one (kit_exn e1 e2) I.kIn J hk (fun z => nomatch z) fun tk => ⟨.bl b, H, .bl b, A, I.tok tk, rfl, TupLe.refl (K := X.K) H, ra, by simp only [rep], q⟩
/-- .. of the caught exception -/
def wIsS (K : PySem.W.Frag) (a C : Addr) (d : Option Addr) : List W → AH → VKw → Prop := fun ws A Q => ∃ c u b, ws = [.ref a, c] ∧ clsW c u ∧ ExC K C ∧ ExK K ∧ (d = none ∨ ∃ dd fs, d = some dd ∧ A.h dd = some (.xd fs)) ∧ PySem.W.kitOne K (.ref C) u = some b ∧ Q (.bl b) A
theorem cw_isS {a C : Addr} {oe : Obj} {d : Option Addr} {pn : List (Addr × Obj)} (hz : Zc (.ref C) d oe) (hf : ∃ vs, oe.data = .fields vs) : CallW (X.suite a ((a, oe) :: pn)) (.builtin "isinstance") (wIsS X.K a C d) := by
  intro pins s σ H A vs us ws Q I ra rv rw' q
  obtain ⟨c, u, b, rfl, hc, e1, e2, hd, hk, q⟩ := q
  obtain ⟨v1, r1, rfl, h1, r2⟩ := reps_uncons rw'
  obtain ⟨v2, r3, rfl, h2, r4⟩ := reps_uncons r2
  obtain rfl := reps_unnil r4
  simp only [rep] at h1
  subst h1
  obtain ⟨u1, u2, rfl, ru1, ru2⟩ := vals2 rv
  have e3 := (hc.v h2).eq ru2
  subst e3
  obtain rfl : u1 = Value.ref a := ru1
  obtain ⟨hget, _⟩ := I.pin (a, oe) (List.mem_append.mpr (.inl List.mem_cons_self))
  obtain ⟨vs, hv⟩ := hf
  obtain ⟨oc, odd, oda, osl⟩ := oe
  obtain ⟨z1, z2⟩ := hz
  dsimp only at z1 z2 hv
  subst z1 z2 hv
  have J : ∃ od, PySem.W.InstAt s.heap a ⟨.ref C, odd, .fields vs, osl⟩ C od := by
    rcases hd with rfl | ⟨dd, fs, rfl, ea⟩
    · exact ⟨none, hget, rfl, rfl, trivial⟩
    · obtain ⟨vf, ev, _⟩ := ra.1 dd _ ea
      have hx : ObjOk X.prog X.w H s.heap dd (.xd vf) := I.hok dd _ ev
      obtain ⟨mA, hns, hr⟩ := hx
      obtain ⟨od, hod, hl⟩ := lookIn_ns hns
      exact ⟨some od, hget, rfl, rfl, hod⟩
  obtain ⟨od, J⟩ := J
  exact PySem.W.kia_one (kit_exn e1 e2) I.kIn J hk (fun z => nomatch z) fun tk => ⟨.bl b, H, .bl b, A, I.tok tk, rfl, TupLe.refl (K := X.K) H, ra, by simp only [rep], q⟩
/-! ### repr of data -/
def wRepr : List W → AH → VKw → Prop := fun ws A Q => ∃ w d, ws = [w] ∧ DL A d w ∧ d.showable = true ∧ d.hasDict = false ∧ d.depth ≤ 60 ∧ d.shown.length ≤ sizeLine ∧ Q (.str d.shown) A
theorem cw_repr (hu : X.A.units + 64 < cLine) (hg : X.A.guards = some []) : CallW X (.builtin "repr") wRepr := by
  intro pins s σ H A vs us ws Q I ra rv rw' q
  obtain ⟨w, d, rfl, hd, hs, hnd, hdp, hz, q⟩ := q
  obtain ⟨v, r1, rfl, h1, r2⟩ := reps_uncons rw'
  obtain rfl := reps_unnil r2
  obtain ⟨u, rfl, ru⟩ := vals1 rv
  have dp := DL.dp ra d w v h1 hd
  obtain ⟨as, rd⟩ := Dp.reads I d v u dp ru
  have fin : ∀ h' tk, (∀ b o, s.heap.get? b = some o → h'.get? b = some o) → ∀ t, EPw X pins σ H Q (.str d.shown t) { s with heap := h', toks := tk } := fun h' tk k t => ⟨.str d.shown, H, .str d.shown, A, I.kept k, ⟨t, rfl⟩, TupLe.refl (K := X.K) H, ra, by simp only [rep], q⟩
  have fin0 : ∀ t tk, EPw X pins σ H Q (.str d.shown t) { s with toks := tk } := fun t tk => fin s.heap tk (fun _ _ e => e) t
  cases rd with
  | none =>
    simp only [PyData.shown] at fin0
    exact PySem.P.repr_of_none (fin0 _ _)
  | bool b =>
    simp only [PyData.shown] at fin0
    exact PySem.P.repr_of_bool (fin0 _ _)
  | int i t =>
    simp only [PyData.shown] at fin0
    exact PySem.P.repr_of_int (by simpa [PyData.showable] using hs) (fin0 _ _)
  | str x t =>
    simp only [PyData.shown] at fin0 hz
    exact PySem.P.repr_of_str (fin0 _ _) hz
  | list a1 a2 a3 a4 => exact repr_of_reads' (h₀ := s.heap) (.list a1 a2 a3 a4) hs (PyData.noDict_hsm hnd) hg (by omega) (fun _ _ e => e) (fun h' t tk k => fin h' tk k t) hz
  | tuple a1 a2 a3 a4 => exact repr_of_reads' (h₀ := s.heap) (.tuple a1 a2 a3 a4) hs (PyData.noDict_hsm hnd) hg (by omega) (fun _ _ e => e) (fun h' t tk k => fin h' tk k t) hz
  | dict a1 a2 a3 a4 a5 => simp only [DL] at hd
end
/-! ### enumerate of a list -/
def enumW (ws : List W) : List W := ws.mapIdx fun i w => .tup [.int (i : Nat), w]
def wEnum (ta : TAw) : TIw := fun ω A R => ta ω A fun ws A1 => ∃ a xs, ws = [.ref a] ∧ isL A1 a xs ∧ R (enumW xs) (fun A' => isL A' a xs) A1
theorem enumW_get {ws : List W} {i : Nat} {w : W} (h : (enumW ws)[i]? = some w) : ∃ x, ws[i]? = some x ∧ w = .tup [.int (i : Nat), x] := by
  unfold enumW at h
  rw [List.getElem?_mapIdx] at h
  cases e : ws[i]? with
  | none => rw [e] at h; cases h
  | some x => rw [e] at h; cases h; exact ⟨x, rfl, rfl⟩
theorem draws_enum {K : PySem.W.Frag} {H : Hp} {a : Addr} {ws : List W} : Draws K H (Ite K a) (enumW ws) (fun A => isL A a ws) where
  stop := fun i H' A t ra g hl => by
    obtain ⟨us, hs, r'⟩ := g.sq ra
    refine ⟨us, hs, ?_⟩
    rw [reps_length r']
    unfold enumW at hl
    simpa using hl
  go := fun i H' A w t ra g e => by
    obtain ⟨us, hs, r'⟩ := g.sq ra
    obtain ⟨x, ex, _⟩ := enumW_get e
    obtain ⟨v, ev, _⟩ := reps_get r' ex
    exact ⟨us, v, hs, ev⟩
  yld := fun i H' A w x H2 t ra g e y => by
    obtain ⟨us, hs, r'⟩ := g.sq ra
    obtain ⟨z, ez, rfl⟩ := enumW_get e
    obtain ⟨v, ev, rv⟩ := reps_get r' ez
    obtain ⟨T, u, rfl, hT, rfl, y⟩ := y
    have := y us hs
    rw [ev] at this
    cases this
    have tn : TupLe K H' (upd H' T (.tup [.int (i : Nat), v])) := tupLe_new hT
    exact ⟨tn, ra.new0 hT, rep_tup upd_same (reps_cons (by simp only [rep]) (reps_cons (rep_mono tn _ _ rv) reps_nil))⟩
section
variable {X : Cx} {e : Expr} {ta : TAw} {p pos tpos : Pos} {elts : List Expr} {kk : Nat} {x : Str}
theorem wi_enum (hg : Gl X "enumerate") (hm : X.mg "enumerate" = none) (ha : WA X [e] ta) (hs : starEach [e] X.env = [(false, eval e X.env)] := by rfl) : WI X (.Tuple elts kk tpos) (.Call (.Name "enumerate" p) [e] [] pos) (wEnum ta) :=
  ⟨PI.imp (pi_enum hg hm ha.pa hs) fun σ H R ⟨ω, A, R', sm, ra, h, k⟩ => loA_i sm ra h fun vs H1 ws A1 t1 sm1 ra1 r ⟨a, xs, e, hl, q⟩ => by
    subst e
    obtain ⟨v1, r1, rfl, h1, r⟩ := reps_uncons r
    obtain rfl := reps_unnil r
    simp only [rep] at h1
    obtain ⟨us, hs, _⟩ := hl.sq ra1
    exact ⟨a, us, by rw [h1], hs, k _ _ _ _ _ t1 sm1 ra1 draws_enum q⟩⟩
/-! ### names -/
theorem we_gref {C : Addr} (hg : Gl X x) (hm : X.mg x = some (.ref C)) (hd : (x == ("__debug__" : Str)) = false := by decide) : WE X (.Name x pos) (wC (.ref C)) := we_c (pe_glob hg hm (v := .ref C) rfl hd) fun _ => by simp only [rep]
theorem we_ty {n : String} (hg : Gl X x) (hm : X.mg x = none) (hv : bootBuiltins x = some (.type n)) (hn : x ≠ "__name__" := by decide) (hd : (x == ("__debug__" : Str)) = false := by decide) : WE X (.Name x pos) (wC (.ty n)) := we_c (pe_bltn hg hm hv (v := .ty n) rfl hn hd) fun _ => by simp only [rep]
/-! ### -n -/
def wNeg (te : TEw) : TEw := fun ω A Q => te ω A fun w A1 => ∃ i, w = .int i ∧ Q (.int (-i)) A1
theorem we_neg {te : TEw} (he : WE X e te) : WE X (.UnaryOp .USub e pos) (wNeg te) := WE.of (pe_un un_neg he.pe) fun σ H ω A Q sm ra h => lo_i sm ra h fun v H1 w A1 t1 sm1 ra1 r ⟨i, e, q⟩ => by
  subst e
  simp only [rep] at r
  exact ⟨i, r, Up.trans t1 (Up.i ra1 (by simp only [rep]) q)⟩
end
end Wx

set_option Elab.async false
set_option linter.all false
set_option maxRecDepth 100000
set_option maxHeartbeats 4000000
/-! WX12: more readings by simp. -/
namespace Wx
open PySem L2
section
variable {t u : TSw} {te ta tb td ty tv tx to : TEw} {tt tu : TTw} {ti : TIw} {D : Dw} {ω : Sw} {A : AH} {Q : VKw} {QB : Bool → AH → Prop} {QA : List W → AH → Prop} {QS : Sw → AH → Prop} {R : List W → (AH → Prop) → AH → Prop} {i j n : Nat} {w x y : W} {ws us : List W} {g : TGw} {gs : TGsw} {r : R2w} {tA : TAw} {K : PySem.W.Frag} {E : XSw} {C a p : Addr} {d : Option Addr} {f T : Str} {fields : List Str}
@[simp] theorem wBrk_eq : wBrk D ω A = D.bk ω A := id rfl
@[simp] theorem wCont_eq : wCont D ω A = D.ct ω A := id rfl
@[simp] theorem wRetN_eq : wRetN D ω A = D.rt .non A := id rfl
@[simp] theorem wPar_eq : wPar i j tA D ω A = tA ω A fun ws A1 => ∃ v w, ws = [v, w] ∧ D.nx ((ω.set i (some v)).set j (some w)) A1 := id rfl
@[simp] theorem wAug_eq : wAug i te r D ω A = ∃ x, ω[i]? = some (some x) ∧ te ω A fun y A1 => r x y A1 fun z A2 => D.nx (ω.set i (some z)) A2 := id rfl
@[simp] theorem wgNil_eq : wgNil ws ω A QS = (ws = [] ∧ QS ω A) := id rfl
@[simp] theorem wgCons_eq : wgCons g gs ws ω A QS = ∃ w r, ws = w :: r ∧ g w ω A fun ω' A' => gs r ω' A' QS := id rfl
@[simp] theorem wgTup_eq : wgTup n gs w ω A QS = ∃ ws, w = .tup ws ∧ ws.length = n ∧ gs ws ω A QS := id rfl
@[simp] theorem wIt_eq : wIt te ω A R = te ω A fun w A1 => iterW w A1 R := id rfl
@[simp] theorem iterW_tup : iterW (.tup ws) A R = R ws (fun _ => True) A := id rfl
@[simp] theorem iterW_ktup : iterW (.ktup ws) A R = R ws (fun _ => True) A := id rfl
@[simp] theorem iterW_str {z : Str} : iterW (.str z) A R = R (signs z) (fun _ => True) A := id rfl
theorem iterW_ref (h : A.h p = some (.lst ws)) : iterW (.ref p) A R ↔ R ws (fun A' => isL A' p ws) A := by
  show (∃ us, isL A p us ∧ R us (fun A' => isL A' p us) A) ↔ _
  simp [isL_iff h]
theorem iterW_ref_r (h : A.h p = some (.rol ws)) : iterW (.ref p) A R ↔ R ws (fun A' => isL A' p ws) A := by
  show (∃ us, isL A p us ∧ R us (fun A' => isL A' p us) A) ↔ _
  simp [isL_iff_r h]
@[simp] theorem wRng1_eq : wRng1 tA ω A R = tA ω A fun ws A1 => ∃ j : Int, ws = [.int j] ∧ -(2 ^ 62) ≤ j ∧ j < 2 ^ 62 ∧ R (wints 0 j.toNat) (fun _ => True) A1 := id rfl
@[simp] theorem wRng2_eq : wRng2 tA ω A R = tA ω A fun ws A1 => ∃ i j : Int, ws = [.int i, .int j] ∧ (-(2 ^ 62) ≤ i ∧ i < 2 ^ 62 ∧ -(2 ^ 62) ≤ j ∧ j < 2 ^ 62) ∧ R (wints i (j - i).toNat) (fun _ => True) A1 := id rfl
@[simp] theorem wEnum_eq : wEnum tA ω A R = tA ω A fun ws A1 => ∃ a xs, ws = [.ref a] ∧ isL A1 a xs ∧ R (enumW xs) (fun A' => isL A' a xs) A1 := id rfl
@[simp] theorem wLc_eq {vs : List Nat} : wLc ti g tt te vs ω A Q = ti ω A fun ws gd A1 => ∀ D, A1.h D = none → lcLoop g tt te (wipeW ω vs) gd D Q ws (A1.put D (.lst [])) := id rfl
@[simp] theorem lcLoop_nil {gd : AH → Prop} : lcLoop g tt te ω gd p Q [] A = (gd A ∧ Q (.ref p) A) := id rfl
@[simp] theorem lcLoop_cons {gd : AH → Prop} : lcLoop g tt te ω gd p Q (w :: ws) A = (gd A ∧ g w ω A fun ω2 A2 => tt ω2 A2 fun b A3 =>
      if b = true then te ω2 A3 fun y A4 => ∃ acc, A4.h p = some (.lst acc) ∧ acc.length < sizeLine ∧ lcLoop g tt te ω gd p Q ws (A4.put p (.lst (acc ++ [y]))) else lcLoop g tt te ω gd p Q ws A3) := rfl
@[simp] theorem wYes_eq : wYes ω A QB = QB true A := id rfl
@[simp] theorem wipeW_nil : wipeW ω [] = ω := id rfl
@[simp] theorem wipeW_cons {v : Nat} {vs : List Nat} : wipeW ω (v :: vs) = (wipeW ω vs).set v none := id rfl
@[simp] theorem wFg_eq : wFg te ω A Q = te ω A fun w A' => ∃ A'', A''.Sub A' ∧ Q w A'' := id rfl
@[simp] theorem wCallX_eq {sp : SpW} {dws : List W} : wCallX sp dws tA E ω A Q = tA ω A fun ws A1 => sp (ws ++ dws) A1 Q (E ω) := id rfl
@[simp] theorem wBM_eq {T : String} {m : W → List W → AH → VKw → Prop} : wBM T m to tA ω A Q = to ω A fun w A1 => tyW T w A1 ∧ tA ω A1 fun ws A2 => m w ws A2 Q := id rfl
@[simp] theorem wBM0_eq {T : String} {m : W → List W → AH → VKw → Prop} : wBM0 T m to ω A Q = to ω A fun w A1 => tyW T w A1 ∧ m w [] A1 Q := id rfl
@[simp] theorem tyW_str {T : String} {z : Str} : tyW T (.str z) A ↔ T = "str" := Iff.rfl
theorem tyW_list (h : A.h p = some (.lst ws)) : tyW "list" (.ref p) A ↔ True := ⟨fun _ => trivial, fun _ => .inl ⟨rfl, ws, .inl h⟩⟩
@[simp] theorem wAppend_eq : wAppend (.ref p) [y] A Q = ∃ xs, A.h p = some (.lst xs) ∧ xs.length < sizeLine ∧ Q .non (A.put p (.lst (xs ++ [y]))) := by unfold wAppend; simp
@[simp] theorem wPop_eq : wPop (.ref p) [] A Q = ∃ xs y, A.h p = some (.lst xs) ∧ xs[xs.length - 1]? = some y ∧ Q y (A.put p (.lst xs.dropLast)) := by unfold wPop; simp
@[simp] theorem wPopAt_eq {i : Int} : wPopAt (.ref p) [.int i] A Q = ∃ xs k y, A.h p = some (.lst xs) ∧ -(2 ^ 63) ≤ i ∧ i < 2 ^ 63 ∧ seqIndex? i xs.length = some k ∧ xs[k]? = some y ∧ Q y (A.put p (.lst (xs.eraseIdx k))) := by unfold wPopAt; simp
@[simp] theorem wListOf_eq : wListOf [w] A Q = ∃ us, seqW w A us ∧ ∀ p, A.h p = none → Q (.ref p) (A.put p (.lst us)) := by unfold wListOf; simp
@[simp] theorem wTupleOf_ref : wTupleOf [.ref p] A Q = ∃ us, isL A p us ∧ Q (.tup us) A := by unfold wTupleOf; simp [seqW]
@[simp] theorem wTupleOf_tup : wTupleOf [.tup ws] A Q = Q (.tup ws) A := by unfold wTupleOf; simp [seqW]
@[simp] theorem seqW_tup : seqW (.tup ws) A us = (ws = us) := id rfl
@[simp] theorem seqW_ktup : seqW (.ktup ws) A us = (ws = us) := id rfl
@[simp] theorem seqW_ref : seqW (.ref p) A us = isL A p us := id rfl
@[simp] theorem wNoPart_eq {Q : Option Int → AH → Prop} : wNoPart ω A Q = Q none A := id rfl
@[simp] theorem wPart_eq {Q : Option Int → AH → Prop} : wPart te ω A Q = te ω A fun w A1 => ∃ i, w = .int i ∧ Q (some i) A1 := id rfl
@[simp] theorem wSl_eq {tl th : TOw} : wSl te tl th ω A Q = te ω A fun w A1 => tl ω A1 fun l A2 => th ω A2 fun u A3 => rwSl w l u A3 Q := id rfl
@[simp] theorem rwSl_tup {l h : Option Int} : rwSl (.tup ws) l h A Q = Q (.tup (cut ws l h)) A := id rfl
@[simp] theorem rwSl_str {l h : Option Int} {z : Str} : rwSl (.str z) l h A Q = (z.length ≤ sizeLine ∧ Q (.str (cutS z l h)) A) := id rfl
theorem rwSl_ref {l h : Option Int} (e : A.h p = some (.lst ws)) : rwSl (.ref p) l h A Q ↔ ∀ r, A.h r = none → Q (.ref r) (A.put r (.lst (cut ws l h))) := by
  show (∃ xs, isL A p xs ∧ ∀ r, A.h r = none → Q (.ref r) (A.put r (.lst (cut xs l h)))) ↔ _
  simp [isL_iff e]
@[simp] theorem wPairs_nil {Q : List (W × W) → AH → Prop} : wPairs [] ω A Q = Q [] A := id rfl
@[simp] theorem wPairs_cons {Q : List (W × W) → AH → Prop} {tr : List (TEw × TEw)} : wPairs ((ta, tb) :: tr) ω A Q = ta ω A fun x A1 => tb ω A1 fun y A2 => wPairs tr ω A2 fun ps A3 => Q ((x, y) :: ps) A3 := id rfl
@[simp] theorem wDisp_eq {trs : List (TEw × TEw)} : wDisp trs ω A Q = ∀ p, A.h p = none → wPairs trs ω (A.put p (.dK [])) fun ps A2 => A2.h p = some (.dK []) ∧ ∃ kvs : List (Key × W), ps = kvs.map (fun kv => (keyW kv.1, kv.2)) ∧ kvs.length ≤ 15 ∧ Q (.ref p) (A2.put p (.dK (kvs.foldl (fun acc kv => storeK acc kv.1 kv.2) []))) := id rfl
@[simp] theorem wDNewK_eq : wDNewK ω A Q = ∀ p, A.h p = none → Q (.ref p) (A.put p (.dK [])) := id rfl
@[simp] theorem wDNewT_eq : wDNewT ω A Q = ∀ p, A.h p = none → Q (.ref p) (A.put p (.dT [])) := id rfl
@[simp] theorem wDGet1_eq : wDGet1 td ty ω A Q = td ω A fun x A1 => ∃ a, x = .ref a ∧ isDW A1 a ∧ ty ω A1 fun y A2 => ∃ o, dGetW A2 a y o ∧ Q (o.getD .non) A2 := id rfl
@[simp] theorem wDGet2_eq : wDGet2 td ty tx ω A Q = td ω A fun x A1 => ∃ a, x = .ref a ∧ isDW A1 a ∧ ty ω A1 fun y A2 => tx ω A2 fun z A3 => ∃ o, dGetW A3 a y o ∧ Q (o.getD z) A3 := id rfl
@[simp] theorem wDIn_eq {b : Bool} : wDIn b ty td ω A Q = ty ω A fun y A1 => td ω A1 fun x A2 => ∃ a o, x = .ref a ∧ dGetW A2 a y o ∧ Q (.bl (if b then o.isSome else !o.isSome)) A2 := id rfl
/-! exceptions -/
@[simp] theorem wXf_eq : wXf K f te ω A Q = te ω A fun x A1 => ∃ a C fs w, x = .ref a ∧ XfC K C ∧ PySem.W.findIn K (.ref C) f = some none ∧ A1.h a = some (.exn C fs) ∧ fs.lookup f = some w ∧ Q w A1 := id rfl
@[simp] theorem wMkx_eq : wMkx C fields tA ω A Q = tA ω A fun ws A1 => ws.length = fields.length ∧ ws.length ≤ 1000 ∧ ∀ a, A1.h a = none → Q (.ref a) (A1.put a (.exn C (fields.zip ws).reverse)) := id rfl
@[simp] theorem wMkx0_eq : wMkx0 C ω A Q = ∀ a, A.h a = none → Q (.ref a) (A.put a (.exn C [])) := id rfl
@[simp] theorem wRaise_eq : wRaise C fields tA E D ω A = tA ω A fun ws A1 => ws.length = fields.length ∧ ws.length ≤ 1000 ∧ E ω C (fields.zip ws).reverse A1 := id rfl
@[simp] theorem wRaise0_eq : wRaise0 C E D ω A = E ω C [] A := id rfl
@[simp] theorem wSf_eq : wSf K a C d f te ω A Q = (XfC K C ∧ PySem.W.findIn K (.ref C) f = some none ∧ te ω A fun x A1 => x = .ref a ∧ ∃ dd fs w, d = some dd ∧ A1.h dd = some (.xd fs) ∧ fs.lookup f = some w ∧ Q w A1) := id rfl
@[simp] theorem wNeg_eq : wNeg te ω A Q = te ω A fun w A1 => ∃ i, w = .int i ∧ Q (.int (-i)) A1 := id rfl
end
end Wx

set_option Elab.async false
set_option linter.all false
set_option maxRecDepth 100000
set_option maxHeartbeats 4000000
/-! WX13: what a class must be, by a check; growth of what is known. -/
namespace Wx
open PySem L2
theorem h_ne' {A : AH} {p q : Addr} {o : WO} (h : A.h p = some o) (h' : A.h q = none) : p ≠ q := fun z => by rw [z, h'] at h; cases h
/-- the pen moves on -/
def AH.pn (A : AH) (p : Addr) (n : Nat) : AH := { A with pen := some (p, n) }
abbrev AH.pn' := @AH.pn
def oxB (K : PySem.W.Frag) (C : Addr) : Bool := match K.lookup C with
  | some ⟨.type "type", _, .cls cd, sl⟩ => (match cd.mro, sl.toList with
    | .ref C' :: bm, [_, _, _, _, some (.builtin n), _] => C' == C && n == "ValueError.__new__" && !cd.hasDel && cd.hasDict && PySem.HandSPX.refsVE bm
    | _, _ => false)
  | _ => false
theorem oxB_cls {K : PySem.W.Frag} {C : Addr} (q : oxB K C = true) : ∃ nm q N bs bm sn sub ab col dd k0 k1 k2 k3 k5, K.lookup C = some (excClassObj nm q C N bs bm true sn sub ab col dd k0 k1 k2 k3 k5 "ValueError.__new__") ∧ PySem.HandSPX.refsVE bm = true := by
  unfold oxB at q
  split at q
  · rename_i dd cd sl ho
    split at q
    · rename_i C' bm k0 k1 k2 k3 n k5 hm hs
      simp only [Bool.and_eq_true, beq_iff_eq, Bool.not_eq_true'] at q
      obtain ⟨⟨⟨⟨rfl, rfl⟩, hdel⟩, hdict⟩, hv⟩ := q
      obtain ⟨nm, bs, mro, ns, qn, hd, sn, sub, ab, col, del⟩ := cd
      dsimp only at hm hdel hdict
      subst hm hdel hdict
      have hsl : sl = #[k0, k1, k2, k3, some (.builtin "ValueError.__new__"), k5] := by
        obtain ⟨l⟩ := sl
        simp only at hs
        rw [hs]
      subst hsl
      exact ⟨nm, qn, ns, bs, bm, sn, sub, ab, col, dd, k0, k1, k2, k3, k5, ho, hv⟩
    · cases q
  · cases q
def exB (K : PySem.W.Frag) (C : Addr) : Bool := oxB K C && (decide (PySem.W.findIn K (.ref C) "__setattr__" = some (some (.builtin "object.__setattr__"))) && (decide (PySem.W.subIn K (.ref C) (.type "BaseException") = some true) && (decide (PySem.W.typeIn K (.ref C) = some (.type "type")) && (PySem.W.keepIn K (.ref C) &&
  (xfB K C && ((PySem.W.clsIn K C).isSome && (decide (PySem.W.findIn K (.ref C) "__class__" = some (some (.builtin "object.__class__"))) && decide (PySem.W.mroIn K C (.type "object") = some true))))))))
theorem exB_ok {K : PySem.W.Frag} {C : Addr} (h : exB K C = true) : ExC K C := by
  unfold exB at h
  simp only [Bool.and_eq_true, decide_eq_true_eq] at h
  obtain ⟨h1, h2, h3, h4, h5, h6, h7, h8, h9⟩ := h
  exact ⟨⟨oxB_cls h1, h2, h3, h4, h5⟩, xfB_ok h6, h7, h8, h9⟩
def exkB (K : PySem.W.Frag) : Bool := decide (PySem.W.specialIn K (.builtin "object.__class__") "__get__" = some (some (.builtin "getset_descriptor.__get__"))) && decide (PySem.W.takesIn K (.builtin "object.__class__") = some true)
theorem exkB_ok {K : PySem.W.Frag} (h : exkB K = true) : ExK K := by
  unfold exkB at h
  simp only [Bool.and_eq_true, decide_eq_true_eq] at h
  exact ⟨h.1, h.2⟩
theorem isL_uniq {A : AH} {p : Addr} {ws us : List W} (h : isL A p ws) : isL A p us ↔ us = ws := by
  rcases h with h | h
  · exact isL_iff h
  · exact isL_iff_r h
theorem lenW_isL {A : AH} {p : Addr} {ws : List W} {k : Nat → Prop} (h : isL A p ws) : lenW (.ref p) A k ↔ k ws.length := by
  show (∃ us, isL A p us ∧ k us.length) ↔ _
  simp [isL_uniq h]
theorem wIx_isL {A : AH} {Q : VKw} {p : Addr} {ws : List W} {n : Int} (h : isL A p ws) : wIx (.ref p) (.int n) A Q ↔ ∃ w, atI ws n = some w ∧ Q w A := by
  show (∃ us w, isL A p us ∧ atI us n = some w ∧ Q w A) ↔ _
  simp [isL_uniq h]
theorem iterW_isL {A : AH} {R : List W → (AH → Prop) → AH → Prop} {p : Addr} {ws : List W} (h : isL A p ws) : iterW (.ref p) A R ↔ R ws (fun A' => isL A' p ws) A := by
  show (∃ us, isL A p us ∧ R us (fun A' => isL A' p us) A) ↔ _
  simp [isL_uniq h]
theorem rwSl_isL {A : AH} {Q : VKw} {p : Addr} {ws : List W} {l h : Option Int} (e : isL A p ws) : rwSl (.ref p) l h A Q ↔ ∀ r, A.h r = none → Q (.ref r) (A.put r (.lst (cut ws l h))) := by
  show (∃ xs, isL A p xs ∧ ∀ r, A.h r = none → Q (.ref r) (A.put r (.lst (cut xs l h)))) ↔ _
  simp [isL_uniq e]
theorem isL_get {A : AH} {p : Addr} {ws : List W} (h : A.h p = some (.lst ws)) : isL A p ws := .inl h
theorem isL_put {A : AH} {p q : Addr} {ws : List W} {o : WO} (h : isL A p ws) (n : A.h q = none) : isL (A.put q o) p ws := h.imp (fun e => by rw [AH.put_ne (h_ne' e n)]; exact e) fun e => by rw [AH.put_ne (h_ne' e n)]; exact e
@[simp] theorem isL_pn {A : AH} {p q : Addr} {n : Nat} {ws : List W} : isL (A.pn' p n) q ws = isL A q ws := rfl
theorem atI_mem {α : Type} {xs : List α} {d : Int} (h0 : 0 ≤ d) (h1 : d < xs.length) : ∃ x, atI xs d = some x ∧ x ∈ xs := by
  obtain ⟨k, rfl⟩ : ∃ k : Nat, d = k := ⟨d.toNat, by omega⟩
  have hk : k < xs.length := by omega
  exact ⟨xs[k], atI_nat (by simp [hk]), List.getElem_mem hk⟩
/-! ### growth -/
section
variable {A A' B : AH}
theorem isL.sub {p : Addr} {ws : List W} (h : isL A p ws) (s : A.Sub A') : isL A' p ws := h.imp (s.1 _ _) (s.1 _ _)
mutual
theorem DL.sub (s : A.Sub A') : ∀ (d : PyData) (w : W), DL A d w → DL A' d w
  | .none, w, h => by simpa only [DL] using h
  | .bool _, w, h => by simpa only [DL] using h
  | .int _, w, h => by simpa only [DL] using h
  | .str _, w, h => by simpa only [DL] using h
  | .dict _, w, h => by simp only [DL] at h
  | .tuple ds, w, h => by
    simp only [DL] at h ⊢
    obtain ⟨ws, e, hs⟩ := h
    exact ⟨ws, e, DLs.sub s ds ws hs⟩
  | .list ds, w, h => by
    simp only [DL] at h ⊢
    obtain ⟨p, ws, e, hl, hs⟩ := h
    exact ⟨p, ws, e, hl.sub s, DLs.sub s ds ws hs⟩
theorem DLs.sub (s : A.Sub A') : ∀ (ds : List PyData) (ws : List W), DLs A ds ws → DLs A' ds ws
  | [], ws, h => by simpa only [DLs] using h
  | d :: ds, ws, h => by
    simp only [DLs] at h ⊢
    obtain ⟨w, r, e, h1, h2⟩ := h
    exact ⟨w, r, e, DL.sub s d w h1, DLs.sub s ds r h2⟩
end
theorem DLs.nil : DLs A [] [] := by simp only [DLs]
theorem DLs.cons {d : PyData} {ds : List PyData} {w : W} {ws : List W} (h : DL A d w) (hs : DLs A ds ws) : DLs A (d :: ds) (w :: ws) := by
  simp only [DLs]
  exact ⟨w, ws, rfl, h, hs⟩
theorem DL.list {ds : List PyData} {p : Addr} {ws : List W} (h : A.h p = some (.lst ws)) (hs : DLs A ds ws) : DL A (.list ds) (.ref p) := by
  simp only [DL]
  exact ⟨p, ws, rfl, .inl h, hs⟩
theorem DL.tup {ds : List PyData} {ws : List W} (hs : DLs A ds ws) : DL A (.tuple ds) (.tup ws) := by
  simp only [DL]
  exact ⟨ws, .inl rfl, hs⟩
theorem AH.Sub.put' {p : Addr} {o : WO} (s : A.Sub B) (h : B.h p = Option.none) : A.Sub (B.put p o) := s.trans (AH.Sub.put h)
theorem AH.Sub.get (s : A.Sub B) {p : Addr} {o : WO} (h : A.h p = some o) : B.h p = some o := s.1 _ _ h
theorem AH.Sub.ne (s : A.Sub B) {p q : Addr} {o : WO} (h : A.h p = some o) (h' : B.h q = Option.none) : p ≠ q := fun z => by
  have := s.1 _ _ h
  rw [z, h'] at this
  cases this
theorem h_ne {p q : Addr} {o : WO} (h : A.h p = some o) (h' : A.h q = none) : p ≠ q := fun z => by rw [z, h'] at h; cases h
@[simp] theorem AH.pn_h {p : Addr} {n : Nat} : (A.pn p n).h = A.h := rfl
@[simp] theorem AH.pn_pen {p : Addr} {n : Nat} : (A.pn p n).pen = some (p, n) := rfl
@[simp] theorem AH.pn_pn {p q : Addr} {n m : Nat} : (A.pn p n).pn q m = A.pn q m := rfl
@[simp] theorem AH.put_pn {p a : Addr} {n : Nat} {o : WO} : (A.put a o).pn p n = (A.pn p n).put a o := rfl
theorem AH.Sub.pn {p : Addr} {n : Nat} (s : A.Sub B) : (A.pn p n).Sub (B.pn p n) := ⟨s.1, .inr rfl, s.2.2⟩
end
/-! ### loops by an invariant over what is left -/
section
variable {g : TGw} {tb : TSw} {D : Dw} {gd : AH → Prop}
theorem wLoop_ind {P : List W → Sw → AH → Prop} (h0 : ∀ ω A, P [] ω A → gd A ∧ D.nx ω A)
    (hs : ∀ w ws ω A (k : Sw → AH → Prop), (∀ ω A, P ws ω A → k ω A) → P (w :: ws) ω A → gd A ∧ g w ω A fun ω2 A2 => tb { D with nx := k, ct := k } ω2 A2) : ∀ ws ω A, P ws ω A → wLoop g tb D gd ws ω A
  | [], ω, A, h => h0 ω A h
  | w :: ws, ω, A, h => hs w ws ω A _ (fun ω A h => wLoop_ind h0 hs ws ω A h) h
theorem lcLoop_ind {tt : TTw} {te : TEw} {ωw : Sw} {p : Addr} {Q : VKw} {P : List W → AH → Prop} (h0 : ∀ A, P [] A → gd A ∧ Q (.ref p) A)
    (hs : ∀ w ws A (k : AH → Prop), (∀ A, P ws A → k A) → P (w :: ws) A → gd A ∧ g w ωw A fun ω2 A2 => tt ω2 A2 fun b A3 => if b = true then te ω2 A3 fun y A4 => ∃ acc, A4.h p = some (.lst acc) ∧ acc.length < sizeLine ∧ k (A4.put p (.lst (acc ++ [y]))) else k A3) :
    ∀ ws A, P ws A → lcLoop g tt te ωw gd p Q ws A
  | [], A, h => h0 A h
  | w :: ws, A, h => hs w ws A _ (fun A h => lcLoop_ind h0 hs ws A h) h
end
end Wx

set_option Elab.async false
set_option linter.all false
set_option maxRecDepth 100000
set_option maxHeartbeats 4000000
/-! WX14: the end: a law called with the script, where no guard is up. -/
namespace Wx
open PySem L2
/-- no list stands in the written part -/
def noLst (K : PySem.W.Frag) : Bool := K.all fun p => !(p.2.cls == Value.type "list")
theorem noLst_ok {K : PySem.W.Frag} (h : noLst K = true) {a : Addr} {o : Obj} (e : K.lookup a = some o) : o.cls ≠ .type "list" := by
  have hm : (a, o) ∈ (K : List (Addr × Obj)) := by
    unfold noLst at h
    clear h
    induction K with
    | nil => cases e
    | cons p K ih =>
      obtain ⟨b, u⟩ := p
      rw [List.lookup_cons] at e
      cases q : a == b with
      | true =>
        rw [q] at e
        cases e
        have : a = b := beq_iff_eq.mp q
        subst this
        exact List.mem_cons_self
      | false =>
        rw [q] at e
        exact List.mem_cons_of_mem _ (ih e)
  have := List.all_eq_true.mp h _ hm
  intro z
  simp [z] at this
theorem law_callG {P : Program} {w : World} {K : PySem.W.Frag} {mg mb : Str → Option Value} {k : Nat} {fa a : Addr} {fd : FuncData} {x : Str} {sp : SpW} {s₁ : Shared} {vs : List Value} {ns : List Int}
    (KX : K.In s₁.heap) (hns : s₁.heap.Ns mainGlobals mg) (hb : s₁.heap.Ns builtinsNs mb) (hbb : ∀ x : Str, x ≠ "__name__" → mb x = bootBuiltins x) (hlim : s₁.heap.NoLimit) (hg : s₁.gens = #[])
    (ha : s₁.heap.get? a = some { cls := .type "list", data := .seq vs.toArray }) (hi : PyProof.Rows.IntsAre vs ns) (hl : ns.length ≤ sizeLine) (hr : Room k callerA) (hk : K.lookup a = none)
    (F : ∀ base : Heap, K.In base → base.Ns mainGlobals mg → FnB true P w K mg base k fa fd [x] (spL K sp)) (hbind : ∀ (s : Shared) (u : Value), BindsTo s fd ⟨[u], []⟩ [(x, u)])
    (hsp : ∀ A : AH, A.h a = some (.rol (ns.map W.int)) → A.pen = none → sp [.ref a] A (fun v _ => v = .bl true) E0w) :
    codeAny (model P w) callerA (.call (.ref fa) ⟨[.ref a], []⟩) (fun r s' => r = .ok (.ret (.bool true)) ∧ OldK s₁.heap s'.heap ∧ s'.os = s₁.os ∧ PyProof.Rows.AllBare s'.gens) s₁ := by
  obtain ⟨H, eH⟩ : ∃ H : Hp, H = fun b => if b = a then some (.frz { cls := .type "list", data := .seq vs.toArray } (.lst (ns.map V.int))) else none := ⟨_, rfl⟩
  have Ha : H a = some (.frz { cls := .type "list", data := .seq vs.toArray } (.lst (ns.map V.int))) := by rw [eH]; exact if_pos rfl
  have Hn : ∀ {b : Addr}, b ≠ a → H b = none := fun {b} n => by rw [eH]; exact if_neg n
  have hok : HOk P w H s₁.heap := fun b u e => by
    by_cases z : b = a
    · subst z
      rw [Ha] at e
      cases e
      exact ⟨ha, by rw [List.length_map]; exact hl, vs, _, vals_ints hi, ha⟩
    · rw [Hn z] at e
      cases e
  have notA : ∀ {b : Addr} {o : Obj} {es : Array DictEntry} {ep : Nat}, s₁.heap.get? b = some o → o.data = .dict es ep → b ≠ a := fun {b o es ep} e d z => by
    subst z
    rw [ha] at e
    cases e
    have d' : Data.seq vs.toArray _ = Data.dict es ep := d
    cases d'
  have nsK : ∀ {b : Addr} {m : Str → Option Value}, s₁.heap.Ns b m → (hidT s₁.heap H).Ns b m := fun {b m} ⟨o, es, ep, e, d, r⟩ => ⟨o, es, ep, hidT_get e (Hn (notA e d)), d, r⟩
  have hKb : K.In (hidT s₁.heap H) := fun b o e => hidT_get (KX b o e) (Hn fun z => by rw [z, hk] at e; cases e)
  have hM : Mod K mg (hidT s₁.heap H) := ⟨hKb, nsK hns, ⟨mb, nsK hb, hbb⟩, let ⟨mc, h1, h2⟩ := hlim; ⟨mc, nsK h1, h2⟩⟩
  have e0 : Env0 P w K mg (hidT s₁.heap H) callerA [] s₁ H := ⟨rfl, hM, fun b o e => of_hidT e, Nat.le_of_eq (hidT_size _ _), trivial, fun b hb => absurd (show b ∈ ([] : List Addr) from hb) (by simp), hok, .of_eq hg⟩
  have ra : RepA K H { pen := none, h := fun b => if b = a then some (.rol (ns.map W.int)) else none } := by
    refine ⟨fun b o e => ?_, (fun p n e => nomatch e), fun b xs => ⟨(fun e => nomatch e), (fun o e => nomatch e)⟩, fun p hp => nomatch hp⟩
    have e' : (if b = a then some (WO.rol (ns.map W.int)) else none) = some o := e
    by_cases z : b = a
    · subst z
      rw [if_pos rfl] at e'
      cases e'
      exact ⟨ns.map V.int, .inr ⟨_, Ha⟩, reps_ints⟩
    · rw [if_neg z] at e'
      cases e'
  refine codeAny_mono ((F _ hKb (nsK hns)).run callerA [] s₁ H ⟨[.ref a], []⟩ [.ref a] [.ref a] (fun v _ => v = .bl true) (fun _ _ _ => False) ⟨hr, fun _ => rfl⟩ e0 (hbind s₁ (.ref a)) (.cons rfl .nil)
    ⟨[.ref a], _, _, E0w, reps_cons (by simp only [rep]) reps_nil, ra, hsp _ (if_pos rfl) rfl, fun v H' ⟨w', A', _, _, r, e⟩ => ?_, fun c d H' ⟨_, _, _, _, _, _, _, z⟩ => z⟩) fun r s' h => ?_
  · subst e
    simp only [rep] at r
    exact r
  · rcases r with e | fl
    · obtain ⟨_, _, _, _, _, _, _, _, _, _, _, _, z⟩ := h
      exact z.elim
    · cases fl with
      | next => exact False.elim h
      | brk => exact False.elim h
      | cont => exact False.elim h
      | ret u =>
        obtain ⟨v, H', os, bare, un, hok', r', q⟩ := h
        have q' : v = .bl true := q
        subst q'
        obtain rfl : u = Value.bool true := r'
        refine ⟨rfl, OldK.of_keep fun b o e => ?_, os, bare⟩
        by_cases z : b = a
        · subst z
          obtain ⟨e1, _⟩ := hok b _ Ha
          obtain ⟨e2, _⟩ := hok' b _ (un.frzs b _ _ Ha)
          rw [e] at e1
          cases e1
          exact e2
        · exact un.keep b o e (Hn z) (by intro y; exact absurd (show b ∈ ([] : List Addr) from y) (by simp)) (by simp)
theorem walkG {l : PySem.W.OpenLaw} {n k : Nat} {q : Program} {loose : List Str} {XP : (Str → Option Value) → Heap → Prop} {YP : World → Heap → Prop} {d : DefRec} {K : Params → PySem.W.Frag} {sp : SpW} {x : Str}
    (hn : l.most = some n) (hn2 : n ≤ sizeLine) (hdf : d.params.defaults = []) (hr : Room k callerA)
    (hY : ∀ (w : World) (h : Heap), YP w h → (K w.params).In h) (hnl : ∀ w : World, noLst (K w.params) = true)
    (F : ∀ (w : World) (mg : Str → Option Value) (fa : Addr) (h : Heap), (K w.params).In h → h.Ns mainGlobals mg → mg d.name = some (.ref fa) →
      ∃ fd : FuncData, (∀ (s : Shared) (u : Value), BindsTo s fd ⟨[u], []⟩ [(x, u)]) ∧
        ∀ base : Heap, (K w.params).In base → base.Ns mainGlobals mg → FnB true l.prog w (K w.params) mg base k fa fd [x] (spL (K w.params) sp))
    (hsp : ∀ (A : AH) (a : Addr) (ns : List Int), ns.length ≤ n → A.h a = some (.rol (ns.map W.int)) → A.pen = none → sp [.ref a] A (fun v _ => v = .bl true) E0w) :
    PySem.W.WalkO q loose XP YP l.row.toRowW d [] (fun f vs => PySem.call f vs) := by
  refine Att.attach_call hn hdf fun w s₀ s₁ mg mb fa o pm cd doc a vs ns G Y ho hd hcd hmg hobj hints hlen hg => ?_
  have KX := hY w _ Y
  obtain ⟨fd, hb, hF⟩ := F w mg fa _ KX G.T.g hmg
  have hk : (K w.params).lookup a = none := by
    cases e : (K w.params).lookup a with
    | none => rfl
    | some o =>
      have e1 := KX _ _ e
      rw [hobj] at e1
      cases e1
      exact absurd rfl (noLst_ok (hnl w) e)
  exact law_callG KX G.T.g G.T.b G.T.builtins G.T.nolimit hg hobj hints (Nat.le_trans hlen hn2) hr hk hF hb fun A hA hp => hsp A a ns hlen hA hp
end Wx

set_option Elab.async false
set_option linter.all false
set_option maxRecDepth 100000
set_option maxHeartbeats 4000000
/-! WX15: in, chains, sorted, signs. -/
namespace Wx
open PySem L2
/-! ### x in y, of data -/
def wInD (b : Bool) : R2w := fun x y A Q => ∃ d ds, DL A d x ∧ (DL A (.list ds) y ∨ DL A (.tuple ds) y) ∧ SeqAt.shaped d = true ∧ SeqAt.shaped (.list ds) = true ∧ Q (.bl (if b then ds.any (fun z => PyData.eqv z d) else !ds.any fun z => PyData.eqv z d)) A
theorem depth_lt {ds : List PyData} (h : SeqAt.shaped (.list ds) = true) : PyData.depthAll ds ≤ 63 := by
  have := SeqAt.depth_of_shaped h
  simp only [PyData.depth] at this
  omega
section
variable {X : Cx}
theorem ow_inD (hu : X.A.units + 64 < cLine) : OpW X (compareOp .In) (wInD true) := by
  intro pins s σ H A x y u v a b Q I ra rx ry ha hb ⟨d, ds, h1, h2, s1, s2, q⟩
  obtain ⟨as, r1⟩ := Dp.reads I d x u (DL.dp ra d a x ha h1) rx
  have hd := depth_lt s2
  have hm : min (PyData.depthAll ds) d.depth ≤ PyData.depthAll ds := Nat.min_le_left _ _
  have fin : EPw X pins σ H Q (.bool (ds.any fun z => PyData.eqv z d)) s := ⟨.bl _, H, .bl _, A, I, rfl, TupLe.refl (K := X.K) H, ra, by simp only [rep]; rfl, q⟩
  rcases h2 with h2 | h2
  · obtain ⟨bs, r2⟩ := Dp.reads I (.list ds) y v (DL.dp ra _ b y hb h2) ry
    exact SeqAt.in_list_reads r2 r1 (SeqAt.canLay_of_shaped s2) (SeqAt.canLay_of_shaped s1) (by omega) fin
  · obtain ⟨bs, r2⟩ := Dp.reads I (.tuple ds) y v (DL.dp ra _ b y hb h2) ry
    exact SeqAt.in_tuple_reads r2 r1 (SeqAt.canLay_of_shaped s2) (SeqAt.canLay_of_shaped s1) (by omega) fin
theorem ow_notInD (hu : X.A.units + 64 < cLine) : OpW X (compareOp .NotIn) (wInD false) := by
  intro pins s σ H A x y u v a b Q I ra rx ry ha hb ⟨d, ds, h1, h2, s1, s2, q⟩
  obtain ⟨as, r1⟩ := Dp.reads I d x u (DL.dp ra d a x ha h1) rx
  have hd := depth_lt s2
  have hm : min (PyData.depthAll ds) d.depth ≤ PyData.depthAll ds := Nat.min_le_left _ _
  have fin : EPw X pins σ H Q (.bool (!ds.any fun z => PyData.eqv z d)) s := ⟨.bl _, H, .bl _, A, I, rfl, TupLe.refl (K := X.K) H, ra, by simp only [rep]; rfl, q⟩
  rcases h2 with h2 | h2
  · obtain ⟨bs, r2⟩ := Dp.reads I (.list ds) y v (DL.dp ra _ b y hb h2) ry
    exact SeqAt.notIn_list_reads r2 r1 (SeqAt.canLay_of_shaped s2) (SeqAt.canLay_of_shaped s1) (by omega) fin
  · obtain ⟨bs, r2⟩ := Dp.reads I (.tuple ds) y v (DL.dp ra _ b y hb h2) ry
    exact SeqAt.notIn_tuple_reads r2 r1 (SeqAt.canLay_of_shaped s2) (SeqAt.canLay_of_shaped s1) (by omega) fin
/-- one sign in a text -/
def wInSign (b : Bool) : R2w := fun x y A Q => ∃ (c : Nat) (z : Str), x = .str ⟨#[c]⟩ ∧ y = .str z ∧ Q (.bl (if b then decide (c ∈ z.cps.toList) else !decide (c ∈ z.cps.toList))) A
theorem ow_inSign : OpW X (compareOp .In) (wInSign true) := OpW.of op_in_sign fun H A x y a b Q ra ha hb ⟨c, z, e1, e2, q⟩ => by
  subst e1 e2
  simp only [rep] at ha hb
  exact ⟨c, z, ha, hb, Up.i ra (by simp only [rep]; rfl) q⟩
theorem ow_notInSign : OpW X (compareOp .NotIn) (wInSign false) := OpW.of op_notIn_sign fun H A x y a b Q ra ha hb ⟨c, z, e1, e2, q⟩ => by
  subst e1 e2
  simp only [rep] at ha hb
  exact ⟨c, z, ha, hb, Up.i ra (by simp only [rep]; rfl) q⟩
/-! ### chains -/
variable {a b c : Expr} {ta tb tc : TEw} {pos : Pos} {op op' : CmpOp} {r r' : R2w}
def wChain (r r' : R2w) (ta tb tc : TEw) : TEw := fun ω A Q => ta ω A fun x A1 => tb ω A1 fun y A2 => r x y A2 fun z A3 => ∃ k, z = .bl k ∧ (if k = true then tc ω A3 fun w' A4 => r' y w' A4 Q else Q (.bl false) A3)
theorem chain_lo {K : PySem.W.Frag} {σ : L2.St} {H : Hp} {ω : Sw} {A : AH} {Q : VKw} (sm : SimS K H σ ω) (ra : RepA K H A) (h : wChain r r' ta tb tc ω A Q) :
    tChain (fun x y H Q => ∃ A a b Q', RepA K H A ∧ rep K H x a ∧ rep K H y b ∧ r a b A Q' ∧ ∀ v H', Up K H Q' v H' → Q v H') (fun x y H Q => ∃ A a b Q', RepA K H A ∧ rep K H x a ∧ rep K H y b ∧ r' a b A Q' ∧ ∀ v H', Up K H Q' v H' → Q v H') (lo K ta) (lo K tb) (lo K tc) σ H (Up K H Q) :=
  lo_i sm ra h fun v1 H1 w1 A1 t1 sm1 ra1 r1 h1 => lo_i sm1 ra1 h1 fun v2 H2 w2 A2 t2 sm2 ra2 r2 h2 => ⟨A2, w1, w2, _, ra2, rep_mono t2 _ _ r1, r2, h2, fun v H3 ⟨w3, A3, t3, ra3, r3, k, e, h3⟩ => by
    subst e
    simp only [rep] at r3
    refine ⟨k, r3, ?_⟩
    have sm3 := sm2.mono t3
    cases k with
    | true => exact lo_i sm3 ra3 h3 fun v4 H4 w4 A4 t4 sm4 ra4 r4 h4 => ⟨A4, w2, w4, _, ra4, rep_mono (t3.trans t4) _ _ r2, r4, h4, fun _ _ u => Up.trans (t1.trans (t2.trans (t3.trans t4))) u⟩
    | false => exact ⟨.bl false, A3, t1.trans (t2.trans t3), ra3, by simp only [rep], h3⟩⟩
theorem we_chain (ho : OpW X (compareOp op) r) (ho' : OpW X (compareOp op') r') (ha : WE X a ta) (hb : WE X b tb) (hc : WE X c tc) (hm : lastMarks [op, op'] [b, c] = false := by with_unfolding_all rfl) : WE X (.Compare a [op, op'] [b, c] pos) (wChain r r' ta tb tc) :=
  WE.of (pe_chain ho.opr ho'.opr ha.pe hb.pe hc.pe hm) fun _ _ _ _ _ sm ra h => chain_lo sm ra h
theorem wt_chain (ho : OpW X (compareOp op) r) (ho' : OpW X (compareOp op') r') (ha : WE X a ta) (hb : WE X b tb) (hc : WE X c tc) (hm : lastMarks [op, op'] [b, c] = false := by with_unfolding_all rfl) : WT X (.Compare a [op, op'] [b, c] pos) (wTest (wChain r r' ta tb tc)) := by
  refine WT.of (pt_chain ho.opr ho'.opr ha.pe hb.pe hc.pe hm) fun σ H ω A Q sm ra h => ?_
  have h1 := chain_lo sm ra h
  refine (?_ : ∀ (Q1 : VK) (Q2 : VK), (∀ v H', Q1 v H' → Q2 v H') → tChain _ _ _ _ _ σ H Q1 → tChain _ _ _ _ _ σ H Q2) _ _ (fun v H' ⟨w', A', t1, ra', rv, k, e, q⟩ => ?_) h1
  · intro Q1 Q2 k ⟨ω1, A1, Q', sm1, ra1, g, kk⟩
    refine ⟨ω1, A1, Q', sm1, ra1, g, fun v H' u => ?_⟩
    obtain ⟨ω2, A2, Q'', sm2, ra2, g2, kk2⟩ := kk v H' u
    refine ⟨ω2, A2, Q'', sm2, ra2, g2, fun v2 H2 u2 => ?_⟩
    obtain ⟨A3, x3, y3, Q3, ra3, c1, c2, c3, kk3⟩ := kk2 v2 H2 u2
    refine ⟨A3, x3, y3, Q3, ra3, c1, c2, c3, fun v3 H3 u3 => ?_⟩
    obtain ⟨b3, e3, g3⟩ := kk3 v3 H3 u3
    refine ⟨b3, e3, ?_⟩
    cases b3 with
    | true =>
      obtain ⟨ω4, A4, Q4, sm4, ra4, g4, kk4⟩ := g3
      refine ⟨ω4, A4, Q4, sm4, ra4, g4, fun v4 H4 u4 => ?_⟩
      obtain ⟨A5, x5, y5, Q5, ra5, d1, d2, d3, kk5⟩ := kk4 v4 H4 u4
      exact ⟨A5, x5, y5, Q5, ra5, d1, d2, d3, fun v6 H6 u6 => k _ _ (kk5 v6 H6 u6)⟩
    | false => exact k _ _ g3
  · subst e
    simp only [rep] at rv
    exact ⟨k, rv, A', t1, ra', q⟩
/-! ### sorted of a list of alike data -/
def sortW (ds : List PyData) (us : List W) : List W := ((ds.zip us).mergeSort (PySem.W.dataLe false Prod.fst)).map Prod.snd
def wSorted : List W → AH → VKw → Prop := fun ws A Q => ∃ p us ds, ws = [.ref p] ∧ isL A p us ∧ DLs A ds us ∧ PySem.W.AllAlike ds ∧ PySem.W.Sortable ds ∧ us.length ≤ sizeLine ∧ (∀ d ∈ ds, d.depth ≤ 60) ∧ ∀ q, A.h q = none → Q (.ref q) (A.put q (.lst (sortW ds us)))
theorem vals_each {K : PySem.W.Frag} {P : Program} {w : World} {h : Heap} {H : Hp} : ∀ {xs : List V} {us : List Value}, Vals xs us → True := fun _ => trivial
theorem DLs.length {A : AH} : ∀ {ds : List PyData} {ws : List W}, DLs A ds ws → ds.length = ws.length
  | [], ws, h => by simp only [DLs] at h; subst h; rfl
  | d :: ds, ws, h => by
    simp only [DLs] at h
    obtain ⟨w, r, rfl, _, h2⟩ := h
    rw [List.length_cons, List.length_cons, DLs.length h2]
theorem cw_sorted (hu : X.A.units + 64 < cLine) : CallW X (.builtin "sorted") wSorted := by
  intro pins s σ H A vs us ws Q I ra rv rw' ⟨p, xs, ds, e, hl, dl, hal, hk, hz, hd, q⟩
  subst e
  obtain ⟨v, r1, rfl, h1, r2⟩ := reps_uncons rw'
  obtain rfl := reps_unnil r2
  simp only [rep] at h1
  subst h1
  obtain ⟨zs, sq, rs⟩ := hl.sq ra
  obtain ⟨its, rvz, hl1, _⟩ := I.list sq
  rw [Vals.ref1 rv]
  -- the triples
  have key : ∀ (zs : List V) (its : List Value) (ds : List PyData) (xs : List W), Vals zs its → reps X.K H zs xs → DLs A ds xs →
      ∃ bs : List (V × PyData × W), bs.map (·.2.1) = ds ∧ bs.map (fun b => (b.2.1, b.2.2)) = ds.zip xs ∧ PySem.W.EachIs (fun u b => RelV b.1 u ∧ rep X.K H b.1 b.2.2 ∧ DL A b.2.1 b.2.2) its bs := by
    intro zs its ds xs a1 a2 a3
    induction a1 generalizing ds xs with
    | nil =>
      cases xs with
      | cons x xs => obtain ⟨_, _, z, _⟩ := reps_uncons a2; cases z
      | nil =>
        have := DLs.length a3
        obtain rfl : ds = [] := List.eq_nil_of_length_eq_zero this
        exact ⟨[], rfl, rfl, .nil⟩
    | @cons z u zs us ru rs ih =>
      cases xs with
      | nil => have := reps_unnil a2; cases this
      | cons x xs =>
        obtain ⟨v', r', e, b1, b2⟩ := reps_uncons a2
        cases e
        cases ds with
        | nil => simp only [DLs] at a3; cases a3
        | cons d ds =>
          simp only [DLs] at a3
          obtain ⟨w', r', e, c1, c2⟩ := a3
          cases e
          obtain ⟨bs, e1, e2, e3⟩ := ih ds xs b2 c2
          exact ⟨(z, d, x) :: bs, by rw [List.map_cons, e1], by rw [List.map_cons, e2, List.zip_cons_cons], .cons ⟨ru, b1, c1⟩ e3⟩
  obtain ⟨bs, e1, e2, e3⟩ := key zs its ds xs (by simpa using rvz) rs dl
  have hlen : bs.length = xs.length := by
    have := congrArg List.length e1
    rw [List.length_map] at this
    rw [this, DLs.length dl]
  have er : PySem.W.EachIs (fun v b => ∃ as, Reads s.heap v (b : V × PyData × W).2.1 as) its bs := e3.mono fun u b ⟨x1, x2, x3⟩ => Dp.reads I _ _ _ (DL.dp ra _ _ _ x2 x3) x1
  refine PySem.W.sorted_data (enc := fun b : V × PyData × W => b.2.1) (vs := its) (by simpa using hl1.isList) e3 er (by rw [e1]; exact hal) (by rw [e1]; exact hk) (by rw [hlen]; exact hz) (fun b hb => ?_) fun out ho eo => ?_
  · have := hd b.2.1 (by rw [← e1]; exact List.mem_map_of_mem hb)
    omega
  · obtain ⟨ep, he'⟩ := PyProof.Rows.sortedAll_at s.heap its out.toArray
    have hn : H (s.heap.objs.size + 1) = none := I.hok.fresh (Nat.le_succ _)
    -- the sorted values and what they stand for
    have key2 : ∀ (out : List Value) (cs : List (V × PyData × W)), PySem.W.EachIs (fun u b => RelV b.1 u ∧ rep X.K H b.1 b.2.2 ∧ DL A b.2.1 b.2.2) out cs → Vals (cs.map (·.1)) out ∧ reps X.K H (cs.map (·.1)) (cs.map (·.2.2)) := by
      intro out cs a
      induction a with
      | nil => exact ⟨.nil, reps_nil⟩
      | cons b t ih => exact ⟨.cons b.1 ih.1, reps_cons b.2.1 ih.2⟩
    obtain ⟨k1, k2⟩ := key2 out _ eo
    have es : (bs.mergeSort (PySem.W.dataLe false fun b => b.2.1)).map (·.2.2) = sortW ds xs := by
      unfold sortW
      rw [← e2, ← List.map_mergeSort (r := PySem.W.dataLe false fun b : V × PyData × W => b.2.1) (s := PySem.W.dataLe false Prod.fst) (f := fun b : V × PyData × W => (b.2.1, b.2.2)) (fun a _ b _ => rfl), List.map_map]
      rfl
    rw [es] at k2
    have I2 : L2.Inv X pins σ (upd H (s.heap.objs.size + 1) (.lst ((bs.mergeSort (PySem.W.dataLe false fun b => b.2.1)).map (·.1)))) { s with heap := PyProof.Rows.sortedAll s.heap its out.toArray, toks := s.toks } :=
      I.laid (t' := s.toks) (fun _ _ => PyProof.Rows.sortedAll_old) (Nat.le_succ _) ⟨by rw [List.length_map, List.length_mergeSort, hlen]; exact hz, out, ep, k1, he'⟩
    obtain ⟨w', A', t1, ra', r', q'⟩ := Up.new (K := X.K) (Q := Q) ra hn k2 q
    exact ⟨.ref (s.heap.objs.size + 1), _, w', A', I2, rfl, t1, ra', r', q'⟩
end
end Wx

set_option Elab.async false
set_option linter.all false
set_option maxRecDepth 100000
set_option maxHeartbeats 4000000
/-! WX16: instances of own classes: fields, making, methods. -/
namespace Wx
open PySem L2
def putW (f : Str) (w : W) : List (Str × W) → List (Str × W)
  | [] => [(f, w)]
  | (g, x) :: r => if g = f then (g, w) :: r else (g, x) :: putW f w r
section
variable {K : PySem.W.Frag} {H : Hp}
theorem prs_put {f : Str} {v : V} {w : W} (r : rep K H v w) {l : List (Str × V)} {m : List (Str × W)} (h : prs K H l m) : prs K H (putF f v l) (putW f w m) := by
  unfold prs at h ⊢
  induction h with
  | nil => exact .cons ⟨rfl, r⟩ .nil
  | @cons a b as bs x t ih =>
    obtain ⟨g1, v1⟩ := a
    obtain ⟨g2, w2⟩ := b
    obtain ⟨e1, e2⟩ := x
    simp only at e1 e2
    subst e1
    unfold putF putW
    by_cases z : g1 = f
    · rw [if_pos z, if_pos z]; exact .cons ⟨rfl, r⟩ t
    · rw [if_neg z, if_neg z]; exact .cons ⟨rfl, e2⟩ ih
theorem prs_lookup_none {l : List (Str × V)} {m : List (Str × W)} (h : prs K H l m) {f : Str} (e : m.lookup f = none) : l.lookup f = none := by
  unfold prs at h
  induction h with
  | nil => rfl
  | @cons a b as bs x t ih =>
    obtain ⟨g1, v1⟩ := a
    obtain ⟨g2, w2⟩ := b
    obtain ⟨e1, e2⟩ := x
    simp only at e1 e2
    subst e1
    rw [List.lookup_cons] at e ⊢
    cases q : f == g1 with
    | true => rw [q] at e; cases e
    | false => rw [q] at e; exact ih e
end
/-! e.f -/
def wFld (K : PySem.W.Frag) (f : Str) (te : TEw) : TEw := fun ω A Q => te ω A fun x A1 => ∃ a C fs w, x = .ref a ∧ A1.h a = some (.ins C fs) ∧ Cls K C ∧ NoAttr K C f ∧ fs.lookup f = some w ∧ Q w A1
def wSetFld (K : PySem.W.Frag) (f : Str) (to tv : TEw) : TSw := fun D ω A => tv ω A fun y A1 => to ω A1 fun x A2 => ∃ a C fs, x = .ref a ∧ A2.h a = some (.ins C fs) ∧ Cls K C ∧ NoAttr K C f ∧ fs.length < 1000 ∧ D.nx ω (A2.put a (.ins C (putW f y fs)))
section
variable {X : Cx} {e o value : Expr} {te to tv : TEw} {pos pos' apos : Pos} {f m x : Str}
theorem we_fld (he : WE X e te) (hb : attributeBase e f X.env (eval e X.env) = eval e X.env := by rfl) : WE X (.Attribute e f pos) (wFld X.K f te) := WE.of (pe_fld he.pe hb) fun σ H ω A Q sm ra h =>
  lo_i sm ra h fun v H1 w A1 t1 sm1 ra1 r ⟨a, C, fs, y, e, ea, c, n, l, q⟩ => by
    subst e
    simp only [rep] at r
    obtain ⟨dx, vf, eh, rv⟩ := ra1.1 a _ ea
    obtain ⟨u, lu, ru⟩ := prs_lookup rv l
    exact ⟨a, C, dx, vf, u, r, eh, c, n, lu, Up.trans t1 (Up.i ra1 ru q)⟩
theorem ws_fld (ho : WE X o to) (hv : WE X value tv) (hs : swapsWith value (some (.Attribute o f pos')) pos.line X.env = pure false := by rfl) : WS X (.Assign [.Attribute o f pos'] value pos) (wSetFld X.K f to tv) := WS.of (ps_fld ho.pe hv.pe hs) fun D σ H ω A sm ra h =>
  lo_i sm ra h fun v1 H1 w1 A1 t1 sm1 ra1 r1 h1 => lo_i sm1 ra1 h1 fun v2 H2 w2 A2 t2 sm2 ra2 r2 ⟨a, C, fs, e, ea, c, n, l, q⟩ => by
    subst e
    simp only [rep] at r2
    obtain ⟨dx, vf, eh, rv⟩ := ra2.1 a _ ea
    have ts : TupLe X.K H2 (upd H2 a (.ins C dx (putF f v1 vf))) := tupLe_set eh (by intro _ z; cases z) (by intro _ _ z; cases z)
    refine ⟨a, C, dx, vf, r2, eh, c, n, by rw [Paired.length rv]; exact l, ω, _, (t1.trans t2).trans ts, sm2.mono ts, ra2.set (wo' := .ins C (putW f w1 fs)) ea eh (by intro _ z; cases z) (by intro _ _ z; cases z) ⟨dx, _, upd_same, ?_⟩, q⟩
    exact prs_mono ts (prs_put (rep_mono t2 _ _ r1) rv)
end
/-! making, methods: with slots for what is let out -/
section
variable {X : Cx} {g : Bool} {k : Nat} {f C : Addr} {fd : FuncData} {ps : List Str} {sp : Sp} {E : L2.St → XK} {x m : Str} {p pos apos : Pos} {e o : Expr} {es : List Expr} {t : TA} {ta : TE}
def tMakeS (C : Addr) (sp : Sp) (E : L2.St → XK) (t : TA) : TE := fun σ H Q => t σ H fun vs H1 => ∀ x dx, H1 x = none → H1 dx = none → dx ≠ x → sp (.ref x :: vs) (upd (upd H1 dx (.own x)) x (.ins C dx [])) (fun v H2 => v = .non ∧ Q (.ref x) H2) (E σ)
theorem run_makeS {pins : List (Addr × Obj)} {σ : L2.St} {H : Hp} {s : Shared} {Q : VK} {us : List Value} {vs : List V} (M : Mk X.K C f) (F : FnOk X.prog X.w X.K X.mg X.base (L2.CX X.prog X.w) k f fd ps sp) (hr : Room (k + 1) X.A) (hb : Binds X.K fd ps [])
    (hx : PassesAt (L2.CX X.prog X.w) X σ (E σ)) (I : L2.Inv X pins σ H s) (r : Vals vs us) (h : ∀ x dx, H x = none → H dx = none → dx ≠ x → sp (.ref x :: vs) (upd (upd H dx (.own x)) x (.ins C dx [])) (fun v H2 => v = .non ∧ Q (.ref x) H2) (E σ)) :
    wpAny (model X.prog X.w) X.A (call (.ref C) us) (EP X pins σ Q) X.xe s := by
  have hq := h (s.heap.objs.size + 1) s.heap.objs.size (I.hok.fresh (Nat.le_succ _)) (I.hok.fresh (Nat.le_refl _)) (Nat.ne_of_lt (Nat.lt_succ_self _))
  have J := L2.Inv.made (C := C) I
  have rr : Vals (V.ref (s.heap.objs.size + 1) :: vs) (Value.ref (s.heap.objs.size + 1) :: us) := .cons rfl r
  have hl : (Value.ref (s.heap.objs.size + 1) :: us).length = ps.length := by rw [← rr.length]; exact F.len _ _ _ _ hq
  have bd := hb _ (Value.ref (s.heap.objs.size + 1) :: us) J.kIn (by rw [List.append_nil]; exact hl)
  rw [List.append_nil] at bd
  refine wpAny_call (make_map (f := f) I.kIn M.makes M.init (beq_iff_eq.mp M.fn) (codeAny_mono (F.run _ X.stack _ _ ⟨_, []⟩ _ _ _ (E σ) (hr.make C us []) (J.env0.make C us []) bd rr hq) fun z s' hz => ?_))
  rcases z with er | fl
  · exact hx pins _ _ er s' J hz
  · cases fl with
    | ret u =>
      obtain ⟨v, H', J2, rv, ev, q3⟩ := J.after hz
      subst ev
      exact ⟨rv, V.ref (s.heap.objs.size + 1), H', J2, rfl, q3⟩
    | next => exact False.elim hz
    | brk => exact False.elim hz
    | cont => exact False.elim hz
theorem pe_makeS (M : Mk X.K C f) (F : FnOk X.prog X.w X.K X.mg X.base (L2.CX X.prog X.w) k f fd ps sp) (hr : Room (k + 1) X.A) (hg : Gl X x) (hm : X.mg x = some (.ref C)) (hb : Binds X.K fd ps []) (hx : ∀ σ, PassesAt (L2.CX X.prog X.w) X σ (E σ)) (ha : PA X (e :: es) t)
    (hdb : (x == ("__debug__" : Str)) = false := by decide) (he : starEach (e :: es) X.env = (false, eval e X.env) :: starEach es X.env := by rfl) (hpl : (backTo pos (starEach es X.env)).any (·.1) = false := by rfl) : PE X (.Call (.Name x p) (e :: es) [] pos) (tMakeS C sp E t) :=
  ⟨fun pins s σ H Q I h => wpAny_Call_Name_kw (ld_glob I hg hm (PySem.W.callWith_K (h₀ := X.base) I.ok.mod.kin M.kp (thn (ha.run pos pins s σ H _ I h) fun us s1 ⟨vs, H1, I1, r, q⟩ => ⟨I1.kIn, run_makeS M F hr hb (hx σ) I1 r q⟩) he hpl) hdb)⟩
def tMethS (C : Addr) (m : Str) (sp : Sp) (E : L2.St → XK) (ta : TE) (t : TA) : TE := fun σ H Q => ta σ H fun x H1 => ∃ a dx fs, x = .ref a ∧ H1 a = some (.ins C dx fs) ∧ fs.lookup m = none ∧ t σ H1 fun vs H2 => sp (x :: vs) H2 Q (E σ)
theorem pe_methS {pl : Sem Bool} (he : PE X o ta) (c : Cls X.K C) (hm : Meth X.K C m f) (F : FnB g X.prog X.w X.K X.mg X.base k f fd ps sp) (hr : RoomG g k X.A) (hb : Binds X.K fd ps []) (hx : ∀ σ, PassesAt (L2.CX X.prog X.w) X σ (E σ)) (ha : PA X (e :: es) t)
    (hst : starEach (e :: es) X.env = (false, eval e X.env) :: starEach es X.env := by rfl) (hpl : (backTo pos (starEach es X.env)).any (·.1) = false := by rfl)
    (ht : eval (.Call (.Attribute o m apos) (e :: es) [] pos) X.env = (do
      let ov ← eval o X.env
      standAt apos.atName
      let (f, first) ← holding [ov] (getMethod ov m pl)
      callWith pos f first (backTo pos (starEach (e :: es) X.env)) (backToKw pos (keywordEach [] X.env))) := by rfl) :
    PE X (.Call (.Attribute o m apos) (e :: es) [] pos) (tMethS C m sp E ta t) := by
  refine ⟨fun pins s σ H Q I h => PySem.W.methodCall_KW (pl := pl) (thn (he.run pins s σ H _ I h) fun u s1 ⟨x, H1, I1, rx, a, dx, fs, ex, ea, l, q⟩ => ?_) ht⟩
  subst ex
  cases rx
  exact getmeth_ok I1 ea c hm l (PySem.W.callWith_K (first := [.ref a]) (h₀ := X.base) I.ok.mod.kin hm.kp (thn (ha.run pos pins s1 σ H1 _ I1 q) fun us s2 ⟨vs, H2, I2, r, q2⟩ =>
    ⟨I2.kIn, run_fnB (us := .ref a :: us) (vs := .ref a :: vs) (ds := []) (dvs := []) F hr hb .nil (hx σ) I2 (.cons rfl r) (by rw [List.append_nil]; exact q2)⟩) hst hpl)
theorem pe_methS0 {pl : Sem Bool} (he : PE X o ta) (c : Cls X.K C) (hm : Meth X.K C m f) (F : FnB g X.prog X.w X.K X.mg X.base k f fd ps sp) (hr : RoomG g k X.A) (hb : Binds X.K fd ps []) (hx : ∀ σ, PassesAt (L2.CX X.prog X.w) X σ (E σ))
    (ht : eval (.Call (.Attribute o m apos) [] [] pos) X.env = (do
      let ov ← eval o X.env
      standAt apos.atName
      let (f, first) ← holding [ov] (getMethod ov m pl)
      callWith pos f first (backTo pos (starEach [] X.env)) (backToKw pos (keywordEach [] X.env))) := by rfl) :
    PE X (.Call (.Attribute o m apos) [] [] pos) (tMethS C m sp E ta tNil) := by
  refine ⟨fun pins s σ H Q I h => PySem.W.methodCall_KW (pl := pl) (thn (he.run pins s σ H _ I h) fun u s1 ⟨x, H1, I1, rx, a, dx, fs, ex, ea, l, q⟩ => ?_) ht⟩
  subst ex
  cases rx
  exact getmeth_ok I1 ea c hm l (PySem.W.callWith_K0 (first := [.ref a]) I1.kIn hm.kp (run_fnB (us := [.ref a]) (vs := [.ref a]) (ds := []) (dvs := []) F hr hb .nil (hx σ) I1 (.cons rfl .nil) (by rw [List.append_nil]; exact q)))
end
/-! above -/
/-- C(..) -/
def wMake (C : Addr) (sp : SpW) (ta : TAw) (E : XSw) : TEw := fun ω A Q => ta ω A fun ws A1 => ∀ x, A1.h x = none → sp (.ref x :: ws) (A1.put x (.ins C [])) (fun v A2 => v = .non ∧ Q (.ref x) A2) (E ω)
/-- o.m(..) -/
def wMeth (C : Addr) (m : Str) (sp : SpW) (to : TEw) (ta : TAw) (E : XSw) : TEw := fun ω A Q => to ω A fun x A1 => ∃ a fs, x = .ref a ∧ A1.h a = some (.ins C fs) ∧ fs.lookup m = none ∧ ta ω A1 fun ws A2 => sp (x :: ws) A2 Q (E ω)
def X0w : XSw := fun _ => E0w
/-- a class whose __init__ keeps sp -/
structure CMk (P : Program) (w : World) (K : PySem.W.Frag) (mg : Str → Option Value) (base : Heap) (k : Nat) (x : Str) (C : Addr) (sp : SpW) : Prop where
  mgC : mg x = some (.ref C)
  ex : ∃ f fd ps, Mk K C f ∧ FnOk P w K mg base (L2.CX P w) k f fd ps (spL K sp) ∧ Binds K fd ps []
/-- a method of the class at C that keeps sp -/
structure CMt (g : Bool) (P : Program) (w : World) (K : PySem.W.Frag) (mg : Str → Option Value) (base : Heap) (k : Nat) (C : Addr) (m : Str) (sp : SpW) : Prop where
  cl : Cls K C
  ex : ∃ f fd ps, Meth K C m f ∧ FnB g P w K mg base k f fd ps (spL K sp) ∧ Binds K fd ps []
section
variable {X : Cx} {g : Bool} {k : Nat} {C : Addr} {sp : SpW} {E : XSw} {x m : Str} {p pos apos : Pos} {e o : Expr} {es : List Expr} {ta : TAw} {to : TEw}
theorem new_ins {K : PySem.W.Frag} {H : Hp} {A : AH} {x dx C : Addr} (ra : RepA K H A) (hx : H x = none) (hd : H dx = none) (ne : dx ≠ x) : TupLe K H (upd (upd H dx (.own x)) x (.ins C dx [])) ∧ RepA K (upd (upd H dx (.own x)) x (.ins C dx [])) (A.put x (.ins C [])) := by
  have hx1 : upd H dx (HO.own x) x = none := by rw [upd_ne (Ne.symm ne)]; exact hx
  exact ⟨(tupLe_new (K := K) hd).trans (tupLe_new (K := K) hx1), (ra.new0 hd).new (wo := .ins C []) hx1 ⟨dx, [], upd_same, .nil⟩⟩
theorem passS {E : XSw} (tk : TakesW X E) : ∀ σ, PassesAt (L2.CX X.prog X.w) X σ ((fun σ c d H => UpE0 X.K E c d σ H) σ) := fun σ => passAt tk σ
theorem we_makeX (tk : TakesW X E) (M : CMk X.prog X.w X.K X.mg X.base k x C sp) (hr : RoomG g (k + 1) X.A) (hg : Gl X x) (ha : WA X (e :: es) ta)
    (hdb : (x == ("__debug__" : Str)) = false := by decide) (he : starEach (e :: es) X.env = (false, eval e X.env) :: starEach es X.env := by rfl) (hpl : (backTo pos (starEach es X.env)).any (·.1) = false := by rfl) : WE X (.Call (.Name x p) (e :: es) [] pos) (wMake C sp ta E) := by
  obtain ⟨f, fd, ps, hM, F, hb⟩ := M.ex
  refine WE.of (pe_makeS hM F hr.r hg M.mgC hb (fun σ => passAt tk σ) ha.pa hdb he hpl) fun σ H ω A Q sm ra h => loA_i sm ra h fun vs H1 ws A1 t1 sm1 ra1 r q y dy hy hd ne => ?_
  obtain ⟨t2, ra2⟩ := new_ins (C := C) ra1 hy hd ne
  refine ⟨.ref y :: ws, A1.put y (.ins C []), _, E ω, reps_cons (by simp only [rep]) (reps_mono t2 _ _ r), ra2, q y (ra1.fresh hy), fun v H' ⟨w', A', t3, ra', rv, e1, q'⟩ => ?_, fun c d H' ⟨C', fs, A', e1, e2, t3, e3, e4⟩ => ⟨C', fs, ω, A', e1, e2, sm1.mono (t2.trans t3), e3, e4⟩⟩
  subst e1
  simp only [rep] at rv
  exact ⟨rv, .ref y, A', t1.trans (t2.trans t3), ra', by simp only [rep], q'⟩
theorem we_make (M : CMk X.prog X.w X.K X.mg X.base k x C sp) (hr : RoomG g (k + 1) X.A) (hg : Gl X x) (ha : WA X (e :: es) ta)
    (hdb : (x == ("__debug__" : Str)) = false := by decide) (he : starEach (e :: es) X.env = (false, eval e X.env) :: starEach es X.env := by rfl) (hpl : (backTo pos (starEach es X.env)).any (·.1) = false := by rfl) : WE X (.Call (.Name x p) (e :: es) [] pos) (wMake C sp ta X0w) := by
  obtain ⟨f, fd, ps, hM, F, hb⟩ := M.ex
  refine WE.of (pe_makeS hM F hr.r hg M.mgC hb (E := fun _ _ _ _ => False) pass0At ha.pa hdb he hpl) fun σ H ω A Q sm ra h => loA_i sm ra h fun vs H1 ws A1 t1 sm1 ra1 r q y dy hy hd ne => ?_
  obtain ⟨t2, ra2⟩ := new_ins (C := C) ra1 hy hd ne
  refine ⟨.ref y :: ws, A1.put y (.ins C []), _, E0w, reps_cons (by simp only [rep]) (reps_mono t2 _ _ r), ra2, q y (ra1.fresh hy), fun v H' ⟨w', A', t3, ra', rv, e1, q'⟩ => ?_, fun c d H' ⟨_, _, _, _, _, _, _, z⟩ => z⟩
  subst e1
  simp only [rep] at rv
  exact ⟨rv, .ref y, A', t1.trans (t2.trans t3), ra', by simp only [rep], q'⟩
theorem meth_lo {K : PySem.W.Frag} {σ : L2.St} {H : Hp} {ω : Sw} {A : AH} {Q : VKw} {El : L2.St → XK} (sm : SimS K H σ ω) (ra : RepA K H A) (h : wMeth C m sp to ta E ω A Q) (kE : ∀ c d H1 H', SimS K H1 σ ω → UpE K H1 (E ω) c d H' → El σ c d H') : tMethS C m (spL K sp) El (lo K to) (loA K ta) σ H (Up K H Q) :=
  lo_i sm ra h fun v1 H1 w1 A1 t1 sm1 ra1 r1 ⟨a, fs, e, ea, l, h1⟩ => by
    subst e
    have r1' := r1
    simp only [rep] at r1
    obtain ⟨dx, vf, eh, rv⟩ := ra1.1 a _ ea
    exact ⟨a, dx, vf, r1, eh, prs_lookup_none rv l, loA_i sm1 ra1 h1 fun vs H2 ws A2 t2 sm2 ra2 r2 q => ⟨.ref a :: ws, A2, Q, E ω, reps_cons (rep_mono t2 _ _ r1') r2, ra2, q, fun v H' u => Up.trans (t1.trans t2) u, fun c d H' u => kE c d H2 H' sm2 u⟩⟩
theorem we_methX (tk : TakesW X E) (M : CMt g X.prog X.w X.K X.mg X.base k C m sp) (hr : RoomG g k X.A) (ho : WE X o to) (ha : WA X (e :: es) ta) {pl : Sem Bool}
    (hst : starEach (e :: es) X.env = (false, eval e X.env) :: starEach es X.env := by rfl) (hpl : (backTo pos (starEach es X.env)).any (·.1) = false := by rfl)
    (ht : eval (.Call (.Attribute o m apos) (e :: es) [] pos) X.env = (do
      let ov ← eval o X.env
      standAt apos.atName
      let (f, first) ← holding [ov] (getMethod ov m pl)
      callWith pos f first (backTo pos (starEach (e :: es) X.env)) (backToKw pos (keywordEach [] X.env))) := by rfl) : WE X (.Call (.Attribute o m apos) (e :: es) [] pos) (wMeth C m sp to ta E) := by
  obtain ⟨f, fd, ps, hM, F, hb⟩ := M.ex
  exact WE.of (pe_methS ho.pe M.cl hM F hr hb (fun σ => passAt tk σ) ha.pa hst hpl ht) fun σ H ω A Q sm ra h => meth_lo sm ra h fun c d H1 H' sm1 ⟨C', fs, A', e1, e2, t3, e3, e4⟩ => ⟨C', fs, ω, A', e1, e2, sm1.mono t3, e3, e4⟩
theorem we_meth (M : CMt g X.prog X.w X.K X.mg X.base k C m sp) (hr : RoomG g k X.A) (ho : WE X o to) (ha : WA X (e :: es) ta) {pl : Sem Bool}
    (hst : starEach (e :: es) X.env = (false, eval e X.env) :: starEach es X.env := by rfl) (hpl : (backTo pos (starEach es X.env)).any (·.1) = false := by rfl)
    (ht : eval (.Call (.Attribute o m apos) (e :: es) [] pos) X.env = (do
      let ov ← eval o X.env
      standAt apos.atName
      let (f, first) ← holding [ov] (getMethod ov m pl)
      callWith pos f first (backTo pos (starEach (e :: es) X.env)) (backToKw pos (keywordEach [] X.env))) := by rfl) : WE X (.Call (.Attribute o m apos) (e :: es) [] pos) (wMeth C m sp to ta X0w) := by
  obtain ⟨f, fd, ps, hM, F, hb⟩ := M.ex
  exact WE.of (pe_methS ho.pe M.cl hM F hr hb (E := fun _ _ _ _ => False) pass0At ha.pa hst hpl ht) fun σ H ω A Q sm ra h => meth_lo sm ra h fun c d H1 H' sm1 ⟨_, _, _, _, _, _, _, z⟩ => z
theorem we_meth0X (tk : TakesW X E) (M : CMt g X.prog X.w X.K X.mg X.base k C m sp) (hr : RoomG g k X.A) (ho : WE X o to) {pl : Sem Bool}
    (ht : eval (.Call (.Attribute o m apos) [] [] pos) X.env = (do
      let ov ← eval o X.env
      standAt apos.atName
      let (f, first) ← holding [ov] (getMethod ov m pl)
      callWith pos f first (backTo pos (starEach [] X.env)) (backToKw pos (keywordEach [] X.env))) := by rfl) : WE X (.Call (.Attribute o m apos) [] [] pos) (wMeth C m sp to wNil E) := by
  obtain ⟨f, fd, ps, hM, F, hb⟩ := M.ex
  refine WE.of (pe_methS0 ho.pe M.cl hM F hr hb (fun σ => passAt tk σ) ht) fun σ H ω A Q sm ra h => lo_i sm ra h fun v1 H1 w1 A1 t1 sm1 ra1 r1 ⟨a, fs, e, ea, l, h1⟩ => ?_
  subst e
  have r1' := r1
  simp only [rep] at r1
  obtain ⟨dx, vf, eh, rv⟩ := ra1.1 a _ ea
  exact ⟨a, dx, vf, r1, eh, prs_lookup_none rv l, ⟨[.ref a], A1, Q, E ω, reps_cons r1' reps_nil, ra1, h1, fun v H' u => Up.trans t1 u, fun c d H' ⟨C', fs, A', e1, e2, t3, e3, e4⟩ => ⟨C', fs, ω, A', e1, e2, sm1.mono t3, e3, e4⟩⟩⟩
theorem we_meth0 (M : CMt g X.prog X.w X.K X.mg X.base k C m sp) (hr : RoomG g k X.A) (ho : WE X o to) {pl : Sem Bool}
    (ht : eval (.Call (.Attribute o m apos) [] [] pos) X.env = (do
      let ov ← eval o X.env
      standAt apos.atName
      let (f, first) ← holding [ov] (getMethod ov m pl)
      callWith pos f first (backTo pos (starEach [] X.env)) (backToKw pos (keywordEach [] X.env))) := by rfl) : WE X (.Call (.Attribute o m apos) [] [] pos) (wMeth C m sp to wNil X0w) := by
  obtain ⟨f, fd, ps, hM, F, hb⟩ := M.ex
  refine WE.of (pe_methS0 ho.pe M.cl hM F hr hb (E := fun _ _ _ _ => False) pass0At ht) fun σ H ω A Q sm ra h => lo_i sm ra h fun v1 H1 w1 A1 t1 sm1 ra1 r1 ⟨a, fs, e, ea, l, h1⟩ => ?_
  subst e
  have r1' := r1
  simp only [rep] at r1
  obtain ⟨dx, vf, eh, rv⟩ := ra1.1 a _ ea
  exact ⟨a, dx, vf, r1, eh, prs_lookup_none rv l, ⟨[.ref a], A1, Q, E0w, reps_cons r1' reps_nil, ra1, h1, fun v H' u => Up.trans t1 u, fun c d H' ⟨_, _, _, _, _, _, _, z⟩ => z⟩⟩
end
end Wx

set_option Elab.async false
set_option linter.all false
set_option maxRecDepth 100000
set_option maxHeartbeats 4000000
/-! WX17: texts, min, index, insert, repetition, reversal. -/
namespace Wx
open PySem L2
section
variable {K : PySem.W.Frag} {H : Hp} {A : AH}
theorem reps_strs {ys : List Str} : reps K H (ys.map V.str) (ys.map W.str) := by
  induction ys with
  | nil => exact reps_nil
  | cons n r ih => exact reps_cons (by simp only [rep]) ih
theorem reps_strs_inv : ∀ {ns : List Str} {vs : List V}, reps K H vs (ns.map W.str) → vs = ns.map V.str
  | [], vs, h => reps_unnil h
  | n :: ns, vs, h => by
    obtain ⟨v, r, rfl, h1, h2⟩ := reps_uncons h
    simp only [rep] at h1
    rw [h1, reps_strs_inv h2] <;> rfl
end
section
variable {X : Cx}
/-! texts -/
def wSplit : W → List W → AH → VKw → Prop := fun x ws A Q => ∃ a b : Str, x = .str a ∧ ws = [.str b] ∧ (b.length == 0) = false ∧ a.length + 2 ≤ sizeLine ∧ ∀ p, A.h p = none → Q (.ref p) (A.put p (.lst ((Txt.split a b).map W.str)))
theorem mw_split : MtW X "str.split" wSplit := MtW.of mt_split fun H A x a vs ws Q ra ha r ⟨s, b, e1, e2, h1, h2, q⟩ => by
  subst e1 e2
  simp only [rep] at ha
  obtain ⟨v, r0, rfl, r1, r2⟩ := reps_uncons r
  obtain rfl := reps_unnil r2
  simp only [rep] at r1
  subst r1
  exact ⟨s, b, ha, rfl, h1, h2, fun p hp => Up.new ra hp reps_strs q⟩
def wJoin : W → List W → AH → VKw → Prop := fun x ws A Q => ∃ (a : Str) (w : W) (ys : List Str), x = .str a ∧ ws = [w] ∧ seqW w A (ys.map W.str) ∧ (ys.map (·.length)).sum + ys.length * a.length ≤ 16777216 ∧ Q (.str (Txt.join a ys)) A
theorem mw_join : MtW X "str.join" wJoin := MtW.of mt_join fun H A x a vs ws Q ra ha r ⟨s, w, ys, e1, e2, h1, h2, q⟩ => by
  subst e1 e2
  simp only [rep] at ha
  obtain ⟨v, r0, rfl, r1, r2⟩ := reps_uncons r
  obtain rfl := reps_unnil r2
  obtain ⟨p, zs, rfl, sq, rs⟩ := h1.sq ra r1
  rw [reps_strs_inv rs] at sq
  exact ⟨s, p, ys, ha, rfl, sq, h2, Up.i ra (by simp only [rep]) q⟩
def wStrInt : List W → AH → VKw → Prop := fun ws A Q => ∃ i : Int, ws = [.int i] ∧ i.natAbs.log2 < 1920 ∧ Q (.str (toString i)) A
theorem cw_strInt : CallW X (.type "str") wStrInt := CallW.of call_str_int fun H A vs ws Q ra r ⟨i, e, h, q⟩ => by
  subst e
  obtain ⟨v, r0, rfl, r1, r2⟩ := reps_uncons r
  obtain rfl := reps_unnil r2
  simp only [rep] at r1
  subst r1
  exact ⟨i, rfl, h, Up.i ra (by simp only [rep]) q⟩
def wLtStr : R2w := fun x y A Q => ∃ i j : Str, x = .str i ∧ y = .str j ∧ Q (.bl (decide (i.cps.toList < j.cps.toList))) A
theorem ow_ltStr : OpW X (compareOp .Lt) wLtStr := OpW.of op_lt_str fun H A x y a b Q ra ha hb ⟨i, j, e1, e2, q⟩ => by
  subst e1 e2
  simp only [rep] at ha hb
  exact ⟨i, j, ha, hb, Up.i ra (by simp only [rep]) q⟩
/-! min(i, j) -/
def wMin2 : List W → AH → VKw → Prop := fun ws A Q => ∃ i j : Int, ws = [.int i, .int j] ∧ Q (.int (if j < i then j else i)) A
theorem cw_min2 (hc : X.calm = true) : CallW X (.builtin "min") wMin2 := CallW.of (call_min2 hc) fun H A vs ws Q ra r ⟨i, j, e, q⟩ => by
  subst e
  obtain ⟨v, r0, rfl, r1, r2⟩ := reps_uncons r
  obtain ⟨v2, r3, rfl, r4, r5⟩ := reps_uncons r2
  obtain rfl := reps_unnil r5
  simp only [rep] at r1 r4
  subst r1 r4
  exact ⟨i, j, rfl, Up.i ra (by simp only [rep]) q⟩
/-! l.index(x), l.insert(i, x) -/
def wIndex : W → List W → AH → VKw → Prop := fun x ws A Q => ∃ (a : Addr) (y : W) (d : PyData) (ds : List PyData) (j : Nat) (z : PyData), x = .ref a ∧ ws = [y] ∧ DL A (.list ds) (.ref a) ∧ DL A d y ∧ SeqAt.shaped (.list ds) = true ∧ SeqAt.shaped d = true ∧ ds[j]? = some z ∧ PyData.eqv z d = true ∧
  (∀ (m : Nat) (z' : PyData), m < j → ds[m]? = some z' → PyData.eqv z' d = false) ∧ Q (.int (j : Nat)) A
theorem mw_index (hu : X.A.units + 65 < cLine) : MtW X "list.index" wIndex := MtW.of (mt_indexD hu) fun H A x a vs ws Q ra ha r ⟨p, y, d, ds, j, z, e1, e2, h1, h2, h3, h4, h5, h6, h7, q⟩ => by
  subst e1 e2
  have ha' := ha
  simp only [rep] at ha
  subst ha
  obtain ⟨v, r0, rfl, r1, r2⟩ := reps_uncons r
  obtain rfl := reps_unnil r2
  exact ⟨p, v, d, ds, j, z, rfl, rfl, DL.dp ra _ _ _ ha' h1, DL.dp ra _ _ _ r1 h2, h3, h4, h5, h6, h7, Up.i ra (by simp only [rep]) q⟩
def wInsert : W → List W → AH → VKw → Prop := fun x ws A Q => ∃ p xs i y, x = .ref p ∧ ws = [.int i, y] ∧ A.h p = some (.lst xs) ∧ xs.length < sizeLine ∧ 0 ≤ i ∧ i < 2 ^ 63 ∧ Q .non (A.put p (.lst (xs.take i.toNat ++ [y] ++ xs.drop i.toNat)))
theorem mw_insert : MtW X "list.insert" wInsert := MtW.of mt_insert fun H A x a vs ws Q ra ha r ⟨p, xs, i, y, e1, e2, h, l, l1, l2, q⟩ => by
  subst e1 e2
  simp only [rep] at ha
  obtain ⟨v, r0, rfl, r1, r2⟩ := reps_uncons r
  obtain ⟨v2, r3, rfl, r4, r5⟩ := reps_uncons r2
  obtain rfl := reps_unnil r5
  simp only [rep] at r1
  subst r1
  obtain ⟨us, eu, ru⟩ := ra.lst h
  exact ⟨p, us, i, v2, ha, rfl, eu, by rw [reps_length ru]; exact l, l1, l2, Up.setL ra h eu (reps_append (reps_append (reps_take _ ru) (reps_cons r4 reps_nil)) (reps_drop _ ru)) (by simp only [rep]) q⟩
/-! t * k -/
theorem reps_rep {K : PySem.W.Frag} {H : Hp} {vs : List V} {ws : List W} (r : reps K H vs ws) : ∀ n : Nat, reps K H (List.replicate n vs).flatten (List.replicate n ws).flatten
  | 0 => by simp only [List.replicate_zero, List.flatten_nil]; exact reps_nil
  | n + 1 => by simp only [List.replicate_succ, List.flatten_cons]; exact reps_append r (reps_rep r n)
def wRepT : R2w := fun x y A Q => ∃ (xs : List W) (k : Int), x = .tup xs ∧ y = .int k ∧ xs ≠ [] ∧ 2 ≤ k ∧ k ≤ 1000 ∧ xs.length ≤ 1000 ∧ Q (.tup (List.replicate k.toNat xs).flatten) A
theorem ow_repT : OpW X (binaryOp .Mult) wRepT := OpW.of op_repT fun H A x y a b Q ra ha hb ⟨xs, k, e1, e2, h1, h2, h3, h4, q⟩ => by
  subst e1 e2
  simp only [rep] at ha hb
  obtain ⟨l, vs, e, s, rs⟩ := ha
  exact ⟨l, k, vs, e, hb, SqT.of s, fun z => h1 (List.eq_nil_of_length_eq_zero (by rw [← reps_length rs, z]; rfl)), h2, h3, by rw [reps_length rs]; exact h4, fun p hp => Up.newT ra hp (reps_rep rs _) q⟩
/-! l[::-1] -/
variable {e : Expr} {te : TEw} {k : Nat} {p1 p2 p3 pos : Pos}
def wRevL (te : TEw) : TEw := fun ω A Q => te ω A fun x A1 => ∃ a xs, x = .ref a ∧ isL A1 a xs ∧ ∀ p, A1.h p = none → Q (.ref p) (A1.put p (.lst xs.reverse))
theorem we_revL (he : WE X e te) : WE X (.Subscript e (.Slice none none (some (.UnaryOp .USub (.Constant (.int 1) k p1) p2)) p3) pos) (wRevL te) := WE.of (pe_revL he.pe) fun σ H ω A Q sm ra h => lo_i sm ra h fun v H1 w A1 t1 sm1 ra1 r ⟨a, xs, e, hl, q⟩ => by
  subst e
  simp only [rep] at r
  obtain ⟨vs, s, rs⟩ := hl.sq ra1
  exact ⟨a, vs, r, s, fun p hp => Up.trans t1 (Up.new ra1 hp (reps_reverse rs) q)⟩
end
end Wx

set_option Elab.async false
set_option linter.all false
set_option maxRecDepth 100000
set_option maxHeartbeats 4000000
/-! WX18: zip. -/
namespace Wx
open PySem L2
def zipW (xs ys : List W) : List W := (xs.zip ys).map fun p => .tup [p.1, p.2]
theorem zipW_get {xs ys : List W} {i : Nat} {w : W} (h : (zipW xs ys)[i]? = some w) : ∃ x y, xs[i]? = some x ∧ ys[i]? = some y ∧ w = .tup [x, y] := by
  unfold zipW at h
  rw [List.getElem?_map] at h
  cases e : (xs.zip ys)[i]? with
  | none => rw [e] at h; cases h
  | some p =>
    rw [e] at h
    cases h
    obtain ⟨h1, h2⟩ := List.getElem?_zip_eq_some.mp e
    exact ⟨_, _, h1, h2, rfl⟩
theorem zipW_length {xs ys : List W} : (zipW xs ys).length = min xs.length ys.length := by unfold zipW; simp
theorem draws_zip {K : PySem.W.Frag} {H : Hp} {a b : Addr} {xs ys : List W} : Draws K H (Itz K a b) (zipW xs ys) (fun A => isL A a xs ∧ isL A b ys) where
  stop := fun i H' A t ra g hl => by
    obtain ⟨us, hs, r'⟩ := g.1.sq ra
    obtain ⟨vs, hs2, r2⟩ := g.2.sq ra
    refine ⟨us, vs, hs, hs2, ?_⟩
    rw [zipW_length] at hl
    rw [reps_length r', reps_length r2]
    omega
  go := fun i H' A w t ra g e => by
    obtain ⟨us, hs, r'⟩ := g.1.sq ra
    obtain ⟨vs, hs2, r2⟩ := g.2.sq ra
    obtain ⟨x, y, ex, ey, _⟩ := zipW_get e
    obtain ⟨v, ev, _⟩ := reps_get r' ex
    obtain ⟨v2, ev2, _⟩ := reps_get r2 ey
    exact ⟨us, vs, v, v2, hs, hs2, ev, ev2⟩
  yld := fun i H' A w x H2 t ra g e y => by
    obtain ⟨us, hs, r'⟩ := g.1.sq ra
    obtain ⟨vs, hs2, r2⟩ := g.2.sq ra
    obtain ⟨z, z2, ez, ez2, rfl⟩ := zipW_get e
    obtain ⟨v, ev, rv⟩ := reps_get r' ez
    obtain ⟨v2, ev2, rv2⟩ := reps_get r2 ez2
    obtain ⟨T, u, u2, rfl, hT, rfl, y1, y2⟩ := y
    have q1 := y1 us hs
    rw [ev] at q1
    cases q1
    have q2 := y2 vs hs2
    rw [ev2] at q2
    cases q2
    have tn : TupLe K H' (upd H' T (.tup [v, v2])) := tupLe_new hT
    exact ⟨tn, ra.new0 hT, rep_tup upd_same (reps_cons (rep_mono tn _ _ rv) (reps_cons (rep_mono tn _ _ rv2) reps_nil))⟩
theorem draws_zipT {K : PySem.W.Frag} {H : Hp} {a b : Addr} {us vs : List V} {xs ys : List W} (s1 : SqT K H a us) (s2 : SqT K H b vs) (r1 : reps K H us xs) (r2 : reps K H vs ys) : Draws K H (RZ.ItzT K a b) (zipW xs ys) (fun _ => True) where
  stop := fun i H' A t ra g hl => by
    refine ⟨us, vs, t.sq s1, t.sq s2, ?_⟩
    rw [zipW_length] at hl
    rw [reps_length r1, reps_length r2]
    omega
  go := fun i H' A w t ra g e => by
    obtain ⟨x, y, ex, ey, _⟩ := zipW_get e
    obtain ⟨v, ev, _⟩ := reps_get r1 ex
    obtain ⟨v2, ev2, _⟩ := reps_get r2 ey
    exact ⟨us, vs, v, v2, t.sq s1, t.sq s2, ev, ev2⟩
  yld := fun i H' A w x H2 t ra g e y => by
    obtain ⟨z, z2, ez, ez2, rfl⟩ := zipW_get e
    obtain ⟨v, ev, rv⟩ := reps_get r1 ez
    obtain ⟨v2, ev2, rv2⟩ := reps_get r2 ez2
    obtain ⟨T, u, u2, rfl, hT, rfl, y1, y2⟩ := y
    have q1 := y1 us (t.sq s1)
    rw [ev] at q1
    cases q1
    have q2 := y2 vs (t.sq s2)
    rw [ev2] at q2
    cases q2
    have tn : TupLe K H' (upd H' T (.tup [v, v2])) := tupLe_new hT
    exact ⟨tn, ra.new0 hT, rep_tup upd_same (reps_cons (rep_mono (t.trans tn) _ _ rv) (reps_cons (rep_mono (t.trans tn) _ _ rv2) reps_nil))⟩
/-- the items of a tuple value -/
def tupW (w : W) (xs : List W) : Prop := match w with
  | .tup us => us = xs
  | .ktup us => us = xs
  | _ => False
theorem tupW.sq {K : PySem.W.Frag} {H : Hp} {w : W} {xs : List W} {v : V} (h : tupW w xs) (r : rep K H v w) : ∃ p us, v = .ref p ∧ SqT K H p us ∧ reps K H us xs := by
  cases w with
  | tup us => simp only [rep] at r; obtain ⟨p, vs, e, s, rs⟩ := r; subst h; exact ⟨p, vs, e, SqT.of s, rs⟩
  | ktup us => simp only [rep] at r; obtain ⟨p, vs, e, s, rs⟩ := r; subst h; exact ⟨p, vs, e, s, rs⟩
  | ref p => exact False.elim h
  | non => exact False.elim h
  | bl _ => exact False.elim h
  | int _ => exact False.elim h
  | str _ => exact False.elim h
  | ty _ => exact False.elim h
def wZip (ta : TAw) : TIw := fun ω A R => ta ω A fun ws A1 => (∃ a b xs ys, ws = [.ref a, .ref b] ∧ isL A1 a xs ∧ isL A1 b ys ∧ R (zipW xs ys) (fun A' => isL A' a xs ∧ isL A' b ys) A1) ∨ ∃ u w xs ys, ws = [u, w] ∧ tupW u xs ∧ tupW w ys ∧ R (zipW xs ys) (fun _ => True) A1
section
variable {X : Cx} {e e2 : Expr} {ta : TAw} {p pos tpos : Pos} {elts : List Expr} {kk : Nat}
theorem wi_zip (hg : Gl X "zip") (hm : X.mg "zip" = none) (ha : WA X [e, e2] ta) (hs : starEach [e, e2] X.env = (false, eval e X.env) :: starEach [e2] X.env := by rfl) (hpl : (backTo pos (starEach [e2] X.env)).any (·.1) = false := by rfl) :
    WI X (.Tuple elts kk tpos) (.Call (.Name "zip" p) [e, e2] [] pos) (wZip ta) :=
  ⟨PI.imp (RZ.pi_zipA hg hm ha.pa hs hpl) fun σ H R ⟨ω, A, R', sm, ra, h, k⟩ => loA_i sm ra h fun vs H1 ws A1 t1 sm1 ra1 r q => by
    rcases q with ⟨a, b, xs, ys, e, h1, h2, q⟩ | ⟨u, w, xs, ys, e, h1, h2, q⟩
    · subst e
      obtain ⟨v1, r1, rfl, g1, r⟩ := reps_uncons r
      obtain ⟨v2, r2, rfl, g2, r⟩ := reps_uncons r
      obtain rfl := reps_unnil r
      simp only [rep] at g1 g2
      subst g1 g2
      obtain ⟨us, s1, _⟩ := h1.sq ra1
      obtain ⟨zs, s2, _⟩ := h2.sq ra1
      exact ⟨a, b, us, zs, rfl, .inl ⟨s1, s2, k _ _ _ _ _ t1 sm1 ra1 draws_zip q⟩⟩
    · subst e
      obtain ⟨v1, r1, rfl, g1, r⟩ := reps_uncons r
      obtain ⟨v2, r2, rfl, g2, r⟩ := reps_uncons r
      obtain rfl := reps_unnil r
      obtain ⟨a, us, rfl, s1, q1⟩ := h1.sq g1
      obtain ⟨b, zs, rfl, s2, q2⟩ := h2.sq g2
      exact ⟨a, b, us, zs, rfl, .inr ⟨s1, s2, k _ _ _ _ _ t1 sm1 ra1 (draws_zipT s1 s2 q1 q2) q⟩⟩⟩
end
end Wx

set_option Elab.async false
set_option linter.all false
set_option maxRecDepth 100000
set_option maxHeartbeats 4000000
/-! WX19: constants of the module; isinstance of one of several types; defs with defaults. -/
namespace Wx
open PySem L2
/-- the module's name x stands for w -/
structure GConst (K : PySem.W.Frag) (mg : Str → Option Value) (x : Str) (w : W) : Prop where
  ex : ∃ v u, mg x = some u ∧ RelV v u ∧ ∀ H, rep K H v w
section
variable {X : Cx} {x : Str} {w : W} {pos : Pos}
theorem GConst.we (c : GConst X.K X.mg x w) (hg : Gl X x) (hd : (x == ("__debug__" : Str)) = false := by decide) : WE X (.Name x pos) (wC w) :=
  let ⟨v, u, hm, r, h⟩ := c.ex; we_c (pe_glob hg hm r hd) h
end
section
variable {K : PySem.W.Frag} {mg : Str → Option Value} {x : Str}
theorem gc_str {z : Str} {t : Tok} (hm : mg x = some (.str z t)) : GConst K mg x (.str z) := ⟨.str z, _, hm, ⟨t, rfl⟩, fun _ => by simp only [rep]⟩
theorem gc_int {i : Int} {t : Tok} (hm : mg x = some (.int i t)) : GConst K mg x (.int i) := ⟨.int i, _, hm, ⟨t, rfl⟩, fun _ => by simp only [rep]⟩
/-- a flat tuple of texts and ints in the written part -/
def flatB : List Value → List W → Bool
  | [], [] => true
  | .str z _ :: us, .str y :: ws => decide (z = y) && flatB us ws
  | .int z _ :: us, .int y :: ws => decide (z = y) && flatB us ws
  | _, _ => false
theorem flatB_ok : ∀ {us : List Value} {ws : List W}, flatB us ws = true → ∃ vs, Vals vs us ∧ ∀ H, reps K H vs ws
  | [], [], _ => ⟨[], .nil, fun _ => reps_nil⟩
  | .str z t :: us, .str y :: ws, h => by
    simp only [flatB, Bool.and_eq_true, decide_eq_true_eq] at h
    obtain ⟨rfl, h2⟩ := h
    obtain ⟨vs, h3, h4⟩ := flatB_ok (us := us) (ws := ws) h2
    exact ⟨.str z :: vs, .cons ⟨t, rfl⟩ h3, fun H => reps_cons (by simp only [rep]) (h4 H)⟩
  | .int z t :: us, .int y :: ws, h => by
    simp only [flatB, Bool.and_eq_true, decide_eq_true_eq] at h
    obtain ⟨rfl, h2⟩ := h
    obtain ⟨vs, h3, h4⟩ := flatB_ok (us := us) (ws := ws) h2
    exact ⟨.int z :: vs, .cons ⟨t, rfl⟩ h3, fun H => reps_cons (by simp only [rep]) (h4 H)⟩
def ktupB (K : PySem.W.Frag) (a : Addr) (ws : List W) : Bool := match K.lookup a with
  | some ⟨.type "tuple", _, .seq its _, _⟩ => decide (its.size ≤ 1000) && flatB its.toList ws
  | _ => false
theorem gc_tup {a : Addr} {ws : List W} (hm : mg x = some (.ref a)) (h : ktupB K a ws = true) : GConst K mg x (.ktup ws) := by
  unfold ktupB at h
  split at h
  · rename_i dd its n sl ho
    simp only [Bool.and_eq_true, decide_eq_true_eq] at h
    obtain ⟨h1, h2⟩ := h
    obtain ⟨vs, h3, h4⟩ := flatB_ok (K := K) h2
    refine ⟨.ref a, _, hm, rfl, fun H => ?_⟩
    simp only [rep]
    exact ⟨a, vs, rfl, .inr ⟨_, its, n, ho, rfl, rfl, by rw [sizeLine_eq]; omega, h3⟩, h4 H⟩
  · cases h
end
/-! isinstance(x, (T, ..)) -/
def wIsiT (K : PySem.W.Frag) : List W → AH → VKw → Prop := fun ws A Q => ∃ x ts t us b, ws = [x, .tup ts] ∧ Paired clsW ts us ∧ tyO K A x t ∧ (∀ C, t ≠ .ref C) ∧ PySem.W.kitAny K t us = some b ∧ Q (.bl b) A
theorem clsWs.v {K : PySem.W.Frag} {H : Hp} {cs : List W} {us : List Value} {vs : List V} (h : Paired clsW cs us) (r : reps K H vs cs) : Paired ClsV vs us := by
  induction h generalizing vs with
  | nil => rw [reps_unnil r]; exact .nil
  | cons a t ih =>
    obtain ⟨v, vr, rfl, r1, r2⟩ := reps_uncons r
    exact .cons (a.v r1) (ih r2)
theorem cw_isiT {X : Cx} : CallW X (.builtin "isinstance") (wIsiT X.K) := CallW.of call_isiT fun H A vs ws Q ra r ⟨x, ts, t, us, b, e, hc, ty, hne, hk, q⟩ => by
  subst e
  obtain ⟨v1, r1, rfl, h1, r2⟩ := reps_uncons r
  obtain ⟨v2, r3, rfl, h2, r4⟩ := reps_uncons r2
  obtain rfl := reps_unnil r4
  simp only [rep] at h2
  obtain ⟨tp, cs, rfl, s, rs⟩ := h2
  rcases ty.x ra h1 with ty' | ⟨a, C, fs, _, _, _, _, e2⟩
  · exact ⟨v1, tp, cs, t, us, b, rfl, s, clsWs.v hc rs, ty', hk, Up.i ra (by simp only [rep]) q⟩
  · exact absurd e2 (hne C)
end Wx

set_option Elab.async false
set_option linter.all false
set_option maxRecDepth 100000
set_option maxHeartbeats 4000000
/-! WX20: l.extend(t). -/
namespace Wx
open PySem L2 PySem.AutoSeq1
theorem ext_tup (l b : Addr) (xs ys : Array Value) (n m : Nat) (dd : Option Addr) (sl : Array (Option Value)) (h0 : ¬(!xs.isEmpty && Builtin.List.listTooLong (xs.size + ys.size)) = true) (h1 : xs.size ≤ sizeLine) (h2 : xs.size + ys.size ≤ sizeLine + 1) :
    Meets (Builtin.«list.extend» ⟨[.ref l, .ref b], []⟩) (fun _ R s => s.heap.get? l = some { cls := .type "list", dict := none, data := .seq xs n, slots := #[] } ∧ s.heap.get? b = some { cls := .type "tuple", dict := dd, data := .seq ys m, slots := sl } ∧
      R (.ok (.ret Value.none)) { s with heap := s.heap.update l (Obj.mapSeq fun x => x ++ ys), toks := s.toks }) := by
  refine .of_wp fun prog w A R s h => ?_
  obtain ⟨hp, g, d, tk, os⟩ := s
  obtain ⟨hl, hb, h⟩ := h
  have k1 := idx_int
  have k2 := sub_tuple_tuple
  have k3 := sub_list_list
  have k4 := sub_tuple_list
  have k5 := sub_list_tuple
  have hz : (xs ++ ys).size ≤ sizeLine + 1 := Array.size_append ▸ h2
  wp_walk using (wpAny_updateSeq hl rfl (hz := h1) (_hz' := hz)), wpAny_loadPart' hl, wpAny_loadPart' hb
  exact ⟨_, rfl, h⟩
def rExtT (K : PySem.W.Frag) : V → List V → Hp → VK → Prop := fun x vs H Q => ∃ l b xs zs, x = .ref l ∧ vs = [.ref b] ∧ H l = some (.lst xs) ∧ SqT K H b zs ∧ xs.length + zs.length ≤ sizeLine ∧ Q .non (upd H l (.lst (xs ++ zs)))
section
variable {X : Cx}
theorem mt_extT : MtR X "list.extend" (rExtT X.K) := by
  intro pins s σ H x vs v us Q I rx rv ⟨l, b, xs, zs, e1, e2, hH, hB, hz, q⟩
  subst e1 e2
  cases rx
  obtain ⟨u, rfl, ru⟩ := rv.one
  cases ru
  obtain ⟨z, its, n, r, hl, e⟩ := I.lstM hH
  obtain ⟨jts, r2, ⟨o, e2, hc, m, hd⟩, z2⟩ := I.tuple hB
  have hl2 := r2.length
  obtain ⟨oc, dd, od, sl⟩ := o
  simp only at hc hd
  subst hc hd
  have hsum : its.toArray.size + jts.toArray.size ≤ sizeLine := by simp only [List.size_toArray]; omega
  have hnot : ¬ (!its.toArray.isEmpty && Builtin.List.listTooLong (its.toArray.size + jts.toArray.size)) = true := by rw [notLongL hsum]; simp
  refine call_meets F.slot_list_extend ⟨_, e, rfl⟩ F.entry_list_extend (F.args_list_extend_2 _ _) (ext_tup l b its.toArray jts.toArray n m dd sl hnot (by simp only [List.size_toArray]; omega) (by omega)) ⟨e, e2, ?_⟩
  exact ⟨.non, _, I.lset (its' := its ++ jts) hH e (by simp) (r.append r2) (by rw [List.length_append]; omega), rfl, q⟩
/-- l.extend(xs): a list or a tuple -/
def wExtend : W → List W → AH → VKw → Prop := fun x ws A Q => ∃ p xs w zs, x = .ref p ∧ ws = [w] ∧ A.h p = some (.lst xs) ∧ (tupW w zs ∨ ∃ b, w = .ref b ∧ A.h b = some (.lst zs)) ∧ xs.length + zs.length ≤ sizeLine ∧ Q .non (A.put p (.lst (xs ++ zs)))
theorem mw_extend : MtW X "list.extend" wExtend := by
  have h : MtR X "list.extend" (fun x vs H Q => rExtT X.K x vs H Q ∨ rExtend x vs H Q) := fun pins s σ H x vs v us Q I rx rv q => by
    rcases q with q | q
    · exact mt_extT pins s σ H x vs v us Q I rx rv q
    · exact mt_extend pins s σ H x vs v us Q I rx rv q
  refine MtW.of h fun H A x a vs ws Q ra ha r ⟨p, xs, w, zs, e1, e2, h1, h2, h3, q⟩ => ?_
  subst e1 e2
  simp only [rep] at ha
  obtain ⟨v, r0, rfl, r1, r2⟩ := reps_uncons r
  obtain rfl := reps_unnil r2
  obtain ⟨us, eu, ru⟩ := ra.lst h1
  rcases h2 with h2 | ⟨b, rfl, h2⟩
  · obtain ⟨b, js, rfl, sq, rj⟩ := h2.sq r1
    exact .inl ⟨p, b, us, js, ha, rfl, eu, sq, by rw [reps_length ru, reps_length rj]; exact h3, Up.setL ra h1 eu (reps_append ru rj) (by simp only [rep]) q⟩
  · simp only [rep] at r1
    subst r1
    obtain ⟨js, ej, rj⟩ := ra.lst h2
    exact .inr ⟨p, b, us, js, ha, rfl, eu, ej, by rw [reps_length ru, reps_length rj]; exact h3, Up.setL ra h1 eu (reps_append ru rj) (by simp only [rep]) q⟩
theorem hu65 {A : Around} {k : Nat} {g : Bool} (hr : RoomG g k A) : A.units + 65 < cLine := by have := hr.r.un; omega
/-- t.index(z), texts -/
def wTupIndex : W → List W → AH → VKw → Prop := fun x ws A Q => ∃ (w : W) (ys : List Str) (z : Str) (j : Nat), x = w ∧ ws = [.str z] ∧ tupW w (ys.map W.str) ∧ ys[j]? = some z ∧ (∀ m, m < j → ys[m]? ≠ some z) ∧ Q (.int (j : Nat)) A
theorem mw_tupIndex : MtW X "tuple.index" wTupIndex := MtW.of mt_tup_index fun H A x a vs ws Q ra ha r ⟨w, ys, z, j, e1, e2, h1, h2, h3, q⟩ => by
  subst e1 e2
  obtain ⟨v, r0, rfl, r1, r2⟩ := reps_uncons r
  obtain rfl := reps_unnil r2
  simp only [rep] at r1
  subst r1
  obtain ⟨p, us, rfl, sq, rs⟩ := h1.sq ha
  rw [reps_strs_inv rs] at sq
  exact ⟨p, ys, z, j, rfl, rfl, sq, h2, h3, Up.i ra (by simp only [rep]) q⟩
end
end Wx

set_option Elab.async false
set_option linter.all false
set_option maxRecDepth 100000
set_option maxHeartbeats 4000000
/-! WX21: < <= > >= of alike data. -/
namespace Wx
open PySem L2
/-- f: the answer from the two data -/
def wOrdD (f : PyData → PyData → Bool) : R2w := fun x y A Q => ∃ d e, DL A d x ∧ DL A e y ∧ PySem.W.alike d e = true ∧ d ≠ .none ∧ d.depth ≤ 60 ∧ Q (.bl (f d e)) A
section
variable {X : Cx}
theorem ow_ord {op : CmpOp} {f : PyData → PyData → Bool} (hu : X.A.units + 64 < cLine)
    (h : ∀ {s : Shared} {a b : Value} {d e : PyData} {as bs : List Addr} {Q : Value → Shared → Prop}, Reads s.heap a d as → Reads s.heap b e bs → PySem.W.alike d e = true → d ≠ .none → X.A.units + min d.depth e.depth < cLine → Q (.bool (f d e)) s → wpAny (model X.prog X.w) X.A (compareOp op a b) Q X.xe s) : OpW X (compareOp op) (wOrdD f) := by
  intro pins s σ H A x y u v a b Q I ra rx ry ha hb ⟨d, e, h1, h2, h3, h4, h5, q⟩
  obtain ⟨as, r1⟩ := Dp.reads I d x u (DL.dp ra d a x ha h1) rx
  obtain ⟨bs, r2⟩ := Dp.reads I e y v (DL.dp ra e b y hb h2) ry
  have hm : min d.depth e.depth ≤ d.depth := Nat.min_le_left _ _
  exact h r1 r2 h3 h4 (by omega) ⟨.bl (f d e), H, .bl (f d e), A, I, rfl, TupLe.refl (K := X.K) H, ra, by simp only [rep], q⟩
theorem ow_ltD (hu : X.A.units + 64 < cLine) : OpW X (compareOp .Lt) (wOrdD fun d e => PySem.W.dataLt d e) := ow_ord hu fun r1 r2 h hn hk hq => PySem.W.lt_data r1 r2 h hn hk hq
theorem ow_gtD (hu : X.A.units + 64 < cLine) : OpW X (compareOp .Gt) (wOrdD fun d e => PySem.W.dataLt e d) := ow_ord hu fun r1 r2 h hn hk hq => PySem.W.gt_data r1 r2 h hn hk hq
theorem ow_leD (hu : X.A.units + 64 < cLine) : OpW X (compareOp .LtE) (wOrdD fun d e => !PySem.W.dataLt e d) := ow_ord hu fun r1 r2 h hn hk hq => PySem.W.le_data r1 r2 h hn hk hq
theorem ow_geD (hu : X.A.units + 64 < cLine) : OpW X (compareOp .GtE) (wOrdD fun d e => !PySem.W.dataLt d e) := ow_ord hu fun r1 r2 h hn hk hq => PySem.W.ge_data r1 r2 h hn hk hq
end
end Wx

set_option Elab.async false
set_option linter.all false
set_option maxRecDepth 100000
set_option maxHeartbeats 4000000
/-! WX22: tables of any size 2^k: each slot is met. -/
namespace Wx
open PySem L2

def gq : Nat → Nat → Nat
  | 0, x => x
  | n + 1, x => 5 * gq n x + 1
theorem gq_four : ∀ n x, 4 * gq n x + 1 = 5 ^ n * (4 * x + 1)
  | 0, x => by simp [gq]
  | n + 1, x => by
    have ih := gq_four n x
    have e : 4 * gq (n + 1) x + 1 = 5 * (4 * gq n x + 1) := by simp only [gq]; omega
    rw [e, ih, Nat.pow_succ, Nat.mul_comm (5 ^ n) 5, Nat.mul_assoc]
theorem gq_add (a : Nat) : ∀ b x, gq (a + b) x = gq b (gq a x)
  | 0, x => rfl
  | b + 1, x => by
    show 5 * gq (a + b) x + 1 = 5 * gq b (gq a x) + 1
    rw [gq_add a b x]
theorem five_pow : ∀ k, ∃ c, 5 ^ (2 ^ k) = 1 + 2 ^ (k + 2) * (2 * c + 1)
  | 0 => ⟨0, by decide⟩
  | k + 1 => by
    obtain ⟨c, e⟩ := five_pow k
    have e2 : 5 ^ (2 ^ (k + 1)) = 5 ^ (2 ^ k) * 5 ^ (2 ^ k) := by rw [← Nat.pow_add, Nat.pow_succ]; congr 1; omega
    refine ⟨c + 2 ^ k * ((2 * c + 1) * (2 * c + 1)), ?_⟩
    rw [e2, e]
    have p3 : 2 ^ (k + 1 + 2) = 2 ^ k * 8 := by rw [show k + 1 + 2 = k + 3 by omega, Nat.pow_add]
    have p2 : 2 ^ (k + 2) = 2 ^ k * 4 := by rw [Nat.pow_add]
    rw [p3, p2]
    generalize 2 ^ k = r
    generalize hu : 2 * c + 1 = u
    have h1 : 2 * (c + r * (u * u)) + 1 = u + 2 * (r * (u * u)) := by omega
    rw [h1]
    have a1 : (1 + r * 4 * u) * (1 + r * 4 * u) = 1 + 8 * (r * u) + 16 * ((r * u) * (r * u)) := by
      have : r * 4 * u = 4 * (r * u) := by rw [Nat.mul_comm r 4, Nat.mul_assoc]
      rw [this]
      generalize r * u = z
      rw [Nat.add_mul, Nat.mul_add, Nat.mul_add, Nat.one_mul, Nat.mul_one]
      have : 4 * z * (4 * z) = 16 * (z * z) := by rw [Nat.mul_mul_mul_comm]
      omega
    have a2 : r * 8 * (u + 2 * (r * (u * u))) = 8 * (r * u) + 16 * ((r * u) * (r * u)) := by
      rw [Nat.mul_add, Nat.mul_comm r 8, Nat.mul_assoc]
      have : 8 * r * (2 * (r * (u * u))) = 16 * (r * u * (r * u)) := by
        rw [Nat.mul_mul_mul_comm, Nat.mul_mul_mul_comm r u r u, Nat.mul_assoc r r]
      omega
    omega
theorem gq_pow (k x : Nat) : ∃ e, gq (2 ^ k) x = x + 2 ^ k * (2 * e + 1) := by
  obtain ⟨c, h⟩ := five_pow k
  have f := gq_four (2 ^ k) x
  rw [h] at f
  have p2 : 2 ^ (k + 2) = 4 * 2 ^ k := by rw [Nat.pow_add]; omega
  rw [p2] at f
  generalize 2 ^ k = r at *
  refine ⟨c * (4 * x + 1) + 2 * x, ?_⟩
  have a : (1 + 4 * r * (2 * c + 1)) * (4 * x + 1) = (4 * x + 1) + 4 * (r * ((2 * c + 1) * (4 * x + 1))) := by
    rw [Nat.add_mul, Nat.one_mul, Nat.mul_assoc 4 r, Nat.mul_assoc 4, Nat.mul_assoc r]
  have b : (2 * c + 1) * (4 * x + 1) = 2 * (c * (4 * x + 1) + 2 * x) + 1 := by
    rw [Nat.add_mul, Nat.one_mul, Nat.mul_assoc]
    omega
  rw [a, b] at f
  omega
/-- each rest is met -/
theorem gq_meets : ∀ k x j, j < 2 ^ k → ∃ n, n < 2 ^ k ∧ gq n x % 2 ^ k = j
  | 0, x, j, h => ⟨0, by decide, by simp at h ⊢; omega⟩
  | k + 1, x, j, h => by
    have hp : 0 < 2 ^ k := Nat.pow_pos (by decide)
    have h2 : 2 ^ (k + 1) = 2 * 2 ^ k := by rw [Nat.pow_succ]; omega
    obtain ⟨n, hn, e⟩ := gq_meets k x (j % 2 ^ k) (Nat.mod_lt _ hp)
    obtain ⟨q, hq⟩ := gq_pow k (gq n x)
    rw [h2] at h ⊢
    generalize 2 ^ k = r at *
    have hm : gq n x % (2 * r) % r = j % r := by rw [Nat.mod_mod_of_dvd _ ⟨2, Nat.mul_comm _ _⟩]; exact e
    have hy : gq n x % (2 * r) < 2 * r := Nat.mod_lt _ (by omega)
    have hz : (gq n x + r * (2 * q + 1)) % (2 * r) = (gq n x % (2 * r) + r) % (2 * r) := by
      have : r * (2 * q + 1) = r + 2 * r * q := by rw [Nat.mul_add, Nat.mul_one, ← Nat.mul_assoc, Nat.mul_comm r 2]; omega
      rw [this, ← Nat.add_assoc, Nat.add_mul_mod_self_left, Nat.mod_add_mod]
    generalize hyy : gq n x % (2 * r) = y at *
    by_cases c : y = j
    · exact ⟨n, by omega, by rw [hyy, c]⟩
    · refine ⟨n + r, by omega, ?_⟩
      rw [gq_add, hq, hz]
      have d1 := Nat.div_add_mod y r
      have d2 := Nat.div_add_mod j r
      have q1 : y / r < 2 := Nat.div_lt_of_lt_mul (by omega)
      have q2 : j / r < 2 := Nat.div_lt_of_lt_mul (by omega)
      rw [hm] at d1
      generalize y / r = yq at *
      generalize j / r = jq at *
      rcases (by omega : (yq = 0 ∧ jq = 0) ∨ (yq = 1 ∧ jq = 1) ∨ (yq = 0 ∧ jq = 1) ∨ (yq = 1 ∧ jq = 0)) with ⟨z1, z2⟩ | ⟨z1, z2⟩ | ⟨z1, z2⟩ | ⟨z1, z2⟩
      · rw [z1] at d1; rw [z2] at d2; exact absurd (by omega) c
      · rw [z1] at d1; rw [z2] at d2; exact absurd (by omega) c
      · rw [z1, Nat.mul_zero] at d1; rw [z2, Nat.mul_one] at d2; rw [Nat.mod_eq_of_lt (by omega)]; omega
      · rw [z1, Nat.mul_one] at d1; rw [z2, Nat.mul_zero] at d2; rw [Nat.mod_eq_sub_mod (by omega), Nat.mod_eq_of_lt (by omega)]; omega
theorem lcgI_gq (m i : Nat) : ∀ n, lcgI m (i % (m + 1)) n = gq n i % (m + 1)
  | 0 => rfl
  | n + 1 => by
    show (lcgI m (i % (m + 1)) n * 5 + 1) % (m + 1) = (5 * gq n i + 1) % (m + 1)
    rw [lcgI_gq m i n, Nat.add_mod, Nat.mul_mod, Nat.mod_mod, ← Nat.mul_mod, ← Nat.add_mod, Nat.mul_comm]
/-- the sizes of tables: 2^k - 1 -/
def MG (m : Nat) : Prop := ∃ k, 3 ≤ k ∧ m + 1 = 2 ^ k
theorem MG.meets {m : Nat} (hm : MG m) (h : Int) {j : Nat} (hj : j ≤ m) : ∃ n, n ≤ m + 12 ∧ runI m (SetTable.bits h) n = j := by
  obtain ⟨k, _, e⟩ := hm
  obtain ⟨n, hn, q⟩ := gq_meets k (runI m (SetTable.bits h) 12) j (by omega)
  refine ⟨12 + n, by omega, ?_⟩
  have hi : runI m (SetTable.bits h) 12 % (m + 1) = runI m (SetTable.bits h) 12 := Nat.mod_eq_of_lt (Nat.lt_succ_of_le (runI_le m _ 12))
  rw [runI_tail (bits_lt h), ← hi, lcgI_gq, e]
  exact q
theorem MG.seven : MG 7 := ⟨3, Nat.le_refl _, rfl⟩
theorem MG.odd {m : Nat} (hm : MG m) : m % 2 = 1 := by
  obtain ⟨k, h, e⟩ := hm
  have : 2 ^ k = 2 * 2 ^ (k - 1) := by rw [← Nat.pow_succ']; congr 1; omega
  omega
/-- each slot stands on each way, early enough -/
theorem MG.way {m : Nat} (hm : MG m) (h : Int) {j : Nat} (hj : j ≤ m) : ∃ k, k < 10 * SetTable.turns m ∧ L2.way m h k = j := by
  obtain ⟨n, hn, e⟩ := hm.meets h hj
  obtain ⟨k, hk, e2⟩ := run_nth m (SetTable.bits h) n
  refine ⟨k, by unfold SetTable.turns; omega, ?_⟩
  show (nth m _ k).j = j
  rw [e2]
  exact e
theorem way_in {m : Nat} (h : Int) (k : Nat) : L2.way m h k ≤ m := by
  have hi : SetTable.bits h % (m + 1) ≤ m := Nat.le_of_lt_succ (Nat.mod_lt _ (Nat.succ_pos _))
  have r := runEnd_bd hi
  have q := nth_in (m := m) k (runAt m (SetTable.bits h % (m + 1)) (SetTable.bits h)) (by
    show SetTable.bits h % (m + 1) + (SetTable.runEnd m (SetTable.bits h % (m + 1)) - SetTable.bits h % (m + 1)) ≤ m
    omega)
  have q2 := Nat.le_trans (Nat.le_add_right _ _) q
  exact q2
end Wx

set_option Elab.async false
set_option linter.all false
set_option maxRecDepth 100000
set_option maxHeartbeats 4000000
/-! WX23: a set's table of any size: the search, one put in, all laid anew. -/
namespace Wx
open PySem L2

structure TabG (t : SetTable) (gs : List Int) : Prop where
  up : Ris t.place.toList
  nod : t.dummies = #[]
  len : t.place.size = gs.length
  big : MG t.mask
  inn : ∀ x ∈ t.place.toList, x ≤ t.mask
  met : ∀ (i : Nat) (g : Int) (j : Nat), gs[i]? = some g → t.place.toList[i]? = some j → ∃ n, way t.mask g n = j ∧ ∀ c, c < n → way t.mask g c ∈ t.place.toList
variable {t : SetTable} {gs : List Int}
theorem TabG.lenL (T : TabG t gs) : t.place.toList.length = gs.length := by rw [Array.length_toList]; exact T.len
theorem TabG.gap (T : TabG t gs) (hl : gs.length ≤ t.mask) (g : Int) :
    ∃ n, n < 10 * SetTable.turns t.mask ∧ way t.mask g n ∉ t.place.toList ∧ ∀ c, c < n → way t.mask g c ∈ t.place.toList := by
  obtain ⟨j, hj, no⟩ := st_missing t.place.toList (t.mask + 1) (by rw [T.lenL]; omega)
  obtain ⟨n, hn, e⟩ := T.big.way g (Nat.le_of_lt_succ hj)
  obtain ⟨l, h1, h2, h3⟩ := st_least (p := fun n => way t.mask g n ∉ t.place.toList) n (by rw [e]; exact no)
  exact ⟨l, Nat.lt_of_le_of_lt h1 hn, h2, fun c hc => Classical.not_not.mp (h3 c hc)⟩
theorem TabG.ahead (T : TabG t gs) {g : Int} {n i j : Nat} (no : way t.mask g n ∉ t.place.toList) (hi : gs[i]? = some g) (hj : t.place.toList[i]? = some j) : ∃ c, c < n ∧ way t.mask g c = j := by
  obtain ⟨k, e, b⟩ := T.met i g j hi hj
  refine ⟨k, Nat.lt_of_not_le fun z => no ?_, e⟩
  rcases Nat.lt_or_eq_of_le z with z | z
  · exact b n z
  · rw [z, e]; exact List.mem_of_getElem? hj
/-- g is put in at the first gap of its way -/
theorem TabG.put (T : TabG t gs) {g : Int} {n p : Nat} (no : way t.mask g n ∉ t.place.toList) (hb : ∀ c, c < n → way t.mask g c ∈ t.place.toList) (hp : p = SetTable.below t.place (way t.mask g n)) :
    p ≤ gs.length ∧ TabG (t.put (way t.mask g n)).1 (gs.take p ++ g :: gs.drop p) := by
  have hw : way t.mask g n ≤ t.mask := way_in g n
  obtain ⟨c1, _, _⟩ := below_cut T.up (way t.mask g n)
  rw [← hp] at c1
  have p1 : p ≤ gs.length := by rw [← T.len]; exact c1
  have p2 : p ≤ t.place.toList.length := by rw [T.lenL]; exact p1
  have pl := put_place t (way t.mask g n)
  rw [← hp] at pl
  have more : ∀ x, x ∈ t.place.toList → x ∈ (t.put (way t.mask g n)).1.place.toList := fun x hx => by rw [pl]; exact mem_ins.2 (.inr hx)
  refine ⟨p1, ris_insert T.up fun e => no (List.mem_of_getElem? (by rw [Array.getElem?_toList]; exact e)), put_dm T.nod _, ?_, T.big, fun x hx => ?_, fun i g' j h1 h2 => ?_⟩
  · rw [← Array.length_toList, pl, len_ins _ p2, len_ins _ p1, T.lenL]
  · rw [pl] at hx
    rcases mem_ins.1 hx with z | z
    · rw [z]; exact hw
    · exact T.inn x z
  · rw [tins_get gs p1] at h1
    rw [pl, tins_get _ p2] at h2
    have old : ∀ i', gs[i']? = some g' → t.place.toList[i']? = some j → ∃ c, way t.mask g' c = j ∧ ∀ d, d < c → way t.mask g' d ∈ (t.put (way t.mask g n)).1.place.toList := fun i' a b => by
      obtain ⟨c, e, z⟩ := T.met i' g' j a b
      exact ⟨c, e, fun d hd => more _ (z d hd)⟩
    split at h1
    · rename_i c
      rw [if_pos c] at h2
      exact old i h1 h2
    · rename_i c
      rw [if_neg c] at h2
      split at h1
      · rename_i d
        rw [if_pos d] at h2
        cases h1
        cases h2
        exact ⟨n, rfl, fun d hd => more _ (hb d hd)⟩
      · rename_i d
        rw [if_neg d] at h2
        exact old (i - 1) h1 h2
theorem put_fill (T : TabG t gs) (j : Nat) : (t.put j).1.mask = t.mask ∧ (t.put j).1.led = t.led ∧ (t.put j).1.plain = t.plain ∧ (t.put j).2 = SetTable.below t.place j := ⟨rfl, rfl, rfl, rfl⟩

/-! ### all laid anew -/
theorem mg_free {m : Nat} (hm : MG m) (owner : Array (Option Nat)) (g : Int) {j : Nat} (hj : j ≤ m) (hf : oAt owner j = none) :
    ∃ n, SetTable.layClean.free m owner (SetTable.turns m) (SetTable.bits g % (m + 1)) (SetTable.bits g) = some (way m g n) ∧ oAt owner (way m g n) = none ∧ ∀ c, c < n → oAt owner (way m g c) ≠ none := by
  obtain ⟨r, hr, e⟩ := hm.meets g hj
  have at_ : way m g (off m (SetTable.bits g % (m + 1)) (SetTable.bits g) r) = j := by
    show (nth m _ _).j = j
    rw [nth_off, itL_run]
    exact e
  obtain ⟨n, n1, n2, n3⟩ := st_least (p := fun c => oAt owner (way m g c) = none) _ (by rw [at_]; exact hf)
  refine ⟨n, free_spec m owner _ r _ _ n (by unfold SetTable.turns; omega) n1 (fun c hc => ?_) ?_, n2, n3⟩
  · cases z : oAt owner (nth m (runAt m (SetTable.bits g % (m + 1)) (SetTable.bits g)) c).j with
    | some _ => rfl
    | none => exact absurd z (n3 c hc)
  · have q : oAt owner (nth m (runAt m (SetTable.bits g % (m + 1)) (SetTable.bits g)) n).j = none := n2
    rw [q]; rfl
theorem own_step {m : Nat} (hm : MG m) {done : List Int} {owner : Array (Option Nat)} (W : Own m done owner) (hl : done.length ≤ m) (g : Int) :
    ∃ j, SetTable.layClean.free m owner (SetTable.turns m) (SetTable.bits g % (m + 1)) (SetTable.bits g) = some j ∧ Own m (done ++ [g]) (owner.setIfInBounds j (some done.length)) := by
  obtain ⟨ps, l1, l2⟩ := W.ps
  obtain ⟨x, hx, nx⟩ := st_missing ps (m + 1) (by omega)
  have fx : oAt owner x = none := by
    cases z : oAt owner x with
    | none => rfl
    | some _ => exact absurd (l2 x (Nat.le_of_lt_succ hx) (by rw [z]; simp)) nx
  obtain ⟨n, e1, e2, e3⟩ := mg_free hm owner g (Nat.le_of_lt_succ hx) fx
  refine ⟨_, e1, ?_⟩
  have hw : way m g n ≤ m := way_in g n
  generalize hj : way m g n = j at *
  have hs : oAt (owner.setIfInBounds j (some done.length)) j = some done.length := oAt_set_self _ (by rw [W.sz]; omega)
  have ho : ∀ i, i ≠ j → oAt (owner.setIfInBounds j (some done.length)) i = oAt owner i := fun i c => oAt_set_ne _ c
  have up : ∀ i, oAt owner i ≠ none → oAt (owner.setIfInBounds j (some done.length)) i ≠ none := fun i hi => by
    by_cases c : i = j
    · rw [c, hs]; simp
    · rw [ho i c]; exact hi
  constructor
  · rw [Array.size_setIfInBounds]; exact W.sz
  · intro i k hi e
    by_cases c : i = j
    · rw [c, hs] at e
      cases e
      exact ⟨g, n, by simp, by rw [c]; exact hj, fun d hd => up _ (e3 d hd)⟩
    · rw [ho i c] at e
      obtain ⟨g', n', a, b, d⟩ := W.at_ i k hi e
      exact ⟨g', n', by rw [List.getElem?_append_left (List.getElem?_eq_some_iff.mp a).1]; exact a, b, fun q hq => up _ (d q hq)⟩
  · intro k hk
    rw [List.length_append, List.length_singleton] at hk
    rcases Nat.lt_or_eq_of_le (Nat.le_of_lt_succ hk) with c | c
    · obtain ⟨i, hi, e⟩ := W.all k c
      exact ⟨i, hi, by rw [ho i (fun z => by rw [z, e2] at e; cases e)]; exact e⟩
    · exact ⟨j, hw, by rw [hs, c]⟩
  · refine ⟨j :: ps, by simp [l1], fun i hi e => ?_⟩
    by_cases c : i = j
    · rw [c]; exact List.mem_cons_self
    · rw [ho i c] at e
      exact List.mem_cons_of_mem _ (l2 i hi e)
theorem own_fold {m : Nat} (hm : MG m) : ∀ (rest done : List Int) (owner : Array (Option Nat)), Own m done owner → done.length + rest.length ≤ m →
    ∃ owner', rest.foldl (stepF m) (some (owner, done.length)) = some (owner', (done ++ rest).length) ∧ Own m (done ++ rest) owner'
  | [], done, owner, W, _ => ⟨owner, by simp, by simpa using W⟩
  | g :: rest, done, owner, W, hl => by
    rw [List.length_cons] at hl
    obtain ⟨j, e, W1⟩ := own_step hm W (by omega) g
    obtain ⟨owner', f, W2⟩ := own_fold hm rest (done ++ [g]) _ W1 (by simp; omega)
    refine ⟨owner', ?_, by simpa using W2⟩
    rw [List.foldl_cons, stepF_some e]
    simpa using f
theorem own_all {m : Nat} (hm : MG m) {hs : Array Int} (hn : hs.size ≤ m) : ∃ owner, SetTable.layClean m hs = some owner ∧ Own m hs.toList owner := by
  obtain ⟨owner, f, W⟩ := own_fold hm hs.toList [] _ (Own.init m) (by simp; exact hn)
  refine ⟨owner, ?_, by simpa using W⟩
  rw [layClean_eq]
  simp only [List.length_nil] at f
  rw [f]
  rfl
theorem live_fst {m : Nat} (owner : Array (Option Nat)) : Ris ((liveOf m owner).map (·.1)) ∧ ∀ x ∈ (liveOf m owner).map (·.1), x ≤ m := by
  have r := ris_live (fun j => owner.getD j none) (List.range (m + 1)) (by unfold Ris; exact List.pairwise_lt_range)
  exact ⟨r.1, fun x hx => Nat.le_of_lt_succ (List.mem_range.mp (r.2 x hx))⟩
theorem relaid_any (t : SetTable) {hs : Array Int} {wanted m : Nat} (hw : SetTable.sizeAbove wanted - 1 = m) (hm : MG m) (hn : hs.size ≤ m) :
    ∃ t' order, t.relaid hs wanted = some (t', order) ∧ order.toList.Perm (List.range hs.size) ∧ TabG t' (order.toList.map fun i => hs.getD i 0) ∧ t'.mask = m ∧ t'.led = t.led := by
  obtain ⟨owner, e, W⟩ := own_all hm hn
  have hr : t.relaid hs wanted = some (tabOf t m owner, ((liveOf m owner).map (·.2)).toArray) := by rw [relaid_eq, hw, e]; rfl
  obtain ⟨r1, r2⟩ := live_fst (m := m) owner
  have d1 : ((liveOf m owner).map (·.1)).Nodup := r1.imp fun h => Nat.ne_of_lt h
  have every : ∀ k, k < hs.size → k ∈ (liveOf m owner).map (·.2) := fun k hk => by
    obtain ⟨j, a, b⟩ := W.all k (by simpa using hk)
    exact List.mem_map.mpr ⟨(j, k), (mem_live W.sz).2 ⟨a, b⟩, rfl⟩
  have hlen : (liveOf m owner).length = hs.size := by
    obtain ⟨ps, p1, p2⟩ := W.ps
    have a := nat_nodup_len _ ps d1 fun x hx => by
      obtain ⟨⟨y, k⟩, hq, rfl⟩ := List.mem_map.mp hx
      obtain ⟨b1, b2⟩ := (mem_live W.sz).1 hq
      exact p2 y b1 (by rw [b2]; simp)
    have b := nat_nodup_len (List.range hs.size) _ List.nodup_range fun k hk => every k (List.mem_range.mp hk)
    simp only [List.length_map, List.length_range, p1, Array.length_toList] at a b
    omega
  refine ⟨tabOf t m owner, _, hr, perm_range hs.size _ (by simpa using hlen) every, ⟨r1, rfl, by simp [tabOf], hm, r2, fun i g j h1 h2 => ?_⟩, rfl, rfl⟩
  have h1' : (((liveOf m owner).map (·.2)).map fun i => hs.getD i 0)[i]? = some g := h1
  have h2' : ((liveOf m owner).map (·.1))[i]? = some j := h2
  rw [List.getElem?_map, List.getElem?_map] at h1'
  rw [List.getElem?_map] at h2'
  cases hq : (liveOf m owner)[i]? with
  | none => rw [hq] at h2'; cases h2'
  | some q =>
    obtain ⟨y, k⟩ := q
    rw [hq] at h1' h2'
    cases h1'
    cases h2'
    obtain ⟨b1, b2⟩ := (mem_live W.sz).1 (List.mem_of_getElem? hq)
    obtain ⟨g0, n, a1, a2, a3⟩ := W.at_ y k b1 b2
    have e0 : hs.getD k 0 = g0 := by
      rw [Array.getD_eq_getD_getElem?, ← Array.getElem?_toList, a1]; rfl
    refine ⟨n, by show way m (hs.getD k 0) n = y; rw [e0]; exact a2, fun c hc => ?_⟩
    have a3' := a3 c hc
    show way m (hs.getD k 0) c ∈ (liveOf m owner).map (·.1)
    rw [e0]
    cases z : oAt owner (way m g0 c) with
    | none => exact absurd z a3'
    | some k2 => exact List.mem_map.mpr ⟨(_, k2), (mem_live W.sz).2 ⟨way_in g0 c, z⟩, rfl⟩
end Wx

set_option Elab.async false
set_option linter.all false
set_option maxRecDepth 100000
set_option maxHeartbeats 4000000
/-! WX24: sets of things that are hashed on the heap (tuples), up to 2047 of them. -/
namespace Wx
open PySem L2 PyProof.Rows

structure RefSys (P : Program) (w : World) (K : Type) [DecidableEq K] where
  is : Heap → K → Addr → Prop
  hash : K → Int
  draws : K → Nat
  one : ∀ {h : Heap} {b : Addr} {x y : K}, is h x b → is h y b → x = y
  grow : ∀ {h h' : Heap} {k : K} {b : Addr}, is h k b → (∀ c o, h.get? c = some o → h'.get? c = some o) → is h' k b
  but : ∀ {h h' : Heap} {k : K} {b a : Addr} {o : Obj} {es ep t}, is h k b → h.get? a = some o → o.data = .set es ep t → Heap.SameBut a h h' → is h' k b
  gh : ∀ {A : Around} {E : Value → Shared → Prop} {s : Shared} {k : K} {b : Addr} {Q : Int → Shared → Prop}, A.units + 16 < cLine → is s.heap k b → Q (hash k) { s with toks := s.toks + draws k } → wpAny (model P w) A (pyHash (.ref b)) Q E s
  ge : ∀ {A : Around} {E : Value → Shared → Prop} {s : Shared} {x y : K} {b c : Addr} {Q : Bool → Shared → Prop}, A.units + 16 < cLine → is s.heap x b → is s.heap y c → Q (decide (x = y)) s → wpAny (model P w) A (eqBool (.ref b) (.ref c)) Q E s
  gq : ∀ {A : Around} {E : Value → Shared → Prop} {s : Shared} {k : K} {b : Addr} {Q : Bool → Shared → Prop}, is s.heap k b → Q true s → wpAny (model P w) A (eqIsQuiet 8 (.ref b)) Q E s
  gc : ∀ {A : Around} {E : Value → Shared → Prop} {s : Shared} {k : K} {b : Addr} {Q : Bool → Shared → Prop}, is s.heap k b → Q false s → wpAny (model P w) A (ofAClassStatement 8 (.ref b)) Q E s
  gv : ∀ {A : Around} {E : Value → Shared → Prop} {s : Shared} {k : K} {b : Addr} {Q : Bool → Shared → Prop}, is s.heap k b → (∀ z, Q z s) → wpAny (model P w) A (hashByValue 8 (.ref b)) Q E s

/-! ### sizes -/
theorem above_go (n : Nat) : ∀ f z, n < z * 2 ^ f → ∃ j, SetTable.sizeAbove.go n f z = z * 2 ^ j ∧ n < z * 2 ^ j ∧ (j = 0 ∨ z * 2 ^ j ≤ 2 * n)
  | 0, z, h => ⟨0, by unfold SetTable.sizeAbove.go; simp, h, .inl rfl⟩
  | f + 1, z, h => by
    by_cases c : z ≤ n
    · obtain ⟨j, e, a, b⟩ := above_go n f (z * 2) (by rw [Nat.mul_assoc, ← Nat.pow_succ']; exact h)
      have m : z * 2 * 2 ^ j = z * 2 ^ (j + 1) := by rw [Nat.mul_assoc, ← Nat.pow_succ']
      rw [m] at e a b
      refine ⟨j + 1, ?_, a, .inr ?_⟩
      · unfold SetTable.sizeAbove.go
        rw [if_pos c]
        exact e
      · rcases b with b | b
        · subst b
          omega
        · exact b
    · refine ⟨0, ?_, by omega, .inl rfl⟩
      unfold SetTable.sizeAbove.go
      rw [if_neg c]
      omega
/-- the size behind n + 1 members -/
theorem above_ok {u : Nat} (hu : u < 2048) : ∃ m, SetTable.sizeAbove (SetTable.grown u) - 1 = m ∧ MG m ∧ m ≤ 8191 ∧ u * 5 < m * 3 ∧ u ≤ m ∧ SetTable.sizeAbove (SetTable.grown u) ≤ 8192 := by
  have g : SetTable.grown u = u * 4 := by
    unfold SetTable.grown
    rw [if_neg (by omega)]
  obtain ⟨j, e, a, b⟩ := above_go (u * 4) 64 8 (by
    have : (2 : Nat) ^ 14 ≤ 8 * 2 ^ 64 := by decide
    omega)
  have e' : SetTable.sizeAbove (SetTable.grown u) = 8 * 2 ^ j := by
    rw [g]
    exact e
  have p : 8 * 2 ^ j = 2 ^ (j + 3) := by rw [Nat.pow_add]; omega
  have le : 8 * 2 ^ j ≤ 8192 := by
    rcases b with b | b
    · subst b; decide
    · have h1 : 2 ^ (j + 3) < 2 ^ 14 := by rw [← p]; omega
      have h2 : j + 3 < 14 := (Nat.pow_lt_pow_iff_right (by decide)).mp h1
      have h3 : 2 ^ (j + 3) ≤ 2 ^ 13 := Nat.pow_le_pow_right (by decide) (by omega)
      omega
  have pos : 1 ≤ 2 ^ j := Nat.pow_pos (by decide)
  refine ⟨8 * 2 ^ j - 1, by rw [e'], ⟨j + 3, by omega, by omega⟩, by omega, by omega, by omega, by rw [e']; exact le⟩

section
variable {P : Program} {w : World} {K : Type} [DecidableEq K] {S : RefSys P w K}
def rowsK (S : RefSys P w K) (L : List (K × Addr)) : List (Int × Value) := L.map fun p => (S.hash p.1, Value.ref p.2)
structure SG (S : RefSys P w K) (h : Heap) (a : Addr) (L : List (K × Addr)) (es : Array (Int × Value)) (ep : Nat) (t : SetTable) : Prop where
  ob : ∃ o, h.get? a = some o ∧ o.ExactSet ∧ o.data = .set es ep t
  rows : es.toList = rowsK S L
  tab : TabG t (L.map fun p => S.hash p.1)
  nd : (L.map (·.1)).Nodup
  each : ∀ p ∈ L, S.is h p.1 p.2
  led : w.params.followText "set-order" = true ∨ t.led = true
  room : L.length * 5 < t.mask * 3
  few : L.length < 2048
  cap : t.mask ≤ 8191
variable {A : Around} {E : Value → Shared → Prop} {s : Shared} {a : Addr} {L : List (K × Addr)} {es : Array (Int × Value)} {ep : Nat} {t : SetTable}
theorem rowsK_len {L : List (K × Addr)} {es : Array (Int × Value)} (h : es.toList = rowsK S L) : es.size = L.length := by
  rw [← Array.length_toList, h]
  exact List.length_map _
theorem rowsK_at {L : List (K × Addr)} {es : Array (Int × Value)} (h : es.toList = rowsK S L) {i : Nat} {p : K × Addr} (e : L[i]? = some p) : es[i]? = some (S.hash p.1, Value.ref p.2) := by
  rw [← Array.getElem?_toList, h]
  unfold rowsK
  rw [List.getElem?_map, e]
  rfl
theorem fitsK {t : SetTable} {n : Nat} (h1 : t.place.size = n) (h2 : t.dummies = #[]) (h3 : n ≤ t.mask) : t.fits n = true := by
  unfold SetTable.fits SetTable.fill
  rw [h2, h1]
  simpa using h3
theorem SG.fits (R : SG S s.heap a L es ep t) : t.fits es.size = true := by
  have := R.room
  have h := R.tab.len
  rw [List.length_map] at h
  refine fitsK (by rw [rowsK_len R.rows, h]) R.tab.nod ?_
  rw [rowsK_len R.rows]
  omega

theorem nth_dummy (m : Nat) : ∀ (n : Nat) (p : SetTable.Probe), p.dummy = none → (nth m p n).dummy = none
  | 0, _, h => h
  | n + 1, p, h => nth_dummy m n (adv m p) (by unfold adv; split <;> exact h)
/-- the search is quiet -/
theorem seenK {k : K} {b : Addr} {Q : Bool → Shared → Prop} (hk : S.is s.heap k b) {ys : List Value} (hy : ∀ y ∈ ys, ∃ k' c, y = Value.ref c ∧ S.is s.heap k' c) (h : Q false s) :
    wpAny (model P w) A (searchCouldBeSeen (.ref b) ys) Q E s := by
  unfold searchCouldBeSeen
  refine wpAny_bind (wpAny_forIn_list _ (fun l r u => r.1 = none ∧ u = s ∧ ∀ y ∈ l, ∃ k' c, y = Value.ref c ∧ S.is s.heap k' c) _ ?_ ?_ _ _ ⟨rfl, rfl, hy⟩)
  · rintro y l r u ⟨hr, eu, hall⟩
    subst eu
    obtain ⟨k', c, ey, hc⟩ := hall y List.mem_cons_self
    subst ey
    have tl : ∀ y ∈ l, ∃ k' c, y = Value.ref c ∧ S.is u.heap k' c := fun v hv => hall v (List.mem_cons_of_mem _ hv)
    dsimp only
    by_cases hv : (b == c || (carriedByValue (.ref b) && carriedByValue (.ref c))) = true
    · exact wp_if_pos hv (wpAny_pure ⟨rfl, rfl, tl⟩)
    · refine wp_if_neg hv (wpAny_bind (S.gq hk ?_))
      simp only [Bool.not_true, Bool.false_eq_true, if_false]
      refine wpAny_bind (S.gq hc ?_)
      simp only [Bool.not_true, Bool.false_eq_true, if_false]
      refine wpAny_bind (S.gc hk ?_)
      simp only [Bool.false_eq_true, if_false]
      refine wpAny_bind (S.gc hc ?_)
      simp only [Bool.false_eq_true, if_false]
      exact wpAny_pure ⟨rfl, rfl, tl⟩
  · rintro ⟨r1, r2⟩ u ⟨hr, eu, _⟩
    subst eu
    simp only at hr
    subst hr
    exact wpAny_pure h
abbrev startK (t : SetTable) (g : Int) : SetTable.Probe := runAt t.mask (SetTable.bits g % (t.mask + 1)) (SetTable.bits g)
/-- THE SEARCH, from the c-th step of the way on -/
theorem sg_search (R : SG S s.heap a L es ep t) {x : Addr} {k : K} (hx : S.is s.heap k x) (hu : A.units + 16 < cLine) {n : Nat} (hn : n < 10 * SetTable.turns t.mask)
    (no : way t.mask (S.hash k) n ∉ t.place.toList) (hb : ∀ c, c < n → way t.mask (S.hash k) c ∈ t.place.toList) {Q : SetFound → Shared → Prop}
    (hin : k ∈ L.map (·.1) → Q (.there none) s) (hout : k ∉ L.map (·.1) → Q (.free (way t.mask (S.hash k) n) false) s) :
    ∀ (f c : Nat) (stand : Option SetTable.Probe), stand.getD (t.probeStart (S.hash k)) = nth t.mask (startK t (S.hash k)) c → c ≤ n → n - c < f →
      (∀ (i : Nat) p, L[i]? = some p → p.1 = k → ∃ d, c ≤ d ∧ d < n ∧ t.place.toList[i]? = some (way t.mask (S.hash k) d)) →
      wpAny (model P w) A (setSearchFrom a (.ref x) (S.hash k) true f stand) Q E s := by
  intro f
  induction f with
  | zero => intro c stand _ _ hf; exact absurd hf (Nat.not_lt_zero _)
  | succ f ih =>
    intro c stand hst hc hf hre
    obtain ⟨o, ho, hex, hd⟩ := R.ob
    rw [setSearchFrom_succ]
    refine wpAny_bind (wpAny_setState_of ho hd R.fits ?_)
    dsimp only
    refine wp_if_neg (by unfold SetTable.gaveWay; rw [R.tab.big.odd]; decide) ?_
    try refine wpAny_bind (wpAny_pure ?_)
    have sh : ∀ q, nth t.mask (nth t.mask (startK t (S.hash k)) c) q = nth t.mask (startK t (S.hash k)) (c + q) := fun q => (nth_add t.mask c _ q).symm
    have shj : ∀ q, (nth t.mask (nth t.mask (startK t (S.hash k)) c) q).j = way t.mask (S.hash k) (c + q) := fun q => congrArg SetTable.Probe.j (sh q)
    have nc : c + (n - c) = n := by omega
    have hashAt : ∀ (i : Nat) p, L[i]? = some p → (es[i]?.map (·.1)).getD 0 = S.hash p.1 := fun i p hp => by rw [rowsK_at R.rows hp]; rfl
    -- what the law of the table says of each place with the key
    have there : ∀ (i : Nat) (p : K × Addr) (d : Nat), L[i]? = some p → p.1 = k → c ≤ d → t.place.toList[i]? = some (way t.mask (S.hash k) d) →
        ∀ m, (∀ (q' i' : Nat), q' < m → t.place.toList[i']? = some (nth t.mask (nth t.mask (startK t (S.hash k)) c) q').j → (es[i']?.map (·.1)).getD 0 ≠ S.hash k) → c + m ≤ d := fun i p d h1 h2 h3 h4 m hno => by
      refine Nat.le_of_not_lt fun z => hno (d - c) i (by omega) ?_ ?_
      · rw [shj, h4]
        congr 2
        omega
      · rw [hashAt i p h1, h2]
    rcases go_spec t R.tab.up R.tab.nod (fun i => (es[i]?.map (·.1)).getD 0) (S.hash k) (10 * SetTable.turns t.mask) (n - c) _ (nth_dummy t.mask c _ rfl) (by omega)
      (fun q hq => by rw [shj]; exact hb (c + q) (by omega)) (by rw [shj, nc]; exact no) with ⟨q, i, hq, hi, hh, hno, hpr⟩ | ⟨hno, hpr⟩
    · have met : t.probe (fun i => (es[i]?.map (·.1)).getD 0) (S.hash k) (stand.getD (t.probeStart (S.hash k))) = some (.candidate (way t.mask (S.hash k) (c + q)) i (nth t.mask (startK t (S.hash k)) (c + (q + 1)))) := by
        rw [hst, ← shj, ← sh]
        exact hpr
      rw [met]
      dsimp only
      rw [shj] at hi
      have hil : i < L.length := by
        have h1 := (List.getElem?_eq_some_iff.mp hi).1
        rw [R.tab.lenL, List.length_map] at h1
        exact h1
      obtain ⟨p, hp⟩ : ∃ p, L[i]? = some p := ⟨_, List.getElem?_eq_getElem hil⟩
      have hm := List.mem_of_getElem? hp
      have hsl : t.slot (way t.mask (S.hash k) (c + q)) = .live i := slot_live R.tab.up hi
      have tail : wpAny (model P w) A (searchRest a (.ref x) (S.hash k) true f es t (way t.mask (S.hash k) (c + q)) i (nth t.mask (startK t (S.hash k)) (c + (q + 1)))) Q E s := by
        unfold searchRest
        rw [rowsK_at R.rows hp]
        dsimp only
        refine wpAny_bind (wpAny_holding (S.ge hu (R.each p hm) hx ?_))
        refine wpAny_bind (wpAny_setState_of ho hd R.fits ?_)
        dsimp only
        by_cases same : p.1 = k
        · exact wp_if_pos (by simp [same]) (wpAny_pure (hin (List.mem_map.mpr ⟨p, hm, same⟩)))
        · refine wp_if_neg (by simp [same]) ?_
          try refine wpAny_bind (wpAny_pure ?_)
          rw [sameMem]
          dsimp only
          simp only [if_true, hsl, rowsK_at R.rows hp]
          refine wpAny_bind (wpAny_isSame_ref_self (wpAny_bind (wpAny_pure ?_)))
          simp only [if_true]
          refine wp_if_neg (by simp [same]) (ih (c + (q + 1)) _ rfl (by omega) (by omega) fun i0 p0 h0 e0 => ?_)
          obtain ⟨d, d1, d2, d3⟩ := hre i0 p0 h0 e0
          have ge := there i0 p0 d h0 e0 d1 d3 q hno
          refine ⟨d, ?_, d2, d3⟩
          rcases Nat.lt_or_eq_of_le ge with z | z
          · omega
          · exfalso
            rw [← z] at d3
            have e1 := slot_live R.tab.up d3
            rw [hsl] at e1
            injection e1 with e1
            rw [← e1, hp] at h0
            cases h0
            exact same e0
      by_cases hl : t.led = true
      · refine wp_if_neg (by simp [hl]) ?_
        try refine wpAny_bind (wpAny_pure ?_)
        exact tail
      · refine wp_if_pos (by simp [hl]) (wpAny_bind (seenK hx (fun y hy => ?_) (wp_if_neg (by decide) ?_)))
        · obtain ⟨e, he, ee⟩ := List.mem_map.mp hy
          have he2 : e ∈ es.toList := by
            have : e ∈ es ∧ e.1 = S.hash k := by simpa using he
            simpa using this.1
          rw [R.rows] at he2
          obtain ⟨p2, hp2, e2⟩ := List.mem_map.mp he2
          exact ⟨p2.1, p2.2, by rw [← ee, ← e2], R.each p2 hp2⟩
        · try refine wpAny_bind (wpAny_pure ?_)
          exact tail
    · have met : t.probe (fun i => (es[i]?.map (·.1)).getD 0) (S.hash k) (stand.getD (t.probeStart (S.hash k))) = some (.empty (way t.mask (S.hash k) n) none) := by
        rw [hst, ← nc, ← shj]
        exact hpr
      rw [met]
      dsimp only
      refine wpAny_pure (hout fun hm => ?_)
      obtain ⟨p0, h0, e0⟩ := List.mem_map.mp hm
      obtain ⟨i0, hi0, e1⟩ := List.getElem_of_mem h0
      have h00 : L[i0]? = some p0 := by rw [List.getElem?_eq_getElem hi0, e1]
      obtain ⟨d, d1, d2, d3⟩ := hre i0 p0 h00 e0
      have := there i0 p0 d h00 e0 d1 d3 (n - c) hno
      omega
theorem sg_find (R : SG S s.heap a L es ep t) {x : Addr} {k : K} (hx : S.is s.heap k x) (hu : A.units + 16 < cLine) {Q : SetFound → Shared → Prop}
    (hin : k ∈ L.map (·.1) → Q (.there none) s)
    (hout : ∀ n, k ∉ L.map (·.1) → way t.mask (S.hash k) n ∉ t.place.toList → (∀ c, c < n → way t.mask (S.hash k) c ∈ t.place.toList) → Q (.free (way t.mask (S.hash k) n) false) s) :
    wpAny (model P w) A (setSearch a (.ref x) (S.hash k) true) Q E s := by
  have h1 := R.room
  have h2 := R.cap
  obtain ⟨n, n1, n2, n3⟩ := R.tab.gap (by rw [List.length_map]; omega) (S.hash k)
  have n4 : n < 100000 := by
    have : 10 * SetTable.turns t.mask ≤ 82060 := by unfold SetTable.turns; omega
    omega
  unfold setSearch
  refine sg_search R hx hu n1 n2 n3 hin (fun z => hout n z n2 n3) 100000 0 none rfl (Nat.zero_le _) (by omega) fun i p hp hk => ?_
  have hi : (L.map fun p => S.hash p.1)[i]? = some (S.hash k) := by rw [List.getElem?_map, hp, ← hk]; rfl
  have hil : i < t.place.toList.length := by
    rw [R.tab.lenL, List.length_map]
    exact (List.getElem?_eq_some_iff.mp hp).1
  obtain ⟨d, d1, d2⟩ := R.tab.ahead n2 hi (List.getElem?_eq_getElem hil)
  exact ⟨d, Nat.zero_le _, d1, by rw [List.getElem?_eq_getElem hil, d2]⟩
end
end Wx

set_option Elab.async false
set_option linter.all false
set_option maxRecDepth 100000
set_option maxHeartbeats 4000000
/-! WX25: one more member of such a set. -/
namespace Wx
open PySem L2 PyProof.Rows
section
variable {P : Program} {w : World} {K : Type} [DecidableEq K] {S : RefSys P w K} {A : Around} {E : Value → Shared → Prop} {s : Shared} {a : Addr} {L : List (K × Addr)} {es : Array (Int × Value)} {ep : Nat} {t : SetTable}
theorem reorder (L : List (K × Addr)) (es : Array (Int × Value)) (order : Array Nat) (hr : es.toList = rowsK S L) (hp : order.toList.Perm (List.range L.length)) :
    ∃ M, (order.filterMap (es[·]?)).toList = rowsK S M ∧ M.Perm L ∧ (M.map fun p => S.hash p.1) = order.toList.map fun i => (es.map (·.1)).getD i 0 := by
  have hsz := rowsK_len hr
  have go : ∀ l : List Nat, (∀ i ∈ l, i < L.length) → l.filterMap (fun i => es[i]?) = rowsK S (l.filterMap fun i => L[i]?) ∧ ((l.filterMap fun i => L[i]?).map fun p => S.hash p.1) = l.map fun i => (es.map (·.1)).getD i 0 := by
    intro l
    induction l with
    | nil => intro _; exact ⟨rfl, rfl⟩
    | cons i l ih =>
      intro hl
      obtain ⟨e1, e2⟩ := ih fun j hj => hl j (List.mem_cons_of_mem _ hj)
      have a1 := List.getElem?_eq_getElem (hl i List.mem_cons_self)
      have a2 := rowsK_at hr a1
      have a3 : (es.map (·.1)).getD i 0 = S.hash (L[i]'(hl i List.mem_cons_self)).1 := by
        rw [Array.getD_eq_getD_getElem?, Array.getElem?_map, a2]
        rfl
      constructor
      · rw [List.filterMap_cons_some a2, List.filterMap_cons_some a1, e1]
        rfl
      · rw [List.filterMap_cons_some a1, List.map_cons, List.map_cons, e2, a3]
  obtain ⟨e1, e2⟩ := go order.toList fun i hi => List.mem_range.mp (hp.mem_iff.mp hi)
  refine ⟨_, by rw [Array.toList_filterMap]; exact e1, ?_, e2⟩
  have all : ∀ n, n ≤ L.length → (List.range n).filterMap (fun i => L[i]?) = L.take n := by
    intro n
    induction n with
    | zero => intro _; rfl
    | succ n ih =>
      intro hn
      rw [List.range_succ, List.filterMap_append, ih (by omega), List.take_succ, List.getElem?_eq_getElem hn, List.filterMap_cons_some (List.getElem?_eq_getElem hn)]
      rfl
  have q := hp.filterMap fun i => L[i]?
  rw [all L.length (Nat.le_refl _), List.take_length] at q
  exact q
/-- all laid anew, in a table that is large enough -/
theorem sg_relay {o : Obj} (ho : s.heap.get? a = some o) (hex : o.ExactSet) (hd : o.data = .set es ep t) (hr : es.toList = rowsK S L) (T : TabG t (L.map fun p => S.hash p.1)) (hfl : L.length ≤ t.mask)
    (nd : (L.map (·.1)).Nodup) (each : ∀ p ∈ L, S.is s.heap p.1 p.2) (ld : w.params.followText "set-order" = true ∨ t.led = true) (few : L.length < 2048) {Q : Unit → Shared → Prop}
    (hQ : ∀ h' M es' ep' t', Heap.SameBut a s.heap h' → SG S h' a M es' ep' t' → M.Perm L → Q () { s with heap := h' }) : wpAny (model P w) A (setRelay a (SetTable.grown L.length)) Q E s := by
  have hsl := rowsK_len hr
  have hpl := T.len
  rw [List.length_map] at hpl
  have hf : t.fits es.size = true := fitsK (by rw [hsl, hpl]) T.nod (by rw [hsl]; exact hfl)
  obtain ⟨m, m1, m2, m3, m4, m5, m6⟩ := above_ok few
  obtain ⟨t', order, e, hp, T', em, el⟩ := relaid_any t (hs := es.map (·.1)) m1 m2 (by rw [Array.size_map, hsl]; exact m5)
  rw [Array.size_map, hsl] at hp
  obtain ⟨M, r1, r2, r3⟩ := reorder L es order hr hp
  rw [← r3] at T'
  have hs2 : (order.filterMap (es[·]?)).size = es.size := by rw [rowsK_len r1, r2.length_eq, hsl]
  rw [setRelay_eq]
  refine wpAny_bind (wpAny_setState_of ho hd hf ?_)
  dsimp only
  refine wp_if_neg (by rw [sizeLine_eq]; omega) ?_
  try refine wpAny_bind (wpAny_pure ?_)
  rw [e]
  dsimp only
  refine wpAny_bind (wp_if_neg (by rw [hs2]; simp) ?_)
  try refine wpAny_bind (wpAny_pure ?_)
  refine wpAny_pure ?_
  dsimp only
  refine wpAny_storeSet_of ho hd ?_ (by rw [hs2, hsl, sizeLine_eq]; omega)
  have sb : Heap.SameBut a s.heap (s.heap.update a (Obj.putSet (order.filterMap (es[·]?)) t')) := Heap.SameBut.update ..
  refine hQ _ M _ (ep + 1) t' sb ⟨⟨_, store_at ho hd, ⟨hex.1, hex.2.1, hex.2.2⟩, rfl⟩, r1, T', (r2.map (·.1)).nodup_iff.mpr nd, fun p hp => S.but (each p (r2.mem_iff.mp hp)) ho hd sb, by rw [el]; exact ld, ?_, by rw [r2.length_eq]; exact few, by rw [em]; exact m3⟩ r2
  rw [r2.length_eq, em]
  exact m4
/-- ONE MORE -/
theorem sg_add (R : SG S s.heap a L es ep t) {x : Addr} {k : K} (hx : S.is s.heap k x) (hu : A.units + 16 < cLine) (hfew : L.length + 1 < 2048) {Q : Bool → Shared → Prop}
    (hQ : ∀ b h' M es' ep' t', Heap.SameBut a s.heap h' → SG S h' a M es' ep' t' → (k ∈ L.map (·.1) ∧ M = L ∨ k ∉ L.map (·.1) ∧ M.Perm ((k, x) :: L)) → Q b { s with heap := h' }) :
    wpAny (model P w) A (setAddHashed a (.ref x) (S.hash k)) Q E s := by
  obtain ⟨o, ho, hex, hd⟩ := R.ob
  have hroom := R.room
  unfold setAddHashed
  refine wpAny_holding ?_
  rw [show (100000 : Nat) = 99999 + 1 from rfl, setAddHashedIn_succ]
  refine wpAny_bind (wpAny_setState_of ho hd R.fits ?_)
  dsimp only
  refine wp_if_neg (by simp [byScan, Value.scannable]) ?_
  try refine wpAny_bind (wpAny_pure ?_)
  refine wpAny_bind (sg_find R hx hu (fun hm => ?_) fun n hm no hb => ?_)
  · dsimp only
    exact wpAny_pure (hQ false s.heap L es ep t (Heap.SameBut.refl a s.heap) R (.inl ⟨hm, rfl⟩))
  dsimp only
  refine wpAny_bind (wpAny_setState_of ho hd R.fits ?_)
  dsimp only
  obtain ⟨p1, T1⟩ := R.tab.put no hb rfl
  obtain ⟨f1, f2, f3, f4⟩ := put_fill R.tab (way t.mask (S.hash k) n)
  generalize hpt : t.put (way t.mask (S.hash k) n) = pt at T1 f1 f2 f3 f4 ⊢
  obtain ⟨t1, p⟩ := pt
  dsimp only at T1 f1 f2 f3 f4 ⊢
  rw [← f4] at p1 T1
  -- what follows the question whether the hash is by value
  have tail : ∀ (t2 : SetTable), t2.place = t1.place → t2.dummies = t1.dummies → t2.mask = t1.mask → t2.led = t1.led → wpAny (model P w) A (do
      storeSet a (SetTable.insertAt es p (S.hash k, Value.ref x)) t2
      if (!false && t2.tooFull) = true then setRelay a (SetTable.grown (es.size + 1))
      return true) Q E s := by
    intro t2 g1 g2 g3 g4
    have T2 : TabG t2 ((L.map fun p => S.hash p.1).take p ++ S.hash k :: (L.map fun p => S.hash p.1).drop p) := ⟨by rw [g1]; exact T1.up, by rw [g2]; exact T1.nod, by rw [g1]; exact T1.len, by rw [g3]; exact T1.big, by rw [g1, g3]; exact T1.inn, by rw [g1, g3]; exact T1.met⟩
    have rows1 : (SetTable.insertAt es p (S.hash k, Value.ref x)).toList = rowsK S (L.take p ++ (k, x) :: L.drop p) := by
      rw [SetTable.toList_insertAt, R.rows]
      unfold rowsK
      rw [List.map_append, List.map_cons, List.map_take, List.map_drop]
    have hs1 : (L.map fun p => S.hash p.1).take p ++ S.hash k :: (L.map fun p => S.hash p.1).drop p = (L.take p ++ (k, x) :: L.drop p).map fun p => S.hash p.1 := by
      rw [List.map_append, List.map_cons, List.map_take, List.map_drop]
    rw [hs1] at T2
    have pm : (L.take p ++ (k, x) :: L.drop p).Perm ((k, x) :: L) := put_perm L p (k, x)
    generalize L.take p ++ (k, x) :: L.drop p = M at pm rows1 T2
    have hlen : M.length = L.length + 1 := pm.length_eq
    have hes := rowsK_len rows1
    generalize SetTable.insertAt es p (S.hash k, Value.ref x) = es1 at rows1 hes ⊢
    have nd1 : (M.map (·.1)).Nodup := (pm.map (·.1)).nodup_iff.mpr (by rw [List.map_cons]; exact List.nodup_cons.mpr ⟨hm, R.nd⟩)
    refine wpAny_bind (wpAny_storeSet_of ho hd ?_ (by rw [hes, sizeLine_eq]; omega))
    have sb : Heap.SameBut a s.heap (s.heap.update a (Obj.putSet es1 t2)) := Heap.SameBut.update ..
    have ho1 := store_at (es' := es1) (t' := t2) ho hd
    generalize s.heap.update a (Obj.putSet es1 t2) = h1 at sb ho1 ⊢
    have each1 : ∀ q ∈ M, S.is h1 q.1 q.2 := fun q hq => by
      rcases List.mem_cons.mp (pm.mem_iff.mp hq) with e | hq
      · rw [e]; exact S.but hx ho hd sb
      · exact S.but (R.each q hq) ho hd sb
    have ld1 : w.params.followText "set-order" = true ∨ t2.led = true := by rw [g4, f2]; exact R.led
    have fill1 : t2.fill = M.length := by
      have h1 := T2.len
      have h2 := T2.nod
      rw [List.length_map] at h1
      unfold SetTable.fill
      rw [h1, h2]
      rfl
    have m1 : t2.mask = t.mask := by rw [g3, f1]
    have cap := R.cap
    by_cases full : t2.tooFull = true
    · refine wp_if_pos (c := (!false && t2.tooFull) = true) (by simp [full]) (wpAny_bind ?_)
      rw [rowsK_len R.rows, ← hlen]
      refine sg_relay (S := S) (s := { s with heap := h1 }) ho1 ⟨hex.1, hex.2.1, hex.2.2⟩ rfl rows1 T2 (by rw [m1]; omega) nd1 each1 ld1 (by omega) fun h2 M2 es2 ep2 t3 sb2 R2 pm2 => ?_
      exact wpAny_pure (hQ true h2 M2 es2 ep2 t3 (sb.trans sb2) R2 (.inr ⟨hm, pm2.trans pm⟩))
    · refine wp_if_neg (c := (!false && t2.tooFull) = true) (by simp [full]) ?_
      refine wpAny_pure (hQ true h1 M es1 (ep + 1) t2 sb ⟨⟨_, ho1, ⟨hex.1, hex.2.1, hex.2.2⟩, rfl⟩, rows1, T2, nd1, each1, ld1, ?_, by omega, by rw [m1]; exact cap⟩ (.inr ⟨hm, pm⟩))
      unfold SetTable.tooFull at full
      rw [decide_eq_true_eq, fill1] at full
      omega
  cases hpl : t1.plain with
  | true =>
    first
      | (refine wpAny_bind (wp_if_pos rfl (S.gv hx fun z => ?_)))
      | (refine wp_if_pos rfl (wpAny_bind (S.gv hx fun z => ?_)))
    cases z with
    | true => exact tail t1 rfl rfl rfl rfl
    | false => exact tail { t1 with plain := false } rfl rfl rfl rfl
  | false =>
    first
      | (refine wpAny_bind (wp_if_neg Bool.false_ne_true (wpAny_pure ?_)))
      | (refine wp_if_neg Bool.false_ne_true (wpAny_bind (wpAny_pure ?_)))
      | (refine wp_if_neg Bool.false_ne_true ?_)
    exact tail t1 rfl rfl rfl rfl
end
end Wx

set_option Elab.async false
set_option linter.all false
set_option maxRecDepth 100000
set_option maxHeartbeats 4000000
/-! WX26: set(xs), whatever way the members are kept. -/
namespace Wx
open PySem L2 PyProof.Rows

abbrev newSetO (w : World) : Obj := { cls := .type "set", dict := none, data := .set #[] 0 (.fresh 0 0 (!w.params.followText "set-order")) }
/-- a way to keep a set -/
structure SetSys (P : Program) (w : World) (K : Type) [DecidableEq K] where
  is : Heap → K → Value → Prop
  inv : Heap → Addr → List (K × Value) → Prop
  grow : ∀ {h h' : Heap} {k : K} {v : Value}, is h k v → (∀ c o, h.get? c = some o → h'.get? c = some o) → is h' k v
  keep : ∀ {h h' : Heap} {a : Addr} {L : List (K × Value)}, inv h a L → (∀ o, h.get? a = some o → h'.get? a = some o) → (∀ p ∈ L, is h' p.1 p.2) → inv h' a L
  each : ∀ {h : Heap} {a : Addr} {L : List (K × Value)}, inv h a L → ∀ p ∈ L, is h p.1 p.2
  nd : ∀ {h : Heap} {a : Addr} {L : List (K × Value)}, inv h a L → (L.map (·.1)).Nodup
  out : ∀ {h : Heap} {a : Addr} {L : List (K × Value)}, inv h a L → ∃ es ep t, SetAt h a es ep t ∧ t.fits es.size = true ∧ es.size < scanBound ∧ Ris t.place.toList ∧ (w.params.followText "set-order" = true ∨ t.led = true) ∧ es.toList.map (·.2) = L.map (·.2)
  new : ∀ {h : Heap} {a : Addr}, h.get? a = some (newSetO w) → inv h a []
  add : ∀ {A : Around} {E : Value → Shared → Prop} {s : Shared} {a : Addr} {L : List (K × Value)} {k : K} {v : Value} {Q : Bool → Shared → Prop}, A.units + 16 < cLine → inv s.heap a L → is s.heap k v → L.length + 1 < 2048 →
    (∀ b h' M tk, s.toks ≤ tk → Heap.SameBut a s.heap h' → inv h' a M → (k ∈ L.map (·.1) ∧ M = L ∨ k ∉ L.map (·.1) ∧ M.Perm ((k, v) :: L)) → Q b { s with heap := h', toks := tk }) → wpAny (model P w) A (setAdd a v) Q E s

/-- what has come in so far -/
structure Came {K : Type} (ks : List (K × Value)) (i : Nat) (L : List (K × Value)) : Prop where
  sub : ∀ p ∈ L, p ∈ ks.take i
  all : ∀ p ∈ ks.take i, p.1 ∈ L.map (·.1)
  len : L.length ≤ i
theorem Came.none {K : Type} (ks : List (K × Value)) : Came ks 0 [] := ⟨fun p h => (by cases h), fun p h => (by simp at h), Nat.le_refl _⟩
theorem Came.step {K : Type} {ks L M : List (K × Value)} {i : Nat} {k : K} {v : Value} (c : Came ks i L) (h : ks[i]? = some (k, v)) (o : k ∈ L.map (·.1) ∧ M = L ∨ k ∉ L.map (·.1) ∧ M.Perm ((k, v) :: L)) : Came ks (i + 1) M := by
  have tk := take_next h
  rcases o with ⟨m, e⟩ | ⟨_, pm⟩
  · subst e
    refine ⟨fun p hp => by rw [tk]; exact List.mem_append_left _ (c.sub p hp), fun p hp => ?_, by have := c.len; omega⟩
    rw [tk] at hp
    rcases List.mem_append.mp hp with z | z
    · exact c.all p z
    · rw [List.mem_singleton.mp z]; exact m
  · refine ⟨fun p hp => ?_, fun p hp => ?_, by rw [pm.length_eq]; exact Nat.succ_le_succ c.len⟩
    · rw [tk]
      rcases List.mem_cons.mp (pm.mem_iff.mp hp) with z | z
      · exact List.mem_append_right _ (by rw [z]; exact List.mem_singleton.mpr rfl)
      · exact List.mem_append_left _ (c.sub p z)
    · rw [(pm.map (·.1)).mem_iff, List.map_cons]
      rw [tk] at hp
      rcases List.mem_append.mp hp with z | z
      · exact List.mem_cons_of_mem _ (c.all p z)
      · rw [List.mem_singleton.mp z]; exact List.mem_cons_self

section
variable {P : Program} {w : World} {K : Type} [DecidableEq K] (S : SetSys P w K) {A : Around} {E : Value → Shared → Prop} {s : Shared}
theorem set_loop {I a : Addr} {fp wr : List Addr} {Pv : Nat → Value → Prop} {St : Nat → Heap → Prop} {R : Result → Shared → Prop} {ks : List (K × Value)}
    (W : Walks P w A.in1 I fp wr ks.length Pv St) (af : a ∉ fp) (few : ks.length < 2047) (hv : ∀ i v, Pv i v → ∃ p, ks[i]? = some p ∧ v = p.2)
    (h0 : Heap) (hk : ∀ p ∈ ks, S.is h0 p.1 p.2) (ha0 : h0.get? a = none) (hw0 : ∀ b ∈ wr, h0.get? b = none) (hu : A.in1.units + 16 < cLine) :
    ∀ (n i : Nat) (h : Heap) (tk : Nat) (L : List (K × Value)), ks.length - i = n → i ≤ ks.length → St i h → (∀ b o, h0.get? b = some o → h.get? b = some o) → S.inv h a L → Came ks i L →
      (∀ h' tk' L', S.inv h' a L' → Came ks ks.length L' → (∀ b o, h0.get? b = some o → h'.get? b = some o) → R (.ok (.ret .none)) { s with heap := h', toks := tk' }) →
      codeAny (model P w) A (.builtin "set.update.loop" ⟨[.ref a, .ref I], []⟩) R { s with heap := h, toks := tk } := by
  have aw : a ∉ wr := fun z => af (W.sub _ z)
  intro n
  induction n with
  | zero =>
    intro i h tk L hn hi hst hkp hS c hR
    obtain rfl : i = ks.length := by omega
    refine codeAny_builtin F.entry_set_update_loop ?_
    rw [Around.under_plainId F.plain_set_update_loop _]
    show wpAny _ A.in1 (pyNext (.ref I) >>= _) _ _ _
    refine wpAny_bind (W.done _ _ _ hst fun h' tk' hm => ?_)
    show wpAny _ A.in1 (ret Value.none) _ _ _
    have kp : ∀ b o, h0.get? b = some o → h'.get? b = some o := fun b o e => hm b o (fun z => by rw [hw0 b z] at e; cases e) (hkp b o e)
    exact wpAny_pure (hR h' tk' L (S.keep hS (fun o e => hm a o aw e) fun p hp => S.grow (hk p (List.mem_of_mem_take (c.sub p hp))) kp) c kp)
  | succ n ih =>
    intro i h tk L hn hi hst hkp hS c hR
    refine codeAny_builtin F.entry_set_update_loop ?_
    rw [Around.under_plainId F.plain_set_update_loop _]
    show wpAny _ A.in1 (pyNext (.ref I) >>= _) _ _ _
    refine wpAny_bind (W.item i _ _ _ (by omega) hst fun v h' tk' hP hst' hm => ?_)
    obtain ⟨⟨k, v'⟩, hp, ev⟩ := hv i v hP
    have ev' : v = v' := ev
    subst ev'
    have kp : ∀ b o, h0.get? b = some o → h'.get? b = some o := fun b o e => hm b o (fun z => by rw [hw0 b z] at e; cases e) (hkp b o e)
    have hS' : S.inv h' a L := S.keep hS (fun o e => hm a o aw e) fun p hp => S.grow (hk p (List.mem_of_mem_take (c.sub p hp))) kp
    have hx : S.is h' k v := S.grow (hk _ (List.mem_of_getElem? hp)) kp
    show wpAny _ A.in1 (holding [v] (setAdd a v) >>= _) _ _ _
    refine wpAny_bind (wpAny_holding ?_)
    refine S.add (s := { s with heap := h', toks := tk' }) hu hS' hx (by have := c.len; omega) fun b h2 M tk2 _ sb hM o => ?_
    have kp2 : ∀ b o, h0.get? b = some o → h2.get? b = some o := fun b o e => (sb.2 b (fun z => by rw [z, ha0] at e; cases e)).trans (kp b o e)
    exact wpAny_pure ⟨plainId_quiet F.plain_set_update_loop _, ih (i + 1) h2 tk2 M (by omega) (by omega)
      (W.frame _ _ _ hst' fun b hb o e => (sb.2 b (fun z => af (z ▸ hb))).trans e) kp2 hM (c.step hp o) hR⟩
end

/-! ### where the members come from -/
/-- l is an object of type T over which one walks -/
structure Src (P : Program) (w : World) (h : Heap) (l : Addr) (T : String) (items : Array Value) : Prop where
  ty : ∃ o, h.get? l = some o ∧ o.cls = .type T
  ns : isSubtype (.type T) (.type "set") = pure false
  nf : isSubtype (.type T) (.type "frozenset") = pure false
  ndc : (Value.type T == Value.type "dict") = false
  it : ∀ {A : Around} {E : Value → Shared → Prop} {s : Shared} {Q : Value → Shared → Prop}, A.handled = none → (∀ o, h.get? l = some o → s.heap.get? l = some o) →
    (∀ o St, (∀ A' : Around, A'.handled = none → Walks P w A' s.heap.objs.size [s.heap.objs.size, l] [s.heap.objs.size] items.size (fun i v => items[i]? = some v) St) → St 0 (s.heap.push o) → Q (.ref s.heap.objs.size) { s with heap := s.heap.push o }) →
    wpAny (model P w) A (pyIter (.ref l)) Q E s
theorem Src.list {P : Program} {w : World} {h : Heap} {l : Addr} {items : Array Value} (hl : h.IsList l items) : Src P w h l "list" items where
  ty := let ⟨o, ho, hc, _⟩ := hl; ⟨o, ho, hc⟩
  ns := F.sub_list_set
  nf := F.sub_list_frozenset
  ndc := by decide
  it := fun {A E s Q} hh hk hQ => by
    have hl' : s.heap.IsList l items := let ⟨o, ho, r⟩ := hl; ⟨o, hk o ho, r⟩
    have ne : l ≠ s.heap.objs.size := by
      obtain ⟨o, ho, _⟩ := hl'
      exact Nat.ne_of_lt (Heap.lt_size ho)
    exact wpAny_pyIter_list hl' (hQ _ _ (fun A' hA' => Walks.list hA' _ l ne items) ⟨⟨_, Heap.get?_push_size _ rfl, rfl, rfl⟩, hl'.push _⟩)
theorem Src.tuple {P : Program} {w : World} {h : Heap} {l : Addr} {items : Array Value} (hl : h.IsTuple l items) : Src P w h l "tuple" items where
  ty := let ⟨o, ho, hc, _⟩ := hl; ⟨o, ho, hc⟩
  ns := F.sub_tuple_set
  nf := F.sub_tuple_frozenset
  ndc := by decide
  it := fun {A E s Q} hh hk hQ => by
    have hl' : s.heap.IsTuple l items := let ⟨o, ho, r⟩ := hl; ⟨o, hk o ho, r⟩
    have ne : l ≠ s.heap.objs.size := by
      obtain ⟨o, ho, _⟩ := hl'
      exact Nat.ne_of_lt (Heap.lt_size ho)
    have hp : (s.heap.push { cls := .type "tuple_iterator", data := .fields #[.ref l, .int 0 0] }).IsTuple l items := let ⟨o, ho, r⟩ := hl'; ⟨o, Heap.get?_push_of_some _ ho, r⟩
    exact wpAny_pyIter_tuple hl' (hQ _ _ (fun A' hA' => Walks.tuple hA' _ l ne items) ⟨⟨_, Heap.get?_push_size _ rfl, rfl, rfl⟩, hp⟩)
end Wx

set_option Elab.async false
set_option linter.all false
set_option maxRecDepth 100000
set_option maxHeartbeats 4000000
/-! WX27: the call set(xs). -/
namespace Wx
open PySem L2 PyProof.Rows
section
variable {P : Program} {w : World} {K : Type} [DecidableEq K] (S : SetSys P w K) {A : Around} {E : Value → Shared → Prop} {s : Shared}
theorem set_init {l a : Addr} {T : String} {items : Array Value} {ks : List (K × Value)} {R : Result → Shared → Prop} {h0 : Heap} (hh : A.handled = none) (hl : Src P w h0 l T items) (hit : items.toList = ks.map (·.2))
    (hk : ∀ p ∈ ks, S.is h0 p.1 p.2) (few : ks.length < 2047) (hu : A.units + 19 < cLine) (ha : a = h0.objs.size) (hs : s.heap = h0.push (newSetO w))
    (hR : ∀ h' tk L, S.inv h' a L → Came ks ks.length L → (∀ b o, h0.get? b = some o → h'.get? b = some o) → R (.ok (.ret .none)) { s with heap := h', toks := tk }) :
    wpAny (model P w) A (Builtin.«set.__init__» ⟨[.ref a, .ref l], []⟩) (fun r s' => match r with | .done f => R (.ok f) s' | _ => False) (fun e s' => R (.error e) s') s := by
  have kp0 : ∀ b o, h0.get? b = some o → s.heap.get? b = some o := fun b o e => by rw [hs]; exact Heap.get?_push_of_some _ e
  have hS : s.heap.get? a = some (newSetO w) := by rw [hs, ha]; exact Heap.get?_push_size _ rfl
  obtain ⟨ol, hol, hcl⟩ := hl.ty
  have hTl : s.TypeIs (.ref l) T := ⟨ol, kp0 l ol hol, hcl⟩
  have hT : s.TypeIs (.ref a) "set" := ⟨_, hS, rfl⟩
  have h1 := hl.ns
  have h2 := hl.nf
  have h3 := hl.ndc
  unfold Builtin.«set.__init__» noKeywords Builtin.Frozenset.updateFrom
  generalize hPI : pyIter = PI
  wp_walk
  subst hPI
  refine hl.it hh (fun o e => kp0 l o e) fun o St W hst => ?_
  refine wpAny_bind (wpAny_runValue ?_)
  have sz : s.heap.objs.size = h0.objs.size + 1 := by rw [hs, Heap.size_push]
  have ll : l < h0.objs.size := Heap.lt_size hol
  have big : ∀ b, h0.objs.size ≤ b → h0.get? b = none := fun b hb => by
    cases q : h0.get? b with
    | none => rfl
    | some _ => exact absurd (Nat.lt_of_lt_of_le (Heap.lt_size q) hb) (Nat.lt_irrefl _)
  have len : items.size = ks.length := by rw [← Array.length_toList, hit, List.length_map]
  have hh3 : A.in1.in1.handled = none := by simp [hh]
  refine set_loop S (s := { s with heap := s.heap.push o }) (ks := ks) (fp := [s.heap.objs.size, l]) (wr := [s.heap.objs.size]) (by rw [← len]; exact W _ (by simp [hh])) ?_ few (fun i v hv => ?_) h0 hk (big _ (Nat.le_of_eq ha.symm)) (fun b hb => big b ?_) (by show _ + 1 + 16 < _; omega)
    (ks.length - 0) 0 _ s.toks [] (by omega) (Nat.zero_le _) hst (fun b o e => Heap.get?_push_of_some _ (kp0 b o e)) (S.new (Heap.get?_push_of_some _ hS)) (Came.none ks) fun h' tk' L hL c kp => ?_
  · rw [sz, ha]
    simp only [List.mem_cons, List.mem_singleton, List.not_mem_nil, or_false, not_or]
    exact ⟨Nat.ne_of_lt (Nat.lt_succ_self _), Nat.ne_of_gt ll⟩
  · have q : items.toList[i]? = some v := by rw [Array.getElem?_toList]; exact hv
    rw [hit, List.getElem?_map] at q
    cases hq : ks[i]? with
    | none => rw [hq] at q; cases q
    | some p => rw [hq] at q; exact ⟨p, rfl, (Option.some.inj q).symm⟩
  · rw [List.mem_singleton.mp hb, sz]
    exact Nat.le_succ _
  · show wpAny _ _ (pure ()) _ _ _
    refine wpAny_pure ?_
    show wpAny _ _ (ret Value.none) _ _ _
    exact wpAny_pure (hR h' tk' L hL c kp)
end
end Wx

set_option Elab.async false
set_option linter.all false
set_option maxRecDepth 100000
set_option maxHeartbeats 4000000
/-! WX28: try with several clauses 'except x as n'. -/
namespace Wx
open PySem PySem.Spec PyProof.Rows L2
def wManyAs (K : PySem.W.Frag) (Wout : WX) (D : Ends) : List (Value × Nat × (Addr → Value → Option Addr → TS)) → WX
  | [] => Wout
  | (c, i, ts) :: r => wAs K c i ts (wManyAs K Wout D r) D
inductive HdsAs (X : Cx) : List ExceptHandler → List (Value × Nat × (Addr → Value → Option Addr → TS)) → Prop
  | nil : HdsAs X [] []
  | cons {x n : Str} {c : Value} {i : Nat} {ts : Addr → Value → Option Addr → TS} {b₀ : Stmt} {suite : List Stmt} {np pos' : Pos} {hds : List ExceptHandler} {l : List (Value × Nat × (Addr → Value → Option Addr → TS))}
      (hi : X.N[i]? = some n) (hln : X.env.kindOf n = some .local) (hc : Names X x c)
      (hsu : ∀ (a : Addr) (oe : Obj) (cls : Value) (d : Option Addr) (pn : List (Addr × Obj)), Zc cls d oe → (∃ vs, oe.data = .fields vs) → PSs (X.suite a ((a, oe) :: pn)) (b₀ :: suite) (ts a cls d)) (r : HdsAs X hds l) :
      HdsAs X (.ExceptHandler (some (.Name x np)) (some n) (b₀ :: suite) pos' :: hds) ((c, i, ts) :: l)
section
variable {X : Cx} {body : List Stmt} {h₀ : ExceptHandler} {hds : List ExceptHandler} {l : List (Value × Nat × (Addr → Value → Option Addr → TS))} {pos : Pos} {tb : WX → TS} {Wout : WX}
theorem ps_try_manyAs (hs : X.stack = X.env :: X.outer) (hf : X.env.frame = some X.env.locals) (hN : X.N.Nodup) (tk : Takes X Wout)
    (hb : ∀ (W : WX) (pn : List (Addr × Obj)) (xe : Value → Shared → Prop), Takes (X.tr pn xe) W → PassesOwn (model X.prog X.w) X.A X.env xe → PSs (X.tr pn xe) body (tb W))
    (hh : HdsAs X (h₀ :: hds) l) : PS X (.Try body (h₀ :: hds) [] [] pos) (fun D σ H => tb (wManyAs X.K Wout D l) D σ H) := by
  refine ⟨fun pins s σ H D I h => ?_⟩
  have ok := I.ok
  have hfr : X.A.frames = some (X.env :: X.outer) := by rw [ok.frames, hs]
  refine wpAny_Try_except ?_
  refine wpAny_mono ((hb (wManyAs X.K Wout D l) (X.pn ++ pins) (fun e s₁ => wpAny (model X.prog X.w) X.A (noteFrame e X.env) (fun _ s₂ => wpAny (model X.prog X.w) X.A (setFlight e none) (fun _ s₃ =>
    wpAny (model X.prog X.w) X.A (handleBy e X.env (h₀ :: hds)) (SP X pins D) X.xe s₃) X.xe s₂) X.xe s₁) (fun u s' xx => ?_) PassesOwn.looking).run [] s σ H D (I.toTry _) h) (fun f s1 hsp => ?_) (fun e s1 he => he)
  · obtain ⟨a, B, sI, pins', σ', H', cls, d, rfl, J', nb, up, sky, na, os, ag, w⟩ := xx
    have J : Inv X pins σ' H' sI := J'.ofTry ok
    have sky' : Sky B (X.env :: X.outer) a (Zc cls d) X.env.locals s'.heap := by rw [← hs]; exact sky
    show wpAny (model X.prog X.w) X.A (noteFrame (.ref a) X.env) _ _ _
    refine Sky.land Zc.steady hfr hf sky' fun h3 fl3 up3 => ?_
    have J3 : Inv X pins σ' H' { s' with heap := h3 } := J.landed nb fl3.1 (up.trans up3) os ag
    obtain ⟨oe3, vs3, he3, hz3, hd3⟩ := fl3.there
    have notFr : ∀ {h : Heap} {o : Obj} {vs : Array Value}, h.FunFrames B (X.env :: X.outer) → h.get? a = some o → o.data = .fields vs → a ∉ frs (X.env :: X.outer) := fun {h o vs} ff e dd hm => by
      obtain ⟨_, o', e', hnf⟩ := ff.mem hm
      rw [e] at e'; cases e'
      exact hnf _ dd
    have nfr := notFr fl3.2.2.1 he3 hd3
    have nL : a ≠ X.env.locals := fun z => nfr (List.mem_filterMap.mpr ⟨X.env, List.mem_cons_self, by rw [hf, z]⟩)
    have nF : a ∉ X.fs := fun hm => by
      obtain ⟨e, he, q⟩ := List.mem_filterMap.mp hm
      exact nfr (List.mem_filterMap.mpr ⟨e, List.mem_cons_of_mem _ he, q⟩)
    have S3 := J3.suite he3 hd3 na nL nF
    have go : ∀ {hds' : List ExceptHandler} {l' : List (Value × Nat × (Addr → Value → Option Addr → TS))}, HdsAs X hds' l' → wManyAs X.K Wout D l' cls d σ' H' →
        wpAny (model X.prog X.w) X.A (handleBy (.ref a) X.env hds') (SP X pins D) X.xe { s' with heap := h3 } := by
      intro hds' l' hk
      induction hk with
      | nil =>
        intro w
        refine wpAny_handleBy_nil ?_
        obtain ⟨k1, k2, k3, oe, vs, T, oT, ts', he, hz, hd, h1, hr⟩ := id fl3
        unfold PySem.passOn
        refine wpAny_bind (wpAny_field he hd h1 ?_)
        rw [if_neg (show ¬ ((Value.ref T == Value.none) = true) from by simp)]
        have fin : wpAny (model X.prog X.w) X.A (setFlight (.ref a) X.env.frame) (fun _ s4 => wpAny (model X.prog X.w) X.A (throw (.ref a) : Sem Flow) (SP X pins D) X.xe s4) X.xe { s' with heap := h3 } := by
          rw [hf]
          refine HandSPX.setFlight_upZ fl3 fun h4 hh4 up4 => wpAny_throw (tk _ _ ?_)
          exact ⟨a, B, sI, pins, σ', H', cls, d, rfl, J, nb, (up.trans up3).trans up4, .inr (.inr (by rw [hs]; exact hh4)), na, os, ag, w⟩
        first
          | exact wpAny_bind (wpAny_pure (wpAny_bind fin))
          | exact wpAny_bind fin
      | @cons x n c i ts b₀ suite np pos' hds2 l2 hi hln hc hsu r ih =>
        intro w
        obtain ⟨b, hb1, hyes, hno⟩ := w
        have hloc : Loc X.env.scope n := .inl hln
        refine wpAny_handleBy_cons (codeAny_handlers_test ?_) (by intro q; cases q)
        have LT : PySem.W.Looks (model X.prog X.w) h3 (typeOf (.ref a)) cls := fun A Q E s k q => wpAny_typeOf_ref (k _ _ he3) (by rw [hz3.1]; exact q)
        have LM := PySem.W.exm_one (M := model X.prog X.w) (J3.kIn) LT hb1
        have test : ∀ {Q : Value → Shared → Prop} {E : Value → Shared → Prop}, Q c { s' with heap := h3 } → wpAny (model X.prog X.w) (X.A.mark (some (.ref a))) (eval (.Name x np) X.env) Q E { s' with heap := h3 } := fun {Q E} q => by
          obtain ⟨hg, hdbg, hm | ⟨hm, hv, hnn⟩⟩ := hc
          · exact ld_glob (X := X.suite a ((a, oe3) :: (X.pn ++ pins))) S3 hg hm q hdbg
          · exact ld_blt (X := X.suite a ((a, oe3) :: (X.pn ++ pins))) S3 hg hm hv q hnn hdbg
        refine test (LM.here ?_)
        cases b with
        | true =>
          refine codeAny_handlers_suite_as ?_
          refine HandSPX.lands_againZ fl3 fun h4 fl4 up4 => ?_
          have J4 : Inv X pins σ' H' { s' with heap := h4 } := J.landed nb fl4.1 ((up.trans up3).trans up4) os ag
          obtain ⟨oe4, vs4, he4, hz4, hd4⟩ := fl4.there
          have S4 := J4.suite he4 hd4 na nL nF
          refine store_ok (X := X.suite a ((a, oe4) :: (X.pn ++ pins))) (v := .ref a) S4 hN hi hloc rfl (fun s5 S5 => ?_) (.inr hln)
          refine wpAny_mono ((hsu a oe4 cls d (X.pn ++ pins) hz4 ⟨_, hd4⟩).run [] s5 _ H' _ S5 (hyes rfl a na)) (fun f s6 hsp => ?_) (fun _ _ z => False.elim z)
          have end_ : ∀ {σ6 : L2.St} {H6 : Hp} {Q : Shared → Prop}, Inv (X.suite a ((a, oe4) :: (X.pn ++ pins))) [] σ6 H6 s6 → (∀ s7, Inv X pins (σ6.set i none) H6 s7 → Q s7) →
              wpAny (model X.prog X.w) X.A (do bindName X.env n .none; unbindBehindTheSuite X.env n pos') (fun _ s7 => Q s7) X.xe s6 := fun {σ6 H6 Q} S6 hq => gone_ok (S6.unsuite ok) hN hi hln hq
          cases f with
          | next =>
            obtain ⟨σ6, H6, S6, q6⟩ := hsp
            exact end_ S6 fun s7 J7 => ⟨_, _, J7, q6⟩
          | brk =>
            obtain ⟨σ6, H6, S6, q6⟩ := hsp
            exact end_ S6 fun s7 J7 => ⟨_, _, J7, q6⟩
          | cont =>
            obtain ⟨σ6, H6, S6, q6⟩ := hsp
            exact end_ S6 fun s7 J7 => ⟨_, _, J7, q6⟩
          | ret u =>
            obtain ⟨v6, σ6, H6, S6, r6, q6⟩ := hsp
            exact end_ S6 fun s7 J7 => ⟨_, _, _, J7, r6, q6⟩
        | false =>
          show wpAny _ X.A (handleBy (.ref a) X.env hds2) _ _ _
          exact ih (hno rfl)
    exact go hh w
  · cases f with
    | next =>
      obtain ⟨σ', H', J', q⟩ := hsp
      exact wpAny_execs_nil ⟨σ', H', J'.ofTry ok, q⟩
    | brk =>
      obtain ⟨σ', H', J', q⟩ := hsp
      exact ⟨σ', H', J'.ofTry ok, q⟩
    | cont =>
      obtain ⟨σ', H', J', q⟩ := hsp
      exact ⟨σ', H', J'.ofTry ok, q⟩
    | ret u =>
      obtain ⟨v, σ', H', J', r, q⟩ := hsp
      exact ⟨v, σ', H', J'.ofTry ok, r, q⟩
end
/-! ### above the abstract heap -/
/-- a clause: does it take an exception of the class at C; the name's slot; the suite -/
structure HdW where
  ex : Addr → Option Bool
  i : Nat
  ts : Addr → Addr → Option Addr → TSw
def wUnset (i : Nat) (D : Dw) : Dw := { nx := fun ω2 A2 => D.nx (ω2.set i none) A2, rt := D.rt, bk := fun ω2 A2 => D.bk (ω2.set i none) A2, ct := fun ω2 A2 => D.ct (ω2.set i none) A2 }
def wCatch (tp : Hp) (E : XSw) (D : Dw) : List HdW → XSw
  | [] => E
  | h :: r => fun ω' C fs A' => TupLe0 tp A'.tp ∧ ∃ b, h.ex C = some b ∧
    (b = true → (fs = [] → ∀ a, A'.h a = none → h.ts a C none (wUnset h.i D) (ω'.set h.i (some (.ref a))) A') ∧
      ∀ a dd, A'.h a = none → A'.h dd = none → a ≠ dd → h.ts a C (some dd) (wUnset h.i D) (ω'.set h.i (some (.ref a))) (A'.put dd (.xd fs))) ∧
    (b = false → wCatch tp E D r ω' C fs A')
def wTryM (l : List HdW) (tb : XSw → TSw) (E : XSw) : TSw := fun D ω A => ∀ tp, TupLe0 A.tp tp → tb (wCatch tp E D l) D ω (A.at tp)
inductive HdsW (X : Cx) : List ExceptHandler → List HdW → Prop
  | nil : HdsW X [] []
  | cons {x n : Str} {c : Value} {h : HdW} {b₀ : Stmt} {suite : List Stmt} {np pos' : Pos} {hds : List ExceptHandler} {l : List HdW} (hi : X.N[h.i]? = some n) (hln : X.env.kindOf n = some .local) (hc : Names X x c)
      (hx : ∀ C b, h.ex C = some b → PySem.W.exmOne X.K (.ref C) c = some b)
      (hsu : ∀ (a C : Addr) (d : Option Addr) (oe : Obj) (pn : List (Addr × Obj)), Zc (.ref C) d oe → (∃ vs, oe.data = .fields vs) → WSs (X.suite a ((a, oe) :: pn)) (b₀ :: suite) (h.ts a C d)) (r : HdsW X hds l) :
      HdsW X (.ExceptHandler (some (.Name x np)) (some n) (b₀ :: suite) pos' :: hds) (h :: l)
section
variable {X : Cx} {body : List Stmt} {h₀ : ExceptHandler} {hds : List ExceptHandler} {l : List HdW} {pos : Pos} {tb : XSw → TSw} {E : XSw}
/-- the clauses below -/
theorem HdsW.low {hds : List ExceptHandler} {l : List HdW} (h : HdsW X hds l) : ∃ m, HdsAs X hds m ∧ ∀ (tp : Hp) (Wout : WX) (D : Ends) (D' : Dw) (H0 : Hp), (∀ cls d σ' H', UpE0 X.K E cls d σ' H' → Wout cls d σ' H') → TupLe X.K H0 tp →
    (∀ σ2 H2, (UpD X.K H0 D').nx σ2 H2 → D.nx σ2 H2) → (∀ σ2 H2, (UpD X.K H0 D').bk σ2 H2 → D.bk σ2 H2) → (∀ σ2 H2, (UpD X.K H0 D').ct σ2 H2 → D.ct σ2 H2) → (∀ σ2 H2, (UpD X.K H0 D').rt σ2 H2 → D.rt σ2 H2) →
    ∀ cls d σ' H', UpE0 X.K (wCatch tp E D' l) cls d σ' H' → wManyAs X.K Wout D m cls d σ' H' := by
  induction h with
  | nil => exact ⟨[], .nil, fun tp Wout D D' H0 ho t0 h1 h2 h3 h4 => ho⟩
  | @cons x n c h b₀ suite np pos' hds l hi hln hc hx hsu r ih =>
    obtain ⟨m, hm, key⟩ := ih
    refine ⟨(c, h.i, fun a cls d D σ H => ∃ C, cls = .ref C ∧ loS X.K (h.ts a C d) D σ H) :: m, .cons hi hln hc (fun a oe cls d pn hz hd => ⟨fun pins s σ H D I ⟨C, e, q⟩ => by subst e; exact (hsu a C d oe pn hz hd).ps.run pins s σ H D I q⟩) hm, ?_⟩
    rintro tp Wout D D' H0 ho t0 h1 h2 h3 h4 cls d σ' H' ⟨C, fs, ω', A', rfl, ea, sm', ra', tle, b, hb1, g, g'⟩
    have t : TupLe X.K H0 H' := t0.trans (TupLe.trans (K := X.K) tle ra'.2.2.1)
    refine ⟨b, hx _ _ hb1, fun e a ha => ⟨C, rfl, ?_⟩, fun e => key tp Wout D D' H0 ho t0 h1 h2 h3 h4 _ _ _ _ ⟨C, fs, ω', A', rfl, ea, sm', ra', g' e⟩⟩
    obtain ⟨g1, g2⟩ := g e
    have sm2 : SimS X.K H' (σ'.set h.i (some (.ref a))) (ω'.set h.i (some (.ref a))) := sm'.set (by simp only [rep])
    rcases ea with ⟨rfl, e2⟩ | ⟨dd, vf, rfl, e2, e3, e4⟩
    · exact loS_i sm2 ra' (g1 e2 a (ra'.fresh ha)) (fun σ2 H2 ω2 A2 t2 sm2 ra2 q => h1 _ _ ⟨_, A2, t.trans t2, sm2.unset, ra2, q⟩) (fun σ2 H2 ω2 A2 t2 sm2 ra2 q => h2 _ _ ⟨_, A2, t.trans t2, sm2.unset, ra2, q⟩) (fun σ2 H2 ω2 A2 t2 sm2 ra2 q => h3 _ _ ⟨_, A2, t.trans t2, sm2.unset, ra2, q⟩) fun v H2 w A2 t2 ra2 r q => h4 _ _ ⟨w, A2, t.trans t2, ra2, r, q⟩
    · have ne : a ≠ dd := fun z => by subst z; rw [e2] at ha; cases ha
      exact loS_i sm2 (ra'.xd e2 e3 e4) (g2 a dd (ra'.fresh ha) e3 ne) (fun σ2 H2 ω2 A2 t2 sm2 ra2 q => h1 _ _ ⟨_, A2, t.trans t2, sm2.unset, ra2, q⟩) (fun σ2 H2 ω2 A2 t2 sm2 ra2 q => h2 _ _ ⟨_, A2, t.trans t2, sm2.unset, ra2, q⟩) (fun σ2 H2 ω2 A2 t2 sm2 ra2 q => h3 _ _ ⟨_, A2, t.trans t2, sm2.unset, ra2, q⟩) fun v H2 w A2 t2 ra2 r q => h4 _ _ ⟨w, A2, t.trans t2, ra2, r, q⟩
theorem ws_tryM (hs : X.stack = X.env :: X.outer) (hf : X.env.frame = some X.env.locals) (hN : X.N.Nodup) (tk : TakesW X E)
    (hb : ∀ (E' : XSw) (pn : List (Addr × Obj)) (xe : Value → Shared → Prop), TakesW (X.tr pn xe) E' → PassesOwn (model X.prog X.w) X.A X.env xe → WSs (X.tr pn xe) body (tb E'))
    (hh : HdsW X (h₀ :: hds) l) : WS X (.Try body (h₀ :: hds) [] [] pos) (wTryM l tb E) := by
  obtain ⟨m, hm, key⟩ := hh.low (E := E)
  refine WS.of (ps_try_manyAs hs hf hN tk (tb := fun W D σ H => ∃ E', (∀ cls d σ' H', UpE0 X.K E' cls d σ' H' → W cls d σ' H') ∧ loS X.K (tb E') D σ H)
    (fun W pn xe tkW po => ⟨fun pins s σ H D I ⟨E', hW, h⟩ => (hb E' pn xe (tkW.imp hW) po).ps.run pins s σ H D I h⟩) hm) fun D σ H ω A sm ra h => ?_
  have ra0 : RepA X.K H (A.at H) := ⟨ra.1, ra.2.1, TupLe.refl (K := X.K) H, ra.2.2.2⟩
  exact ⟨_, key H _ _ D H (fun _ _ _ _ z => z) (TupLe.refl H) (fun _ _ z => z) (fun _ _ z => z) (fun _ _ z => z) (fun _ _ z => z), loS_u (TupLe.refl H) sm ra0 (h H ra.2.2.1)⟩
end
end Wx

set_option Elab.async false
set_option linter.all false
set_option maxRecDepth 100000
set_option maxHeartbeats 4000000
/-! WX29: a lambda without parameters handed to a def that calls it once. -/
namespace Wx
open PySem PySem.Spec PyProof.Rows L2 LamX
section
variable {K : PySem.W.Frag} {H H' : Hp} {A : AH}
theorem extN_tup (e : ExtN H H') : TupLe K H H' := fun a vs => ⟨fun h => e a _ h (fun ps z => by cases z), fun o h => e a _ h (fun ps z => by cases z)⟩
theorem RepAt.extN {h : Ah} {a : Addr} {o : WO} (e : ExtN H H') (r : RepAt K H h a o) : RepAt K H' h a o := by
  have t : TupLe K H H' := extN_tup e
  cases o with
  | lst ws => obtain ⟨vs, q, r⟩ := r; exact ⟨vs, e _ _ q (fun ps z => by cases z), reps_mono t _ _ r⟩
  | rol ws =>
    obtain ⟨vs, q, r⟩ := r
    refine ⟨vs, ?_, reps_mono t _ _ r⟩
    rcases q with q | ⟨o, q⟩
    · exact .inl (e _ _ q (fun ps z => by cases z))
    · exact .inr ⟨o, e _ _ q (fun ps z => by cases z)⟩
  | dK kvs => obtain ⟨vs, q, r⟩ := r; exact ⟨vs, e _ _ q (fun ps z => by cases z), prs_mono t r⟩
  | dT kvs => obtain ⟨vs, q, r⟩ := r; exact ⟨vs, e _ _ q (fun ps z => by cases z), prs_mono t r⟩
  | ins C fs => obtain ⟨dx, vs, q, r⟩ := r; exact ⟨dx, vs, e _ _ q (fun ps z => by cases z), prs_mono t r⟩
  | exn C fs =>
    rcases r with ⟨q, z⟩ | ⟨d, vf, q, q2, q3, r⟩
    · exact .inl ⟨e _ _ q (fun ps z => by unfold exo at z; cases z), z⟩
    · exact .inr ⟨d, vf, e _ _ q (fun ps z => by unfold exo at z; cases z), e _ _ q2 (fun ps z => by unfold exd at z; cases z), q3, prs_mono t r⟩
  | xd fs => obtain ⟨vs, q, r⟩ := r; exact ⟨vs, e _ _ q (fun ps z => by cases z), prs_mono t r⟩
  | hid o => exact ⟨e _ _ r.1 r.2, r.2⟩
theorem RepA.extN (r : RepA K H A) (e : ExtN H H') (t : Tabs A.tb H') : RepA K H' A := ⟨fun a o q => (r.1 a o q).extN e, fun p n q => by
  obtain ⟨cl, ns, at_, dg, fo, e1, e2, z⟩ := r.2.1 p n q
  exact ⟨cl, ns, at_, dg, fo, e _ _ e1 (fun ps z => by cases z), e _ _ e2 (fun ps z => by cases z), z⟩, r.2.2.1.trans (extN_tup (K := K) e), t⟩
/-- what is known of the heap, told to be tracked -/
theorem RepA.hide (r : RepA K H A) {c : Addr} {o : HO} (e : H c = some o) (n : A.h c = none) (nt : ∀ ps, o ≠ .tbl ps) (nx : ∀ vf, o ≠ exd c vf) (nk : ∀ cl at_ dg n fo, o ≠ .dK (penKv cl at_ dg n fo)) (nl : ∀ vs, o ≠ .lst vs) : RepA K H (A.put c (.hid o)) := by
  refine ⟨fun b u q => ?_, fun p m q => ?_, r.2.2⟩
  · by_cases hb : b = c
    · subst hb
      rw [AH.put_same] at q
      cases q
      exact ⟨e, nt⟩
    · rw [AH.put_ne hb] at q
      refine (r.1 b u q).keep (TupLe.refl (K := K) H) (fun _ _ => rfl) fun d z ⟨vx, hx⟩ => ?_
      rw [AH.put_ne ?_]
      · exact z
      · intro y
        subst y
        rw [e] at hx
        exact nx _ (Option.some.inj hx)
  · obtain ⟨cl, ns, at_, dg, fo, e1, e2, e3, e4, rest⟩ := r.2.1 p m q
    refine ⟨cl, ns, at_, dg, fo, e1, e2, ?_, ?_, rest⟩
    · rw [AH.put_ne]
      · exact e3
      · intro y; subst y; rw [e] at e1; exact nk _ _ _ _ _ (Option.some.inj e1)
    · rw [AH.put_ne]
      · exact e4
      · intro y; subst y; rw [e] at e2; exact nl _ (Option.some.inj e2)
end
section
variable {X : Cx} {pins : List (Addr × Obj)} {σ : L2.St} {H HZ : Hp} {s s1 : Shared}
/-- x(), in the def that got the lambda; what is raised is wished for at that def's slots -/
theorem pe_actS {CXg : CXT} {Eg : XK} {Ng : List Str} {qg : Str} {sg : Scope} {g f c' : Addr} {cdg pm ctv : Value} {params : Arguments} {body : Expr} {scope : Scope} {k i : Nat} {a : Str} {pn : List (Addr × Obj)} {xe : Value → Shared → Prop} {W : WX} {tb : Hp → XK → TE} {p1 p2 : Pos}
    (I : Inv X pins σ H s) (L : LamS X.env.scope scope) (hf : s.heap.get? f = some (PySem.W.kla_obj "<lambda>" (X.env.qual ++ "<lambda>") params body scope (cloFrom X.env.cells scope.names []) pm c' ctv)) (hfn : H f = none) (hfr : f ∉ frs X.stack)
    (hbind : bindArgs (PySem.W.kla_fn "<lambda>" (X.env.qual ++ "<lambda>") params body scope (cloFrom X.env.cells scope.names []) pm (.ref c') ctv) ⟨[], []⟩ = pure [])
    (tk : Takes ((cxOf CXg X.prog X.w X.K X.mg X.base Ng qg sg g cdg X.A X.stack s H Eg).tr pn xe) W) (hr : Room (k + 1) (X.A.deeper (envOfC qg sg s.heap.objs.size g cdg)))
    (hbody : ∀ (A : Around) (outer : List Env) (s : Shared) (H : Hp) (E : XK), Room k (A.deeper (lamEnv X scope s.heap.objs.size f c')) → PE (lamCx X A outer s H E scope f c') body (tb H E))
    (hN : Ng[i]? = some a) (hv : Vis sg a) (hd : (a == ("__debug__" : Str)) = false := by decide) (hcd : (a == ("__classdict__" : Str)) = false := by decide) :
    PE ((cxOf CXg X.prog X.w X.K X.mg X.base Ng qg sg g cdg X.A X.stack s H Eg).tr pn xe) (.Call (.Name a p1) [] [] p2)
      (fun σZ HZ Q => σZ[i]? = some (some (.ref f)) ∧ HZ c' = some (CodeO c' (X.env.qual ++ "<lambda>")) ∧ tb HZ (L2.WE W σZ) σ HZ Q) := by
  refine ⟨fun pinsZ sZ σZ HZ Q IZ h => ?_⟩
  obtain ⟨hs, hc, ht⟩ := h
  refine wpAny_Call_Name_kw (thn ((pe_var (pos := p1) (i := i) hN hv hd hcd).run pinsZ sZ σZ HZ (fun v H1 => v = .ref f ∧ H1 = HZ) IZ ⟨.ref f, hs, rfl, rfl⟩) fun u s1 ⟨v, H1, I1, r1, q1⟩ => ?_)
  obtain ⟨ev, eH⟩ := q1
  subst ev
  rw [eH] at I1
  obtain rfl : u = Value.ref f := r1
  have of1 : s1.heap.get? f = some (PySem.W.kla_obj "<lambda>" (X.env.qual ++ "<lambda>") params body scope (cloFrom X.env.cells scope.names []) pm c' ctv) := I1.base.keep f _ hf hfn hfr (fun z => nomatch (show f ∈ ([] : List Addr) from z))
  refine PySem.W.callWith_F0 ⟨_, _, _, _, of1⟩ ?_
  have un : Un (frs X.stack) [] H HZ s.heap s1.heap := I1.base
  obtain ⟨⟨oc, vs, t, hoc, hdc, hvc⟩, _, _⟩ := I1.hok c' _ hc
  have rc : codeAny (model X.prog X.w) (X.A.deeper (envOfC qg sg s.heap.objs.size g cdg)) (.call (.ref f) ⟨[], []⟩) (CR (L2.CX X.prog X.w) (envOfC qg sg s.heap.objs.size g cdg :: X.stack) X.prog X.w HZ s1 Q (L2.WE W σZ)) s1 := by
    refine PySem.W.kla_callFunE hr.depth of1 rfl L.co L.gen rfl ⟨c', oc, vs, t, rfl, hoc, hdc, hvc⟩ ?_
    rw [hbind]
    refine wpAny_pure (wpAny_newFunctionEnv (fun y hy => (L.own y hy).2) (fun y hy => absurd hy (by simp)) (fun h₁ hns hsb => ⟨I1.nolimit.fresh _ hsb, ?_⟩) L.kind)
    show codeAny _ _ (.expr body (lamEnv X scope s1.heap.objs.size f c')) _ _
    have kp : ∀ b o, s1.heap.get? b = some o → h₁.get? b = some o := fun b o e => hsb.extBut b o (Nat.ne_of_lt (Heap.lt_size e)) (Heap.get?_push_of_some _ e)
    have J : Inv (lamCx X (X.A.deeper (envOfC qg sg s.heap.objs.size g cdg)) (envOfC qg sg s.heap.objs.size g cdg :: X.stack) s1 HZ (L2.WE W σZ) scope f c') [] σ HZ { s1 with heap := h₁, toks := s1.toks + ([] : List (Str × Value)).length } :=
      lam_start2 I L I1.env0 hr.hd un hns kp
    refine PySem.W.kla_codeExpr (wpAny_mono ((hbody _ _ s1 HZ (L2.WE W σZ) (hr.deeper _)).run [] _ _ HZ Q J ht) (fun v s' hq => ?_) fun e s' hq => hq)
    obtain ⟨w', H', J', rv, q⟩ := hq
    exact ⟨w', H', J'.os, J'.bare, J'.base, J'.hok, rv, q⟩
  have hx := passAt tk σZ
  refine wpAny_call (codeAny_mono rc fun r s' hq => ?_)
  cases r with
  | error e => exact hx pinsZ HZ s1 e s' I1 hq
  | ok fl =>
    cases fl with
    | ret u => exact I1.after hq
    | next => exact False.elim hq
    | brk => exact False.elim hq
    | cont => exact False.elim hq
end
/-! ### above the abstract heap -/
/-- what the lambda does: exceptions, results -/
abbrev ActW := XKw → AH → VKw → Prop
/-- the call in the def that got it -/
def wAct (f c' : Addr) (q : Str) (tl : ActW) (Ew : XSw) : TEw := fun ω A Q => ω[0]? = some (some (.ref f)) ∧ A.h c' = some (.hid (CodeO c' q)) ∧ tl (Ew ω) A Q
/-- the def that got the lambda -/
abbrev lamX (X : Cx) (Ng : List Str) (x : Str) (sg : Scope) (g : Addr) (cdg : Value) (s : Shared) (H : Hp) : Cx := cxOf C8.CX0 X.prog X.w X.K X.mg X.base Ng x sg g cdg X.A X.stack s H C8.E0
def wLam (T : List (Addr × Str)) (q : Str) (Ng : List Str) (tb : Addr → Addr → ActW → TSw) (t : XKw → TEw) : TEw := fun ω A Q => A.tb = T ∧
  ∀ f c' A1, A.Sub A1 → A1.h c' = some (.hid (CodeO c' q)) → (∀ b, b ≠ c' → A1.h b = A.h b) → A1.pen = A.pen → A1.tp = A.tp →
    tb f c' (fun E A' Q' => t E ω A' Q') { nx := fun _ A' => Q .non A', rt := Q } (startW Ng [.ref f]) A1
section
variable {X : Cx}
theorem codeO_lst {c : Addr} {q : Str} {vs : List V} : CodeO c q ≠ .lst vs := fun z => by unfold CodeO at z; cases z
theorem codeO_dK {c : Addr} {q : Str} {kv : List (Key × V)} : CodeO c q ≠ .dK kv := fun z => by unfold CodeO at z; cases z
theorem codeO_exd {c d : Addr} {q : Str} {vf : List (Str × V)} {h : Heap} {oc : Obj} {vs : Array Value} {t : Tok} (h1 : h.get? c = some oc) (h2 : oc.data = .fields vs) (h3 : vs[1]? = some (.str q t)) : CodeO c q ≠ exd c vf := fun z => by
  unfold CodeO exd at z
  injection z with z
  have y : (∃ mA, h.Ns1 c mA ∧ ∀ f, RelO (vf.lookup f) (mA f)) := by
    rw [← congrFun z h]
    exact ⟨oc, vs, t, h1, h2, h3⟩
  obtain ⟨mA, ⟨o, es, ep, e1, e2, _⟩, _⟩ := y
  rw [h1] at e1
  cases e1
  rw [h2] at e2
  cases e2
theorem codeO_exo {c : Addr} {q : Str} {C : Addr} {d : Option Addr} {h : Heap} {oc : Obj} {vs : Array Value} {t : Tok} (h1 : h.get? c = some oc) (h2 : oc.data = .fields vs) (h3 : vs[1]? = some (.str q t)) : CodeO c q ≠ exo c C d := fun z => by
  unfold CodeO exo at z
  injection z with z
  have y : ∃ t1 : Addr, h.get? c = some ({ cls := .ref C, dict := d, data := .fields #[.ref t1, .none, .none, .none, .bool false, .none] } : Obj) := by
    rw [← congrFun z h]
    exact ⟨oc, vs, t, h1, h2, h3⟩
  obtain ⟨t1, e1⟩ := y
  rw [h1] at e1
  cases e1
  cases h2
  simp at h3
/-- the code object found or made is tracked -/
theorem RepA.code {K : PySem.W.Frag} {H : Hp} {A : AH} (r : RepA K H A) {c : Addr} {q : Str} {h : Heap} {oc : Obj} {vs : Array Value} {tk : Tok} (h1 : h.get? c = some oc) (h2 : oc.data = .fields vs) (h3 : vs[1]? = some (.str q tk)) (e : H c = some (CodeO c q)) : ∃ A1, A.Sub A1 ∧ A1.h c = some (.hid (CodeO c q)) ∧ (∀ b, b ≠ c → A1.h b = A.h b) ∧ A1.pen = A.pen ∧ A1.tp = A.tp ∧ RepA K H A1 := by
  cases ea : A.h c with
  | none => exact ⟨A.put c (.hid (CodeO c q)), .put ea, AH.put_same, fun b n => AH.put_ne n, rfl, rfl, r.hide e ea (fun ps => codeO_ne ps) (fun _ => codeO_exd (d := c) h1 h2 h3) (fun _ _ _ _ _ => codeO_dK) fun _ => codeO_lst⟩
  | some o =>
    have r1 := r.1 c o ea
    have : o = .hid (CodeO c q) := by
      cases o with
      | lst ws => obtain ⟨vs, z, _⟩ := r1; rw [e] at z; exact absurd (Option.some.inj z) codeO_lst
      | rol ws =>
        obtain ⟨vs, z, _⟩ := r1
        rcases z with z | ⟨o, z⟩
        · rw [e] at z; exact absurd (Option.some.inj z) codeO_lst
        · rw [e] at z; have z := Option.some.inj z; unfold CodeO at z; cases z
      | dK kvs => obtain ⟨vs, z, _⟩ := r1; rw [e] at z; exact absurd (Option.some.inj z) codeO_dK
      | dT kvs => obtain ⟨vs, z, _⟩ := r1; rw [e] at z; have z := Option.some.inj z; unfold CodeO at z; cases z
      | ins C fs => obtain ⟨dx, vs, z, _⟩ := r1; rw [e] at z; have z := Option.some.inj z; unfold CodeO at z; cases z
      | exn C fs =>
        rcases r1 with ⟨z, _⟩ | ⟨d, vf, z, _⟩
        · rw [e] at z
          have z := Option.some.inj z
          exact absurd z (codeO_exo h1 h2 h3)
        · rw [e] at z
          have z := Option.some.inj z
          exact absurd z (codeO_exo h1 h2 h3)
      | xd fs => obtain ⟨vs, z, _⟩ := r1; rw [e] at z; have z := Option.some.inj z; unfold CodeO at z; cases z
      | hid o =>
        have z := r1.1
        rw [e] at z
        rw [← Option.some.inj z]
    subst this
    exact ⟨A, .refl A, ea, fun _ _ => rfl, rfl, rfl, r⟩
/-- x(lambda: body) -/
theorem we_lamcall {gd : Bool} {T : List (Addr × Str)} {x a : Str} {g c P : Addr} {k : Nat} {pg : Arguments} {bg : List Stmt} {sg : Scope} {dV kV doc pm cdv ct oc : Value} {an od : Option Addr} {osl : Array (Option Value)} {Ng : List Str}
    {params : Arguments} {body : Expr} {scope : Scope} {t : XKw → TEw} {tb : Addr → Addr → ActW → TSw} {p lpos pos : Pos} (hg : Gl X x) (hm : X.mg x = some (.ref g)) (hk : PySem.W.keepIn X.K (.ref g) = true)
    (lk : X.K.lookup g = some ⟨oc, od, .func (PySem.W.fnOf x x pg bg sg dV kV doc pm an cdv ct), osl⟩) (hcg : PySem.W.codeIn X.K cdv x = true) (hb : L2.Binds X.K (PySem.W.fnOf x x pg bg sg dV kV doc pm an cdv ct) [a] []) (Sg : FnScope Ng [a] sg) (hNg : Ng[0]? = some a) (hva : Vis sg a)
    (hG : ∀ (f c' : Addr) (s : Shared) (H : Hp) (tl : ActW), RoomG gd (k + 1) (X.A.deeper (envOfC x sg s.heap.objs.size g cdv)) → (∀ (Ew : XSw) (pn : List (Addr × Obj)) (xe : Value → Shared → Prop) (p1 p2 : Pos), TakesW ((lamX X Ng x sg g cdv s H).tr pn xe) Ew → WE ((lamX X Ng x sg g cdv s H).tr pn xe) (.Call (.Name a p1) [] [] p2) (wAct f c' (X.env.qual ++ "<lambda>") tl Ew)) →
      WSs (lamX X Ng x sg g cdv s H) bg (tb f c' tl))
    (TB : TabB X.base X.mg c P) (hcode : X.env.code = .ref c) (hmT : (P, X.env.qual ++ "<lambda>") ∈ T) (hu : ∀ p ∈ T, p.1 = P → p.2 = X.env.qual ++ "<lambda>") (hr : RoomG gd (k + 2) X.A) (L : LamS X.env.scope scope) (hdef : defaultsOf params X.env = ([], []))
    (hbind : ∀ (q : Str) (cl : List (Str × Addr)) (pm cv ctv : Value), bindArgs (PySem.W.kla_fn "<lambda>" q params body scope cl pm cv ctv) ⟨[], []⟩ = pure [])
    (hbody : ∀ (A : Around) (outer : List Env) (s : Shared) (H : Hp) (Ek : XK) (E : XKw) (f c' : Addr), (∀ cls d H', UpE X.K H E cls d H' → Ek cls d H') → Room k (A.deeper (lamEnv X scope s.heap.objs.size f c')) → WE (lamCx X A outer s H Ek scope f c') body (t E))
    (hdb : (x == ("__debug__" : Str)) = false := by decide) (hd : (a == ("__debug__" : Str)) = false := by decide) (hcd : (a == ("__classdict__" : Str)) = false := by decide) :
    WE X (.Call (.Name x p) [.Lambda params body scope lpos] [] pos) (wLam T (X.env.qual ++ "<lambda>") Ng tb t) := by
  refine ⟨fun pins s σ H ω A Q I sm ra h => ?_⟩
  obtain ⟨eT, h⟩ := h
  have hT : Tabs T H := eT ▸ ra.2.2.2
  refine wpAny_Call_Name_kw (ld_glob I hg hm ?_ hdb)
  refine PySem.W.callWith_K (h₀ := X.base) I.ok.mod.kin hk ?_ (by rfl) (by rfl)
  show wpAny _ _ (spliced ((false, eval (.Lambda params body scope lpos) X.env) :: backTo pos (starEach [] X.env))) _ _ s
  refine Calls.spliced_cons (lam_make2 I TB hcode hmT hu hT hdef (L.has I.ok) fun f c' pm' ctv H1 s' I1 eN T1 hf hfn hfr hco => ?_)
  refine Calls.spliced_nil ⟨I1.kIn, ?_⟩
  have t01 : TupLe X.K H H1 := extN_tup eN
  have sm1 : SimS X.K H1 σ ω := sm.mono t01
  obtain ⟨⟨ocx, vsx, tx, x1, x2, x3⟩, _, _⟩ := I1.hok c' _ hco
  obtain ⟨A1, a1, a2, a3, a4, a5, ra1⟩ := (ra.extN eN (eT ▸ T1)).code x1 x2 x3 hco
  have rc : codeAny (model X.prog X.w) X.A (.call (.ref g) ⟨[.ref f], []⟩) (CR C8.CX0 X.stack X.prog X.w H1 s' (Up X.K H1 Q) C8.E0) s' := by
    refine run_ofS (N := Ng) (ps := [a]) (us := [.ref f]) (vs := [.ref f]) lk hcg Sg hr.r I1.env0 (hb s' [.ref f] I1.kIn rfl) (.cons rfl .nil) rfl fun hr' => ?_
    have hW := hG f c' s' H1 (fun E A' Q' => t E ω A' Q') ⟨hr', fun z => hr.gd z⟩ fun Ew pn xe p1 p2 tk => ⟨fun pinsZ sZ σZ HZ ωZ AZ QZ IZ smZ raZ hz => ?_⟩
    · refine ⟨_, hW.ps, ?_⟩
      have hst : SimS X.K H1 (L2.start Ng [.ref f]) (startW Ng [.ref f]) := simS_start (reps_cons (by simp only [rep]) reps_nil)
      exact loS_i hst ra1 (h f c' A1 a1 a2 a3 a4 a5) (fun σ' H' ω' A' t1 sm1 ra1 q => ⟨.non, A', t1, ra1, by simp only [rep], q⟩) (fun _ _ _ _ _ _ _ z => z) (fun _ _ _ _ _ _ _ z => z) fun v H' w A' t1 ra1 r q => ⟨w, A', t1, ra1, r, q⟩
    · obtain ⟨z1, z2, z3⟩ := hz
      have tle : TupLe X.K H1 HZ := Inv.tupLe0 IZ
      obtain ⟨v0, ev, rv⟩ := smZ.2 0 _ z1
      simp only [rep] at rv
      subst rv
      have hp := pe_actS (i := 0) (p1 := p1) (p2 := p2) (tb := fun H0 Ek σ' H' Q' => ∃ E : XKw, (∀ cls d H'', UpE X.K H0 E cls d H'' → Ek cls d H'') ∧ lo X.K (t E) σ' H' Q') I1 L hf hfn hfr (hbind _ _ _ _ _) tk hr'
        (fun A outer s H Ek hr2 => ⟨fun pins s σ H' Q I ⟨E, hE, q⟩ => (hbody A outer _ H Ek E f c' hE hr2).pe.run pins s σ H' Q I q⟩) hNg hva hd hcd
      refine thn (hp.run pinsZ sZ σZ HZ (Up X.K HZ QZ) IZ ⟨ev, (raZ.1 _ _ z2).1, Ew ωZ, ?_, ω, AZ, QZ, sm1.mono tle, raZ, z3, fun _ _ u => u⟩) fun u s2 ⟨v, H2, I2, r, w, A2, t1, t2, t3, q⟩ => ⟨v, H2, w, A2, I2, r, t1, t2, t3, q⟩
      rintro cls d H'' ⟨C, fs, A', e1, e2, t, ra', q⟩
      exact ⟨C, fs, ωZ, A', e1, e2, smZ.mono t, ra', q⟩
  refine wpAny_call (codeAny_mono rc fun r s2 hq => ?_)
  cases r with
  | error e => exact (show False from hq).elim
  | ok fl =>
    cases fl with
    | ret u =>
      obtain ⟨v, H2, I2, r, w, A2, t1, t2, t3, q⟩ := I1.after hq
      exact ⟨v, H2, w, A2, I2, r, t01.trans t1, t2, t3, q⟩
    | next => exact False.elim hq
    | brk => exact False.elim hq
    | cont => exact False.elim hq
end
end Wx

set_option Elab.async false
set_option linter.all false
set_option maxRecDepth 100000
set_option maxHeartbeats 4000000
/-! WX30: list * k, text * k, s.upper(), a parameter that holds a def of the text. -/
namespace Wx
open PySem L2
def rRepL : R2 := fun x y H Q => ∃ l k xs, x = .ref l ∧ y = .int k ∧ H l = some (.lst xs) ∧ 0 ≤ k ∧ k ≤ 1000 ∧ xs.length ≤ 1000 ∧ ∀ p, H p = none → Q (.ref p) (upd H p (.lst (List.replicate k.toNat xs).flatten))
section
variable {X : Cx}
theorem op_repL : OpR X (binaryOp .Mult) rRepL := by
  intro pins s σ H x y v u Q I rx ry h
  obtain ⟨l, k, xs, rfl, rfl, hL, h1, h2, hz, q⟩ := h
  cases rx
  obtain ⟨t, rfl⟩ := ry
  obtain ⟨hs, its, n, r, hle, ho⟩ := I.lstM hL
  have hm : its.length * k.toNat ≤ 1000 * 1000 := by rw [← hle]; exact Nat.mul_le_mul hz (by omega)
  have hsz : its.toArray.size * k.toNat ≤ 1000 * 1000 := by rw [List.size_toArray]; exact hm
  refine wpAny_binaryOp_repeat_ref (T := "list") (U := "int") (by decide) ⟨_, ho, rfl⟩ (fun s' => typeIs_int s' k t) noFill_list_mul F.fills_int_mul F.slot_int_rmul repeat_list F.slot_int_index.lookup
    (call_meets F.slot_int_rmul (typeIs_int s k t) F.entry_int_rmul (F.args_int_rmul_2 _ _) (int___rmul___int_list k t l its.toArray n)
      ⟨ho, rfl, ⟨_, ho, rfl⟩, call_meets F.slot_list_mul ⟨_, ho, rfl⟩ F.entry_list_mul (F.args_list_mul_2 _ _)
        (AutoListH.list___mul___list_int_3 l its.toArray n k t (by simp [Builtin.List.listFitsIndex]; omega) (by omega) (by simp [Builtin.List.listTooLong, sizeLine_eq]; omega)) ⟨ho, ?_⟩⟩)
  have hflat : (List.foldl (fun x1 x2 => x1 ++ x2) #[] (List.replicate (if its.toArray.isEmpty = true then 0 else k.toNat) its.toArray)) = (List.replicate k.toNat its).flatten.toArray := by
    have := PyProof.Rows.listMul_foldl its.toArray (if its.toArray.isEmpty = true then 0 else k.toNat) #[]
    rw [this]
    cases its with
    | nil => simp
    | cons a b => simp
  rw [hflat]
  refine ⟨.ref s.heap.objs.size, _, I.laid (t' := s.toks) (o := .lst (List.replicate k.toNat xs).flatten) (fun b ob q => Heap.get?_push_of_some _ q) (Nat.le_refl _) ?_, rfl, q _ (I.hok.fresh (Nat.le_refl _))⟩
  exact ⟨by rw [PyProof.Rows.lm_len_rep_flat, sizeLine_eq]; have a1 : k.toNat * xs.length ≤ 1000 * 1000 := Nat.mul_le_mul (by omega) hz; omega, _, _, r.rep k.toNat, Heap.get?_push_size _ rfl⟩
def wRepL : R2w := fun x y A Q => ∃ (l : Addr) (xs : List W) (k : Int), x = .ref l ∧ y = .int k ∧ A.h l = some (.lst xs) ∧ 0 ≤ k ∧ k ≤ 1000 ∧ xs.length ≤ 1000 ∧ ∀ p, A.h p = none → Q (.ref p) (A.put p (.lst (List.replicate k.toNat xs).flatten))
theorem ow_repL : OpW X (binaryOp .Mult) wRepL := OpW.of op_repL fun H A x y a b Q ra ha hb ⟨l, xs, k, e1, e2, hl, h2, h3, h4, q⟩ => by
  subst e1 e2
  simp only [rep] at ha hb
  obtain ⟨vs, e, rs⟩ := ra.lst hl
  exact ⟨l, k, vs, ha, hb, e, h2, h3, by rw [reps_length rs]; exact h4, fun p hp => Up.new ra hp (reps_rep rs _) q⟩
/-! text * k -/
theorem foldl_rep_size {α : Type} (x : Array α) : ∀ (k : Nat) (acc : Array α), ((List.replicate k x).foldl (· ++ ·) acc).size = acc.size + k * x.size
  | 0, acc => by simp
  | k + 1, acc => by
    rw [List.replicate_succ, List.foldl_cons, foldl_rep_size x k, Array.size_append, Nat.succ_mul]
    omega
def strRep (k : Nat) (x : Str) : Str := ⟨(List.replicate k x.cps).foldl (· ++ ·) #[]⟩
theorem op_repS : OpR X (binaryOp .Mult) (fun x y H Q => ∃ (i : Str) (k : Int), x = .str i ∧ y = .int k ∧ 1 < k ∧ k ≤ 1000 ∧ 0 < i.length ∧ i.length ≤ 1000 ∧ Q (.str (strRep k.toNat i)) H) := by
  intro pins s σ H x y v u Q I rx ry h
  obtain ⟨i, k, rfl, rfl, h1, h2, h3, h4, q⟩ := h
  obtain ⟨t, rfl⟩ := rx
  obtain ⟨t', rfl⟩ := ry
  have e1 : (k == 1 || i.length == 0) = false := by
    rw [Bool.or_eq_false_iff]
    exact ⟨beq_eq_false_iff_ne.mpr (by omega), beq_eq_false_iff_ne.mpr (by omega)⟩
  refine PySem.P.mul_str (by rw [decide_eq_false (by omega), decide_eq_false (by omega)] <;> rfl) (fun _ _ => ?_) (fun _ _ => ?_) ?_
  · intro z
    have : (i.length : Int) ≤ (2 ^ 63 - 1) / k := by
      rw [Int.le_ediv_iff_mul_le (by omega)]
      have : (i.length : Int) * k ≤ 1000 * 1000 := Int.mul_le_mul (by omega) h2 (by omega) (by omega)
      omega
    omega
  · unfold Builtin.Str.tooLong
    rw [sizeLine_eq]
    have : i.length * k.toNat ≤ 1000 * 1000 := Nat.mul_le_mul h4 (by omega)
    exact decide_eq_false (by omega)
  · rw [if_neg (by omega), e1]
    refine ⟨?_, .str (strRep k.toNat i), H, I.tok _, ⟨_, rfl⟩, q⟩
    show ((List.replicate k.toNat i.cps).foldl (· ++ ·) #[]).size ≤ sizeLine
    rw [foldl_rep_size, sizeLine_eq]
    have : i.length * k.toNat ≤ 1000 * 1000 := Nat.mul_le_mul h4 (by omega)
    have e : i.cps.size = i.length := rfl
    rw [e, Nat.mul_comm]
    simp
    omega
def wRepS : R2w := fun x y A Q => ∃ (i : Str) (k : Int), x = .str i ∧ y = .int k ∧ 1 < k ∧ k ≤ 1000 ∧ 0 < i.length ∧ i.length ≤ 1000 ∧ Q (.str (strRep k.toNat i)) A
theorem ow_repS : OpW X (binaryOp .Mult) wRepS := OpW.of op_repS fun H A x y a b Q ra ha hb ⟨i, k, e1, e2, h1, h2, h3, h4, q⟩ => by
  subst e1 e2
  simp only [rep] at ha hb
  exact ⟨i, k, ha, hb, h1, h2, h3, h4, Up.i ra (by simp only [rep]) q⟩
/-! s.upper() -/
def wUpper : W → List W → AH → VKw → Prop := fun x ws A Q => ∃ a : Str, x = .str a ∧ ws = [] ∧ a.length ≤ 5592405 ∧ Q (.str (Txt.upper a)) A
theorem mw_upper : MtW X "str.upper" wUpper := MtW.of mt_upper fun H A x a vs ws Q ra ha r ⟨s, e1, e2, h1, q⟩ => by
  subst e1 e2
  simp only [rep] at ha
  obtain rfl := reps_unnil r
  exact ⟨s, ha, rfl, h1, Up.i ra (by simp only [rep]) q⟩
end
/-! a def of the text in a slot -/
section
variable {X : Cx} {g : Bool} {k i : Nat} {f : Addr} {fd : FuncData} {ps : List Str} {sp : Sp} {spw : SpW} {E : L2.St → XK} {Ew : XSw} {a : Str} {p pos : Pos} {e : Expr} {es : List Expr} {t : TA} {ta : TAw}
theorem pe_callV (F : FnB g X.prog X.w X.K X.mg X.base k f fd ps sp) (hr : RoomG g k X.A) (hk : PySem.W.keepIn X.K (.ref f) = true) (hb : Binds X.K fd ps []) (hx : ∀ σ, PassesAt (L2.CX X.prog X.w) X σ (E σ)) (hN : X.N[i]? = some a) (hv : Vis X.env.scope a)
    (ha : PA X (e :: es) t) (hd : (a == ("__debug__" : Str)) = false := by decide) (hcd : (a == ("__classdict__" : Str)) = false := by decide) (he : starEach (e :: es) X.env = (false, eval e X.env) :: starEach es X.env := by rfl) (hpl : (backTo pos (starEach es X.env)).any (·.1) = false := by rfl) :
    PE X (.Call (.Name a p) (e :: es) [] pos) (fun σ H Q => σ[i]? = some (some (.ref f)) ∧ tCallSD sp [] E t σ H Q) := by
  refine ⟨fun pins s σ H Q I ⟨hs, h⟩ => ?_⟩
  refine wpAny_Call_Name_kw (thn ((pe_var (pos := p) (i := i) hN hv hd hcd).run pins s σ H (fun v H1 => v = .ref f ∧ H1 = H) I ⟨.ref f, hs, rfl, rfl⟩) fun u s1 ⟨v, H1, I1, r1, q1⟩ => ?_)
  obtain ⟨ev, eH⟩ := q1
  subst ev
  rw [eH] at I1
  obtain rfl : u = Value.ref f := r1
  exact PySem.W.callWith_K (h₀ := X.base) I1.ok.mod.kin hk (thn (ha.run pos pins s1 σ H _ I1 h) fun us s2 ⟨vs, H2, I2, r, q⟩ => ⟨I2.kIn, run_fnB F hr hb .nil (hx σ) I2 r q⟩) he hpl
def wCallV (i : Nat) (f : Addr) (sp : SpW) (ta : TAw) (E : XSw) : TEw := fun ω A Q => ω[i]? = some (some (.ref f)) ∧ wCallX sp [] ta E ω A Q
theorem we_callV (tk : TakesW X Ew) (F : FnB g X.prog X.w X.K X.mg X.base k f fd ps (spL X.K spw)) (hr : RoomG g k X.A) (hk : PySem.W.keepIn X.K (.ref f) = true) (hb : Binds X.K fd ps []) (hN : X.N[i]? = some a) (hv : Vis X.env.scope a)
    (ha : WA X (e :: es) ta) (hd : (a == ("__debug__" : Str)) = false := by decide) (hcd : (a == ("__classdict__" : Str)) = false := by decide) (he : starEach (e :: es) X.env = (false, eval e X.env) :: starEach es X.env := by rfl) (hpl : (backTo pos (starEach es X.env)).any (·.1) = false := by rfl) :
    WE X (.Call (.Name a p) (e :: es) [] pos) (wCallV i f spw ta Ew) := WE.of (pe_callV F hr hk hb (fun σ => passAt tk σ) hN hv ha.pa hd hcd he hpl) fun σ H ω A Q sm ra ⟨h0, h⟩ => by
  obtain ⟨v, ev, rv⟩ := sm.2 i _ h0
  simp only [rep] at rv
  subst rv
  exact ⟨ev, loA_i sm ra h fun vs H1 ws A1 t1 sm1 ra1 r q => ⟨ws ++ [], A1, Q, Ew ω, reps_append r reps_nil, ra1, q, fun v H' u => Up.trans t1 u, fun c d H' ⟨C, fs, A', e1, e2, t2, e3, e4⟩ => ⟨C, fs, ω, A', e1, e2, sm1.mono t2, e3, e4⟩⟩⟩
end
end Wx

set_option Elab.async false
set_option linter.all false
set_option maxRecDepth 100000
set_option maxHeartbeats 4000000
/-! WX31: the end of a law whose defs make lambdas; a def by its own code object. -/
namespace Wx
open PySem PySem.Spec L2
/-- a def by its body, its code object known -/
structure FunC (K : PySem.W.Frag) (x qual : Str) (st : Stmt) (f : Addr) (fd : FuncData) (cdv : Value) : Prop where
  ex : ∃ (oc : Value) (od : Option Addr) (kV doc pm : Value) (an : Option Addr) (ct : Value) (osl : Array (Option Value)),
    fd = PySem.W.fnOf x qual (defArgs st) (defBody st) (defScope st) .none kV doc pm an cdv ct ∧ K.lookup f = some ⟨oc, od, .func fd, osl⟩ ∧ PySem.W.codeIn K cdv qual = true
theorem fnW_c {P : Program} {w : World} {K : PySem.W.Frag} {mg : Str → Option Value} {base : Heap} {x qual : Str} {st : Stmt} {f : Addr} {fd : FuncData} {cdv : Value} {N ps : List Str} {g : Bool} {k : Nat} {sp : SpW} {t : XSw → TSw} (F : FunC K x qual st f fd cdv) (S : FnScope N ps (defScope st)) (len : ∀ ws A Q E, sp ws A Q E → ws.length = ps.length)
    (hbody : ∀ (A : Around) (outer : List Env) (s : Shared) (H : Hp) (E : XK) (Ew : XSw), RoomG g k (cxB P w K mg base N qual st f cdv A outer s H E).A → TakesW (cxB P w K mg base N qual st f cdv A outer s H E) Ew → WSs (cxB P w K mg base N qual st f cdv A outer s H E) (defBody st) (t Ew))
    (rd : ∀ ws A Q E, sp ws A Q E → t (fun _ => fgE E) { nx := fun _ A' => fg Q .non A', rt := fg Q } (startW N ws) A) : FnB g P w K mg base (k + 1) f fd ps (spL K sp) := by
  obtain ⟨oc, od, kV, doc, pm, an, ct, osl, rfl, lk, hcd⟩ := F.ex
  refine fnB_of lk hcd S (fun vs H Q E h => ?_) fun A outer s H vs Q E hr h => ?_
  · obtain ⟨ws, A, Q', E', r, _, h, _⟩ := h
    rw [reps_length r]
    exact len _ _ _ _ h
  · obtain ⟨ws, Aa, Q', E', r, ra, h, kQ, kE⟩ := h
    have tk : TakesW (cxB P w K mg base N qual st f cdv A outer s H E) (fun _ => fgE E') := takesW_of (takes_of rfl rfl rfl rfl) fun c d H' ⟨C, fs, A', e1, e2, e3, e4, A'', sb, e5⟩ => kE _ _ _ ⟨C, fs, A'', e1, e2.sub sb, e3, e4.sub sb, e5⟩
    refine ⟨_, (hbody A outer s H E (fun _ => fgE E') hr tk).ps, ?_⟩
    refine loS_i (simS_start r) ra (rd ws Aa Q' E' h) (fun σ' H' ω' A' t1 sm1 ra1 ⟨A'', sb, q⟩ => kQ _ _ ⟨.non, A'', t1, ra1.sub sb, by simp only [rep], q⟩) (fun _ _ _ _ _ _ _ z => z) (fun _ _ _ _ _ _ _ z => z) (fun v H' w A' t1 ra1 r ⟨A'', sb, q⟩ => kQ _ _ ⟨w, A'', t1, ra1.sub sb, r, q⟩)
/-- the tables: the code object, its table, the name of what is made there -/
structure LamTab where
  c : Addr
  P : Addr
  q : Str
def tabsOf (cs : List LamTab) : List (Addr × Str) := cs.map fun t => (t.P, t.q)
theorem law_callGT {P : Program} {w : World} {K : PySem.W.Frag} {mg mb : Str → Option Value} {k : Nat} {fa a : Addr} {cs : List LamTab} {fd : FuncData} {x : Str} {sp : SpW} {s₁ : Shared} {vs : List Value} {ns : List Int}
    (KX : K.In s₁.heap) (hns : s₁.heap.Ns mainGlobals mg) (hb : s₁.heap.Ns builtinsNs mb) (hbb : ∀ x : Str, x ≠ "__name__" → mb x = bootBuiltins x) (hlim : s₁.heap.NoLimit) (hg : s₁.gens = #[])
    (hT : ∀ p ∈ cs, s₁.heap.get? p.P = some { cls := .none, data := .fields #[] }) (nT : ∀ p ∈ cs, K.lookup p.P = none) (C : ∀ p ∈ cs, PySem.W.CodeHd s₁.heap p.c p.P)
    (hbm : ∃ (bm : Addr) (ob : Obj), mg "__builtins__" = some (.ref bm) ∧ bm ≠ builtinsNs ∧ s₁.heap.get? bm = some ob ∧ ob.cls = .type "module" ∧ ob.dict = some builtinsNs ∧ ob.data = .plain)
    (ha : s₁.heap.get? a = some { cls := .type "list", data := .seq vs.toArray }) (hi : PyProof.Rows.IntsAre vs ns) (hl : ns.length ≤ sizeLine) (hr : Room k callerA) (hk : K.lookup a = none)
    (F : ∀ base : Heap, K.In base → base.Ns mainGlobals mg → (∀ p ∈ cs, LamX.TabB base mg p.c p.P) → FnB true P w K mg base k fa fd [x] (spL K sp)) (hbind : ∀ (s : Shared) (u : Value), BindsTo s fd ⟨[u], []⟩ [(x, u)])
    (hsp : ∀ A : AH, A.h a = some (.rol (ns.map W.int)) → A.pen = none → A.tb = tabsOf cs → sp [.ref a] A (fun v _ => v = .bl true) E0w) :
    codeAny (model P w) callerA (.call (.ref fa) ⟨[.ref a], []⟩) (fun r s' => r = .ok (.ret (.bool true)) ∧ OldK s₁.heap s'.heap ∧ s'.os = s₁.os ∧ PyProof.Rows.AllBare s'.gens) s₁ := by
  have isT : ∀ b, (∃ p ∈ cs, p.P = b) → s₁.heap.get? b = some { cls := .none, data := .fields #[] } := fun b ⟨p, hp, e⟩ => e ▸ hT p hp
  have aT : ¬ ∃ p ∈ cs, p.P = a := fun z => by
    have q := isT a z
    rw [ha] at q
    have z' : Data.seq vs.toArray _ = Data.fields #[] := congrArg Obj.data (Option.some.inj q)
    cases z'
  obtain ⟨H, Ha, HT, Hn⟩ : ∃ H : Hp, H a = some (.frz { cls := .type "list", data := .seq vs.toArray } (.lst (ns.map V.int))) ∧ (∀ b, (∃ p ∈ cs, p.P = b) → H b = some (.tbl #[])) ∧ ∀ b, b ≠ a → (¬ ∃ p ∈ cs, p.P = b) → H b = none := by
    classical
    refine ⟨fun b => if b = a then some (.frz { cls := .type "list", data := .seq vs.toArray } (.lst (ns.map V.int))) else if ∃ p ∈ cs, p.P = b then some (.tbl #[]) else none, if_pos rfl, fun b hb => ?_, fun b h1 h2 => ?_⟩
    · show (if b = a then _ else _) = _
      rw [if_neg (fun z : b = a => aT (by rw [← z]; exact hb)), if_pos hb]
    · show (if b = a then _ else _) = _
      rw [if_neg h1, if_neg h2]
  have cases3 : ∀ b u, H b = some u → (b = a ∧ u = .frz { cls := .type "list", data := .seq vs.toArray } (.lst (ns.map V.int))) ∨ ((∃ p ∈ cs, p.P = b) ∧ u = .tbl #[]) := fun b u e => by
    by_cases h1 : b = a
    · subst h1
      rw [Ha] at e
      exact .inl ⟨rfl, (Option.some.inj e).symm⟩
    · by_cases h2 : ∃ p ∈ cs, p.P = b
      · rw [HT b h2] at e
        exact .inr ⟨h2, (Option.some.inj e).symm⟩
      · rw [Hn b h1 h2] at e
        cases e
  have hok : HOk P w H s₁.heap := fun b u e => by
    rcases cases3 b u e with ⟨rfl, rfl⟩ | ⟨h2, rfl⟩
    · exact ⟨ha, by rw [List.length_map]; exact hl, vs, _, vals_ints hi, ha⟩
    · exact isT b h2
  have free : ∀ {b : Addr} {o : Obj}, s₁.heap.get? b = some o → (∀ us n, o.data ≠ .seq us n) → o.data ≠ .fields #[] → H b = none := fun {b o} e h1 h2 => by
    cases q : H b with
    | none => rfl
    | some u =>
      rcases cases3 b u q with ⟨rfl, _⟩ | ⟨z, _⟩
      · rw [ha] at e
        cases e
        exact (h1 _ _ rfl).elim
      · rw [isT b z] at e
        cases e
        exact (h2 rfl).elim
  have inB : ∀ {b : Addr} {o : Obj}, s₁.heap.get? b = some o → H b = none → (hidT s₁.heap H).get? b = some o := fun e n => hidT_get e n
  have nsK : ∀ {b : Addr} {m : Str → Option Value}, s₁.heap.Ns b m → (hidT s₁.heap H).Ns b m := fun {b m} ⟨o, es, ep, e, d, r⟩ => ⟨o, es, ep, inB e (free e (fun _ _ z => by rw [d] at z; cases z) fun z => by rw [d] at z; cases z), d, r⟩
  have hKb : K.In (hidT s₁.heap H) := fun b o e => inB (KX b o e) (by
    cases q : H b with
    | none => rfl
    | some u =>
      rcases cases3 b u q with ⟨rfl, _⟩ | ⟨⟨p, hp, z⟩, _⟩
      · rw [hk] at e; cases e
      · subst z; rw [nT p hp] at e; cases e)
  have hM : Mod K mg (hidT s₁.heap H) := ⟨hKb, nsK hns, ⟨mb, nsK hb, hbb⟩, let ⟨mc, h1, h2⟩ := hlim; ⟨mc, nsK h1, h2⟩⟩
  have TB : ∀ p ∈ cs, LamX.TabB (hidT s₁.heap H) mg p.c p.P := fun p hp => by
    refine ⟨?_, ?_, fun z => ?_⟩
    · obtain ⟨o, us, file, tf, flags, tg, inF, text, tt, e1, r1, r2, r3, rest⟩ := C p hp
      exact ⟨o, us, file, tf, flags, tg, inF, text, tt, inB e1 (free e1 (fun _ _ z => by rw [r2] at z; cases z) fun z => by rw [r2] at z; cases z; simp at r3), r1, r2, r3, rest⟩
    · obtain ⟨bm, ob, b1, b2, b3, b4, b5, b6⟩ := hbm
      have nG : bm ≠ mainGlobals := fun q => by
        obtain ⟨o, es, ep, e, hd, _⟩ := hns
        rw [q, e] at b3
        cases b3
        rw [hd] at b6
        cases b6
      have nP : bm ≠ p.P := fun q => by
        rw [q, hT p hp] at b3
        cases b3
        cases b6
      exact ⟨bm, ob, b1, b2, nG, nP, inB b3 (free b3 (fun _ _ z => by rw [b6] at z; cases z) fun z => by rw [b6] at z; cases z), b4, b5, b6⟩
    · obtain ⟨o, es, ep, e, hd, _⟩ := hns
      rw [z, hT p hp] at e
      cases e
      cases hd
  have e0 : Env0 P w K mg (hidT s₁.heap H) callerA [] s₁ H := ⟨rfl, hM, fun b o e => of_hidT e, Nat.le_of_eq (hidT_size _ _), trivial, fun b hb => absurd (show b ∈ ([] : List Addr) from hb) (by simp), hok, .of_eq hg⟩
  have ra : RepA K H { pen := none, h := fun b => if b = a then some (.rol (ns.map W.int)) else none, tb := tabsOf cs } := by
    refine ⟨fun b o e => ?_, (fun p n e => nomatch e), fun b xs => ⟨(fun e => nomatch e), (fun o e => nomatch e)⟩, fun p hp => ?_⟩
    · have e' : (if b = a then some (WO.rol (ns.map W.int)) else none) = some o := e
      by_cases z : b = a
      · subst z
        rw [if_pos rfl] at e'
        cases e'
        exact ⟨ns.map V.int, .inr ⟨_, Ha⟩, reps_ints⟩
      · rw [if_neg z] at e'
        cases e'
    · obtain ⟨t, ht, rfl⟩ := List.mem_map.mp hp
      exact LamX.TabS.nil (HT _ ⟨t, ht, rfl⟩)
  refine codeAny_mono ((F _ hKb (nsK hns) TB).run callerA [] s₁ H ⟨[.ref a], []⟩ [.ref a] [.ref a] (fun v _ => v = .bl true) (fun _ _ _ => False) ⟨hr, fun _ => rfl⟩ e0 (hbind s₁ (.ref a)) (.cons rfl .nil)
    ⟨[.ref a], _, _, E0w, reps_cons (by simp only [rep]) reps_nil, ra, hsp _ (if_pos rfl) rfl rfl, fun v H' ⟨w', A', _, _, r, e⟩ => ?_, fun c d H' ⟨_, _, _, _, _, _, _, z⟩ => z⟩) fun r s' h => ?_
  · subst e
    simp only [rep] at r
    exact r
  · rcases r with e | fl
    · obtain ⟨_, _, _, _, _, _, _, _, _, _, _, _, z⟩ := h
      exact z.elim
    · cases fl with
      | next => exact False.elim h
      | brk => exact False.elim h
      | cont => exact False.elim h
      | ret u =>
        obtain ⟨v, H', os, bare, un, hok', r', q⟩ := h
        have q' : v = .bl true := q
        subst q'
        obtain rfl : u = Value.bool true := r'
        have key : ∀ b o, (¬ ∃ p ∈ cs, p.P = b) → s₁.heap.get? b = some o → s'.heap.get? b = some o := fun b o nb e => by
          by_cases z : b = a
          · subst z
            obtain ⟨e1, _⟩ := hok b _ Ha
            obtain ⟨e2, _⟩ := hok' b _ (un.frzs b _ _ Ha)
            rw [e] at e1
            cases e1
            exact e2
          · exact un.keep b o e (Hn b z nb) (by intro y; exact absurd (show b ∈ ([] : List Addr) from y) (by simp)) (by simp)
        have grown : ∀ p ∈ cs, ∃ more : Array Value, s'.heap.get? p.P = some { cls := .none, data := .fields more } := fun p hp => by
          obtain ⟨more, z⟩ := un.tbls p.P #[] (HT p.P ⟨p, hp, rfl⟩)
          exact ⟨_, hok' p.P _ z⟩
        refine ⟨rfl, ⟨fun b o e => ?_, fun b o e => ?_⟩, os, bare⟩
        · by_cases hb : ∃ p ∈ cs, p.P = b
          · obtain ⟨p, hp, rfl⟩ := hb
            obtain ⟨more, hm⟩ := grown p hp
            rw [hT p hp] at e
            cases e
            exact .inr (.inl ⟨((C p hp).tab (hT p hp)).isCodeTable, rfl, #[], more, rfl, by rw [Array.empty_append]; exact hm⟩)
          · exact .inl (key b o hb e)
        · by_cases hb : ∃ p ∈ cs, p.P = b
          · obtain ⟨p, hp, rfl⟩ := hb
            obtain ⟨more, hm⟩ := grown p hp
            exact ⟨_, hm⟩
          · exact ⟨o, key b o hb e⟩
/-- the names of the defs that make lambdas, found in the written part -/
def TabsIn (K : PySem.W.Frag) (xs : List Str) (cs : List LamTab) : Prop := xs.map (fun x => PySem.W.tabIn K x) = cs.map (fun t => some (t.c, t.P)) ∧ ∀ t ∈ cs, K.lookup t.P = none
theorem walkGT {l : PySem.W.OpenLaw} {n k : Nat} {q : Program} {loose : List Str} {XP : (Str → Option Value) → Heap → Prop} {YP : World → Heap → Prop} {d : DefRec} {K : Params → PySem.W.Frag} {sp : World → List LamTab → SpW} {x : Str} {xs : List Str}
    (hn : l.most = some n) (hn2 : n ≤ sizeLine) (hdf : d.params.defaults = []) (hr : Room k callerA) (hxs : ∀ x ∈ xs, ((PyProof.Rows.recsOf q).find? fun e => e.name == x).isSome = true)
    (hY : ∀ (w : World) (h : Heap), YP w h → (K w.params).In h) (hnl : ∀ w : World, noLst (K w.params) = true)
    (F : ∀ (w : World) (mg : Str → Option Value) (fa : Addr) (h : Heap), (K w.params).In h → h.Ns mainGlobals mg → mg d.name = some (.ref fa) →
      ∃ cs : List LamTab, TabsIn (K w.params) xs cs ∧ (∀ (A : AH) (a : Addr) (ns : List Int), ns.length ≤ n → A.h a = some (.rol (ns.map W.int)) → A.pen = none → A.tb = tabsOf cs → sp w cs [.ref a] A (fun v _ => v = .bl true) E0w) ∧
      ∃ fd : FuncData, (∀ (s : Shared) (u : Value), BindsTo s fd ⟨[u], []⟩ [(x, u)]) ∧
        ∀ base : Heap, (K w.params).In base → base.Ns mainGlobals mg → (∀ p ∈ cs, LamX.TabB base mg p.c p.P) → FnB true l.prog w (K w.params) mg base k fa fd [x] (spL (K w.params) (sp w cs))) :
    PySem.W.WalkO q loose XP YP l.row.toRowW d [] (fun f vs => PySem.call f vs) := by
  refine Att.attach_call hn hdf fun w s₀ s₁ mg mb fa o pm cd doc a vs ns G Y ho hd hcd hmg hobj hints hlen hg => ?_
  have KX := hY w _ Y
  obtain ⟨cs, ⟨t1, t2⟩, hsp, fd, hb, hF⟩ := F w mg fa _ KX G.T.g hmg
  have hk : (K w.params).lookup a = none := by
    cases e : (K w.params).lookup a with
    | none => rfl
    | some o =>
      have e1 := KX _ _ e
      rw [hobj] at e1
      cases e1
      exact absurd rfl (noLst_ok (hnl w) e)
  have tab : ∀ t ∈ cs, PySem.W.CodeHd s₁.heap t.c t.P ∧ s₁.heap.get? t.P = some { cls := .none, data := .fields #[] } := fun t ht => by
    have hm : some (t.c, t.P) ∈ xs.map (fun x => PySem.W.tabIn (K w.params) x) := by rw [t1]; exact List.mem_map.mpr ⟨t, ht, rfl⟩
    obtain ⟨x, hx, e⟩ := List.mem_map.mp hm
    have hs := hxs x hx
    cases hr : (PyProof.Rows.recsOf q).find? (fun e => e.name == x) with
    | none => rw [hr] at hs; cases hs
    | some dd => exact PySem.W.tab_of G.T KX hr e
  exact law_callGT KX G.T.g G.T.b G.T.builtins G.T.nolimit hg (fun p hp => (tab p hp).2) t2 (fun p hp => (tab p hp).1) G.T.bmain hobj hints (Nat.le_trans hlen hn2) hr hk hF hb fun A hA hp ht => hsp A a ns hlen hA hp ht
end Wx

set_option Elab.async false
set_option linter.all false
set_option maxRecDepth 100000
set_option maxHeartbeats 4000000
/-! DX1: values without a heap: data D, owned trees O, and what stands for them above a W-heap. -/
namespace Dx
open PySem L2 Wx

inductive D where
  | non | bl (b : Bool) | int (i : Int) | str (x : Str)
  | tup (ds : List D) | lst (ds : List D) | dic (ks vs : List D)
  | obj (C : Str) (fs : List Str) (vs : List D)
  | ty (n : String) | glb (x : Str) | pen | scr
  | ref (a : Addr)
  | exc (a : Addr) (dd : Option Addr) (C : Str) (fs : List Str) (vs : List D)

mutual
def D.beq : D → D → Bool
  | .non, .non => true
  | .bl a, .bl b => a == b
  | .int a, .int b => a == b
  | .str a, .str b => decide (a = b)
  | .tup a, .tup b => D.beqs a b
  | .lst a, .lst b => D.beqs a b
  | .dic a c, .dic b d => D.beqs a b && D.beqs c d
  | .obj C a c, .obj C' b d => decide (C = C') && (decide (a = b) && D.beqs c d)
  | .ty a, .ty b => a == b
  | .glb a, .glb b => decide (a = b)
  | .pen, .pen => true
  | .scr, .scr => true
  | .ref a, .ref b => a == b
  | .exc a b c d e, .exc a' b' c' d' e' => decide (a = a') && (decide (b = b') && (decide (c = c') && (decide (d = d') && D.beqs e e')))
  | _, _ => false
def D.beqs : List D → List D → Bool
  | [], [] => true
  | a :: as, b :: bs => D.beq a b && D.beqs as bs
  | _, _ => false
end
mutual
theorem D.beq_iff : ∀ (a b : D), D.beq a b = true ↔ a = b
  | .non, b => by cases b <;> simp [D.beq]
  | .bl a, b => by cases b <;> simp [D.beq]
  | .int a, b => by cases b <;> simp [D.beq]
  | .str a, b => by cases b <;> simp [D.beq]
  | .tup a, b => by cases b <;> simp [D.beq, D.beqs_iff a]
  | .lst a, b => by cases b <;> simp [D.beq, D.beqs_iff a]
  | .dic a c, b => by cases b <;> simp [D.beq, D.beqs_iff a, D.beqs_iff c]
  | .obj C a c, b => by cases b <;> simp [D.beq, D.beqs_iff c]
  | .ty a, b => by cases b <;> simp [D.beq]
  | .glb a, b => by cases b <;> simp [D.beq]
  | .pen, b => by cases b <;> simp [D.beq]
  | .scr, b => by cases b <;> simp [D.beq]
  | .ref a, b => by cases b <;> simp [D.beq]
  | .exc a b c d e, x => by cases x <;> simp [D.beq, D.beqs_iff e]
theorem D.beqs_iff : ∀ (a b : List D), D.beqs a b = true ↔ a = b
  | [], b => by cases b <;> simp [D.beqs]
  | a :: as, b => by cases b <;> simp [D.beqs, D.beq_iff a, D.beqs_iff as]
end
instance : DecidableEq D := fun a b => decidable_of_iff (D.beq a b = true) (D.beq_iff a b)

inductive O where
  | leaf (d : D) | lst (x : Option Addr) (ds : List D) | dic (x : Option Addr) (ks vs : List D) | obj (x : Option Addr) (C : Str) (fs : List Str) (os : List O)
mutual
def frz : O → D
  | .leaf d => d
  | .lst _ ds => .lst ds
  | .dic _ ks vs => .dic ks vs
  | .obj _ C fs os => .obj C fs (frzs os)
def frzs : List O → List D
  | [] => []
  | o :: os => frz o :: frzs os
end

/-- where the text's names are; the tables of code objects -/
structure Cl where
  fn : Str → Addr
  tbl : List (Addr × Str)
instance : CoeFun Cl (fun _ => Str → Addr) := ⟨Cl.fn⟩
/-- the frozen part of a heap, where the pen is, where the text's names are -/
structure Fz where
  h : Ah
  pp : Option Addr
  cl : Cl
  tp : Hp
structure Fz.le (F F' : Fz) : Prop where
  h : ∀ a o, F.h a = some o → F'.h a = some o
  pp : F.pp = none ∨ F.pp = F'.pp
  cl : F'.cl = F.cl
  tp : TupLe0 F.tp F'.tp
theorem Fz.le.refl (F : Fz) : F.le F := ⟨fun _ _ h => h, .inr rfl, rfl, fun _ _ => ⟨fun h => h, fun _ h => h⟩⟩
theorem Fz.le.trans {F G H : Fz} (a : F.le G) (b : G.le H) : F.le H := ⟨fun x o h => b.h x o (a.h x o h), by
  rcases a.pp with e | e
  · exact .inl e
  · rcases b.pp with e' | e'
    · exact .inl (e.trans e')
    · exact .inr (e.trans e'), b.cl.trans a.cl, fun x vs => ⟨fun h => (b.tp x vs).1 ((a.tp x vs).1 h), fun o h => (b.tp x vs).2 o ((a.tp x vs).2 o h)⟩⟩

def keyD : Key → D
  | .inl i => .int i
  | .inr x => .str x
theorem keyD_inj {a b : Key} (h : keyD a = keyD b) : a = b := by
  cases a <;> cases b <;> simp [keyD] at h <;> rw [h]
def keysD (k : List Key) : D := .tup (k.map keyD)
theorem keysD_inj {a b : List Key} (h : keysD a = keysD b) : a = b := by
  unfold keysD at h
  injection h with h
  exact (List.map_inj_right fun _ _ => keyD_inj).mp h
/-- a dict's keys and values at p -/
def DicAt (h : Ah) (p : Addr) (ks : List D) (ws : List W) : Prop :=
  (∃ kk : List Key, ks = kk.map keyD ∧ kk.length = ws.length ∧ h p = some (.dK (kk.zip ws))) ∨ ∃ kk : List (List Key), ks = kk.map keysD ∧ kk.length = ws.length ∧ h p = some (.dT (kk.zip ws))
theorem DicAt.at {h h' : Ah} {p : Addr} {ks : List D} {ws : List W} (x : DicAt h p ks ws) (e : h' p = h p) : DicAt h' p ks ws := by
  unfold DicAt
  rw [e]
  exact x
theorem DicAt.mono {h h' : Ah} {p : Addr} {ks : List D} {ws : List W} (x : DicAt h p ks ws) (e : ∀ o, h p = some o → h' p = some o) : DicAt h' p ks ws := by
  rcases x with ⟨kk, a, b, c⟩ | ⟨kk, a, b, c⟩
  · exact .inl ⟨kk, a, b, e _ c⟩
  · exact .inr ⟨kk, a, b, e _ c⟩

mutual
def RD (F : Fz) : D → W → Prop
  | .non, w => w = .non
  | .bl b, w => w = .bl b
  | .int i, w => w = .int i
  | .str x, w => w = .str x
  | .tup ds, w => ∃ ws, (w = .tup ws ∨ w = .ktup ws) ∧ RDs F ds ws
  | .lst ds, w => ∃ p ws, w = .ref p ∧ F.h p = some (.lst ws) ∧ RDs F ds ws
  | .dic ks vs, w => ∃ p ws, w = .ref p ∧ DicAt F.h p ks ws ∧ RDs F vs ws
  | .obj C fs vs, w => ∃ p ws, w = .ref p ∧ F.h p = some (.ins (F.cl C) (fs.zip ws)) ∧ fs.length = vs.length ∧ RDs F vs ws
  | .ty n, w => w = .ty n
  | .glb x, w => w = .ref (F.cl x)
  | .ref a, w => w = .ref a
  | .pen, w => ∃ p, F.pp = some p ∧ w = .ref p
  | .scr, w => ∃ (p : Addr) (ns : List Int), w = .ref p ∧ F.h p = some (.rol (ns.map W.int)) ∧ ns.length ≤ 63
  | .exc a dd C fs vs, w => w = .ref a ∧ ∃ ws, (dd = none → fs = []) ∧ (∀ d, dd = some d → F.h d = some (.xd (fs.zip ws))) ∧ fs.length = vs.length ∧ RDs F vs ws
def RDs (F : Fz) : List D → List W → Prop
  | [], ws => ws = []
  | d :: ds, ws => ∃ w r, ws = w :: r ∧ RD F d w ∧ RDs F ds r
end
section
variable {F F' : Fz}
mutual
theorem RD.mono (l : F.le F') : ∀ (d : D) (w : W), RD F d w → RD F' d w
  | .non, _, h => h
  | .bl _, _, h => h
  | .int _, _, h => h
  | .str _, _, h => h
  | .ty _, _, h => h
  | .ref _, _, h => h
  | .glb x, w, h => by simp only [RD] at h ⊢; rw [l.cl]; exact h
  | .pen, w, h => by
    simp only [RD] at h ⊢
    obtain ⟨p, e, e2⟩ := h
    rcases l.pp with z | z
    · rw [z] at e; cases e
    · exact ⟨p, z ▸ e, e2⟩
  | .scr, w, h => by
    simp only [RD] at h ⊢
    obtain ⟨p, ns, e, e2, e3⟩ := h
    exact ⟨p, ns, e, l.h _ _ e2, e3⟩
  | .tup ds, w, h => by
    simp only [RD] at h ⊢
    obtain ⟨ws, e, r⟩ := h
    exact ⟨ws, e, RDs.mono l ds ws r⟩
  | .lst ds, w, h => by
    simp only [RD] at h ⊢
    obtain ⟨p, ws, e, e2, r⟩ := h
    exact ⟨p, ws, e, l.h _ _ e2, RDs.mono l ds ws r⟩
  | .dic ks vs, w, h => by
    simp only [RD] at h ⊢
    obtain ⟨p, ws, e, e2, r⟩ := h
    exact ⟨p, ws, e, e2.mono (l.h _), RDs.mono l vs ws r⟩
  | .obj C fs vs, w, h => by
    simp only [RD] at h ⊢
    obtain ⟨p, ws, e, e2, e3, r⟩ := h
    exact ⟨p, ws, e, by rw [l.cl]; exact l.h _ _ e2, e3, RDs.mono l vs ws r⟩
  | .exc a dd C fs vs, w, h => by
    simp only [RD] at h ⊢
    obtain ⟨e, ws, e1, e2, e3, r⟩ := h
    exact ⟨e, ws, e1, fun d z => l.h _ _ (e2 d z), e3, RDs.mono l vs ws r⟩
theorem RDs.mono (l : F.le F') : ∀ (ds : List D) (ws : List W), RDs F ds ws → RDs F' ds ws
  | [], _, h => by simpa only [RDs] using h
  | d :: ds, ws, h => by
    simp only [RDs] at h ⊢
    obtain ⟨w, r, e, h1, h2⟩ := h
    exact ⟨w, r, e, RD.mono l d w h1, RDs.mono l ds r h2⟩
end
theorem RDs.nil : RDs F [] [] := by simp only [RDs]
theorem RDs.cons {d : D} {ds : List D} {w : W} {ws : List W} (h : RD F d w) (hs : RDs F ds ws) : RDs F (d :: ds) (w :: ws) := by
  simp only [RDs]
  exact ⟨w, ws, rfl, h, hs⟩
theorem RDs.unnil {ws : List W} (h : RDs F [] ws) : ws = [] := by simpa only [RDs] using h
theorem RDs.uncons {d : D} {ds : List D} {ws : List W} (h : RDs F (d :: ds) ws) : ∃ w r, ws = w :: r ∧ RD F d w ∧ RDs F ds r := by simpa only [RDs] using h
theorem RDs.length : ∀ {ds : List D} {ws : List W}, RDs F ds ws → ws.length = ds.length
  | [], ws, h => by rw [h.unnil] <;> rfl
  | d :: ds, ws, h => by
    obtain ⟨w, r, rfl, _, h2⟩ := h.uncons
    rw [List.length_cons, List.length_cons, RDs.length h2]
theorem RDs.append : ∀ {ds es : List D} {ws us : List W}, RDs F ds ws → RDs F es us → RDs F (ds ++ es) (ws ++ us)
  | [], es, ws, us, h, h' => by rw [h.unnil]; exact h'
  | d :: ds, es, ws, us, h, h' => by
    obtain ⟨w, r, rfl, h1, h2⟩ := h.uncons
    exact .cons h1 (RDs.append h2 h')
theorem RDs.get : ∀ {ds : List D} {ws : List W} {i : Nat} {d : D}, RDs F ds ws → ds[i]? = some d → ∃ w, ws[i]? = some w ∧ RD F d w
  | [], _, i, d, _, e => by simp at e
  | x :: ds, ws, 0, d, h, e => by
    obtain ⟨w, r, rfl, h1, _⟩ := h.uncons
    simp at e; subst e
    exact ⟨w, rfl, h1⟩
  | x :: ds, ws, i + 1, d, h, e => by
    obtain ⟨w, r, rfl, _, h2⟩ := h.uncons
    obtain ⟨v', e', h'⟩ := RDs.get (i := i) h2 (by simpa using e)
    exact ⟨v', by simpa using e', h'⟩
theorem RDs.get' : ∀ {ds : List D} {ws : List W} {i : Nat} {w : W}, RDs F ds ws → ws[i]? = some w → ∃ d, ds[i]? = some d ∧ RD F d w
  | [], ws, i, v, h, e => by rw [h.unnil] at e; simp at e
  | x :: ds, ws, 0, v, h, e => by
    obtain ⟨w, r, rfl, h1, _⟩ := h.uncons
    simp at e; subst e
    exact ⟨x, rfl, h1⟩
  | x :: ds, ws, i + 1, v, h, e => by
    obtain ⟨w, r, rfl, _, h2⟩ := h.uncons
    obtain ⟨w', e', h'⟩ := RDs.get' (i := i) h2 (by simpa using e)
    exact ⟨w', by simpa using e', h'⟩
theorem RDs.take : ∀ {ds : List D} {ws : List W} (n : Nat), RDs F ds ws → RDs F (ds.take n) (ws.take n)
  | _, _, 0, _ => by rw [List.take_zero, List.take_zero]; exact .nil
  | [], ws, n + 1, h => by rw [h.unnil]; exact .nil
  | d :: ds, ws, n + 1, h => by
    obtain ⟨w, r, rfl, h1, h2⟩ := h.uncons
    exact .cons h1 (RDs.take n h2)
theorem RDs.drop : ∀ {ds : List D} {ws : List W} (n : Nat), RDs F ds ws → RDs F (ds.drop n) (ws.drop n)
  | _, _, 0, h => h
  | [], ws, n + 1, h => by rw [h.unnil]; exact .nil
  | d :: ds, ws, n + 1, h => by
    obtain ⟨w, r, rfl, h1, h2⟩ := h.uncons
    exact RDs.drop n h2
theorem RDs.reverse : ∀ {ds : List D} {ws : List W}, RDs F ds ws → RDs F ds.reverse ws.reverse
  | [], ws, h => by rw [h.unnil]; exact .nil
  | d :: ds, ws, h => by
    obtain ⟨w, r, rfl, h1, h2⟩ := h.uncons
    rw [List.reverse_cons, List.reverse_cons]
    exact (RDs.reverse h2).append (.cons h1 .nil)
theorem RDs.set : ∀ {ds : List D} {ws : List W} (i : Nat) {d : D} {w : W}, RDs F ds ws → RD F d w → RDs F (ds.set i d) (ws.set i w)
  | [], ws, i, d, w, h, _ => by rw [h.unnil]; exact .nil
  | x :: ds, ws, 0, d, w, h, h' => by
    obtain ⟨_, r, rfl, h1, h2⟩ := h.uncons
    exact .cons h' h2
  | x :: ds, ws, i + 1, d, w, h, h' => by
    obtain ⟨_, r, rfl, h1, h2⟩ := h.uncons
    exact .cons h1 (RDs.set i h2 h')
theorem RDs.eraseIdx : ∀ {ds : List D} {ws : List W} (i : Nat), RDs F ds ws → RDs F (ds.eraseIdx i) (ws.eraseIdx i)
  | [], ws, i, h => by rw [h.unnil]; exact .nil
  | x :: ds, ws, 0, h => by
    obtain ⟨_, r, rfl, h1, h2⟩ := h.uncons
    exact h2
  | x :: ds, ws, i + 1, h => by
    obtain ⟨_, r, rfl, h1, h2⟩ := h.uncons
    exact .cons h1 (RDs.eraseIdx i h2)
end

/-! ### owned trees -/
inductive Tag where
  | slot (i : Nat) | tmp (k : Nat) | res
  deriving DecidableEq
abbrev Gh := Addr → Option (Tag × List Str)
mutual
def RO (F : Fz) (h : Ah) (g : Gh) (t : Tag) (π : List Str) : O → W → Prop
  | .leaf d, w => RD F d w
  | .lst x ds, w => ∃ p ws, w = .ref p ∧ (∀ a, x = some a → p = a) ∧ g p = some (t, π) ∧ h p = some (.lst ws) ∧ RDs F ds ws
  | .dic x ks vs, w => ∃ p ws, w = .ref p ∧ (∀ a, x = some a → p = a) ∧ g p = some (t, π) ∧ DicAt h p ks ws ∧ RDs F vs ws
  | .obj x C fs os, w => ∃ p ws, w = .ref p ∧ (∀ a, x = some a → p = a) ∧ g p = some (t, π) ∧ h p = some (.ins (F.cl C) (fs.zip ws)) ∧ fs.length = os.length ∧ fs.Nodup ∧ ROs F h g t π fs os ws
def ROs (F : Fz) (h : Ah) (g : Gh) (t : Tag) (π : List Str) : List Str → List O → List W → Prop
  | fs, [], ws => ws = []
  | fs, o :: os, ws => ∃ f r w u, fs = f :: r ∧ ws = w :: u ∧ RO F h g t (π ++ [f]) o w ∧ ROs F h g t π r os u
end
section
variable {F F' : Fz} {h h' : Ah} {g g' : Gh} {t t' : Tag}
/-- all that bears the tag stays (the tag itself may be another) -/
def Keep (h h' : Ah) (g g' : Gh) (t t' : Tag) : Prop := ∀ p l, g p = some (t, l) → g' p = some (t', l) ∧ h' p = h p
mutual
theorem RO.keep (l : F.le F') (k : Keep h h' g g' t t') : ∀ (π : List Str) (o : O) (w : W), RO F h g t π o w → RO F' h' g' t' π o w
  | π, .leaf d, w, x => by
    simp only [RO] at x ⊢
    exact RD.mono l d w x
  | π, .lst _ ds, w, x => by
    simp only [RO] at x ⊢
    obtain ⟨p, ws, e, ex, e1, e2, r⟩ := x
    obtain ⟨k1, k2⟩ := k p _ e1
    exact ⟨p, ws, e, ex, k1, k2.trans e2, RDs.mono l _ _ r⟩
  | π, .dic _ ks vs, w, x => by
    simp only [RO] at x ⊢
    obtain ⟨p, ws, e, ex, e1, e2, r⟩ := x
    obtain ⟨k1, k2⟩ := k p _ e1
    exact ⟨p, ws, e, ex, k1, e2.at k2, RDs.mono l _ _ r⟩
  | π, .obj _ C fs os, w, x => by
    simp only [RO] at x ⊢
    obtain ⟨p, ws, e, ex, e1, e2, e3, nd, r⟩ := x
    obtain ⟨k1, k2⟩ := k p _ e1
    exact ⟨p, ws, e, ex, k1, by rw [l.cl]; exact k2.trans e2, e3, nd, ROs.keep l k π fs os ws r⟩
theorem ROs.keep (l : F.le F') (k : Keep h h' g g' t t') : ∀ (π : List Str) (fs : List Str) (os : List O) (ws : List W), ROs F h g t π fs os ws → ROs F' h' g' t' π fs os ws
  | π, fs, [], ws, x => by simpa only [ROs] using x
  | π, fs, o :: os, ws, x => by
    simp only [ROs] at x ⊢
    obtain ⟨f, r, w, u, e1, e2, h1, h2⟩ := x
    exact ⟨f, r, w, u, e1, e2, RO.keep l k _ o w h1, ROs.keep l k π r os u h2⟩
end
mutual
/-- a tree is frozen -/
theorem RO.frz (l : F.le F') (k : ∀ p l o, g p = some (t, l) → h p = some o → F'.h p = some o) : ∀ (π : List Str) (o : O) (w : W), RO F h g t π o w → RD F' (frz o) w
  | π, .leaf d, w, x => by
    simp only [RO, Dx.frz] at x ⊢
    exact RD.mono l d w x
  | π, .lst _ ds, w, x => by
    simp only [RO, Dx.frz, RD] at x ⊢
    obtain ⟨p, ws, e, ex, e1, e2, r⟩ := x
    exact ⟨p, ws, e, k p _ _ e1 e2, RDs.mono l _ _ r⟩
  | π, .dic _ ks vs, w, x => by
    simp only [RO, Dx.frz, RD] at x ⊢
    obtain ⟨p, ws, e, ex, e1, e2, r⟩ := x
    exact ⟨p, ws, e, e2.mono fun o z => k p _ _ e1 z, RDs.mono l _ _ r⟩
  | π, .obj _ C fs os, w, x => by
    simp only [RO, Dx.frz, RD] at x ⊢
    obtain ⟨p, ws, e, ex, e1, e2, e3, nd, r⟩ := x
    exact ⟨p, ws, e, by rw [l.cl]; exact k p _ _ e1 e2, by rw [e3]; exact (frzs_length os).symm, ROs.frz l k π fs os ws r⟩
theorem ROs.frz (l : F.le F') (k : ∀ p l o, g p = some (t, l) → h p = some o → F'.h p = some o) : ∀ (π : List Str) (fs : List Str) (os : List O) (ws : List W), ROs F h g t π fs os ws → RDs F' (frzs os) ws
  | π, fs, [], ws, x => by
    simp only [ROs] at x
    subst x
    exact .nil
  | π, fs, o :: os, ws, x => by
    simp only [ROs] at x
    obtain ⟨f, r, w, u, e1, e2, h1, h2⟩ := x
    subst e2
    exact .cons (RO.frz l k _ o w h1) (ROs.frz l k π r os u h2)
theorem frzs_length : ∀ os : List O, (frzs os).length = os.length
  | [] => rfl
  | o :: os => by simp only [Dx.frzs, List.length_cons, frzs_length os]
end
end
/-- the address that is known -/
def kn : O → Option Addr
  | .leaf _ => none
  | .lst x _ => x
  | .dic x _ _ => x
  | .obj x _ _ _ => x
/-! ### paths -/
def lookF : List Str → List O → Str → Option O
  | f :: fs, o :: os, x => if f = x then some o else lookF fs os x
  | _, _, _ => none
def setF : List Str → List O → Str → O → List O
  | f :: fs, o :: os, x, u => if f = x then u :: os else o :: setF fs os x u
  | _, os, _, _ => os
def look : O → List Str → Option O
  | o, [] => some o
  | .obj x C fs os, f :: π => match lookF fs os f with
    | some o => look o π
    | none => none
  | _, _ :: _ => none
def setO : O → List Str → O → O
  | _, [], u => u
  | .obj x C fs os, f :: π, u => match lookF fs os f with
    | some o => .obj x C fs (setF fs os f (setO o π u))
    | none => .obj x C fs os
  | o, _ :: _, _ => o
theorem setF_length : ∀ {fs : List Str} {os : List O} {f : Str} {u : O}, (setF fs os f u).length = os.length
  | [], os, _, _ => by unfold setF; rfl
  | f :: fs, [], _, _ => rfl
  | f :: fs, o :: os, x, u => by
    unfold setF
    split
    · rfl
    · rw [List.length_cons, List.length_cons, setF_length]
/-- the value at a path -/
def PathW (h : Ah) : W → List Str → W → Prop
  | w, [], u => u = w
  | w, f :: π, u => ∃ p C wfs w1, w = .ref p ∧ h p = some (.ins C wfs) ∧ wfs.lookup f = some w1 ∧ PathW h w1 π u
theorem PathW.fn {h : Ah} : ∀ {π : List Str} {w u v : W}, PathW h w π u → PathW h w π v → u = v
  | [], w, u, v, a, b => a.trans b.symm
  | f :: π, w, u, v, ⟨p, C, x, w1, e1, e2, e3, e4⟩, ⟨q, C', y, w2, d1, d2, d3, d4⟩ => by
    rw [e1] at d1
    cases d1
    rw [e2] at d2
    cases d2
    rw [e3] at d3
    cases d3
    exact e4.fn d4
section
variable {F F' : Fz} {h h' : Ah} {g g' : Gh} {t t' : Tag}
/-- all that bears the tag at another path than these stays -/
def KeepX (h h' : Ah) (g g' : Gh) (t : Tag) (π : List Str) : Prop := ∀ p l, g p = some (t, l) → ¬ π <+: l → g' p = some (t, l) ∧ h' p = h p
theorem pre_ne {π κ : List Str} {f f' : Str} {l : List Str} (ne : f ≠ f') (h : π ++ [f'] <+: l) : ¬ π ++ f :: κ <+: l := fun z => by
  obtain ⟨a, ha⟩ := h
  obtain ⟨b, hb⟩ := z
  rw [← ha] at hb
  simp at hb
  exact ne hb.1
mutual
/-- a tree whose tag is touched below another path only -/
theorem RO.keepX (l : F.le F') {κ : List Str} (k : KeepX h h' g g' t κ) : ∀ (π : List Str) (o : O) (w : W), (∀ l, π <+: l → ¬ κ <+: l) → RO F h g t π o w → RO F' h' g' t π o w
  | π, .leaf d, w, n, x => by
    simp only [RO] at x ⊢
    exact RD.mono l d w x
  | π, .lst _ ds, w, n, x => by
    simp only [RO] at x ⊢
    obtain ⟨p, ws, e, ex, e1, e2, r⟩ := x
    obtain ⟨k1, k2⟩ := k p _ e1 (n _ (List.prefix_refl _))
    exact ⟨p, ws, e, ex, k1, k2.trans e2, RDs.mono l _ _ r⟩
  | π, .dic _ ks vs, w, n, x => by
    simp only [RO] at x ⊢
    obtain ⟨p, ws, e, ex, e1, e2, r⟩ := x
    obtain ⟨k1, k2⟩ := k p _ e1 (n _ (List.prefix_refl _))
    exact ⟨p, ws, e, ex, k1, e2.at k2, RDs.mono l _ _ r⟩
  | π, .obj _ C fs os, w, n, x => by
    simp only [RO] at x ⊢
    obtain ⟨p, ws, e, ex, e1, e2, e3, nd, r⟩ := x
    obtain ⟨k1, k2⟩ := k p _ e1 (n _ (List.prefix_refl _))
    exact ⟨p, ws, e, ex, k1, by rw [l.cl]; exact k2.trans e2, e3, nd, ROs.keepX l k π fs os ws (fun l z => n l (by obtain ⟨f, _, z⟩ := z; exact (List.prefix_append _ _).trans z)) r⟩
theorem ROs.keepX (l : F.le F') {κ : List Str} (k : KeepX h h' g g' t κ) : ∀ (π : List Str) (fs : List Str) (os : List O) (ws : List W), (∀ l, (∃ f ∈ fs, π ++ [f] <+: l) → ¬ κ <+: l) → ROs F h g t π fs os ws → ROs F' h' g' t π fs os ws
  | π, fs, [], ws, n, x => by simpa only [ROs] using x
  | π, fs, o :: os, ws, n, x => by
    simp only [ROs] at x ⊢
    obtain ⟨f, r, w, u, e1, e2, h1, h2⟩ := x
    subst e1
    exact ⟨f, r, w, u, rfl, e2, RO.keepX l k _ o w (fun l z => n l ⟨f, List.mem_cons_self, z⟩) h1, ROs.keepX l k π r os u (fun l ⟨f', hf, z⟩ => n l ⟨f', List.mem_cons_of_mem _ hf, z⟩) h2⟩
end
end
end Dx

set_option Elab.async false
set_option linter.all false
set_option maxRecDepth 100000
set_option maxHeartbeats 4000000
/-! DX2: paths in trees, the state, growth, results. -/
namespace Dx
open PySem L2 Wx
section
variable {F F' : Fz} {h h' : Ah} {g g' : Gh} {t : Tag}
theorem ROs.get : ∀ {π : List Str} {fs : List Str} {os : List O} {ws : List W} {f : Str} {o : O}, ROs F h g t π fs os ws → lookF fs os f = some o → ∃ w, (fs.zip ws).lookup f = some w ∧ RO F h g t (π ++ [f]) o w
  | π, fs, [], ws, f, o, r, e => by
    cases fs <;> simp [lookF] at e
  | π, fs, o' :: os, ws, f, o, r, e => by
    simp only [ROs] at r
    obtain ⟨f', r, w, u, rfl, rfl, h1, h2⟩ := r
    unfold lookF at e
    rw [List.zip_cons_cons, List.lookup_cons]
    by_cases z : f' = f
    · subst z
      rw [if_pos rfl] at e
      cases e
      exact ⟨w, by simp, h1⟩
    · rw [if_neg z] at e
      obtain ⟨w2, e2, h3⟩ := ROs.get h2 e
      have : (f == f') = false := by simpa using fun y => z y.symm
      exact ⟨w2, by rw [this]; exact e2, h3⟩
theorem ROs.set (l : F.le F') : ∀ {π κ : List Str} {fs : List Str} {os : List O} {ws : List W} {f : Str} {o o2 : O} {w : W}, fs.Nodup → KeepX h h' g g' t (π ++ f :: κ) → ROs F h g t π fs os ws → lookF fs os f = some o → (fs.zip ws).lookup f = some w → RO F' h' g' t (π ++ [f]) o2 w → ROs F' h' g' t π fs (setF fs os f o2) ws
  | π, κ, fs, [], ws, f, o, o2, w, nd, k, r, e, ew, x => by
    cases fs <;> simp [lookF] at e
  | π, κ, fs, o' :: os, ws, f, o, o2, w, nd, k, r, e, ew, x => by
    simp only [ROs] at r
    obtain ⟨f', r, w', u, rfl, rfl, h1, h2⟩ := r
    unfold lookF at e
    unfold setF
    rw [List.zip_cons_cons, List.lookup_cons] at ew
    obtain ⟨nd1, nd2⟩ := List.nodup_cons.mp nd
    by_cases z : f' = f
    · subst z
      simp at ew
      subst ew
      rw [if_pos rfl]
      simp only [ROs]
      refine ⟨f', r, w', u, rfl, rfl, x, ROs.keepX l k π r os u (fun l' ⟨f2, hf, hp⟩ => ?_) h2⟩
      exact pre_ne (fun y => nd1 (y ▸ hf)) hp
    · rw [if_neg z] at e ⊢
      have : (f == f') = false := by simpa using fun y => z y.symm
      rw [this] at ew
      simp only [ROs]
      exact ⟨f', r, w', u, rfl, rfl, RO.keepX l k _ o' w' (fun l' hp => pre_ne (fun y => z y.symm) hp) h1, ROs.set l nd2 k h2 e ew x⟩
theorem RO.at : ∀ {κ : List Str} {π : List Str} {o o1 : O} {w : W}, RO F h g t π o w → look o κ = some o1 → ∃ w1, PathW h w κ w1 ∧ RO F h g t (π ++ κ) o1 w1 ∧
    ∀ (F' : Fz) (h' : Ah) (g' : Gh) (o2 : O), F.le F' → KeepX h h' g g' t (π ++ κ) → RO F' h' g' t (π ++ κ) o2 w1 → RO F' h' g' t π (setO o κ o2) w ∧ PathW h' w κ w1
  | [], π, o, o1, w, r, e => by
    simp only [look] at e
    cases e
    refine ⟨w, rfl, by rw [List.append_nil]; exact r, fun F' h' g' o2 l k x => ⟨?_, rfl⟩⟩
    rw [List.append_nil] at x
    cases o <;> exact x
  | f :: κ, π, o, o1, w, r, e => by
    cases o with
    | leaf d => simp [look] at e
    | lst x d => simp [look] at e
    | dic x d d' => simp [look] at e
    | obj x C fs os =>
      simp only [look] at e
      cases q : lookF fs os f with
      | none => rw [q] at e; cases e
      | some o' =>
        rw [q] at e
        simp only [RO] at r
        obtain ⟨p, ws, ew, ex, e1, e2, e3, nd, r⟩ := r
        obtain ⟨w', lw, ro⟩ := r.get q
        obtain ⟨w1, pw, r1, up⟩ := RO.at (κ := κ) (π := π ++ [f]) ro e
        rw [show π ++ [f] ++ κ = π ++ f :: κ by simp] at r1 up
        refine ⟨w1, ⟨p, _, _, w', ew, e2, lw, pw⟩, r1, fun F' h' g' o2 l k x => ?_⟩
        obtain ⟨x1, x2⟩ := up F' h' g' o2 l k x
        obtain ⟨k1, k2⟩ := k p _ e1 (fun z => by
          have := z.length_le
          simp at this
          omega)
        have e2' := k2.trans e2
        refine ⟨?_, p, _, _, w', ew, e2', lw, x2⟩
        simp only [setO, q, RO]
        exact ⟨p, ws, ew, ex, k1, by rw [l.cl]; exact e2', by rw [setF_length]; exact e3, nd, r.set l nd k q lw x1⟩
end

/-! ### the state -/
abbrev Env := List (Option O)
/-- the number of draws where there is no pen yet -/
def nopen : Nat := 2 ^ 41
structure Sm (F : Fz) (g : Gh) (n : Nat) (ρ : Env) (ω : Sw) (A : AH) : Prop where
  fa : ∀ p o, F.h p = some o → A.h p = some o
  gf : ∀ p l, g p = some l → F.h p = none
  ga : ∀ p l, g p = some l → ∃ o, A.h p = some o
  tb : ∃ m, ∀ p k l, g p = some (.tmp k, l) → k < m
  ln : ρ.length = ω.length
  sl : ∀ i o, ρ[i]? = some (some o) → ∃ w, ω[i]? = some (some w) ∧ RO F A.h g (.slot i) [] o w
  pn : (A.pen = F.pp.map fun p => (p, n)) ∧ (n = nopen → F.pp = none) ∧ A.tb = F.cl.tbl ∧ TupLe0 F.tp A.tp
def NoRes (g : Gh) : Prop := ∀ p l, g p ≠ some (.res, l)
structure Grow (F : Fz) (g : Gh) (A : AH) (F' : Fz) (g' : Gh) (A' : AH) : Prop where
  le : F.le F'
  kp : ∀ k, Keep A.h A'.h g g' (.tmp k) (.tmp k)
  fr : ∀ p o, g p = none → A.h p = some o → A'.h p = some o ∧ g' p = none ∧ (F.h p = none → F'.h p = none)
theorem Grow.refl (F : Fz) (g : Gh) (A : AH) : Grow F g A F g A := ⟨.refl F, fun k p l e => ⟨e, rfl⟩, fun p o e e2 => ⟨e2, e, fun z => z⟩⟩
theorem Grow.trans {F F1 F2 : Fz} {g g1 g2 : Gh} {A A1 A2 : AH} (a : Grow F g A F1 g1 A1) (b : Grow F1 g1 A1 F2 g2 A2) : Grow F g A F2 g2 A2 := ⟨a.le.trans b.le, fun k p l e => by
  obtain ⟨e1, e2⟩ := a.kp k p l e
  obtain ⟨e3, e4⟩ := b.kp k p l e1
  exact ⟨e3, e4.trans e2⟩, fun p o e e2 => by
  obtain ⟨x1, x2, x3⟩ := a.fr p o e e2
  obtain ⟨y1, y2, y3⟩ := b.fr p o x2 x1
  exact ⟨y1, y2, fun z => y3 (x3 z)⟩⟩
/-- what comes out: data, a new tree, a part of a slot's tree -/
inductive S where
  | dat (d : D) | new (o : O) | own (i : Nat) (π : List Str) (x : Option Addr)
def RS (F : Fz) (h : Ah) (g : Gh) (ω : Sw) : S → W → Prop
  | .dat d, w => NoRes g ∧ RD F d w
  | .new o, w => RO F h g .res [] o w
  | .own i π x, w => NoRes g ∧ (∃ w0, ω[i]? = some (some w0) ∧ PathW h w0 π w) ∧ ∀ a, x = some a → w = .ref a
section
variable {F F' : Fz} {g g' : Gh} {n n' : Nat} {ρ ρ' : Env} {ω ω' : Sw} {A A' : AH}
theorem Sm.new {p : Addr} (s : Sm F g n ρ ω A) (e : A.h p = none) : g p = none ∧ F.h p = none := by
  constructor
  · cases q : g p with
    | none => rfl
    | some l => obtain ⟨o, z⟩ := s.ga p l q; rw [e] at z; cases z
  · cases q : F.h p with
    | none => rfl
    | some o => rw [s.fa p o q] at e; cases e
def isTag (t : Tag) : Option (Tag × List Str) → Bool
  | some (u, _) => decide (u = t)
  | none => false
/-- all that bears a tag is frozen -/
def Fz.frz (F : Fz) (h : Ah) (g : Gh) (t : Tag) : Fz := { F with h := fun p => if isTag t (g p) then h p else F.h p }
def unTag (g : Gh) (t : Tag) : Gh := fun p => if isTag t (g p) then none else g p
theorem unTag_some {t : Tag} {p : Addr} {l : Tag × List Str} (h : unTag g t p = some l) : g p = some l ∧ l.1 ≠ t := by
  unfold unTag at h
  split at h
  · cases h
  · rename_i z
    refine ⟨h, fun y => z ?_⟩
    rw [h]
    exact decide_eq_true y
theorem unTag_eq {t : Tag} {p : Addr} {l : Tag × List Str} (h : g p = some l) (n : l.1 ≠ t) : unTag g t p = some l := by
  unfold unTag
  rw [h]
  exact if_neg (by simpa [isTag] using n)
theorem unTag_none {t : Tag} {p : Addr} (h : g p = none) : unTag g t p = none := by
  unfold unTag
  rw [h]
  rfl
theorem Sm.frz_le (s : Sm F g n ρ ω A) {t : Tag} : F.le (F.frz A.h g t) := ⟨fun p o e => by
  show (if isTag t (g p) then A.h p else F.h p) = some o
  split
  · exact s.fa p o e
  · exact e, .inr rfl, rfl, fun _ _ => ⟨fun h => h, fun _ h => h⟩⟩
/-- a tag's things are frozen: all else stays -/
theorem Sm.frz (s : Sm F g n ρ ω A) {t : Tag} (nt : ∀ i, t ≠ .slot i) : Sm (F.frz A.h g t) (unTag g t) n ρ ω A where
  fa := fun p o e => by
    have e' : (if isTag t (g p) then A.h p else F.h p) = some o := e
    split at e'
    · exact e'
    · exact s.fa p o e'
  gf := fun p l e => by
    obtain ⟨e1, n1⟩ := unTag_some e
    show (if isTag t (g p) then A.h p else F.h p) = none
    rw [e1, if_neg (by simpa [isTag] using n1)]
    exact s.gf p l e1
  ga := fun p l e => s.ga p l (unTag_some e).1
  tb := let ⟨m, hm⟩ := s.tb; ⟨m, fun p k l e => hm p k l (unTag_some e).1⟩
  ln := s.ln
  sl := fun i o e => by
    obtain ⟨w, e1, r⟩ := s.sl i o e
    exact ⟨w, e1, r.keep s.frz_le (fun p l e => ⟨unTag_eq e (Ne.symm (nt i)), rfl⟩) _ _ _⟩
  pn := s.pn
theorem Sm.frz_grow (s : Sm F g n ρ ω A) {t : Tag} (nt : ∀ k, t ≠ .tmp k) : Grow F g A (F.frz A.h g t) (unTag g t) A where
  le := s.frz_le
  kp := fun k p l e => ⟨unTag_eq e (Ne.symm (nt k)), rfl⟩
  fr := fun p o e1 e2 => ⟨e2, unTag_none e1, fun z => by
    show (if isTag t (g p) then A.h p else F.h p) = none
    rw [e1]
    exact z⟩
theorem noRes_unTag : NoRes (unTag g .res) := fun p l e => (unTag_some e).2 rfl
theorem frz_rd {o : O} {w : W} {t : Tag} {π : List Str} (s : Sm F g n ρ ω A) (r : RO F A.h g t π o w) : RD (F.frz A.h g t) (frz o) w := r.frz s.frz_le (fun p l o e e2 => by
  show (if isTag t (g p) then A.h p else F.h p) = some o
  rw [e, if_pos (by simp [isTag])]
  exact e2) _ _ _
/-- the new tree is frozen -/
theorem Sm.frzRes (s : Sm F g n ρ ω A) {o : O} {w : W} (r : RO F A.h g .res [] o w) : ∃ F' g', Grow F g A F' g' A ∧ Sm F' g' n ρ ω A ∧ NoRes g' ∧ RD F' (Dx.frz o) w :=
  ⟨_, _, s.frz_grow (t := .res) (by intro _ z; cases z), s.frz (by intro _ z; cases z), noRes_unTag, frz_rd s r⟩
/-- another tag -/
def reTag (g : Gh) (t t' : Tag) : Gh := fun p => match g p with
  | some (u, l) => if u = t then some (t', l) else some (u, l)
  | none => none
theorem reTag_t {t t' : Tag} {p : Addr} {l : List Str} (h : g p = some (t, l)) : reTag g t t' p = some (t', l) := by
  unfold reTag
  rw [h]
  exact if_pos rfl
theorem reTag_ne {t t' : Tag} {p : Addr} {u : Tag} {l : List Str} (h : g p = some (u, l)) (n : u ≠ t) : reTag g t t' p = some (u, l) := by
  unfold reTag
  rw [h]
  exact if_neg n
theorem reTag_none {t t' : Tag} {p : Addr} (h : g p = none) : reTag g t t' p = none := by
  unfold reTag
  rw [h]
theorem reTag_some {t t' : Tag} {p : Addr} {u : Tag} {l : List Str} (h : reTag g t t' p = some (u, l)) : (g p = some (t, l) ∧ u = t') ∨ (g p = some (u, l) ∧ u ≠ t) := by
  unfold reTag at h
  split at h
  · rename_i v l' e
    split at h
    · rename_i z
      cases h
      exact .inl ⟨by rw [e, z], rfl⟩
    · rename_i z
      cases h
      exact .inr ⟨e, z⟩
  · cases h
theorem reTag_dom {t t' : Tag} {p : Addr} {l : Tag × List Str} (h : reTag g t t' p = some l) : ∃ l', g p = some l' := by
  obtain ⟨u, l⟩ := l
  rcases reTag_some h with ⟨e, _⟩ | ⟨e, _⟩
  · exact ⟨_, e⟩
  · exact ⟨_, e⟩
/-- a new tree becomes a slot's -/
theorem Sm.setNew (s : Sm F g n ρ ω A) {i : Nat} {o : O} {w : W} (r : RO F A.h g .res [] o w) : ∃ g', Grow F g A F g' A ∧ Sm F g' n (ρ.set i (some o)) (ω.set i (some w)) A ∧ NoRes g' := by
  refine ⟨reTag (unTag g (.slot i)) .res (.slot i), ⟨.refl F, fun k p l e => ⟨reTag_ne (unTag_eq e (by intro z; cases z)) (by intro z; cases z), rfl⟩, fun p o e1 e2 => ⟨e2, reTag_none (unTag_none e1), fun z => z⟩⟩, ?_, fun p l e => ?_⟩
  · refine ⟨s.fa, fun p l e => ?_, fun p l e => ?_, ?_, by simpa using s.ln, fun j u e => ?_, s.pn⟩
    · obtain ⟨l', e'⟩ := reTag_dom e
      exact s.gf p _ (unTag_some e').1
    · obtain ⟨l', e'⟩ := reTag_dom e
      exact s.ga p _ (unTag_some e').1
    · obtain ⟨m, hm⟩ := s.tb
      refine ⟨m, fun p k l e => ?_⟩
      rcases reTag_some e with ⟨_, z⟩ | ⟨z, _⟩
      · cases z
      · exact hm p k l (unTag_some z).1
    · by_cases hij : i = j
      · subst hij
        by_cases hl : i < ρ.length
        · rw [List.getElem?_set_self hl] at e
          cases e
          refine ⟨w, List.getElem?_set_self (by rw [← s.ln]; exact hl), r.keep (.refl F) (fun p l e => ⟨reTag_t (unTag_eq e (by intro z; cases z)), rfl⟩) _ _ _⟩
        · rw [List.getElem?_eq_none (by simpa using hl)] at e; cases e
      · rw [List.getElem?_set_ne hij] at e ⊢
        obtain ⟨w', e1, r'⟩ := s.sl j u e
        refine ⟨w', e1, r'.keep (.refl F) (fun p l e => ⟨reTag_ne (unTag_eq e (fun z => ?_)) (by intro z; cases z), rfl⟩) _ _ _⟩
        have : Tag.slot j = Tag.slot i := z
        cases this
        exact hij rfl
  · rcases reTag_some e with ⟨_, z⟩ | ⟨_, z⟩
    · cases z
    · exact z rfl
theorem Sm.setD (s : Sm F g n ρ ω A) (nr : NoRes g) {i : Nat} {d : D} {w : W} (r : RD F d w) : ∃ g', Grow F g A F g' A ∧ Sm F g' n (ρ.set i (some (.leaf d))) (ω.set i (some w)) A ∧ NoRes g' := s.setNew (o := .leaf d) (by simpa only [RO] using r)
/-- a slot is forgotten -/
theorem Sm.unset (s : Sm F g n ρ ω A) {i : Nat} : Sm F g n (ρ.set i none) (ω.set i none) A := ⟨s.fa, s.gf, s.ga, s.tb, by simpa using s.ln, fun j u e => by
  by_cases hij : i = j
  · subst hij
    by_cases hl : i < ρ.length
    · rw [List.getElem?_set_self hl] at e; cases e
    · rw [List.getElem?_eq_none (by simpa using hl)] at e; cases e
  · rw [List.getElem?_set_ne hij] at e ⊢
    exact s.sl j u e, s.pn⟩
theorem Sm.unsetE (s : Sm F g n ρ ω A) {i : Nat} : Sm F g n (ρ.set i none) ω A := ⟨s.fa, s.gf, s.ga, s.tb, by simpa using s.ln, fun j u e => by
  by_cases hij : i = j
  · subst hij
    by_cases hl : i < ρ.length
    · rw [List.getElem?_set_self hl] at e; cases e
    · rw [List.getElem?_eq_none (by simpa using hl)] at e; cases e
  · rw [List.getElem?_set_ne hij] at e
    exact s.sl j u e, s.pn⟩
/-- the tree at a path of a slot -/
theorem Sm.own (s : Sm F g n ρ ω A) {i : Nat} {π : List Str} {o o1 : O} {w : W} (e : ρ[i]? = some (some o)) (l : look o π = some o1) (h : ∃ w0, ω[i]? = some (some w0) ∧ PathW A.h w0 π w) : RO F A.h g (.slot i) π o1 w := by
  obtain ⟨w0, e0, p⟩ := h
  obtain ⟨w', e', r⟩ := s.sl i o e
  rw [e0] at e'
  cases e'
  obtain ⟨w1, p1, r1, _⟩ := r.at l
  rw [p.fn p1]
  exact r1
/-- the tree at a path is changed -/
theorem Sm.put (s : Sm F g n ρ ω A) {i : Nat} {π : List Str} {o o1 o2 : O} {w : W} {F' : Fz} {g' : Gh} {A' : AH} {n' : Nat} (e : ρ[i]? = some (some o)) (l : look o π = some o1) (h : ∃ w0, ω[i]? = some (some w0) ∧ PathW A.h w0 π w)
    (G : F.le F') (kx : KeepX A.h A'.h g g' (.slot i) π) (ko : ∀ j, j ≠ i → Keep A.h A'.h g g' (.slot j) (.slot j)) (r : RO F' A'.h g' (.slot i) π o2 w)
    (fa : ∀ p o, F'.h p = some o → A'.h p = some o) (gf : ∀ p l, g' p = some l → F'.h p = none) (ga : ∀ p l, g' p = some l → ∃ o, A'.h p = some o) (tb : ∃ m, ∀ p k l, g' p = some (.tmp k, l) → k < m) (pn : (A'.pen = F'.pp.map fun p => (p, n')) ∧ (n' = nopen → F'.pp = none) ∧ A'.tb = F'.cl.tbl ∧ TupLe0 F'.tp A'.tp) :
    Sm F' g' n' (ρ.set i (some (setO o π o2))) ω A' ∧ ∃ w0, ω[i]? = some (some w0) ∧ PathW A'.h w0 π w := by
  obtain ⟨w0, e0, p⟩ := h
  obtain ⟨w', e', r'⟩ := s.sl i o e
  rw [e0] at e'
  cases e'
  obtain ⟨w1, p1, r1, up⟩ := r'.at l
  have ew := p.fn p1
  subst ew
  have hi : i < ρ.length := (List.getElem?_eq_some_iff.mp e).1
  obtain ⟨x1, x2⟩ := up F' A'.h g' o2 G (by simpa using kx) (by simpa using r)
  refine ⟨⟨fa, gf, ga, tb, by simpa using s.ln, fun j u ej => ?_, pn⟩, w0, e0, x2⟩
  by_cases hij : i = j
  · subst hij
    rw [List.getElem?_set_self hi] at ej
    cases ej
    exact ⟨w0, e0, x1⟩
  · rw [List.getElem?_set_ne hij] at ej
    obtain ⟨w2, e2, r2⟩ := s.sl j u ej
    exact ⟨w2, e2, r2.keep G (ko j (Ne.symm hij)) _ _ _⟩
/-- a new object, as the new tree's root -/
theorem Sm.newAt (s : Sm F g n ρ ω A) (nr : NoRes g) {p : Addr} {wo : WO} (e : A.h p = none) : ∃ g', Grow F g A F g' (A.put p wo) ∧ Sm F g' n ρ ω (A.put p wo) ∧ g' p = some (.res, []) ∧ (∀ q, q ≠ p → g' q = g q) := by
  obtain ⟨gp, fp⟩ := s.new e
  have ne : ∀ {q : Addr} {o : WO}, A.h q = some o → q ≠ p := fun h z => by rw [z, e] at h; cases h
  have ng : ∀ {q : Addr} {l}, g q = some l → q ≠ p := fun h z => by rw [z, gp] at h; cases h
  have k : ∀ t, Keep A.h (A.put p wo).h g (fun q => if q = p then some (.res, []) else g q) t t := fun t q l h => ⟨by show (if q = p then _ else g q) = _; rw [if_neg (ng h)]; exact h, AH.put_ne (ng h)⟩
  refine ⟨fun q => if q = p then some (.res, []) else g q, ⟨.refl F, fun t => k _, fun q o h1 h2 => ⟨by rw [AH.put_ne (ne h2)]; exact h2, by rw [if_neg (ne h2)]; exact h1, fun z => z⟩⟩, ⟨fun q o h => ?_, fun q l h => ?_, fun q l h => ?_, ?_, s.ln, fun i o h => ?_, s.pn⟩, if_pos rfl, fun q h => if_neg h⟩
  · rw [AH.put_ne (ne (s.fa q o h))]
    exact s.fa q o h
  · by_cases z : q = p
    · rw [z]; exact fp
    · rw [if_neg z] at h; exact s.gf q l h
  · by_cases z : q = p
    · rw [z]; exact ⟨_, AH.put_same⟩
    · rw [if_neg z] at h
      rw [AH.put_ne z]
      exact s.ga q l h
  · obtain ⟨m, hm⟩ := s.tb
    refine ⟨m, fun q k l h => ?_⟩
    by_cases z : q = p
    · rw [if_pos z] at h; cases h
    · rw [if_neg z] at h; exact hm q k l h
  · obtain ⟨w, h1, r⟩ := s.sl i o h
    exact ⟨w, h1, r.keep (.refl F) (k _) _ _ _⟩
end
end Dx

set_option Elab.async false
set_option linter.all false
set_option maxRecDepth 100000
set_option maxHeartbeats 4000000
/-! DX3: the judgements over D, how a rule above a W-rule is had; expressions. -/
namespace Dx
open PySem L2 Wx
abbrev XD := Env → Str → List Str → List D → Nat → Prop
abbrev QD := S → Env → Nat → Prop
abbrev TEd := Env → Nat → QD → XD → Prop
abbrev TTd := Env → Nat → (Bool → Env → Nat → Prop) → XD → Prop
abbrev TAd := Env → Nat → (List D → Env → Nat → Prop) → XD → Prop
def X0d : XD := fun _ _ _ _ _ => False
def XOk (F : Fz) (g : Gh) (A : AH) (Ew : XSw) (Xd : XD) : Prop := ∀ F' g' n' ρ' ω' A' C fs ds ws, Grow F g A F' g' A' → Sm F' g' n' ρ' ω' A' → RDs F' ds ws → fs.length = ds.length → Xd ρ' C fs ds n' → Ew ω' (F'.cl C) (fs.zip ws) A'
theorem XOk.grow {F F' : Fz} {g g' : Gh} {A A' : AH} {Ew : XSw} {Xd : XD} (x : XOk F g A Ew Xd) (G : Grow F g A F' g' A') : XOk F' g' A' Ew Xd := fun _ _ _ _ _ _ _ _ _ _ G' => x _ _ _ _ _ _ _ _ _ _ (G.trans G')
/-- .. at these slots -/
def atS (ω : Sw) (Ew : XSw) : XSw := fun ω' C fs A' => ω' = ω → Ew ω' C fs A'
theorem XOk.at {F : Fz} {g : Gh} {A : AH} {Ew : XSw} {Xd : XD} {ω : Sw} (x : XOk F g A Ew Xd) : XOk F g A (atS ω Ew) Xd := fun _ _ _ _ _ _ _ _ _ _ G sm r l q _ => x _ _ _ _ _ _ _ _ _ _ G sm r l q
theorem xok0 {F : Fz} {g : Gh} {A : AH} {Ew : XSw} : XOk F g A Ew X0d := fun _ _ _ _ _ _ _ _ _ _ _ _ _ _ h => h.elim
def upE (Ew : XSw) (cl : Cl) (t : TEd) : TEw := fun ω A Q => ∃ F g n ρ Qd Xd, F.cl = cl ∧ Sm F g n ρ ω A ∧ NoRes g ∧ t ρ n Qd Xd ∧ XOk F g A (atS ω Ew) Xd ∧ ∀ F' g' n' ρ' A' s w, Grow F g A F' g' A' → Sm F' g' n' ρ' ω A' → RS F' A'.h g' ω s w → Qd s ρ' n' → Q w A'
def upT (Ew : XSw) (cl : Cl) (t : TTd) : TTw := fun ω A Q => ∃ F g n ρ Qd Xd, F.cl = cl ∧ Sm F g n ρ ω A ∧ NoRes g ∧ t ρ n Qd Xd ∧ XOk F g A (atS ω Ew) Xd ∧ ∀ F' g' n' ρ' A' b, Grow F g A F' g' A' → Sm F' g' n' ρ' ω A' → NoRes g' → Qd b ρ' n' → Q b A'
def upA (Ew : XSw) (cl : Cl) (t : TAd) : TAw := fun ω A Q => ∃ F g n ρ Qd Xd, F.cl = cl ∧ Sm F g n ρ ω A ∧ NoRes g ∧ t ρ n Qd Xd ∧ XOk F g A (atS ω Ew) Xd ∧ ∀ F' g' n' ρ' A' ds ws, Grow F g A F' g' A' → Sm F' g' n' ρ' ω A' → NoRes g' → RDs F' ds ws → Qd ds ρ' n' → Q ws A'
abbrev DE (X : Cx) (Ew : XSw) (cl : Cl) (e : Expr) (t : TEd) : Prop := WE X e (upE Ew cl t)
abbrev DT (X : Cx) (Ew : XSw) (cl : Cl) (e : Expr) (t : TTd) : Prop := WT X e (upT Ew cl t)
abbrev DA (X : Cx) (Ew : XSw) (cl : Cl) (es : List Expr) (t : TAd) : Prop := WA X es (upA Ew cl t)
section
variable {X : Cx} {e : Expr} {es : List Expr} {t t' : TEw} {tt tt' : TTw} {ta ta' : TAw}
theorem WE.imp (h : WE X e t) (c : ∀ ω A Q, t' ω A Q → t ω A Q) : WE X e t' := ⟨fun pins s σ H ω A Q I sm ra q => h.run pins s σ H ω A Q I sm ra (c ω A Q q)⟩
theorem WT.imp (h : WT X e tt) (c : ∀ ω A Q, tt' ω A Q → tt ω A Q) : WT X e tt' := ⟨fun pins s σ H ω A Q I sm ra q => h.run pins s σ H ω A Q I sm ra (c ω A Q q)⟩
theorem WA.imp (h : WA X es ta) (c : ∀ ω A Q, ta' ω A Q → ta ω A Q) : WA X es ta' := ⟨fun pos pins s σ H ω A Q I sm ra q => h.run pos pins s σ H ω A Q I sm ra (c ω A Q q)⟩
end
/-! ### own trees are frozen where they are -/
section
variable {F : Fz} {h : Ah} {g g' : Gh} {t : Tag}
mutual
theorem RO.keepB' {κ : List Str} (k : ∀ p l, g p = some (t, l) → κ <+: l → g' p = some (t, l)) : ∀ (π : List Str) (o : O) (w : W), κ <+: π → RO F h g t π o w → RO F h g' t π o w
  | π, .leaf d, w, n, x => by
    simp only [RO] at x ⊢
    exact x
  | π, .lst _ ds, w, n, x => by
    simp only [RO] at x ⊢
    obtain ⟨p, ws, e, ex, e1, e2, r⟩ := x
    exact ⟨p, ws, e, ex, k p _ e1 n, e2, r⟩
  | π, .dic _ ks vs, w, n, x => by
    simp only [RO] at x ⊢
    obtain ⟨p, ws, e, ex, e1, e2, r⟩ := x
    exact ⟨p, ws, e, ex, k p _ e1 n, e2, r⟩
  | π, .obj _ C fs os, w, n, x => by
    simp only [RO] at x ⊢
    obtain ⟨p, ws, e, ex, e1, e2, e3, nd, r⟩ := x
    exact ⟨p, ws, e, ex, k p _ e1 n, e2, e3, nd, ROs.keepB' k π fs os ws n r⟩
theorem ROs.keepB' {κ : List Str} (k : ∀ p l, g p = some (t, l) → κ <+: l → g' p = some (t, l)) : ∀ (π : List Str) (fs : List Str) (os : List O) (ws : List W), κ <+: π → ROs F h g t π fs os ws → ROs F h g' t π fs os ws
  | π, fs, [], ws, n, x => by simpa only [ROs] using x
  | π, fs, o :: os, ws, n, x => by
    simp only [ROs] at x ⊢
    obtain ⟨f, r, w, u, e1, e2, h1, h2⟩ := x
    exact ⟨f, r, w, u, e1, e2, RO.keepB' k _ o w (n.trans (List.prefix_append _ _)) h1, ROs.keepB' k π r os u n h2⟩
end
theorem RO.keepB {κ : List Str} (k : ∀ p l, g p = some (t, l) → κ <+: l → g' p = some (t, l)) (o : O) (w : W) (x : RO F h g t κ o w) : RO F h g' t κ o w := RO.keepB' k κ o w (List.prefix_refl _) x
end
section
variable {F : Fz} {g : Gh} {n : Nat} {ρ : Env} {ω : Sw} {A : AH}
open Classical in
theorem Sm.frzOwn (s : Sm F g n ρ ω A) (nr : NoRes g) {i : Nat} {π : List Str} {o o1 : O} {w : W} (e : ρ[i]? = some (some o)) (l : look o π = some o1) (h : ∃ w0, ω[i]? = some (some w0) ∧ PathW A.h w0 π w) :
    ∃ F' g', Grow F g A F' g' A ∧ Sm F' g' n (ρ.set i (some (setO o π (.leaf (Dx.frz o1))))) ω A ∧ NoRes g' ∧ RD F' (Dx.frz o1) w := by
  have r := s.own e l h
  let q : Addr → Prop := fun p => ∃ l, g p = some (.slot i, l) ∧ π <+: l
  let F' : Fz := { F with h := fun p => if q p then A.h p else F.h p }
  let g' : Gh := fun p => if q p then none else g p
  have le : F.le F' := ⟨fun p o e => by
    show (if q p then A.h p else F.h p) = some o
    split
    · exact s.fa p o e
    · exact e, .inr rfl, rfl, fun _ _ => ⟨fun h => h, fun _ h => h⟩⟩
  have gk : ∀ {p u l}, g p = some (u, l) → (u ≠ .slot i ∨ ¬ π <+: l) → g' p = some (u, l) := fun {p u l} e n => by
    show (if q p then none else g p) = _
    rw [if_neg, e]
    rintro ⟨l', e', n'⟩
    rw [e] at e'
    cases e'
    rcases n with n | n
    · exact n rfl
    · exact n n'
  have gs : ∀ {p l}, g' p = some l → g p = some l := fun {p l} e => by
    have e' : (if q p then none else g p) = some l := e
    split at e'
    · cases e'
    · exact e'
  have rd : RD F' (Dx.frz o1) w := by
    -- freeze along the tree: all of it lies below π
    have go : (∀ (o : O) (κ : List Str) (w : W), π <+: κ → RO F A.h g (.slot i) κ o w → RD F' (Dx.frz o) w) := by
      intro o κ w hp hr
      have hr' : RO F A.h (fun p => if q p then g p else none) (.slot i) κ o w :=
        RO.keepB (fun p l e z => by
          show (if q p then g p else none) = _
          rw [if_pos ⟨l, e, hp.trans z⟩]
          exact e) o w hr
      exact hr'.frz le (fun p l u e1 e2 => by
        have e1' : (if q p then g p else none) = some (.slot i, l) := e1
        split at e1'
        · rename_i z
          show (if q p then A.h p else F.h p) = some u
          rw [if_pos z]
          exact e2
        · cases e1') _ _ _
    exact go o1 π w (List.prefix_refl _) r
  have G : Grow F g A F' g' A := ⟨le, fun k p l e => ⟨gk e (.inl (by intro z; cases z)), rfl⟩, fun p o e1 e2 => by
    have nq : ¬ q p := fun ⟨l, z, _⟩ => by rw [e1] at z; cases z
    refine ⟨e2, ?_, fun z => ?_⟩
    · show (if q p then none else g p) = none
      rw [if_neg nq]; exact e1
    · show (if q p then A.h p else F.h p) = none
      rw [if_neg nq]; exact z⟩
  obtain ⟨sm, _⟩ := s.put (F' := F') (g' := g') (A' := A) (n' := n) (o2 := .leaf (Dx.frz o1)) e l h le (fun p l e n => ⟨gk e (.inr n), rfl⟩) (fun j hj p l e => ⟨gk e (.inl (by intro z; cases z; exact hj rfl)), rfl⟩) (by simp only [RO]; exact rd)
    (fun p o e => by
      have e' : (if q p then A.h p else F.h p) = some o := e
      split at e'
      · exact e'
      · exact s.fa p o e') (fun p l e => by
      show (if q p then A.h p else F.h p) = none
      have e0 := gs e
      have nq : ¬ q p := fun z => by
        have e' : (if q p then none else g p) = some l := e
        rw [if_pos z] at e'
        cases e'
      rw [if_neg nq]
      exact s.gf p l e0) (fun p l e => s.ga p l (gs e)) (let ⟨m, hm⟩ := s.tb; ⟨m, fun p k l e => hm p k l (gs e)⟩) s.pn
  exact ⟨F', g', G, sm, fun p l e => nr p l (gs e), rd⟩
end

theorem look_nil {o : O} : look o [] = some o := by cases o <;> rfl
theorem setO_nil {o u : O} : setO o [] u = u := by cases o <;> rfl
theorem RS.d {F : Fz} {h : Ah} {g : Gh} {ω : Sw} {d : D} {w : W} (nr : NoRes g) (r : RD F d w) : RS F h g ω (.dat d) w := ⟨nr, r⟩
theorem RS.n {F : Fz} {h : Ah} {g : Gh} {ω : Sw} {o : O} {w : W} (r : RO F h g .res [] o w) : RS F h g ω (.new o) w := r
theorem RS.o {F : Fz} {h : Ah} {g : Gh} {ω : Sw} {i : Nat} {π : List Str} {x : Option Addr} {w w0 : W} (nr : NoRes g) (e : ω[i]? = some (some w0)) (p : PathW h w0 π w) (hx : ∀ a, x = some a → w = .ref a) : RS F h g ω (.own i π x) w := ⟨nr, ⟨w0, e, p⟩, hx⟩
theorem RO.kn {F : Fz} {h : Ah} {g : Gh} {t : Tag} {π : List Str} {o : O} {w : W} {a : Addr} (r : RO F h g t π o w) (e : Dx.kn o = some a) : w = .ref a := by
  cases o with
  | leaf d => cases e
  | lst x ds => simp only [RO] at r; obtain ⟨p, ws, e1, ex, _⟩ := r; rw [e1, ex a e]
  | dic x ks vs => simp only [RO] at r; obtain ⟨p, ws, e1, ex, _⟩ := r; rw [e1, ex a e]
  | obj x C fs os => simp only [RO] at r; obtain ⟨p, ws, e1, ex, _⟩ := r; rw [e1, ex a e]
/-! ### how results are taken -/
/-- a new tree becomes data -/
def fzK (Q : QD) : QD := fun s ρ n => match s with
  | .dat d => Q (.dat d) ρ n
  | .new o => Q (.dat (frz o)) ρ n
  | .own i π x => Q (.own i π x) ρ n
/-- data at last -/
def datK (Q : D → Env → Nat → Prop) : QD := fun s ρ n => match s with
  | .dat d => Q d ρ n
  | .new o => Q (frz o) ρ n
  | .own i π _ => ∃ o o1, ρ[i]? = some (some o) ∧ look o π = some o1 ∧ Q (frz o1) (ρ.set i (some (setO o π (.leaf (frz o1))))) n
/-- the tree that is looked at -/
def wO (s : S) (ρ : Env) (k : O → Prop) : Prop := match s with
  | .dat d => k (.leaf d)
  | .new o => k o
  | .own i π _ => ∃ o o1, ρ[i]? = some (some o) ∧ look o π = some o1 ∧ k o1
/-- .. later -/
def wO0 (s : S) (ρ : Env) (k : O → Prop) : Prop := match s with
  | .dat d => k (.leaf d)
  | .new o => False
  | .own i π x => ∃ o o1, ρ[i]? = some (some o) ∧ look o π = some o1 ∧ (π = [] ∨ ∃ a, x = some a ∧ kn o1 = some a) ∧ k o1
/-- a tree that is seen -/
def VO (F : Fz) (A : AH) (o : O) (w : W) : Prop := ∃ g t π, RO F A.h g t π o w
theorem VO.leaf {F : Fz} {A : AH} {d : D} {w : W} (r : RD F d w) : VO F A (.leaf d) w := ⟨fun _ => none, .res, [], by simp only [RO]; exact r⟩
theorem VO.rd {F : Fz} {A : AH} {d : D} {w : W} (r : VO F A (.leaf d) w) : RD F d w := by
  obtain ⟨_, _, _, r⟩ := r
  simpa only [RO] using r
section
variable {Ew : XSw} {cl : Cl} {t : TEd} {ω : Sw} {A : AH} {Q : VKw} {F : Fz} {g : Gh} {n : Nat} {ρ : Env} {Xd : XD}
theorem up_s {Qd : QD} (hc : F.cl = cl) (sm : Sm F g n ρ ω A) (nr : NoRes g) (x : XOk F g A (atS ω Ew) Xd) (h : t ρ n Qd Xd) (k : ∀ F' g' n' ρ' A' s w, F'.cl = cl → Grow F g A F' g' A' → Sm F' g' n' ρ' ω A' → XOk F' g' A' (atS ω Ew) Xd → RS F' A'.h g' ω s w → Qd s ρ' n' → Q w A') : upE Ew cl t ω A Q :=
  ⟨F, g, n, ρ, Qd, Xd, hc, sm, nr, h, x, fun F' g' n' ρ' A' s w G sm' r q => k F' g' n' ρ' A' s w (G.le.cl.trans hc) G sm' (x.grow G) r q⟩
/-- data or a slot's tree -/
theorem up_fz {Qd : QD} (hc : F.cl = cl) (sm : Sm F g n ρ ω A) (nr : NoRes g) (x : XOk F g A (atS ω Ew) Xd) (h : t ρ n (fzK Qd) Xd) (k : ∀ F' g' n' ρ' A' s w, F'.cl = cl → Grow F g A F' g' A' → Sm F' g' n' ρ' ω A' → NoRes g' → XOk F' g' A' (atS ω Ew) Xd → RS F' A'.h g' ω s w → (∀ o, s ≠ .new o) → Qd s ρ' n' → Q w A') : upE Ew cl t ω A Q :=
  up_s hc sm nr x h fun F' g' n' ρ' A' s w hc' G sm' x' r q => by
    cases s with
    | dat d => exact k _ _ _ _ _ _ _ hc' G sm' r.1 x' r (fun o z => nomatch z) q
    | own i π x => exact k _ _ _ _ _ _ _ hc' G sm' r.1 x' r (fun o z => nomatch z) q
    | new o =>
      obtain ⟨F2, g2, G2, sm2, nr2, r2⟩ := sm'.frzRes r
      exact k _ _ _ _ _ (.dat (frz o)) _ (G2.le.cl.trans hc') (G.trans G2) sm2 nr2 (x'.grow G2) ⟨nr2, r2⟩ (fun o z => nomatch z) q
theorem up_dat {Qd : D → Env → Nat → Prop} (hc : F.cl = cl) (sm : Sm F g n ρ ω A) (nr : NoRes g) (x : XOk F g A (atS ω Ew) Xd) (h : t ρ n (datK Qd) Xd) (k : ∀ F' g' n' ρ' A' d w, F'.cl = cl → Grow F g A F' g' A' → Sm F' g' n' ρ' ω A' → NoRes g' → XOk F' g' A' (atS ω Ew) Xd → RD F' d w → Qd d ρ' n' → Q w A') : upE Ew cl t ω A Q :=
  up_s hc sm nr x h fun F' g' n' ρ' A' s w hc' G sm' x' r q => by
    cases s with
    | dat d => exact k _ _ _ _ _ _ _ hc' G sm' r.1 x' r.2 q
    | own i π x =>
      obtain ⟨o, o1, e, l, q⟩ := q
      obtain ⟨F2, g2, G2, sm2, nr2, r2⟩ := sm'.frzOwn r.1 e l r.2.1
      exact k _ _ _ _ _ _ _ (G2.le.cl.trans hc') (G.trans G2) sm2 nr2 (x'.grow G2) r2 q
    | new o =>
      obtain ⟨F2, g2, G2, sm2, nr2, r2⟩ := sm'.frzRes r
      exact k _ _ _ _ _ _ _ (G2.le.cl.trans hc') (G.trans G2) sm2 nr2 (x'.grow G2) r2 q
/-- what is looked at -/
theorem RS.look {s : S} {w : W} {k : O → Prop} (sm : Sm F g n ρ ω A) (r : RS F A.h g ω s w) (h : wO s ρ k) : ∃ o, VO F A o w ∧ k o := by
  cases s with
  | dat d => exact ⟨_, VO.leaf r.2, h⟩
  | new o => exact ⟨_, ⟨g, .res, [], r⟩, h⟩
  | own i π x =>
    obtain ⟨o, o1, e, l, h⟩ := h
    exact ⟨o1, ⟨g, _, π, sm.own e l r.2.1⟩, h⟩
theorem RS.look0 {s : S} {w : W} {k : O → Prop} {F1 : Fz} {h1 : Ah} {g1 : Gh} (sm : Sm F g n ρ ω A) (le : F1.le F) (r : RS F1 h1 g1 ω s w) (h : wO0 s ρ k) : ∃ o, VO F A o w ∧ k o := by
  cases s with
  | dat d => exact ⟨_, VO.leaf (RD.mono le _ _ r.2), h⟩
  | new o => exact h.elim
  | own i π x =>
    obtain ⟨o, o1, e, l, z, h⟩ := h
    obtain ⟨_, ⟨w0, e0, p⟩, hx⟩ := r
    rcases z with z | ⟨a, z, z2⟩
    · subst z
      exact ⟨o1, ⟨g, _, [], sm.own e l ⟨w0, e0, p⟩⟩, h⟩
    · obtain ⟨w', e', r'⟩ := sm.sl i o e
      obtain ⟨w1, _, r1, _⟩ := r'.at l
      rw [hx a z, ← r1.kn z2]
      exact ⟨o1, ⟨g, _, _, r1⟩, h⟩
/-- what is looked at, the new tree being frozen -/
theorem RS.lookF {s : S} {w : W} {k : O → Prop} (sm : Sm F g n ρ ω A) (r : RS F A.h g ω s w) (h : wO s ρ k) : ∃ F' g' o, Grow F g A F' g' A ∧ Sm F' g' n ρ ω A ∧ NoRes g' ∧ VO F' A o w ∧ k o := by
  cases s with
  | dat d => exact ⟨F, g, _, .refl F g A, sm, r.1, VO.leaf r.2, h⟩
  | new o =>
    have kp : ∀ p l, g p = some (.res, l) → A.h p = A.h p := fun _ _ _ => rfl
    refine ⟨F, unTag g .res, o, ⟨.refl F, fun k p l e => ⟨unTag_eq e (by intro z; cases z), rfl⟩, fun p o e1 e2 => ⟨e2, unTag_none e1, fun z => z⟩⟩, ⟨sm.fa, fun p l e => sm.gf p l (unTag_some e).1, fun p l e => sm.ga p l (unTag_some e).1, let ⟨m, hm⟩ := sm.tb; ⟨m, fun p k l e => hm p k l (unTag_some e).1⟩, sm.ln, fun i u e => ?_, sm.pn⟩, noRes_unTag, ⟨g, .res, [], r⟩, h⟩
    obtain ⟨w', e1, r1⟩ := sm.sl i u e
    exact ⟨w', e1, r1.keep (.refl F) (fun p l e => ⟨unTag_eq e (by intro z; cases z), rfl⟩) _ _ _⟩
  | own i π x =>
    obtain ⟨o, o1, e, l, h⟩ := h
    exact ⟨F, g, o1, .refl F g A, sm, r.1, ⟨g, _, π, sm.own e l r.2.1⟩, h⟩
end
/-! ### expressions -/
section
variable {X : Cx} {Ew : XSw} {cl : Cl} {e a b : Expr} {es : List Expr} {pos : Pos} {t ta tb : TEd} {tA : TAd} {tt tu : TTd}
def dVar (i : Nat) : TEd := fun ρ n Q _ => match ρ[i]? with
  | some (some (.leaf d)) => Q (.dat d) ρ n
  | some (some o) => Q (.own i [] (kn o)) ρ n
  | _ => False
theorem dVar_own {ρ : Env} {n : Nat} {Q : QD} {X : XD} {i : Nat} (h : dVar i ρ n Q X) : ∃ o, ρ[i]? = some (some o) ∧ ((∃ d, o = .leaf d ∧ Q (.dat d) ρ n) ∨ Q (.own i [] (kn o)) ρ n) := by
  unfold dVar at h
  split at h
  · rename_i d e
    exact ⟨_, e, .inl ⟨d, rfl, h⟩⟩
  · rename_i o _ e
    exact ⟨o, e, .inr h⟩
  · exact h.elim
theorem de_var {i : Nat} (h : WE X e (wVar i)) : DE X Ew cl e (dVar i) := WE.imp h fun ω A Q ⟨F, g, n, ρ, Qd, Xd, hc, sm, nr, h, x, k⟩ => by
  obtain ⟨o, eo, h⟩ := dVar_own h
  obtain ⟨w, ew, r⟩ := sm.sl i o eo
  refine ⟨w, ew, ?_⟩
  rcases h with ⟨d, rfl, h⟩ | h
  · exact k _ _ _ _ _ _ _ (.refl F g A) sm (.d nr (by simpa only [RO] using r)) h
  · exact k _ _ _ _ _ _ _ (.refl F g A) sm (.o (π := []) nr ew rfl fun a z => r.kn z) h
def dC (d : D) : TEd := fun ρ n Q _ => Q (.dat d) ρ n
theorem de_c {d : D} {w : W} (h : WE X e (wC w)) (r : ∀ F : Fz, F.cl = cl → RD F d w) : DE X Ew cl e (dC d) := WE.imp h fun ω A Q ⟨F, g, n, ρ, Qd, Xd, hc, sm, nr, h, x, k⟩ => k _ _ _ _ _ _ _ (.refl F g A) sm (.d nr (r F hc)) h
theorem de_int {i j} : DE X Ew cl (.Constant (.int i) j pos) (dC (.int i)) := de_c we_int fun _ _ => by simp only [RD]
theorem de_bl {b j} : DE X Ew cl (.Constant (.bool b) j pos) (dC (.bl b)) := de_c we_bl fun _ _ => by simp only [RD]
theorem de_non {j} : DE X Ew cl (.Constant .none j pos) (dC .non) := de_c we_non fun _ _ => by simp only [RD]
theorem de_str {x j} : DE X Ew cl (.Constant (.str x) j pos) (dC (.str x)) := de_c we_str fun _ _ => by simp only [RD]
/-! two places -/
abbrev R2d := O → O → (S → Prop) → Prop
/-- an operator above one below -/
def RdW (r : R2w) (rd : R2d) : Prop := ∀ F g n ρ ω A o1 o2 w1 w2 Qd (Q : VKw), Sm F g n ρ ω A → NoRes g → VO F A o1 w1 → VO F A o2 w2 → rd o1 o2 Qd → (∀ F' g' A' s w, Grow F g A F' g' A' → Sm F' g' n ρ ω A' → RS F' A'.h g' ω s w → Qd s → Q w A') → r w1 w2 A Q
def dOp (rd : R2d) (ta tb : TEd) : TEd := fun ρ n Q X => ta ρ n (fzK fun s1 ρ1 n1 => tb ρ1 n1 (fun s2 ρ2 n2 => wO0 s1 ρ2 fun o1 => wO s2 ρ2 fun o2 => rd o1 o2 fun s => Q s ρ2 n2) X) X
theorem wO_and {s : S} {ρ : Env} {k : O → Prop} : wO s ρ k → wO s ρ k := id
theorem dOp_lo {r : R2w} {rd : R2d} (hr : RdW r rd) {ω : Sw} {A : AH} {Q : VKw} (h : upE Ew cl (dOp rd ta tb) ω A Q) : wOp r (upE Ew cl ta) (upE Ew cl tb) ω A Q := by
  obtain ⟨F, g, n, ρ, Qd, Xd, hc, sm, nr, h, x, k⟩ := h
  refine up_fz hc sm nr x h fun F1 g1 n1 ρ1 A1 s1 w1 hc1 G1 sm1 nr1 x1 r1 nn h1 => ?_
  refine up_s hc1 sm1 nr1 x1 h1 fun F2 g2 n2 ρ2 A2 s2 w2 hc2 G2 sm2 x2 r2 h2 => ?_
  obtain ⟨o1, v1, h3⟩ := RS.look0 sm2 G2.le r1 h2
  obtain ⟨F3, g3, o2, G3, sm3, nr3, v2, h4⟩ := RS.lookF sm2 r2 h3
  have v1' : VO F3 A2 o1 w1 := by
    obtain ⟨gv, tv, πv, rv⟩ := v1
    exact ⟨gv, tv, πv, rv.keep G3.le (fun p l e => ⟨e, rfl⟩) _ _ _⟩
  exact hr F3 g3 n2 ρ2 ω A2 o1 o2 w1 w2 _ Q sm3 nr3 v1' v2 h4 fun F' g' A' s w G' sm' r' q => k F' g' n2 ρ2 A' s w ((G1.trans G2).trans (G3.trans G')) sm' r' q
theorem de_op {op : Operator} {r : R2w} {rd : R2d} (ho : OpW X (binaryOp op) r) (hr : RdW r rd) (ha : DE X Ew cl a ta) (hb : DE X Ew cl b tb) : DE X Ew cl (.BinOp a op b pos) (dOp rd ta tb) := WE.imp (we_op ho ha hb) fun ω A Q h => dOp_lo hr h
theorem de_cmp {op : CmpOp} {r : R2w} {rd : R2d} (ho : OpW X (compareOp op) r) (hr : RdW r rd) (ha : DE X Ew cl a ta) (hb : DE X Ew cl b tb) (hm : behindInMarks op b = false) : DE X Ew cl (.Compare a [op] [b] pos) (dOp rd ta tb) := WE.imp (we_cmp ho ha hb hm) fun ω A Q h => dOp_lo hr h
theorem de_ix {r : R2w} {rd : R2d} (ho : IxW X r) (hr : RdW r rd) (ha : DE X Ew cl a ta) (hb : DE X Ew cl b tb) (hs : PlainIx b) : DE X Ew cl (.Subscript a b pos) (dOp rd ta tb) := WE.imp (we_ix ho ha hb hs) fun ω A Q h => dOp_lo hr h
/-! tests -/
def bK (Q : Bool → Env → Nat → Prop) : QD := fun s ρ n => match s with
  | .dat (.bl b) => Q b ρ n
  | _ => False
theorem bK_dat {Q : Bool → Env → Nat → Prop} {s : S} {ρ : Env} {n : Nat} (h : bK Q s ρ n) : ∃ b, s = .dat (.bl b) ∧ Q b ρ n := by
  unfold bK at h
  split at h
  · exact ⟨_, rfl, h⟩
  · exact h.elim
def dTest (t : TEd) : TTd := fun ρ n Q X => t ρ n (bK Q) X
theorem dTest_lo {ω : Sw} {A : AH} {Q : Bool → AH → Prop} (h : upT Ew cl (dTest t) ω A Q) : wTest (upE Ew cl t) ω A Q := by
  obtain ⟨F, g, n, ρ, Qd, Xd, hc, sm, nr, h, x, k⟩ := h
  refine up_s hc sm nr x h fun F1 g1 n1 ρ1 A1 s1 w1 hc1 G1 sm1 x1 r1 h1 => ?_
  obtain ⟨b, rfl, q⟩ := bK_dat h1
  obtain ⟨nr1, r1⟩ := r1
  simp only [RD] at r1
  exact ⟨b, r1, k _ _ _ _ _ _ G1 sm1 nr1 q⟩
theorem dt_val (h : DE X Ew cl e t) (he : ∀ whole, isTrue e X.env whole = (do let v ← whole; standAt e.pos; holding [v] (truthy v)) := by intro _; rfl) : DT X Ew cl e (dTest t) := WT.imp (wt_val h he) fun ω A Q h => dTest_lo h
theorem dt_cmp {op : CmpOp} {r : R2w} {rd : R2d} (ho : OpW X (compareOp op) r) (hr : RdW r rd) (ha : DE X Ew cl a ta) (hb : DE X Ew cl b tb) (hm : behindInMarks op b = false) : DT X Ew cl (.Compare a [op] [b] pos) (dTest (dOp rd ta tb)) := WT.imp (wt_cmp ho ha hb hm) fun ω A Q h => by
  obtain ⟨F, g, n, ρ, Qd, Xd, hc, sm, nr, h, x, k⟩ := h
  refine dOp_lo hr ⟨F, g, n, ρ, bK Qd, Xd, hc, sm, nr, h, x, fun F1 g1 n1 ρ1 A1 s1 w1 G1 sm1 r1 h1 => ?_⟩
  obtain ⟨b, rfl, q⟩ := bK_dat h1
  obtain ⟨nr1, r1⟩ := r1
  simp only [RD] at r1
  exact ⟨b, r1, k _ _ _ _ _ _ G1 sm1 nr1 q⟩
theorem up_t {t : TTd} {ω : Sw} {A : AH} {Q : Bool → AH → Prop} {F : Fz} {g : Gh} {n : Nat} {ρ : Env} {Xd : XD} {Qd : Bool → Env → Nat → Prop} (hc : F.cl = cl) (sm : Sm F g n ρ ω A) (nr : NoRes g) (x : XOk F g A (atS ω Ew) Xd) (h : t ρ n Qd Xd)
    (k : ∀ F' g' n' ρ' A' b, F'.cl = cl → Grow F g A F' g' A' → Sm F' g' n' ρ' ω A' → NoRes g' → XOk F' g' A' (atS ω Ew) Xd → Qd b ρ' n' → Q b A') : upT Ew cl t ω A Q := ⟨F, g, n, ρ, Qd, Xd, hc, sm, nr, h, x, fun F' g' n' ρ' A' s G sm' r q => k F' g' n' ρ' A' s (G.le.cl.trans hc) G sm' r (x.grow G) q⟩
def DW (X : Cx) (Ew : XSw) (cl : Cl) (e : Expr) (t : TTd) : Prop := WW X e (upT Ew cl t)
def dAnd (t u : TTd) : TTd := fun ρ n Q X => t ρ n (fun c ρ1 n1 => if c = true then u ρ1 n1 Q X else Q false ρ1 n1) X
def dOr (t u : TTd) : TTd := fun ρ n Q X => t ρ n (fun c ρ1 n1 => if c = true then Q true ρ1 n1 else u ρ1 n1 Q X) X
def dNot (t : TTd) : TTd := fun ρ n Q X => t ρ n (fun c ρ1 n1 => Q (!c) ρ1 n1) X
theorem DW.dt (h : DW X Ew cl e tt) : DT X Ew cl e tt := WW.wt h
theorem WW.imp {t t' : TTw} (h : WW X e t) (c : ∀ ω A Q, t' ω A Q → t ω A Q) : WW X e t' := ⟨PW.imp h.run fun σ H Q ⟨ω, A, Q', sm, ra, h, k⟩ => ⟨ω, A, Q', sm, ra, c _ _ _ h, k⟩⟩
theorem dw_and1 (ha : DT X Ew cl a tt) : DW X Ew cl (.BoolOp .And [a] pos) tt := ww_and1 ha
theorem dw_or1 (ha : DT X Ew cl a tt) : DW X Ew cl (.BoolOp .Or [a] pos) tt := ww_or1 ha
theorem dw_and {rest : List Expr} (ha : DT X Ew cl a tt) (hb : DW X Ew cl (.BoolOp .And (b :: rest) pos) tu) : DW X Ew cl (.BoolOp .And (a :: b :: rest) pos) (dAnd tt tu) := WW.imp (ww_and ha hb) fun ω A Q ⟨F, g, n, ρ, Qd, Xd, hc, sm, nr, h, x, k⟩ =>
  up_t hc sm nr x h fun F1 g1 n1 ρ1 A1 b hc1 G1 sm1 nr1 x1 h1 => by
    cases b with
    | true => exact up_t hc1 sm1 nr1 x1 h1 fun F2 g2 n2 ρ2 A2 b hc2 G2 sm2 nr2 x2 h2 => k _ _ _ _ _ _ (G1.trans G2) sm2 nr2 h2
    | false => exact k _ _ _ _ _ _ G1 sm1 nr1 h1
theorem dw_or {rest : List Expr} (ha : DT X Ew cl a tt) (hb : DW X Ew cl (.BoolOp .Or (b :: rest) pos) tu) : DW X Ew cl (.BoolOp .Or (a :: b :: rest) pos) (dOr tt tu) := WW.imp (ww_or ha hb) fun ω A Q ⟨F, g, n, ρ, Qd, Xd, hc, sm, nr, h, x, k⟩ =>
  up_t hc sm nr x h fun F1 g1 n1 ρ1 A1 b hc1 G1 sm1 nr1 x1 h1 => by
    cases b with
    | false => exact up_t hc1 sm1 nr1 x1 h1 fun F2 g2 n2 ρ2 A2 b hc2 G2 sm2 nr2 x2 h2 => k _ _ _ _ _ _ (G1.trans G2) sm2 nr2 h2
    | true => exact k _ _ _ _ _ _ G1 sm1 nr1 h1
theorem dt_not (ha : DT X Ew cl a tt) : DT X Ew cl (.UnaryOp .Not a pos) (dNot tt) := WT.imp (wt_not ha) fun ω A Q ⟨F, g, n, ρ, Qd, Xd, hc, sm, nr, h, x, k⟩ => up_t hc sm nr x h fun F1 g1 n1 ρ1 A1 b hc1 G1 sm1 nr1 x1 h1 => k _ _ _ _ _ _ G1 sm1 nr1 h1
/-! as values -/
def dAndV (ta tb : TEd) : TEd := fun ρ n Q X => ta ρ n (bK fun c ρ1 n1 => if c = true then tb ρ1 n1 Q X else Q (.dat (.bl false)) ρ1 n1) X
def dOrV (ta tb : TEd) : TEd := fun ρ n Q X => ta ρ n (bK fun c ρ1 n1 => if c = true then Q (.dat (.bl true)) ρ1 n1 else tb ρ1 n1 Q X) X
def dNotV (ta : TEd) : TEd := fun ρ n Q X => ta ρ n (bK fun c ρ1 n1 => Q (.dat (.bl (!c))) ρ1 n1) X
theorem de_one {op} (h : DE X Ew cl a ta) : DE X Ew cl (.BoolOp op [a] pos) ta := we_one h
theorem de_and {rest : List Expr} (ha : DE X Ew cl a ta) (hb : DE X Ew cl (.BoolOp .And (b :: rest) pos) tb) : DE X Ew cl (.BoolOp .And (a :: b :: rest) pos) (dAndV ta tb) := WE.imp (we_and ha hb) fun ω A Q ⟨F, g, n, ρ, Qd, Xd, hc, sm, nr, h, x, k⟩ =>
  up_s hc sm nr x h fun F1 g1 n1 ρ1 A1 s1 w1 hc1 G1 sm1 x1 r1 h1 => by
    obtain ⟨b, rfl, q⟩ := bK_dat h1
    obtain ⟨nr1, r1⟩ := r1
    simp only [RD] at r1
    refine ⟨b, r1, ?_⟩
    cases b with
    | true => exact up_s hc1 sm1 nr1 x1 q fun F2 g2 n2 ρ2 A2 s w hc2 G2 sm2 x2 r2 h2 => k _ _ _ _ _ _ _ (G1.trans G2) sm2 r2 h2
    | false => exact k _ _ _ _ _ _ _ G1 sm1 (.d nr1 (by simp only [RD])) q
theorem de_or {rest : List Expr} (ha : DE X Ew cl a ta) (hb : DE X Ew cl (.BoolOp .Or (b :: rest) pos) tb) : DE X Ew cl (.BoolOp .Or (a :: b :: rest) pos) (dOrV ta tb) := WE.imp (we_or ha hb) fun ω A Q ⟨F, g, n, ρ, Qd, Xd, hc, sm, nr, h, x, k⟩ =>
  up_s hc sm nr x h fun F1 g1 n1 ρ1 A1 s1 w1 hc1 G1 sm1 x1 r1 h1 => by
    obtain ⟨b, rfl, q⟩ := bK_dat h1
    obtain ⟨nr1, r1⟩ := r1
    simp only [RD] at r1
    refine ⟨b, r1, ?_⟩
    cases b with
    | false => exact up_s hc1 sm1 nr1 x1 q fun F2 g2 n2 ρ2 A2 s w hc2 G2 sm2 x2 r2 h2 => k _ _ _ _ _ _ _ (G1.trans G2) sm2 r2 h2
    | true => exact k _ _ _ _ _ _ _ G1 sm1 (.d nr1 (by simp only [RD])) q
theorem de_not (ha : DE X Ew cl a ta) : DE X Ew cl (.UnaryOp .Not a pos) (dNotV ta) := WE.imp (we_not ha) fun ω A Q ⟨F, g, n, ρ, Qd, Xd, hc, sm, nr, h, x, k⟩ =>
  up_s hc sm nr x h fun F1 g1 n1 ρ1 A1 s1 w1 hc1 G1 sm1 x1 r1 h1 => by
    obtain ⟨b, rfl, q⟩ := bK_dat h1
    obtain ⟨nr1, r1⟩ := r1
    simp only [RD] at r1
    exact ⟨b, r1, k _ _ _ _ _ _ _ G1 sm1 (.d nr1 (by simp only [RD])) q⟩
def dIf (t : TTd) (ta tb : TEd) : TEd := fun ρ n Q X => t ρ n (fun c ρ1 n1 => if c = true then ta ρ1 n1 Q X else tb ρ1 n1 Q X) X
theorem de_if {c : Expr} (hc : DT X Ew cl c tt) (ha : DE X Ew cl a ta) (hb : DE X Ew cl b tb) : DE X Ew cl (.IfExp c a b pos) (dIf tt ta tb) := WE.imp (we_if hc ha hb) fun ω A Q ⟨F, g, n, ρ, Qd, Xd, hc, sm, nr, h, x, k⟩ =>
  up_t hc sm nr x h fun F1 g1 n1 ρ1 A1 b hc1 G1 sm1 nr1 x1 h1 => by
    cases b with
    | true => exact up_s hc1 sm1 nr1 x1 h1 fun F2 g2 n2 ρ2 A2 s w hc2 G2 sm2 x2 r2 h2 => k _ _ _ _ _ _ _ (G1.trans G2) sm2 r2 h2
    | false => exact up_s hc1 sm1 nr1 x1 h1 fun F2 g2 n2 ρ2 A2 s w hc2 G2 sm2 x2 r2 h2 => k _ _ _ _ _ _ _ (G1.trans G2) sm2 r2 h2
/-! arguments, displays -/
def dNil : TAd := fun ρ n Q _ => Q [] ρ n
def dCons (te : TEd) (tr : TAd) : TAd := fun ρ n Q X => te ρ n (datK fun d ρ1 n1 => tr ρ1 n1 (fun ds ρ2 n2 => Q (d :: ds) ρ2 n2) X) X
theorem up_a {t : TAd} {ω : Sw} {A : AH} {Q : List W → AH → Prop} {F : Fz} {g : Gh} {n : Nat} {ρ : Env} {Xd : XD} {Qd : List D → Env → Nat → Prop} (hc : F.cl = cl) (sm : Sm F g n ρ ω A) (nr : NoRes g) (x : XOk F g A (atS ω Ew) Xd) (h : t ρ n Qd Xd)
    (k : ∀ F' g' n' ρ' A' ds ws, F'.cl = cl → Grow F g A F' g' A' → Sm F' g' n' ρ' ω A' → NoRes g' → XOk F' g' A' (atS ω Ew) Xd → RDs F' ds ws → Qd ds ρ' n' → Q ws A') : upA Ew cl t ω A Q := ⟨F, g, n, ρ, Qd, Xd, hc, sm, nr, h, x, fun F' g' n' ρ' A' ds ws G sm' nr r q => k F' g' n' ρ' A' ds ws (G.le.cl.trans hc) G sm' nr (x.grow G) r q⟩
theorem da_nil : DA X Ew cl [] dNil := WA.imp wa_nil fun ω A Q ⟨F, g, n, ρ, Qd, Xd, hc, sm, nr, h, x, k⟩ => k _ _ _ _ _ [] [] (.refl F g A) sm nr .nil h
theorem da_cons (ha : DE X Ew cl e ta) (hr : DA X Ew cl es tA) (hs : starEach (e :: es) X.env = (false, eval e X.env) :: starEach es X.env := by rfl) : DA X Ew cl (e :: es) (dCons ta tA) := WA.imp (wa_cons ha hr hs) fun ω A Q ⟨F, g, n, ρ, Qd, Xd, hc, sm, nr, h, x, k⟩ =>
  up_dat hc sm nr x h fun F1 g1 n1 ρ1 A1 d w hc1 G1 sm1 nr1 x1 r1 h1 => up_a hc1 sm1 nr1 x1 h1 fun F2 g2 n2 ρ2 A2 ds ws hc2 G2 sm2 nr2 x2 r2 h2 => k _ _ _ _ _ _ _ (G1.trans G2) sm2 nr2 (.cons (RD.mono G2.le _ _ r1) r2) h2
def dTup (t : TAd) : TEd := fun ρ n Q X => t ρ n (fun ds ρ1 n1 => ds.length ≤ sizeLine ∧ Q (.dat (.tup ds)) ρ1 n1) X
def dLst (t : TAd) : TEd := fun ρ n Q X => t ρ n (fun ds ρ1 n1 => ds.length ≤ sizeLine ∧ Q (.new (.lst none ds)) ρ1 n1) X
theorem de_tup {k : Nat} (h : DA X Ew cl es tA) : DE X Ew cl (.Tuple es k pos) (dTup tA) := WE.imp (we_tup h) fun ω A Q ⟨F, g, n, ρ, Qd, Xd, hc, sm, nr, h, x, k⟩ =>
  up_a hc sm nr x h fun F1 g1 n1 ρ1 A1 ds ws hc1 G1 sm1 nr1 x1 r1 ⟨l, q⟩ => ⟨by rw [r1.length]; exact l, k _ _ _ _ _ _ _ G1 sm1 (.d nr1 (by simp only [RD]; exact ⟨ws, .inl rfl, r1⟩)) q⟩
/-- a new list -/
theorem Sm.newLst {F : Fz} {g : Gh} {n : Nat} {ρ : Env} {ω : Sw} {A : AH} (s : Sm F g n ρ ω A) (nr : NoRes g) {p : Addr} {ws : List W} {ds : List D} (e : A.h p = none) (r : RDs F ds ws) : ∃ g', Grow F g A F g' (A.put p (.lst ws)) ∧ Sm F g' n ρ ω (A.put p (.lst ws)) ∧ RO F (A.put p (.lst ws)).h g' .res [] (.lst none ds) (.ref p) := by
  obtain ⟨g', G, sm, gp, gn⟩ := s.newAt nr (wo := .lst ws) e
  exact ⟨g', G, sm, by simp only [RO]; exact ⟨p, ws, rfl, (fun _ z => nomatch z), gp, AH.put_same, r⟩⟩
theorem de_lst (h : DA X Ew cl es tA) : DE X Ew cl (.List es pos) (dLst tA) := WE.imp (we_lst h) fun ω A Q ⟨F, g, n, ρ, Qd, Xd, hc, sm, nr, h, x, k⟩ =>
  up_a hc sm nr x h fun F1 g1 n1 ρ1 A1 ds ws hc1 G1 sm1 nr1 x1 r1 ⟨l, q⟩ => ⟨by rw [r1.length]; exact l, fun p hp => by
    obtain ⟨g2, G2, sm2, r2⟩ := sm1.newLst nr1 hp r1
    exact k _ _ _ _ _ _ _ (G1.trans G2) sm2 (.n r2) q⟩
end
end Dx

set_option Elab.async false
set_option linter.all false
set_option maxRecDepth 100000
set_option maxHeartbeats 4000000
/-! DX4: targets, statements, loops. -/
namespace Dx
open PySem L2 Wx
abbrev TGd := D → Env → (Env → Prop) → Prop
abbrev TGsd := List D → Env → (Env → Prop) → Prop
/-- a target above one below; it stores into vs alone -/
def GdW (vs : List Nat) (gw : TGw) (gd : TGd) : Prop := ∀ F g n ρ ω A d w Qd (Q : Sw → AH → Prop), Sm F g n ρ ω A → NoRes g → RD F d w → gd d ρ Qd → (∀ g' ρ' ω', Grow F g A F g' A → Sm F g' n ρ' ω' A → NoRes g' → ω'.length = ω.length → (∀ i, i ∉ vs → ω'[i]? = ω[i]? ∧ ρ'[i]? = ρ[i]?) → Qd ρ' → Q ω' A) → gw w ω A Q
def GsdW (vs : List Nat) (gw : TGsw) (gd : TGsd) : Prop := ∀ F g n ρ ω A ds ws Qd (Q : Sw → AH → Prop), Sm F g n ρ ω A → NoRes g → RDs F ds ws → gd ds ρ Qd → (∀ g' ρ' ω', Grow F g A F g' A → Sm F g' n ρ' ω' A → NoRes g' → ω'.length = ω.length → (∀ i, i ∉ vs → ω'[i]? = ω[i]? ∧ ρ'[i]? = ρ[i]?) → Qd ρ' → Q ω' A) → gw ws ω A Q
def dgName (i : Nat) : TGd := fun d ρ Q => Q (ρ.set i (some (.leaf d)))
theorem gd_name {vs : List Nat} {i : Nat} (hi : i ∈ vs) : GdW vs (wgName i) (dgName i) := fun F g n ρ ω A d w Qd Q sm nr r h k => by
  obtain ⟨g', G, sm', nr'⟩ := sm.setD nr (i := i) r
  exact k g' _ _ G sm' nr' (by simp) (fun j hj => by
    have : i ≠ j := fun z => hj (z ▸ hi)
    rw [List.getElem?_set_ne this, List.getElem?_set_ne this]
    exact ⟨rfl, rfl⟩) h
def dgNil : TGsd := fun ds ρ Q => ds = [] ∧ Q ρ
def dgCons (g : TGd) (gs : TGsd) : TGsd := fun ds ρ Q => match ds with
  | d :: r => g d ρ fun ρ' => gs r ρ' Q
  | [] => False
def dgTup (k : Nat) (gs : TGsd) : TGd := fun d ρ Q => match d with
  | .tup ds => ds.length = k ∧ gs ds ρ Q
  | _ => False
theorem gds_nil {vs : List Nat} : GsdW vs wgNil dgNil := fun F g n ρ ω A ds ws Qd Q sm nr r ⟨e, h⟩ k => by
  subst e
  exact ⟨r.unnil, k g ρ ω (.refl F g A) sm nr rfl (fun _ _ => ⟨rfl, rfl⟩) h⟩
theorem gds_cons {vs : List Nat} {gw : TGw} {gd : TGd} {gws : TGsw} {gds : TGsd} (h1 : GdW vs gw gd) (h2 : GsdW vs gws gds) : GsdW vs (wgCons gw gws) (dgCons gd gds) := fun F g n ρ ω A ds ws Qd Q sm nr r h k => by
  cases ds with
  | nil => exact h.elim
  | cons d ds =>
    obtain ⟨w, u, rfl, r1, r2⟩ := r.uncons
    refine ⟨w, u, rfl, h1 F g n ρ ω A d w _ _ sm nr r1 h fun g' ρ' ω' G sm' nr' l1 f h' => ?_⟩
    exact h2 F g' n ρ' ω' A ds u _ _ sm' nr' r2 h' fun g2 ρ2 ω2 G2 sm2 nr2 l2 f2 q => k g2 ρ2 ω2 (G.trans G2) sm2 nr2 (l2.trans l1) (fun i hi => ⟨(f2 i hi).1.trans (f i hi).1, (f2 i hi).2.trans (f i hi).2⟩) q
theorem gd_tup {vs : List Nat} {k : Nat} {gws : TGsw} {gds : TGsd} (h : GsdW vs gws gds) (hk : ∀ {A : AH} {us : List W} {ω : Sw} {Q}, gws us ω A Q → True := by intros; trivial) : GdW vs (fun w ω A Q => ∃ ws, (w = .tup ws ∨ w = .ktup ws) ∧ ws.length = k ∧ gws ws ω A Q) (dgTup k gds) := fun F g n ρ ω A d w Qd Q sm nr r hd kk => by
  cases d with
  | tup ds =>
    obtain ⟨l, hd⟩ := hd
    simp only [RD] at r
    obtain ⟨ws, e, r⟩ := r
    exact ⟨ws, e, by rw [r.length]; exact l, h F g n ρ ω A ds ws Qd Q sm nr r hd kk⟩
  | non => exact hd.elim
  | bl _ => exact hd.elim
  | int _ => exact hd.elim
  | str _ => exact hd.elim
  | lst _ => exact hd.elim
  | dic _ _ => exact hd.elim
  | obj _ _ _ => exact hd.elim
  | ty _ => exact hd.elim
  | glb _ => exact hd.elim
  | pen => exact hd.elim
  | scr => exact hd.elim
  | ref _ => exact hd.elim
  | exc _ _ _ _ _ => exact hd.elim
/-- a tuple is taken apart, a written one too -/
def wgTupK (n : Nat) (t : TGsw) : TGw := fun w ω A Q => ∃ ws, (w = .tup ws ∨ w = .ktup ws) ∧ ws.length = n ∧ t ws ω A Q
section
variable {X : Cx} {pos : Pos} {tgs : List Expr} {gs : TGsw}
theorem wg_tupK {k n : Nat} (hc : X.calm = true) (h : WGs X tgs gs) (hn : (assignEach tgs X.env).length = n := by rfl) (hst : (assignEach tgs X.env).findIdx? (·.1) = none := by rfl) : WG X (.Tuple tgs k pos) (wgTupK n gs) :=
  ⟨PG.imp (pg_tup hc h.pgs hn hst) fun v σ H Q ⟨w, ω, A, Q', r, sm, ra, ⟨ws, e, l, h⟩, k⟩ => by
    rcases e with e | e
    · subst e
      simp only [rep] at r
      obtain ⟨a, vs, e, s, rs⟩ := r
      exact ⟨a, vs, e, SqT.of s, (reps_length rs).trans l, loGs_i rs sm ra h fun σ1 H1 ω1 A1 t1 sm1 ra1 q => k _ _ ⟨ω1, A1, t1, sm1, ra1, q⟩⟩
    · subst e
      simp only [rep] at r
      obtain ⟨a, vs, e, s, rs⟩ := r
      exact ⟨a, vs, e, s, (reps_length rs).trans l, loGs_i rs sm ra h fun σ1 H1 ω1 A1 t1 sm1 ra1 q => k _ _ ⟨ω1, A1, t1, sm1, ra1, q⟩⟩⟩
theorem wgc_tupK {vs : List Nat} {k n : Nat} (hc : X.calm = true) (h : WGsc X vs tgs gs) (hn : (assignEach tgs X.env).length = n := by rfl) (hst : (assignEach tgs X.env).findIdx? (·.1) = none := by rfl) : WGc X vs (.Tuple tgs k pos) (wgTupK n gs) :=
  ⟨PG.imp (pg_tup hc h.pgs hn hst) fun v σ H Q ⟨w, ω, A, Q', r, sm, ra, ⟨ws, e, l, h⟩, k⟩ => by
    rcases e with e | e
    · subst e
      simp only [rep] at r
      obtain ⟨a, us, e, s, rs⟩ := r
      exact ⟨a, us, e, SqT.of s, (reps_length rs).trans l, ws, ω, A, Q', rs, sm, ra, h, k⟩
    · subst e
      simp only [rep] at r
      obtain ⟨a, us, e, s, rs⟩ := r
      exact ⟨a, us, e, s, (reps_length rs).trans l, ws, ω, A, Q', rs, sm, ra, h, k⟩⟩
end
theorem gd_tupK {vs : List Nat} {k : Nat} {gws : TGsw} {gds : TGsd} (h : GsdW vs gws gds) : GdW vs (wgTupK k gws) (dgTup k gds) := gd_tup h

/-! ### statements -/
structure Dd where
  nx : Env → Nat → Prop
  rt : O → Env → Nat → Prop
  bk : Env → Nat → Prop := fun _ _ => False
  ct : Env → Nat → Prop := fun _ _ => False
  ex : XD := X0d
abbrev TSd := Dd → Env → Nat → Prop
structure EndOk (F : Fz) (g : Gh) (A : AH) (Ew : XSw) (D' : Dd) (D : Dw) : Prop where
  nx : ∀ F' g' n' ρ' ω' A', Grow F g A F' g' A' → Sm F' g' n' ρ' ω' A' → NoRes g' → D'.nx ρ' n' → D.nx ω' A'
  bk : ∀ F' g' n' ρ' ω' A', Grow F g A F' g' A' → Sm F' g' n' ρ' ω' A' → NoRes g' → D'.bk ρ' n' → D.bk ω' A'
  ct : ∀ F' g' n' ρ' ω' A', Grow F g A F' g' A' → Sm F' g' n' ρ' ω' A' → NoRes g' → D'.ct ρ' n' → D.ct ω' A'
  rt : ∀ F' g' n' ρ' ω' A' o w, Grow F g A F' g' A' → Sm F' g' n' ρ' ω' A' → RO F' A'.h g' .res [] o w → D'.rt o ρ' n' → D.rt w A'
  ex : XOk F g A Ew D'.ex
theorem EndOk.grow {F F' : Fz} {g g' : Gh} {A A' : AH} {Ew : XSw} {D' : Dd} {D : Dw} (e : EndOk F g A Ew D' D) (G : Grow F g A F' g' A') : EndOk F' g' A' Ew D' D :=
  ⟨fun _ _ _ _ _ _ G' => e.nx _ _ _ _ _ _ (G.trans G'), fun _ _ _ _ _ _ G' => e.bk _ _ _ _ _ _ (G.trans G'), fun _ _ _ _ _ _ G' => e.ct _ _ _ _ _ _ (G.trans G'), fun _ _ _ _ _ _ _ _ G' => e.rt _ _ _ _ _ _ _ _ (G.trans G'), e.ex.grow G⟩
def upS (Ew : XSw) (cl : Cl) (t : TSd) : TSw := fun D ω A => ∃ F g n ρ D', F.cl = cl ∧ Sm F g n ρ ω A ∧ NoRes g ∧ t D' ρ n ∧ EndOk F g A Ew D' D
abbrev DS (X : Cx) (Ew : XSw) (cl : Cl) (st : Stmt) (t : TSd) : Prop := WS X st (upS Ew cl t)
abbrev DSs (X : Cx) (Ew : XSw) (cl : Cl) (st : List Stmt) (t : TSd) : Prop := WSs X st (upS Ew cl t)
section
variable {X : Cx} {st : Stmt} {sts : List Stmt} {t t' : TSw}
theorem WS.imp (h : WS X st t) (c : ∀ D ω A, t' D ω A → t D ω A) : WS X st t' := ⟨fun pins s σ H ω A D I sm ra q => h.run pins s σ H ω A D I sm ra (c D ω A q)⟩
theorem WSs.imp (h : WSs X sts t) (c : ∀ D ω A, t' D ω A → t D ω A) : WSs X sts t' := ⟨fun pins s σ H ω A D I sm ra q => h.run pins s σ H ω A D I sm ra (c D ω A q)⟩
end
section
variable {X : Cx} {Ew : XSw} {cl : Cl} {pos : Pos} {st : Stmt} {sts : List Stmt} {e : Expr} {te : TEd} {t u : TSd} {tt : TTd} {tg : Expr}
theorem upS_i {D : Dw} {D' : Dd} {F : Fz} {g : Gh} {n : Nat} {ρ : Env} {ω : Sw} {A : AH} (hc : F.cl = cl) (sm : Sm F g n ρ ω A) (nr : NoRes g) (h : t D' ρ n) (e : EndOk F g A Ew D' D) : upS Ew cl t D ω A := ⟨F, g, n, ρ, D', hc, sm, nr, h, e⟩
def dNext : TSd := fun D ρ n => D.nx ρ n
def dSeq (t u : TSd) : TSd := fun D ρ n => t { D with nx := u D } ρ n
def dBrk : TSd := fun D ρ n => D.bk ρ n
def dCont : TSd := fun D ρ n => D.ct ρ n
theorem dss_nil : DSs X Ew cl [] dNext := WSs.imp wss_nil fun D ω A ⟨F, g, n, ρ, D', hc, sm, nr, h, e⟩ => e.nx _ _ _ _ _ _ (.refl F g A) sm nr h
theorem ds_pass : DS X Ew cl (.Pass pos) dNext := WS.imp ws_pass fun D ω A ⟨F, g, n, ρ, D', hc, sm, nr, h, e⟩ => e.nx _ _ _ _ _ _ (.refl F g A) sm nr h
theorem ds_break : DS X Ew cl (.Break pos) dBrk := WS.imp ws_break fun D ω A ⟨F, g, n, ρ, D', hc, sm, nr, h, e⟩ => e.bk _ _ _ _ _ _ (.refl F g A) sm nr h
theorem ds_continue : DS X Ew cl (.Continue pos) dCont := WS.imp ws_continue fun D ω A ⟨F, g, n, ρ, D', hc, sm, nr, h, e⟩ => e.ct _ _ _ _ _ _ (.refl F g A) sm nr h
theorem dss_cons (h1 : DS X Ew cl st t) (h2 : DSs X Ew cl sts u) : DSs X Ew cl (st :: sts) (dSeq t u) := WSs.imp (wss_cons h1 h2) fun D ω A ⟨F, g, n, ρ, D', hc, sm, nr, h, e⟩ =>
  upS_i hc sm nr h ⟨fun F1 g1 n1 ρ1 ω1 A1 G1 sm1 nr1 q => upS_i (G1.le.cl.trans hc) sm1 nr1 q (e.grow G1), e.bk, e.ct, e.rt, e.ex⟩
theorem dss_one (h1 : DS X Ew cl st t) : DSs X Ew cl [st] t := wss_one h1
def dDrop (te : TEd) : TSd := fun D ρ n => te ρ n (fun _ ρ' n' => D.nx ρ' n') D.ex
theorem ds_expr (he : DE X Ew cl e te) (hs : swapsWith e none pos.line X.env = pure false := by rfl) : DS X Ew cl (.Expr e pos) (dDrop te) := WS.imp (ws_expr he hs) fun D ω A ⟨F, g, n, ρ, D', hc, sm, nr, h, e⟩ =>
  up_s hc sm nr e.ex.at h fun F1 g1 n1 ρ1 A1 s1 w1 hc1 G1 sm1 x1 r1 q => by
    cases s1 with
    | dat d => exact e.nx _ _ _ _ _ _ G1 sm1 r1.1 q
    | own i π x => exact e.nx _ _ _ _ _ _ G1 sm1 r1.1 q
    | new o =>
      obtain ⟨F2, g2, G2, sm2, nr2, _⟩ := sm1.frzRes r1
      exact e.nx _ _ _ _ _ _ (G1.trans G2) sm2 nr2 q
/-! a slot's whole tree is handed on -/
theorem Sm.take {F : Fz} {g : Gh} {n : Nat} {ρ : Env} {ω : Sw} {A : AH} (s : Sm F g n ρ ω A) (nr : NoRes g) {i : Nat} {o : O} {w : W} (e : ρ[i]? = some (some o)) (ew : ω[i]? = some (some w)) :
    ∃ g', Grow F g A F g' A ∧ Sm F g' n (ρ.set i none) ω A ∧ RO F A.h g' .res [] o w := by
  obtain ⟨w', e', r⟩ := s.sl i o e
  rw [ew] at e'
  cases e'
  refine ⟨reTag g (.slot i) .res, ⟨.refl F, fun k p l e => ⟨reTag_ne e (by intro z; cases z), rfl⟩, fun p o e1 e2 => ⟨e2, reTag_none e1, fun z => z⟩⟩, ⟨s.fa, fun p l e => ?_, fun p l e => ?_, ?_, by simpa using s.ln, fun j u ej => ?_, s.pn⟩, r.keep (.refl F) (fun p l e => ⟨reTag_t e, rfl⟩) _ _ _⟩
  · obtain ⟨l', e'⟩ := reTag_dom e
    exact s.gf p _ e'
  · obtain ⟨l', e'⟩ := reTag_dom e
    exact s.ga p _ e'
  · obtain ⟨m, hm⟩ := s.tb
    refine ⟨m, fun p k l e => ?_⟩
    rcases reTag_some e with ⟨_, z⟩ | ⟨z, _⟩
    · cases z
    · exact hm p k l z
  · by_cases hij : i = j
    · subst hij
      by_cases hl : i < ρ.length
      · rw [List.getElem?_set_self hl] at ej; cases ej
      · rw [List.getElem?_eq_none (by simpa using hl)] at ej; cases ej
    · rw [List.getElem?_set_ne hij] at ej
      obtain ⟨w2, e2, r2⟩ := s.sl j u ej
      exact ⟨w2, e2, r2.keep (.refl F) (fun p l e => ⟨reTag_ne e (by intro z; cases z; exact hij rfl), rfl⟩) _ _ _⟩
/-- what is stored or handed back: a tree of its own stays one -/
def treeK (Q : O → Env → Nat → Prop) : QD := fun s ρ n => match s with
  | .dat d => Q (.leaf d) ρ n
  | .new o => Q o ρ n
  | .own i π _ => ∃ o o1, ρ[i]? = some (some o) ∧ look o π = some o1 ∧ Q (.leaf (frz o1)) (ρ.set i (some (setO o π (.leaf (frz o1))))) n
theorem up_tree {t : TEd} {ω : Sw} {A : AH} {Q : VKw} {F : Fz} {g : Gh} {n : Nat} {ρ : Env} {Xd : XD} {Qd : O → Env → Nat → Prop} (hc : F.cl = cl) (sm : Sm F g n ρ ω A) (nr : NoRes g) (x : XOk F g A (atS ω Ew) Xd) (h : t ρ n (treeK Qd) Xd)
    (k : ∀ F' g' n' ρ' A' o w, F'.cl = cl → Grow F g A F' g' A' → Sm F' g' n' ρ' ω A' → XOk F' g' A' (atS ω Ew) Xd → RO F' A'.h g' .res [] o w → ((∃ d, o = .leaf d) → NoRes g') → Qd o ρ' n' → Q w A') : upE Ew cl t ω A Q :=
  up_s hc sm nr x h fun F' g' n' ρ' A' s w hc' G sm' x' r q => by
    cases s with
    | dat d => exact k _ _ _ _ _ (.leaf d) _ hc' G sm' x' (by simp only [RO]; exact r.2) (fun _ => r.1) q
    | own i π x =>
      obtain ⟨o, o1, e, l, q⟩ := q
      obtain ⟨F2, g2, G2, sm2, nr2, r2⟩ := sm'.frzOwn r.1 e l r.2.1
      exact k _ _ _ _ _ (.leaf (frz o1)) _ (G2.le.cl.trans hc') (G.trans G2) sm2 (x'.grow G2) (by simp only [RO]; exact r2) (fun _ => nr2) q
    | new o =>
      cases o with
      | leaf d =>
        obtain ⟨F2, g2, G2, sm2, nr2, r2⟩ := sm'.frzRes r
        exact k _ _ _ _ _ (.leaf d) _ (G2.le.cl.trans hc') (G.trans G2) sm2 (x'.grow G2) (by simp only [RO]; exact r2) (fun _ => nr2) q
      | lst x ds => exact k _ _ _ _ _ _ _ hc' G sm' x' r (fun ⟨d, z⟩ => by cases z) q
      | dic x ks vs => exact k _ _ _ _ _ _ _ hc' G sm' x' r (fun ⟨d, z⟩ => by cases z) q
      | obj x C fs os => exact k _ _ _ _ _ _ _ hc' G sm' x' r (fun ⟨d, z⟩ => by cases z) q
/-- .. a slot's own tree is moved out -/
def retK (Q : O → Env → Nat → Prop) : QD := fun s ρ n => match s with
  | .own i [] _ => ∃ o, ρ[i]? = some (some o) ∧ Q o (ρ.set i none) n
  | s => treeK Q s ρ n
def dRet (te : TEd) : TSd := fun D ρ n => te ρ n (retK D.rt) D.ex
theorem ds_ret (he : DE X Ew cl e te) : DS X Ew cl (.Return (some e) pos) (dRet te) := WS.imp (ws_ret he) fun D ω A ⟨F, g, n, ρ, D', hc, sm, nr, h, e⟩ =>
  up_s hc sm nr e.ex.at h fun F1 g1 n1 ρ1 A1 s1 w1 hc1 G1 sm1 x1 r1 q => by
    cases s1 with
    | dat d => exact e.rt _ _ _ _ _ _ (.leaf d) _ G1 sm1 (by simp only [RO]; exact r1.2) q
    | new o => exact e.rt _ _ _ _ _ _ o _ G1 sm1 r1 q
    | own i π x =>
      cases π with
      | nil =>
        obtain ⟨o, eo, q⟩ := q
        obtain ⟨nr1, ⟨w0, e0, pw⟩, _⟩ := r1
        have pw' : w1 = w0 := pw
        subst pw'
        obtain ⟨g2, G2, sm2, r2⟩ := sm1.take nr1 eo e0
        exact e.rt _ _ _ _ _ _ o _ (G1.trans G2) sm2 r2 q
      | cons f π =>
        obtain ⟨o, o1, eo, l, q⟩ := q
        obtain ⟨F2, g2, G2, sm2, nr2, r2⟩ := sm1.frzOwn r1.1 eo l r1.2.1
        exact e.rt _ _ _ _ _ _ (.leaf (frz o1)) _ (G1.trans G2) sm2 (by simp only [RO]; exact r2) q
def dRetN : TSd := fun D ρ n => D.rt (.leaf .non) ρ n
theorem ds_retN : DS X Ew cl (.Return none pos) dRetN := WS.imp ws_retN fun D ω A ⟨F, g, n, ρ, D', hc, sm, nr, h, e⟩ => e.rt _ _ _ _ ω _ (.leaf .non) _ (.refl F g A) sm (by simp only [RO, RD]) h
def dIfS (c : TTd) (t u : TSd) : TSd := fun D ρ n => c ρ n (fun b ρ1 n1 => if b = true then t D ρ1 n1 else u D ρ1 n1) D.ex
theorem ds_if {c : Expr} {a b : List Stmt} (hcd : DT X Ew cl c tt) (ha : DSs X Ew cl a t) (hb : DSs X Ew cl b u) : DS X Ew cl (.If c a b pos) (dIfS tt t u) := WS.imp (ws_if hcd ha hb) fun D ω A ⟨F, g, n, ρ, D', hc, sm, nr, h, e⟩ =>
  up_t hc sm nr e.ex.at h fun F1 g1 n1 ρ1 A1 b hc1 G1 sm1 nr1 x1 q => by
    cases b with
    | true => exact upS_i hc1 sm1 nr1 q (e.grow G1)
    | false => exact upS_i hc1 sm1 nr1 q (e.grow G1)
/-- x = e -/
def dSet (i : Nat) (te : TEd) : TSd := fun D ρ n => te ρ n (treeK fun o ρ' n' => D.nx (ρ'.set i (some o)) n') D.ex
theorem dSet_lo {i : Nat} {D : Dw} {ω : Sw} {A : AH} (h : upS Ew cl (dSet i te) D ω A) : wAsg (upE Ew cl te) (wgName i) D ω A := by
  obtain ⟨F, g, n, ρ, D', hc, sm, nr, h, e⟩ := h
  refine up_tree hc sm nr e.ex.at h fun F1 g1 n1 ρ1 A1 o w hc1 G1 sm1 x1 r1 _ q => ?_
  obtain ⟨g2, G2, sm2, nr2⟩ := sm1.setNew (i := i) r1
  exact e.nx _ _ _ _ _ _ (G1.trans G2) sm2 nr2 q
theorem ds_set {i : Nat} {x : Str} {pos' : Pos} (hN : X.N.Nodup) (hi : X.N[i]? = some x) (hx : Loc X.env.scope x) (he : DE X Ew cl e te) (hs : swapsWith e (some (.Name x pos')) pos.line X.env = pure false := by rfl) (hf : X.fn x = true ∨ X.env.scope.names.lookup x = some .local := by first | exact .inl rfl | exact .inr rfl | assumption) :
    DS X Ew cl (.Assign [.Name x pos'] e pos) (dSet i te) := WS.imp (ws_set hN hi hx he hs hf) fun D ω A h => dSet_lo h
/-- a, b = e -/
def dAsg (te : TEd) (g : TGd) : TSd := fun D ρ n => te ρ n (datK fun d ρ' n' => g d ρ' fun ρ2 => D.nx ρ2 n') D.ex
theorem ds_asg {vs : List Nat} {gw : TGw} {gd : TGd} (he : DE X Ew cl e te) (hg : WG X tg gw) (hgd : GdW vs gw gd) (hs : swapsWithSole [tg] e pos.line X.env = pure false := by rfl) (hw : swappedStores [tg] e X.env = pure none := by rfl)
    (h1 : (assignEach [tg] X.env).map (·.2) = [assign tg X.env] := by rfl) : DS X Ew cl (.Assign [tg] e pos) (dAsg te gd) := WS.imp (ws_asg he hg hs hw h1) fun D ω A ⟨F, g, n, ρ, D', hc, sm, nr, h, e⟩ =>
  up_dat hc sm nr e.ex.at h fun F1 g1 n1 ρ1 A1 d w hc1 G1 sm1 nr1 x1 r1 q => hgd _ _ _ _ _ _ _ _ _ _ sm1 nr1 r1 q fun g2 ρ2 ω2 G2 sm2 nr2 _ _ q => e.nx _ _ _ _ _ _ (G1.trans G2) sm2 nr2 q
end

/-! ### what is walked -/
abbrev TId := Env → Nat → (List D → Env → Nat → Prop) → XD → Prop
def upI (Ew : XSw) (cl : Cl) (t : TId) : TIw := fun ω A R => ∃ F g n ρ Qd Xd, F.cl = cl ∧ Sm F g n ρ ω A ∧ NoRes g ∧ t ρ n Qd Xd ∧ XOk F g A (atS ω Ew) Xd ∧
  ∀ F' g' n' ρ' A' ds ws gd, Grow F g A F' g' A' → Sm F' g' n' ρ' ω A' → NoRes g' → RDs F' ds ws → (∀ (F'' : Fz) (A'' : AH), F'.le F'' → (∀ p o, F''.h p = some o → A''.h p = some o) → gd A'') → Qd ds ρ' n' → R ws gd A'
abbrev DI (X : Cx) (Ew : XSw) (cl : Cl) (tg iter : Expr) (t : TId) : Prop := WI X tg iter (upI Ew cl t)
section
variable {X : Cx} {tg iter : Expr} {t t' : TIw}
theorem WI.imp (h : WI X tg iter t) (c : ∀ ω A R, t' ω A R → t ω A R) : WI X tg iter t' := ⟨PI.imp h.pi fun σ H R ⟨ω, A, R', sm, ra, h, k⟩ => ⟨ω, A, R', sm, ra, c _ _ _ h, k⟩⟩
end
/-- the items of data -/
def itemsD : D → Option (List D)
  | .tup ds => some ds
  | .lst ds => some ds
  | .str z => some (z.cps.toList.map fun c => .str ⟨#[c]⟩)
  | _ => none
def dIt (te : TEd) : TId := fun ρ n Q X => te ρ n (datK fun d ρ' n' => match itemsD d with
  | some ds => Q ds ρ' n'
  | none => False) X
theorem rds_signs {F : Fz} {z : Str} : RDs F (z.cps.toList.map fun c => D.str ⟨#[c]⟩) (signs z) := by
  unfold signs
  induction z.cps.toList with
  | nil => exact .nil
  | cons c r ih => exact .cons (by simp only [RD]) ih
section
variable {X : Cx} {Ew : XSw} {cl : Cl} {pos : Pos} {tg l iter : Expr} {te : TEd} {body : List Stmt} {ti : TId} {tb : TSd} {tA : TAd}
theorem di_it (hl : DE X Ew cl l te) : DI X Ew cl tg l (dIt te) := WI.imp (wi_it hl) fun ω A R ⟨F, g, n, ρ, Qd, Xd, hc, sm, nr, h, x, k⟩ =>
  up_dat hc sm nr x h fun F1 g1 n1 ρ1 A1 d w hc1 G1 sm1 nr1 x1 r1 q => by
    cases d with
    | tup ds =>
      simp only [RD] at r1
      obtain ⟨ws, e | e, r⟩ := r1
      · subst e; exact k _ _ _ _ _ _ _ _ G1 sm1 nr1 r (fun _ _ _ _ => trivial) q
      · subst e; exact k _ _ _ _ _ _ _ _ G1 sm1 nr1 r (fun _ _ _ _ => trivial) q
    | lst ds =>
      simp only [RD] at r1
      obtain ⟨p, ws, rfl, e, r⟩ := r1
      exact ⟨ws, .inl (sm1.fa _ _ e), k _ _ _ _ _ _ _ _ G1 sm1 nr1 r (fun F2 A2 l fa => .inl (fa _ _ (l.h _ _ e))) q⟩
    | str z =>
      simp only [RD] at r1
      subst r1
      exact k _ _ _ _ _ _ _ _ G1 sm1 nr1 rds_signs (fun _ _ _ _ => trivial) q
    | non => exact False.elim q
    | bl _ => exact False.elim q
    | int _ => exact False.elim q
    | dic _ _ => exact False.elim q
    | obj _ _ _ => exact False.elim q
    | ty _ => exact False.elim q
    | glb _ => exact False.elim q
    | pen => exact False.elim q
    | scr => exact False.elim q
    | ref _ => exact False.elim q
    | exc _ _ _ _ _ => exact False.elim q
def dints (lo : Int) (n : Nat) : List D := (List.range n).map fun i => .int (lo + (i : Nat))
theorem rds_map {α : Type} {F : Fz} {f : α → D} {f' : α → W} (h : ∀ a, RD F (f a) (f' a)) : ∀ {l : List α}, RDs F (l.map f) (l.map f')
  | [] => .nil
  | a :: l => .cons (h a) (rds_map h)
def dRng1 (ta : TAd) : TId := fun ρ n Q X => ta ρ n (fun ds ρ1 n1 => match ds with
  | [.int j] => -(2 ^ 62) ≤ j ∧ j < 2 ^ 62 ∧ Q (dints 0 j.toNat) ρ1 n1
  | _ => False) X
def dRng2 (ta : TAd) : TId := fun ρ n Q X => ta ρ n (fun ds ρ1 n1 => match ds with
  | [.int i, .int j] => (-(2 ^ 62) ≤ i ∧ i < 2 ^ 62 ∧ -(2 ^ 62) ≤ j ∧ j < 2 ^ 62) ∧ Q (dints i (j - i).toNat) ρ1 n1
  | _ => False) X
variable {a b : Expr} {p : Pos}
theorem di_range1 (hg : Gl X "range") (hm : X.mg "range" = none) (ha : DA X Ew cl [a] tA) (hs : starEach [a] X.env = [(false, eval a X.env)] := by rfl) : DI X Ew cl tg (.Call (.Name "range" p) [a] [] pos) (dRng1 tA) :=
  WI.imp (wi_range1 hg hm ha hs) fun ω A R ⟨F, g, n, ρ, Qd, Xd, hc, sm, nr, h, x, k⟩ => up_a hc sm nr x h fun F1 g1 n1 ρ1 A1 ds ws hc1 G1 sm1 nr1 x1 r1 q => by
    split at q
    · rename_i j
      obtain ⟨w, u, rfl, r, r2⟩ := r1.uncons
      obtain rfl := r2.unnil
      simp only [RD] at r
      subst r
      obtain ⟨q1, q2, q⟩ := q
      exact ⟨j, rfl, q1, q2, k _ _ _ _ _ _ _ _ G1 sm1 nr1 (rds_map fun i => by simp only [RD]) (fun _ _ _ _ => trivial) q⟩
    · exact q.elim
theorem di_range2 (hg : Gl X "range") (hm : X.mg "range" = none) (ha : DA X Ew cl [a, b] tA) (hs : starEach [a, b] X.env = [(false, eval a X.env), (false, eval b X.env)] := by rfl) (hs2 : starEach [b] X.env = [(false, eval b X.env)] := by rfl) :
    DI X Ew cl tg (.Call (.Name "range" p) [a, b] [] pos) (dRng2 tA) :=
  WI.imp (wi_range2 hg hm ha hs hs2) fun ω A R ⟨F, g, n, ρ, Qd, Xd, hc, sm, nr, h, x, k⟩ => up_a hc sm nr x h fun F1 g1 n1 ρ1 A1 ds ws hc1 G1 sm1 nr1 x1 r1 q => by
    split at q
    · rename_i i j
      obtain ⟨w, u, rfl, r, r2⟩ := r1.uncons
      obtain ⟨w2, u2, rfl, r3, r2⟩ := r2.uncons
      obtain rfl := r2.unnil
      simp only [RD] at r r3
      subst r r3
      obtain ⟨q1, q⟩ := q
      exact ⟨i, j, rfl, q1, k _ _ _ _ _ _ _ _ G1 sm1 nr1 (rds_map fun i => by simp only [RD]) (fun _ _ _ _ => trivial) q⟩
    · exact q.elim
/-! ### for -/
def dLoop (g : TGd) (tb : TSd) (D : Dd) : List Dx.D → Env → Nat → Prop
  | [], ρ, n => D.nx ρ n
  | d :: ds, ρ, n => g d ρ fun ρ2 => tb { D with nx := dLoop g tb D ds, ct := dLoop g tb D ds } ρ2 n
def dFor (ti : TId) (g : TGd) (tb : TSd) : TSd := fun D ρ n => ti ρ n (fun ds ρ1 n1 => dLoop g tb { D with bk := D.nx, ct := D.nx } ds ρ1 n1) D.ex
theorem ds_for {vs : List Nat} {gw : TGw} {gd : TGd} (hp : PassesOwn (model X.prog X.w) X.A X.env X.xe) (hca : X.calm = true) (hi : DI X Ew cl tg iter ti) (hg : WG X tg gw) (hgd : GdW vs gw gd) (hb : DSs X Ew cl body tb) (hs : ∀ x, foldedSetIterable iter X.env x = pure x := by intro _; rfl) :
    DS X Ew cl (.For tg iter body [] pos) (dFor ti gd tb) := WS.imp (ws_for hp hca hi hg hb hs) fun D ω A ⟨F, g, n, ρ, D', hc, sm, nr, h, e⟩ => by
  refine ⟨F, g, n, ρ, _, D'.ex, hc, sm, nr, h, e.ex.at, fun F1 g1 n1 ρ1 A1 ds ws gd1 G1 sm1 nr1 r1 hgd1 q => ?_⟩
  have key : ∀ (ds : List Dx.D) (ws : List W) F2 g2 n2 ρ2 ω2 A2, RDs F2 ds ws → Grow F1 g1 A1 F2 g2 A2 → Sm F2 g2 n2 ρ2 ω2 A2 → NoRes g2 → dLoop gd tb { D' with bk := D'.nx, ct := D'.nx } ds ρ2 n2 → wLoop gw (upS Ew cl tb) { D with bk := D.nx, ct := D.nx } gd1 ws ω2 A2 := by
    intro ds
    induction ds with
    | nil =>
      intro ws F2 g2 n2 ρ2 ω2 A2 r G sm2 nr2 q
      obtain rfl := r.unnil
      exact ⟨hgd1 F2 A2 G.le sm2.fa, e.nx _ _ _ _ _ _ (G1.trans G) sm2 nr2 q⟩
    | cons d ds ih =>
      intro ws F2 g2 n2 ρ2 ω2 A2 r G sm2 nr2 q
      obtain ⟨w, u, rfl, rd, r⟩ := r.uncons
      refine ⟨hgd1 F2 A2 G.le sm2.fa, ?_⟩
      refine hgd F2 g2 n2 ρ2 ω2 A2 d w _ _ sm2 nr2 rd q fun g3 ρ3 ω3 G3 sm3 nr3 _ _ q => ?_
      have eg := e.grow (G1.trans (G.trans G3))
      refine upS_i ((G1.trans G).le.cl.trans hc) sm3 nr3 q ⟨fun F4 g4 n4 ρ4 ω4 A4 G4 sm4 nr4 q4 => ?_, fun F4 g4 n4 ρ4 ω4 A4 G4 sm4 nr4 q4 => eg.nx _ _ _ _ _ _ G4 sm4 nr4 q4, fun F4 g4 n4 ρ4 ω4 A4 G4 sm4 nr4 q4 => ?_, eg.rt, eg.ex⟩
      · exact ih u F4 g4 n4 ρ4 ω4 A4 (RDs.mono G4.le _ _ r) ((G.trans G3).trans G4) sm4 nr4 q4
      · exact ih u F4 g4 n4 ρ4 ω4 A4 (RDs.mono G4.le _ _ r) ((G.trans G3).trans G4) sm4 nr4 q4
  exact key ds ws F1 g1 n1 ρ1 ω A1 r1 (.refl F1 g1 A1) sm1 nr1 q
/-! while -/
def dWhile (c : TTd) (tb : TSd) : TSd := fun D ρ n => ∃ W : Nat → Env → Nat → Prop, (∃ m, W m ρ n) ∧ ∀ m ρ n, W m ρ n →
  c ρ n (fun b ρ1 n1 => if b = true then tb { D with nx := fun ρ' n' => ∃ m', m' < m ∧ W m' ρ' n', ct := fun ρ' n' => ∃ m', m' < m ∧ W m' ρ' n', bk := D.nx } ρ1 n1 else D.nx ρ1 n1) D.ex
theorem ds_while {c : Expr} {tc : TTd} (hp : PassesOwn (model X.prog X.w) X.A X.env X.xe) (hcd : DT X Ew cl c tc) (hb : DSs X Ew cl body tb) : DS X Ew cl (.While c body [] pos) (dWhile tc tb) := WS.imp (ws_while hp hcd hb) fun D ω A ⟨F, g, n, ρ, D', hc, sm, nr, ⟨W, ⟨m0, w0⟩, turn⟩, e⟩ => by
  refine ⟨fun m ω' A' => ∃ F' g' n' ρ', Grow F g A F' g' A' ∧ Sm F' g' n' ρ' ω' A' ∧ NoRes g' ∧ W m ρ' n', ⟨m0, F, g, n, ρ, .refl F g A, sm, nr, w0⟩, ?_⟩
  rintro m ω' A' ⟨F', g', n', ρ', G, sm', nr', w'⟩
  have eg := e.grow G
  refine up_t (G.le.cl.trans hc) sm' nr' eg.ex.at (turn m ρ' n' w') fun F1 g1 n1 ρ1 A1 b hc1 G1 sm1 nr1 x1 q => ?_
  have eg1 := eg.grow G1
  cases b with
  | true =>
    refine upS_i hc1 sm1 nr1 q ⟨fun F4 g4 n4 ρ4 ω4 A4 G4 sm4 nr4 ⟨m', hm, q4⟩ => ⟨m', hm, F4, g4, n4, ρ4, (G.trans G1).trans G4, sm4, nr4, q4⟩, eg1.nx, fun F4 g4 n4 ρ4 ω4 A4 G4 sm4 nr4 ⟨m', hm, q4⟩ => ⟨m', hm, F4, g4, n4, ρ4, (G.trans G1).trans G4, sm4, nr4, q4⟩, eg1.rt, eg1.ex⟩
  | false => exact eg1.nx _ _ _ _ _ _ (.refl _ _ _) sm1 nr1 q
end
end Dx

set_option Elab.async false
set_option linter.all false
set_option maxRecDepth 100000
set_option maxHeartbeats 4000000
/-! DX5: comprehensions, defs and calls. -/
namespace Dx
open PySem L2 Wx
/-! ### comprehensions -/
def wipeD (ρ : Env) : List Nat → Env
  | [] => ρ
  | v :: vs => (wipeD ρ vs).set v none
/-- what stood in the slots before, as far as it is data -/
def backD (ρ0 : Env) (ρ : Env) : List Nat → Env
  | [] => ρ
  | v :: vs => (backD ρ0 ρ vs).set v (match ρ0[v]? with
    | some (some (.leaf d)) => some (.leaf d)
    | _ => none)
section
variable {F F' : Fz} {g g' : Gh} {n n' : Nat} {ρ ρ' : Env} {ω ω' : Sw} {A A' : AH}
theorem wipeD_len : ∀ {vs : List Nat}, (wipeD ρ vs).length = ρ.length
  | [] => rfl
  | v :: vs => by unfold wipeD; rw [List.length_set, wipeD_len]
theorem wipeW_len : ∀ {vs : List Nat}, (wipeW ω vs).length = ω.length
  | [] => rfl
  | v :: vs => by unfold wipeW; rw [List.length_set, wipeW_len]
theorem wipeD_get : ∀ {vs : List Nat} {i : Nat} {o : O}, (wipeD ρ vs)[i]? = some (some o) → i ∉ vs ∧ ρ[i]? = some (some o)
  | [], i, o, h => ⟨by simp, h⟩
  | v :: vs, i, o, h => by
    unfold wipeD at h
    by_cases e : v = i
    · subst e
      by_cases hl : v < (wipeD ρ vs).length
      · rw [List.getElem?_set_self hl] at h; cases h
      · rw [List.getElem?_eq_none (by simpa using hl)] at h; cases h
    · rw [List.getElem?_set_ne e] at h
      obtain ⟨a, b⟩ := wipeD_get h
      exact ⟨by simp only [List.mem_cons, not_or]; exact ⟨fun z => e z.symm, a⟩, b⟩
theorem wipeW_ne : ∀ {vs : List Nat} {i : Nat}, i ∉ vs → (wipeW ω vs)[i]? = ω[i]?
  | [], i, h => rfl
  | v :: vs, i, h => by
    unfold wipeW
    simp only [List.mem_cons, not_or] at h
    rw [List.getElem?_set_ne (fun z => h.1 z.symm), wipeW_ne h.2]
/-- the slots vs are forgotten; the others stand above as below -/
theorem Sm.wipe (s : Sm F g n ρ ω A) (vs : List Nat) (hl : ω'.length = ω.length) (hw : ∀ i, i ∉ vs → ω'[i]? = ω[i]?) : Sm F g n (wipeD ρ vs) ω' A := ⟨s.fa, s.gf, s.ga, s.tb, by rw [wipeD_len, s.ln, hl], fun i o e => by
  obtain ⟨n1, e1⟩ := wipeD_get e
  obtain ⟨w, e2, r⟩ := s.sl i o e1
  exact ⟨w, (hw i n1).trans e2, r⟩, s.pn⟩
theorem backD_len {ρ0 : Env} : ∀ {vs : List Nat}, (backD ρ0 ρ vs).length = ρ.length
  | [] => rfl
  | v :: vs => by unfold backD; rw [List.length_set, backD_len]
theorem backD_get {ρ0 : Env} : ∀ {vs : List Nat} {i : Nat} {o : O}, (backD ρ0 ρ vs)[i]? = some (some o) → ρ[i]? = some (some o) ∨ ∃ d, o = .leaf d ∧ ρ0[i]? = some (some (.leaf d))
  | [], i, o, h => .inl h
  | v :: vs, i, o, h => by
    unfold backD at h
    by_cases e : v = i
    · subst e
      by_cases hl : v < (backD ρ0 ρ vs).length
      · rw [List.getElem?_set_self hl] at h
        split at h
        · rename_i d e'
          cases h
          exact .inr ⟨d, rfl, e'⟩
        · cases h
      · rw [List.getElem?_eq_none (by simpa using hl)] at h; cases h
    · rw [List.getElem?_set_ne e] at h
      exact backD_get h
theorem backD_ne {ρ0 : Env} : ∀ {vs : List Nat} {i : Nat}, i ∉ vs → (backD ρ0 ρ vs)[i]? = ρ[i]?
  | [], i, h => rfl
  | v :: vs, i, h => by
    unfold backD
    simp only [List.mem_cons, not_or] at h
    rw [List.getElem?_set_ne (fun z => h.1 z.symm), backD_ne h.2]
theorem backD_mem {ρ0 : Env} : ∀ {vs : List Nat} {i : Nat} {o : O}, i ∈ vs → (backD ρ0 ρ vs)[i]? = some (some o) → ∃ d, o = .leaf d ∧ ρ0[i]? = some (some (.leaf d))
  | [], i, o, h, _ => nomatch h
  | v :: vs, i, o, hm, h => by
    unfold backD at h
    by_cases e : v = i
    · subst e
      by_cases hl : v < (backD ρ0 ρ vs).length
      · rw [List.getElem?_set_self hl] at h
        split at h
        · rename_i d e'
          cases h
          exact ⟨d, rfl, e'⟩
        · cases h
      · rw [List.getElem?_eq_none (by simpa using hl)] at h; cases h
    · rw [List.getElem?_set_ne e] at h
      rcases List.mem_cons.mp hm with z | z
      · exact absurd z.symm e
      · exact backD_mem z h
theorem Sm.back {ρ0 : Env} {F0 : Fz} {g0 : Gh} {n0 : Nat} {A0 : AH} (s : Sm F g n ρ ω A) (s0 : Sm F0 g0 n0 ρ0 ω A0) (le : F0.le F) (vs : List Nat) : Sm F g n (backD ρ0 ρ vs) ω A := ⟨s.fa, s.gf, s.ga, s.tb, by rw [backD_len, s.ln], fun i o e => by
  rcases backD_get e with e1 | ⟨d, rfl, e1⟩
  · exact s.sl i o e1
  · obtain ⟨w, e2, r⟩ := s0.sl i _ e1
    simp only [RO] at r
    exact ⟨w, e2, by simp only [RO]; exact RD.mono le _ _ r⟩, s.pn⟩
end
/-- tests of a comprehension -/
def dYes : TTd := fun ρ n Q _ => Q true ρ n
def upTs (Ew : XSw) (cl : Cl) (t : TTd) : TTw := upT Ew cl t
section
variable {X : Cx} {e : Expr} {Ew : XSw} {cl : Cl} {tt : TTd} {t t' : TTw} {ifs : List Expr}
theorem WTs.imp (h : WTs X ifs t) (c : ∀ ω A Q, t' ω A Q → t ω A Q) : WTs X ifs t' := ⟨PTs.imp h.pts fun σ H Q ⟨ω, A, Q', sm, ra, h, k⟩ => ⟨ω, A, Q', sm, ra, c _ _ _ h, k⟩⟩
theorem dts_nil : WTs X [] (upT Ew cl dYes) := WTs.imp wts_nil fun ω A Q ⟨F, g, n, ρ, Qd, Xd, hc, sm, nr, h, x, k⟩ => k _ _ _ _ _ _ (.refl F g A) sm nr h
theorem dts_one (h : DT X Ew cl e tt) : WTs X [e] (upT Ew cl tt) := wts_one h
end
def dlcLoop (gd : TGd) (tt : TTd) (te : TEd) (vs : List Nat) (Q : List D → Env → Nat → Prop) : List D → List D → Env → Nat → Prop
  | [], acc, ρ, n => Q acc ρ n
  | d :: ds, acc, ρ, n => gd d ρ fun ρ2 => tt ρ2 n (fun b ρ3 n3 => if b = true then te ρ3 n3 (datK fun y ρ4 n4 => acc.length < sizeLine ∧ dlcLoop gd tt te vs Q ds (acc ++ [y]) (wipeD ρ4 vs) n4) X0d else dlcLoop gd tt te vs Q ds acc (wipeD ρ3 vs) n3) X0d
def dLc (ti : TId) (gd : TGd) (tt : TTd) (te : TEd) (vs : List Nat) : TEd := fun ρ n Q X => ti ρ n (fun ds ρ1 n1 => dlcLoop gd tt te vs (fun acc ρ2 n2 => Q (.new (.lst none acc)) (backD ρ1 ρ2 vs) n2) ds [] (wipeD ρ1 vs) n1) X
section
variable {F : Fz} {g : Gh} {n : Nat} {ρ : Env} {ω : Sw} {A : AH}
/-- the new tree is laid aside -/
theorem Sm.aside (s : Sm F g n ρ ω A) {o : O} {w : W} (r : RO F A.h g .res [] o w) : ∃ k g', (∀ p l, g p ≠ some (.tmp k, l)) ∧ Grow F g A F g' A ∧ Sm F g' n ρ ω A ∧ NoRes g' ∧ RO F A.h g' (.tmp k) [] o w := by
  obtain ⟨m, hm⟩ := s.tb
  refine ⟨m, reTag g .res (.tmp m), fun p l e => by have := hm p m l e; omega, ⟨.refl F, fun k p l e => ⟨reTag_ne e (by intro z; cases z), rfl⟩, fun p o e1 e2 => ⟨e2, reTag_none e1, fun z => z⟩⟩, ⟨s.fa, fun p l e => ?_, fun p l e => ?_, ⟨m + 1, fun p k l e => ?_⟩, s.ln, fun j u ej => ?_, s.pn⟩, fun p l e => ?_, r.keep (.refl F) (fun p l e => ⟨reTag_t e, rfl⟩) _ _ _⟩
  · obtain ⟨l', e'⟩ := reTag_dom e
    exact s.gf p _ e'
  · obtain ⟨l', e'⟩ := reTag_dom e
    exact s.ga p _ e'
  · rcases reTag_some e with ⟨_, z⟩ | ⟨z, _⟩
    · cases z; omega
    · have := hm p k l z; omega
  · obtain ⟨w2, e2, r2⟩ := s.sl j u ej
    exact ⟨w2, e2, r2.keep (.refl F) (fun p l e => ⟨reTag_ne e (by intro z; cases z), rfl⟩) _ _ _⟩
  · rcases reTag_some e with ⟨_, z⟩ | ⟨_, z⟩
    · cases z
    · exact z rfl
/-- what was laid aside is taken up -/
theorem Sm.up (s : Sm F g n ρ ω A) (nr : NoRes g) {k : Nat} {o : O} {w : W} (r : RO F A.h g (.tmp k) [] o w) : ∃ g', Sm F g' n ρ ω A ∧ RO F A.h g' .res [] o w ∧ (∀ k', k' ≠ k → Keep A.h A.h g g' (.tmp k') (.tmp k')) ∧ ∀ {F0 : Fz} {g0 : Gh} {A0 : AH}, (∀ p l, g0 p ≠ some (.tmp k, l)) → Grow F0 g0 A0 F g A → Grow F0 g0 A0 F g' A := by
  refine ⟨reTag g (.tmp k) .res, ⟨s.fa, fun p l e => ?_, fun p l e => ?_, ?_, s.ln, fun j u ej => ?_, s.pn⟩, r.keep (.refl F) (fun p l e => ⟨reTag_t e, rfl⟩) _ _ _, fun k' n p l e => ⟨reTag_ne e (by intro z; cases z; exact n rfl), rfl⟩, fun h0 G => ⟨G.le, fun k' p l e => ?_, fun p o e1 e2 => ?_⟩⟩
  · obtain ⟨l', e'⟩ := reTag_dom e
    exact s.gf p _ e'
  · obtain ⟨l', e'⟩ := reTag_dom e
    exact s.ga p _ e'
  · obtain ⟨m, hm⟩ := s.tb
    refine ⟨m, fun p k l e => ?_⟩
    rcases reTag_some e with ⟨_, z⟩ | ⟨z, _⟩
    · cases z
    · exact hm p k l z
  · obtain ⟨w2, e2, r2⟩ := s.sl j u ej
    exact ⟨w2, e2, r2.keep (.refl F) (fun p l e => ⟨reTag_ne e (by intro z; cases z), rfl⟩) _ _ _⟩
  · have ne : k' ≠ k := fun z => h0 p l (z ▸ e)
    obtain ⟨e3, e4⟩ := G.kp k' p l e
    exact ⟨reTag_ne e3 (by intro z; cases z; exact ne rfl), e4⟩
  · obtain ⟨x1, x2, x3⟩ := G.fr p o e1 e2
    exact ⟨x1, reTag_none x2, x3⟩
/-- a list of a tree laid aside is written -/
theorem Sm.putTmp (s : Sm F g n ρ ω A) {k : Nat} {p : Addr} {wo : WO} (e : g p = some (.tmp k, [])) : Sm F g n ρ ω (A.put p wo) := ⟨fun q o h => by
  rw [AH.put_ne (fun z => by subst z; rw [s.gf _ _ e] at h; cases h)]
  exact s.fa q o h, s.gf, fun q l h => by
  by_cases z : q = p
  · subst z; exact ⟨_, AH.put_same⟩
  · rw [AH.put_ne z]; exact s.ga q l h, s.tb, s.ln, fun i o h => by
  obtain ⟨w, e1, r⟩ := s.sl i o h
  exact ⟨w, e1, r.keep (.refl F) (fun q l e' => ⟨e', AH.put_ne fun z => by subst z; rw [e] at e'; cases e'⟩) _ _ _⟩, s.pn⟩
end
section
variable {X : Cx} {elt tg iter : Expr} {ifs : List Expr} {scope : Scope} {own : List (Str × Nat)} {pos : Pos} {ti : TId} {gw : TGw} {gd : TGd} {tt : TTd} {te : TEd} {Ew : XSw} {cl : Cl} {ω : Sw} {A : AH} {Q : VKw} {vs : List Nat}
theorem dlc_lo (hgd : GdW vs gw gd) (h : upE Ew cl (dLc ti gd tt te vs) ω A Q) : wLc (upI Ew cl ti) gw (upT X0w cl tt) (upE X0w cl te) vs ω A Q := by
  obtain ⟨F, g, n, ρ, Qd, Xd, hc, sm, nr, h, x, k⟩ := h
  refine ⟨F, g, n, ρ, _, Xd, hc, sm, nr, h, x, fun F1 g1 n1 ρ1 A1 ds ws gd1 G1 sm1 nr1 r1 hgd1 q => fun p hp => ?_⟩
  have hc1 := G1.le.cl.trans hc
  obtain ⟨g2, G2, sm2, r2⟩ := sm1.newLst nr1 hp (ds := []) (ws := []) .nil
  obtain ⟨kt, g3, fresh, G3, sm3, nr3, r3⟩ := sm2.aside r2
  have G13 := G2.trans G3
  have f0 : ∀ q l, g1 q ≠ some (.tmp kt, l) := fun q l e => by
    obtain ⟨e', _⟩ := G2.kp kt q l e
    exact fresh q l e'
  have smw : Sm F1 g3 n1 (wipeD ρ1 vs) (wipeW ω vs) (A1.put p (.lst [])) := sm3.wipe vs wipeW_len fun i hi => wipeW_ne hi
  have key : ∀ (ds : List D) (ws : List W) (acc : List D) (F4 : Fz) (g4 : Gh) (n4 : Nat) (ρ4 : Env) (A4 : AH) (aw : List W), RDs F4 ds ws → Grow F1 g1 A1 F4 g4 A4 → Sm F4 g4 n4 ρ4 (wipeW ω vs) A4 → NoRes g4 → g4 p = some (.tmp kt, []) → A4.h p = some (.lst aw) → RDs F4 acc aw →
      dlcLoop gd tt te vs (fun acc ρ2 n2 => Qd (.new (.lst none acc)) (backD ρ1 ρ2 vs) n2) ds acc ρ4 n4 → lcLoop gw (upT X0w cl tt) (upE X0w cl te) (wipeW ω vs) gd1 p Q ws A4 := by
    intro ds
    induction ds with
    | nil =>
      intro ws acc F4 g4 n4 ρ4 A4 aw r G sm4 nr4 gp ap ra q
      obtain rfl := r.unnil
      refine ⟨hgd1 F4 A4 G.le sm4.fa, ?_⟩
      have sm4' : Sm F4 g4 n4 ρ4 (wipeW ω vs) A4 := sm4
      have sm5 : Sm F4 g4 n4 (wipeD ρ4 vs) ω A4 := sm4.wipe vs wipeW_len.symm fun i hi => (wipeW_ne hi).symm
      obtain ⟨g6, sm6, r6, _, G6⟩ := sm4.up nr4 (o := .lst none acc) (w := .ref p) (by simp only [RO]; exact ⟨p, aw, rfl, (fun _ z => nomatch z), gp, ap, ra⟩)
      have smE : Sm F4 g6 n4 (backD ρ1 ρ4 vs) ω A4 := ⟨sm6.fa, sm6.gf, sm6.ga, sm6.tb, by rw [backD_len, sm6.ln, wipeW_len], fun i o e => by
        by_cases hi : i ∈ vs
        · rcases backD_mem hi e with ⟨d, rfl, e1⟩
          obtain ⟨w, e2, r⟩ := sm1.sl i _ e1
          simp only [RO] at r
          exact ⟨w, e2, by simp only [RO]; exact RD.mono G.le _ _ r⟩
        · rw [backD_ne hi] at e
          obtain ⟨w, e2, r⟩ := sm6.sl i o e
          rw [wipeW_ne hi] at e2
          exact ⟨w, e2, r⟩, sm6.pn⟩
      exact k _ _ _ _ _ _ _ (G1.trans (G6 f0 G)) smE (.n r6) q
    | cons d ds ih =>
      intro ws acc F4 g4 n4 ρ4 A4 aw r G sm4 nr4 gp ap ra q
      obtain ⟨w, u, rfl, rd, r⟩ := r.uncons
      refine ⟨hgd1 F4 A4 G.le sm4.fa, ?_⟩
      refine hgd F4 g4 n4 ρ4 _ A4 d w _ _ sm4 nr4 rd q fun g5 ρ5 ω5 G5 sm5 nr5 hl5' fx q => ?_
      have hc4 : F4.cl = cl := G.le.cl.trans hc1
      have hl5 : (wipeW ω vs).length = ω5.length := hl5'.symm
      refine up_t hc4 sm5 nr5 xok0 q fun F6 g6 n6 ρ6 A6 b hc6 G6 sm6 nr6 x6 q => ?_
      obtain ⟨gp6, ap6⟩ := (G5.trans G6).kp kt p _ gp
      cases b with
      | false =>
        exact ih u acc F6 g6 n6 _ A6 aw (RDs.mono G6.le _ _ r) (G.trans (G5.trans G6)) (sm6.wipe vs hl5 fun i hi => ((fx i hi).1).symm) nr6 gp6 (ap6.trans ap) (RDs.mono G6.le _ _ ra) q
      | true =>
        refine up_dat hc6 sm6 nr6 xok0 q fun F7 g7 n7 ρ7 A7 y wy hc7 G7 sm7 nr7 x7 ry ⟨hl, q⟩ => ?_
        obtain ⟨gp7, ap7⟩ := (G5.trans (G6.trans G7)).kp kt p _ gp
        refine ⟨aw, ap7.trans ap, by rw [ra.length]; exact hl, ?_⟩
        have G47 := G5.trans (G6.trans G7)
        have sm8 := (sm7.wipe vs hl5 fun i hi => ((fx i hi).1).symm).putTmp (wo := .lst (aw ++ [wy])) gp7
        have G8 : Grow F1 g1 A1 F7 g7 (A7.put p (.lst (aw ++ [wy]))) := by
          have := G.trans G47
          exact ⟨this.le, fun k' q l e => ⟨(this.kp k' q l e).1, by rw [AH.put_ne (fun z => by subst z; obtain ⟨o', z⟩ := sm1.ga _ _ e; rw [hp] at z; cases z)]; exact (this.kp k' q l e).2⟩, fun q o e1 e2 => ⟨by rw [AH.put_ne (fun z => by subst z; rw [hp] at e2; cases e2)]; exact (this.fr q o e1 e2).1, (this.fr q o e1 e2).2⟩⟩
        exact ih u (acc ++ [y]) F7 g7 n7 _ _ _ (RDs.mono (G6.trans G7).le _ _ r) G8 sm8 nr7 gp7 AH.put_same ((RDs.mono (G6.trans G7).le _ _ ra).append (.cons ry .nil)) q
  have gp3 : g3 p = some (.tmp kt, []) := by
    simp only [RO] at r3
    obtain ⟨p', _, e, _, gp, _⟩ := r3
    cases e
    exact gp
  exact key ds ws [] F1 g3 n1 _ _ [] r1 G13 smw nr3 gp3 AH.put_same .nil q
end
section
variable {X : Cx} {elt tg iter : Expr} {ifs : List Expr} {scope : Scope} {own : List (Str × Nat)} {pos : Pos} {ti : TId} {gw : TGw} {gd : TGd} {tt : TTd} {te : TEd} {Ew : XSw} {cl : Cl}
theorem de_lc (hc : X.calm = true) (hN : X.N.Nodup) (hi : DI X Ew cl tg iter ti) (ok : BlkOk X.N X.env.scope scope own) (hgd : GdW (own.map (·.2)) gw gd)
    (hg : ∀ (s : Shared) (H : Hp) (C : Addr) (cl' : List (Str × Addr)) (fp : List Addr), WGc (X.blk s H scope (compEnvC scope cl' C X.env) fp) (own.map (·.2)) tg gw)
    (ht : ∀ (s : Shared) (H : Hp) (C : Addr) (cl' : List (Str × Addr)) (fp : List Addr), WTs (X.blk s H scope (compEnvC scope cl' C X.env) fp) ifs (upT X0w cl tt))
    (he : ∀ (s : Shared) (H : Hp) (C : Addr) (cl' : List (Str × Addr)) (fp : List Addr), DE (X.blk s H scope (compEnvC scope cl' C X.env) fp) X0w cl elt te) (hs : ∀ x, foldedSetIterable iter X.env x = pure x := by intro _; rfl) :
    DE X Ew cl (.ListComp elt [⟨tg, iter, ifs, 0⟩] scope pos) (dLc ti gd tt te (own.map (·.2))) := WE.imp (we_lc hc hN hi ok hg ht he hs) fun ω A Q h => dlc_lo hgd h
theorem ds_setLc {i : Nat} {y : Str} {py spos : Pos} (hc : X.calm = true) (hN : X.N.Nodup) (hy : X.N[i]? = some y) (hyl : X.env.scope.names.lookup y = some .local)
    (hsw : swapsWith (.ListComp elt [⟨tg, iter, ifs, 0⟩] scope pos) (some (.Name y py)) spos.line X.env = pure true) (hi : DI X Ew cl tg iter ti) (ok : BlkOk X.N X.env.scope scope own) (hgd : GdW (own.map (·.2)) gw gd)
    (hg : ∀ (s : Shared) (H : Hp) (C : Addr) (cl' : List (Str × Addr)) (fp : List Addr), WGc (X.blk s H scope (compEnvC scope cl' C X.env) fp) (own.map (·.2)) tg gw)
    (ht : ∀ (s : Shared) (H : Hp) (C : Addr) (cl' : List (Str × Addr)) (fp : List Addr), WTs (X.blk s H scope (compEnvC scope cl' C X.env) fp) ifs (upT X0w cl tt))
    (he : ∀ (s : Shared) (H : Hp) (C : Addr) (cl' : List (Str × Addr)) (fp : List Addr), DE (X.blk s H scope (compEnvC scope cl' C X.env) fp) X0w cl elt te) (hs : ∀ x, foldedSetIterable iter X.env x = pure x := by intro _; rfl) :
    DS X Ew cl (.Assign [.Name y py] (.ListComp elt [⟨tg, iter, ifs, 0⟩] scope pos) spos) (dSet i (dLc ti gd tt te (own.map (·.2)))) := WS.imp (ws_setLc hc hN hy hyl hsw hi ok hg ht he hs) fun D ω A h => dlc_lo hgd (dSet_lo h)
end

/-! ### what a def promises -/
abbrev QO := O → Nat → Prop
abbrev XO := Str → List Str → List D → Nat → Prop
abbrev SpD := List D → Nat → QO → XO → Prop
def X0o : XO := fun _ _ _ _ => False
/-- the state without slots -/
def SmA (F : Fz) (g : Gh) (n : Nat) (A : AH) : Prop := Sm F g n [] [] A
theorem Sm.smA {F : Fz} {g : Gh} {n : Nat} {ρ : Env} {ω : Sw} {A : AH} (s : Sm F g n ρ ω A) : SmA F g n A := ⟨s.fa, s.gf, s.ga, s.tb, rfl, (fun i o e => by simp at e), s.pn⟩
def g0 : Gh := fun _ => none
theorem SmA.start {F : Fz} {g : Gh} {n : Nat} {A : AH} (s : SmA F g n A) : SmA F g0 n A := ⟨s.fa, (fun _ _ e => nomatch e), (fun _ _ e => nomatch e), ⟨0, fun _ _ _ e => nomatch e⟩, rfl, (fun i o e => by simp at e), s.pn⟩
def spW (cl : Cl) (sp : SpD) : SpW := fun ws A Q E => ∃ F n ds Qd Xd, F.cl = cl ∧ SmA F g0 n A ∧ RDs F ds ws ∧ sp ds n Qd Xd ∧
  (∀ F' g' n' A' o w, Grow F g0 A F' g' A' → SmA F' g' n' A' → RO F' A'.h g' .res [] o w → Qd o n' → Q w A') ∧
  ∀ F' g' n' A' C fs ds ws, Grow F g0 A F' g' A' → SmA F' g' n' A' → RDs F' ds ws → fs.length = ds.length → Xd C fs ds n' → E (F'.cl C) (fs.zip ws) A'
def start (N : List Str) (ds : List D) : Env := ds.map (fun d => some (.leaf d)) ++ List.replicate (N.length - ds.length) none
theorem sm_start {F : Fz} {n : Nat} {A : AH} {N : List Str} {ds : List D} {ws : List W} (s : SmA F g0 n A) (r : RDs F ds ws) : Sm F g0 n (start N ds) (startW N ws) A := ⟨s.fa, s.gf, s.ga, s.tb, by unfold start startW; simp [r.length], (fun i o e => by
  unfold start at e
  unfold startW
  by_cases h : i < ds.length
  · rw [List.getElem?_append_left (by simpa using h), List.getElem?_map] at e
    cases e2 : ds[i]? with
    | none => rw [e2] at e; cases e
    | some d =>
      rw [e2] at e
      cases e
      obtain ⟨w, ew, rw'⟩ := r.get e2
      exact ⟨w, by rw [List.getElem?_append_left (by rw [List.length_map, r.length]; exact h), List.getElem?_map, ew]; rfl, by simp only [RO]; exact rw'⟩
  · rw [List.getElem?_append_right (by simpa using h)] at e
    have := List.getElem?_eq_some_iff.mp e
    obtain ⟨_, z⟩ := this
    rw [List.getElem_replicate] at z
    cases z), s.pn⟩
section
variable {P : Program} {w : World} {K : PySem.W.Frag} {mg : Str → Option Value} {base : Heap}
/-- the ends of a def's body -/
def endF (Q : QO) (X : XO) : Dd := { nx := fun _ n' => Q (.leaf .non) n', rt := fun o _ n' => Q o n', ex := fun _ C fs es n' => X C fs es n' }
/-- THE RULE for a def -/
theorem fnD {cl : Cl} {x qual : Str} {st : Stmt} {f : Addr} {fd : FuncData} {N ps : List Str} {g : Bool} {k : Nat} {sp : SpD} {t : TSd} (Fn : Fun K x qual st f fd) (S : FnScope N ps (defScope st)) (len : ∀ ds n Q X, sp ds n Q X → ds.length = ps.length)
    (hbody : ∀ (cdv : Value) (A : Around) (outer : List PySem.Env) (s : Shared) (H : Hp) (E : XK) (Ew : XSw), RoomG g k (cxB P w K mg base N qual st f cdv A outer s H E).A → TakesW (cxB P w K mg base N qual st f cdv A outer s H E) Ew → DSs (cxB P w K mg base N qual st f cdv A outer s H E) Ew cl (defBody st) t)
    (rd : ∀ ds n Q X, sp ds n Q X → t (endF Q X) (start N ds) n) : FnB g P w K mg base (k + 1) f fd ps (spL K (spW cl sp)) := by
  refine fnW (t := fun Ew => upS Ew cl t) Fn S (fun ws A Q E ⟨F, n, ds, Qd, Xd, hc, sm, r, h, _⟩ => r.length.trans (len _ _ _ _ h)) hbody ?_
  rintro ws A Q E ⟨F, n, ds, Qd, Xd, hc, sm, r, h, k1, k2⟩
  refine ⟨F, g0, n, _, _, hc, sm_start sm r, (fun p l e => nomatch e), rd ds n Qd Xd h, ⟨fun F' g' n' ρ' ω' A' G sm' nr' q => fg_i (k1 _ _ _ _ _ _ G sm'.smA (by simp only [RO, RD]) q), fun _ _ _ _ _ _ _ _ _ q => q, fun _ _ _ _ _ _ _ _ _ q => q, fun F' g' n' ρ' ω' A' o w G sm' r' q => fg_i (k1 _ _ _ _ _ _ G sm'.smA r' q), fun F' g' n' ρ' ω' A' C fs ds ws G sm' r' l q => fgE_i (k2 _ _ _ _ _ _ _ _ G sm'.smA r' l q)⟩⟩
end
/-! ### calls -/
def resS : O → S
  | .leaf d => .dat d
  | o => .new o
def dCall (sp : SpD) (dds : List D) (ta : TAd) : TEd := fun ρ n Q X => ta ρ n (fun ds ρ1 n1 => sp (ds ++ dds) n1 (fun o n2 => Q (resS o) ρ1 n2) (fun C fs es n2 => X ρ1 C fs es n2)) X
section
variable {F F' : Fz} {g g' : Gh} {n n' : Nat} {ρ : Env} {ω : Sw} {A A' : AH}
open Classical in
/-- behind a call: the caller's trees stand as before; the result is new -/
theorem Sm.after (s : Sm F g n ρ ω A) (nr : NoRes g) (G : Grow F g0 A F' g' A') (s' : SmA F' g' n' A') {o : O} {w : W} (r : RO F' A'.h g' .res [] o w) : ∃ g2, Grow F g A F' g2 A' ∧ Sm F' g2 n' ρ ω A' ∧ RS F' A'.h g2 ω (resS o) w := by
  have old : ∀ {p l}, g p = some l → A'.h p = A.h p ∧ g' p = none ∧ F'.h p = none := fun {p l} e => by
    obtain ⟨u, hu⟩ := s.ga p l e
    obtain ⟨x1, x2, x3⟩ := G.fr p u rfl hu
    exact ⟨x1.trans hu.symm, x2, x3 (s.gf p l e)⟩
  have smg : Sm F' g n' ρ ω A' := ⟨s'.fa, fun p l e => (old e).2.2, fun p l e => by rw [(old e).1]; exact s.ga p l e, s.tb, s.ln, fun i u e => by
    obtain ⟨w', e1, r'⟩ := s.sl i u e
    exact ⟨w', e1, r'.keep G.le (fun p l e => ⟨e, (old e).1⟩) _ _ _⟩, s'.pn⟩
  have Gg : Grow F g A F' g A' := ⟨G.le, fun k p l e => ⟨e, (old e).1⟩, fun p u e1 e2 => ⟨(G.fr p u rfl e2).1, e1, (G.fr p u rfl e2).2.2⟩⟩
  have two : (∃ d, o = .leaf d) ∨ resS o = .new o := by
    cases o with
    | leaf d => exact .inl ⟨d, rfl⟩
    | lst _ _ => exact .inr rfl
    | dic _ _ _ => exact .inr rfl
    | obj _ _ _ _ => exact .inr rfl
  rcases two with ⟨d, rfl⟩ | eo
  · exact ⟨g, Gg, smg, .d nr (by simpa only [RO] using r)⟩
  · let g2 : Gh := fun p => if (∃ l, g' p = some (.res, l)) then g' p else g p
    have k1 : ∀ {p l}, g p = some l → g2 p = some l := fun {p l} e => by
      show (if (∃ l, g' p = some (.res, l)) then g' p else g p) = some l
      rw [if_neg, e]
      rintro ⟨l', z⟩
      rw [(old e).2.1] at z
      cases z
    have k2 : ∀ {p l}, g2 p = some l → g p = some l ∨ (g' p = some l ∧ l.1 = .res) := fun {p l} e => by
      have e' : (if (∃ l, g' p = some (.res, l)) then g' p else g p) = some l := e
      split at e'
      · rename_i z
        obtain ⟨l', z⟩ := z
        rw [z] at e'
        cases e'
        exact .inr ⟨z, rfl⟩
      · exact .inl e'
    have kr : ∀ {p l}, g' p = some (.res, l) → g2 p = some (.res, l) := fun {p l} e => by
      show (if (∃ l, g' p = some (.res, l)) then g' p else g p) = _
      rw [if_pos ⟨l, e⟩, e]
    refine ⟨g2, ⟨G.le, fun k p l e => ⟨k1 e, (old e).1⟩, fun p u e1 e2 => ⟨(G.fr p u rfl e2).1, ?_, (G.fr p u rfl e2).2.2⟩⟩, ⟨s'.fa, fun p l e => ?_, fun p l e => ?_, ?_, s.ln, fun i u e => ?_, s'.pn⟩, ?_⟩
    · cases q : g2 p with
      | none => rfl
      | some l =>
        rcases k2 q with z | ⟨z, _⟩
        · rw [e1] at z; cases z
        · rw [(G.fr p u rfl e2).2.1] at z; cases z
    · rcases k2 e with z | ⟨z, _⟩
      · exact (old z).2.2
      · exact s'.gf p l z
    · rcases k2 e with z | ⟨z, _⟩
      · rw [(old z).1]; exact s.ga p l z
      · exact s'.ga p l z
    · obtain ⟨m, hm⟩ := s.tb
      refine ⟨m, fun p k l e => ?_⟩
      rcases k2 e with z | ⟨_, z⟩
      · exact hm p k l z
      · cases z
    · obtain ⟨w', e1, r'⟩ := smg.sl i u e
      exact ⟨w', e1, r'.keep (.refl F') (fun p l e => ⟨k1 e, rfl⟩) _ _ _⟩
    · rw [eo]
      exact .n (r.keep (.refl F') (fun p l e => ⟨kr e, rfl⟩) _ _ _)
/-- .. an exception -/
theorem Sm.afterX (s : Sm F g n ρ ω A) (G : Grow F g0 A F' g' A') (s' : SmA F' g' n' A') : Grow F g A F' g A' ∧ Sm F' g n' ρ ω A' := by
  have old : ∀ {p l}, g p = some l → A'.h p = A.h p ∧ g' p = none ∧ F'.h p = none := fun {p l} e => by
    obtain ⟨u, hu⟩ := s.ga p l e
    obtain ⟨x1, x2, x3⟩ := G.fr p u rfl hu
    exact ⟨x1.trans hu.symm, x2, x3 (s.gf p l e)⟩
  exact ⟨⟨G.le, fun k p l e => ⟨e, (old e).1⟩, fun p u e1 e2 => ⟨(G.fr p u rfl e2).1, e1, (G.fr p u rfl e2).2.2⟩⟩, ⟨s'.fa, fun p l e => (old e).2.2, fun p l e => by rw [(old e).1]; exact s.ga p l e, s.tb, s.ln, fun i u e => by
    obtain ⟨w', e1, r'⟩ := s.sl i u e
    exact ⟨w', e1, r'.keep G.le (fun p l e => ⟨e, (old e).1⟩) _ _ _⟩, s'.pn⟩⟩
end
section
variable {X : Cx} {Ew : XSw} {cl : Cl} {sp : SpD} {dds : List D} {dws : List W} {tA : TAd} {ω : Sw} {A : AH} {Q : VKw}
theorem dCall_loX (hdw : ∀ F : Fz, F.cl = cl → RDs F dds dws) (h : upE Ew cl (dCall sp dds tA) ω A Q) : wCallX (spW cl sp) dws (upA Ew cl tA) Ew ω A Q := by
  obtain ⟨F, g, n, ρ, Qd, Xd, hc, sm, nr, h, x, k⟩ := h
  refine up_a hc sm nr x h fun F1 g1 n1 ρ1 A1 ds ws hc1 G1 sm1 nr1 x1 r1 q => ?_
  refine ⟨F1, n1, ds ++ dds, _, _, hc1, sm1.smA.start, r1.append (hdw F1 hc1), q, fun F' g' n' A' o w G sm' r q => ?_, fun F' g' n' A' C fs es ws G sm' r l q => ?_⟩
  · obtain ⟨g2, G2, sm2, rs⟩ := sm1.after nr1 G sm' r
    exact k _ _ _ _ _ _ _ (G1.trans G2) sm2 rs q
  · obtain ⟨G2, sm2⟩ := sm1.afterX G sm'
    exact x1 _ _ _ _ _ _ _ _ _ _ G2 sm2 r l q rfl
theorem dCall_lo (hdw : ∀ F : Fz, F.cl = cl → RDs F dds dws) (h : upE X0w cl (dCall sp dds tA) ω A Q) : wCall (spW cl sp) dws (upA X0w cl tA) ω A Q := by
  obtain ⟨F, g, n, ρ, Qd, Xd, hc, sm, nr, h, x, k⟩ := h
  refine up_a hc sm nr x h fun F1 g1 n1 ρ1 A1 ds ws hc1 G1 sm1 nr1 x1 r1 q => ?_
  refine ⟨F1, n1, ds ++ dds, _, _, hc1, sm1.smA.start, r1.append (hdw F1 hc1), q, fun F' g' n' A' o w G sm' r q => ?_, fun F' g' n' A' C fs es ws G sm' r l q => ?_⟩
  · obtain ⟨g2, G2, sm2, rs⟩ := sm1.after nr1 G sm' r
    exact k _ _ _ _ _ _ _ (G1.trans G2) sm2 rs q
  · obtain ⟨G2, sm2⟩ := sm1.afterX G sm'
    exact (x1 _ _ _ _ ω _ _ _ _ _ G2 sm2 r l q rfl).elim
end
section
variable {X : Cx} {g : Bool} {k : Nat} {ps : List Str} {sp : SpD} {Ew : XSw} {cl : Cl} {x : Str} {p pos : Pos} {e : Expr} {es : List Expr} {ta : TAd}
theorem de_call (C : Callee g X.prog X.w X.K X.mg X.base k x ps (spW cl sp)) (tk : TakesW X Ew) (hr : RoomG g k X.A) (hg : Gl X x) (ha : DA X Ew cl (e :: es) ta) (hdb : (x == ("__debug__" : Str)) = false := by decide)
    (he : starEach (e :: es) X.env = (false, eval e X.env) :: starEach es X.env := by rfl) (hpl : (backTo pos (starEach es X.env)).any (·.1) = false := by rfl) : DE X Ew cl (.Call (.Name x p) (e :: es) [] pos) (dCall sp [] ta) :=
  WE.imp (C.weX tk hr hg ha hdb he hpl) fun ω A Q h => dCall_loX (fun _ _ => .nil) h
theorem de_callN (C : Callee g X.prog X.w X.K X.mg X.base k x ps (spW cl sp)) (hr : RoomG g k X.A) (hg : Gl X x) (ha : DA X X0w cl (e :: es) ta) (hdb : (x == ("__debug__" : Str)) = false := by decide)
    (he : starEach (e :: es) X.env = (false, eval e X.env) :: starEach es X.env := by rfl) (hpl : (backTo pos (starEach es X.env)).any (·.1) = false := by rfl) : DE X X0w cl (.Call (.Name x p) (e :: es) [] pos) (dCall sp [] ta) :=
  WE.imp (C.we hr hg ha hdb he hpl) fun ω A Q h => dCall_lo (fun _ _ => .nil) h
theorem de_call0 (C : Callee g X.prog X.w X.K X.mg X.base k x ps (spW cl sp)) (tk : TakesW X Ew) (hr : RoomG g k X.A) (hg : Gl X x) (hdb : (x == ("__debug__" : Str)) = false := by decide) : DE X Ew cl (.Call (.Name x p) [] [] pos) (dCall sp [] dNil) :=
  WE.imp (C.weX0 tk hr hg hdb) fun ω A Q h => by
    have h' : wCallX (spW cl sp) [] (upA Ew cl dNil) Ew ω A Q := dCall_loX (fun _ _ => .nil) h
    obtain ⟨F, g, n, ρ, Qd, Xd, hc, sm, nr, h, x, k⟩ := h'
    exact k _ _ _ _ _ [] [] (.refl F g A) sm nr .nil h
theorem de_callN0 (C : Callee g X.prog X.w X.K X.mg X.base k x ps (spW cl sp)) (hr : RoomG g k X.A) (hg : Gl X x) (hdb : (x == ("__debug__" : Str)) = false := by decide) : DE X X0w cl (.Call (.Name x p) [] [] pos) (dCall sp [] dNil) :=
  WE.imp (C.we0 hr hg hdb) fun ω A Q h => by
    have h' : wCall (spW cl sp) [] (upA X0w cl dNil) ω A Q := dCall_lo (fun _ _ => .nil) h
    obtain ⟨F, g, n, ρ, Qd, Xd, hc, sm, nr, h, x, k⟩ := h'
    exact k _ _ _ _ _ [] [] (.refl F g A) sm nr .nil h
end
end Dx

set_option Elab.async false
set_option linter.all false
set_option maxRecDepth 100000
set_option maxHeartbeats 4000000
/-! DX6: data as the kit knows it; operators. -/
namespace Dx
open PySem L2 Wx
mutual
def toPy : D → PyData
  | .bl b => .bool b
  | .int i => .int i
  | .str x => .str x
  | .tup ds => .tuple (toPys ds)
  | .lst ds => .list (toPys ds)
  | _ => .none
def toPys : List D → List PyData
  | [] => []
  | d :: ds => toPy d :: toPys ds
end
mutual
/-- data of a depth of at most n -/
def okd : Nat → D → Bool
  | _, .non => true
  | _, .bl _ => true
  | _, .int _ => true
  | _, .str x => PyData.strOk x
  | n + 1, .tup ds => okds n ds
  | n + 1, .lst ds => okds n ds
  | _, _ => false
def okds : Nat → List D → Bool
  | _, [] => true
  | n, d :: ds => okd n d && okds n ds
end
theorem toPys_length : ∀ {ds : List D}, (toPys ds).length = ds.length
  | [] => rfl
  | d :: ds => by simp only [toPys, List.length_cons, toPys_length]
theorem toPys_eq : ∀ {ds : List D}, toPys ds = ds.map toPy
  | [] => rfl
  | d :: ds => by simp only [toPys, List.map_cons, toPys_eq]
theorem okds_all {n : Nat} : ∀ {ds : List D}, okds n ds = ds.all (okd n)
  | [] => by simp [okds]
  | d :: ds => by simp [okds, okds_all]
mutual
theorem okd_lay : ∀ (n : Nat) (d : D), okd n d = true → (toPy d).canLay0 = true ∧ (toPy d).depth ≤ n
  | n, .non, h => ⟨rfl, by simp [toPy, PyData.depth]⟩
  | n, .bl b, h => ⟨rfl, by simp [toPy, PyData.depth]⟩
  | n, .int b, h => ⟨rfl, by simp [toPy, PyData.depth]⟩
  | n, .str x, h => ⟨by simpa [toPy, PyData.canLay0, okd] using h, by simp [toPy, PyData.depth]⟩
  | 0, .tup ds, h => by simp [okd] at h
  | 0, .lst ds, h => by simp [okd] at h
  | n + 1, .tup ds, h => by
    obtain ⟨a, b⟩ := okds_lay n ds (by simpa [okd] using h)
    exact ⟨by simpa [toPy, PyData.canLay0] using a, by simp only [toPy, PyData.depth]; omega⟩
  | n + 1, .lst ds, h => by
    obtain ⟨a, b⟩ := okds_lay n ds (by simpa [okd] using h)
    exact ⟨by simpa [toPy, PyData.canLay0] using a, by simp only [toPy, PyData.depth]; omega⟩
  | n, .dic _ _, h => by simp [okd] at h
  | n, .obj _ _ _, h => by simp [okd] at h
  | n, .ty _, h => by simp [okd] at h
  | n, .glb _, h => by simp [okd] at h
  | n, .pen, h => by simp [okd] at h
  | n, .scr, h => by simp [okd] at h
  | n, .ref _, h => by simp [okd] at h
  | n, .exc _ _ _ _ _, h => by simp [okd] at h
theorem okds_lay : ∀ (n : Nat) (ds : List D), okds n ds = true → PyData.canLayAll0 (toPys ds) = true ∧ PyData.depthAll (toPys ds) ≤ n
  | n, [], h => ⟨rfl, by simp [toPys, PyData.depthAll]⟩
  | n, d :: ds, h => by
    simp only [okds, Bool.and_eq_true] at h
    obtain ⟨a, b⟩ := okd_lay n d h.1
    obtain ⟨a', b'⟩ := okds_lay n ds h.2
    exact ⟨by simp [toPys, PyData.canLayAll0, a, a'], by simp only [toPys, PyData.depthAll]; omega⟩
end
theorem okd_shaped {d : D} (h : okd 60 d = true) : SeqAt.shaped (toPy d) = true := by
  obtain ⟨a, b⟩ := okd_lay 60 d h
  unfold SeqAt.shaped
  rw [a, Bool.true_and]
  exact decide_eq_true (by omega)
def allF (F : Fz) (A : AH) : Fz := { F with h := A.h }
section
variable {F : Fz} {g : Gh} {n : Nat} {ρ : Env} {ω : Sw} {A : AH}
theorem Sm.leAll (s : Sm F g n ρ ω A) : F.le (allF F A) := ⟨s.fa, .inr rfl, rfl, fun _ _ => ⟨fun h => h, fun _ h => h⟩⟩
theorem VO.all {o : O} {w : W} (s : Sm F g n ρ ω A) (v : VO F A o w) : RD (allF F A) (frz o) w := by
  obtain ⟨g', t, π, r⟩ := v
  exact r.frz s.leAll (fun _ _ _ _ h => h) _ _ _
mutual
theorem RD.dl : ∀ (n : Nat) (d : D) (w : W), okd n d = true → RD (allF F A) d w → DL A (toPy d) w
  | n, .non, w, h, r => by simpa [RD, DL, toPy] using r
  | n, .bl b, w, h, r => by simpa [RD, DL, toPy] using r
  | n, .int i, w, h, r => by simpa [RD, DL, toPy] using r
  | n, .str x, w, h, r => by simpa [RD, DL, toPy] using r
  | 0, .tup ds, w, h, r => by simp [okd] at h
  | 0, .lst ds, w, h, r => by simp [okd] at h
  | n + 1, .tup ds, w, h, r => by
    simp only [RD, DL, toPy] at r ⊢
    obtain ⟨ws, e, r⟩ := r
    exact ⟨ws, e, RDs.dl n ds ws (by simpa [okd] using h) r⟩
  | n + 1, .lst ds, w, h, r => by
    simp only [RD, DL, toPy] at r ⊢
    obtain ⟨p, ws, e, e2, r⟩ := r
    exact ⟨p, ws, e, .inl e2, RDs.dl n ds ws (by simpa [okd] using h) r⟩
  | n, .dic _ _, w, h, r => by simp [okd] at h
  | n, .obj _ _ _, w, h, r => by simp [okd] at h
  | n, .ty _, w, h, r => by simp [okd] at h
  | n, .glb _, w, h, r => by simp [okd] at h
  | n, .pen, w, h, r => by simp [okd] at h
  | n, .scr, w, h, r => by simp [okd] at h
  | n, .ref _, w, h, r => by simp [okd] at h
  | n, .exc _ _ _ _ _, w, h, r => by simp [okd] at h
theorem RDs.dl : ∀ (n : Nat) (ds : List D) (ws : List W), okds n ds = true → RDs (allF F A) ds ws → DLs A (toPys ds) ws
  | n, [], ws, h, r => by
    obtain rfl := r.unnil
    simp only [toPys, DLs]
  | n, d :: ds, ws, h, r => by
    obtain ⟨w, u, rfl, r1, r2⟩ := r.uncons
    simp only [okds, Bool.and_eq_true] at h
    simp only [toPys, DLs]
    exact ⟨w, u, rfl, RD.dl n d w h.1 r1, RDs.dl n ds u h.2 r2⟩
end
/-- the items of a list or tuple -/
def seqO : O → Option (List D)
  | .leaf (.tup ds) => some ds
  | .leaf (.lst ds) => some ds
  | .lst _ ds => some ds
  | _ => none
def SeqW (A : AH) (w : W) (ws : List W) : Prop := w = .tup ws ∨ w = .ktup ws ∨ ∃ p, w = .ref p ∧ isL A p ws
theorem VO.seq {o : O} {w : W} {ds : List D} (s : Sm F g n ρ ω A) (v : VO F A o w) (e : seqO o = some ds) : ∃ ws, RDs F ds ws ∧ SeqW A w ws := by
  obtain ⟨g', t, π, r⟩ := v
  cases o with
  | leaf d =>
    cases d with
    | tup es =>
      cases e
      simp only [RO, RD] at r
      obtain ⟨ws, e, r⟩ := r
      exact ⟨ws, r, e.elim .inl fun z => .inr (.inl z)⟩
    | lst es =>
      cases e
      simp only [RO, RD] at r
      obtain ⟨p, ws, e, e2, r⟩ := r
      exact ⟨ws, r, .inr (.inr ⟨p, e, .inl (s.fa _ _ e2)⟩)⟩
    | _ => cases e
  | lst x es =>
    cases e
    simp only [RO] at r
    obtain ⟨p, ws, e, _, _, e2, r⟩ := r
    exact ⟨ws, r, .inr (.inr ⟨p, e, .inl e2⟩)⟩
  | dic x ks vs => cases e
  | obj x C fs os => cases e
theorem SeqW.len {w : W} {ws : List W} {k : Nat → Prop} (h : SeqW A w ws) (q : k ws.length) : lenW w A k := by
  rcases h with rfl | rfl | ⟨p, rfl, h⟩
  · exact q
  · exact q
  · exact ⟨ws, h, q⟩
theorem SeqW.ix {w : W} {ws : List W} {i : Int} {y : W} {Q : VKw} (h : SeqW A w ws) (e : atI ws i = some y) (q : Q y A) : wIx w (.int i) A Q := by
  rcases h with rfl | rfl | ⟨p, rfl, h⟩
  · exact ⟨y, e, q⟩
  · exact ⟨y, e, q⟩
  · exact ⟨ws, y, h, e, q⟩
theorem RDs.atI {ds : List D} {ws : List W} {i : Int} {d : D} (r : RDs F ds ws) (h : L2.atI ds i = some d) : ∃ w, L2.atI ws i = some w ∧ RD F d w := by
  unfold L2.atI at h ⊢
  rw [r.length]
  cases e : ixN ds.length i with
  | none => rw [e] at h; cases h
  | some j =>
    rw [e] at h
    exact r.get h
end
/-! ### what an operator hands back -/
section
variable {F : Fz} {g : Gh} {n : Nat} {ρ : Env} {ω : Sw} {A : AH} {Qd : S → Prop} {Q : VKw}
abbrev KOp (F : Fz) (g : Gh) (n : Nat) (ρ : Env) (ω : Sw) (A : AH) (Qd : S → Prop) (Q : VKw) : Prop := ∀ F' g' A' s w, Grow F g A F' g' A' → Sm F' g' n ρ ω A' → RS F' A'.h g' ω s w → Qd s → Q w A'
theorem kop_d (sm : Sm F g n ρ ω A) (nr : NoRes g) (k : KOp F g n ρ ω A Qd Q) {d : D} {w : W} (r : RD F d w) (q : Qd (.dat d)) : Q w A := k _ _ _ _ _ (.refl F g A) sm (.d nr r) q
theorem kop_b (sm : Sm F g n ρ ω A) (nr : NoRes g) (k : KOp F g n ρ ω A Qd Q) {b : Bool} (q : Qd (.dat (.bl b))) : Q (.bl b) A := kop_d sm nr k (by simp only [RD]) q
theorem kop_i (sm : Sm F g n ρ ω A) (nr : NoRes g) (k : KOp F g n ρ ω A Qd Q) {b : Int} (q : Qd (.dat (.int b))) : Q (.int b) A := kop_d sm nr k (by simp only [RD]) q
theorem kop_l (sm : Sm F g n ρ ω A) (nr : NoRes g) (k : KOp F g n ρ ω A Qd Q) {ds : List D} {ws : List W} (r : RDs F ds ws) (q : Qd (.new (.lst none ds))) : ∀ p, A.h p = none → Q (.ref p) (A.put p (.lst ws)) := fun p hp => by
  obtain ⟨g2, G2, sm2, r2⟩ := sm.newLst nr hp r
  exact k _ _ _ _ _ G2 sm2 (.n r2) q
end
theorem vo_int {F : Fz} {A : AH} {i : Int} {w : W} (v : VO F A (.leaf (.int i)) w) : w = .int i := by
  have := v.rd
  simpa only [RD] using this
theorem vo_str {F : Fz} {A : AH} {i : Str} {w : W} (v : VO F A (.leaf (.str i)) w) : w = .str i := by
  have := v.rd
  simpa only [RD] using this
theorem vo_bl {F : Fz} {A : AH} {i : Bool} {w : W} (v : VO F A (.leaf (.bl i)) w) : w = .bl i := by
  have := v.rd
  simpa only [RD] using this
/-! ints -/
def rI0 (f : Int → Int → D) : R2d := fun a b k => match a, b with
  | .leaf (.int i), .leaf (.int j) => k (.dat (f i j))
  | _, _ => False
def rI1 (C : Int → Int → Prop) (f : Int → Int → D) : R2d := fun a b k => match a, b with
  | .leaf (.int i), .leaf (.int j) => C i j ∧ k (.dat (f i j))
  | _, _ => False
theorem rdw_I0 {f : Int → Int → D} {fw : Int → Int → W} (h : ∀ F i j, RD F (f i j) (fw i j)) : RdW (rwI0 fw) (rI0 f) := fun F g n ρ ω A o1 o2 w1 w2 Qd Q sm nr v1 v2 q k => by
  unfold rI0 at q
  split at q
  · rename_i i j
    exact ⟨i, j, vo_int v1, vo_int v2, kop_d sm nr k (h F i j) q⟩
  · exact q.elim
theorem rdw_I1 {C : Int → Int → Prop} {f : Int → Int → D} {fw : Int → Int → W} (h : ∀ F i j, RD F (f i j) (fw i j)) : RdW (rwI C fw) (rI1 C f) := fun F g n ρ ω A o1 o2 w1 w2 Qd Q sm nr v1 v2 q k => by
  unfold rI1 at q
  split at q
  · rename_i i j
    exact ⟨i, j, vo_int v1, vo_int v2, q.1, kop_d sm nr k (h F i j) q.2⟩
  · exact q.elim
def dSub : R2d := rI0 fun i j => .int (i - j)
theorem rd_sub : RdW wSub dSub := rdw_I0 fun _ _ _ => by simp only [RD]
def dMul : R2d := rI1 CMul fun i j => .int (i * j)
theorem rd_mul : RdW wMulI dMul := rdw_I1 fun _ _ _ => by simp only [RD]
def dDiv : R2d := rI1 CDivN fun i j => .int (i.fdiv j)
theorem rd_div : RdW wDiv dDiv := rdw_I1 fun _ _ _ => by simp only [RD]
def dMod : R2d := rI1 (fun _ j => j ≠ 0) fun i j => .int (i.fmod j)
theorem rd_mod : RdW wMod dMod := rdw_I1 fun _ _ _ => by simp only [RD]
def dLtI : R2d := rI0 fun i j => .bl (decide (i < j))
theorem rd_ltI : RdW wLtI dLtI := rdw_I0 fun _ _ _ => by simp only [RD]
def dLeI : R2d := rI0 fun i j => .bl (decide (i ≤ j))
theorem rd_leI : RdW wLeI dLeI := rdw_I0 fun _ _ _ => by simp only [RD]
def dGtI : R2d := rI0 fun i j => .bl (decide (j < i))
theorem rd_gtI : RdW wGtI dGtI := rdw_I0 fun _ _ _ => by simp only [RD]
def dGeI : R2d := rI0 fun i j => .bl (decide (j ≤ i))
theorem rd_geI : RdW wGeI dGeI := rdw_I0 fun _ _ _ => by simp only [RD]
/-! + -/
def addT (A : AH) (w : W) (ws : List W) : Prop := w = .tup ws ∨ w = .ktup ws
def wAddK : R2w := fun a b A Q => (∃ i j, a = .int i ∧ b = .int j ∧ Q (.int (i + j)) A) ∨ (∃ x y, a = .str x ∧ b = .str y ∧ x.length + y.length ≤ sizeLine ∧ Q (.str (x ++ y)) A) ∨
  (∃ xs ys, (a = .tup xs ∨ a = .ktup xs) ∧ (b = .tup ys ∨ b = .ktup ys) ∧ xs.length + ys.length ≤ sizeLine ∧ Q (.tup (xs ++ ys)) A ∧ (xs = [] → Q b A) ∧ (ys = [] → Q a A)) ∨
  ∃ p q xs ys, a = .ref p ∧ b = .ref q ∧ A.h p = some (.lst xs) ∧ A.h q = some (.lst ys) ∧ xs.length + ys.length ≤ sizeLine ∧ ∀ r, A.h r = none → Q (.ref r) (A.put r (.lst (xs ++ ys)))
def rwAddTK : R2w := fun a b A Q => ∃ xs ys, (a = .tup xs ∨ a = .ktup xs) ∧ (b = .tup ys ∨ b = .ktup ys) ∧ xs.length + ys.length ≤ sizeLine ∧ Q (.tup (xs ++ ys)) A ∧ (xs = [] → Q b A) ∧ (ys = [] → Q a A)
theorem rep_tk {K : PySem.W.Frag} {H : Hp} {v : V} {a : W} {xs : List W} (h : rep K H v a) (e : a = .tup xs ∨ a = .ktup xs) : ∃ p vs, v = .ref p ∧ SqT K H p vs ∧ reps K H vs xs := by
  rcases e with rfl | rfl
  · simp only [rep] at h
    obtain ⟨p, vs, e, s, r⟩ := h
    exact ⟨p, vs, e, SqT.of s, r⟩
  · simp only [rep] at h
    exact h
section
variable {X : Cx}
theorem ow_addTK : OpW X (binaryOp .Add) rwAddTK := OpW.of op_catA fun H A x y a b Q ra ha hb ⟨xs, ys, e1, e2, l, q, q1, q2⟩ => by
  obtain ⟨p, vs, ep, sp, rp⟩ := rep_tk ha e1
  obtain ⟨p', us, ep', sp', rp'⟩ := rep_tk hb e2
  refine ⟨p, p', vs, us, ep, ep', sp, sp', by rw [reps_length rp, reps_length rp']; exact l, fun z => ?_, fun z z' => ?_, fun z z' r hr => ?_⟩
  · subst z
    have : xs = [] := List.eq_nil_of_length_eq_zero (by rw [← reps_length rp]; rfl)
    exact Up.i ra (ep' ▸ hb) (q1 this)
  · subst z'
    have : ys = [] := List.eq_nil_of_length_eq_zero (by rw [← reps_length rp']; rfl)
    exact Up.i ra (ep ▸ ha) (q2 this)
  · exact Up.newT ra hr (reps_append rp rp') q
theorem ow_addAll : OpW X (binaryOp .Add) wAddK := OpW.imp ((ow_I0 op_add (gw := fun i j => .int (i + j)) fun _ _ _ => by simp only [rep]).or (ow_addS.or (ow_addTK.or ow_addL))) fun a b A Q q => by
  rcases q with ⟨i, j, e1, e2, q⟩ | ⟨i, j, e1, e2, q⟩ | q | ⟨p, p', xs, ys, e1, e2, h1, h2, l, q⟩
  · exact .inl ⟨i, j, e1, e2, q⟩
  · exact .inr (.inl ⟨i, j, e1, e2, q⟩)
  · exact .inr (.inr (.inl q))
  · exact .inr (.inr (.inr ⟨p, p', xs, ys, e1, e2, h1, h2, l, q⟩))
end
def dAdd : R2d := fun a b k => match a, b with
  | .leaf (.int i), .leaf (.int j) => k (.dat (.int (i + j)))
  | .leaf (.str x), .leaf (.str y) => x.length + y.length ≤ sizeLine ∧ k (.dat (.str (x ++ y)))
  | .leaf (.tup xs), .leaf (.tup ys) => xs.length + ys.length ≤ sizeLine ∧ k (.dat (.tup (xs ++ ys)))
  | .leaf (.lst xs), .leaf (.lst ys) => xs.length + ys.length ≤ sizeLine ∧ k (.new (.lst none (xs ++ ys)))
  | .lst _ xs, .leaf (.lst ys) => xs.length + ys.length ≤ sizeLine ∧ k (.new (.lst none (xs ++ ys)))
  | .leaf (.lst xs), .lst _ ys => xs.length + ys.length ≤ sizeLine ∧ k (.new (.lst none (xs ++ ys)))
  | .lst _ xs, .lst _ ys => xs.length + ys.length ≤ sizeLine ∧ k (.new (.lst none (xs ++ ys)))
  | _, _ => False
/-- a list that was not handed in from outside -/
theorem vo_lst {F : Fz} {A : AH} {g : Gh} {n : Nat} {ρ : Env} {ω : Sw} {o : O} {w : W} {ds : List D} (s : Sm F g n ρ ω A) (v : VO F A o w) (e : o = .leaf (.lst ds) ∨ ∃ x, o = .lst x ds) : ∃ p ws, w = .ref p ∧ A.h p = some (.lst ws) ∧ RDs F ds ws := by
  rcases e with rfl | ⟨x, rfl⟩
  · have r := v.rd
    simp only [RD] at r
    obtain ⟨p, ws, e, e2, r⟩ := r
    exact ⟨p, ws, e, s.fa _ _ e2, r⟩
  · obtain ⟨g', t, π, r⟩ := v
    simp only [RO] at r
    obtain ⟨p, ws, e, _, _, e2, r⟩ := r
    exact ⟨p, ws, e, e2, r⟩
theorem rd_add : RdW wAddK dAdd := fun F g n ρ ω A o1 o2 w1 w2 Qd Q sm nr v1 v2 q k => by
  have lists : ∀ {xs ys : List D}, (o1 = .leaf (.lst xs) ∨ ∃ x, o1 = .lst x xs) → (o2 = .leaf (.lst ys) ∨ ∃ x, o2 = .lst x ys) → xs.length + ys.length ≤ sizeLine ∧ Qd (.new (.lst none (xs ++ ys))) → wAddK w1 w2 A Q := fun {xs ys} e1 e2 ⟨l, q⟩ => by
    obtain ⟨p, us, rfl, h1, r1⟩ := vo_lst sm v1 e1
    obtain ⟨p', zs, rfl, h2, r2⟩ := vo_lst sm v2 e2
    exact .inr (.inr (.inr ⟨p, p', us, zs, rfl, rfl, h1, h2, by rw [r1.length, r2.length]; exact l, kop_l sm nr k (r1.append r2) q⟩))
  unfold dAdd at q
  split at q
  · rename_i i j
    exact .inl ⟨i, j, vo_int v1, vo_int v2, kop_i sm nr k q⟩
  · rename_i x y
    exact .inr (.inl ⟨x, y, vo_str v1, vo_str v2, q.1, kop_d sm nr k (by simp only [RD]) q.2⟩)
  · rename_i xs ys
    have r1 := v1.rd
    have r2 := v2.rd
    have r1' := r1
    have r2' := r2
    simp only [RD] at r1 r2
    obtain ⟨us, e1, r1⟩ := r1
    obtain ⟨zs, e2, r2⟩ := r2
    refine .inr (.inr (.inl ⟨us, zs, e1, e2, by rw [r1.length, r2.length]; exact q.1, kop_d sm nr k (by simp only [RD]; exact ⟨_, .inl rfl, r1.append r2⟩) q.2, fun z => ?_, fun z => ?_⟩))
    · have : xs = [] := List.eq_nil_of_length_eq_zero (by rw [← r1.length, z]; rfl)
      subst this
      exact kop_d sm nr k r2' q.2
    · have : ys = [] := List.eq_nil_of_length_eq_zero (by rw [← r2.length, z]; rfl)
      subst this
      rw [List.append_nil] at q
      exact kop_d sm nr k r1' q.2
  · exact lists (.inl rfl) (.inl rfl) q
  · exact lists (.inr ⟨_, rfl⟩) (.inl rfl) q
  · exact lists (.inl rfl) (.inr ⟨_, rfl⟩) q
  · exact lists (.inr ⟨_, rfl⟩) (.inr ⟨_, rfl⟩) q
  · exact q.elim
/-! equality, order, in -/
def eqD (a b : D) : Bool := PyData.eqv (toPy a) (toPy b)
def dEqB (neg : Bool) : R2d := fun a b k => match a, b with
  | .leaf (.str x), .leaf (.str y) => k (.dat (.bl (if neg then !decide (x = y) else decide (x = y))))
  | .leaf (.int x), .leaf (.int y) => k (.dat (.bl (if neg then !decide (x = y) else decide (x = y))))
  | .leaf (.bl x), .leaf (.bl y) => k (.dat (.bl (if neg then !decide (x = y) else decide (x = y))))
  | a, b => okd 60 (frz a) = true ∧ okd 60 (frz b) = true ∧ k (.dat (.bl (if neg then !eqD (frz a) (frz b) else eqD (frz a) (frz b))))
def wEqB (b : Bool) : R2w := fun x y A Q => wEqS b x y A Q ∨ wEqD b x y A Q
section
variable {X : Cx}
theorem ow_eqB (hu : X.A.units + 64 < cLine) : OpW X (compareOp .Eq) (wEqB true) := ow_eqS.or (ow_eqD hu)
theorem ow_neB (hu : X.A.units + 64 < cLine) : OpW X (compareOp .NotEq) (wEqB false) := ow_neS.or (ow_neD hu)
end
theorem rd_eqB {neg : Bool} : RdW (wEqB !neg) (dEqB neg) := fun F g n ρ ω A o1 o2 w1 w2 Qd Q sm nr v1 v2 q k => by
  have d : okd 60 (frz o1) = true ∧ okd 60 (frz o2) = true ∧ Qd (.dat (.bl (if neg then !eqD (frz o1) (frz o2) else eqD (frz o1) (frz o2)))) → wEqB (!neg) w1 w2 A Q := fun ⟨h1, h2, q⟩ =>
    .inr ⟨_, _, RD.dl 60 _ _ h1 (v1.all sm), RD.dl 60 _ _ h2 (v2.all sm), okd_shaped h1, okd_shaped h2, kop_b sm nr k (by cases neg <;> exact q)⟩
  unfold dEqB at q
  split at q
  · rw [vo_str v1, vo_str v2]; exact .inl (kop_b sm nr k (by cases neg <;> exact q))
  · rw [vo_int v1, vo_int v2]; exact .inl (kop_b sm nr k (by cases neg <;> exact q))
  · rw [vo_bl v1, vo_bl v2]; exact .inl (kop_b sm nr k (by cases neg <;> exact q))
  · exact d q
abbrev dEq : R2d := dEqB false
abbrev dNe : R2d := dEqB true
theorem rd_eq : RdW (wEqB true) dEq := rd_eqB
theorem rd_ne : RdW (wEqB false) dNe := rd_eqB
/-- x in y, y a list or tuple -/
def dInB (neg : Bool) : R2d := fun a b k => ∃ ds, seqO b = some ds ∧ okd 60 (frz a) = true ∧ okds 59 ds = true ∧ k (.dat (.bl (if neg then !ds.any (fun z => eqD z (frz a)) else ds.any fun z => eqD z (frz a))))
theorem okd_seq {o : O} {ds : List D} (e : seqO o = some ds) (h : okds 59 ds = true) : okd 60 (frz o) = true ∧ (toPy (frz o) = .list (toPys ds) ∨ toPy (frz o) = .tuple (toPys ds)) := by
  cases o with
  | leaf d =>
    cases d with
    | tup es => cases e; exact ⟨by simpa [frz, okd] using h, .inr (by simp [frz, toPy])⟩
    | lst es => cases e; exact ⟨by simpa [frz, okd] using h, .inl (by simp [frz, toPy])⟩
    | _ => cases e
  | lst x es => cases e; exact ⟨by simpa [frz, okd] using h, .inl (by simp [frz, toPy])⟩
  | dic x ks vs => cases e
  | obj x C fs os => cases e
theorem rd_inB {neg : Bool} : RdW (wInD !neg) (dInB neg) := fun F g n ρ ω A o1 o2 w1 w2 Qd Q sm nr v1 v2 ⟨ds, e, h1, h2, q⟩ k => by
  obtain ⟨h3, h4⟩ := okd_seq e h2
  have dl2 := RD.dl 60 _ _ h3 (v2.all sm)
  have s2 := okd_shaped h3
  refine ⟨_, toPys ds, RD.dl 60 _ _ h1 (v1.all sm), h4.imp (fun (z : _ = _) => by rw [← z]; exact dl2) (fun (z : _ = _) => by rw [← z]; exact dl2), okd_shaped h1, ?_, kop_b sm nr k ?_⟩
  · have e : okd 60 (.lst ds) = true := by simpa [okd] using h2
    have := okd_shaped e
    simpa [toPy] using this
  · rw [toPys_eq]
    cases neg <;> simpa [List.any_map, eqD, Function.comp_def] using q
abbrev dIn : R2d := dInB false
abbrev dNotIn : R2d := dInB true
theorem rd_in : RdW (wInD true) dIn := rd_inB
theorem rd_notIn : RdW (wInD false) dNotIn := rd_inB
/-- one sign in a text -/
def dInSignB (neg : Bool) : R2d := fun a b k => match a, b with
  | .leaf (.str x), .leaf (.str z) => ∃ c, x = ⟨#[c]⟩ ∧ k (.dat (.bl (if neg then !decide (c ∈ z.cps.toList) else decide (c ∈ z.cps.toList))))
  | _, _ => False
theorem rd_inSignB {neg : Bool} : RdW (wInSign !neg) (dInSignB neg) := fun F g n ρ ω A o1 o2 w1 w2 Qd Q sm nr v1 v2 q k => by
  unfold dInSignB at q
  split at q
  · rename_i x z
    obtain ⟨c, rfl, q⟩ := q
    exact ⟨c, z, vo_str v1, vo_str v2, kop_b sm nr k (by cases neg <;> exact q)⟩
  · exact q.elim
abbrev dInSign : R2d := dInSignB false
abbrev dNotInSign : R2d := dInSignB true
theorem rd_inSign : RdW (wInSign true) dInSign := rd_inSignB
theorem rd_notInSign : RdW (wInSign false) dNotInSign := rd_inSignB
/-- order of alike data -/
def ltD (a b : D) : Bool := PySem.W.dataLt (toPy a) (toPy b)
def alikeD (a b : D) : Bool := PySem.W.alike (toPy a) (toPy b)
def dOrd (f : D → D → Bool) : R2d := fun a b k => okd 60 (frz a) = true ∧ okd 60 (frz b) = true ∧ alikeD (frz a) (frz b) = true ∧ frz a ≠ .non ∧ k (.dat (.bl (f (frz a) (frz b))))
theorem toPy_non {d : D} (h : okd 60 d = true) (e : toPy d = .none) : d = .non := by
  cases d <;> simp [toPy] at e <;> first | rfl | simp [okd] at h
theorem rd_ord {f : D → D → Bool} {fp : PyData → PyData → Bool} (hf : ∀ a b, fp (toPy a) (toPy b) = f a b) : RdW (wOrdD fp) (dOrd f) := fun F g n ρ ω A o1 o2 w1 w2 Qd Q sm nr v1 v2 ⟨h1, h2, h3, h4, q⟩ k =>
  ⟨_, _, RD.dl 60 _ _ h1 (v1.all sm), RD.dl 60 _ _ h2 (v2.all sm), h3, fun z => h4 (toPy_non h1 z), (okd_lay 60 _ h1).2, kop_b sm nr k (by rw [hf]; exact q)⟩
def dLt : R2d := dOrd ltD
def dGt : R2d := dOrd fun a b => ltD b a
def dLe : R2d := dOrd fun a b => !ltD b a
def dGe : R2d := dOrd fun a b => !ltD a b
theorem rd_lt : RdW (wOrdD fun d e => PySem.W.dataLt d e) dLt := rd_ord fun _ _ => rfl
theorem rd_gt : RdW (wOrdD fun d e => PySem.W.dataLt e d) dGt := rd_ord fun _ _ => rfl
theorem rd_le : RdW (wOrdD fun d e => !PySem.W.dataLt e d) dLe := rd_ord fun _ _ => rfl
theorem rd_ge : RdW (wOrdD fun d e => !PySem.W.dataLt d e) dGe := rd_ord fun _ _ => rfl
/-! is -/
def isN : O → Bool
  | .leaf .non => true
  | _ => false
def dIsN (neg : Bool) : R2d := fun a b k => b = .leaf .non ∧ k (.dat (.bl (if neg then !isN a else isN a)))
theorem vo_isNon {F : Fz} {A : AH} {o : O} {w : W} (v : VO F A o w) : isNon w = isN o := by
  obtain ⟨g, t, π, r⟩ := v
  cases o with
  | leaf d =>
    cases d <;> simp only [RO, RD] at r
    case tup ds => obtain ⟨ws, e | e, _⟩ := r <;> subst e <;> rfl
    case lst ds => obtain ⟨p, ws, e, _⟩ := r; subst e; rfl
    case dic ks vs => obtain ⟨p, ws, e, _⟩ := r; subst e; rfl
    case obj C fs vs => obtain ⟨p, ws, e, _⟩ := r; subst e; rfl
    case pen => obtain ⟨p, _, e⟩ := r; subst e; rfl
    case scr => obtain ⟨p, _, e, _⟩ := r; subst e; rfl
    case exc a dd C fs vs => obtain ⟨e, _⟩ := r; subst e; rfl
    all_goals (subst r; rfl)
  | lst x ds => simp only [RO] at r; obtain ⟨p, ws, e, _⟩ := r; subst e; rfl
  | dic x ks vs => simp only [RO] at r; obtain ⟨p, ws, e, _⟩ := r; subst e; rfl
  | obj x C fs os => simp only [RO] at r; obtain ⟨p, ws, e, _⟩ := r; subst e; rfl
theorem vo_non {F : Fz} {A : AH} {w : W} (v : VO F A (.leaf .non) w) : w = .non := by
  have := v.rd
  simpa only [RD] using this
theorem rd_isN : RdW wIsN (dIsN false) := fun F g n ρ ω A o1 o2 w1 w2 Qd Q sm nr v1 v2 ⟨e, q⟩ k => by
  subst e
  exact ⟨vo_non v2, by rw [vo_isNon v1]; exact kop_b sm nr k q⟩
theorem rd_notN : RdW wNotN (dIsN true) := fun F g n ρ ω A o1 o2 w1 w2 Qd Q sm nr v1 v2 ⟨e, q⟩ k => by
  subst e
  exact ⟨vo_non v2, by rw [vo_isNon v1]; exact kop_b sm nr k q⟩
/-! items -/
def dIx : R2d := fun a b k => match b with
  | .leaf (.int i) => (∃ ds d, seqO a = some ds ∧ L2.atI ds i = some d ∧ k (.dat d)) ∨ ∃ z c, a = .leaf (.str z) ∧ z.length ≤ sizeLine ∧ L2.atI z.cps.toList i = some c ∧ k (.dat (.str ⟨#[c]⟩))
  | _ => False
theorem rd_ix : RdW wIx dIx := fun F g n ρ ω A o1 o2 w1 w2 Qd Q sm nr v1 v2 q k => by
  unfold dIx at q
  split at q
  · rename_i i
    rw [vo_int v2]
    rcases q with ⟨ds, d, e, ha, q⟩ | ⟨z, c, e, l, ha, q⟩
    · obtain ⟨ws, r, sq⟩ := v1.seq sm e
      obtain ⟨w, ew, rw'⟩ := r.atI ha
      exact sq.ix ew (kop_d sm nr k rw' q)
    · subst e
      rw [vo_str v1]
      exact ⟨c, l, ha, kop_d sm nr k (by simp only [RD]) q⟩
  · exact q.elim
end Dx

set_option Elab.async false
set_option linter.all false
set_option maxRecDepth 100000
set_option maxHeartbeats 4000000
/-! DX7: builtins, methods of lists and texts, slices, what is walked by enumerate and zip. -/
namespace Dx
open PySem L2 Wx
/-! ### builtins of one argument that is looked at -/
abbrev R1d := O → (S → Prop) → Prop
def RdW1 (r : List W → AH → VKw → Prop) (rd : R1d) : Prop := ∀ F g n ρ ω A o w Qd (Q : VKw), Sm F g n ρ ω A → NoRes g → VO F A o w → rd o Qd → KOp F g n ρ ω A Qd Q → r [w] A Q
def dB1 (rd : R1d) (te : TEd) : TEd := fun ρ n Q X => te ρ n (fun s ρ1 n1 => wO s ρ1 fun o => rd o fun s' => Q s' ρ1 n1) X
/-- .. of two -/
def RdW2 (r : List W → AH → VKw → Prop) (rd : R2d) : Prop := ∀ F g n ρ ω A o1 o2 w1 w2 Qd (Q : VKw), Sm F g n ρ ω A → NoRes g → VO F A o1 w1 → VO F A o2 w2 → rd o1 o2 Qd → KOp F g n ρ ω A Qd Q → r [w1, w2] A Q
section
variable {X : Cx} {Ew : XSw} {cl : Cl} {x : Str} {p pos : Pos} {a b : Expr} {ta tb : TEd} {id T : String} {r : List W → AH → VKw → Prop} {rd : R1d} {rd2 : R2d}
theorem dB1_lo {te : TEd} {ω : Sw} {A : AH} {Q : VKw} (hr : RdW1 r rd) (h : upE Ew cl (dB1 rd te) ω A Q) : wCB r (wCons (upE Ew cl te) wNil) ω A Q := by
  obtain ⟨F, g, n, ρ, Qd, Xd, hc, sm, nr, h, x, k⟩ := h
  refine up_s hc sm nr x h fun F1 g1 n1 ρ1 A1 s w hc1 G1 sm1 x1 r1 q => ?_
  obtain ⟨F2, g2, o, G2, sm2, nr2, v, q⟩ := RS.lookF sm1 r1 q
  exact hr F2 g2 n1 ρ1 ω A1 o w _ Q sm2 nr2 v q fun F' g' A' s w G' sm' r' q => k _ _ _ _ _ _ _ (G1.trans (G2.trans G')) sm' r' q
theorem dB2_lo {ω : Sw} {A : AH} {Q : VKw} (hr : RdW2 r rd2) (h : upE Ew cl (dOp rd2 ta tb) ω A Q) : wCB r (wCons (upE Ew cl ta) (wCons (upE Ew cl tb) wNil)) ω A Q := by
  obtain ⟨F, g, n, ρ, Qd, Xd, hc, sm, nr, h, x, k⟩ := h
  refine up_fz hc sm nr x h fun F1 g1 n1 ρ1 A1 s1 w1 hc1 G1 sm1 nr1 x1 r1 nn h1 => ?_
  refine up_s hc1 sm1 nr1 x1 h1 fun F2 g2 n2 ρ2 A2 s2 w2 hc2 G2 sm2 x2 r2 h2 => ?_
  obtain ⟨o1, v1, h3⟩ := RS.look0 sm2 G2.le r1 h2
  obtain ⟨F3, g3, o2, G3, sm3, nr3, v2, h4⟩ := RS.lookF sm2 r2 h3
  have v1' : VO F3 A2 o1 w1 := by
    obtain ⟨gv, tv, πv, rv⟩ := v1
    exact ⟨gv, tv, πv, rv.keep G3.le (fun p l e => ⟨e, rfl⟩) _ _ _⟩
  exact hr F3 g3 n2 ρ2 ω A2 o1 o2 w1 w2 _ Q sm3 nr3 v1' v2 h4 fun F' g' A' s w G' sm' r' q => k F' g' n2 ρ2 A' s w ((G1.trans G2).trans (G3.trans G')) sm' r' q
theorem de_b1 (hc : CallW X (.builtin id) r) (hr : RdW1 r rd) (hg : Gl X x) (hm : X.mg x = none) (hv : bootBuiltins x = some (.builtin id)) (ha : DE X Ew cl a ta) (hn : x ≠ "__name__" := by decide) (hdb : (x == ("__debug__" : Str)) = false := by decide)
    (he : starEach [a] X.env = (false, eval a X.env) :: starEach [] X.env := by rfl) (hpl : (backTo pos (starEach [] X.env)).any (·.1) = false := by rfl) : DE X Ew cl (.Call (.Name x p) [a] [] pos) (dB1 rd ta) :=
  WE.imp (we_callB hc hg hm hv (wa_cons ha wa_nil he) hn hdb he hpl) fun ω A Q h => dB1_lo hr h
theorem de_t1 (hc : CallW X (.type T) r) (hr : RdW1 r rd) (hg : Gl X x) (hm : X.mg x = none) (hv : bootBuiltins x = some (.type T)) (ha : DE X Ew cl a ta) (hn : x ≠ "__name__" := by decide) (hdb : (x == ("__debug__" : Str)) = false := by decide)
    (he : starEach [a] X.env = (false, eval a X.env) :: starEach [] X.env := by rfl) (hpl : (backTo pos (starEach [] X.env)).any (·.1) = false := by rfl) : DE X Ew cl (.Call (.Name x p) [a] [] pos) (dB1 rd ta) :=
  WE.imp (we_callTy hc hg hm hv (wa_cons ha wa_nil he) hn hdb he hpl) fun ω A Q h => dB1_lo hr h
theorem de_b2 (hc : CallW X (.builtin id) r) (hr : RdW2 r rd2) (hg : Gl X x) (hm : X.mg x = none) (hv : bootBuiltins x = some (.builtin id)) (ha : DE X Ew cl a ta) (hb : DE X Ew cl b tb) (hn : x ≠ "__name__" := by decide) (hdb : (x == ("__debug__" : Str)) = false := by decide)
    (he : starEach [a, b] X.env = (false, eval a X.env) :: starEach [b] X.env := by rfl) (he2 : starEach [b] X.env = (false, eval b X.env) :: starEach [] X.env := by rfl) (hpl : (backTo pos (starEach [b] X.env)).any (·.1) = false := by rfl) : DE X Ew cl (.Call (.Name x p) [a, b] [] pos) (dOp rd2 ta tb) :=
  WE.imp (we_callB hc hg hm hv (wa_cons ha (wa_cons hb wa_nil he2) he) hn hdb he hpl) fun ω A Q h => dB2_lo hr h
end
def dLen : R1d := fun o k => (∃ ds, seqO o = some ds ∧ k (.dat (.int ds.length))) ∨ ∃ z, o = .leaf (.str z) ∧ z.length ≤ sizeLine ∧ k (.dat (.int z.length))
theorem rd_len : RdW1 wLen dLen := fun F g n ρ ω A o w Qd Q sm nr v q k => by
  refine ⟨w, rfl, ?_⟩
  rcases q with ⟨ds, e, q⟩ | ⟨z, rfl, l, q⟩
  · obtain ⟨ws, r, sq⟩ := v.seq sm e
    exact sq.len (by rw [r.length]; exact kop_i sm nr k q)
  · rw [vo_str v]
    exact ⟨l, kop_i sm nr k q⟩
theorem SeqW.seq {A : AH} {w : W} {ws : List W} (h : SeqW A w ws) : seqW w A ws := by
  rcases h with rfl | rfl | ⟨p, rfl, h⟩
  · exact (rfl : ws = ws)
  · exact (rfl : ws = ws)
  · exact h
def dListOf : R1d := fun o k => ∃ ds, seqO o = some ds ∧ k (.new (.lst none ds))
theorem rd_list : RdW1 wListOf dListOf := fun F g n ρ ω A o w Qd Q sm nr v ⟨ds, e, q⟩ k => by
  obtain ⟨ws, r, sq⟩ := v.seq sm e
  exact ⟨w, ws, rfl, sq.seq, kop_l sm nr k r q⟩
def wTupleOfK : List W → AH → VKw → Prop := fun ws A Q => ∃ w us, ws = [w] ∧ seqW w A us ∧ ((match w with | .ktup _ => True | _ => False) → Q w A) ∧ Q (.tup us) A
theorem cw_tupleK {X : Cx} : CallW X (.type "tuple") wTupleOfK := CallW.of call_tuple_of fun H A vs ws Q ra r ⟨w, us, e, h, hk, q⟩ => by
  subst e
  obtain ⟨v, r0, rfl, r1, r2⟩ := reps_uncons r
  obtain rfl := reps_unnil r2
  cases w with
  | ref p =>
    simp only [rep] at r1
    subst r1
    obtain ⟨vs, s, rs⟩ := isL.sq h ra
    exact ⟨p, vs, rfl, .inl ⟨s, fun l hl => Up.newT ra hl rs q⟩⟩
  | tup zs =>
    have r1' := r1
    simp only [rep] at r1
    obtain ⟨p, vs, rfl, s, rs⟩ := r1
    obtain rfl : zs = us := h
    exact ⟨p, vs, rfl, .inr ⟨SqT.of s, Up.i ra r1' q⟩⟩
  | ktup zs =>
    have r1' := r1
    simp only [rep] at r1
    obtain ⟨p, vs, rfl, s, rs⟩ := r1
    obtain rfl : zs = us := h
    exact ⟨p, vs, rfl, .inr ⟨s, Up.i ra r1' (hk trivial)⟩⟩
  | non => exact False.elim h
  | bl _ => exact False.elim h
  | int _ => exact False.elim h
  | str _ => exact False.elim h
  | ty _ => exact False.elim h
def dTupleOf : R1d := fun o k => ∃ ds, seqO o = some ds ∧ k (.dat (.tup ds))
theorem rd_tuple : RdW1 wTupleOfK dTupleOf := fun F g n ρ ω A o w Qd Q sm nr v ⟨ds, e, q⟩ k => by
  obtain ⟨ws, r, sq⟩ := v.seq sm e
  refine ⟨w, ws, rfl, sq.seq, fun hk => ?_, kop_d sm nr k (by simp only [RD]; exact ⟨ws, .inl rfl, r⟩) q⟩
  rcases sq with rfl | rfl | ⟨p, rfl, h⟩
  · exact hk.elim
  · exact kop_d sm nr k (by simp only [RD]; exact ⟨ws, .inr rfl, r⟩) q
  · exact hk.elim
def dIntOf : R1d := fun o k => match o with
  | .leaf (.int i) => k (.dat (.int i))
  | .leaf (.bl b) => k (.dat (.int (if b then 1 else 0)))
  | _ => False
theorem rd_int : RdW1 wIntOf dIntOf := fun F g n ρ ω A o w Qd Q sm nr v q k => by
  unfold dIntOf at q
  split at q
  · rw [vo_int v]; exact .inl ⟨_, rfl, kop_i sm nr k q⟩
  · rw [vo_bl v]; exact .inr ⟨_, rfl, kop_i sm nr k q⟩
  · exact q.elim
def dStrInt : R1d := fun o k => match o with
  | .leaf (.int i) => i.natAbs.log2 < 1920 ∧ k (.dat (.str (toString i)))
  | _ => False
theorem rd_strInt : RdW1 wStrInt dStrInt := fun F g n ρ ω A o w Qd Q sm nr v q k => by
  unfold dStrInt at q
  split at q
  · rw [vo_int v]; exact ⟨_, rfl, q.1, kop_d sm nr k (by simp only [RD]) q.2⟩
  · exact q.elim
theorem rds_bls {F : Fz} : ∀ {bs : List Bool} {ws : List W}, RDs F (bs.map D.bl) ws → ws = bs.map W.bl
  | [], ws, h => h.unnil
  | b :: bs, ws, h => by
    obtain ⟨w, r, rfl, h1, h2⟩ := h.uncons
    simp only [RD] at h1
    rw [h1, rds_bls h2] <;> rfl
def lstO : O → Option (List D)
  | .leaf (.lst ds) => some ds
  | .lst _ ds => some ds
  | _ => none
theorem VO.lst {F : Fz} {A : AH} {g : Gh} {n : Nat} {ρ : Env} {ω : Sw} {o : O} {w : W} {ds : List D} (v : VO F A o w) (s : Sm F g n ρ ω A) (e : lstO o = some ds) : ∃ p ws, w = .ref p ∧ A.h p = some (.lst ws) ∧ RDs F ds ws := by
  refine vo_lst s v ?_
  cases o with
  | leaf d => cases d <;> cases e; exact .inl rfl
  | lst x es => cases e; exact .inr ⟨x, rfl⟩
  | dic x ks vs => cases e
  | obj x C fs os => cases e
def dAll : R1d := fun o k => ∃ bs : List Bool, lstO o = some (bs.map .bl) ∧ k (.dat (.bl (bs.all id)))
def dAny : R1d := fun o k => ∃ bs : List Bool, lstO o = some (bs.map .bl) ∧ k (.dat (.bl (bs.any id)))
theorem rd_all : RdW1 wAllOf dAll := fun F g n ρ ω A o w Qd Q sm nr v ⟨bs, e, q⟩ k => by
  obtain ⟨p, ws, rfl, h, r⟩ := v.lst sm e
  obtain rfl := rds_bls r
  exact ⟨p, bs, rfl, .inl h, kop_b sm nr k q⟩
theorem rd_any : RdW1 wAnyOf dAny := fun F g n ρ ω A o w Qd Q sm nr v ⟨bs, e, q⟩ k => by
  obtain ⟨p, ws, rfl, h, r⟩ := v.lst sm e
  obtain rfl := rds_bls r
  exact ⟨p, bs, rfl, .inl h, kop_b sm nr k q⟩
/-! sorted -/
def leD (a b : D) : Bool := !ltD b a
def sortD (ds : List D) : List D := ds.mergeSort leD
def dSorted : R1d := fun o k => ∃ ds, lstO o = some ds ∧ ds.length ≤ sizeLine ∧ okds 59 ds = true ∧ (∀ a ∈ ds, ∀ b ∈ ds, alikeD a b = true) ∧ ((∀ d ∈ ds, ∃ x r, d = .tup (x :: r)) ∨ ∀ d ∈ ds, d ≠ .non ∧ ∀ xs, d ≠ .tup xs) ∧ k (.new (.lst none (sortD ds)))
theorem rds_pairs {F : Fz} : ∀ {ds : List D} {ws : List W}, RDs F ds ws → ∃ l : List (D × W), ds = l.map (·.1) ∧ ws = l.map (·.2) ∧ ∀ p ∈ l, RD F p.1 p.2
  | [], ws, r => ⟨[], rfl, r.unnil, fun p h => nomatch h⟩
  | d :: ds, ws, r => by
    obtain ⟨w, u, rfl, r1, r2⟩ := r.uncons
    obtain ⟨l, e1, e2, h⟩ := rds_pairs r2
    exact ⟨(d, w) :: l, by rw [e1]; rfl, by rw [e2]; rfl, fun p hp => by
      rcases List.mem_cons.mp hp with rfl | hp
      · exact r1
      · exact h p hp⟩
theorem pairs_rds {F : Fz} : ∀ {l : List (D × W)}, (∀ p ∈ l, RD F p.1 p.2) → RDs F (l.map (·.1)) (l.map (·.2))
  | [], _ => .nil
  | p :: l, h => .cons (h p List.mem_cons_self) (pairs_rds fun q hq => h q (List.mem_cons_of_mem _ hq))
theorem sort_zip {F : Fz} {ds : List D} {ws : List W} (r : RDs F ds ws) : RDs F (sortD ds) (sortW (toPys ds) ws) := by
  obtain ⟨l, rfl, rfl, h⟩ := rds_pairs r
  have e1 : sortD (l.map (·.1)) = (l.mergeSort fun a b => leD a.1 b.1).map (·.1) := by
    unfold sortD
    exact (List.map_mergeSort (r := fun a b : D × W => leD a.1 b.1) (s := leD) (f := fun x : D × W => x.1) (fun _ _ _ _ => rfl)).symm
  have e2 : sortW (toPys (l.map (·.1))) (l.map (·.2)) = (l.mergeSort fun a b => leD a.1 b.1).map (·.2) := by
    unfold sortW
    rw [toPys_eq, List.map_map, List.zip_map']
    have z := List.map_mergeSort (r := fun a b : D × W => leD a.1 b.1) (s := PySem.W.dataLe false Prod.fst) (f := fun a : D × W => (toPy a.1, a.2)) (l := l) (fun a _ b _ => by
      rw [PySem.W.dataLe_eq]; rfl)
    show List.map Prod.snd ((List.map (fun a : D × W => (toPy a.1, a.2)) l).mergeSort (PySem.W.dataLe false Prod.fst)) = _
    rw [← z, List.map_map]
    rfl
  rw [e1, e2]
  exact pairs_rds fun p hp => h p ((List.mergeSort_perm _ _).mem_iff.mp hp)

theorem okds_mem {n : Nat} {ds : List D} (h : okds n ds = true) {d : D} (hd : d ∈ ds) : okd n d = true := by
  rw [okds_all] at h
  exact List.all_eq_true.mp h d hd
theorem rd_sorted : RdW1 wSorted dSorted := fun F g n ρ ω A o w Qd Q sm nr v ⟨ds, e, l, ok, al, so, q⟩ k => by
  obtain ⟨p, ws, rfl, h, r⟩ := v.lst sm e
  refine ⟨p, ws, toPys ds, rfl, .inl h, ?_, ?_, ?_, by rw [r.length]; exact l, ?_, kop_l sm nr k (sort_zip r) q⟩
  · exact RDs.dl 59 ds ws ok (RDs.mono sm.leAll _ _ r)
  · rw [toPys_eq]
    intro d hd d' hd'
    obtain ⟨a, ha, rfl⟩ := List.mem_map.mp hd
    obtain ⟨b, hb, rfl⟩ := List.mem_map.mp hd'
    exact al a ha b hb
  · rw [toPys_eq]
    refine so.imp (fun z d hd => ?_) fun z d hd => ?_
    · obtain ⟨a, ha, rfl⟩ := List.mem_map.mp hd
      obtain ⟨x, r, rfl⟩ := z a ha
      exact ⟨toPy x, toPys r, by simp [toPy, toPys]⟩
    · obtain ⟨a, ha, rfl⟩ := List.mem_map.mp hd
      obtain ⟨z1, z2⟩ := z a ha
      have oka := okds_mem ok ha
      refine ⟨fun y => z1 ?_, fun xs y => ?_⟩
      · cases a <;> simp [toPy] at y <;> first | rfl | simp [okd] at oka
      · cases a <;> simp [toPy] at y
        exact z2 _ rfl
  · intro d hd
    rw [toPys_eq] at hd
    obtain ⟨a, ha, rfl⟩ := List.mem_map.mp hd
    have := (okd_lay 59 a (okds_mem ok ha)).2
    omega
/-! min, max of two ints -/
def dMin2 : R2d := rI0 fun i j => .int (if j < i then j else i)
theorem rd_min2 : RdW2 wMin2 dMin2 := fun F g n ρ ω A o1 o2 w1 w2 Qd Q sm nr v1 v2 q k => by
  unfold dMin2 rI0 at q
  split at q
  · rename_i i j
    exact ⟨i, j, by rw [vo_int v1, vo_int v2], kop_i sm nr k q⟩
  · exact q.elim
/-! is True, is False -/
def isBW (c : Bool) : W → Bool
  | .bl x => x == c
  | _ => false
def wIsB : R2w := fun a b A Q => ∃ c, b = .bl c ∧ Q (.bl (isBW c a)) A
section
variable {X : Cx}
theorem op_isB : OpR X (compareOp .Is) (fun x y H Q => ∃ c, y = .bl c ∧ Q (.bl (decide (x = .bl c))) H) := by
  intro pins s σ H x y v u Q I rx ry ⟨c, e, q⟩
  subst e
  cases (show u = Value.bool c from ry)
  by_cases e : x = .bl c
  · subst e
    cases (show v = Value.bool c from rx)
    exact wpAny_is_self rfl ⟨.bl true, H, I, rfl, by simpa using q⟩
  · have fin : EP X pins σ Q (.bool false) s := ⟨.bl false, H, I, rfl, by simpa [e] using q⟩
    cases x with
    | bl b =>
      cases (show v = Value.bool b from rx)
      exact wpAny_is_other rfl (fun z => e (by rw [Value.bool.inj z])) fin
    | non => cases (show v = Value.none from rx); exact wpAny_is_other rfl (fun z => nomatch z) fin
    | int i => obtain ⟨t, rfl⟩ := (show ∃ t, v = Value.int i t from rx); exact wpAny_is_other rfl (fun z => nomatch z) fin
    | str i => obtain ⟨t, rfl⟩ := (show ∃ t, v = Value.str i t from rx); exact wpAny_is_other rfl (fun z => nomatch z) fin
    | byt i => obtain ⟨t, rfl⟩ := (show ∃ t, v = Value.bytes i t from rx); exact wpAny_is_other rfl (fun z => nomatch z) fin
    | flt i => obtain ⟨t, rfl⟩ := (show ∃ t, v = Value.float i t from rx); exact wpAny_is_other rfl (fun z => nomatch z) fin
    | ref i => cases (show v = Value.ref i from rx); exact wpAny_is_other rfl (fun z => nomatch z) fin
    | ty i => cases (show v = Value.type i from rx); exact wpAny_is_other rfl (fun z => nomatch z) fin
theorem rep_isB {K : PySem.W.Frag} {H : Hp} {x : V} {a : W} {c : Bool} (h : rep K H x a) : decide (x = V.bl c) = isBW c a := by
  cases a <;> simp only [rep] at h <;> first | (subst h; unfold isBW; cases c <;> (try rename_i b; cases b) <;> decide) | (subst h; simp [isBW]) | (obtain ⟨_, _, e, _⟩ := h; subst e; simp [isBW])
theorem ow_isB : OpW X (compareOp .Is) wIsB := OpW.of op_isB fun H A x y a b Q ra ha hb ⟨c, e, q⟩ => by
  subst e
  simp only [rep] at hb
  exact ⟨c, hb, Up.i ra (by simp only [rep, rep_isB ha]) q⟩
end
def isB (c : Bool) : O → Bool
  | .leaf (.bl x) => x == c
  | _ => false
def dIsB : R2d := fun a b k => match b with
  | .leaf (.bl c) => k (.dat (.bl (isB c a)))
  | _ => False
theorem vo_isB {F : Fz} {A : AH} {o : O} {w : W} {c : Bool} (v : VO F A o w) : isBW c w = isB c o := by
  obtain ⟨g, t, π, r⟩ := v
  cases o with
  | leaf d =>
    cases d <;> simp only [RO, RD] at r
    case tup ds => obtain ⟨ws, e | e, _⟩ := r <;> subst e <;> rfl
    case lst ds => obtain ⟨p, ws, e, _⟩ := r; subst e; rfl
    case dic ks vs => obtain ⟨p, ws, e, _⟩ := r; subst e; rfl
    case obj C fs vs => obtain ⟨p, ws, e, _⟩ := r; subst e; rfl
    case pen => obtain ⟨p, _, e⟩ := r; subst e; rfl
    case scr => obtain ⟨p, _, e, _⟩ := r; subst e; rfl
    case exc a dd C fs vs => obtain ⟨e, _⟩ := r; subst e; rfl
    all_goals (subst r; rfl)
  | lst x ds => simp only [RO] at r; obtain ⟨p, ws, e, _⟩ := r; subst e; rfl
  | dic x ks vs => simp only [RO] at r; obtain ⟨p, ws, e, _⟩ := r; subst e; rfl
  | obj x C fs os => simp only [RO] at r; obtain ⟨p, ws, e, _⟩ := r; subst e; rfl
theorem rd_isB : RdW wIsB dIsB := fun F g n ρ ω A o1 o2 w1 w2 Qd Q sm nr v1 v2 q k => by
  unfold dIsB at q
  split at q
  · rename_i c
    exact ⟨c, vo_bl v2, by rw [vo_isB v1]; exact kop_b sm nr k q⟩
  · exact q.elim
/-! isinstance with built-in types -/
def tyD : O → Option String
  | .leaf .non => some "NoneType"
  | .leaf (.bl _) => some "bool"
  | .leaf (.int _) => some "int"
  | .leaf (.str _) => some "str"
  | .leaf (.tup _) => some "tuple"
  | .leaf (.lst _) => some "list"
  | .lst _ _ => some "list"
  | .leaf (.dic _ _) => some "dict"
  | .dic _ _ _ => some "dict"
  | _ => none
/-- of what built-in types is a value of such a type -/
def isiB (t u : String) : Bool := t == u || (t == "bool" && u == "int")
theorem dicAt_isD {A : AH} {p : Addr} {ks : List D} {ws : List W} (h : DicAt A.h p ks ws) : isDW A p := by
  rcases h with ⟨kk, _, _, e⟩ | ⟨kk, _, _, e⟩
  · exact .inl ⟨_, e⟩
  · exact .inr ⟨_, e⟩
theorem vo_tyO {K : PySem.W.Frag} {F : Fz} {A : AH} {g : Gh} {n : Nat} {ρ : Env} {ω : Sw} {o : O} {w : W} {t : String} (sm : Sm F g n ρ ω A) (v : VO F A o w) (e : tyD o = some t) : tyO K A w (.type t) := by
  have v0 := v
  obtain ⟨g', tg, π, r⟩ := v
  cases o with
  | leaf d =>
    cases d with
    | non => cases e; simp only [RO, RD] at r; subst r; rfl
    | bl b => cases e; simp only [RO, RD] at r; subst r; rfl
    | int b => cases e; simp only [RO, RD] at r; subst r; rfl
    | str b => cases e; simp only [RO, RD] at r; subst r; rfl
    | tup ds => cases e; simp only [RO, RD] at r; obtain ⟨ws, e | e, _⟩ := r <;> subst e <;> rfl
    | lst ds =>
      cases e
      simp only [RO, RD] at r
      obtain ⟨p, ws, e, e2, _⟩ := r
      subst e
      exact .inl ⟨rfl, ws, .inl (sm.fa _ _ e2)⟩
    | dic ks vs =>
      cases e
      simp only [RO, RD] at r
      obtain ⟨p, ws, e, e2, _⟩ := r
      subst e
      exact .inr (.inl ⟨rfl, dicAt_isD (e2.mono (sm.fa _))⟩)
    | _ => cases e
  | lst x ds =>
    cases e
    simp only [RO] at r
    obtain ⟨p, ws, e, _, _, e2, _⟩ := r
    subst e
    exact .inl ⟨rfl, ws, .inl e2⟩
  | dic x ks vs =>
    cases e
    simp only [RO] at r
    obtain ⟨p, ws, e, _, _, e2, _⟩ := r
    subst e
    exact .inr (.inl ⟨rfl, dicAt_isD e2⟩)
  | obj x C fs os => cases e
/-- the built-in types that the kit's look knows -/
structure KitB (K : PySem.W.Frag) : Prop where
  one : ∀ t ∈ (["NoneType", "bool", "int", "str", "tuple", "list", "dict"] : List String), ∀ u ∈ (["bool", "int", "str", "tuple", "list", "dict"] : List String), PySem.W.kitOne K (.type t) (.type u) = some (isiB t u)
theorem tyD_mem {o : O} {t : String} (e : tyD o = some t) : t ∈ (["NoneType", "bool", "int", "str", "tuple", "list", "dict"] : List String) := by
  cases o with
  | leaf d => cases d <;> cases e <;> simp
  | lst _ _ => cases e; simp
  | dic _ _ _ => cases e; simp
  | obj _ _ _ _ => cases e
def dIsi : R2d := fun a b k => match b with
  | .leaf (.ty u) => ∃ t, tyD a = some t ∧ u ∈ (["bool", "int", "str", "tuple", "list", "dict"] : List String) ∧ k (.dat (.bl (isiB t u)))
  | _ => False
theorem vo_ty {F : Fz} {A : AH} {u : String} {w : W} (v : VO F A (.leaf (.ty u)) w) : w = .ty u := by
  have := v.rd
  simpa only [RD] using this
theorem rd_isi {K : PySem.W.Frag} (KB : KitB K) : RdW2 (wIsi K) dIsi := fun F g n ρ ω A o1 o2 w1 w2 Qd Q sm nr v1 v2 q k => by
  unfold dIsi at q
  split at q
  · rename_i u
    obtain ⟨t, e, hu, q⟩ := q
    exact ⟨w1, w2, _, _, _, rfl, .inl ⟨u, vo_ty v2, rfl⟩, vo_tyO sm v1 e, KB.one t (tyD_mem e) u hu, kop_b sm nr k q⟩
  · exact q.elim
/-- .. with a tuple of types -/
def tysD : List D → Option (List String)
  | [] => some []
  | .ty u :: ds => (tysD ds).map (u :: ·)
  | _ :: _ => none
theorem vo_tys {F : Fz} : ∀ {ds : List D} {us : List String} {ws : List W}, RDs F ds ws → tysD ds = some us → ws = us.map .ty
  | [], us, ws, r, e => by cases e; exact r.unnil
  | d :: ds, us, ws, r, e => by
    obtain ⟨w, u, rfl, r1, r2⟩ := r.uncons
    cases d with
    | ty n =>
      simp only [tysD] at e
      cases q : tysD ds with
      | none => rw [q] at e; cases e
      | some vs =>
        rw [q] at e
        cases e
        simp only [RD] at r1
        rw [r1, vo_tys r2 q]
        rfl
    | _ => cases e
theorem paired_tys : ∀ {us : List String}, Paired clsW (us.map W.ty) (us.map Value.type)
  | [] => .nil
  | u :: us => .cons (.inl ⟨u, rfl, rfl⟩) paired_tys
theorem kitAny_tys {K : PySem.W.Frag} (KB : KitB K) {t : String} (ht : t ∈ (["NoneType", "bool", "int", "str", "tuple", "list", "dict"] : List String)) : ∀ {us : List String}, (∀ u ∈ us, u ∈ (["bool", "int", "str", "tuple", "list", "dict"] : List String)) → PySem.W.kitAny K (.type t) (us.map .type) = some (us.any (isiB t))
  | [], _ => rfl
  | u :: us, h => by
    rw [List.map_cons, PySem.W.kitAny, KB.one t ht u (h u List.mem_cons_self)]
    have ih := kitAny_tys KB ht (us := us) fun v hv => h v (List.mem_cons_of_mem _ hv)
    rw [List.any_cons]
    cases isiB t u with
    | true => rfl
    | false => rw [Bool.false_or]; exact ih
def dIsiT : R2d := fun a b k => match b with
  | .leaf (.tup ts) => ∃ t us, tyD a = some t ∧ tysD ts = some us ∧ (∀ u ∈ us, u ∈ (["bool", "int", "str", "tuple", "list", "dict"] : List String)) ∧ k (.dat (.bl (us.any (isiB t))))
  | _ => False
end Dx

set_option Elab.async false
set_option linter.all false
set_option maxRecDepth 100000
set_option maxHeartbeats 4000000
/-! DX8: isinstance with a tuple of types; lists and texts by methods; slices. -/
namespace Dx
open PySem L2 Wx
theorem call_isiTK {X : Cx} : CallR X (.builtin "isinstance") (fun xs H Q => ∃ (x : V) (tp : Addr) (cs : List V) (t : Value) (us : List Value) (b : Bool), xs = [x, .ref tp] ∧ SqT X.K H tp cs ∧ Paired ClsV cs us ∧ TyX X.K H x t ∧ PySem.W.kitAny X.K t us = some b ∧ Q (.bl b) H) := by
  intro pins s σ H xs us Q I r h
  obtain ⟨x, tp, cs, t, ws, b, rfl, hT, k, ty, e, q⟩ := h
  obtain ⟨u1, u2, rfl, r1, r2⟩ := vals2 r
  cases (show u2 = Value.ref tp from r2)
  obtain ⟨P, Z, p, hx⟩ := kit_of I r1 ty
  obtain ⟨its, rv, ⟨o, h1, h2, n, h3⟩, _⟩ := I.tuple hT
  have e3 := ClsV.all k rv
  subst e3
  obtain ⟨oc, od, dt, sl⟩ := o
  simp only at h2 h3
  subst h2 h3
  exact PySem.W.kia_tup Z I.kIn p h1 e hx fun tk => ⟨.bl b, H, I.tok tk, rfl, q⟩
def wIsiTK (K : PySem.W.Frag) : List W → AH → VKw → Prop := fun ws A Q => ∃ x c ts t us b, ws = [x, c] ∧ (c = .tup ts ∨ c = .ktup ts) ∧ Paired clsW ts us ∧ tyO K A x t ∧ (∀ C, t ≠ .ref C) ∧ PySem.W.kitAny K t us = some b ∧ Q (.bl b) A
theorem cw_isiTK {X : Cx} : CallW X (.builtin "isinstance") (wIsiTK X.K) := CallW.of call_isiTK fun H A vs ws Q ra r ⟨x, c, ts, t, us, b, e, ec, hc, ty, hne, hk, q⟩ => by
  subst e
  obtain ⟨v1, r1, rfl, h1, r2⟩ := reps_uncons r
  obtain ⟨v2, r3, rfl, h2, r4⟩ := reps_uncons r2
  obtain rfl := reps_unnil r4
  obtain ⟨tp, cs, rfl, s, rs⟩ := rep_tk h2 ec
  rcases ty.x ra h1 with ty' | ⟨a, C, fs, _, _, _, _, e2⟩
  · exact ⟨v1, tp, cs, t, us, b, rfl, s, clsWs.v hc rs, ty', hk, Up.i ra (by simp only [rep]) q⟩
  · exact absurd e2 (hne C)
theorem rd_isiT {K : PySem.W.Frag} (KB : KitB K) : RdW2 (wIsiTK K) dIsiT := fun F g n ρ ω A o1 o2 w1 w2 Qd Q sm nr v1 v2 q k => by
  unfold dIsiT at q
  split at q
  · rename_i ts
    obtain ⟨t, us, e, eu, hu, q⟩ := q
    have r := v2.rd
    simp only [RD] at r
    obtain ⟨ws, ec, r⟩ := r
    obtain rfl := vo_tys r eu
    exact ⟨w1, w2, _, _, us.map .type, _, rfl, ec, paired_tys, vo_tyO sm v1 e, (fun C z => nomatch z), kitAny_tys KB (tyD_mem e) hu, kop_b sm nr k q⟩
  · exact q.elim

/-! ### own lists by methods -/
/-- the tree that is owned at a place, still -/
def ownAt (i : Nat) (π : List Str) (x : Option Addr) (ρ : Env) (k : O → O → Prop) : Prop := ∃ o o1, ρ[i]? = some (some o) ∧ look o π = some o1 ∧ (π = [] ∨ ∃ a, x = some a ∧ kn o1 = some a) ∧ k o o1
theorem own_still {F F' : Fz} {g g' : Gh} {n : Nat} {ρ : Env} {ω : Sw} {A : AH} {h' : Ah} {i : Nat} {π : List Str} {x : Option Addr} {w : W} {k : O → O → Prop} (r : RS F' h' g' ω (.own i π x) w) (sm : Sm F g n ρ ω A) (q : ownAt i π x ρ k) :
    ∃ o o1, ρ[i]? = some (some o) ∧ look o π = some o1 ∧ k o o1 ∧ (∃ w0, ω[i]? = some (some w0) ∧ PathW A.h w0 π w) := by
  obtain ⟨o, o1, e, l, z, q⟩ := q
  refine ⟨o, o1, e, l, q, ?_⟩
  obtain ⟨_, ⟨w0, e0, p⟩, hx⟩ := r
  rcases z with z | ⟨a, z, z2⟩
  · subst z
    exact ⟨w0, e0, p⟩
  · obtain ⟨w', e', r'⟩ := sm.sl i o e
    obtain ⟨w1, p1, r1, _⟩ := r'.at l
    rw [hx a z, ← r1.kn z2]
    exact ⟨w', e', p1⟩
section
variable {F : Fz} {g : Gh} {n : Nat} {ρ : Env} {ω : Sw} {A : AH}
/-- a list that a slot owns is written -/
theorem Sm.putL (s : Sm F g n ρ ω A) (nr : NoRes g) {i : Nat} {π : List Str} {o : O} {x : Option Addr} {ds ds' : List D} {w : W} (e : ρ[i]? = some (some o)) (l : look o π = some (.lst x ds)) (h : ∃ w0, ω[i]? = some (some w0) ∧ PathW A.h w0 π w) :
    ∃ p ws, w = .ref p ∧ A.h p = some (.lst ws) ∧ RDs F ds ws ∧ ∀ ws', RDs F ds' ws' → Grow F g A F g (A.put p (.lst ws')) ∧ Sm F g n (ρ.set i (some (setO o π (.lst x ds')))) ω (A.put p (.lst ws')) := by
  have r := s.own e l h
  simp only [RO] at r
  obtain ⟨p, ws, ew, ex, gp, ap, r⟩ := r
  refine ⟨p, ws, ew, ap, r, fun ws' r' => ?_⟩
  have ne : ∀ {q l}, g q = some l → l ≠ (.slot i, π) → q ≠ p := fun e n z => by subst z; rw [gp] at e; cases e; exact n rfl
  refine ⟨⟨.refl F, fun k q l e => ⟨e, AH.put_ne (ne e (by intro z; cases z))⟩, fun q u e1 e2 => ⟨by rw [AH.put_ne (fun z => by subst z; rw [gp] at e1; cases e1)]; exact e2, e1, fun z => z⟩⟩, ?_⟩
  exact (s.put (F' := F) (g' := g) (A' := A.put p (.lst ws')) (n' := n) (o2 := .lst x ds') e l h (.refl F) (fun q l e n => ⟨e, AH.put_ne (ne e fun z => by cases z; exact n (List.prefix_refl _))⟩) (fun j hj q l e => ⟨e, AH.put_ne (ne e fun z => by cases z; exact hj rfl)⟩)
    (by simp only [RO]; exact ⟨p, ws', ew, ex, gp, AH.put_same, r'⟩) (fun q u e => by rw [AH.put_ne (fun z => by subst z; rw [s.gf _ _ gp] at e; cases e)]; exact s.fa q u e) s.gf (fun q l e => by
      by_cases z : q = p
      · subst z; exact ⟨_, AH.put_same⟩
      · rw [AH.put_ne z]; exact s.ga q l e) s.tb s.pn).1
end
/-- .. of a list: what a method makes of it -/
def lstK (s : S) (ρ : Env) (k : Prop) : Prop := match s with
  | .own i π _ => ∃ o y ds, ρ[i]? = some (some o) ∧ look o π = some (.lst y ds) ∧ k
  | _ => False
/-- s.m(e), m changing the list ds at s to ds' and handing back r -/
def mutK (s : S) (ρ : Env) (k : List D → (D → List D → Prop) → Prop) (Q : D → Env → Prop) : Prop := match s with
  | .own i π x => ownAt i π x ρ fun o o1 => ∃ y ds, o1 = .lst y ds ∧ k ds fun r ds' => Q r (ρ.set i (some (setO o π (.lst y ds'))))
  | _ => False
def dMut (f : List D → D → (D → List D → Prop) → Prop) (to te : TEd) : TEd := fun ρ n Q X => to ρ n (fun s ρ1 n1 => lstK s ρ1 (te ρ1 n1 (datK fun d ρ2 n2 => mutK s ρ2 (fun ds k => f ds d k) fun r ρ3 => Q (.dat r) ρ3 n2) X)) X
def dMut0 (f : List D → (D → List D → Prop) → Prop) (to : TEd) : TEd := fun ρ n Q X => to ρ n (fun s ρ1 n1 => mutK s ρ1 f fun r ρ3 => Q (.dat r) ρ3 n1) X
/-- what a method of lists does, above as below -/
def MutW (r : W → List W → AH → VKw → Prop) (f : List D → D → (D → List D → Prop) → Prop) : Prop := ∀ F g n ρ ω A p ws ds wy dy Q (k : D → List D → Prop), Sm F g n ρ ω A → A.h p = some (.lst ws) → RDs F ds ws → RD F dy wy → f ds dy k → (∀ d ds' w ws', RD F d w → RDs F ds' ws' → k d ds' → Q w (A.put p (.lst ws'))) → r (.ref p) [wy] A Q
def MutW0 (r : W → List W → AH → VKw → Prop) (f : List D → (D → List D → Prop) → Prop) : Prop := ∀ F g n ρ ω A p ws ds Q (k : D → List D → Prop), Sm F g n ρ ω A → A.h p = some (.lst ws) → RDs F ds ws → f ds k → (∀ d ds' w ws', RD F d w → RDs F ds' ws' → k d ds' → Q w (A.put p (.lst ws'))) → r (.ref p) [] A Q
section
variable {X : Cx} {Ew : XSw} {cl : Cl} {o e : Expr} {to te : TEd} {name : Str} {apos cpos : Pos} {id : String} {r : W → List W → AH → VKw → Prop}
theorem tyW_own {F : Fz} {g : Gh} {n : Nat} {ρ : Env} {ω : Sw} {A : AH} {s : S} {w : W} {k : Prop} (sm : Sm F g n ρ ω A) (rs : RS F A.h g ω s w) (h : lstK s ρ k) : (∃ i π x, s = .own i π x) ∧ NoRes g ∧ tyW "list" w A ∧ k := by
  cases s with
  | own i π x =>
    obtain ⟨o, y, ds, eo, l, q⟩ := h
    have ro := sm.own eo l rs.2.1
    simp only [RO] at ro
    obtain ⟨p, ws, ew, _, _, ap, _⟩ := ro
    subst ew
    exact ⟨⟨i, π, x, rfl⟩, rs.1, .inl ⟨rfl, ws, .inl ap⟩, q⟩
  | dat d => exact h.elim
  | new o => exact h.elim
theorem dMut_lo {f : List D → D → (D → List D → Prop) → Prop} (hf : MutW r f) {ω : Sw} {A : AH} {Q : VKw} (h : upE Ew cl (dMut f to te) ω A Q) : wBM "list" r (upE Ew cl to) (wCons (upE Ew cl te) wNil) ω A Q := by
  obtain ⟨F, g, n, ρ, Qd, Xd, hc, sm, nr, h, x, k⟩ := h
  refine up_s hc sm nr x h fun F1 g1 n1 ρ1 A1 s w hc1 G1 sm1 x1 r1 q => ?_
  obtain ⟨⟨i, π, y, rfl⟩, nr1, ty, q⟩ := tyW_own sm1 r1 q
  refine ⟨ty, up_dat hc1 sm1 nr1 x1 q fun F2 g2 n2 ρ2 A2 d wy hc2 G2 sm2 nr2 x2 ry q => ?_⟩
  obtain ⟨o, o1, eo, l, ⟨y', ds, rfl, q⟩, pw⟩ := own_still r1 sm2 q
  obtain ⟨p, ws, rfl, ap, rds, put⟩ := sm2.putL nr2 (ds' := []) eo l pw
  refine hf F2 g2 n2 ρ2 ω A2 p ws ds wy d Q _ sm2 ap rds ry q fun d' ds' w' ws' rd' rds' q => ?_
  obtain ⟨p', ws2, e', _, _, put⟩ := sm2.putL nr2 (ds' := ds') eo l pw
  cases e'
  obtain ⟨G3, sm3⟩ := put ws' rds'
  exact k _ _ _ _ _ _ _ (G1.trans (G2.trans G3)) sm3 (.d nr2 rd') q
theorem dMut0_lo {f : List D → (D → List D → Prop) → Prop} (hf : MutW0 r f) {ω : Sw} {A : AH} {Q : VKw} (h : upE Ew cl (dMut0 f to) ω A Q) : wBM0 "list" r (upE Ew cl to) ω A Q := by
  obtain ⟨F, g, n, ρ, Qd, Xd, hc, sm, nr, h, x, k⟩ := h
  refine up_s hc sm nr x h fun F1 g1 n1 ρ1 A1 s w hc1 G1 sm1 x1 r1 q => ?_
  cases s with
  | own i π y =>
    obtain ⟨o, o1, eo, l, ⟨y', ds, rfl, q⟩, pw⟩ := own_still r1 sm1 q
    obtain ⟨p, ws, rfl, ap, rds, put⟩ := sm1.putL r1.1 (ds' := []) eo l pw
    refine ⟨.inl ⟨rfl, ws, .inl ap⟩, hf F1 g1 n1 ρ1 ω A1 p ws ds Q _ sm1 ap rds q fun d' ds' w' ws' rd' rds' q => ?_⟩
    obtain ⟨p', ws2, e', _, _, put⟩ := sm1.putL r1.1 (ds' := ds') eo l pw
    cases e'
    obtain ⟨G3, sm3⟩ := put ws' rds'
    exact k _ _ _ _ _ _ _ (G1.trans G3) sm3 (.d r1.1 rd') q
  | dat d => exact q.elim
  | new o => exact q.elim
theorem de_mut {f : List D → D → (D → List D → Prop) → Prop} (slot : Slot "list" name id) (hty : typeOf (.builtin id) = pure (.type "method_descriptor")) (hm : MtW X id r) (hf : MutW r f) (ho : DE X Ew cl o to) (ha : DE X Ew cl e te)
    (hbase : attributeBase o name X.env (eval o X.env) = eval o X.env := by rfl)
    (hfew : ((backTo cpos (starEach [e] X.env)).all (fun x => !x.1) && (backToKw cpos (keywordEach [] X.env)).all (fun x => x.1.isSome)
      && decide ([e].length + ([] : List Keyword).length + (if ([] : List Keyword).isEmpty then 0 else 1) < 30)) = true := by rfl)
    (hline : (apos.endLine == cpos.line) = true := by rfl) (hs : starEach [e] X.env = (false, eval e X.env) :: starEach [] X.env := by rfl) (hplain : (backTo cpos (starEach [] X.env)).any (·.1) = false := by rfl) :
    DE X Ew cl (.Call (.Attribute o name apos) [e] [] cpos) (dMut f to te) :=
  WE.imp (we_bm PySem.F.plainAttrs_list slot hty hm ho (wa_cons ha wa_nil hs) hbase hfew hline hs hplain) fun ω A Q h => dMut_lo hf h
theorem de_mut0 {f : List D → (D → List D → Prop) → Prop} (slot : Slot "list" name id) (hty : typeOf (.builtin id) = pure (.type "method_descriptor")) (hm : MtW X id r) (hf : MutW0 r f) (ho : DE X Ew cl o to)
    (hbase : attributeBase o name X.env (eval o X.env) = eval o X.env := by rfl) (hline : (apos.endLine == cpos.line) = true := by rfl) : DE X Ew cl (.Call (.Attribute o name apos) [] [] cpos) (dMut0 f to) :=
  WE.imp (we_bm0 PySem.F.plainAttrs_list slot hty hm ho hbase hline) fun ω A Q h => dMut0_lo hf h
end
def fAppend (ds : List D) (d : D) (k : D → List D → Prop) : Prop := ds.length < sizeLine ∧ k .non (ds ++ [d])
theorem mu_append : MutW wAppend fAppend := fun F g n ρ ω A p ws ds wy dy Q k sm ap r ry ⟨l, q⟩ kk => ⟨p, ws, wy, rfl, rfl, ap, by rw [r.length]; exact l, kk _ _ _ _ (by simp only [RD]) (r.append (.cons ry .nil)) q⟩
def fPop (ds : List D) (k : D → List D → Prop) : Prop := ∃ d, ds[ds.length - 1]? = some d ∧ k d ds.dropLast
theorem RDs.dropLast {F : Fz} : ∀ {ds : List D} {ws : List W}, RDs F ds ws → RDs F ds.dropLast ws.dropLast
  | ds, ws, r => by
    rw [List.dropLast_eq_take, List.dropLast_eq_take, r.length]
    exact r.take _
theorem mu_pop : MutW0 wPop fPop := fun F g n ρ ω A p ws ds Q k sm ap r ⟨d, e, q⟩ kk => by
  obtain ⟨w, ew, rw'⟩ := r.get e
  exact ⟨p, ws, w, rfl, rfl, ap, by rw [r.length]; exact ew, kk _ _ _ _ rw' r.dropLast q⟩
def fPopAt (ds : List D) (d : D) (k : D → List D → Prop) : Prop := match d with
  | .int i => -(2 ^ 63) ≤ i ∧ i < 2 ^ 63 ∧ ∃ j y, seqIndex? i ds.length = some j ∧ ds[j]? = some y ∧ k y (ds.eraseIdx j)
  | _ => False
theorem mu_popAt : MutW wPopAt fPopAt := fun F g n ρ ω A p ws ds wy dy Q k sm ap r ry q kk => by
  unfold fPopAt at q
  split at q
  · rename_i i
    obtain ⟨l1, l2, j, y, e1, e2, q⟩ := q
    simp only [RD] at ry
    subst ry
    obtain ⟨w, ew, rw'⟩ := r.get e2
    exact ⟨p, ws, i, j, w, rfl, rfl, ap, l1, l2, by rw [r.length]; exact e1, ew, kk _ _ _ _ rw' (r.eraseIdx j) q⟩
  · exact q.elim
def fExtend (ds : List D) (d : D) (k : D → List D → Prop) : Prop := ∃ es, seqO (.leaf d) = some es ∧ ds.length + es.length ≤ sizeLine ∧ k .non (ds ++ es)
theorem mu_extend : MutW wExtend fExtend := fun F g n ρ ω A p ws ds wy dy Q k sm ap r ry ⟨es, e, l, q⟩ kk => by
  cases dy with
  | tup fs =>
    cases e
    simp only [RD] at ry
    obtain ⟨us, ey, ru⟩ := ry
    exact ⟨p, ws, wy, us, rfl, rfl, ap, .inl (by rcases ey with rfl | rfl <;> exact rfl), by rw [r.length, ru.length]; exact l, kk _ _ _ _ (by simp only [RD]) (r.append ru) q⟩
  | lst fs =>
    cases e
    simp only [RD] at ry
    obtain ⟨p2, us, ey, e2, ru⟩ := ry
    exact ⟨p, ws, wy, us, rfl, rfl, ap, .inr ⟨p2, ey, sm.fa _ _ e2⟩, by rw [r.length, ru.length]; exact l, kk _ _ _ _ (by simp only [RD]) (r.append ru) q⟩
  | _ => cases e
end Dx

set_option Elab.async false
set_option linter.all false
set_option maxRecDepth 100000
set_option maxHeartbeats 4000000
/-! DX9: slices, methods of texts, what is walked by enumerate and zip. -/
namespace Dx
open PySem L2 Wx
/-! ### slices -/
def rwSlK (w : W) (lo hi : Option Int) (A : AH) (Q : VKw) : Prop := (∃ xs, (w = .tup xs ∨ w = .ktup xs) ∧ Q (.tup (cut xs lo hi)) A ∧ (cut xs lo hi = xs → Q w A)) ∨ (∃ z, w = .str z ∧ z.length ≤ sizeLine ∧ Q (.str (cutS z lo hi)) A) ∨
  ∃ p xs, w = .ref p ∧ isL A p xs ∧ ∀ r, A.h r = none → Q (.ref r) (A.put r (.lst (cut xs lo hi)))
def wSlK (te : TEw) (tl th : TOw) : TEw := fun ω A Q => te ω A fun w A1 => tl ω A1 fun l A2 => th ω A2 fun u A3 => rwSlK w l u A3 Q
section
variable {X : Cx}
theorem we_sliceK {e : Expr} {lo hi : Option Expr} {te : TEw} {tl th : TOw} {pos p2 : Pos} (he : WE X e te) (hl : WP X lo tl) (hu : WP X hi th) : WE X (.Subscript e (.Slice lo hi none p2) pos) (wSlK te tl th) :=
  WE.of (pe_slice sl_any he.pe hl.po hu.po) fun σ H ω A Q sm ra h => lo_i sm ra h fun v H1 w A1 t1 sm1 ra1 r h1 =>
    ⟨ω, A1, _, sm1, ra1, h1, fun l H2 A2 t2 sm2 ra2 h2 => ⟨ω, A2, _, sm2, ra2, h2, fun u H3 A3 t3 sm3 ra3 h3 => by
      have r3 := rep_mono (t2.trans t3) _ _ r
      have T := t1.trans (t2.trans t3)
      rcases h3 with ⟨xs, ew, q1, q2⟩ | ⟨z, rfl, l, q⟩ | ⟨p, xs, rfl, hl, q⟩
      · obtain ⟨p, vs, e, s, rs⟩ := rep_tk r3 ew
        refine .inr (.inl ⟨p, vs, e, s, fun hw => ?_, fun _ q hq => Up.trans T (Up.newT ra3 hq (reps_cut l u rs) q1)⟩)
        exact Up.trans T (Up.i ra3 (e ▸ r3) (q2 (sIx_whole hw (reps_length rs).symm)))
      · simp only [rep] at r3
        exact .inr (.inr ⟨z, r3, l, Up.trans T (Up.i ra3 (by simp only [rep]) q)⟩)
      · simp only [rep] at r3
        obtain ⟨vs, s, rs⟩ := hl.sq ra3
        exact .inl ⟨p, vs, r3, s, fun q' hq => Up.trans T (Up.new ra3 hq (reps_cut l u rs) q)⟩⟩⟩
end
abbrev TOd := Env → Nat → (Option Int → Env → Nat → Prop) → XD → Prop
def upO (Ew : XSw) (cl : Cl) (t : TOd) : TOw := fun ω A Q => ∃ F g n ρ Qd Xd, F.cl = cl ∧ Sm F g n ρ ω A ∧ NoRes g ∧ t ρ n Qd Xd ∧ XOk F g A (atS ω Ew) Xd ∧ ∀ F' g' n' ρ' A' o, Grow F g A F' g' A' → Sm F' g' n' ρ' ω A' → NoRes g' → Qd o ρ' n' → Q o A'
abbrev DP (X : Cx) (Ew : XSw) (cl : Cl) (e : Option Expr) (t : TOd) : Prop := WP X e (upO Ew cl t)
def dNoPart : TOd := fun ρ n Q _ => Q none ρ n
def dPart (t : TEd) : TOd := fun ρ n Q X => t ρ n (fun s ρ1 n1 => match s with
  | .dat (.int i) => Q (some i) ρ1 n1
  | _ => False) X
def cutD (o : O) (lo hi : Option Int) (k : S → Prop) : Prop := match o with
  | .leaf (.str z) => z.length ≤ sizeLine ∧ k (.dat (.str (cutS z lo hi)))
  | .leaf (.tup ds) => k (.dat (.tup (cut ds lo hi)))
  | .leaf (.lst ds) => k (.new (.lst none (cut ds lo hi)))
  | .lst _ ds => k (.new (.lst none (cut ds lo hi)))
  | _ => False
def dSl (te : TEd) (tl th : TOd) : TEd := fun ρ n Q X => te ρ n (fzK fun s ρ1 n1 => tl ρ1 n1 (fun lo ρ2 n2 => th ρ2 n2 (fun hi ρ3 n3 => wO0 s ρ3 fun o => cutD o lo hi fun s' => Q s' ρ3 n3) X) X) X
section
variable {X : Cx} {Ew : XSw} {cl : Cl} {e : Expr} {te : TEd} {tl th : TOd} {lo hi : Option Expr} {pos p2 : Pos}
theorem WP.imp {t t' : TOw} {e : Option Expr} (h : WP X e t) (c : ∀ ω A Q, t' ω A Q → t ω A Q) : WP X e t' := ⟨PO.imp h.po fun σ H Q ⟨ω, A, Q', sm, ra, h, k⟩ => ⟨ω, A, Q', sm, ra, c _ _ _ h, k⟩⟩
theorem dp_none : DP X Ew cl none dNoPart := WP.imp wp_none fun ω A Q ⟨F, g, n, ρ, Qd, Xd, hc, sm, nr, h, x, k⟩ => k _ _ _ _ _ _ (.refl F g A) sm nr h
theorem dp_some (h : DE X Ew cl e te) : DP X Ew cl (some e) (dPart te) := WP.imp (wp_some h) fun ω A Q ⟨F, g, n, ρ, Qd, Xd, hc, sm, nr, h, x, k⟩ =>
  up_s hc sm nr x h fun F1 g1 n1 ρ1 A1 s w hc1 G1 sm1 x1 r1 q => by
    split at q
    · rename_i i
      obtain ⟨nr1, r1⟩ := r1
      simp only [RD] at r1
      exact ⟨i, r1, k _ _ _ _ _ _ G1 sm1 nr1 q⟩
    · exact q.elim
theorem RDs.cut {F : Fz} {ds : List D} {ws : List W} (l u : Option Int) (r : RDs F ds ws) : RDs F (Wx.cut ds l u) (Wx.cut ws l u) := by
  unfold Wx.cut
  rw [r.length]
  exact (r.drop _).take _
theorem de_slice (he : DE X Ew cl e te) (hl : DP X Ew cl lo tl) (hu : DP X Ew cl hi th) : DE X Ew cl (.Subscript e (.Slice lo hi none p2) pos) (dSl te tl th) := WE.imp (we_sliceK he hl hu) fun ω A Q ⟨F, g, n, ρ, Qd, Xd, hc, sm, nr, h, x, k⟩ =>
  up_fz hc sm nr x h fun F1 g1 n1 ρ1 A1 s w hc1 G1 sm1 nr1 x1 r1 nn q => ⟨F1, g1, n1, ρ1, _, _, hc1, sm1, nr1, q, x1, fun F2 g2 n2 ρ2 A2 l G2 sm2 nr2 q => ⟨F2, g2, n2, ρ2, _, _, G2.le.cl.trans hc1, sm2, nr2, q, x1.grow G2, fun F3 g3 n3 ρ3 A3 u G3 sm3 nr3 q => by
    have G := G1.trans (G2.trans G3)
    obtain ⟨o, v, q⟩ := RS.look0 sm3 (G2.trans G3).le r1 q
    have kk : KOp F3 g3 n3 ρ3 ω A3 (fun s' => Qd s' ρ3 n3) Q := fun F' g' A' s w G' sm' r' q => k _ _ _ _ _ _ _ (G.trans G') sm' r' q
    unfold cutD at q
    split at q
    · rename_i z
      exact .inr (.inl ⟨z, vo_str v, q.1, kop_d sm3 nr3 kk (by simp only [RD]) q.2⟩)
    · rename_i ds
      have r := v.rd
      have r' := r
      simp only [RD] at r
      obtain ⟨ws, ew, r⟩ := r
      refine .inl ⟨ws, ew, kop_d sm3 nr3 kk (by simp only [RD]; exact ⟨_, .inl rfl, r.cut l u⟩) q, fun z => kop_d sm3 nr3 kk ?_ q⟩
      simp only [RD]
      exact ⟨ws, ew, by have := r.cut l u; rw [z] at this; exact this⟩
    · obtain ⟨p, ws, ew, ap, r⟩ := v.lst sm3 rfl
      exact .inr (.inr ⟨p, ws, ew, .inl ap, kop_l sm3 nr3 kk (r.cut l u) q⟩)
    · obtain ⟨p, ws, ew, ap, r⟩ := v.lst sm3 rfl
      exact .inr (.inr ⟨p, ws, ew, .inl ap, kop_l sm3 nr3 kk (r.cut l u) q⟩)
    · exact q.elim⟩⟩
end
/-! ### methods of texts: s.m(e) -/
def RdM (r : W → List W → AH → VKw → Prop) (rd : R2d) : Prop := ∀ F g n ρ ω A o1 o2 w1 w2 Qd (Q : VKw), Sm F g n ρ ω A → NoRes g → VO F A o1 w1 → VO F A o2 w2 → rd o1 o2 Qd → KOp F g n ρ ω A Qd Q → r w1 [w2] A Q
def isStrS : S → Bool
  | .dat (.str _) => true
  | _ => false
def dMS (rd : R2d) (to te : TEd) : TEd := fun ρ n Q X => to ρ n (fun s1 ρ1 n1 => isStrS s1 = true ∧ te ρ1 n1 (fun s2 ρ2 n2 => wO0 s1 ρ2 fun o1 => wO s2 ρ2 fun o2 => rd o1 o2 fun s => Q s ρ2 n2) X) X
section
variable {X : Cx} {Ew : XSw} {cl : Cl} {o e : Expr} {to te : TEd} {name : Str} {apos cpos : Pos} {id : String} {r : W → List W → AH → VKw → Prop} {rd : R2d}
theorem de_ms (slot : Slot "str" name id) (hty : typeOf (.builtin id) = pure (.type "method_descriptor")) (hm : MtW X id r) (hr : RdM r rd) (ho : DE X Ew cl o to) (ha : DE X Ew cl e te)
    (hbase : attributeBase o name X.env (eval o X.env) = eval o X.env := by rfl)
    (hfew : ((backTo cpos (starEach [e] X.env)).all (fun x => !x.1) && (backToKw cpos (keywordEach [] X.env)).all (fun x => x.1.isSome)
      && decide ([e].length + ([] : List Keyword).length + (if ([] : List Keyword).isEmpty then 0 else 1) < 30)) = true := by rfl)
    (hline : (apos.endLine == cpos.line) = true := by rfl) (hs : starEach [e] X.env = (false, eval e X.env) :: starEach [] X.env := by rfl) (hplain : (backTo cpos (starEach [] X.env)).any (·.1) = false := by rfl) :
    DE X Ew cl (.Call (.Attribute o name apos) [e] [] cpos) (dMS rd to te) :=
  WE.imp (we_bm PySem.F.plainAttrs_str slot hty hm ho (wa_cons ha wa_nil hs) hbase hfew hline hs hplain) fun ω A Q ⟨F, g, n, ρ, Qd, Xd, hc, sm, nr, h, x, k⟩ =>
    up_s hc sm nr x h fun F1 g1 n1 ρ1 A1 s1 w1 hc1 G1 sm1 x1 r1 ⟨hs1, q⟩ => by
      cases s1 with
      | dat d =>
        cases d with
        | str z =>
          obtain ⟨nr1, r1⟩ := r1
          have r1' := r1
          simp only [RD] at r1
          subst r1
          refine ⟨rfl, up_s hc1 sm1 nr1 x1 q fun F2 g2 n2 ρ2 A2 s2 w2 hc2 G2 sm2 x2 r2 h2 => ?_⟩
          have h2' : wO s2 ρ2 fun o2 => rd (.leaf (.str z)) o2 fun s => Qd s ρ2 n2 := h2
          obtain ⟨F3, g3, o2, G3, sm3, nr3, v2, h4⟩ := RS.lookF sm2 r2 h2'
          have v1 : VO F3 A2 (.leaf (.str z)) (.str z) := VO.leaf (by simp only [RD])
          exact hr F3 g3 n2 ρ2 ω A2 _ o2 _ w2 _ Q sm3 nr3 v1 v2 h4 fun F' g' A' s w G' sm' r' q => k F' g' n2 ρ2 A' s w ((G1.trans G2).trans (G3.trans G')) sm' r' q
        | _ => cases hs1
      | new o => cases hs1
      | own i π y => cases hs1
end
def dSplit : R2d := fun a b k => match a, b with
  | .leaf (.str x), .leaf (.str y) => (y.length == 0) = false ∧ x.length + 2 ≤ sizeLine ∧ k (.new (.lst none ((Txt.split x y).map .str)))
  | _, _ => False
theorem rds_strs {F : Fz} : ∀ {ys : List Str}, RDs F (ys.map D.str) (ys.map W.str)
  | [] => .nil
  | y :: ys => .cons (by simp only [RD]) rds_strs
theorem rds_strs_inv {F : Fz} : ∀ {ys : List Str} {ws : List W}, RDs F (ys.map D.str) ws → ws = ys.map W.str
  | [], ws, h => h.unnil
  | y :: ys, ws, h => by
    obtain ⟨w, r, rfl, h1, h2⟩ := h.uncons
    simp only [RD] at h1
    rw [h1, rds_strs_inv h2] <;> rfl
theorem rd_split : RdM wSplit dSplit := fun F g n ρ ω A o1 o2 w1 w2 Qd Q sm nr v1 v2 q k => by
  unfold dSplit at q
  split at q
  · rename_i x y
    exact ⟨x, y, vo_str v1, by rw [vo_str v2], q.1, q.2.1, kop_l sm nr k rds_strs q.2.2⟩
  · exact q.elim
def dJoin : R2d := fun a b k => match a with
  | .leaf (.str x) => ∃ ys : List Str, seqO b = some (ys.map .str) ∧ (ys.map (·.length)).sum + ys.length * x.length ≤ 16777216 ∧ k (.dat (.str (Txt.join x ys)))
  | _ => False
theorem rd_join : RdM wJoin dJoin := fun F g n ρ ω A o1 o2 w1 w2 Qd Q sm nr v1 v2 q k => by
  unfold dJoin at q
  split at q
  · rename_i x
    obtain ⟨ys, e, l, q⟩ := q
    obtain ⟨ws, r, sq⟩ := v2.seq sm e
    obtain rfl := rds_strs_inv r
    exact ⟨x, w2, ys, vo_str v1, rfl, sq.seq, l, kop_d sm nr k (by simp only [RD]) q⟩
  · exact q.elim
/-! ### enumerate, zip -/
def enumD (ds : List D) : List D := ds.mapIdx fun i d => .tup [.int (i : Nat), d]
def zipD (xs ys : List D) : List D := (xs.zip ys).map fun p => .tup [p.1, p.2]
theorem rds_enum {F : Fz} {ds : List D} {ws : List W} (r : RDs F ds ws) : RDs F (enumD ds) (enumW ws) := by
  have key : ∀ (ds : List D) (ws : List W) (f : Nat → Nat), RDs F ds ws → RDs F (ds.mapIdx fun i d => .tup [.int (f i : Nat), d]) (ws.mapIdx fun i w => .tup [.int (f i : Nat), w]) := by
    intro ds
    induction ds with
    | nil => intro ws f r; rw [r.unnil]; exact .nil
    | cons d ds ih =>
      intro ws f r
      obtain ⟨w, u, rfl, r1, r2⟩ := r.uncons
      rw [List.mapIdx_cons, List.mapIdx_cons]
      exact .cons (by simp only [RD]; exact ⟨_, .inl rfl, .cons (by simp only [RD]) (.cons r1 .nil)⟩) (ih u (fun i => f (i + 1)) r2)
  exact key ds ws id r
theorem rds_zip {F : Fz} : ∀ {xs ys : List D} {us vs : List W}, RDs F xs us → RDs F ys vs → RDs F (zipD xs ys) (zipW us vs)
  | [], ys, us, vs, r, r' => by rw [r.unnil]; exact .nil
  | x :: xs, [], us, vs, r, r' => by
    obtain ⟨w, u, rfl, r1, r2⟩ := r.uncons
    rw [r'.unnil]
    exact .nil
  | x :: xs, y :: ys, us, vs, r, r' => by
    obtain ⟨w, u, rfl, r1, r2⟩ := r.uncons
    obtain ⟨w', u', rfl, r1', r2'⟩ := r'.uncons
    exact .cons (by simp only [RD]; exact ⟨_, .inl rfl, .cons r1 (.cons r1' .nil)⟩) (rds_zip r2 r2')
def dEnum (ta : TAd) : TId := fun ρ n Q X => ta ρ n (fun ds ρ1 n1 => match ds with
  | [.lst xs] => Q (enumD xs) ρ1 n1
  | _ => False) X
def dZip (ta : TAd) : TId := fun ρ n Q X => ta ρ n (fun ds ρ1 n1 => match ds with
  | [.lst xs, .lst ys] => Q (zipD xs ys) ρ1 n1
  | [.tup xs, .tup ys] => Q (zipD xs ys) ρ1 n1
  | _ => False) X
section
variable {X : Cx} {Ew : XSw} {cl : Cl} {e e2 : Expr} {ta : TAd} {p pos tpos : Pos} {elts : List Expr} {kk : Nat}
theorem di_enum (hg : Gl X "enumerate") (hm : X.mg "enumerate" = none) (ha : DA X Ew cl [e] ta) (hs : starEach [e] X.env = [(false, eval e X.env)] := by rfl) : DI X Ew cl (.Tuple elts kk tpos) (.Call (.Name "enumerate" p) [e] [] pos) (dEnum ta) :=
  WI.imp (wi_enum hg hm ha hs) fun ω A R ⟨F, g, n, ρ, Qd, Xd, hc, sm, nr, h, x, k⟩ => up_a hc sm nr x h fun F1 g1 n1 ρ1 A1 ds ws hc1 G1 sm1 nr1 x1 r1 q => by
    split at q
    · rename_i xs
      obtain ⟨w, u, rfl, r, r2⟩ := r1.uncons
      obtain rfl := r2.unnil
      simp only [RD] at r
      obtain ⟨a, us, rfl, e2, r⟩ := r
      exact ⟨a, us, rfl, .inl (sm1.fa _ _ e2), k _ _ _ _ _ _ _ _ G1 sm1 nr1 (rds_enum r) (fun F2 A2 l fa => .inl (fa _ _ (l.h _ _ e2))) q⟩
    · exact q.elim
theorem di_zip (hg : Gl X "zip") (hm : X.mg "zip" = none) (ha : DA X Ew cl [e, e2] ta) (hs : starEach [e, e2] X.env = (false, eval e X.env) :: starEach [e2] X.env := by rfl) (hpl : (backTo pos (starEach [e2] X.env)).any (·.1) = false := by rfl) :
    DI X Ew cl (.Tuple elts kk tpos) (.Call (.Name "zip" p) [e, e2] [] pos) (dZip ta) :=
  WI.imp (wi_zip hg hm ha hs hpl) fun ω A R ⟨F, g, n, ρ, Qd, Xd, hc, sm, nr, h, x, k⟩ => up_a hc sm nr x h fun F1 g1 n1 ρ1 A1 ds ws hc1 G1 sm1 nr1 x1 r1 q => by
    split at q
    · rename_i xs ys
      obtain ⟨w, u, rfl, r, r2⟩ := r1.uncons
      obtain ⟨w2, u2, rfl, r', r2⟩ := r2.uncons
      obtain rfl := r2.unnil
      simp only [RD] at r r'
      obtain ⟨a, us, rfl, e2, r⟩ := r
      obtain ⟨b, vs, rfl, e2', r'⟩ := r'
      exact .inl ⟨a, b, us, vs, rfl, .inl (sm1.fa _ _ e2), .inl (sm1.fa _ _ e2'), k _ _ _ _ _ _ _ _ G1 sm1 nr1 (rds_zip r r') (fun F2 A2 l fa => ⟨.inl (fa _ _ (l.h _ _ e2)), .inl (fa _ _ (l.h _ _ e2'))⟩) q⟩
    · rename_i xs ys
      obtain ⟨w, u, rfl, r, r2⟩ := r1.uncons
      obtain ⟨w2, u2, rfl, r', r2⟩ := r2.uncons
      obtain rfl := r2.unnil
      simp only [RD] at r r'
      obtain ⟨us, ew, r⟩ := r
      obtain ⟨vs, ew', r'⟩ := r'
      exact .inr ⟨w, w2, us, vs, rfl, by rcases ew with rfl | rfl <;> exact rfl, by rcases ew' with rfl | rfl <;> exact rfl, k _ _ _ _ _ _ _ _ G1 sm1 nr1 (rds_zip r r') (fun _ _ _ _ => trivial) q⟩
    · exact q.elim
end
end Dx

set_option Elab.async false
set_option linter.all false
set_option maxRecDepth 100000
set_option maxHeartbeats 4000000
/-! DX10: instances: fields, methods, making. -/
namespace Dx
open PySem L2 Wx
theorem ROs.len {F : Fz} {h : Ah} {g : Gh} {t : Tag} : ∀ {π : List Str} {fs : List Str} {os : List O} {ws : List W}, ROs F h g t π fs os ws → ws.length = os.length
  | π, fs, [], ws, r => by
    simp only [ROs] at r
    subst r
    rfl
  | π, fs, o :: os, ws, r => by
    simp only [ROs] at r
    obtain ⟨_, _, _, u, _, rfl, _, h2⟩ := r
    rw [List.length_cons, List.length_cons, ROs.len h2]
/-! ### re-pathed trees -/
section
variable {F F' : Fz} {h h' : Ah} {g g' : Gh} {t t' : Tag} {π : List Str}
/-- what bears t at l bears t' at π ++ l -/
def Shift (h h' : Ah) (g g' : Gh) (t t' : Tag) (π : List Str) : Prop := ∀ p l, g p = some (t, l) → g' p = some (t', π ++ l) ∧ h' p = h p
mutual
theorem RO.shift (l : F.le F') (k : Shift h h' g g' t t' π) : ∀ (κ : List Str) (o : O) (w : W), RO F h g t κ o w → RO F' h' g' t' (π ++ κ) o w
  | κ, .leaf d, w, x => by
    simp only [RO] at x ⊢
    exact RD.mono l d w x
  | κ, .lst _ ds, w, x => by
    simp only [RO] at x ⊢
    obtain ⟨p, ws, e, ex, e1, e2, r⟩ := x
    obtain ⟨k1, k2⟩ := k p _ e1
    exact ⟨p, ws, e, ex, k1, k2.trans e2, RDs.mono l _ _ r⟩
  | κ, .dic _ ks vs, w, x => by
    simp only [RO] at x ⊢
    obtain ⟨p, ws, e, ex, e1, e2, r⟩ := x
    obtain ⟨k1, k2⟩ := k p _ e1
    exact ⟨p, ws, e, ex, k1, e2.at k2, RDs.mono l _ _ r⟩
  | κ, .obj _ C fs os, w, x => by
    simp only [RO] at x ⊢
    obtain ⟨p, ws, e, ex, e1, e2, e3, nd, r⟩ := x
    obtain ⟨k1, k2⟩ := k p _ e1
    exact ⟨p, ws, e, ex, k1, by rw [l.cl]; exact k2.trans e2, e3, nd, ROs.shift l k κ fs os ws r⟩
theorem ROs.shift (l : F.le F') (k : Shift h h' g g' t t' π) : ∀ (κ : List Str) (fs : List Str) (os : List O) (ws : List W), ROs F h g t κ fs os ws → ROs F' h' g' t' (π ++ κ) fs os ws
  | κ, fs, [], ws, x => by simpa only [ROs] using x
  | κ, fs, o :: os, ws, x => by
    simp only [ROs] at x ⊢
    obtain ⟨f, r, w, u, e1, e2, h1, h2⟩ := x
    refine ⟨f, r, w, u, e1, e2, ?_, ROs.shift l k κ r os u h2⟩
    rw [List.append_assoc]
    exact RO.shift l k _ o w h1
end
end
def renO (x : Option Addr) : O → O
  | .lst _ ds => .lst x ds
  | .dic _ ks vs => .dic x ks vs
  | .obj _ C fs os => .obj x C fs os
  | o => o
theorem RO.named {F : Fz} {h : Ah} {g : Gh} {t : Tag} {π : List Str} {C : Str} {fs : List Str} {os : List O} {x : Option Addr} {a : Addr} (r : RO F h g t π (.obj x C fs os) (.ref a)) : RO F h g t π (.obj (some a) C fs os) (.ref a) := by
  simp only [RO] at r ⊢
  obtain ⟨p, ws, e, ex, r⟩ := r
  cases e
  exact ⟨a, ws, rfl, fun b z => by cases z; rfl, r⟩
theorem RO.unnamed {F : Fz} {h : Ah} {g : Gh} {t : Tag} {π : List Str} {C : Str} {fs : List Str} {os : List O} {x y : Option Addr} {a : Addr} (r : RO F h g t π (.obj x C fs os) (.ref a)) (hy : ∀ b, y = some b → a = b) : RO F h g t π (.obj y C fs os) (.ref a) := by
  simp only [RO] at r ⊢
  obtain ⟨p, ws, e, ex, r⟩ := r
  cases e
  exact ⟨a, ws, rfl, hy, r⟩
/-! ### fields -/
/-- the classes cs have a field f -/
def FldK (K : PySem.W.Frag) (cl : Cl) (f : Str) (cs : List Str) : Prop := ∀ C ∈ cs, Cls K (cl C) ∧ NoAttr K (cl C) f
def resO (i : Nat) (π : List Str) : O → S
  | .leaf d => .dat d
  | o => .own i π (kn o)
def dFld (f : Str) (cs : List Str) (te : TEd) : TEd := fun ρ n Q X => te ρ n (fzK fun s ρ1 n1 => match s with
  | .dat (.obj C fs vs) => C ∈ cs ∧ ∃ v, (fs.zip vs).lookup f = some v ∧ Q (.dat v) ρ1 n1
  | .own i π _ => ∃ o x C fs os o1, ρ1[i]? = some (some o) ∧ look o π = some (.obj x C fs os) ∧ C ∈ cs ∧ lookF fs os f = some o1 ∧ Q (resO i (π ++ [f]) o1) ρ1 n1
  | _ => False) X
theorem rds_lookup {F : Fz} {f : Str} : ∀ {fs : List Str} {vs : List D} {ws : List W} {v : D}, RDs F vs ws → (fs.zip vs).lookup f = some v → ∃ w, (fs.zip ws).lookup f = some w ∧ RD F v w
  | [], vs, ws, v, r, e => by simp at e
  | g :: fs, [], ws, v, r, e => by simp at e
  | g :: fs, v' :: vs, ws, v, r, e => by
    obtain ⟨w, u, rfl, r1, r2⟩ := r.uncons
    rw [List.zip_cons_cons, List.lookup_cons] at e ⊢
    cases q : f == g with
    | true => rw [q] at e; cases e; exact ⟨w, rfl, r1⟩
    | false => rw [q] at e; exact rds_lookup r2 e
theorem PathW.snoc {h : Ah} {f : Str} {p : Addr} {C : Addr} {wfs : List (Str × W)} {w1 : W} : ∀ {π : List Str} {w : W}, PathW h w π (.ref p) → h p = some (.ins C wfs) → wfs.lookup f = some w1 → PathW h w (π ++ [f]) w1
  | [], w, e, e1, e2 => ⟨p, C, wfs, w1, e.symm, e1, e2, rfl⟩
  | g :: π, w, ⟨q, C', y, w2, d1, d2, d3, d4⟩, e1, e2 => ⟨q, C', y, w2, d1, d2, d3, d4.snoc e1 e2⟩
section
variable {X : Cx} {Ew : XSw} {cl : Cl} {e o value : Expr} {te tv : TEd} {pos pos' apos tpos : Pos} {f m x : Str} {cs : List Str}
theorem de_fld (FK : FldK X.K cl f cs) (he : DE X Ew cl e te) (hb : attributeBase e f X.env (eval e X.env) = eval e X.env := by rfl) : DE X Ew cl (.Attribute e f pos) (dFld f cs te) := WE.imp (we_fld he hb) fun ω A Q ⟨F, g, n, ρ, Qd, Xd, hc, sm, nr, h, x, k⟩ =>
  up_fz hc sm nr x h fun F1 g1 n1 ρ1 A1 s w hc1 G1 sm1 nr1 x1 r1 nn q => by
    split at q
    · rename_i C fs vs
      obtain ⟨hC, v, lv, q⟩ := q
      obtain ⟨_, r1⟩ := r1
      simp only [RD] at r1
      obtain ⟨p, ws, e, ep, el, r⟩ := r1
      obtain ⟨w1, lw, rw'⟩ := rds_lookup r lv
      rw [hc1] at ep
      exact ⟨p, cl C, _, w1, e, sm1.fa _ _ ep, (FK C hC).1, (FK C hC).2, lw, k _ _ _ _ _ _ _ G1 sm1 (.d nr1 rw') q⟩
    · rename_i i π y
      obtain ⟨o, x, C, fs, os, o1, eo, l, hC, lf, q⟩ := q
      have ro := sm1.own eo l r1.2.1
      simp only [RO] at ro
      obtain ⟨p, ws, e, ex, gp, ap, el, nd, r⟩ := ro
      subst e
      obtain ⟨w1, lw, r2⟩ := r.get lf
      rw [hc1] at ap
      refine ⟨p, cl C, _, w1, rfl, ap, (FK C hC).1, (FK C hC).2, lw, ?_⟩
      obtain ⟨_, ⟨w0, e0, pw⟩, hx⟩ := r1
      have pw' : PathW A1.h w0 (π ++ [f]) w1 := pw.snoc ap lw
      cases o1 with
      | leaf d => exact k _ _ _ _ _ _ _ G1 sm1 (.d nr1 (by simpa only [RO] using r2)) q
      | lst z ds => exact k _ _ _ _ _ _ _ G1 sm1 (.o nr1 e0 pw' fun a za => r2.kn za) q
      | dic z ks vs => exact k _ _ _ _ _ _ _ G1 sm1 (.o nr1 e0 pw' fun a za => r2.kn za) q
      | obj z C' fs' os' => exact k _ _ _ _ _ _ _ G1 sm1 (.o nr1 e0 pw' fun a za => r2.kn za) q
    · exact q.elim
end
/-! stores -/
def putN (f : Str) : List Str → List Str
  | [] => [f]
  | g :: fs => if g = f then g :: fs else g :: putN f fs
def putO (f : Str) (u : O) : List Str → List O → List O
  | g :: fs, o :: os => if g = f then u :: os else o :: putO f u fs os
  | _, _ => [u]
theorem putN_len {f : Str} {u : O} : ∀ {fs : List Str} {os : List O}, fs.length = os.length → (putN f fs).length = (putO f u fs os).length
  | [], [], _ => rfl
  | g :: fs, o :: os, e => by
    unfold putN putO
    by_cases z : g = f
    · rw [if_pos z, if_pos z]; simpa using e
    · rw [if_neg z, if_neg z, List.length_cons, List.length_cons, putN_len (by simpa using e)]
theorem putN_mem {f x : Str} : ∀ {fs : List Str}, x ∈ putN f fs → x = f ∨ x ∈ fs
  | [], h => .inl (by simpa [putN] using h)
  | g :: fs, h => by
    unfold putN at h
    by_cases z : g = f
    · rw [if_pos z] at h; exact .inr h
    · rw [if_neg z] at h
      rcases List.mem_cons.mp h with e | e
      · exact .inr (e ▸ List.mem_cons_self)
      · exact (putN_mem e).imp id (List.mem_cons_of_mem _)
theorem putN_nodup {f : Str} : ∀ {fs : List Str}, fs.Nodup → (putN f fs).Nodup
  | [], _ => by simp [putN]
  | g :: fs, h => by
    obtain ⟨h1, h2⟩ := List.nodup_cons.mp h
    unfold putN
    by_cases z : g = f
    · rw [if_pos z]; exact h
    · rw [if_neg z]
      refine List.nodup_cons.mpr ⟨fun y => ?_, putN_nodup h2⟩
      rcases putN_mem y with e | e
      · exact z e
      · exact h1 e
section
variable {F F' : Fz} {h h' : Ah} {g g' : Gh} {t : Tag}
mutual
theorem RO.keepP (l : F.le F') {P : List Str → Prop} (k : ∀ p l, g p = some (t, l) → P l → g' p = some (t, l) ∧ h' p = h p) : ∀ (π : List Str) (o : O) (w : W), (∀ l, π <+: l → P l) → RO F h g t π o w → RO F' h' g' t π o w
  | π, .leaf d, w, n, x => by
    simp only [RO] at x ⊢
    exact RD.mono l d w x
  | π, .lst _ ds, w, n, x => by
    simp only [RO] at x ⊢
    obtain ⟨p, ws, e, ex, e1, e2, r⟩ := x
    obtain ⟨k1, k2⟩ := k p _ e1 (n _ (List.prefix_refl _))
    exact ⟨p, ws, e, ex, k1, k2.trans e2, RDs.mono l _ _ r⟩
  | π, .dic _ ks vs, w, n, x => by
    simp only [RO] at x ⊢
    obtain ⟨p, ws, e, ex, e1, e2, r⟩ := x
    obtain ⟨k1, k2⟩ := k p _ e1 (n _ (List.prefix_refl _))
    exact ⟨p, ws, e, ex, k1, e2.at k2, RDs.mono l _ _ r⟩
  | π, .obj _ C fs os, w, n, x => by
    simp only [RO] at x ⊢
    obtain ⟨p, ws, e, ex, e1, e2, e3, nd, r⟩ := x
    obtain ⟨k1, k2⟩ := k p _ e1 (n _ (List.prefix_refl _))
    exact ⟨p, ws, e, ex, k1, by rw [l.cl]; exact k2.trans e2, e3, nd, ROs.keepP l k π fs os ws (fun l z => n l (by obtain ⟨f, _, z⟩ := z; exact (List.prefix_append _ _).trans z)) r⟩
theorem ROs.keepP (l : F.le F') {P : List Str → Prop} (k : ∀ p l, g p = some (t, l) → P l → g' p = some (t, l) ∧ h' p = h p) : ∀ (π : List Str) (fs : List Str) (os : List O) (ws : List W), (∀ l, (∃ f ∈ fs, π ++ [f] <+: l) → P l) → ROs F h g t π fs os ws → ROs F' h' g' t π fs os ws
  | π, fs, [], ws, n, x => by simpa only [ROs] using x
  | π, fs, o :: os, ws, n, x => by
    simp only [ROs] at x ⊢
    obtain ⟨f, r, w, u, e1, e2, h1, h2⟩ := x
    subst e1
    exact ⟨f, r, w, u, rfl, e2, RO.keepP l k _ o w (fun l z => n l ⟨f, List.mem_cons_self, z⟩) h1, ROs.keepP l k π r os u (fun l ⟨f', hf, z⟩ => n l ⟨f', List.mem_cons_of_mem _ hf, z⟩) h2⟩
end
end
section
variable {F F' : Fz} {h h' : Ah} {g g' : Gh} {t : Tag}
theorem ROs.put (l : F.le F') {f : Str} {u : O} {wu : W} : ∀ {π : List Str} {fs : List Str} {os : List O} {ws : List W}, fs.Nodup → (∀ p l, g p = some (t, l) → (∃ f', f' ≠ f ∧ π ++ [f'] <+: l) → g' p = some (t, l) ∧ h' p = h p) → ROs F h g t π fs os ws → fs.length = os.length → RO F' h' g' t (π ++ [f]) u wu →
    ∃ ws', ROs F' h' g' t π (putN f fs) (putO f u fs os) ws' ∧ (putN f fs).zip ws' = putW f wu (fs.zip ws)
  | π, [], [], ws, nd, k, r, e, x => by
    simp only [ROs] at r
    subst r
    refine ⟨[wu], ?_, rfl⟩
    unfold putN putO
    simp only [ROs]
    exact ⟨f, [], wu, [], rfl, rfl, x, rfl⟩
  | π, f' :: fs, o :: os, ws, nd, k, r, e, x => by
    simp only [ROs] at r
    obtain ⟨f2, r', w, v, e1, rfl, h1, h2⟩ := r
    cases e1
    obtain ⟨nd1, nd2⟩ := List.nodup_cons.mp nd
    unfold putN putO
    rw [List.zip_cons_cons]
    unfold putW
    by_cases z : f' = f
    · subst z
      rw [if_pos rfl, if_pos rfl, if_pos rfl]
      refine ⟨wu :: v, ?_, by rw [List.zip_cons_cons]⟩
      simp only [ROs]
      refine ⟨f', fs, wu, v, rfl, rfl, x, ROs.keepP l k π fs os v (fun l' ⟨f2, hf, hp⟩ => ?_) h2⟩
      exact ⟨f2, fun y => nd1 (y ▸ hf), hp⟩
    · rw [if_neg z, if_neg z, if_neg z]
      obtain ⟨ws', r2, e2⟩ := ROs.put l (π := π) (ws := v) nd2 k h2 (by simpa using e) x
      refine ⟨w :: ws', ?_, by rw [List.zip_cons_cons, e2]⟩
      simp only [ROs]
      exact ⟨f', _, w, ws', rfl, rfl, RO.keepP l k _ o w (fun l' hp => ⟨f', z, hp⟩) h1, r2⟩
end
section
variable {F : Fz} {g : Gh} {n : Nat} {ρ : Env} {ω : Sw} {A : AH}
/-- a slot's object gets a field: the new tree goes there -/
theorem Sm.setFld (s : Sm F g n ρ ω A) {j : Nat} {x : Option Addr} {C f : Str} {fs : List Str} {os : List O} {u : O} {wu w : W} (e : ρ[j]? = some (some (.obj x C fs os))) (ew : ω[j]? = some (some w)) (ru : RO F A.h g .res [] u wu) :
    ∃ a wfs, w = .ref a ∧ A.h a = some (.ins (F.cl C) wfs) ∧ wfs.length = fs.length ∧ ∃ g', Grow F g A F g' (A.put a (.ins (F.cl C) (putW f wu wfs))) ∧ Sm F g' n (ρ.set j (some (.obj x C (putN f fs) (putO f u fs os)))) ω (A.put a (.ins (F.cl C) (putW f wu wfs))) ∧ NoRes g' := by
  obtain ⟨w', e', r⟩ := s.sl j _ e
  rw [ew] at e'
  cases e'
  have r0 := r
  simp only [RO] at r
  obtain ⟨a, ws, e1, ex, ga, ap, el, nd, r⟩ := r
  subst e1
  have lw : ws.length = fs.length := by rw [r.len, el]
  refine ⟨a, fs.zip ws, rfl, ap, by rw [List.length_zip, lw, Nat.min_self], ?_⟩
  let A' := A.put a (.ins (F.cl C) (putW f wu (fs.zip ws)))
  let g' : Gh := fun p => match g p with
    | some (.res, l) => some (.slot j, f :: l)
    | some (.slot i, l) => if i = j ∧ [f] <+: l then none else some (.slot i, l)
    | o => o
  have ne : ∀ {q t l}, g q = some (t, l) → (t ≠ .slot j ∨ l ≠ []) → q ≠ a := fun {q t l} e n z => by
    subst z
    rw [ga] at e
    cases e
    rcases n with n | n <;> exact n rfl
  have gr : ∀ {q l}, g q = some (.res, l) → g' q = some (.slot j, f :: l) := fun {q l} e => by
    show (match g q with | some (.res, l) => some (Tag.slot j, f :: l) | some (.slot i, l) => if i = j ∧ [f] <+: l then none else some (.slot i, l) | o => o) = _
    rw [e]
  have gt : ∀ {q k l}, g q = some (.tmp k, l) → g' q = some (.tmp k, l) := fun {q k l} e => by
    show (match g q with | some (.res, l) => some (Tag.slot j, f :: l) | some (.slot i, l) => if i = j ∧ [f] <+: l then none else some (.slot i, l) | o => o) = _
    rw [e]
  have gs : ∀ {q i l}, g q = some (.slot i, l) → (i ≠ j ∨ ¬ [f] <+: l) → g' q = some (.slot i, l) := fun {q i l} e n => by
    show (match g q with | some (.res, l) => some (Tag.slot j, f :: l) | some (.slot i, l) => if i = j ∧ [f] <+: l then none else some (.slot i, l) | o => o) = _
    rw [e]
    exact if_neg fun ⟨z1, z2⟩ => n.elim (fun n => n z1) fun n => n z2
  have gn : ∀ {q}, g q = none → g' q = none := fun {q} e => by
    show (match g q with | some (.res, l) => some (Tag.slot j, f :: l) | some (.slot i, l) => if i = j ∧ [f] <+: l then none else some (.slot i, l) | o => o) = _
    rw [e]
  have gd : ∀ {q l}, g' q = some l → ∃ l', g q = some l' := fun {q l} e => by
    cases z : g q with
    | none => rw [gn z] at e; cases e
    | some l' => exact ⟨l', rfl⟩
  have ha : ∀ {q t l}, g q = some (t, l) → (t ≠ .slot j ∨ l ≠ []) → A'.h q = A.h q := fun e n => AH.put_ne (ne e n)
  have hi : j < ρ.length := (List.getElem?_eq_some_iff.mp e).1
  have ru' : RO F A'.h g' (.slot j) ([] ++ [f]) u wu := by
    have := RO.shift (π := [f]) (.refl F) (g' := g') (h' := A'.h) (t' := .slot j) (fun p l e => ⟨gr e, ha e (.inl (by intro z; cases z))⟩) [] u wu ru
    simpa using this
  obtain ⟨ws', r', ez⟩ := ROs.put (.refl F) (g' := g') (h' := A'.h) nd (fun p l e' ⟨f', n', hp⟩ => ⟨gs e' (.inr fun z => by
    obtain ⟨a1, h1⟩ := hp
    obtain ⟨a2, h2⟩ := z
    rw [← h1] at h2
    simp at h2
    exact n' h2.1.symm), ha e' (.inr fun z => by
    obtain ⟨a1, h1⟩ := hp
    rw [z] at h1
    simp at h1)⟩) r el ru'
  have gaN : g' a = some (.slot j, []) := gs ga (.inr fun z => by
    have := z.length_le
    simp at this)
  have slotn : ∀ {q i l}, g q = some (.slot i, l) → i ≠ j → g' q = some (.slot i, l) ∧ A'.h q = A.h q := fun {q i l} e n => ⟨gs e (.inl n), ha e (.inl (by intro z; cases z; exact n rfl))⟩
  refine ⟨g', ⟨.refl F, fun k q l e => ⟨gt e, ha e (.inl (by intro z; cases z))⟩, fun q o e1 e2 => ⟨by rw [AH.put_ne (fun z => by subst z; rw [ga] at e1; cases e1)]; exact e2, gn e1, fun z => z⟩⟩, ⟨fun q o h => ?_, fun q l h => ?_, fun q l h => ?_, ?_, by simpa using s.ln, fun i o h => ?_, s.pn⟩, fun q l h => ?_⟩
  · rw [AH.put_ne (fun z => by subst z; rw [s.gf _ _ ga] at h; cases h)]
    exact s.fa q o h
  · obtain ⟨l', e'⟩ := gd h
    exact s.gf q _ e'
  · obtain ⟨l', e'⟩ := gd h
    by_cases z : q = a
    · subst z; exact ⟨_, AH.put_same⟩
    · rw [AH.put_ne z]; exact s.ga q _ e'
  · obtain ⟨m, hm⟩ := s.tb
    refine ⟨m, fun q k l h => ?_⟩
    obtain ⟨⟨t', l'⟩, e'⟩ := gd h
    cases t' with
    | tmp k' => rw [gt e'] at h; cases h; exact hm q _ _ e'
    | res => rw [gr e'] at h; cases h
    | slot i' =>
      by_cases z : i' = j ∧ [f] <+: l'
      · have : g' q = none := by
          show (match g q with | some (.res, l) => some (Tag.slot j, f :: l) | some (.slot i, l) => if i = j ∧ [f] <+: l then none else some (.slot i, l) | o => o) = _
          rw [e']
          exact if_pos z
        rw [this] at h; cases h
      · rw [gs e' (by by_cases y : i' = j; · exact .inr fun w => z ⟨y, w⟩
                      · exact .inl y)] at h
        cases h
  · by_cases hij : j = i
    · subst hij
      rw [List.getElem?_set_self hi] at h
      cases h
      refine ⟨.ref a, ew, ?_⟩
      simp only [RO]
      refine ⟨a, ws', rfl, ex, gaN, ?_, putN_len el, putN_nodup nd, r'⟩
      rw [ez]
      exact AH.put_same
    · rw [List.getElem?_set_ne hij] at h
      obtain ⟨w2, e2, r2⟩ := s.sl i o h
      exact ⟨w2, e2, r2.keep (.refl F) (fun q l e => slotn e (fun z => hij z.symm)) _ _ _⟩
  · obtain ⟨⟨t', l'⟩, e'⟩ := gd h
    cases t' with
    | tmp k' => rw [gt e'] at h; cases h
    | res => rw [gr e'] at h; cases h
    | slot i' =>
      by_cases z : i' = j ∧ [f] <+: l'
      · have : g' q = none := by
          show (match g q with | some (.res, l) => some (Tag.slot j, f :: l) | some (.slot i, l) => if i = j ∧ [f] <+: l then none else some (.slot i, l) | o => o) = _
          rw [e']
          exact if_pos z
        rw [this] at h; cases h
      · rw [gs e' (by by_cases y : i' = j; · exact .inr fun w => z ⟨y, w⟩
                      · exact .inl y)] at h
        cases h
end
end Dx

set_option Elab.async false
set_option linter.all false
set_option maxRecDepth 100000
set_option maxHeartbeats 4000000
/-! DX11: stores into fields, methods, making; x += e; a, b = e1, e2; constants. -/
namespace Dx
open PySem L2 Wx
/-! self.f = e -/
def dSetFld (f : Str) (cs : List Str) (j : Nat) (tv : TEd) : TSd := fun D ρ n => tv ρ n (treeK fun u ρ1 n1 => ∃ x C fs os, ρ1[j]? = some (some (.obj x C fs os)) ∧ C ∈ cs ∧ fs.length < 1000 ∧ D.nx (ρ1.set j (some (.obj x C (putN f fs) (putO f u fs os)))) n1) D.ex
/-- self.f += e, of ints -/
def dAugFld (f : Str) (cs : List Str) (j : Nat) (op : Int → Int → Int) (tv : TEd) : TSd := fun D ρ n => ∃ x C fs os i, ρ[j]? = some (some (.obj x C fs os)) ∧ C ∈ cs ∧ lookF fs os f = some (.leaf (.int i)) ∧
  tv ρ n (fun s ρ1 n1 => match s with
    | .dat (.int k) => ρ1 = ρ ∧ fs.length < 1000 ∧ D.nx (ρ1.set j (some (.obj x C (putN f fs) (putO f (.leaf (.int (op i k))) fs os)))) n1
    | _ => False) D.ex
section
variable {X : Cx} {Ew : XSw} {cl : Cl} {o value : Expr} {tv : TEd} {pos pos' tpos : Pos} {f : Str} {cs : List Str} {j : Nat}
theorem ds_setFld (FK : FldK X.K cl f cs) (ho : WE X o (wVar j)) (hv : DE X Ew cl value tv) (hs : swapsWith value (some (.Attribute o f pos')) pos.line X.env = pure false := by rfl) : DS X Ew cl (.Assign [.Attribute o f pos'] value pos) (dSetFld f cs j tv) := WS.imp (ws_fld ho hv hs) fun D ω A ⟨F, g, n, ρ, D', hc, sm, nr, h, e⟩ =>
  up_tree hc sm nr e.ex.at h fun F1 g1 n1 ρ1 A1 u wu hc1 G1 sm1 x1 r1 _ ⟨x, C, fs, os, ej, hC, hl, q⟩ => by
    obtain ⟨w, ew, _⟩ := sm1.sl j _ ej
    obtain ⟨a, wfs, rfl, ap, lw, g2, G2, sm2, nr2⟩ := sm1.setFld (f := f) ej ew r1
    rw [hc1] at ap G2 sm2
    exact ⟨_, ew, a, cl C, wfs, rfl, ap, (FK C hC).1, (FK C hC).2, by rw [lw]; exact hl, e.nx _ _ _ _ _ _ (G1.trans G2) sm2 nr2 q⟩
/-- below: o.f op= value -/
def wAugFld (K : PySem.W.Frag) (f : Str) (to tv : TEw) (op : Int → Int → Int) : TSw := fun D ω A => to ω A fun x A1 => ∃ a C fs i, x = .ref a ∧ A1.h a = some (.ins C fs) ∧ Cls K C ∧ NoAttr K C f ∧ fs.lookup f = some (.int i) ∧
  tv ω A1 fun y A2 => ∃ k C' fs', y = .int k ∧ A2.h a = some (.ins C' fs') ∧ C' = C ∧ fs'.length < 1000 ∧ D.nx ω (A2.put a (.ins C (putW f (.int (op i k)) fs')))
theorem ws_augFld {to tv' : TEw} {op : Operator} {opi : Int → Int → Int} (ho : WE X o to) (hv : WE X value tv') (hop : InOp X op (fun x y H Q => ∃ i j, x = .int i ∧ y = .int j ∧ Q (.int (opi i j)) H)) : WS X (.AugAssign (.Attribute o f tpos) op value pos) (wAugFld X.K f to tv' opi) := WS.of (ps_fldaug ho.pe hv.pe hop) fun D σ H ω A sm ra h =>
  lo_i sm ra h fun v1 H1 w1 A1 t1 sm1 ra1 r1 ⟨a, C, fs, i, e, ea, c, n, l, h1⟩ => by
    subst e
    simp only [rep] at r1
    obtain ⟨dx, vf, eh, rv⟩ := ra1.1 a _ ea
    obtain ⟨u, lu, ru⟩ := prs_lookup rv l
    simp only [rep] at ru
    subst ru
    refine ⟨a, C, dx, vf, _, r1, eh, c, n, lu, lo_i sm1 ra1 h1 fun v2 H2 w2 A2 t2 sm2 ra2 r2 ⟨k, C', fs', e, ea', eC, l', q⟩ => ?_⟩
    subst e eC
    simp only [rep] at r2
    obtain ⟨dx', vf', eh', rv'⟩ := ra2.1 a _ ea'
    have ts : TupLe X.K H2 (upd H2 a (.ins C' dx' (putF f (.int (opi i k)) vf'))) := tupLe_set eh' (by intro _ z; cases z) (by intro _ _ z; cases z)
    refine ⟨i, k, rfl, r2, dx', vf', ?_, ?_, ω, A2.put a (.ins C' (putW f (.int (opi i k)) fs')), (t1.trans t2).trans ts, sm2.mono ts, ra2.set (wo' := .ins C' (putW f (.int (opi i k)) fs')) ea' eh' (by intro _ z; cases z) (by intro _ _ z; cases z) ⟨dx', _, upd_same, ?_⟩, q⟩
    · first
        | exact eh'
        | (obtain ⟨dx2, vf2, eh2, _⟩ := ra1.1 a _ ea; exact eh')
    · rw [Paired.length rv']; exact l'
    · exact prs_mono ts (prs_put (by simp only [rep]) rv')
theorem ds_augFld {op : Operator} {opi : Int → Int → Int} (FK : FldK X.K cl f cs) (ho : WE X o (wVar j)) (hv : DE X Ew cl value tv) (hop : InOp X op (fun x y H Q => ∃ i j, x = .int i ∧ y = .int j ∧ Q (.int (opi i j)) H)) : DS X Ew cl (.AugAssign (.Attribute o f tpos) op value pos) (dAugFld f cs j opi tv) := WS.imp (ws_augFld ho hv hop) fun D ω A ⟨F, g, n, ρ, D', hc, sm, nr, ⟨x, C, fs, os, i, ej, hC, lf, h⟩, e⟩ => by
  obtain ⟨w, ew, r⟩ := sm.sl j _ ej
  simp only [RO] at r
  obtain ⟨p, ws, e1, ex, gp, ap, el, nd, r⟩ := r
  subst e1
  obtain ⟨wi, lw, ri⟩ := r.get lf
  simp only [RO, RD] at ri
  subst ri
  rw [hc] at ap
  refine ⟨_, ew, p, cl C, _, i, rfl, ap, (FK C hC).1, (FK C hC).2, lw, up_s hc sm nr e.ex.at h fun F1 g1 n1 ρ1 A1 s w hc1 G1 sm1 x1 r1 q => ?_⟩
  split at q
  · rename_i k
    obtain ⟨eρ, hl, q⟩ := q
    subst eρ
    obtain ⟨nr1, r1⟩ := r1
    simp only [RD] at r1
    subst r1
    have rnew : RO F1 A1.h g1 .res [] (.leaf (.int (opi i k))) (.int (opi i k)) := by simp only [RO, RD]
    obtain ⟨a, wfs, ew', ap', lw', g2, G2, sm2, nr2⟩ := sm1.setFld (f := f) ej ew rnew
    cases ew'
    rw [hc1] at ap' G2 sm2
    exact ⟨k, cl C, wfs, rfl, ap', rfl, by rw [lw']; exact hl, e.nx _ _ _ _ _ _ (G1.trans G2) sm2 nr2 q⟩
  · exact q.elim
theorem in_addI : InOp X .Add (fun x y H Q => ∃ i j, x = .int i ∧ y = .int j ∧ Q (.int (i + j)) H) := in_add
theorem in_subI : InOp X .Sub (fun x y H Q => ∃ i j, x = .int i ∧ y = .int j ∧ Q (.int (i - j)) H) := in_sub
end
/-! ### methods of frozen instances -/
def dMeth (C m : Str) (sp : SpD) (to : TEd) (ta : TAd) : TEd := fun ρ n Q X => to ρ n (datK fun d ρ1 n1 => match d with
  | .obj C' fs vs => C' = C ∧ m ∉ fs ∧ ta ρ1 n1 (fun ds ρ2 n2 => sp (.obj C' fs vs :: ds) n2 (fun o n3 => Q (resS o) ρ2 n3) (fun C fs es n3 => X ρ2 C fs es n3)) X
  | _ => False) X
theorem lookup_zip_none {fs : List Str} {ws : List W} {m : Str} (h : m ∉ fs) : (fs.zip ws).lookup m = none := by
  induction fs generalizing ws with
  | nil => rfl
  | cons f fs ih =>
    cases ws with
    | nil => rfl
    | cons w ws =>
      simp only [List.mem_cons, not_or] at h
      rw [List.zip_cons_cons, List.lookup_cons]
      have : (m == f) = false := by simpa using h.1
      rw [this]
      exact ih h.2
section
variable {X : Cx} {g : Bool} {k : Nat} {Ew : XSw} {cl : Cl} {C m : Str} {sp : SpD} {pos apos : Pos} {e o : Expr} {es : List Expr} {ta : TAd} {to : TEd} {ω : Sw} {A : AH} {Q : VKw}
theorem dMeth_lo (h : upE Ew cl (dMeth C m sp to ta) ω A Q) : wMeth (cl C) m (spW cl sp) (upE Ew cl to) (upA Ew cl ta) Ew ω A Q := by
  obtain ⟨F, g, n, ρ, Qd, Xd, hc, sm, nr, h, x, k⟩ := h
  refine up_dat hc sm nr x h fun F1 g1 n1 ρ1 A1 d w hc1 G1 sm1 nr1 x1 r1 q => ?_
  split at q
  · rename_i C' fs vs
    obtain ⟨eC, hm, q⟩ := q
    subst eC
    have r1' := r1
    simp only [RD] at r1
    obtain ⟨p, ws, e, ep, el, r⟩ := r1
    rw [hc1] at ep
    subst e
    refine ⟨p, _, rfl, sm1.fa _ _ ep, lookup_zip_none hm, up_a hc1 sm1 nr1 x1 q fun F2 g2 n2 ρ2 A2 ds ws hc2 G2 sm2 nr2 x2 r2 q => ?_⟩
    refine ⟨F2, n2, _, _, _, hc2, sm2.smA.start, .cons (RD.mono G2.le _ _ r1') r2, q, fun F' g' n' A' o w G sm' r q => ?_, fun F' g' n' A' C fs es ws G sm' r l q => ?_⟩
    · obtain ⟨g3, G3, sm3, rs⟩ := sm2.after nr2 G sm' r
      exact k _ _ _ _ _ _ _ ((G1.trans G2).trans G3) sm3 rs q
    · obtain ⟨G3, sm3⟩ := sm2.afterX G sm'
      exact x2 _ _ _ _ _ _ _ _ _ _ G3 sm3 r l q rfl
  · exact q.elim
end
section
variable {X : Cx} {Ew : XSw} {cl : Cl} {C m : Str} {sp : SpD} {e : Expr} {ta : TAd} {to : TEd}
theorem de_meth_of (h : WE X e (wMeth (cl C) m (spW cl sp) (upE Ew cl to) (upA Ew cl ta) Ew)) : DE X Ew cl e (dMeth C m sp to ta) := WE.imp h fun ω A Q q => dMeth_lo q
theorem upA_nil {ω : Sw} {A : AH} {Q : List W → AH → Prop} (h : upA Ew cl dNil ω A Q) : Q [] A := by
  obtain ⟨F, g, n, ρ, Qd, Xd, hc, sm, nr, h, x, k⟩ := h
  exact k _ _ _ _ _ [] [] (.refl F g A) sm nr .nil h
theorem de_meth0_of (h : WE X e (wMeth (cl C) m (spW cl sp) (upE Ew cl to) wNil Ew)) : DE X Ew cl e (dMeth C m sp to dNil) := WE.imp h fun ω A Q q => by
  have q' : wMeth (cl C) m (spW cl sp) (upE Ew cl to) (upA Ew cl dNil) Ew ω A Q := dMeth_lo q
  obtain ⟨F, g, n, ρ, Qd, Xd, hc, sm, nr, h, x, k⟩ := q'
  exact ⟨F, g, n, ρ, Qd, Xd, hc, sm, nr, h, x, fun F' g' n' ρ' A' s w G sm' r q => by
    obtain ⟨a, fs, e1, e2, e3, q⟩ := k F' g' n' ρ' A' s w G sm' r q
    exact ⟨a, fs, e1, e2, e3, upA_nil q⟩⟩
end
/-! ### what a method promises that changes its own instance -/
abbrev QM := O → List Str → List O → Nat → Prop
abbrev XM := Str → List Str → List D → List Str → List O → Nat → Prop
abbrev SpM := List Str → List O → List D → Nat → QM → XM → Prop
def spWM (cl : Cl) (C : Str) (sp : SpM) : SpW := fun ws A Q E => ∃ F g n a fs os us ds Qd Xd, F.cl = cl ∧ ws = .ref a :: us ∧ SmA F g n A ∧ (∀ p t l, g p = some (t, l) → t = .slot 0) ∧ RO F A.h g (.slot 0) [] (.obj (some a) C fs os) (.ref a) ∧ RDs F ds us ∧ sp fs os ds n Qd Xd ∧
  (∀ F' g' n' A' o w fs' os', Grow F g A F' g' A' → SmA F' g' n' A' → RO F' A'.h g' .res [] o w → RO F' A'.h g' (.slot 0) [] (.obj (some a) C fs' os') (.ref a) → Qd o fs' os' n' → Q w A') ∧
  ∀ F' g' n' A' D fs es ws fs' os', Grow F g A F' g' A' → SmA F' g' n' A' → RDs F' es ws → fs.length = es.length → RO F' A'.h g' (.slot 0) [] (.obj (some a) C fs' os') (.ref a) → Xd D fs es fs' os' n' → E (F'.cl D) (fs.zip ws) A'
def startM (N : List Str) (a : Addr) (C : Str) (fs : List Str) (os : List O) (ds : List D) : Env := some (.obj (some a) C fs os) :: (ds.map (fun d => some (.leaf d)) ++ List.replicate (N.length - (ds.length + 1)) none)
theorem sm_startM {F : Fz} {g : Gh} {n : Nat} {A : AH} {N : List Str} {a : Addr} {C : Str} {fs : List Str} {os : List O} {ds : List D} {ws : List W} (s : SmA F g n A) (ro : RO F A.h g (.slot 0) [] (.obj (some a) C fs os) (.ref a)) (r : RDs F ds ws) : Sm F g n (startM N a C fs os ds) (startW N (.ref a :: ws)) A := ⟨s.fa, s.gf, s.ga, s.tb, by unfold startM startW; simp [r.length], (fun i o e => by
  unfold startM at e
  unfold startW
  cases i with
  | zero =>
    simp at e
    subst e
    exact ⟨.ref a, by simp, ro⟩
  | succ i =>
    rw [List.getElem?_cons_succ] at e
    rw [List.map_cons, List.cons_append, List.getElem?_cons_succ]
    by_cases h : i < ds.length
    · rw [List.getElem?_append_left (by simpa using h), List.getElem?_map] at e
      cases e2 : ds[i]? with
      | none => rw [e2] at e; cases e
      | some d =>
        rw [e2] at e
        cases e
        obtain ⟨w, ew, rw'⟩ := r.get e2
        exact ⟨w, by rw [List.getElem?_append_left (by rw [List.length_map, r.length]; exact h), List.getElem?_map, ew]; rfl, by simp only [RO]; exact rw'⟩
    · rw [List.getElem?_append_right (by simpa using h)] at e
      have := List.getElem?_eq_some_iff.mp e
      obtain ⟨_, z⟩ := this
      rw [List.getElem_replicate] at z
      cases z), s.pn⟩
def selfIs (a : Addr) (C : Str) (ρ : Env) (k : List Str → List O → Prop) : Prop := ∃ fs os, ρ[0]? = some (some (.obj (some a) C fs os)) ∧ k fs os
def endM (a : Addr) (C : Str) (Q : QM) (X : XM) : Dd where
  nx := fun ρ n => selfIs a C ρ fun fs os => Q (.leaf .non) fs os n
  rt := fun o ρ n => selfIs a C ρ fun fs os => Q o fs os n
  ex := fun ρ D gs es n => selfIs a C ρ fun fs os => X D gs es fs os n
section
variable {P : Program} {w : World} {K : PySem.W.Frag} {mg : Str → Option Value} {base : Heap}
theorem fnM {cl : Cl} {C x qual : Str} {st : Stmt} {f : Addr} {fd : FuncData} {N ps : List Str} {g : Bool} {k : Nat} {sp : SpM} {t : TSd} (Fn : Fun K x qual st f fd) (S : FnScope N ps (defScope st)) (len : ∀ fs os ds n Q X, sp fs os ds n Q X → ds.length + 1 = ps.length)
    (hbody : ∀ (cdv : Value) (A : Around) (outer : List PySem.Env) (s : Shared) (H : Hp) (E : XK) (Ew : XSw), RoomG g k (cxB P w K mg base N qual st f cdv A outer s H E).A → TakesW (cxB P w K mg base N qual st f cdv A outer s H E) Ew → DSs (cxB P w K mg base N qual st f cdv A outer s H E) Ew cl (defBody st) t)
    (rd : ∀ a fs os ds n Q X, sp fs os ds n Q X → t (endM a C Q X) (startM N a C fs os ds) n) : FnB g P w K mg base (k + 1) f fd ps (spL K (spWM cl C sp)) := by
  refine fnW (t := fun Ew => upS Ew cl t) Fn S (fun ws A Q E ⟨F, g, n, a, fs, os, us, ds, Qd, Xd, hc, e, sm, _, _, r, h, _⟩ => by rw [e, List.length_cons, r.length]; exact len _ _ _ _ _ _ h) hbody ?_
  rintro ws A Q E ⟨F, g, n, a, fs, os, us, ds, Qd, Xd, hc, rfl, sm, gt, ro, r, h, k1, k2⟩
  have self : ∀ {F' g' n' ρ' ω' A' fs' os'}, Sm F' g' n' ρ' ω' A' → ρ'[0]? = some (some (.obj (some a) C fs' os')) → RO F' A'.h g' (.slot 0) [] (.obj (some a) C fs' os') (.ref a) := fun sm' e => by
    obtain ⟨w', _, r'⟩ := sm'.sl 0 _ e
    have := r'.kn (a := a) rfl
    rw [← this]
    exact r'
  refine ⟨F, g, n, _, endM a C Qd Xd, hc, sm_startM sm ro r, (fun p l e => by have := gt p _ _ e; cases this), rd a fs os ds n Qd Xd h, ⟨fun F' g' n' ρ' ω' A' G sm' nr' ⟨fs', os', e, q⟩ => fg_i (k1 _ _ _ _ _ _ _ _ G sm'.smA (by simp only [RO, RD]) (self sm' e) q), fun _ _ _ _ _ _ _ _ _ q => q, fun _ _ _ _ _ _ _ _ _ q => q,
    fun F' g' n' ρ' ω' A' o w G sm' r' ⟨fs', os', e, q⟩ => fg_i (k1 _ _ _ _ _ _ _ _ G sm'.smA r' (self sm' e) q), fun F' g' n' ρ' ω' A' D fs ds ws G sm' r' l ⟨fs', os', e, q⟩ => fgE_i (k2 _ _ _ _ _ _ _ _ _ _ G sm'.smA r' l (self sm' e) q)⟩⟩
end
/-! making an instance -/
def dMake (C : Str) (sp : SpM) (ta : TAd) : TEd := fun ρ n Q X => ta ρ n (fun ds ρ1 n1 => sp [] [] ds n1 (fun o fs os n2 => o = .leaf .non ∧ Q (.new (.obj none C fs os)) ρ1 n2) (fun D fs es _ _ n2 => X ρ1 D fs es n2)) X
section
variable {F F' : Fz} {g g' : Gh} {n n' : Nat} {ρ : Env} {ω : Sw} {A A' : AH}
open Classical in
/-- behind a call that changed what bore the tag slot 0 there; here it bears res -/
theorem Sm.afterMk (s : Sm F g n ρ ω A) (nr : NoRes g) {a : Addr} {wo : WO} (ha : A.h a = none) {gm : Gh} (hg : gm = fun p => if p = a then some (.slot 0, []) else none) (G : Grow F gm (A.put a wo) F' g' A') (s' : SmA F' g' n' A') {o : O} (r : RO F' A'.h g' (.slot 0) [] o (.ref a)) :
    ∃ g2, Grow F g A F' g2 A' ∧ Sm F' g2 n' ρ ω A' ∧ RO F' A'.h g2 .res [] o (.ref a) := by
  obtain ⟨gna, fna⟩ := s.new ha
  have frame : ∀ {p u}, A.h p = some u → A'.h p = some u ∧ g' p = none ∧ (F.h p = none → F'.h p = none) := fun {p u} e => by
    have ne : p ≠ a := fun z => by rw [z, ha] at e; cases e
    exact G.fr p u (by rw [hg]; exact if_neg ne) (by rw [AH.put_ne ne]; exact e)
  have old : ∀ {p l}, g p = some l → A'.h p = A.h p ∧ g' p = none ∧ F'.h p = none := fun {p l} e => by
    obtain ⟨u, hu⟩ := s.ga p l e
    obtain ⟨x1, x2, x3⟩ := frame hu
    exact ⟨x1.trans hu.symm, x2, x3 (s.gf p l e)⟩
  let g2 : Gh := fun p => if h : ∃ l, g' p = some (.slot 0, l) then some (.res, h.choose) else g p
  have k1 : ∀ {p l}, g p = some l → g2 p = some l := fun {p l} e => by
    show (if h : ∃ l, g' p = some (.slot 0, l) then some (Tag.res, h.choose) else g p) = some l
    rw [dif_neg, e]
    rintro ⟨l', z⟩
    rw [(old e).2.1] at z
    cases z
  have kr : ∀ {p l}, g' p = some (.slot 0, l) → g2 p = some (.res, l) := fun {p l} e => by
    have h : ∃ l, g' p = some (.slot 0, l) := ⟨l, e⟩
    show (if h : ∃ l, g' p = some (.slot 0, l) then some (Tag.res, h.choose) else g p) = some (.res, l)
    rw [dif_pos h]
    have hs : g' p = some (.slot 0, h.choose) := h.choose_spec
    have := e.symm.trans hs
    injection this with t
    injection t with _ t2
    rw [← t2]
  have k2 : ∀ {p l}, g2 p = some l → g p = some l ∨ ((∃ l', g' p = some (.slot 0, l')) ∧ l.1 = .res) := fun {p l} e => by
    have e' : (if h : ∃ l, g' p = some (.slot 0, l) then some (Tag.res, h.choose) else g p) = some l := e
    split at e'
    · rename_i z
      cases e'
      exact .inr ⟨z, rfl⟩
    · exact .inl e'
  refine ⟨g2, ⟨G.le, fun k p l e => ⟨k1 e, (old e).1⟩, fun p u e1 e2 => ⟨(frame e2).1, ?_, (frame e2).2.2⟩⟩, ⟨s'.fa, fun p l e => ?_, fun p l e => ?_, ?_, s.ln, fun i u e => ?_, s'.pn⟩, r.keep (.refl F') (fun p l e => ⟨kr e, rfl⟩) _ _ _⟩
  · cases q : g2 p with
    | none => rfl
    | some l =>
      rcases k2 q with z | ⟨⟨l', z⟩, _⟩
      · rw [e1] at z; cases z
      · rw [(frame e2).2.1] at z; cases z
  · rcases k2 e with z | ⟨⟨l', z⟩, _⟩
    · exact (old z).2.2
    · exact s'.gf p _ z
  · rcases k2 e with z | ⟨⟨l', z⟩, _⟩
    · rw [(old z).1]; exact s.ga p l z
    · exact s'.ga p _ z
  · obtain ⟨m, hm⟩ := s.tb
    refine ⟨m, fun p k l e => ?_⟩
    rcases k2 e with z | ⟨_, z⟩
    · exact hm p k l z
    · cases z
  · obtain ⟨w', e1, r'⟩ := s.sl i u e
    exact ⟨w', e1, r'.keep G.le (fun p l e => ⟨k1 e, (old e).1⟩) _ _ _⟩
theorem Sm.afterMkX (s : Sm F g n ρ ω A) {a : Addr} {wo : WO} (ha : A.h a = none) {gm : Gh} (hg : gm = fun p => if p = a then some (.slot 0, []) else none) (G : Grow F gm (A.put a wo) F' g' A') (s' : SmA F' g' n' A') : Grow F g A F' g A' ∧ Sm F' g n' ρ ω A' := by
  have frame : ∀ {p u}, A.h p = some u → A'.h p = some u ∧ g' p = none ∧ (F.h p = none → F'.h p = none) := fun {p u} e => by
    have ne : p ≠ a := fun z => by rw [z, ha] at e; cases e
    exact G.fr p u (by rw [hg]; exact if_neg ne) (by rw [AH.put_ne ne]; exact e)
  have old : ∀ {p l}, g p = some l → A'.h p = A.h p ∧ g' p = none ∧ F'.h p = none := fun {p l} e => by
    obtain ⟨u, hu⟩ := s.ga p l e
    obtain ⟨x1, x2, x3⟩ := frame hu
    exact ⟨x1.trans hu.symm, x2, x3 (s.gf p l e)⟩
  exact ⟨⟨G.le, fun k p l e => ⟨e, (old e).1⟩, fun p u e1 e2 => ⟨(frame e2).1, e1, (frame e2).2.2⟩⟩, ⟨s'.fa, fun p l e => (old e).2.2, fun p l e => by rw [(old e).1]; exact s.ga p l e, s.tb, s.ln, fun i u e => by
    obtain ⟨w', e1, r'⟩ := s.sl i u e
    exact ⟨w', e1, r'.keep G.le (fun p l e => ⟨e, (old e).1⟩) _ _ _⟩, s'.pn⟩⟩
/-- a new object as it is handed to __init__ -/
theorem Sm.mkStart (s : Sm F g n ρ ω A) {a : Addr} {C : Str} (ha : A.h a = none) : SmA F (fun p => if p = a then some (.slot 0, []) else none) n (A.put a (.ins (F.cl C) [])) ∧ RO F (A.put a (.ins (F.cl C) [])).h (fun p => if p = a then some (.slot 0, []) else none) (.slot 0) [] (.obj (some a) C [] []) (.ref a) := by
  obtain ⟨gna, fna⟩ := s.new ha
  refine ⟨⟨fun q o h => by rw [AH.put_ne (fun z => by subst z; rw [fna] at h; cases h)]; exact s.fa q o h, fun q l h => ?_, fun q l h => ?_, ⟨0, fun q k l h => ?_⟩, rfl, (fun i o e => by simp at e), s.pn⟩, ?_⟩
  · by_cases z : q = a
    · subst z; exact fna
    · rw [if_neg z] at h; cases h
  · by_cases z : q = a
    · subst z; exact ⟨_, AH.put_same⟩
    · rw [if_neg z] at h; cases h
  · by_cases z : q = a
    · rw [if_pos z] at h; cases h
    · rw [if_neg z] at h; cases h
  · simp only [RO]
    exact ⟨a, [], rfl, (fun b z => by cases z; rfl), if_pos rfl, AH.put_same, rfl, List.nodup_nil, by simp only [ROs]⟩
end
section
variable {X : Cx} {Ew : XSw} {cl : Cl} {C : Str} {sp : SpM} {e : Expr} {ta : TAd}
theorem dMake_lo {ω : Sw} {A : AH} {Q : VKw} (h : upE Ew cl (dMake C sp ta) ω A Q) : wMake (cl C) (spWM cl C sp) (upA Ew cl ta) Ew ω A Q := by
  obtain ⟨F, g, n, ρ, Qd, Xd, hc, sm, nr, h, x, k⟩ := h
  refine up_a hc sm nr x h fun F1 g1 n1 ρ1 A1 ds ws hc1 G1 sm1 nr1 x1 r1 q => fun a ha => ?_
  obtain ⟨ms, mr⟩ := sm1.mkStart (C := C) ha
  rw [hc1] at ms mr
  refine ⟨F1, _, n1, a, [], [], ws, ds, _, _, hc1, rfl, ms, fun p t l e => ?_, mr, r1, q, fun F' g' n' A' o w fs' os' G sm' ro rs ⟨eo, q⟩ => ?_, fun F' g' n' A' D fs es ws fs' os' G sm' r l rs q => ?_⟩
  · by_cases z : p = a
    · rw [if_pos z] at e; cases e; rfl
    · rw [if_neg z] at e; cases e
  · subst eo
    simp only [RO, RD] at ro
    obtain ⟨g2, G2, sm2, r2⟩ := sm1.afterMk nr1 ha rfl G sm' rs
    exact ⟨ro, k _ _ _ _ _ _ _ (G1.trans G2) sm2 (.n (r2.unnamed (by intro b z; cases z))) q⟩
  · obtain ⟨G2, sm2⟩ := sm1.afterMkX ha rfl G sm'
    exact x1 _ _ _ _ _ _ _ _ _ _ G2 sm2 r l q rfl
theorem de_make_of (h : WE X e (wMake (cl C) (spWM cl C sp) (upA Ew cl ta) Ew)) : DE X Ew cl e (dMake C sp ta) := WE.imp h fun ω A Q q => dMake_lo q
end
end Dx

set_option Elab.async false
set_option linter.all false
set_option maxRecDepth 100000
set_option maxHeartbeats 4000000
/-! DX12: methods that change the slot's own instance; names, constants, x += e, parallel stores. -/
namespace Dx
open PySem L2 Wx
section
variable {F F' : Fz} {h h' : Ah} {g g' : Gh} {t t' : Tag} {π : List Str}
def Unshift (h h' : Ah) (g g' : Gh) (t t' : Tag) (π : List Str) : Prop := ∀ p l, g p = some (t, π ++ l) → g' p = some (t', l) ∧ h' p = h p
mutual
theorem RO.unshift (l : F.le F') (k : Unshift h h' g g' t t' π) : ∀ (κ : List Str) (o : O) (w : W), RO F h g t (π ++ κ) o w → RO F' h' g' t' κ o w
  | κ, .leaf d, w, x => by
    simp only [RO] at x ⊢
    exact RD.mono l d w x
  | κ, .lst _ ds, w, x => by
    simp only [RO] at x ⊢
    obtain ⟨p, ws, e, ex, e1, e2, r⟩ := x
    obtain ⟨k1, k2⟩ := k p _ e1
    exact ⟨p, ws, e, ex, k1, k2.trans e2, RDs.mono l _ _ r⟩
  | κ, .dic _ ks vs, w, x => by
    simp only [RO] at x ⊢
    obtain ⟨p, ws, e, ex, e1, e2, r⟩ := x
    obtain ⟨k1, k2⟩ := k p _ e1
    exact ⟨p, ws, e, ex, k1, e2.at k2, RDs.mono l _ _ r⟩
  | κ, .obj _ C fs os, w, x => by
    simp only [RO] at x ⊢
    obtain ⟨p, ws, e, ex, e1, e2, e3, nd, r⟩ := x
    obtain ⟨k1, k2⟩ := k p _ e1
    exact ⟨p, ws, e, ex, k1, by rw [l.cl]; exact k2.trans e2, e3, nd, ROs.unshift l k κ fs os ws r⟩
theorem ROs.unshift (l : F.le F') (k : Unshift h h' g g' t t' π) : ∀ (κ : List Str) (fs : List Str) (os : List O) (ws : List W), ROs F h g t (π ++ κ) fs os ws → ROs F' h' g' t' κ fs os ws
  | κ, fs, [], ws, x => by simpa only [ROs] using x
  | κ, fs, o :: os, ws, x => by
    simp only [ROs] at x ⊢
    obtain ⟨f, r, w, u, e1, e2, h1, h2⟩ := x
    refine ⟨f, r, w, u, e1, e2, ?_, ROs.unshift l k κ r os u h2⟩
    rw [List.append_assoc] at h1
    exact RO.unshift l k _ o w h1
end
end
open Classical in
/-- what is lent of a slot's tree -/
noncomputable def lend (g : Gh) (i : Nat) (π : List Str) : Gh := fun p => if h : ∃ l, g p = some (.slot i, π ++ l) then some (.slot 0, h.choose) else none
theorem lend_some {g : Gh} {i : Nat} {π : List Str} {p : Addr} {l : List Str} (e : g p = some (.slot i, π ++ l)) : lend g i π p = some (.slot 0, l) := by
  have h : ∃ l, g p = some (.slot i, π ++ l) := ⟨l, e⟩
  unfold lend
  rw [dif_pos h]
  have hs : g p = some (.slot i, π ++ h.choose) := h.choose_spec
  have := e.symm.trans hs
  injection this with t
  injection t with _ t2
  rw [List.append_cancel_left t2]
theorem lend_inv {g : Gh} {i : Nat} {π : List Str} {p : Addr} {t : Tag} {l : List Str} (e : lend g i π p = some (t, l)) : t = .slot 0 ∧ g p = some (.slot i, π ++ l) := by
  unfold lend at e
  split at e
  · rename_i h
    cases e
    exact ⟨rfl, h.choose_spec⟩
  · cases e
theorem lend_none {g : Gh} {i : Nat} {π : List Str} {p : Addr} (e : ∀ l, g p ≠ some (.slot i, π ++ l)) : lend g i π p = none := by
  unfold lend
  rw [dif_neg]
  rintro ⟨l, z⟩
  exact e l z
section
variable {F F' : Fz} {g g' : Gh} {n n' : Nat} {ρ : Env} {ω : Sw} {A A' : AH}
theorem Sm.lendStart (s : Sm F g n ρ ω A) {i : Nat} {π : List Str} {o : O} {y : Option Addr} {C : Str} {fs : List Str} {os : List O} {a : Addr} (r : RO F A.h g (.slot i) π (.obj y C fs os) (.ref a)) : SmA F (lend g i π) n A ∧ RO F A.h (lend g i π) (.slot 0) [] (.obj (some a) C fs os) (.ref a) := by
  refine ⟨⟨s.fa, fun p l e => s.gf p _ (lend_inv (t := l.1) (l := l.2) e).2, fun p l e => s.ga p _ (lend_inv (t := l.1) (l := l.2) e).2, ⟨0, fun p k l e => by have := (lend_inv e).1; cases this⟩, rfl, (fun i o e => by simp at e), s.pn⟩, ?_⟩
  have := RO.unshift (π := π) (t' := .slot 0) (g' := lend g i π) (.refl F) (fun p l e => ⟨lend_some e, rfl⟩) [] _ _ (by rw [List.append_nil]; exact r.named)
  exact this
open Classical in
/-- behind a call to which a slot's tree was lent -/
theorem Sm.afterLend (s : Sm F g n ρ ω A) (nr : NoRes g) {i : Nat} {π : List Str} {o : O} {y : Option Addr} {C : Str} {fs fs' : List Str} {os os' : List O} {a : Addr} (e : ρ[i]? = some (some o)) (l : look o π = some (.obj y C fs os)) (h : ∃ w0, ω[i]? = some (some w0) ∧ PathW A.h w0 π (.ref a))
    (G : Grow F (lend g i π) A F' g' A') (s' : SmA F' g' n' A') (rs : RO F' A'.h g' (.slot 0) [] (.obj (some a) C fs' os') (.ref a)) (keep : Bool) :
    ∃ g2, Grow F g A F' g2 A' ∧ Sm F' g2 n' (ρ.set i (some (setO o π (.obj y C fs' os')))) ω A' ∧ (keep = false → NoRes g2) ∧ (keep = true → ∀ p l, g' p = some (.res, l) → g2 p = some (.res, l)) := by
  have ro := s.own e l h
  have hy : ∀ b, y = some b → a = b := fun b z => by
    have := ro.kn (a := b) z
    cases this
    rfl
  have frame : ∀ {p u}, (∀ l, g p ≠ some (.slot i, π ++ l)) → A.h p = some u → A'.h p = some u ∧ g' p = none ∧ (F.h p = none → F'.h p = none) := fun {p u} n1 e => G.fr p u (lend_none n1) e
  have old : ∀ {p t κ}, g p = some (t, κ) → (t ≠ .slot i ∨ ¬ π <+: κ) → A'.h p = A.h p ∧ g' p = none ∧ F'.h p = none := fun {p t κ} e n1 => by
    obtain ⟨u, hu⟩ := s.ga p _ e
    obtain ⟨x1, x2, x3⟩ := frame (p := p) (u := u) (fun l z => by
      rw [e] at z
      cases z
      rcases n1 with n1 | n1
      · exact n1 rfl
      · exact n1 (List.prefix_append _ _)) hu
    exact ⟨x1.trans hu.symm, x2, x3 (s.gf p _ e)⟩
  let g2 : Gh := fun p => if h : ∃ l, g' p = some (.slot 0, l) then some (.slot i, π ++ h.choose) else if keep = true ∧ ∃ l, g' p = some (.res, l) then g' p else if ∃ l, g p = some (.slot i, π ++ l) then none else g p
  have ks : ∀ {p l}, g' p = some (.slot 0, l) → g2 p = some (.slot i, π ++ l) := fun {p l} e => by
    have h : ∃ l, g' p = some (.slot 0, l) := ⟨l, e⟩
    show (if h : ∃ l, g' p = some (.slot 0, l) then some (Tag.slot i, π ++ h.choose) else _) = some (.slot i, π ++ l)
    rw [dif_pos h]
    have hs : g' p = some (.slot 0, h.choose) := h.choose_spec
    have := e.symm.trans hs
    injection this with t
    injection t with _ t2
    rw [← t2]
  have kr : keep = true → ∀ {p l}, g' p = some (.res, l) → g2 p = some (.res, l) := fun hk {p l} e => by
    show (if h : ∃ l, g' p = some (.slot 0, l) then some (Tag.slot i, π ++ h.choose) else if keep = true ∧ ∃ l, g' p = some (.res, l) then g' p else _) = some (.res, l)
    rw [dif_neg (by rintro ⟨l', z⟩; rw [e] at z; cases z), if_pos ⟨hk, l, e⟩]
    exact e
  have ko : ∀ {p t κ}, g p = some (t, κ) → (t ≠ .slot i ∨ ¬ π <+: κ) → g2 p = some (t, κ) := fun {p t κ} e n1 => by
    obtain ⟨_, x2, _⟩ := old e n1
    show (if h : ∃ l, g' p = some (.slot 0, l) then some (Tag.slot i, π ++ h.choose) else if keep = true ∧ ∃ l, g' p = some (.res, l) then g' p else if ∃ l, g p = some (.slot i, π ++ l) then none else g p) = some (t, κ)
    rw [dif_neg (by rintro ⟨l', z⟩; rw [x2] at z; cases z), if_neg (by rintro ⟨_, l', z⟩; rw [x2] at z; cases z), if_neg, e]
    rintro ⟨l', z⟩
    rw [e] at z
    cases z
    rcases n1 with n1 | n1
    · exact n1 rfl
    · exact n1 (List.prefix_append _ _)
  have inv : ∀ {p l}, g2 p = some l → (∃ l', g' p = some (.slot 0, l') ∧ l = (.slot i, π ++ l')) ∨ (keep = true ∧ g' p = some l ∧ l.1 = .res) ∨ (g p = some l ∧ ∀ l', g p ≠ some (.slot i, π ++ l')) := fun {p l} e => by
    have e' : (if h : ∃ l, g' p = some (.slot 0, l) then some (Tag.slot i, π ++ h.choose) else if keep = true ∧ ∃ l, g' p = some (.res, l) then g' p else if ∃ l, g p = some (.slot i, π ++ l) then none else g p) = some l := e
    split at e'
    · rename_i z
      cases e'
      exact .inl ⟨_, z.choose_spec, rfl⟩
    · split at e'
      · rename_i z
        obtain ⟨hk, l', z⟩ := z
        rw [z] at e'
        cases e'
        exact .inr (.inl ⟨hk, z, rfl⟩)
      · split at e'
        · cases e'
        · rename_i z
          exact .inr (.inr ⟨e', fun l' y => z ⟨l', y⟩⟩)
  have none_ : ∀ {p u}, g p = none → A.h p = some u → g2 p = none := fun {p u} e1 e2 => by
    obtain ⟨_, x2, _⟩ := frame (p := p) (u := u) (fun l z => by rw [e1] at z; cases z) e2
    cases q : g2 p with
    | none => rfl
    | some l =>
      rcases inv q with ⟨l', z, _⟩ | ⟨_, z, _⟩ | ⟨z, _⟩
      · rw [x2] at z; cases z
      · rw [x2] at z; cases z
      · rw [e1] at z; cases z
  refine ⟨g2, ⟨G.le, fun k p l e => ⟨ko e (.inl (by intro z; cases z)), (old e (.inl (by intro z; cases z))).1⟩, fun p u e1 e2 => ⟨(frame (fun l z => by rw [e1] at z; cases z) e2).1, none_ e1 e2, (frame (fun l z => by rw [e1] at z; cases z) e2).2.2⟩⟩, ?_, fun hk p l e => ?_, kr⟩
  · refine (s.put (F' := F') (g' := g2) (A' := A') (n' := n') (o2 := .obj y C fs' os') e l h G.le (fun p κ e n1 => ⟨ko e (.inr n1), (old e (.inr n1)).1⟩) (fun j hj p κ e => ⟨ko e (.inl (by intro z; cases z; exact hj rfl)), (old e (.inl (by intro z; cases z; exact hj rfl))).1⟩) ?_ s'.fa (fun p l e => ?_) (fun p l e => ?_) ?_ s'.pn).1
    · have := RO.shift (π := π) (t' := .slot i) (g' := g2) (.refl F') (fun p l e => ⟨ks e, rfl⟩) [] _ _ rs
      rw [List.append_nil] at this
      exact this.unnamed hy
    · rcases inv e with ⟨l', z, _⟩ | ⟨_, z, _⟩ | ⟨z, n1⟩
      · exact s'.gf p _ z
      · exact s'.gf p _ z
      · obtain ⟨u, hu⟩ := s.ga p l z
        exact (frame n1 hu).2.2 (s.gf p l z)
    · rcases inv e with ⟨l', z, _⟩ | ⟨_, z, _⟩ | ⟨z, n1⟩
      · exact s'.ga p _ z
      · exact s'.ga p _ z
      · obtain ⟨u, hu⟩ := s.ga p l z
        exact ⟨u, (frame n1 hu).1⟩
    · obtain ⟨m, hm⟩ := s.tb
      refine ⟨m, fun p k l e => ?_⟩
      rcases inv e with ⟨l', z, z2⟩ | ⟨_, z, z2⟩ | ⟨z, n1⟩
      · cases z2
      · cases z2
      · exact hm p k l z
  · rcases inv e with ⟨l', z, z2⟩ | ⟨z, _, _⟩ | ⟨z, n1⟩
    · cases z2
    · rw [hk] at z; cases z
    · exact nr p l z
end
/-- s.m(..), changing the instance at s, that is owned -/
def dMethO (C m : Str) (sp : SpM) (to : TEd) (ta : TAd) : TEd := fun ρ n Q X => to ρ n (fun s ρ1 n1 => match s with
  | .own i π x => (∃ o y fs os, ρ1[i]? = some (some o) ∧ look o π = some (.obj y C fs os) ∧ m ∉ fs) ∧ ta ρ1 n1 (fun ds ρ2 n2 => ownAt i π x ρ2 fun o o1 => ∃ y fs os, o1 = .obj y C fs os ∧
      sp fs os ds n2 (fun r fs' os' n3 => Q (resS r) (ρ2.set i (some (setO o π (.obj y C fs' os')))) n3) (fun D gs es fs' os' n3 => X (ρ2.set i (some (setO o π (.obj y C fs' os')))) D gs es n3)) X
  | _ => False) X
section
variable {X : Cx} {Ew : XSw} {cl : Cl} {C m : Str} {sp : SpM} {e : Expr} {ta : TAd} {to : TEd}
theorem dMethO_lo {ω : Sw} {A : AH} {Q : VKw} (h : upE Ew cl (dMethO C m sp to ta) ω A Q) : wMeth (cl C) m (spWM cl C sp) (upE Ew cl to) (upA Ew cl ta) Ew ω A Q := by
  obtain ⟨F, g, n, ρ, Qd, Xd, hc, sm, nr, h, x, k⟩ := h
  refine up_s hc sm nr x h fun F1 g1 n1 ρ1 A1 s w hc1 G1 sm1 x1 r1 q => ?_
  cases s with
  | own i π y0 =>
    obtain ⟨⟨o, y, fs, os, eo, l, hm⟩, q⟩ := q
    have ro := sm1.own eo l r1.2.1
    simp only [RO] at ro
    obtain ⟨p, ws, ew, ex, gp, ap, el, nd, _⟩ := ro
    subst ew
    rw [hc1] at ap
    refine ⟨p, _, rfl, ap, lookup_zip_none hm, up_a hc1 sm1 r1.1 x1 q fun F2 g2 n2 ρ2 A2 ds us hc2 G2 sm2 nr2 x2 r2 q => ?_⟩
    obtain ⟨o, o1, eo, l, ⟨y, fs, os, rfl, q⟩, pw⟩ := own_still r1 sm2 q
    have ro := sm2.own eo l pw
    obtain ⟨ms, mr⟩ := sm2.lendStart (o := o) ro
    refine ⟨F2, _, n2, p, fs, os, us, ds, _, _, hc2, rfl, ms, fun q t l e => (lend_inv e).1, mr, r2, q, fun F' g' n' A' r w fs' os' G sm' rr rs q => ?_, fun F' g' n' A' D gs es ws fs' os' G sm' r l' rs q => ?_⟩
    · have two : (∃ d, r = .leaf d) ∨ resS r = .new r := by
        cases r with
        | leaf d => exact .inl ⟨d, rfl⟩
        | lst _ _ => exact .inr rfl
        | dic _ _ _ => exact .inr rfl
        | obj _ _ _ _ => exact .inr rfl
      rcases two with ⟨d, rfl⟩ | er
      · obtain ⟨g3, G3, sm3, n3, _⟩ := sm2.afterLend nr2 eo l pw G sm' rs false
        exact k _ _ _ _ _ _ _ (G1.trans (G2.trans G3)) sm3 (.d (n3 rfl) (by simpa only [RO] using rr)) q
      · obtain ⟨g3, G3, sm3, _, k3⟩ := sm2.afterLend nr2 eo l pw G sm' rs true
        rw [er] at q
        exact k _ _ _ _ _ _ _ (G1.trans (G2.trans G3)) sm3 (.n (rr.keep (.refl F') (fun p l e => ⟨k3 rfl p l e, rfl⟩) _ _ _)) q
    · obtain ⟨g3, G3, sm3, _, _⟩ := sm2.afterLend nr2 eo l pw G sm' rs false
      exact x2 _ _ _ _ _ _ _ _ _ _ G3 sm3 r l' q rfl
  | dat d => exact q.elim
  | new o => exact q.elim
theorem de_methO_of (h : WE X e (wMeth (cl C) m (spWM cl C sp) (upE Ew cl to) (upA Ew cl ta) Ew)) : DE X Ew cl e (dMethO C m sp to ta) := WE.imp h fun ω A Q q => dMethO_lo q
theorem de_methO0_of (h : WE X e (wMeth (cl C) m (spWM cl C sp) (upE Ew cl to) wNil Ew)) : DE X Ew cl e (dMethO C m sp to dNil) := WE.imp h fun ω A Q q => by
  have q' : wMeth (cl C) m (spWM cl C sp) (upE Ew cl to) (upA Ew cl dNil) Ew ω A Q := dMethO_lo q
  obtain ⟨F, g, n, ρ, Qd, Xd, hc, sm, nr, h, x, k⟩ := q'
  exact ⟨F, g, n, ρ, Qd, Xd, hc, sm, nr, h, x, fun F' g' n' ρ' A' s w G sm' r q => by
    obtain ⟨a, fs, e1, e2, e3, q⟩ := k F' g' n' ρ' A' s w G sm' r q
    exact ⟨a, fs, e1, e2, e3, upA_nil q⟩⟩
end
end Dx

set_option Elab.async false
set_option linter.all false
set_option maxRecDepth 100000
set_option maxHeartbeats 4000000
/-! DX13: parallel stores, x += e, names of the text, isinstance with own classes, dicts. -/
namespace Dx
open PySem L2 Wx
/-! ### trees one beside the other -/
abbrev TAo := Env → Nat → (List O → Env → Nat → Prop) → XD → Prop
def ROt (F : Fz) (h : Ah) (g : Gh) : List Nat → List O → List W → Prop
  | [], [], [] => True
  | k :: ks, o :: os, w :: ws => RO F h g (.tmp k) [] o w ∧ ROt F h g ks os ws
  | _, _, _ => False
theorem ROt.keep {F F' : Fz} {h h' : Ah} {g g' : Gh} (l : F.le F') : ∀ {ks : List Nat} {os : List O} {ws : List W}, (∀ k ∈ ks, Keep h h' g g' (.tmp k) (.tmp k)) → ROt F h g ks os ws → ROt F' h' g' ks os ws
  | [], [], [], _, _ => trivial
  | k :: ks, o :: os, w :: ws, kp, ⟨r, rs⟩ => ⟨r.keep l (kp k List.mem_cons_self) _ _ _, ROt.keep l (fun k' hk => kp k' (List.mem_cons_of_mem _ hk)) rs⟩
  | [], [], _ :: _, _, r => r.elim
  | [], _ :: _, _, _, r => r.elim
  | _ :: _, [], _, _, r => r.elim
  | _ :: _, _ :: _, [], _, r => r.elim
def upAo (Ew : XSw) (cl : Cl) (t : TAo) : TAw := fun ω A Q => ∃ F g n ρ Qd Xd b, F.cl = cl ∧ Sm F g n ρ ω A ∧ NoRes g ∧ (∀ p k l, g p = some (.tmp k, l) → k < b) ∧ t ρ n Qd Xd ∧ XOk F g A (atS ω Ew) Xd ∧
  ∀ F' g' n' ρ' A' os ws ks, Grow F g A F' g' A' → Sm F' g' n' ρ' ω A' → NoRes g' → (∀ k ∈ ks, b ≤ k) → ks.Pairwise (· < ·) → ROt F' A'.h g' ks os ws → Qd os ρ' n' → Q ws A'
abbrev DAo (X : Cx) (Ew : XSw) (cl : Cl) (es : List Expr) (t : TAo) : Prop := WA X es (upAo Ew cl t)
section
variable {F : Fz} {g : Gh} {n : Nat} {ρ : Env} {ω : Sw} {A : AH}
theorem Sm.asideB (s : Sm F g n ρ ω A) (b : Nat) {o : O} {w : W} (r : RO F A.h g .res [] o w) : ∃ k g', b ≤ k ∧ (∀ p k' l, g' p = some (.tmp k', l) → k' < k + 1) ∧ Grow F g A F g' A ∧ Sm F g' n ρ ω A ∧ NoRes g' ∧ RO F A.h g' (.tmp k) [] o w := by
  obtain ⟨m, hm⟩ := s.tb
  have bd : ∀ p k' l, reTag g .res (.tmp (max b m)) p = some (.tmp k', l) → k' < max b m + 1 := fun p k' l e => by
    rcases reTag_some e with ⟨_, z⟩ | ⟨z, _⟩
    · cases z; omega
    · have := hm p k' l z; omega
  refine ⟨max b m, reTag g .res (.tmp (max b m)), Nat.le_max_left _ _, bd, ⟨.refl F, fun k p l e => ⟨reTag_ne e (by intro z; cases z), rfl⟩, fun p o e1 e2 => ⟨e2, reTag_none e1, fun z => z⟩⟩, ⟨s.fa, fun p l e => ?_, fun p l e => ?_, ⟨_, bd⟩, s.ln, fun j u ej => ?_, s.pn⟩, fun p l e => ?_, r.keep (.refl F) (fun p l e => ⟨reTag_t e, rfl⟩) _ _ _⟩
  · obtain ⟨l', e'⟩ := reTag_dom e
    exact s.gf p _ e'
  · obtain ⟨l', e'⟩ := reTag_dom e
    exact s.ga p _ e'
  · obtain ⟨w2, e2, r2⟩ := s.sl j u ej
    exact ⟨w2, e2, r2.keep (.refl F) (fun p l e => ⟨reTag_ne e (by intro z; cases z), rfl⟩) _ _ _⟩
  · rcases reTag_some e with ⟨_, z⟩ | ⟨_, z⟩
    · cases z
    · exact z rfl
end
def dNilO : TAo := fun ρ n Q _ => Q [] ρ n
def dConsO (te : TEd) (tr : TAo) : TAo := fun ρ n Q X => te ρ n (treeK fun o ρ1 n1 => tr ρ1 n1 (fun os ρ2 n2 => Q (o :: os) ρ2 n2) X) X
section
variable {X : Cx} {Ew : XSw} {cl : Cl} {e : Expr} {es : List Expr} {te : TEd} {tA : TAo}
theorem dao_nil : DAo X Ew cl [] dNilO := WA.imp wa_nil fun ω A Q ⟨F, g, n, ρ, Qd, Xd, b, hc, sm, nr, hb, h, x, k⟩ => k _ _ _ _ _ [] [] [] (.refl F g A) sm nr (fun _ h => nomatch h) .nil trivial h
theorem dao_cons (ha : DE X Ew cl e te) (hr : DAo X Ew cl es tA) (hs : starEach (e :: es) X.env = (false, eval e X.env) :: starEach es X.env := by rfl) : DAo X Ew cl (e :: es) (dConsO te tA) := WA.imp (wa_cons ha hr hs) fun ω A Q ⟨F, g, n, ρ, Qd, Xd, b, hc, sm, nr, hb, h, x, k⟩ =>
  up_tree hc sm nr x h fun F1 g1 n1 ρ1 A1 o w hc1 G1 sm1 x1 r1 _ q => by
    obtain ⟨kt, g2, hk, bd, G2, sm2, nr2, r2⟩ := sm1.asideB b r1
    refine ⟨F1, g2, n1, ρ1, _, Xd, kt + 1, hc1, sm2, nr2, bd, q, x1.grow G2, fun F3 g3 n3 ρ3 A3 os ws ks G3 sm3 nr3 hks pw rs q => ?_⟩
    refine k F3 g3 n3 ρ3 A3 (o :: os) (w :: ws) (kt :: ks) (G1.trans (G2.trans G3)) sm3 nr3 (fun k' hk' => ?_) (.cons (fun k' hk' => by have := hks k' hk'; omega) pw) ⟨r2.keep G3.le (G3.kp kt) _ _ _, rs⟩ q
    rcases List.mem_cons.mp hk' with z | z
    · omega
    · have := hks k' z; omega
end
def setAll (ρ : Env) : List Nat → List O → Env
  | i :: is, o :: os => setAll (ρ.set i (some o)) is os
  | _, _ => ρ
def setAllW (ω : Sw) : List Nat → List W → Sw
  | i :: is, w :: ws => setAllW (ω.set i (some w)) is ws
  | _, _ => ω
theorem Sm.setTmps {F : Fz} {n : Nat} {A : AH} {F0 : Fz} {g0 : Gh} {A0 : AH} : ∀ {ks : List Nat} {is : List Nat} {os : List O} {ws : List W} {g : Gh} {ρ : Env} {ω : Sw}, Sm F g n ρ ω A → NoRes g → ks.Pairwise (· < ·) → (∀ k ∈ ks, ∀ p l, g0 p ≠ some (.tmp k, l)) → ROt F A.h g ks os ws → Grow F0 g0 A0 F g A →
    ∃ g', Grow F0 g0 A0 F g' A ∧ Sm F g' n (setAll ρ is os) (setAllW ω is ws) A ∧ NoRes g'
  | [], is, [], [], g, ρ, ω, s, nr, _, _, _, G => by
    cases is <;> exact ⟨g, G, s, nr⟩
  | k :: ks, [], o :: os, w :: ws, g, ρ, ω, s, nr, _, _, _, G => ⟨g, G, s, nr⟩
  | k :: ks, i :: is, o :: os, w :: ws, g, ρ, ω, s, nr, pw, fr, ⟨r, rs⟩, G => by
    obtain ⟨p1, p2⟩ := List.pairwise_cons.mp pw
    obtain ⟨g1, sm1, r1, K1, G1⟩ := s.up nr r
    have G2 := G1 (fr k List.mem_cons_self) G
    obtain ⟨g3, G3, sm3, nr3⟩ := sm1.setNew (i := i) r1
    have keep1 : ∀ k' ∈ ks, Keep A.h A.h g g3 (.tmp k') (.tmp k') := fun k' hk' p l e => by
      have ne : k' ≠ k := fun z => by have := p1 k' hk'; omega
      have e1 : g1 p = some (.tmp k', l) := (K1 k' ne p l e).1
      exact ⟨(G3.kp k' p l e1).1, rfl⟩
    exact Sm.setTmps (ks := ks) (is := is) sm3 nr3 p2 (fun k' hk' => fr k' (List.mem_cons_of_mem _ hk')) (rs.keep (.refl F) keep1) (G2.trans G3)
  | [], _, [], _ :: _, _, _, _, _, _, _, _, r, _ => r.elim
  | [], _, _ :: _, _, _, _, _, _, _, _, _, r, _ => r.elim
  | _ :: _, _, [], _, _, _, _, _, _, _, _, r, _ => r.elim
  | _ :: _, _, _ :: _, [], _, _, _, _, _, _, _, r, _ => r.elim

def dPar (is : List Nat) (ta : TAo) : TSd := fun D ρ n => ta ρ n (fun os ρ1 n1 => os.length = is.length ∧ D.nx (setAll ρ1 is os) n1) D.ex
theorem ROt.length {F : Fz} {h : Ah} {g : Gh} : ∀ {ks : List Nat} {os : List O} {ws : List W}, ROt F h g ks os ws → ws.length = os.length
  | [], [], [], _ => rfl
  | k :: ks, o :: os, w :: ws, ⟨_, rs⟩ => by rw [List.length_cons, List.length_cons, ROt.length rs]
  | [], [], _ :: _, r => r.elim
  | [], _ :: _, _, r => r.elim
  | _ :: _, [], _, r => r.elim
  | _ :: _, _ :: _, [], r => r.elim
section
variable {X : Cx} {Ew : XSw} {cl : Cl} {e : Expr} {es : List Expr} {te : TEd} {tA : TAo} {pos : Pos}
theorem dPar_lo {is : List Nat} {D : Dw} {ω : Sw} {A : AH} (h : upS Ew cl (dPar is tA) D ω A) : upAo Ew cl tA ω A fun ws A1 => ws.length = is.length ∧ D.nx (setAllW ω is ws) A1 := by
  obtain ⟨F, g, n, ρ, D', hc, sm, nr, h, e⟩ := h
  obtain ⟨m, hm⟩ := sm.tb
  refine ⟨F, g, n, ρ, _, D'.ex, m, hc, sm, nr, hm, h, e.ex.at, fun F' g' n' ρ' A' os ws ks G sm' nr' hks pw rs ⟨l, q⟩ => ⟨rs.length.trans l, ?_⟩⟩
  obtain ⟨g2, G2, sm2, nr2⟩ := Sm.setTmps (is := is) sm' nr' pw (fun k hk p l e => by have := hm p k l e; have := hks k hk; omega) rs G
  exact e.nx _ _ _ _ _ _ G2 sm2 nr2 q
theorem ds_par2 {i j : Nat} {x y : Str} {a b : Expr} {px py pt : Pos} {kt k2 pt2} (hc : X.calm = true) (hN : X.N.Nodup) (hi : X.N[i]? = some x) (hj : X.N[j]? = some y) (hij : i ≠ j)
    (hx : X.env.scope.names.lookup x = some .local) (hy : X.env.scope.names.lookup y = some .local) (ha : DAo X Ew cl [a, b] tA)
    (hw : swappedStores [.Tuple [.Name x px, .Name y py] kt pt] (.Tuple [a, b] k2 pt2) X.env = pure (some [x, y]))
    (hs : swapsWithSole [.Tuple [.Name x px, .Name y py] kt pt] (.Tuple [a, b] k2 pt2) pos.line X.env = pure false := by rfl) :
    DS X Ew cl (.Assign [.Tuple [.Name x px, .Name y py] kt pt] (.Tuple [a, b] k2 pt2) pos) (dPar [i, j] tA) := WS.imp (ws_par hc hN hi hj hij hx hy ha hw hs) fun D ω A h => by
  obtain ⟨F, g, n, ρ, Qd, Xd, b, h1, h2, h3, h4, h5, h6, k⟩ := dPar_lo h
  refine ⟨F, g, n, ρ, Qd, Xd, b, h1, h2, h3, h4, h5, h6, fun F' g' n' ρ' A' os ws ks G sm' nr' hks pw rs q => ?_⟩
  obtain ⟨l, q⟩ := k F' g' n' ρ' A' os ws ks G sm' nr' hks pw rs q
  match ws, l with
  | [v, w], _ => exact ⟨v, w, rfl, q⟩
/-- the same by a tuple that is laid and taken apart -/
theorem ds_parT {is : List Nat} {tgs : List Expr} {gs : TGsw} {kt k2 : Nat} {pt pt2 : Pos} {nn : Nat} (hc : X.calm = true) (ha : DAo X Ew cl es tA) (hg : WGs X tgs gs) (hgs : ∀ ws ω A Q, ws.length = is.length → Q (setAllW ω is ws) A → gs ws ω A Q) (hl : is.length ≤ 8)
    (hn : (assignEach tgs X.env).length = is.length := by rfl) (hst : (assignEach tgs X.env).findIdx? (·.1) = none := by rfl) (hs : swapsWithSole [.Tuple tgs kt pt] (.Tuple es k2 pt2) pos.line X.env = pure false := by rfl) (hw : swappedStores [.Tuple tgs kt pt] (.Tuple es k2 pt2) X.env = pure none := by rfl)
    (h1 : (assignEach [.Tuple tgs kt pt] X.env).map (·.2) = [assign (.Tuple tgs kt pt) X.env] := by rfl) : DS X Ew cl (.Assign [.Tuple tgs kt pt] (.Tuple es k2 pt2) pos) (dPar is tA) := WS.imp (ws_asg (we_tup ha) (wg_tup hc hg hn hst) hs hw h1) fun D ω A h => by
  obtain ⟨F, g, n, ρ, Qd, Xd, b, h1, h2, h3, h4, h5, h6, k⟩ := dPar_lo h
  refine ⟨F, g, n, ρ, Qd, Xd, b, h1, h2, h3, h4, h5, h6, fun F' g' n' ρ' A' os ws ks G sm' nr' hks pw rs q => ?_⟩
  obtain ⟨l, q⟩ := k F' g' n' ρ' A' os ws ks G sm' nr' hks pw rs q
  refine ⟨by rw [l, sizeLine_eq]; omega, ws, rfl, l, hgs _ _ _ _ l q⟩
end
theorem gs3 {i j l : Nat} : ∀ (ws : List W) (ω : Sw) (A : AH) (Q : Sw → AH → Prop), ws.length = [i, j, l].length → Q (setAllW ω [i, j, l] ws) A → wgCons (wgName i) (wgCons (wgName j) (wgCons (wgName l) wgNil)) ws ω A Q := fun ws ω A Q hl q => by
  match ws, hl with
  | [a, b, c], _ => exact ⟨a, _, rfl, b, _, rfl, c, _, rfl, rfl, q⟩
theorem gs4 {i j l m : Nat} : ∀ (ws : List W) (ω : Sw) (A : AH) (Q : Sw → AH → Prop), ws.length = [i, j, l, m].length → Q (setAllW ω [i, j, l, m] ws) A → wgCons (wgName i) (wgCons (wgName j) (wgCons (wgName l) (wgCons (wgName m) wgNil))) ws ω A Q := fun ws ω A Q hl q => by
  match ws, hl with
  | [a, b, c, d], _ => exact ⟨a, _, rfl, b, _, rfl, c, _, rfl, d, _, rfl, rfl, q⟩
theorem gs5 {i j l m o : Nat} : ∀ (ws : List W) (ω : Sw) (A : AH) (Q : Sw → AH → Prop), ws.length = [i, j, l, m, o].length → Q (setAllW ω [i, j, l, m, o] ws) A → wgCons (wgName i) (wgCons (wgName j) (wgCons (wgName l) (wgCons (wgName m) (wgCons (wgName o) wgNil)))) ws ω A Q := fun ws ω A Q hl q => by
  match ws, hl with
  | [a, b, c, d, e], _ => exact ⟨a, _, rfl, b, _, rfl, c, _, rfl, d, _, rfl, e, _, rfl, rfl, q⟩
theorem gs2 {i j : Nat} : ∀ (ws : List W) (ω : Sw) (A : AH) (Q : Sw → AH → Prop), ws.length = [i, j].length → Q (setAllW ω [i, j] ws) A → wgCons (wgName i) (wgCons (wgName j) wgNil) ws ω A Q := fun ws ω A Q hl q => by
  match ws, hl with
  | [a, b], _ => exact ⟨a, _, rfl, b, _, rfl, rfl, q⟩
/-! x += e, of ints -/
def dAug (i : Nat) (op : Int → Int → Int) (te : TEd) : TSd := fun D ρ n => ∃ a, ρ[i]? = some (some (.leaf (.int a))) ∧ te ρ n (fun s ρ1 n1 => match s with
  | .dat (.int b) => D.nx (ρ1.set i (some (.leaf (.int (op a b))))) n1
  | _ => False) D.ex
section
variable {X : Cx} {Ew : XSw} {cl : Cl} {e : Expr} {te : TEd} {pos pos' : Pos} {x : Str} {i : Nat}
theorem ds_aug {op : Operator} {opi : Int → Int → Int} (hN : X.N.Nodup) (hi : X.N[i]? = some x) (hx : Loc X.env.scope x) (he : DE X Ew cl e te) (ho : OpW X (inplaceOp op) (rwI0 fun a b => .int (opi a b))) (hf : X.fn x = true ∨ X.env.scope.names.lookup x = some .local := by first | exact .inl rfl | exact .inr rfl | assumption) :
    DS X Ew cl (.AugAssign (.Name x pos') op e pos) (dAug i opi te) := WS.imp (ws_aug hN hi hx he ho hf) fun D ω A ⟨F, g, n, ρ, D', hc, sm, nr, ⟨a, ea, h⟩, e⟩ => by
  obtain ⟨w, ew, r⟩ := sm.sl i _ ea
  simp only [RO, RD] at r
  subst r
  refine ⟨_, ew, up_s hc sm nr e.ex.at h fun F1 g1 n1 ρ1 A1 s w hc1 G1 sm1 x1 r1 q => ?_⟩
  split at q
  · rename_i b
    obtain ⟨nr1, r1⟩ := r1
    simp only [RD] at r1
    obtain ⟨g2, G2, sm2, nr2⟩ := sm1.setD nr1 (i := i) (d := .int (opi a b)) (w := .int (opi a b)) (by simp only [RD])
    exact ⟨a, b, rfl, r1, e.nx _ _ _ _ _ _ (G1.trans G2) sm2 nr2 q⟩
  · exact q.elim
end
/-! names of the text, -x -/
section
variable {X : Cx} {Ew : XSw} {cl : Cl} {e : Expr} {te : TEd} {pos : Pos} {x : Str}
theorem de_glb (hg : Gl X x) (hm : X.mg x = some (.ref (cl x))) (hd : (x == ("__debug__" : Str)) = false := by decide) : DE X Ew cl (.Name x pos) (dC (.glb x)) := de_c (we_gref hg hm hd) fun F hc => by simp only [RD, hc]
theorem de_ty {n : String} (hg : Gl X x) (hm : X.mg x = none) (hv : bootBuiltins x = some (.type n)) (hn : x ≠ "__name__" := by decide) (hd : (x == ("__debug__" : Str)) = false := by decide) : DE X Ew cl (.Name x pos) (dC (.ty n)) := de_c (we_ty hg hm hv hn hd) fun F hc => by simp only [RD]
def dNeg (te : TEd) : TEd := fun ρ n Q X => te ρ n (fun s ρ1 n1 => match s with
  | .dat (.int b) => Q (.dat (.int (-b))) ρ1 n1
  | _ => False) X
theorem de_neg (he : DE X Ew cl e te) : DE X Ew cl (.UnaryOp .USub e pos) (dNeg te) := WE.imp (we_neg he) fun ω A Q ⟨F, g, n, ρ, Qd, Xd, hc, sm, nr, h, x, k⟩ =>
  up_s hc sm nr x h fun F1 g1 n1 ρ1 A1 s w hc1 G1 sm1 x1 r1 q => by
    split at q
    · rename_i b
      obtain ⟨nr1, r1⟩ := r1
      simp only [RD] at r1
      exact ⟨b, r1, k _ _ _ _ _ _ _ G1 sm1 (.d nr1 (by simp only [RD])) q⟩
    · exact q.elim
/-- a constant of the text -/
theorem de_const {w : W} {d : D} (c : GConst X.K X.mg x w) (hg : Gl X x) (r : ∀ F : Fz, RD F d w) (hd : (x == ("__debug__" : Str)) = false := by decide) : DE X Ew cl (.Name x pos) (dC d) := de_c (c.we hg hd) fun F _ => r F
theorem rd_ktup {F : Fz} {ss : List Str} : RD F (.tup (ss.map .str)) (.ktup (ss.map .str)) := by
  simp only [RD]
  exact ⟨_, .inr rfl, rds_strs⟩
end
/-! chains of comparisons -/
def dChain (r r' : R2d) (ta tb tc : TEd) : TEd := fun ρ n Q X => ta ρ n (fzK fun s1 ρ1 n1 => tb ρ1 n1 (fzK fun s2 ρ2 n2 => wO0 s1 ρ2 fun o1 => wO s2 ρ2 fun o2 => r o1 o2 fun s => bK (fun b ρ3 n3 => if b = true then tc ρ3 n3 (fun s3 ρ4 n4 => wO0 s2 ρ4 fun o2 => wO s3 ρ4 fun o3 => r' o2 o3 fun s => Q s ρ4 n4) X else Q (.dat (.bl false)) ρ3 n3) s ρ2 n2) X) X
section
variable {X : Cx} {Ew : XSw} {cl : Cl} {a b c : Expr} {ta tb tc : TEd} {pos : Pos} {op op' : CmpOp} {r r' : R2w} {rd rd' : R2d}
theorem VO.mono {F F' : Fz} {A : AH} {o : O} {w : W} (v : VO F A o w) (l : F.le F') : VO F' A o w := by
  obtain ⟨gv, tv, πv, rv⟩ := v
  exact ⟨gv, tv, πv, rv.keep l (fun p l e => ⟨e, rfl⟩) _ _ _⟩
theorem dChain_lo (hr : RdW r rd) (hr' : RdW r' rd') {ω : Sw} {A : AH} {Q : VKw} (h : upE Ew cl (dChain rd rd' ta tb tc) ω A Q) : wChain r r' (upE Ew cl ta) (upE Ew cl tb) (upE Ew cl tc) ω A Q := by
  obtain ⟨F, g, n, ρ, Qd, Xd, hc, sm, nr, h, x, k⟩ := h
  refine up_fz hc sm nr x h fun F1 g1 n1 ρ1 A1 s1 w1 hc1 G1 sm1 nr1 x1 r1 nn h1 => ?_
  refine up_fz hc1 sm1 nr1 x1 h1 fun F2 g2 n2 ρ2 A2 s2 w2 hc2 G2 sm2 nr2 x2 r2 nn2 h2 => ?_
  obtain ⟨o1, v1, h3⟩ := RS.look0 sm2 G2.le r1 h2
  obtain ⟨o2, v2, h4⟩ := RS.look sm2 r2 h3
  refine hr F2 g2 n2 ρ2 ω A2 o1 o2 w1 w2 _ _ sm2 nr2 v1 v2 h4 fun F3 g3 A3 s w G3 sm3 r3 q => ?_
  obtain ⟨b, rfl, q⟩ := bK_dat q
  obtain ⟨nr3, r3⟩ := r3
  simp only [RD] at r3
  refine ⟨b, r3, ?_⟩
  cases b with
  | true =>
    refine up_s (G3.le.cl.trans hc2) sm3 nr3 (x2.grow G3) q fun F4 g4 n4 ρ4 A4 s3 w3 hc4 G4 sm4 x4 r4 q => ?_
    have r2' : RS F2 A2.h g2 ω s2 w2 := r2
    obtain ⟨o2', v2', h5⟩ := RS.look0 sm4 (G3.le.trans G4.le) r2' q
    obtain ⟨F5, g5, o3, G5, sm5, nr5, v3, h6⟩ := RS.lookF sm4 r4 h5
    exact hr' F5 g5 n4 ρ4 ω A4 o2' o3 w2 w3 _ Q sm5 nr5 (v2'.mono G5.le) v3 h6 fun F' g' A' s w G' sm' r' q => k _ _ _ _ _ _ _ (G1.trans (G2.trans (G3.trans (G4.trans (G5.trans G'))))) sm' r' q
  | false => exact k _ _ _ _ _ _ _ (G1.trans (G2.trans G3)) sm3 (.d nr3 (by simp only [RD])) q
theorem de_chain (ho : OpW X (compareOp op) r) (hr : RdW r rd) (ho' : OpW X (compareOp op') r') (hr' : RdW r' rd') (ha : DE X Ew cl a ta) (hb : DE X Ew cl b tb) (hc : DE X Ew cl c tc) (hm : lastMarks [op, op'] [b, c] = false := by with_unfolding_all rfl) : DE X Ew cl (.Compare a [op, op'] [b, c] pos) (dChain rd rd' ta tb tc) :=
  WE.imp (we_chain ho ho' ha hb hc hm) fun ω A Q h => dChain_lo hr hr' h
theorem dt_chain (ho : OpW X (compareOp op) r) (hr : RdW r rd) (ho' : OpW X (compareOp op') r') (hr' : RdW r' rd') (ha : DE X Ew cl a ta) (hb : DE X Ew cl b tb) (hc : DE X Ew cl c tc) (hm : lastMarks [op, op'] [b, c] = false := by with_unfolding_all rfl) : DT X Ew cl (.Compare a [op, op'] [b, c] pos) (dTest (dChain rd rd' ta tb tc)) :=
  WT.imp (wt_chain ho ho' ha hb hc hm) fun ω A Q ⟨F, g, n, ρ, Qd, Xd, hc, sm, nr, h, x, k⟩ => by
    refine dChain_lo hr hr' ⟨F, g, n, ρ, bK Qd, Xd, hc, sm, nr, h, x, fun F1 g1 n1 ρ1 A1 s1 w1 G1 sm1 r1 h1 => ?_⟩
    obtain ⟨b, rfl, q⟩ := bK_dat h1
    obtain ⟨nr1, r1⟩ := r1
    simp only [RD] at r1
    exact ⟨b, r1, k _ _ _ _ _ _ G1 sm1 nr1 q⟩
end
end Dx

set_option Elab.async false
set_option linter.all false
set_option maxRecDepth 100000
set_option maxHeartbeats 4000000
/-! DX14: try with clauses 'except x as n'; the caught exception's fields. -/
namespace Dx
open PySem L2 Wx
structure HdD where
  ex : Str → Option Bool
  i : Nat
  ts : Addr → Str → Option Addr → TSd
def dUnset (i : Nat) (D : Dd) : Dd := { nx := fun ρ n => D.nx (ρ.set i none) n, rt := D.rt, bk := fun ρ n => D.bk (ρ.set i none) n, ct := fun ρ n => D.ct (ρ.set i none) n }
def dCatch (D : Dd) : List HdD → XD
  | [] => D.ex
  | h :: r => fun ρ C fs es n => ∃ b, h.ex C = some b ∧ (b = true → ∀ a dd, (dd = none → fs = []) → h.ts a C dd (dUnset h.i D) (ρ.set h.i (some (.leaf (.exc a dd C fs es)))) n) ∧ (b = false → dCatch D r ρ C fs es n)
def dTryM (hs : List HdD) (tb : TSd) : TSd := fun D ρ n => tb { D with ex := dCatch D hs } ρ n
/-- an exception's dict becomes known: frozen -/
theorem Sm.xd {F : Fz} {g : Gh} {n : Nat} {ρ : Env} {ω : Sw} {A : AH} (s : Sm F g n ρ ω A) (nr : NoRes g) {dd : Addr} {wo : WO} (e : A.h dd = none) : ∃ F' g', Grow F g A F' g' (A.put dd wo) ∧ Sm F' g' n ρ ω (A.put dd wo) ∧ NoRes g' ∧ F'.h dd = some wo := by
  obtain ⟨g1, G1, s1, e1, _⟩ := s.newAt nr (wo := wo) e
  refine ⟨_, _, G1.trans (s1.frz_grow (t := .res) (by intro _ z; cases z)), s1.frz (by intro _ z; cases z), noRes_unTag, ?_⟩
  show (if isTag .res (g1 dd) then (A.put dd wo).h dd else F.h dd) = some wo
  rw [e1, if_pos (by simp [isTag]), AH.put_same]
/-- the clauses above the abstract heap; with the class of each -/
def lwOf (K : PySem.W.Frag) (cl : Cl) : List (Value × HdD) → List HdW
  | [] => []
  | (c, h) :: r => ⟨fun Ca => PySem.W.exmOne K (.ref Ca) c, h.i, fun a Ca d D ω A => ∃ C, Ca = cl C ∧ upS X0w cl (h.ts a C d) D ω A⟩ :: lwOf K cl r
def HdsX (K : PySem.W.Frag) (cl : Cl) (l : List (Value × HdD)) : Prop := ∀ p ∈ l, ∀ C b, p.2.ex C = some b → PySem.W.exmOne K (.ref (cl C)) p.1 = some b
inductive HdsD (X : Cx) (cl : Cl) : List ExceptHandler → List (Value × HdD) → Prop
  | nil : HdsD X cl [] []
  | cons {x n : Str} {c : Value} {h : HdD} {b₀ : Stmt} {suite : List Stmt} {np pos' : Pos} {hds : List ExceptHandler} {l : List (Value × HdD)} (hi : X.N[h.i]? = some n) (hln : X.env.kindOf n = some .local) (hc : Names X x c)
      (hsu : ∀ (a : Addr) (C : Str) (d : Option Addr) (oe : Obj) (pn : List (Addr × Obj)), Zc (.ref (cl C)) d oe → (∃ vs, oe.data = .fields vs) → DSs (X.suite a ((a, oe) :: pn)) X0w cl (b₀ :: suite) (h.ts a C d)) (r : HdsD X cl hds l) :
      HdsD X cl (.ExceptHandler (some (.Name x np)) (some n) (b₀ :: suite) pos' :: hds) ((c, h) :: l)
theorem HdsD.w {X : Cx} {cl : Cl} {hds : List ExceptHandler} {l : List (Value × HdD)} (h : HdsD X cl hds l) : HdsW X hds (lwOf X.K cl l) := by
  induction h with
  | nil => exact .nil
  | cons hi hln hc hsu r ih => exact .cons hi hln hc (fun C b e => e) (fun a C d oe pn hz hd => ⟨fun pins s σ H ω A D I sm ra ⟨Cn, e, q⟩ => by subst e; exact (hsu a Cn d oe pn hz hd).run pins s σ H ω A D I sm ra q⟩) ih
theorem Grow.of_at {F F' : Fz} {g g' : Gh} {A A' : AH} {tp : Hp} (le : TupLe0 F.tp tp) (G : Grow { F with tp := tp } g (A.at tp) F' g' A') : Grow F g A F' g' A' :=
  ⟨Fz.le.trans (G := { F with tp := tp }) ⟨fun _ _ h => h, .inr rfl, rfl, le⟩ G.le, G.kp, G.fr⟩
theorem HdsX.catch {K : PySem.W.Frag} {cl : Cl} {F : Fz} {g : Gh} {A A0 : AH} {F0 : Fz} {g00 : Gh} {Ew : XSw} {D' : Dd} {D : Dw} (hc : F.cl = cl) {tp : Hp} (htp : TupLe0 tp F.tp)
    (e : EndOk F0 g00 A0 Ew D' D) (up : ∀ {F' g' A'}, Grow F g A F' g' A' → Grow F0 g00 A0 F' g' A') : ∀ {l : List (Value × HdD)}, HdsX K cl l → XOk F g A (wCatch tp Ew D (lwOf K cl l)) (dCatch D' (l.map (·.2))) := by
  intro l hX
  induction l with
  | nil => exact fun _ _ _ _ _ _ _ _ _ _ G => e.ex _ _ _ _ _ _ _ _ _ _ (up G)
  | cons p l ih =>
    obtain ⟨c, h⟩ := p
    have hx := hX _ List.mem_cons_self
    have ih := ih fun p hp => hX p (List.mem_cons_of_mem _ hp)
    rintro F' g' n' ρ' ω' A' C fs ds ws G sm rd hl ⟨b, eb, hy, hn⟩
    refine ⟨?_, b, hx _ _ eb |> fun z => ?_, fun et => ?_, fun ef => ih F' g' n' ρ' ω' A' C fs ds ws G sm rd hl (hn ef)⟩
    · exact fun z vs => ⟨fun q => (sm.pn.2.2.2 z vs).1 ((G.le.tp z vs).1 ((htp z vs).1 q)), fun o q => (sm.pn.2.2.2 z vs).2 o ((G.le.tp z vs).2 o ((htp z vs).2 o q))⟩
    · rw [G.le.cl, hc]; exact z
    · -- the suite
      have hcl : F'.cl C = cl C := by rw [G.le.cl, hc]
      have G1 := sm.frz_grow (t := .res) (by intro _ z; cases z)
      have sm1 := sm.frz (t := .res) (by intro _ z; cases z)
      have nr1 : NoRes (unTag g' .res) := noRes_unTag
      have go : ∀ {F2 : Fz} {g2 : Gh} {A2 : AH} {a : Addr} {dd : Option Addr}, Grow F' g' A' F2 g2 A2 → Sm F2 g2 n' ρ' ω' A2 → NoRes g2 → (dd = none → fs = []) → (∀ d, dd = some d → F2.h d = some (.xd (fs.zip ws))) →
          upS X0w cl (h.ts a C dd) (wUnset h.i D) (ω'.set h.i (some (.ref a))) A2 := fun {F2 g2 A2 a dd} G2 sm2 nr2 e1 e2 => by
        obtain ⟨g3, G3, sm3, nr3⟩ := sm2.setD nr2 (i := h.i) (d := .exc a dd C fs ds) (w := .ref a) (by simp only [RD]; exact ⟨trivial, ws, e1, e2, hl, RDs.mono G2.le _ _ rd⟩)
        have GG := (up (G.trans (G2.trans G3)))
        refine ⟨F2, g3, n', _, dUnset h.i D', by rw [G2.le.cl, G.le.cl, hc], sm3, nr3, hy et a dd e1, ?_⟩
        exact ⟨fun F4 g4 n4 ρ4 ω4 A4 G4 sm4 nr4 q => e.nx _ _ _ _ _ _ (GG.trans G4) sm4.unset nr4 q, fun F4 g4 n4 ρ4 ω4 A4 G4 sm4 nr4 q => e.bk _ _ _ _ _ _ (GG.trans G4) sm4.unset nr4 q, fun F4 g4 n4 ρ4 ω4 A4 G4 sm4 nr4 q => e.ct _ _ _ _ _ _ (GG.trans G4) sm4.unset nr4 q,
          fun F4 g4 n4 ρ4 ω4 A4 o w G4 sm4 r4 q => e.rt _ _ _ _ _ _ _ _ (GG.trans G4) sm4 r4 q, xok0⟩
      refine ⟨fun ef a ha => ⟨C, hcl, go G1 sm1 nr1 (fun _ => ?_) (fun d z => nomatch z)⟩, fun a dd ha hd hne => ⟨C, hcl, ?_⟩⟩
      · cases fs with
        | nil => rfl
        | cons f fs =>
          cases ws with
          | nil =>
            have := rd.length
            rw [← hl] at this
            simp at this
          | cons w ws => simp at ef
      · obtain ⟨F3, g3, G3, sm3, nr3, e3⟩ := sm1.xd nr1 (wo := .xd (fs.zip ws)) hd
        exact go (G1.trans G3) sm3 nr3 (fun z => nomatch z) fun d z => by cases z; exact e3
section
variable {X : Cx} {Ew : XSw} {cl : Cl} {body : List Stmt} {h₀ : ExceptHandler} {hds : List ExceptHandler} {l : List (Value × HdD)} {pos : Pos} {tb : TSd}
theorem ds_tryM (hs : X.stack = X.env :: X.outer) (hf : X.env.frame = some X.env.locals) (hN : X.N.Nodup) (tk : TakesW X Ew)
    (hb : ∀ (E' : XSw) (pn : List (Addr × Obj)) (xe : Value → Shared → Prop), TakesW (X.tr pn xe) E' → DSs (X.tr pn xe) E' cl body tb)
    (hh : HdsD X cl (h₀ :: hds) l) (hx : HdsX X.K cl l) : DS X Ew cl (.Try body (h₀ :: hds) [] [] pos) (dTryM (l.map (·.2)) tb) := by
  refine WS.imp (ws_tryM (tb := fun E' => upS E' cl tb) hs hf hN tk (fun E' pn xe t _ => hb E' pn xe t) hh.w) ?_
  rintro D ω A ⟨F, g, n, ρ, D', hc, sm, nr, h, e⟩ tp htp
  have le : TupLe0 F.tp tp := fun z vs => ⟨fun q => (htp z vs).1 ((sm.pn.2.2.2 z vs).1 q), fun o q => (htp z vs).2 o ((sm.pn.2.2.2 z vs).2 o q)⟩
  refine ⟨{ F with tp := tp }, g, n, ρ, { D' with ex := dCatch D' (l.map (·.2)) }, hc, ⟨sm.fa, sm.gf, sm.ga, sm.tb, sm.ln, fun i o z => ?_, ⟨sm.pn.1, sm.pn.2.1, sm.pn.2.2.1, fun _ _ => ⟨fun h => h, fun _ h => h⟩⟩⟩, nr, h, ?_⟩
  · obtain ⟨w, e1, r⟩ := sm.sl i o z
    have l2 : F.le { F with tp := tp } := ⟨fun _ _ h => h, .inr rfl, rfl, le⟩
    exact ⟨w, e1, r.keep l2 (fun p l q => ⟨q, rfl⟩) _ _ _⟩
  · exact ⟨fun _ _ _ _ _ _ G => e.nx _ _ _ _ _ _ (G.of_at le), fun _ _ _ _ _ _ G => e.bk _ _ _ _ _ _ (G.of_at le), fun _ _ _ _ _ _ G => e.ct _ _ _ _ _ _ (G.of_at le), fun _ _ _ _ _ _ _ _ G => e.rt _ _ _ _ _ _ _ _ (G.of_at le),
      hx.catch (F := { F with tp := tp }) (g := g) (A := A.at tp) hc (fun _ _ => ⟨fun h => h, fun _ h => h⟩) e fun G => G.of_at le⟩
end
/-! ### the fields of the caught exception -/
def dSf (ok : Str → Str → Bool) (a : Addr) (C : Str) (d : Option Addr) (f : Str) (te : TEd) : TEd := fun ρ n Q X => ok C f = true ∧ te ρ n (fun s ρ1 n1 => ∃ fs es v, s = .dat (.exc a d C fs es) ∧ (fs.zip es).lookup f = some v ∧ Q (.dat v) ρ1 n1) X
theorem lookup_rd {F : Fz} {f : Str} {v : D} : ∀ {fs : List Str} {es : List D} {ws : List W}, RDs F es ws → fs.length = es.length → (fs.zip es).lookup f = some v → ∃ w, (fs.zip ws).lookup f = some w ∧ RD F v w
  | [], es, ws, r, l, e => by simp at e
  | x :: fs, [], ws, r, l, e => by simp at e
  | x :: fs, d :: es, ws, r, l, e => by
    obtain ⟨w, u, rfl, r1, r2⟩ := r.uncons
    rw [List.zip_cons_cons, List.lookup_cons] at e ⊢
    cases q : f == x with
    | true =>
      rw [q] at e
      cases e
      exact ⟨w, rfl, r1⟩
    | false =>
      rw [q] at e
      exact lookup_rd r2 (by simpa using l) e
section
variable {X : Cx} {cl : Cl} {a : Addr} {C : Str} {oe : Obj} {d : Option Addr} {pn : List (Addr × Obj)} {e : Expr} {te : TEd} {pos : Pos} {f : Str} {ok : Str → Str → Bool}
theorem de_sf (hz : Zc (.ref (cl C)) d oe) (hf : ∃ vs, oe.data = .fields vs) (hK : ∀ C f, ok C f = true → XfC X.K (cl C) ∧ PySem.W.findIn X.K (.ref (cl C)) f = some none) (he : DE (X.suite a ((a, oe) :: pn)) X0w cl e te) (hb : attributeBase e f X.env (eval e X.env) = eval e X.env := by rfl) :
    DE (X.suite a ((a, oe) :: pn)) X0w cl (.Attribute e f pos) (dSf ok a C d f te) := WE.imp (we_sf hz hf he hb) fun ω A Q ⟨F, g, n, ρ, Qd, Xd, hc, sm, nr, ⟨ho, h⟩, x, k⟩ => by
  obtain ⟨k1, k2⟩ := hK C f ho
  refine ⟨k1, k2, up_s hc sm nr x h fun F1 g1 n1 ρ1 A1 s1 w1 hc1 G1 sm1 x1 r1 ⟨fs, es, v, es1, lk, q⟩ => ?_⟩
  subst es1
  obtain ⟨nr1, r1⟩ := r1
  simp only [RD] at r1
  obtain ⟨rfl, ws, e1, e2, l, r⟩ := r1
  obtain ⟨w, lw, rw'⟩ := lookup_rd r l lk
  cases d with
  | none =>
    rw [e1 rfl] at lk
    simp at lk
  | some dd => exact ⟨rfl, dd, _, w, rfl, sm1.fa _ _ (e2 dd rfl), lw, k _ _ _ _ _ _ _ G1 sm1 (.d nr1 rw') q⟩
end
end Dx

set_option Elab.async false
set_option linter.all false
set_option maxRecDepth 100000
set_option maxHeartbeats 4000000
/-! DX15: f(lambda: body), where f is: [found = None;] try: call() except .. as ..: ..; then the rest. -/
namespace Dx
open PySem L2 Wx
def whyE (j : Option Nat) (N : List Str) (f : Addr) : Env := match j with
  | none => start N [.ref f]
  | some j => (start N [.ref f]).set j (some (.leaf .non))
def whyW (j : Option Nat) (N : List Str) (f : Addr) : Sw := match j with
  | none => startW N [.ref f]
  | some j => (startW N [.ref f]).set j (some .non)
def whyD (Q : QD) (ρ3 : Env) : Dd := { nx := fun _ n4 => Q (.dat .non) ρ3 n4, rt := fun o _ n4 => Q (resS o) ρ3 n4 }
def dWhy (j : Option Nat) (N : List Str) (hs : List HdD) (post : TSd) (te : TEd) : TEd := fun ρ n Q X => ∀ f,
  te ρ n (fun s ρ3 n3 => post (whyD Q ρ3) (whyE j N f) n3) (fun ρ3 C fs es n3 => dCatch { nx := fun ρ4 n4 => post (whyD Q ρ3) ρ4 n4, rt := (whyD Q ρ3).rt } hs (whyE j N f) C fs es n3)
/-- the def's body above the abstract heap -/
def whyT (j : Option Nat) (lw : List HdW) (post : TSw) (q : Str) (f c' : Addr) (tl : ActW) : TSw := match j with
  | none => wSeq (wTryM lw (fun E' => wDrop (wAct f c' q tl E')) X0w) post
  | some j => wSeq (wAsg (wC .non) (wgName j)) (wSeq (wTryM lw (fun E' => wDrop (wAct f c' q tl E')) X0w) post)
section
variable {F : Fz} {g : Gh} {n : Nat} {ρ : Env} {ω : Sw} {A A1 : AH}
/-- a bit more is known -/
theorem Sm.more (s : Sm F g n ρ ω A) (sb : A.Sub A1) (ep : A1.pen = A.pen) (et : A1.tp = A.tp) : Sm F g n ρ ω A1 ∧ Grow F g A F g A1 := by
  have k : ∀ p, (∃ o, A.h p = some o) → A1.h p = A.h p := fun p ⟨o, e⟩ => (sb.1 p o e).trans e.symm
  refine ⟨⟨fun p o e => sb.1 p o (s.fa p o e), s.gf, fun p l e => by rw [k p (s.ga p l e)]; exact s.ga p l e, s.tb, s.ln, fun i o e => ?_, by rw [ep]; exact s.pn.1, s.pn.2.1, sb.2.2.2.symm.trans s.pn.2.2.1, by rw [et]; exact s.pn.2.2.2⟩, ⟨.refl F, fun t p l e => ⟨e, k p (s.ga p _ e)⟩, fun p o e1 e2 => ⟨sb.1 p o e2, e1, fun z => z⟩⟩⟩
  obtain ⟨w, e1, r⟩ := s.sl i o e
  exact ⟨w, e1, r.keep (.refl F) (fun p l e => ⟨e, k p (s.ga p _ e)⟩) _ _ _⟩
theorem sm_why {j : Option Nat} {N : List Str} {f : Addr} (s : SmA F g n A) : Sm F g0 n (whyE j N f) (whyW j N f) A := by
  have b := sm_start (N := N) (SmA.start s) (RDs.cons (d := .ref f) (w := .ref f) (by simp only [RD]) .nil)
  cases j with
  | none => exact b
  | some j =>
    refine ⟨b.fa, b.gf, b.ga, b.tb, by simpa [whyE, whyW] using b.ln, fun i o e => ?_, b.pn⟩
    have e : ((start N [.ref f]).set j (some (.leaf .non)))[i]? = some (some o) := e
    by_cases hij : j = i
    · subst hij
      by_cases hl : j < (start N [.ref f]).length
      · rw [List.getElem?_set_self hl] at e
        cases e
        exact ⟨.non, List.getElem?_set_self (by rw [← b.ln]; exact hl), by simp only [RO, RD]⟩
      · rw [List.getElem?_eq_none (by simpa using hl)] at e; cases e
    · rw [List.getElem?_set_ne hij] at e
      obtain ⟨w, e1, r⟩ := b.sl i o e
      refine ⟨w, ?_, r⟩
      show ((startW N [.ref f]).set j (some .non))[i]? = _
      rw [List.getElem?_set_ne hij]
      exact e1
theorem whyW_0 {j : Option Nat} {N : List Str} {f : Addr} (hj : ∀ i, j = some i → i ≠ 0) : (whyW j N f)[0]? = some (some (.ref f)) := by
  cases j with
  | none => rfl
  | some j =>
    show ((startW N [.ref f]).set j (some .non))[0]? = _
    rw [List.getElem?_set_ne (hj j rfl)]
    rfl
end
theorem dWhy_lo {X : Cx} {Ew : XSw} {cl : Cl} {j : Option Nat} {N : List Str} {hc0 : List (Value × HdD)} {post : TSd} {te : TEd} {q : Str} (hh : HdsX X.K cl hc0) (hj : ∀ i, j = some i → i ≠ 0) {ω : Sw} {A : AH} {Q : VKw} (h : upE Ew cl (dWhy j N (hc0.map (·.2)) post te) ω A Q) :
    wLam cl.tbl q N (fun f c' tl => whyT j (lwOf X.K cl hc0) (upS X0w cl post) q f c' tl) (fun E => upE (fun _ => E) cl te) ω A Q := by
  obtain ⟨F, g, n, ρ, Qd, Xd, hc, sm, nr, h, x, k⟩ := h
  refine ⟨by rw [sm.pn.2.2.1, hc], fun f c' A1 sb hid old ep et => ?_⟩
  obtain ⟨sm1, G1⟩ := sm.more sb ep et
  -- the rest of the def
  have fin : ∀ {F3 g3 n3 ρ3 A3}, Grow F g A F3 g3 A3 → Sm F3 g3 n3 ρ3 ω A3 → NoRes g3 → ∀ {F4 g4 n4 ρ4 ω4 A4}, Grow F3 g0 A3 F4 g4 A4 → Sm F4 g4 n4 ρ4 ω4 A4 → NoRes g4 → post (whyD Qd ρ3) ρ4 n4 → upS X0w cl post { nx := fun _ A' => Q .non A', rt := Q } ω4 A4 := by
    intro F3 g3 n3 ρ3 A3 G3 sm3 nr3 F4 g4 n4 ρ4 ω4 A4 G4 sm4 nr4 q4
    refine ⟨F4, g4, n4, ρ4, whyD Qd ρ3, by rw [G4.le.cl, G3.le.cl, hc], sm4, nr4, q4, ⟨fun F5 g5 n5 ρ5 ω5 A5 G5 sm5 nr5 q5 => ?_, fun _ _ _ _ _ _ _ _ _ z => z, fun _ _ _ _ _ _ _ _ _ z => z, fun F5 g5 n5 ρ5 ω5 A5 o w G5 sm5 r5 q5 => ?_, xok0⟩⟩
    · obtain ⟨g6, G6, sm6, r6⟩ := sm3.after nr3 (G4.trans G5) sm5.smA (o := .leaf .non) (w := .non) (by simp only [RO, RD])
      exact k _ _ _ _ _ _ _ (G3.trans G6) sm6 r6 q5
    · obtain ⟨g6, G6, sm6, r6⟩ := sm3.after nr3 (G4.trans G5) sm5.smA r5
      exact k _ _ _ _ _ _ _ (G3.trans G6) sm6 r6 q5
  have main : ∀ tp, TupLe0 A1.tp tp → upE (fun _ C fs A' => wCatch tp X0w { nx := fun ω' A' => upS X0w cl post { nx := fun _ A' => Q .non A', rt := Q } ω' A', rt := Q } (lwOf X.K cl hc0) (whyW j N f) C fs A') cl te ω (A1.at tp) fun _ A' => upS X0w cl post { nx := fun _ A' => Q .non A', rt := Q } (whyW j N f) A' := by
    intro tp htp
    have le : TupLe0 F.tp tp := fun z vs => ⟨fun q => (htp z vs).1 ((sm1.pn.2.2.2 z vs).1 q), fun o q => (htp z vs).2 o ((sm1.pn.2.2.2 z vs).2 o q)⟩
    have l2 : F.le { F with tp := tp } := ⟨fun _ _ h => h, .inr rfl, rfl, le⟩
    refine ⟨{ F with tp := tp }, g, n, ρ, _, _, hc, ⟨sm1.fa, sm1.gf, sm1.ga, sm1.tb, sm1.ln, fun i o z => ?_, sm1.pn.1, sm1.pn.2.1, sm1.pn.2.2.1, fun _ _ => ⟨fun h => h, fun _ h => h⟩⟩, nr, h f, ?_, ?_⟩
    · obtain ⟨w, e1, r⟩ := sm1.sl i o z
      exact ⟨w, e1, r.keep l2 (fun p l q => ⟨q, rfl⟩) _ _ _⟩
    · rintro F3 g3 n3 ρ3 ω3 A3 C fs ds ws G3 sm3 rd hl q3 eω
      subst eω
      have G3' : Grow F g A F3 g3 A3 := G1.trans (G3.of_at le)
      have G4 := sm3.frz_grow (t := .res) (by intro _ z; cases z)
      have sm4 := sm3.frz (t := .res) (by intro _ z; cases z)
      have nr4 : NoRes (unTag g3 .res) := noRes_unTag
      have smw : Sm (F3.frz A3.h g3 .res) g0 n3 (whyE j N f) (whyW j N f) A3 := sm_why sm4.smA
      have e : EndOk (F3.frz A3.h g3 .res) g0 A3 X0w { nx := fun ρ4 n4 => post (whyD Qd ρ3) ρ4 n4, rt := (whyD Qd ρ3).rt } { nx := fun ω' A' => upS X0w cl post { nx := fun _ A' => Q .non A', rt := Q } ω' A', rt := Q } :=
        ⟨fun F5 g5 n5 ρ5 ω5 A5 G5 sm5 nr5 q5 => fin (G3'.trans G4) sm4 nr4 G5 sm5 nr5 q5, fun _ _ _ _ _ _ _ _ _ z => z, fun _ _ _ _ _ _ _ _ _ z => z, fun F5 g5 n5 ρ5 ω5 A5 o w G5 sm5 r5 q5 => by
          obtain ⟨g6, G6, sm6, r6⟩ := sm4.after nr4 G5 sm5.smA r5
          exact k _ _ _ _ _ _ _ ((G3'.trans G4).trans G6) sm6 r6 q5, xok0⟩
      have hx := hh.catch (F := F3.frz A3.h g3 .res) (g := g0) (A := A3) (tp := tp) (by rw [sm3.frz_le.cl, G3'.le.cl, hc]) (fun z vs => G3.le.tp z vs) e fun G => G
      have hcl : F3.cl C = (F3.frz A3.h g3 .res).cl C := rfl
      rw [hcl]
      exact hx _ _ _ _ _ _ _ _ _ _ (.refl _ _ _) smw (RDs.mono sm3.frz_le _ _ rd) hl q3
    · rintro F3 g3 n3 ρ3 A3 s w G3 sm3 rs q3
      have G3' : Grow F g A F3 g3 A3 := G1.trans (G3.of_at le)
      have G4 := sm3.frz_grow (t := .res) (by intro _ z; cases z)
      have sm4 := sm3.frz (t := .res) (by intro _ z; cases z)
      exact fin (G3'.trans G4) sm4 noRes_unTag (.refl _ _ _) (sm_why sm4.smA) (fun _ _ z => nomatch z) q3
  have hid' : ∀ tp, (A1.at tp).h c' = some (.hid (LamX.CodeO c' q)) := fun tp => hid
  cases j with
  | none => exact fun tp htp => ⟨whyW_0 (j := none) hj, hid, main tp htp⟩
  | some j => exact fun tp htp => ⟨whyW_0 (j := some j) hj, hid, main tp htp⟩
end Dx

set_option Elab.async false
set_option linter.all false
set_option maxRecDepth 100000
set_option maxHeartbeats 4000000
/-! DX16: raise, repr, upper, repetition, empty dicts, defs held by a parameter, the call with a lambda. -/
namespace Dx
open PySem L2 Wx
/-! ### raise -/
def dRaise (C : Str) (fields : List Str) (ta : TAd) : TSd := fun D ρ n => ta ρ n (fun ds ρ1 n1 => ds.length = fields.length ∧ fields.length < 1000 ∧ D.ex ρ1 C fields.reverse ds.reverse n1) D.ex
def dRaise0 (C : Str) : TSd := fun D ρ n => D.ex ρ C [] [] n
section
variable {X : Cx} {Ew : XSw} {cl : Cl} {g : Bool} {x : Str} {fields : List Str} {e : Expr} {es : List Expr} {ta : TAd} {p pos pos2 : Pos}
theorem zip_rev : ∀ {fs : List Str} {ws : List W}, fs.length = ws.length → (fs.zip ws).reverse = fs.reverse.zip ws.reverse
  | [], ws, h => by simp
  | f :: fs, [], h => by simp at h
  | f :: fs, w :: ws, h => by
    have h' : fs.length = ws.length := by simpa using h
    rw [List.zip_cons_cons, List.reverse_cons, List.reverse_cons, List.reverse_cons, zip_rev h', List.zip_append (by simpa using h')]
    rfl
theorem ds_raise (tk : TakesW X Ew) (hc : X.calm = true) (M : XMk X.prog X.w X.K X.mg X.base x (cl x) fields) (hr : RoomG g 2 X.A) (hg : Gl X x) (ha : DA X Ew cl (e :: es) ta)
    (hdb : (x == ("__debug__" : Str)) = false := by decide) (he : starEach (e :: es) X.env = (false, eval e X.env) :: starEach es X.env := by rfl) (hpl : (backTo pos (starEach es X.env)).any (·.1) = false := by rfl) : DS X Ew cl (.Raise (some (.Call (.Name x p) (e :: es) [] pos)) none pos2) (dRaise x fields ta) :=
  WS.imp (ws_raise tk hc M hr hg ha hdb he hpl) fun D ω A ⟨F, g, n, ρ, D', hc, sm, nr, h, e⟩ => up_a hc sm nr e.ex.at h fun F1 g1 n1 ρ1 A1 ds ws hc1 G1 sm1 nr1 x1 r1 ⟨l, l2, q⟩ => by
    refine ⟨r1.length.trans l, by rw [r1.length, l]; omega, ?_⟩
    rw [zip_rev (by rw [r1.length]; exact l.symm), ← hc1]
    exact e.ex _ _ _ _ _ _ _ _ _ _ G1 sm1 r1.reverse (by simpa using l.symm) q
theorem ds_raise0 (tk : TakesW X Ew) (hc : X.calm = true) (M : XMk0 X.K X.mg x (cl x)) (hg : Gl X x) (hdb : (x == ("__debug__" : Str)) = false := by decide) : DS X Ew cl (.Raise (some (.Call (.Name x p) [] [] pos)) none pos2) (dRaise0 x) :=
  WS.imp (ws_raise0 tk hc M hg hdb) fun D ω A ⟨F, g, n, ρ, D', hc, sm, nr, h, e⟩ => by
    have := e.ex _ _ _ _ _ _ _ _ _ _ (.refl F g A) sm (RDs.nil (F := F)) rfl h
    rw [hc] at this
    exact this
end
/-! ### repr of data -/
def dRepr : R1d := fun o k => okd 60 (frz o) = true ∧ (toPy (frz o)).showable = true ∧ (toPy (frz o)).hasDict = false ∧ (toPy (frz o)).shown.length ≤ sizeLine ∧ k (.dat (.str (toPy (frz o)).shown))
theorem rd_repr : RdW1 wRepr dRepr := fun F g n ρ ω A o w Qd Q sm nr v ⟨h1, h2, h3, h4, q⟩ k =>
  ⟨w, toPy (frz o), rfl, RD.dl 60 _ _ h1 (VO.all sm v), h2, h3, (okd_lay 60 _ h1).2, h4, kop_d sm nr k (by simp only [RD]) q⟩
/-! ### repetition -/
def dRepL : R2d := fun a b k => ∃ (ds : List D) (i : Int), lstO a = some ds ∧ b = .leaf (.int i) ∧ 0 ≤ i ∧ i ≤ 1000 ∧ ds.length ≤ 1000 ∧ k (.new (.lst none (List.replicate i.toNat ds).flatten))
theorem RDs.rep {F : Fz} {ds : List D} {ws : List W} (r : RDs F ds ws) : ∀ n : Nat, RDs F (List.replicate n ds).flatten (List.replicate n ws).flatten
  | 0 => by simp only [List.replicate_zero, List.flatten_nil]; exact .nil
  | n + 1 => by simp only [List.replicate_succ, List.flatten_cons]; exact r.append (RDs.rep r n)
theorem rd_repL : RdW wRepL dRepL := fun F g n ρ ω A o1 o2 w1 w2 Qd Q sm nr v1 v2 ⟨ds, i, e1, e2, h1, h2, h3, q⟩ k => by
  subst e2
  obtain ⟨p, ws, rfl, ap, r⟩ := v1.lst sm e1
  exact ⟨p, ws, i, rfl, vo_int v2, ap, h1, h2, by rw [r.length]; exact h3, kop_l sm nr k (r.rep _) q⟩
def dRepS : R2d := fun a b k => ∃ (z : Str) (i : Int), a = .leaf (.str z) ∧ b = .leaf (.int i) ∧ 1 < i ∧ i ≤ 1000 ∧ 0 < z.length ∧ z.length ≤ 1000 ∧ k (.dat (.str (strRep i.toNat z)))
theorem rd_repS : RdW wRepS dRepS := fun F g n ρ ω A o1 o2 w1 w2 Qd Q sm nr v1 v2 ⟨z, i, e1, e2, h1, h2, h3, h4, q⟩ k => by
  subst e1 e2
  exact ⟨z, i, vo_str v1, vo_int v2, h1, h2, h3, h4, kop_d sm nr k (by simp only [RD]) q⟩
def dRepT : R2d := fun a b k => ∃ (ds : List D) (i : Int), a = .leaf (.tup ds) ∧ b = .leaf (.int i) ∧ ds ≠ [] ∧ 2 ≤ i ∧ i ≤ 1000 ∧ ds.length ≤ 1000 ∧ k (.dat (.tup (List.replicate i.toNat ds).flatten))
/-! ### methods of texts without arguments -/
def RdM0 (r : W → List W → AH → VKw → Prop) (rd : R1d) : Prop := ∀ F g n ρ ω A o w Qd (Q : VKw), Sm F g n ρ ω A → NoRes g → VO F A o w → rd o Qd → KOp F g n ρ ω A Qd Q → r w [] A Q
def dMS0 (rd : R1d) (to : TEd) : TEd := fun ρ n Q X => to ρ n (fun s1 ρ1 n1 => isStrS s1 = true ∧ wO s1 ρ1 fun o1 => rd o1 fun s => Q s ρ1 n1) X
section
variable {X : Cx} {Ew : XSw} {cl : Cl} {o e : Expr} {to te : TEd} {name : Str} {apos cpos : Pos} {id : String} {r : W → List W → AH → VKw → Prop} {rd : R1d}
theorem de_ms0 (slot : Slot "str" name id) (hty : typeOf (.builtin id) = pure (.type "method_descriptor")) (hm : MtW X id r) (hr : RdM0 r rd) (ho : DE X Ew cl o to)
    (hbase : attributeBase o name X.env (eval o X.env) = eval o X.env := by rfl) (hline : (apos.endLine == cpos.line) = true := by rfl) : DE X Ew cl (.Call (.Attribute o name apos) [] [] cpos) (dMS0 rd to) :=
  WE.imp (we_bm0 PySem.F.plainAttrs_str slot hty hm ho hbase hline) fun ω A Q ⟨F, g, n, ρ, Qd, Xd, hc, sm, nr, h, x, k⟩ =>
    up_s hc sm nr x h fun F1 g1 n1 ρ1 A1 s1 w1 hc1 G1 sm1 x1 r1 ⟨hs1, q⟩ => by
      obtain ⟨F3, g3, o2, G3, sm3, nr3, v2, h4⟩ := RS.lookF sm1 r1 q
      refine ⟨?_, hr F3 g3 n1 ρ1 ω A1 _ w1 _ Q sm3 nr3 v2 h4 fun F' g' A' s w G' sm' r' q => k F' g' n1 ρ1 A' s w (G1.trans (G3.trans G')) sm' r' q⟩
      cases s1 with
      | dat d =>
        cases d with
        | str z =>
          obtain ⟨nr1, r1⟩ := r1
          simp only [RD] at r1
          subst r1
          rfl
        | _ => cases hs1
      | new o => cases hs1
      | own i π y => cases hs1
end
def dUpper : R1d := fun o k => match o with
  | .leaf (.str z) => z.length ≤ 5592405 ∧ k (.dat (.str (Txt.upper z)))
  | _ => False
theorem rd_upper : RdM0 wUpper dUpper := fun F g n ρ ω A o w Qd Q sm nr v q k => by
  unfold dUpper at q
  split at q
  · exact ⟨_, vo_str v, rfl, q.1, kop_d sm nr k (by simp only [RD]) q.2⟩
  · exact q.elim
/-! ### an empty dict -/
def dDNew : TEd := fun ρ n Q _ => Q (.new (.dic none [] [])) ρ n
theorem Sm.newDic {F : Fz} {g : Gh} {n : Nat} {ρ : Env} {ω : Sw} {A : AH} (s : Sm F g n ρ ω A) (nr : NoRes g) {p : Addr} {wo : WO} (e : A.h p = none) {ks vs : List D} {ws : List W} (hd : DicAt (A.put p wo).h p ks ws) (r : RDs F vs ws) :
    ∃ g2, Grow F g A F g2 (A.put p wo) ∧ Sm F g2 n ρ ω (A.put p wo) ∧ RO F (A.put p wo).h g2 .res [] (.dic none ks vs) (.ref p) := by
  obtain ⟨g1, G1, s1, e1, _⟩ := s.newAt nr (wo := wo) e
  exact ⟨g1, G1, s1, by simp only [RO]; exact ⟨p, ws, rfl, (fun a z => nomatch z), e1, hd, r⟩⟩
section
variable {X : Cx} {Ew : XSw} {cl : Cl} {pos : Pos}
theorem de_dnewK : DE X Ew cl (.Dict [] [] pos) dDNew := WE.imp we_dnewK fun ω A Q ⟨F, g, n, ρ, Qd, Xd, hc, sm, nr, h, x, k⟩ p hp => by
  obtain ⟨g2, G2, sm2, r2⟩ := sm.newDic nr hp (wo := .dK []) (ks := []) (vs := []) (ws := []) (.inl ⟨[], rfl, rfl, AH.put_same⟩) .nil
  exact k _ _ _ _ _ _ _ G2 sm2 (.n r2) h
theorem de_dnewT : DE X Ew cl (.Dict [] [] pos) dDNew := WE.imp we_dnewT fun ω A Q ⟨F, g, n, ρ, Qd, Xd, hc, sm, nr, h, x, k⟩ p hp => by
  obtain ⟨g2, G2, sm2, r2⟩ := sm.newDic nr hp (wo := .dT []) (ks := []) (vs := []) (ws := []) (.inr ⟨[], rfl, rfl, AH.put_same⟩) .nil
  exact k _ _ _ _ _ _ _ G2 sm2 (.n r2) h
end
/-! ### a parameter that holds a def of the text -/
def dCallV (i : Nat) (xs : List (Str × SpD)) (ta : TAd) : TEd := fun ρ n Q X => ∃ p ∈ xs, ρ[i]? = some (some (.leaf (.glb p.1))) ∧ dCall p.2 [] ta ρ n Q X
section
variable {X : Cx} {g : Bool} {k i : Nat} {ps : List Str} {Ew : XSw} {cl : Cl} {a : Str} {p pos : Pos} {e : Expr} {es : List Expr} {ta : TAd} {xs : List (Str × SpD)}
theorem de_callV (C : ∀ q ∈ xs, Callee g X.prog X.w X.K X.mg X.base k q.1 ps (spW cl q.2) ∧ X.mg q.1 = some (.ref (cl q.1))) (tk : TakesW X Ew) (hr : RoomG g k X.A) (hN : X.N[i]? = some a) (hv : Vis X.env.scope a) (ha : DA X Ew cl (e :: es) ta) (hd : (a == ("__debug__" : Str)) = false := by decide) (hcd : (a == ("__classdict__" : Str)) = false := by decide)
    (he : starEach (e :: es) X.env = (false, eval e X.env) :: starEach es X.env := by rfl) (hpl : (backTo pos (starEach es X.env)).any (·.1) = false := by rfl) : DE X Ew cl (.Call (.Name a p) (e :: es) [] pos) (dCallV i xs ta) :=
  ⟨fun pins s σ H ω A Q I sm0 ra ⟨F, g, n, ρ, Qd, Xd, hc, sm, nr, ⟨q, hq, h0, h⟩, x, kk⟩ => by
    obtain ⟨c1, c2⟩ := C q hq
    obtain ⟨f, fd, Fn, hm, hk, hb⟩ := c1.ex
    rw [c2] at hm
    cases hm
    obtain ⟨w, ew, rw'⟩ := sm.sl i _ h0
    simp only [RO, RD] at rw'
    subst rw'
    refine (we_callV tk Fn hr hk hb hN hv ha hd hcd he hpl).run pins s σ H ω A Q I sm0 ra ⟨by rw [ew, hc], dCall_loX (fun _ _ => .nil) ⟨F, g, n, ρ, Qd, Xd, hc, sm, nr, h, x, kk⟩⟩⟩
end
end Dx

set_option Elab.async false
set_option linter.all false
set_option maxRecDepth 100000
set_option maxHeartbeats 4000000
/-! DX17: the call with a lambda; a def by its own code object; the pen; the end. -/
namespace Dx
open PySem PySem.Spec PyProof.Rows L2 Wx LamX
/-- a def that calls the lambda that it gets, in a try -/
structure WhyF (gd : Bool) (P : Program) (w : World) (K : PySem.W.Frag) (mg : Str → Option Value) (base : Heap) (cl : Dx.Cl) (k : Nat) (x : Str) (N : List Str) (j : Option Nat) (hc0 : List (Value × HdD)) (post : TSd) : Prop where
  hx : HdsX K cl hc0
  hj : ∀ i, j = some i → i ≠ 0
  ex : ∃ (a : Str) (st : Stmt) (g : Addr) (fd : FuncData), Fun K x x st g fd ∧ mg x = some (.ref g) ∧ FnScope N [a] (defScope st) ∧ N[0]? = some a ∧ Vis (defScope st) a ∧ Binds K fd [a] [] ∧ (a == ("__debug__" : Str)) = false ∧ (a == ("__classdict__" : Str)) = false ∧
    ∀ (cdv : Value) (A : Around) (stk : List PySem.Env) (s : Shared) (H : Hp) (f c' : Addr) (q : Str) (tl : ActW), RoomG gd k (cxOf C8.CX0 P w K mg base N x (defScope st) g cdv A stk s H C8.E0).A →
      (∀ (Ew : XSw) (pn : List (Addr × Obj)) (xe : Value → Shared → Prop) (p1 p2 : Pos), TakesW ((cxOf C8.CX0 P w K mg base N x (defScope st) g cdv A stk s H C8.E0).tr pn xe) Ew → Wx.WE ((cxOf C8.CX0 P w K mg base N x (defScope st) g cdv A stk s H C8.E0).tr pn xe) (.Call (.Name a p1) [] [] p2) (wAct f c' q tl Ew)) →
      WSs (cxOf C8.CX0 P w K mg base N x (defScope st) g cdv A stk s H C8.E0) (defBody st) (whyT j (lwOf K cl hc0) (upS X0w cl post) q f c' tl)
/-- the code object of the def where lambdas are made, its table -/
structure LamAt (cl : Dx.Cl) (base : Heap) (mg : Str → Option Value) (cdv : Value) (q : Str) : Prop where
  ex : ∃ c P, cdv = .ref c ∧ TabB base mg c P ∧ (P, q) ∈ cl.tbl ∧ ∀ p ∈ cl.tbl, p.1 = P → p.2 = q
theorem lam_takes {X : Cx} {A : Around} {outer : List PySem.Env} {s : Shared} {H : Hp} {Ek : XK} {E : XKw} {scope : Scope} {f c' : Addr} (h : ∀ cls d H', UpE X.K H E cls d H' → Ek cls d H') : TakesW (lamCx X A outer s H Ek scope f c') (fun _ => E) :=
  takesW_of (takes_of rfl rfl rfl rfl) fun c d H' u => h _ _ _ u
section
variable {X : Cx} {Ew : XSw} {cl : Dx.Cl}
theorem de_why {gd : Bool} {k : Nat} {x : Str} {N : List Str} {j : Option Nat} {hc0 : List (Value × HdD)} {post : TSd} {params : Arguments} {body : Expr} {scope : Scope} {te : TEd} {p lpos pos : Pos} (W : WhyF gd X.prog X.w X.K X.mg X.base cl (k + 1) x N j hc0 post) (hg : Gl X x) (hL : LamAt cl X.base X.mg X.env.code (X.env.qual ++ "<lambda>"))
    (hr : RoomG gd (k + 2) X.A) (L : lamSB X.env.scope scope = true) (hdef : defaultsOf params X.env = ([], [])) (hbind : ∀ (q : Str) (cl : List (Str × Addr)) (pm cv ctv : Value), bindArgs (PySem.W.kla_fn "<lambda>" q params body scope cl pm cv ctv) ⟨[], []⟩ = pure [])
    (hbody : ∀ (A : Around) (outer : List PySem.Env) (s : Shared) (H : Hp) (Ek : XK) (E : XKw) (f c' : Addr), TakesW (lamCx X A outer s H Ek scope f c') (fun _ => E) → RoomG false k (lamCx X A outer s H Ek scope f c').A → DE (lamCx X A outer s H Ek scope f c') (fun _ => E) cl body te)
    (hdb : (x == ("__debug__" : Str)) = false := by decide) : DE X Ew cl (.Call (.Name x p) [.Lambda params body scope lpos] [] pos) (dWhy j N (hc0.map (·.2)) post te) := by
  obtain ⟨a, st, g, fd, F, hm, S, hN, hv, hb, hd, hcd, hG⟩ := W.ex
  obtain ⟨oc, od, kV, doc, pm, an, cdv, ct, osl, rfl, lk, hcg⟩ := F.ex
  obtain ⟨c, P, e1, TB, m1, m2⟩ := hL.ex
  exact WE.imp (we_lamcall (gd := gd) hg hm F.kp lk hcg hb S hN hv (fun f c' s H tl hr' act => hG cdv X.A X.stack s H f c' _ tl hr' act) TB e1 m1 m2 hr (lamS_by L) hdef hbind
    (fun A outer s H Ek E f c' hE hr2 => hbody A outer s H Ek E f c' (lam_takes hE) ⟨hr2, fun z => nomatch z⟩) hdb hd hcd) fun ω A Q h => dWhy_lo W.hx W.hj h
theorem takes_x0 {X : Cx} : TakesW X X0w := fun u s' ⟨a, B, sI, pins, σ, H, cls, d, e, I, nb, up, sky, na, os, ag, C, fs, ω, A', e1, e2, e3, e4, z⟩ => z.elim
/-- the body of such a def -/
theorem why_body {a : Str} {p1 p2 p3 p4 : Pos} {h₀ : ExceptHandler} {hds : List ExceptHandler} {hc0 : List (Value × HdD)} {rest : List Stmt} {post : TSd} {f c' : Addr} {q : Str} {tl : ActW} (hs : X.stack = X.env :: X.outer) (hf : X.env.frame = some X.env.locals) (hN : X.N.Nodup)
    (act : ∀ (Ew : XSw) (pn : List (Addr × Obj)) (xe : Value → Shared → Prop) (p1 p2 : Pos), TakesW (X.tr pn xe) Ew → Wx.WE (X.tr pn xe) (.Call (.Name a p1) [] [] p2) (wAct f c' q tl Ew)) (hh : HdsD X cl (h₀ :: hds) hc0) (hp : DSs X X0w cl rest post)
    (hsw : ∀ pn xe, swapsWith (.Call (.Name a p1) [] [] p2) none p3.line (X.tr pn xe).env = pure false := by intro _ _; rfl) :
    WSs X (.Try [.Expr (.Call (.Name a p1) [] [] p2) p3] (h₀ :: hds) [] [] p4 :: rest) (whyT none (lwOf X.K cl hc0) (upS X0w cl post) q f c' tl) :=
  wss_cons (t := wTryM (lwOf X.K cl hc0) (fun E' => wDrop (wAct f c' q tl E')) X0w) (u := upS X0w cl post) (ws_tryM (tb := fun E' => wDrop (wAct f c' q tl E')) hs hf hN takes_x0 (fun E' pn xe tk _ => wss_one (ws_expr (act E' pn xe p1 p2 tk) (hsw pn xe))) hh.w) hp
end
/-! ### a def by its own code object -/
section
variable {P : Program} {w : World} {K : PySem.W.Frag} {mg : Str → Option Value} {base : Heap}
theorem fnD_c {cl : Dx.Cl} {x qual : Str} {st : Stmt} {f : Addr} {fd : FuncData} {cdv : Value} {N ps : List Str} {g : Bool} {k : Nat} {sp : SpD} {t : TSd} (Fn : FunC K x qual st f fd cdv) (S : FnScope N ps (defScope st)) (len : ∀ ds n Q X, sp ds n Q X → ds.length = ps.length)
    (hbody : ∀ (A : Around) (outer : List PySem.Env) (s : Shared) (H : Hp) (E : XK) (Ew : XSw), RoomG g k (cxB P w K mg base N qual st f cdv A outer s H E).A → TakesW (cxB P w K mg base N qual st f cdv A outer s H E) Ew → DSs (cxB P w K mg base N qual st f cdv A outer s H E) Ew cl (defBody st) t)
    (rd : ∀ ds n Q X, sp ds n Q X → t (endF Q X) (start N ds) n) : FnB g P w K mg base (k + 1) f fd ps (spL K (spW cl sp)) := by
  refine fnW_c (t := fun Ew => upS Ew cl t) Fn S (fun ws A Q E ⟨F, n, ds, Qd, Xd, hc, sm, r, h, _⟩ => r.length.trans (len _ _ _ _ h)) hbody ?_
  rintro ws A Q E ⟨F, n, ds, Qd, Xd, hc, sm, r, h, k1, k2⟩
  refine ⟨F, g0, n, _, _, hc, sm_start sm r, (fun p l e => nomatch e), rd ds n Qd Xd h, ⟨fun F' g' n' ρ' ω' A' G sm' nr' q => fg_i (k1 _ _ _ _ _ _ G sm'.smA (by simp only [RO, RD]) q), fun _ _ _ _ _ _ _ _ _ q => q, fun _ _ _ _ _ _ _ _ _ q => q, fun F' g' n' ρ' ω' A' o w G sm' r' q => fg_i (k1 _ _ _ _ _ _ G sm'.smA r' q), fun F' g' n' ρ' ω' A' C fs ds ws G sm' r' l q => fgE_i (k2 _ _ _ _ _ _ _ _ G sm'.smA r' l q)⟩⟩
end
/-! ### the pen -/
theorem spL_imp {K : PySem.W.Frag} {sp sp' : SpW} (h : ∀ ws A Q E, sp' ws A Q E → sp ws A Q E) : ∀ vs H Q E, spL K sp' vs H Q E → spL K sp vs H Q E := fun vs H Q E ⟨ws, A, Q', E', r, ra, q, k1, k2⟩ => ⟨ws, A, Q', E', r, ra, h _ _ _ _ q, k1, k2⟩
/-- the promises below -/
def spw_draw : SpW := fun ws A Q _ => ∃ (p : Addr) (n : Nat) (m : Int), ws = [.ref p, .int m] ∧ A.pen = some (p, n) ∧ n < 2 ^ 40 ∧ 0 < m ∧ m < 2 ^ 30 ∧ ∀ d : Int, 0 ≤ d → d < m → Q (.int d) (A.pn p (n + 1))
def spw_pen : SpW := fun ws A Q _ => ∃ (a : Addr) (ns : List Int), ws = [.ref a] ∧ A.h a = some (.rol (ns.map W.int)) ∧ A.pen = none ∧ ns.length ≤ 63 ∧ ∀ p A', A'.pen = some (p, 0) → A.Sub { A' with pen := none } → Q (.ref p) A'
def sp__law_draw : SpD := fun ds n Q _ => ∃ m : Int, ds = [.pen, .int m] ∧ n < 2 ^ 40 ∧ 0 < m ∧ m < 2 ^ 30 ∧ ∀ d : Int, 0 ≤ d → d < m → Q (.leaf (.int d)) (n + 1)
def sp__law_pen : SpD := fun ds n Q _ => ds = [.scr] ∧ n = nopen ∧ Q (.leaf .pen) 0
def sp_law : SpD := fun ds n Q _ => ds = [.scr] ∧ n = nopen ∧ ∀ n', Q (.leaf (.bl true)) n'
theorem draw_up {cl : Dx.Cl} : ∀ ws A Q E, spW cl sp__law_draw ws A Q E → spw_draw ws A Q E := by
  rintro ws A Q E ⟨F, n, ds, Qd, Xd, hc, sm, r, ⟨m, rfl, hn, h1, h2, q⟩, k1, k2⟩
  obtain ⟨w1, r1, rfl, ra, rr⟩ := r.uncons
  obtain ⟨w2, r2, rfl, rb, rr⟩ := rr.uncons
  obtain rfl := rr.unnil
  simp only [RD] at ra rb
  obtain ⟨p, ep, rfl⟩ := ra
  subst rb
  refine ⟨p, n, m, rfl, ?_, hn, h1, h2, fun d d1 d2 => k1 F g0 (n + 1) (A.pn p (n + 1)) (.leaf (.int d)) _ ⟨.refl F, (fun k p l e => nomatch e), fun p o e1 e2 => ⟨e2, rfl, fun z => z⟩⟩ ?_ (by simp only [RO, RD]) (q d d1 d2)⟩
  · rw [sm.pn.1, ep]
    rfl
  · refine ⟨sm.fa, sm.gf, sm.ga, sm.tb, rfl, (fun i o e => by simp at e), ?_, fun z => ?_, sm.pn.2.2.1, sm.pn.2.2.2⟩
    · show some (p, n + 1) = _
      rw [ep]
      rfl
    · exfalso
      unfold nopen at z
      omega
theorem pen_up {cl : Dx.Cl} : ∀ ws A Q E, spW cl sp__law_pen ws A Q E → spw_pen ws A Q E := by
  rintro ws A Q E ⟨F, n, ds, Qd, Xd, hc, sm, r, ⟨rfl, hn, q⟩, k1, k2⟩
  obtain ⟨w1, r1, rfl, ra, rr⟩ := r.uncons
  obtain rfl := rr.unnil
  simp only [RD] at ra
  obtain ⟨p, ns, rfl, e, l⟩ := ra
  have fp := sm.pn.2.1 hn
  refine ⟨p, ns, rfl, sm.fa _ _ e, by rw [sm.pn.1, fp]; rfl, l, fun p' A' hp' sb => k1 { F with pp := some p' } g0 0 A' (.leaf .pen) _ ⟨⟨fun _ _ h => h, .inl fp, rfl, fun _ _ => ⟨fun h => h, fun _ h => h⟩⟩, (fun k p l e => nomatch e), fun p o e1 e2 => ⟨sb.1 _ _ e2, rfl, fun z => z⟩⟩ ?_ (by simp only [RO, RD]; exact ⟨p', rfl, rfl⟩) q⟩
  refine ⟨fun p o h => sb.1 _ _ (sm.fa p o h), (fun _ _ e => nomatch e), (fun _ _ e => nomatch e), ⟨0, fun _ _ _ e => nomatch e⟩, rfl, (fun i o e => by simp at e), ?_, fun z => ?_, ?_, ?_⟩
  · rw [hp']
    rfl
  · unfold nopen at z
    omega
  · exact sb.2.2.2.symm.trans sm.pn.2.2.1
  · exact fun b vs => ⟨fun h => (sb.2.2.1 b vs).1 ((sm.pn.2.2.2 b vs).1 h), fun o h => (sb.2.2.1 b vs).2 o ((sm.pn.2.2.2 b vs).2 o h)⟩
/-- the end -/
theorem law_up {cl : Dx.Cl} {A : AH} {a : Addr} {ns : List Int} (hl : ns.length ≤ 63) (hA : A.h a = some (.rol (ns.map W.int))) (hp : A.pen = none) (ht : A.tb = cl.tbl) : spW cl sp_law [.ref a] A (fun v _ => v = .bl true) E0w := by
  refine ⟨⟨fun b => if b = a then some (.rol (ns.map W.int)) else none, none, cl, fun _ => none⟩, nopen, [.scr], fun o _ => o = .leaf (.bl true), X0o, rfl, ⟨fun p o e => ?_, (fun _ _ e => nomatch e), (fun _ _ e => nomatch e), ⟨0, fun _ _ _ e => nomatch e⟩, rfl, (fun i o e => by simp at e), hp, fun _ => rfl, ht, fun b vs => ⟨(fun e => nomatch e), (fun o e => nomatch e)⟩⟩, .cons ?_ .nil, ⟨rfl, rfl, fun n' => rfl⟩, fun F' g' n' A' o w G sm r e => ?_, fun _ _ _ _ _ _ _ _ _ _ _ _ z => z.elim⟩
  · have e' : (if p = a then some (WO.rol (ns.map W.int)) else none) = some o := e
    by_cases z : p = a
    · subst z
      rw [if_pos rfl] at e'
      cases e'
      exact hA
    · rw [if_neg z] at e'
      cases e'
  · simp only [RD]
    exact ⟨a, ns, rfl, if_pos rfl, hl⟩
  · subst e
    simpa only [RO, RD] using r
end Dx

set_option Elab.async false
set_option linter.all false
set_option maxRecDepth 100000
set_option maxHeartbeats 4000000
/-! DX18: the readings as equations for simp; rules of loops. -/
namespace Dx
open PySem L2 Wx
section
variable {D : Dd} {ρ : Env} {n : Nat} {Q : QD} {QT : Bool → Env → Nat → Prop} {QA : List Dx.D → Env → Nat → Prop} {X : XD} {t u : TSd} {ta tb tc : TEd} {tt tu : TTd} {tA : TAd} {i : Nat}
@[simp] theorem dSeq_eq : dSeq t u D ρ n = t { D with nx := u D } ρ n := id rfl
@[simp] theorem dNext_eq : dNext D ρ n = D.nx ρ n := id rfl
@[simp] theorem dBrk_eq : dBrk D ρ n = D.bk ρ n := id rfl
@[simp] theorem dCont_eq : dCont D ρ n = D.ct ρ n := id rfl
@[simp] theorem dDrop_eq : dDrop ta D ρ n = ta ρ n (fun _ ρ' n' => D.nx ρ' n') D.ex := id rfl
@[simp] theorem dRet_eq : dRet ta D ρ n = ta ρ n (retK D.rt) D.ex := id rfl
@[simp] theorem dIfS_eq : dIfS tt t u D ρ n = tt ρ n (fun b ρ1 n1 => if b = true then t D ρ1 n1 else u D ρ1 n1) D.ex := id rfl
@[simp] theorem dSet_eq : dSet i ta D ρ n = ta ρ n (treeK fun o ρ' n' => D.nx (ρ'.set i (some o)) n') D.ex := id rfl
@[simp] theorem dAsg_eq {g : TGd} : dAsg ta g D ρ n = ta ρ n (datK fun d ρ' n' => g d ρ' fun ρ2 => D.nx ρ2 n') D.ex := id rfl
@[simp] theorem dPar_eq {is : List Nat} {tO : TAo} : dPar is tO D ρ n = tO ρ n (fun os ρ1 n1 => os.length = is.length ∧ D.nx (setAll ρ1 is os) n1) D.ex := id rfl
@[simp] theorem dNilO_eq {QO' : List O → Env → Nat → Prop} : dNilO ρ n QO' X = QO' [] ρ n := id rfl
@[simp] theorem dConsO_eq {tr : TAo} {QO' : List O → Env → Nat → Prop} : dConsO ta tr ρ n QO' X = ta ρ n (treeK fun o ρ1 n1 => tr ρ1 n1 (fun os ρ2 n2 => QO' (o :: os) ρ2 n2) X) X := id rfl
@[simp] theorem dFor_eq {ti : TId} {g : TGd} : dFor ti g t D ρ n = ti ρ n (fun ds ρ1 n1 => dLoop g t { D with bk := D.nx, ct := D.nx } ds ρ1 n1) D.ex := id rfl
@[simp] theorem dRaise_eq {C : Str} {fields : List Str} : dRaise C fields tA D ρ n = tA ρ n (fun ds ρ1 n1 => ds.length = fields.length ∧ fields.length < 1000 ∧ D.ex ρ1 C fields.reverse ds.reverse n1) D.ex := id rfl
-- what is done with what comes out
@[simp] theorem retK_d {R : O → Env → Nat → Prop} {d : Dx.D} : retK R (.dat d) ρ n = R (.leaf d) ρ n := id rfl
@[simp] theorem retK_n {R : O → Env → Nat → Prop} {o : O} : retK R (.new o) ρ n = R o ρ n := id rfl
@[simp] theorem retK_o {R : O → Env → Nat → Prop} {x : Option Addr} : retK R (.own i [] x) ρ n = ∃ o, ρ[i]? = some (some o) ∧ R o (ρ.set i none) n := id rfl
@[simp] theorem treeK_d {R : O → Env → Nat → Prop} {d : Dx.D} : treeK R (.dat d) ρ n = R (.leaf d) ρ n := id rfl
@[simp] theorem treeK_n {R : O → Env → Nat → Prop} {o : O} : treeK R (.new o) ρ n = R o ρ n := id rfl
@[simp] theorem treeK_o {R : O → Env → Nat → Prop} {π : List Str} {x : Option Addr} : treeK R (.own i π x) ρ n = ∃ o o1, ρ[i]? = some (some o) ∧ look o π = some o1 ∧ R (.leaf (frz o1)) (ρ.set i (some (setO o π (.leaf (frz o1))))) n := id rfl
@[simp] theorem datK_d {R : Dx.D → Env → Nat → Prop} {d : Dx.D} : datK R (.dat d) ρ n = R d ρ n := id rfl
@[simp] theorem datK_n {R : Dx.D → Env → Nat → Prop} {o : O} : datK R (.new o) ρ n = R (frz o) ρ n := id rfl
@[simp] theorem datK_o {R : Dx.D → Env → Nat → Prop} {π : List Str} {x : Option Addr} : datK R (.own i π x) ρ n = ∃ o o1, ρ[i]? = some (some o) ∧ look o π = some o1 ∧ R (frz o1) (ρ.set i (some (setO o π (.leaf (frz o1))))) n := id rfl
@[simp] theorem fzK_d {d : Dx.D} : fzK Q (.dat d) ρ n = Q (.dat d) ρ n := id rfl
@[simp] theorem fzK_n {o : O} : fzK Q (.new o) ρ n = Q (.dat (frz o)) ρ n := id rfl
@[simp] theorem fzK_o {π : List Str} {x : Option Addr} : fzK Q (.own i π x) ρ n = Q (.own i π x) ρ n := id rfl
@[simp] theorem bK_b {b : Bool} : bK QT (.dat (.bl b)) ρ n = QT b ρ n := id rfl
@[simp] theorem wO_d {d : Dx.D} {k : O → Prop} : wO (.dat d) ρ k = k (.leaf d) := id rfl
@[simp] theorem wO_n {o : O} {k : O → Prop} : wO (.new o) ρ k = k o := id rfl
@[simp] theorem wO_o {π : List Str} {x : Option Addr} {k : O → Prop} : wO (.own i π x) ρ k = ∃ o o1, ρ[i]? = some (some o) ∧ look o π = some o1 ∧ k o1 := id rfl
@[simp] theorem wO0_d {d : Dx.D} {k : O → Prop} : wO0 (.dat d) ρ k = k (.leaf d) := id rfl
@[simp] theorem wO0_o {π : List Str} {x : Option Addr} {k : O → Prop} : wO0 (.own i π x) ρ k = ∃ o o1, ρ[i]? = some (some o) ∧ look o π = some o1 ∧ (π = [] ∨ ∃ a, x = some a ∧ kn o1 = some a) ∧ k o1 := id rfl
@[simp] theorem resS_l {d : Dx.D} : resS (.leaf d) = .dat d := id rfl
@[simp] theorem resS_lst {x : Option Addr} {ds : List Dx.D} : resS (.lst x ds) = .new (.lst x ds) := id rfl
@[simp] theorem resS_obj {x : Option Addr} {C : Str} {fs : List Str} {os : List O} : resS (.obj x C fs os) = .new (.obj x C fs os) := id rfl
@[simp] theorem resS_dic {x : Option Addr} {ks vs : List Dx.D} : resS (.dic x ks vs) = .new (.dic x ks vs) := id rfl
@[simp] theorem frz_l {d : Dx.D} : frz (.leaf d) = d := by simp [frz]
@[simp] theorem frz_lst {x : Option Addr} {ds : List Dx.D} : frz (.lst x ds) = .lst ds := by simp [frz]
@[simp] theorem frz_dic {x : Option Addr} {ks vs : List Dx.D} : frz (.dic x ks vs) = .dic ks vs := by simp [frz]
@[simp] theorem frz_obj {x : Option Addr} {C : Str} {fs : List Str} {os : List O} : frz (.obj x C fs os) = .obj C fs (frzs os) := by simp [frz]
@[simp] theorem frzs_nil : frzs [] = [] := by simp [frzs]
@[simp] theorem frzs_cons {o : O} {os : List O} : frzs (o :: os) = frz o :: frzs os := by simp [frzs]
@[simp] theorem look_nil' {o : O} : look o [] = some o := look_nil
@[simp] theorem setO_nil' {o v : O} : setO o [] v = v := setO_nil
@[simp] theorem kn_l {d : Dx.D} : kn (.leaf d) = none := id rfl
@[simp] theorem kn_lst {x : Option Addr} {ds : List Dx.D} : kn (.lst x ds) = x := id rfl
@[simp] theorem kn_obj {x : Option Addr} {C : Str} {fs : List Str} {os : List O} : kn (.obj x C fs os) = x := id rfl
@[simp] theorem seqO_tup {ds : List Dx.D} : seqO (.leaf (.tup ds)) = some ds := id rfl
@[simp] theorem seqO_lst {ds : List Dx.D} : seqO (.leaf (.lst ds)) = some ds := id rfl
@[simp] theorem seqO_own {x : Option Addr} {ds : List Dx.D} : seqO (.lst x ds) = some ds := id rfl
@[simp] theorem lstO_lst {ds : List Dx.D} : lstO (.leaf (.lst ds)) = some ds := id rfl
@[simp] theorem lstO_own {x : Option Addr} {ds : List Dx.D} : lstO (.lst x ds) = some ds := id rfl
@[simp] theorem itemsD_tup {ds : List Dx.D} : itemsD (.tup ds) = some ds := id rfl
@[simp] theorem itemsD_lst {ds : List Dx.D} : itemsD (.lst ds) = some ds := id rfl
@[simp] theorem itemsD_str {z : Str} : itemsD (.str z) = some (z.cps.toList.map fun c => .str ⟨#[c]⟩) := id rfl
-- expressions
theorem dVar_eq : dVar i ρ n Q X = (match ρ[i]? with
  | some (some (.leaf d)) => Q (.dat d) ρ n
  | some (some o) => Q (.own i [] (kn o)) ρ n
  | _ => False) := id rfl
theorem dVar_l {d : Dx.D} (h : ρ[i]? = some (some (.leaf d))) : dVar i ρ n Q X = Q (.dat d) ρ n := by rw [dVar_eq, h]
theorem dVar_lst {x : Option Addr} {ds : List Dx.D} (h : ρ[i]? = some (some (.lst x ds))) : dVar i ρ n Q X = Q (.own i [] x) ρ n := by rw [dVar_eq, h] <;> rfl
theorem dVar_obj {x : Option Addr} {C : Str} {fs : List Str} {os : List O} (h : ρ[i]? = some (some (.obj x C fs os))) : dVar i ρ n Q X = Q (.own i [] x) ρ n := by rw [dVar_eq, h] <;> rfl
@[simp] theorem dC_eq {d : Dx.D} : dC d ρ n Q X = Q (.dat d) ρ n := id rfl
@[simp] theorem dOp_eq {rd : R2d} : dOp rd ta tb ρ n Q X = ta ρ n (fzK fun s1 ρ1 n1 => tb ρ1 n1 (fun s2 ρ2 n2 => wO0 s1 ρ2 fun o1 => wO s2 ρ2 fun o2 => rd o1 o2 fun s => Q s ρ2 n2) X) X := id rfl
@[simp] theorem dTest_eq : dTest ta ρ n QT X = ta ρ n (bK QT) X := id rfl
@[simp] theorem dAnd_eq : dAnd tt tu ρ n QT X = tt ρ n (fun c ρ1 n1 => if c = true then tu ρ1 n1 QT X else QT false ρ1 n1) X := id rfl
@[simp] theorem dOr_eq : dOr tt tu ρ n QT X = tt ρ n (fun c ρ1 n1 => if c = true then QT true ρ1 n1 else tu ρ1 n1 QT X) X := id rfl
@[simp] theorem dNot_eq : dNot tt ρ n QT X = tt ρ n (fun c ρ1 n1 => QT (!c) ρ1 n1) X := id rfl
@[simp] theorem dAndV_eq : dAndV ta tb ρ n Q X = ta ρ n (bK fun c ρ1 n1 => if c = true then tb ρ1 n1 Q X else Q (.dat (.bl false)) ρ1 n1) X := id rfl
@[simp] theorem dOrV_eq : dOrV ta tb ρ n Q X = ta ρ n (bK fun c ρ1 n1 => if c = true then Q (.dat (.bl true)) ρ1 n1 else tb ρ1 n1 Q X) X := id rfl
@[simp] theorem dNotV_eq : dNotV ta ρ n Q X = ta ρ n (bK fun c ρ1 n1 => Q (.dat (.bl (!c))) ρ1 n1) X := id rfl
@[simp] theorem dIf_eq : dIf tt ta tb ρ n Q X = tt ρ n (fun c ρ1 n1 => if c = true then ta ρ1 n1 Q X else tb ρ1 n1 Q X) X := id rfl
@[simp] theorem dNil_eq : dNil ρ n QA X = QA [] ρ n := id rfl
@[simp] theorem dCons_eq : dCons ta tA ρ n QA X = ta ρ n (datK fun d ρ1 n1 => tA ρ1 n1 (fun ds ρ2 n2 => QA (d :: ds) ρ2 n2) X) X := id rfl
@[simp] theorem dTup_eq : dTup tA ρ n Q X = tA ρ n (fun ds ρ1 n1 => ds.length ≤ sizeLine ∧ Q (.dat (.tup ds)) ρ1 n1) X := id rfl
@[simp] theorem dLst_eq : dLst tA ρ n Q X = tA ρ n (fun ds ρ1 n1 => ds.length ≤ sizeLine ∧ Q (.new (.lst none ds)) ρ1 n1) X := id rfl
@[simp] theorem dCall_eq {sp : SpD} {dds : List Dx.D} : dCall sp dds tA ρ n Q X = tA ρ n (fun ds ρ1 n1 => sp (ds ++ dds) n1 (fun o n2 => Q (resS o) ρ1 n2) (fun C fs es n2 => X ρ1 C fs es n2)) X := id rfl
@[simp] theorem dB1_eq {rd : R1d} : dB1 rd ta ρ n Q X = ta ρ n (fun s ρ1 n1 => wO s ρ1 fun o => rd o fun s' => Q s' ρ1 n1) X := id rfl
@[simp] theorem dMS_eq {rd : R2d} : dMS rd ta tb ρ n Q X = ta ρ n (fun s1 ρ1 n1 => isStrS s1 = true ∧ tb ρ1 n1 (fun s2 ρ2 n2 => wO0 s1 ρ2 fun o1 => wO s2 ρ2 fun o2 => rd o1 o2 fun s => Q s ρ2 n2) X) X := id rfl
@[simp] theorem dMS0_eq {rd : R1d} : dMS0 rd ta ρ n Q X = ta ρ n (fun s1 ρ1 n1 => isStrS s1 = true ∧ wO s1 ρ1 fun o1 => rd o1 fun s => Q s ρ1 n1) X := id rfl
@[simp] theorem isStrS_d {z : Str} : isStrS (.dat (.str z)) = true := id rfl
@[simp] theorem dChain_eq {r r' : R2d} : dChain r r' ta tb tc ρ n Q X = ta ρ n (fzK fun s1 ρ1 n1 => tb ρ1 n1 (fzK fun s2 ρ2 n2 => wO0 s1 ρ2 fun o1 => wO s2 ρ2 fun o2 => r o1 o2 fun s => bK (fun b ρ3 n3 => if b = true then tc ρ3 n3 (fun s3 ρ4 n4 => wO0 s2 ρ4 fun o2' => wO s3 ρ4 fun o3 => r' o2' o3 fun s' => Q s' ρ4 n4) X else Q (.dat (.bl false)) ρ3 n3) s ρ2 n2) X) X := id rfl
@[simp] theorem dSl_eq {tl th : TOd} : dSl ta tl th ρ n Q X = ta ρ n (fzK fun s ρ1 n1 => tl ρ1 n1 (fun lo ρ2 n2 => th ρ2 n2 (fun hi ρ3 n3 => wO0 s ρ3 fun o => cutD o lo hi fun s' => Q s' ρ3 n3) X) X) X := id rfl
@[simp] theorem dNoPart_eq {R : Option Int → Env → Nat → Prop} : dNoPart ρ n R X = R none ρ n := id rfl
@[simp] theorem dPart_eq {R : Option Int → Env → Nat → Prop} : dPart ta ρ n R X = ta ρ n (fun s ρ1 n1 => match s with
  | .dat (.int i) => R (some i) ρ1 n1
  | _ => False) X := id rfl
@[simp] theorem dIt_eq {R : List Dx.D → Env → Nat → Prop} : dIt ta ρ n R X = ta ρ n (datK fun d ρ' n' => match itemsD d with
  | some ds => R ds ρ' n'
  | none => False) X := id rfl
@[simp] theorem dLc_eq {ti : TId} {g : TGd} {vs : List Nat} : dLc ti g tt ta vs ρ n Q X = ti ρ n (fun ds ρ1 n1 => dlcLoop g tt ta vs (fun acc ρ2 n2 => Q (.new (.lst none acc)) (backD ρ1 ρ2 vs) n2) ds [] (wipeD ρ1 vs) n1) X := id rfl
@[simp] theorem dYes_eq : dYes ρ n QT X = QT true ρ n := id rfl
@[simp] theorem dgName_eq {d : Dx.D} {R : Env → Prop} : dgName i d ρ R = R (ρ.set i (some (.leaf d))) := id rfl
@[simp] theorem dgTup_eq {k : Nat} {gs : TGsd} {ds : List Dx.D} {R : Env → Prop} : dgTup k gs (.tup ds) ρ R = (ds.length = k ∧ gs ds ρ R) := id rfl
@[simp] theorem dgCons_eq {g : TGd} {gs : TGsd} {d : Dx.D} {r : List Dx.D} {R : Env → Prop} : dgCons g gs (d :: r) ρ R = g d ρ fun ρ' => gs r ρ' R := id rfl
@[simp] theorem dgNil_eq {ds : List Dx.D} {R : Env → Prop} : dgNil ds ρ R = (ds = [] ∧ R ρ) := id rfl
-- operators
@[simp] theorem dIx_seq {ds : List Dx.D} {j : Int} {k : S → Prop} : dIx (.leaf (.lst ds)) (.leaf (.int j)) k = ∃ d, L2.atI ds j = some d ∧ k (.dat d) := by
  unfold dIx
  simp
@[simp] theorem dIx_tup {ds : List Dx.D} {j : Int} {k : S → Prop} : dIx (.leaf (.tup ds)) (.leaf (.int j)) k = ∃ d, L2.atI ds j = some d ∧ k (.dat d) := by
  unfold dIx
  simp
@[simp] theorem dIx_own {x : Option Addr} {ds : List Dx.D} {j : Int} {k : S → Prop} : dIx (.lst x ds) (.leaf (.int j)) k = ∃ d, L2.atI ds j = some d ∧ k (.dat d) := by
  unfold dIx
  simp
@[simp] theorem dIx_str {z : Str} {j : Int} {k : S → Prop} : dIx (.leaf (.str z)) (.leaf (.int j)) k = (z.length ≤ sizeLine ∧ ∃ c, L2.atI z.cps.toList j = some c ∧ k (.dat (.str ⟨#[c]⟩))) := by
  unfold dIx
  simp [seqO]
@[simp] theorem dLen_str {z : Str} {k : S → Prop} : dLen (.leaf (.str z)) k = (z.length ≤ sizeLine ∧ k (.dat (.int z.length))) := by
  unfold dLen
  simp [seqO]
@[simp] theorem dLen_lst {ds : List Dx.D} {k : S → Prop} : dLen (.leaf (.lst ds)) k = k (.dat (.int ds.length)) := by
  unfold dLen
  simp
@[simp] theorem dLen_tup {ds : List Dx.D} {k : S → Prop} : dLen (.leaf (.tup ds)) k = k (.dat (.int ds.length)) := by
  unfold dLen
  simp
@[simp] theorem dLen_own {x : Option Addr} {ds : List Dx.D} {k : S → Prop} : dLen (.lst x ds) k = k (.dat (.int ds.length)) := by
  unfold dLen
  simp
@[simp] theorem dIsN_eq {neg : Bool} {o : O} {k : S → Prop} : dIsN neg o (.leaf .non) k = k (.dat (.bl (if neg then !isN o else isN o))) := by
  unfold dIsN
  simp
@[simp] theorem isN_non : isN (.leaf .non) = true := id rfl
@[simp] theorem isN_str {z : Str} : isN (.leaf (.str z)) = false := id rfl
@[simp] theorem isN_int {z : Int} : isN (.leaf (.int z)) = false := id rfl
@[simp] theorem isN_bl {z : Bool} : isN (.leaf (.bl z)) = false := id rfl
@[simp] theorem dTupleOf_eq {o : O} {k : S → Prop} : dTupleOf o k = ∃ ds, seqO o = some ds ∧ k (.dat (.tup ds)) := id rfl
@[simp] theorem dListOf_eq {o : O} {k : S → Prop} : dListOf o k = ∃ ds, seqO o = some ds ∧ k (.new (.lst none ds)) := id rfl
@[simp] theorem dIsi_eq {o : O} {u : String} {k : S → Prop} : dIsi o (.leaf (.ty u)) k = ∃ t, tyD o = some t ∧ u ∈ (["bool", "int", "str", "tuple", "list", "dict"] : List String) ∧ k (.dat (.bl (isiB t u))) := id rfl
end
section
variable {i j : Int} {k : S → Prop}
@[simp] theorem dLtI_eq : dLtI (.leaf (.int i)) (.leaf (.int j)) k = k (.dat (.bl (decide (i < j)))) := id rfl
@[simp] theorem dLeI_eq : dLeI (.leaf (.int i)) (.leaf (.int j)) k = k (.dat (.bl (decide (i ≤ j)))) := id rfl
@[simp] theorem dGtI_eq : dGtI (.leaf (.int i)) (.leaf (.int j)) k = k (.dat (.bl (decide (j < i)))) := id rfl
@[simp] theorem dGeI_eq : dGeI (.leaf (.int i)) (.leaf (.int j)) k = k (.dat (.bl (decide (j ≤ i)))) := id rfl
@[simp] theorem dSub_eq : dSub (.leaf (.int i)) (.leaf (.int j)) k = k (.dat (.int (i - j))) := id rfl
@[simp] theorem dAdd_int : dAdd (.leaf (.int i)) (.leaf (.int j)) k = k (.dat (.int (i + j))) := id rfl
@[simp] theorem dAdd_str {x y : Str} : dAdd (.leaf (.str x)) (.leaf (.str y)) k = (x.length + y.length ≤ sizeLine ∧ k (.dat (.str (x ++ y)))) := id rfl
@[simp] theorem dAdd_tup {x y : List D} : dAdd (.leaf (.tup x)) (.leaf (.tup y)) k = (x.length + y.length ≤ sizeLine ∧ k (.dat (.tup (x ++ y)))) := id rfl
@[simp] theorem dAdd_ll {x y : List D} : dAdd (.leaf (.lst x)) (.leaf (.lst y)) k = (x.length + y.length ≤ sizeLine ∧ k (.new (.lst none (x ++ y)))) := id rfl
@[simp] theorem dAdd_ol {p : Option Addr} {x y : List D} : dAdd (.lst p x) (.leaf (.lst y)) k = (x.length + y.length ≤ sizeLine ∧ k (.new (.lst none (x ++ y)))) := id rfl
@[simp] theorem dAdd_lo {p : Option Addr} {x y : List D} : dAdd (.leaf (.lst x)) (.lst p y) k = (x.length + y.length ≤ sizeLine ∧ k (.new (.lst none (x ++ y)))) := id rfl
@[simp] theorem dAdd_oo {p q : Option Addr} {x y : List D} : dAdd (.lst q x) (.lst p y) k = (x.length + y.length ≤ sizeLine ∧ k (.new (.lst none (x ++ y)))) := id rfl
@[simp] theorem dInSign_eq {c : Nat} {z : Str} : dInSign (.leaf (.str ⟨#[c]⟩)) (.leaf (.str z)) k = k (.dat (.bl (decide (c ∈ z.cps.toList)))) := by
  unfold dInSign dInSignB
  simp
@[simp] theorem dNotInSign_eq {c : Nat} {z : Str} : dNotInSign (.leaf (.str ⟨#[c]⟩)) (.leaf (.str z)) k = k (.dat (.bl (!decide (c ∈ z.cps.toList)))) := by
  unfold dNotInSign dInSignB
  simp
@[simp] theorem dEq_str {x y : Str} : dEq (.leaf (.str x)) (.leaf (.str y)) k = k (.dat (.bl (decide (x = y)))) := id rfl
@[simp] theorem dEq_int : dEq (.leaf (.int i)) (.leaf (.int j)) k = k (.dat (.bl (decide (i = j)))) := id rfl
@[simp] theorem dNe_str {x y : Str} : dNe (.leaf (.str x)) (.leaf (.str y)) k = k (.dat (.bl (!decide (x = y)))) := id rfl
@[simp] theorem dNe_int : dNe (.leaf (.int i)) (.leaf (.int j)) k = k (.dat (.bl (!decide (i = j)))) := id rfl
end
section
variable {k : S → Prop}
@[simp] theorem dSplit_eq {x y : Str} : dSplit (.leaf (.str x)) (.leaf (.str y)) k = ((y.length == 0) = false ∧ x.length + 2 ≤ sizeLine ∧ k (.new (.lst none ((Txt.split x y).map .str)))) := id rfl
@[simp] theorem dJoin_eq {x : Str} {o : O} : dJoin (.leaf (.str x)) o k = ∃ ys : List Str, seqO o = some (ys.map .str) ∧ (ys.map (·.length)).sum + ys.length * x.length ≤ 16777216 ∧ k (.dat (.str (Txt.join x ys))) := id rfl
@[simp] theorem dAll_eq {o : O} : dAll o k = ∃ bs : List Bool, lstO o = some (bs.map .bl) ∧ k (.dat (.bl (bs.all id))) := id rfl
@[simp] theorem dStrInt_eq {i : Int} : dStrInt (.leaf (.int i)) k = (i.natAbs.log2 < 1920 ∧ k (.dat (.str (toString i)))) := id rfl
@[simp] theorem dUpper_eq {z : Str} : dUpper (.leaf (.str z)) k = (z.length ≤ 5592405 ∧ k (.dat (.str (Txt.upper z)))) := id rfl
@[simp] theorem cutD_str {z : Str} {lo hi : Option Int} : cutD (.leaf (.str z)) lo hi k = (z.length ≤ sizeLine ∧ k (.dat (.str (cutS z lo hi)))) := id rfl
@[simp] theorem cutD_tup {ds : List D} {lo hi : Option Int} : cutD (.leaf (.tup ds)) lo hi k = k (.dat (.tup (cut ds lo hi))) := id rfl
@[simp] theorem cutD_lst {ds : List D} {lo hi : Option Int} : cutD (.leaf (.lst ds)) lo hi k = k (.new (.lst none (cut ds lo hi))) := id rfl
@[simp] theorem cutD_own {x : Option Addr} {ds : List D} {lo hi : Option Int} : cutD (.lst x ds) lo hi k = k (.new (.lst none (cut ds lo hi))) := id rfl
end
/-! ### loops -/
/-- a comprehension, by an invariant of what is left and what is had -/
theorem dlc_ind {gd : TGd} {tt : TTd} {te : TEd} {vs : List Nat} {Q : List D → Env → Nat → Prop} {ρ : Env} {I : List D → List D → Nat → Prop}
    (step : ∀ (d : D) (ds acc : List D) (n : Nat) (K1 : D → Env → Nat → Prop) (K0 : Env → Nat → Prop), I (d :: ds) acc n → (∀ y ρ4 n4, wipeD ρ4 vs = ρ → acc.length < sizeLine → I ds (acc ++ [y]) n4 → K1 y ρ4 n4) → (∀ ρ3 n3, wipeD ρ3 vs = ρ → I ds acc n3 → K0 ρ3 n3) →
      gd d ρ fun ρ2 => tt ρ2 n (fun b ρ3 n3 => if b = true then te ρ3 n3 (datK K1) X0d else K0 ρ3 n3) X0d)
    (fin : ∀ acc n, I [] acc n → Q acc ρ n) : ∀ (ds acc : List D) (n : Nat), I ds acc n → dlcLoop gd tt te vs Q ds acc ρ n
  | [], acc, n, h => fin acc n h
  | d :: ds, acc, n, h => by
    show gd d ρ fun ρ2 => tt ρ2 n (fun b ρ3 n3 => if b = true then te ρ3 n3 (datK fun y ρ4 n4 => acc.length < sizeLine ∧ dlcLoop gd tt te vs Q ds (acc ++ [y]) (wipeD ρ4 vs) n4) X0d else dlcLoop gd tt te vs Q ds acc (wipeD ρ3 vs) n3) X0d
    exact step d ds acc n _ _ h (fun y ρ4 n4 e l h' => ⟨l, by rw [e]; exact dlc_ind step fin ds _ n4 h'⟩) fun ρ3 n3 e h' => by rw [e]; exact dlc_ind step fin ds acc n3 h'
/-- .. all kept, each told by a function; no draws -/
theorem dlc_map {gd : TGd} {te : TEd} {vs : List Nat} {Q : List D → Env → Nat → Prop} {ρ : Env} {n : Nat} {f : D → D} {ds : List D} (hl : ds.length ≤ sizeLine)
    (step : ∀ d ∈ ds, ∀ (K1 : D → Env → Nat → Prop), (∀ ρ4, wipeD ρ4 vs = ρ → K1 (f d) ρ4 n) → gd d ρ fun ρ2 => te ρ2 n (datK K1) X0d) (fin : Q (ds.map f) ρ n) : dlcLoop gd dYes te vs Q ds [] ρ n := by
  refine dlc_ind (I := fun r acc m => m = n ∧ acc ++ r.map f = ds.map f ∧ ∀ d ∈ r, d ∈ ds) (fun d r acc m K1 K0 ⟨e1, e2, e3⟩ k1 k0 => ?_) (fun acc m ⟨e1, e2, _⟩ => ?_) ds [] n ⟨rfl, rfl, fun _ h => h⟩
  · subst e1
    simp only [dYes_eq, if_true]
    refine step d (e3 d List.mem_cons_self) K1 fun ρ4 hw => k1 _ _ _ hw ?_ ⟨rfl, by rw [List.append_assoc]; exact e2, fun x hx => e3 x (List.mem_cons_of_mem _ hx)⟩
    have := congrArg List.length e2
    simp at this
    omega
  · subst e1
    rw [List.map_nil, List.append_nil] at e2
    subst e2
    exact fin
/-- .. filtered -/
theorem dlc_filter {gd : TGd} {tt : TTd} {te : TEd} {vs : List Nat} {Q : List D → Env → Nat → Prop} {ρ : Env} {n : Nat} {p : D → Bool} {ds : List D} (hl : ds.length ≤ sizeLine)
    (step : ∀ d ∈ ds, ∀ (K1 : D → Env → Nat → Prop) (K0 : Env → Nat → Prop), (p d = true → ∀ ρ4, wipeD ρ4 vs = ρ → K1 d ρ4 n) → (p d = false → ∀ ρ4, wipeD ρ4 vs = ρ → K0 ρ4 n) → gd d ρ fun ρ2 => tt ρ2 n (fun b ρ3 n3 => if b = true then te ρ3 n3 (datK K1) X0d else K0 ρ3 n3) X0d) (fin : Q (ds.filter p) ρ n) : dlcLoop gd tt te vs Q ds [] ρ n := by
  refine dlc_ind (I := fun r acc m => m = n ∧ acc ++ r.filter p = ds.filter p ∧ acc.length + r.length ≤ ds.length ∧ ∀ d ∈ r, d ∈ ds) (fun d r acc m K1 K0 ⟨e1, e2, e4, e3⟩ k1 k0 => ?_) (fun acc m ⟨e1, e2, _⟩ => ?_) ds [] n ⟨rfl, rfl, by simp, fun _ h => h⟩
  · subst e1
    rw [List.length_cons] at e4
    refine step d (e3 d List.mem_cons_self) K1 K0 (fun hp ρ4 hw => k1 _ _ _ hw (by omega) ⟨rfl, ?_, by rw [List.length_append]; simp; omega, fun x hx => e3 x (List.mem_cons_of_mem _ hx)⟩) (fun hp ρ4 hw => k0 _ _ hw ⟨rfl, ?_, by omega, fun x hx => e3 x (List.mem_cons_of_mem _ hx)⟩)
    · rw [List.filter_cons, if_pos hp] at e2
      rw [List.append_assoc]
      exact e2
    · rw [List.filter_cons, if_neg (by rw [hp]; simp)] at e2
      exact e2
  · subst e1
    rw [List.filter_nil, List.append_nil] at e2
    subst e2
    exact fin
/-- a for, by an invariant of what is left -/
theorem dloop_ind {g : TGd} {tb : TSd} {D : Dd} {I : List Dx.D → Env → Nat → Prop} (step : ∀ (d : Dx.D) (ds : List Dx.D) (ρ : Env) (n : Nat) (K : Env → Nat → Prop), I (d :: ds) ρ n → (∀ ρ' n', I ds ρ' n' → K ρ' n') → g d ρ fun ρ2 => tb { D with nx := K, ct := K } ρ2 n)
    (fin : ∀ ρ n, I [] ρ n → D.nx ρ n) : ∀ (ds : List Dx.D) (ρ : Env) (n : Nat), I ds ρ n → dLoop g tb D ds ρ n
  | [], ρ, n, h => fin ρ n h
  | d :: ds, ρ, n, h => step d ds ρ n _ h fun ρ' n' h' => dloop_ind step fin ds ρ' n' h'
end Dx

set_option Elab.async false
set_option linter.all false
set_option maxRecDepth 100000
set_option maxHeartbeats 4000000
/-! DX19: equations at environments that are told slot by slot. -/
namespace Dx
open PySem L2 Wx
section
variable {D : Dd} {ρ : Env} {n : Nat} {Q : QD} {X : XD} {tA : TAd} {i : Nat} {a : Option O} {ta tb : TEd}
@[simp] theorem dVar_cons : dVar i (a :: ρ) n Q X = (match (a :: ρ)[i]? with
  | some (some (.leaf d)) => Q (.dat d) (a :: ρ) n
  | some (some o) => Q (.own i [] (kn o)) (a :: ρ) n
  | _ => False) := id rfl
/-- the object of a slot -/
def objK (ρ : Env) (i : Nat) (k : Option Addr → Str → List Str → List O → Prop) : Prop := match ρ[i]? with
  | some (some (.obj x C fs os)) => k x C fs os
  | _ => False
@[simp] theorem objK_cons {k : Option Addr → Str → List Str → List O → Prop} : objK (a :: ρ) i k = (match (a :: ρ)[i]? with
  | some (some (.obj x C fs os)) => k x C fs os
  | _ => False) := id rfl
theorem objK_iff {k : Option Addr → Str → List Str → List O → Prop} : objK ρ i k ↔ ∃ x C fs os, ρ[i]? = some (some (.obj x C fs os)) ∧ k x C fs os := by
  unfold objK
  constructor
  · intro h
    split at h
    · exact ⟨_, _, _, _, by assumption, h⟩
    · exact h.elim
  · rintro ⟨x, C, fs, os, e, h⟩
    rw [e]
    exact h
@[simp] theorem selfIs_cons {ad : Addr} {C : Str} {fs : List Str} {os : List O} {k : List Str → List O → Prop} : selfIs ad C (some (.obj (some ad) C fs os) :: ρ) k = k fs os := propext ⟨fun ⟨fs1, os1, e, q⟩ => by cases e; exact q, fun q => ⟨fs, os, rfl, q⟩⟩
@[simp] theorem resO_l {π : List Str} {d : Dx.D} : resO i π (.leaf d) = .dat d := id rfl
@[simp] theorem resO_lst {π : List Str} {x : Option Addr} {ds : List Dx.D} : resO i π (.lst x ds) = .own i π x := id rfl
theorem dFld_own {f : Str} {cs : List Str} {x : Option Addr} {C : Str} {fs : List Str} {os : List O} (h : ρ[i]? = some (some (.obj x C fs os))) : dFld f cs (dVar i) ρ n Q X = (C ∈ cs ∧ ∃ o1, lookF fs os f = some o1 ∧ Q (resO i [f] o1) ρ n) := by
  unfold dFld
  rw [dVar_obj h]
  refine propext ⟨fun q => ?_, fun ⟨hC, o1, hf, q⟩ => ⟨_, x, C, fs, os, o1, h, look_nil, hC, hf, q⟩⟩
  obtain ⟨o, x1, C1, fs1, os1, o1, e, l, hC, hf, q⟩ := q
  rw [h] at e
  cases e
  rw [look_nil] at l
  cases l
  exact ⟨hC, o1, hf, q⟩
theorem dFld_dat {f : Str} {cs : List Str} {C : Str} {fs : List Str} {vs : List Dx.D} (h : ρ[i]? = some (some (.leaf (.obj C fs vs)))) : dFld f cs (dVar i) ρ n Q X = (C ∈ cs ∧ ∃ v, (fs.zip vs).lookup f = some v ∧ Q (.dat v) ρ n) := by
  unfold dFld
  rw [dVar_l h]
  simp
@[simp] theorem dFld_0 {f : Str} {cs : List Str} {x : Option Addr} {C : Str} {fs : List Str} {os : List O} : dFld f cs (dVar 0) (some (.obj x C fs os) :: ρ) n Q X = (C ∈ cs ∧ ∃ o1, lookF fs os f = some o1 ∧ Q (resO 0 [f] o1) (some (.obj x C fs os) :: ρ) n) := dFld_own rfl
@[simp] theorem dFld_1 {f : Str} {cs : List Str} {x : Option Addr} {C : Str} {fs : List Str} {os : List O} : dFld f cs (dVar 1) (a :: some (.obj x C fs os) :: ρ) n Q X = (C ∈ cs ∧ ∃ o1, lookF fs os f = some o1 ∧ Q (resO 1 [f] o1) (a :: some (.obj x C fs os) :: ρ) n) := dFld_own rfl
theorem dSetFld_eq' {f : Str} {cs : List Str} {j : Nat} : dSetFld f cs j ta D ρ n = ta ρ n (treeK fun u ρ1 n1 => objK ρ1 j fun x C fs os => C ∈ cs ∧ fs.length < 1000 ∧ D.nx (ρ1.set j (some (.obj x C (putN f fs) (putO f u fs os)))) n1) D.ex := by
  show ta ρ n (treeK fun u ρ1 n1 => ∃ x C fs os, ρ1[j]? = some (some (.obj x C fs os)) ∧ C ∈ cs ∧ fs.length < 1000 ∧ D.nx (ρ1.set j (some (.obj x C (putN f fs) (putO f u fs os)))) n1) D.ex = _
  congr 2
  funext u ρ1 n1
  exact propext objK_iff.symm
theorem dAugFld_own {f : Str} {cs : List Str} {j : Nat} {op : Int → Int → Int} {x : Option Addr} {C : Str} {fs : List Str} {os : List O} {v k : Int} (h : ρ[j]? = some (some (.obj x C fs os))) (hf : lookF fs os f = some (.leaf (.int v))) (hC : C ∈ cs) (hl : fs.length < 1000) (q : D.nx (ρ.set j (some (.obj x C (putN f fs) (putO f (.leaf (.int (op v k))) fs os)))) n) :
    dAugFld f cs j op (dC (.int k)) D ρ n := ⟨x, C, fs, os, v, h, hC, hf, rfl, hl, q⟩
theorem dMethO_own {C m : Str} {sp : SpM} {x : Option Addr} {fs : List Str} {os : List O} (h : ρ[i]? = some (some (.obj x C fs os))) : dMethO C m sp (dVar i) dNil ρ n Q X = (m ∉ fs ∧ sp fs os [] n (fun r fs' os' n3 => Q (resS r) (ρ.set i (some (.obj x C fs' os'))) n3) (fun D gs es fs' os' n3 => X (ρ.set i (some (.obj x C fs' os'))) D gs es n3)) := by
  unfold dMethO
  rw [dVar_obj h]
  apply propext
  constructor
  · rintro ⟨⟨o, y, fs1, os1, e, l, hm⟩, o2, o3, e2, l2, _, y2, fs2, os2, e3, q⟩
    rw [h] at e e2
    cases e
    cases e2
    rw [look_nil] at l l2
    cases l
    cases l2
    cases e3
    simp at q
    exact ⟨hm, q⟩
  · rintro ⟨hm, q⟩
    refine ⟨⟨_, x, fs, os, h, by simp, hm⟩, _, _, h, by simp, .inl rfl, x, fs, os, rfl, by simpa using q⟩
theorem dMethO_own1 {C m : Str} {sp : SpM} {x : Option Addr} {fs : List Str} {os : List O} (h : ρ[i]? = some (some (.obj x C fs os))) (hm : m ∉ fs) (q : tA ρ n (fun ds ρ2 n2 => objK ρ2 i fun y C' fs os => C' = C ∧ sp fs os ds n2 (fun r fs' os' n3 => Q (resS r) (ρ2.set i (some (.obj y C fs' os'))) n3) (fun D gs es fs' os' n3 => X (ρ2.set i (some (.obj y C fs' os'))) D gs es n3)) X) : dMethO C m sp (dVar i) tA ρ n Q X := by
  unfold dMethO
  rw [dVar_obj h]
  refine ⟨⟨_, x, fs, os, h, by simp, hm⟩, ?_⟩
  have : (fun ds ρ2 n2 => objK ρ2 i fun y C' fs os => C' = C ∧ sp fs os ds n2 (fun r fs' os' n3 => Q (resS r) (ρ2.set i (some (.obj y C fs' os'))) n3) (fun D gs es fs' os' n3 => X (ρ2.set i (some (.obj y C fs' os'))) D gs es n3)) = fun ds ρ2 n2 => ownAt i [] x ρ2 fun o o1 => ∃ y fs os, o1 = .obj y C fs os ∧ sp fs os ds n2 (fun r fs' os' n3 => Q (resS r) (ρ2.set i (some (setO o [] (.obj y C fs' os')))) n3) (fun D gs es fs' os' n3 => X (ρ2.set i (some (setO o [] (.obj y C fs' os')))) D gs es n3) := by
    funext ds ρ2 n2
    apply propext
    rw [objK_iff]
    constructor
    · rintro ⟨y, C', fs, os, e, rfl, q⟩
      exact ⟨_, _, e, by simp, .inl rfl, y, fs, os, rfl, by simpa using q⟩
    · rintro ⟨o, o1, e, l, _, y, fs, os, e1, q⟩
      simp at l
      subst l e1
      exact ⟨y, C, fs, os, e, rfl, by simpa using q⟩
  rw [← this]
  exact q
@[simp] theorem dMethO_0 {C m : Str} {sp : SpM} {x : Option Addr} {fs : List Str} {os : List O} : dMethO C m sp (dVar 0) dNil (some (.obj x C fs os) :: ρ) n Q X = (m ∉ fs ∧ sp fs os [] n (fun r fs' os' n3 => Q (resS r) (some (.obj x C fs' os') :: ρ) n3) (fun D gs es fs' os' n3 => X (some (.obj x C fs' os') :: ρ) D gs es n3)) := dMethO_own rfl
@[simp] theorem dMethO_1 {C m : Str} {sp : SpM} {x : Option Addr} {fs : List Str} {os : List O} : dMethO C m sp (dVar 1) dNil (a :: some (.obj x C fs os) :: ρ) n Q X = (m ∉ fs ∧ sp fs os [] n (fun r fs' os' n3 => Q (resS r) (a :: some (.obj x C fs' os') :: ρ) n3) (fun D gs es fs' os' n3 => X (a :: some (.obj x C fs' os') :: ρ) D gs es n3)) := dMethO_own rfl
end
@[simp] theorem ofString_eq {a b : String} : (Str.ofString a = Str.ofString b) = (a = b) := by
  apply propext
  constructor
  · intro h
    rw [Str.ofString_eq_toList, Str.ofString_eq_toList] at h
    injection h with h
    have h2 : a.toList.map Char.toNat = b.toList.map Char.toNat := by
      have := congrArg Array.toList h
      simpa using this
    have h3 := (List.map_inj_right fun x y e => Char.toNat_inj.mp e).mp h2
    first
      | exact String.toList_inj.mp h3
      | exact String.ext h3
  · rintro rfl
    rfl
@[simp] theorem dAugFld_0 {D : Dd} {ρ : Env} {n : Nat} {f : Str} {cs : List Str} {op : Int → Int → Int} {x : Option Addr} {C : Str} {fs : List Str} {os : List O} {k : Int} : dAugFld f cs 0 op (dC (.int k)) D (some (.obj x C fs os) :: ρ) n =
    (C ∈ cs ∧ ∃ v, lookF fs os f = some (.leaf (.int v)) ∧ fs.length < 1000 ∧ D.nx (some (.obj x C (putN f fs) (putO f (.leaf (.int (op v k))) fs os)) :: ρ) n) :=
  propext ⟨fun ⟨x1, C1, fs1, os1, v, e, hC, hf, h⟩ => by
    cases e
    exact ⟨hC, v, hf, h.2⟩, fun ⟨hC, v, hf, hl, q⟩ => dAugFld_own rfl hf hC hl q⟩
@[simp] theorem dCallV_1 {ρ : Env} {n i : Nat} {Q : QD} {X : XD} {tA : TAd} {x : Str} {sp : SpD} : dCallV i [(x, sp)] tA ρ n Q X = (ρ[i]? = some (some (.leaf (.glb x))) ∧ dCall sp [] tA ρ n Q X) := by
  unfold dCallV
  simp
@[simp] theorem treeK_s {R : O → Env → Nat → Prop} {ρ : Env} {n : Nat} {o : O} : treeK R (resS o) ρ n = R o ρ n := by
  cases o <;> rfl
@[simp] theorem datK_s {R : D → Env → Nat → Prop} {ρ : Env} {n : Nat} {o : O} : datK R (resS o) ρ n = R (frz o) ρ n := by
  cases o
  · simp
  all_goals rfl
/-- arguments that are constants -/
theorem dMethO_c {ρ : Env} {n i : Nat} {Q : QD} {X : XD} {tA : TAd} {C m : Str} {sp : SpM} {x : Option Addr} {fs : List Str} {os : List O} {ds : List D} (hc : ∀ (ρ : Env) (n : Nat) (R : List D → Env → Nat → Prop) (X : XD), tA ρ n R X = R ds ρ n) (h : ρ[i]? = some (some (.obj x C fs os))) :
    dMethO C m sp (dVar i) tA ρ n Q X = (m ∉ fs ∧ sp fs os ds n (fun r fs' os' n3 => Q (resS r) (ρ.set i (some (.obj x C fs' os'))) n3) (fun D gs es fs' os' n3 => X (ρ.set i (some (.obj x C fs' os'))) D gs es n3)) := by
  unfold dMethO
  rw [dVar_obj h]
  simp only [hc]
  apply propext
  constructor
  · rintro ⟨⟨o, y, fs1, os1, e, l, hm⟩, o2, o3, e2, l2, _, y2, fs2, os2, e3, q⟩
    rw [h] at e e2
    cases e
    cases e2
    rw [look_nil] at l l2
    cases l
    cases l2
    cases e3
    simp at q
    exact ⟨hm, q⟩
  · rintro ⟨hm, q⟩
    refine ⟨⟨_, x, fs, os, h, by simp, hm⟩, _, _, h, by simp, .inl rfl, x, fs, os, rfl, by simpa using q⟩
@[simp] theorem dMethO_0c {ρ : Env} {n : Nat} {Q : QD} {X : XD} {C m : Str} {sp : SpM} {x : Option Addr} {fs : List Str} {os : List O} {d : D} : dMethO C m sp (dVar 0) (dCons (dC d) dNil) (some (.obj x C fs os) :: ρ) n Q X = (m ∉ fs ∧ sp fs os [d] n (fun r fs' os' n3 => Q (resS r) (some (.obj x C fs' os') :: ρ) n3) (fun D gs es fs' os' n3 => X (some (.obj x C fs' os') :: ρ) D gs es n3)) := dMethO_c (fun _ _ _ _ => by simp) rfl
@[simp] theorem dMethO_1c {ρ : Env} {a : Option O} {n : Nat} {Q : QD} {X : XD} {C m : Str} {sp : SpM} {x : Option Addr} {fs : List Str} {os : List O} {d : D} : dMethO C m sp (dVar 1) (dCons (dC d) dNil) (a :: some (.obj x C fs os) :: ρ) n Q X = (m ∉ fs ∧ sp fs os [d] n (fun r fs' os' n3 => Q (resS r) (a :: some (.obj x C fs' os') :: ρ) n3) (fun D gs es fs' os' n3 => X (a :: some (.obj x C fs' os') :: ρ) D gs es n3)) := dMethO_c (fun _ _ _ _ => by simp) rfl
@[simp] theorem dMethO_1cc {ρ : Env} {a : Option O} {n : Nat} {Q : QD} {X : XD} {C m : Str} {sp : SpM} {x : Option Addr} {fs : List Str} {os : List O} {d e : D} : dMethO C m sp (dVar 1) (dCons (dC d) (dCons (dC e) dNil)) (a :: some (.obj x C fs os) :: ρ) n Q X = (m ∉ fs ∧ sp fs os [d, e] n (fun r fs' os' n3 => Q (resS r) (a :: some (.obj x C fs' os') :: ρ) n3) (fun D gs es fs' os' n3 => X (a :: some (.obj x C fs' os') :: ρ) D gs es n3)) := dMethO_c (fun _ _ _ _ => by simp) rfl
/-- the list of a slot -/
def lstAt (ρ : Env) (i : Nat) (k : Option Addr → List D → Prop) : Prop := match ρ[i]? with
  | some (some (.lst x ds)) => k x ds
  | _ => False
@[simp] theorem lstAt_cons {a : Option O} {ρ : Env} {i : Nat} {k : Option Addr → List D → Prop} : lstAt (a :: ρ) i k = (match (a :: ρ)[i]? with
  | some (some (.lst x ds)) => k x ds
  | _ => False) := id rfl
theorem lstAt_iff {ρ : Env} {i : Nat} {k : Option Addr → List D → Prop} : lstAt ρ i k ↔ ∃ x ds, ρ[i]? = some (some (.lst x ds)) ∧ k x ds := by
  unfold lstAt
  constructor
  · intro h
    split at h
    · exact ⟨_, _, by assumption, h⟩
    · exact h.elim
  · rintro ⟨x, ds, e, h⟩
    rw [e]
    exact h
theorem dMut_own {ρ : Env} {n i : Nat} {Q : QD} {X : XD} {te : TEd} {f : List D → D → (D → List D → Prop) → Prop} {x : Option Addr} {ds : List D} (h : ρ[i]? = some (some (.lst x ds))) :
    dMut f (dVar i) te ρ n Q X = te ρ n (datK fun d ρ2 n2 => lstAt ρ2 i fun y es => f es d fun r es' => Q (.dat r) (ρ2.set i (some (.lst y es'))) n2) X := by
  have key : ∀ (d : D) (ρ2 : Env) (n2 : Nat), mutK (.own i [] x) ρ2 (fun ds k => f ds d k) (fun r ρ3 => Q (.dat r) ρ3 n2) = lstAt ρ2 i fun y es => f es d fun r es' => Q (.dat r) (ρ2.set i (some (.lst y es'))) n2 := by
    intro d ρ2 n2
    apply propext
    rw [lstAt_iff]
    constructor
    · rintro ⟨o, o1, e, l, _, y, ds, e1, q⟩
      rw [look_nil] at l
      cases l
      subst e1
      exact ⟨y, ds, e, by simpa using q⟩
    · rintro ⟨y, ds, e, q⟩
      exact ⟨_, _, e, look_nil, .inl rfl, y, ds, rfl, by simpa using q⟩
  unfold dMut
  rw [dVar_lst h]
  simp only [key]
  apply propext
  exact ⟨fun ⟨o, y, es, e, l, q⟩ => q, fun q => ⟨_, x, ds, h, look_nil, q⟩⟩
@[simp] theorem dMut_0 {ρ : Env} {n : Nat} {Q : QD} {X : XD} {te : TEd} {f : List D → D → (D → List D → Prop) → Prop} {x : Option Addr} {ds : List D} : dMut f (dVar 0) te (some (.lst x ds) :: ρ) n Q X = te (some (.lst x ds) :: ρ) n (datK fun d ρ2 n2 => lstAt ρ2 0 fun y es => f es d fun r es' => Q (.dat r) (ρ2.set 0 (some (.lst y es'))) n2) X := dMut_own rfl
@[simp] theorem dMut_1 {ρ : Env} {a : Option O} {n : Nat} {Q : QD} {X : XD} {te : TEd} {f : List D → D → (D → List D → Prop) → Prop} {x : Option Addr} {ds : List D} : dMut f (dVar 1) te (a :: some (.lst x ds) :: ρ) n Q X = te (a :: some (.lst x ds) :: ρ) n (datK fun d ρ2 n2 => lstAt ρ2 1 fun y es => f es d fun r es' => Q (.dat r) (ρ2.set 1 (some (.lst y es'))) n2) X := dMut_own rfl
@[simp] theorem dMut_2 {ρ : Env} {a b : Option O} {n : Nat} {Q : QD} {X : XD} {te : TEd} {f : List D → D → (D → List D → Prop) → Prop} {x : Option Addr} {ds : List D} : dMut f (dVar 2) te (a :: b :: some (.lst x ds) :: ρ) n Q X = te (a :: b :: some (.lst x ds) :: ρ) n (datK fun d ρ2 n2 => lstAt ρ2 2 fun y es => f es d fun r es' => Q (.dat r) (ρ2.set 2 (some (.lst y es'))) n2) X := dMut_own rfl
@[simp] theorem dMut_3 {ρ : Env} {a b c : Option O} {n : Nat} {Q : QD} {X : XD} {te : TEd} {f : List D → D → (D → List D → Prop) → Prop} {x : Option Addr} {ds : List D} : dMut f (dVar 3) te (a :: b :: c :: some (.lst x ds) :: ρ) n Q X = te (a :: b :: c :: some (.lst x ds) :: ρ) n (datK fun d ρ2 n2 => lstAt ρ2 3 fun y es => f es d fun r es' => Q (.dat r) (ρ2.set 3 (some (.lst y es'))) n2) X := dMut_own rfl
@[simp] theorem fAppend_eq {ds : List D} {d : D} {k : D → List D → Prop} : fAppend ds d k = (ds.length < sizeLine ∧ k .non (ds ++ [d])) := id rfl
@[simp] theorem dMake_eq {C : Str} {sp : SpM} {tA : TAd} {ρ : Env} {n : Nat} {Q : QD} {X : XD} : dMake C sp tA ρ n Q X = tA ρ n (fun ds ρ1 n1 => sp [] [] ds n1 (fun o fs os n2 => o = .leaf .non ∧ Q (.new (.obj none C fs os)) ρ1 n2) (fun D fs es _ _ n2 => X ρ1 D fs es n2)) X := id rfl
@[simp] theorem setAll_nil {ρ : Env} : setAll ρ [] [] = ρ := id rfl
@[simp] theorem setAll_cons {ρ : Env} {i : Nat} {is : List Nat} {o : O} {os : List O} : setAll ρ (i :: is) (o :: os) = setAll (ρ.set i (some o)) is os := id rfl
theorem eqD_nil {ds : List D} : eqD (.lst ds) (.lst []) = ds.isEmpty := by
  cases ds <;> simp [eqD, toPy, toPys, PyData.eqv, PyData.eqvAll]
@[simp] theorem dEq_nil {ds : List D} {x : Option Addr} {k : S → Prop} : dEq (.leaf (.lst ds)) (.lst x []) k = (okd 60 (.lst ds) = true ∧ k (.dat (.bl ds.isEmpty))) := by
  show (okd 60 (frz (.leaf (.lst ds))) = true ∧ okd 60 (frz (.lst x [])) = true ∧ k (.dat (.bl (eqD (frz (.leaf (.lst ds))) (frz (.lst x [])))))) = _
  simp [eqD_nil, okd, okds]
@[simp] theorem dRng1_eq {ta : TAd} {ρ : Env} {n : Nat} {R : List D → Env → Nat → Prop} {X : XD} : dRng1 ta ρ n R X = ta ρ n (fun ds ρ1 n1 => match ds with
  | [.int j] => -(2 ^ 62) ≤ j ∧ j < 2 ^ 62 ∧ R (dints 0 j.toNat) ρ1 n1
  | _ => False) X := id rfl
@[simp] theorem dEnum_eq {ta : TAd} {ρ : Env} {n : Nat} {R : List D → Env → Nat → Prop} {X : XD} : dEnum ta ρ n R X = ta ρ n (fun ds ρ1 n1 => match ds with
  | [.lst xs] => R (enumD xs) ρ1 n1
  | _ => False) X := id rfl
theorem fPopAt_ok {ds : List D} {j : Int} {k : D → List D → Prop} (h0 : 0 ≤ j) (h1 : j < ds.length) (hl : ds.length < 2 ^ 62) (q : ∀ x, ds[j.toNat]? = some x → k x (ds.eraseIdx j.toNat)) : fPopAt ds (.int j) k := by
  obtain ⟨i, rfl⟩ := Int.eq_ofNat_of_zero_le h0
  have hi : i < ds.length := by omega
  refine ⟨by omega, by omega, i, ds[i], ?_, by simp, q _ (by simp)⟩
  unfold seqIndex?
  simp
  omega
end Dx

set_option Elab.async false
set_option linter.all false
set_option maxRecDepth 100000
set_option maxHeartbeats 4000000
/-! DX20: the join: addresses by the written part's names, looks at the written part. -/
namespace Dx
open PySem PySem.Spec PyProof.Rows L2 Wx LamX
def adOf (K : PySem.W.Frag) (x : Str) : Addr := match PySem.W.nsIn K mainGlobals x with
  | some (some (.ref a)) => a
  | _ => 0
theorem adOf_of {K : PySem.W.Frag} {x : Str} {a : Addr} (h : PySem.W.nsIn K mainGlobals x = some (some (.ref a))) : adOf K x = a := by
  unfold adOf
  rw [h]
abbrev clK (K : PySem.W.Frag) (cs : List LamTab) : Cl := ⟨adOf K, tabsOf cs⟩
section
variable {K : PySem.W.Frag} {h : Heap} {mg : Str → Option Value}
theorem mgA {x : Str} {a : Addr} (X : K.In h) (G : h.Ns mainGlobals mg) (e : PySem.W.nsIn K mainGlobals x = some (some (.ref a))) : mg x = some (.ref (adOf K x)) := by
  rw [adOf_of e]
  exact PySem.W.mg_of X G e
/-- the built-in types -/
def kbB (K : PySem.W.Frag) : Bool := (["NoneType", "bool", "int", "str", "tuple", "list", "dict"] : List String).all fun t => (["bool", "int", "str", "tuple", "list", "dict"] : List String).all fun u => decide (PySem.W.kitOne K (.type t) (.type u) = some (isiB t u))
theorem kbB_ok (h : kbB K = true) : KitB K := ⟨by simpa only [kbB, List.all_eq_true, decide_eq_true_eq] using h⟩
/-- a class whose instances are made and read -/
def clsB (K : PySem.W.Frag) (C : Addr) : Bool := PySem.W.plainGet K C Str.empty && (PySem.W.hasDictIn K C && (PySem.W.plainOver K C && decide (PySem.W.findIn K (.ref C) "__setattr__" = some (some (.builtin "object.__setattr__")))))
theorem clsB_ok {C : Addr} (h : clsB K C = true) : Cls K C := by
  unfold clsB at h
  simp only [Bool.and_eq_true, decide_eq_true_eq] at h
  exact ⟨h.1, h.2.1, h.2.2.1, h.2.2.2⟩
/-- the fields of the classes -/
def fldB (K : PySem.W.Frag) (l : List (Str × Str)) : Bool := l.all fun p => clsB K (adOf K p.1) && decide (PySem.W.findIn K (.ref (adOf K p.1)) p.2 = some none)
theorem fldB_ok {l : List (Str × Str)} {f : Str} {xs : List Str} {cs : List LamTab} (h : fldB K l = true) (m : ∀ C ∈ xs, (C, f) ∈ l) : FldK K (clK K cs) f xs := fun C hC => by
  have := List.all_eq_true.mp h _ (m C hC)
  simp only [Bool.and_eq_true, decide_eq_true_eq] at this
  exact ⟨clsB_ok this.1, this.2⟩
/-- fields of errors that are read -/
def sfB (K : PySem.W.Frag) (l : List (Str × Str)) : Bool := l.all fun p => xfB K (adOf K p.1) && decide (PySem.W.findIn K (.ref (adOf K p.1)) p.2 = some none)
theorem sfB_ok {l : List (Str × Str)} {C f : Str} (h : sfB K l = true) (m : (C, f) ∈ l) : XfC K (adOf K C) ∧ PySem.W.findIn K (.ref (adOf K C)) f = some none := by
  have := List.all_eq_true.mp h _ m
  simp only [Bool.and_eq_true, decide_eq_true_eq] at this
  exact ⟨xfB_ok this.1, this.2⟩
/-- which error a handler takes: (handler, error) -/
def exmB (K : PySem.W.Frag) (l : List ((Str × Str) × Bool)) : Bool := l.all fun p => decide (PySem.W.exmOne K (.ref (adOf K p.1.2)) (.ref (adOf K p.1.1)) = some p.2)
theorem exmB_ok {l : List ((Str × Str) × Bool)} {hd C : Str} {b : Bool} (h : exmB K l = true) (m : ((hd, C), b) ∈ l) : PySem.W.exmOne K (.ref (adOf K C)) (.ref (adOf K hd)) = some b := by
  have := List.all_eq_true.mp h _ m
  simpa only [decide_eq_true_eq] using this
/-- the errors that are raised, with their fields -/
def xB (K : PySem.W.Frag) (l : List (Str × List Str)) : Bool := l.all fun p => exB K (adOf K p.1) && p.2.all fun f => decide (PySem.W.findIn K (.ref (adOf K p.1)) f = some none)
theorem xB_ok {l : List (Str × List Str)} {C : Str} {fs : List Str} (h : xB K l = true) (m : (C, fs) ∈ l) : OexC K (adOf K C) ∧ ∀ f ∈ fs, PySem.W.findIn K (.ref (adOf K C)) f = some none := by
  have := List.all_eq_true.mp h _ m
  simp only [Bool.and_eq_true, List.all_eq_true, decide_eq_true_eq] at this
  exact ⟨(exB_ok this.1).ox, this.2⟩
end
section
variable {P : Program} {w : World} {K : PySem.W.Frag} {mg : Str → Option Value} {base : Heap}
theorem fn_none {cl : Dx.Cl} {g : Bool} {k : Nat} {f : Addr} {fd : FuncData} {ps : List Str} : FnB g P w K mg base k f fd ps (spL K (spW cl (fun _ _ _ _ => False))) :=
  ⟨fun vs H Q E ⟨_, _, _, _, _, _, ⟨_, _, _, _, _, _, _, _, h, _⟩, _⟩ => h.elim, fun A outer s H args us vs Q E _ _ _ _ ⟨_, _, _, _, _, _, ⟨_, _, _, _, _, _, _, _, h, _⟩, _⟩ => h.elim⟩
theorem funC_mk {x qual : Str} {st : Stmt} {f : Addr} {oc : Value} {od an : Option Addr} {osl : Array (Option Value)} {kV doc pm cdv ct : Value} (l : K.lookup f = some ⟨oc, od, .func (PySem.W.fnOf x qual (defArgs st) (defBody st) (defScope st) .none kV doc pm an cdv ct), osl⟩)
    (c : PySem.W.codeIn K cdv qual = true) : FunC K x qual st f (PySem.W.fnOf x qual (defArgs st) (defBody st) (defScope st) .none kV doc pm an cdv ct) cdv := ⟨⟨oc, od, kV, doc, pm, an, ct, osl, rfl, l, c⟩⟩
theorem tabIn_mk {x : Str} {f c P : Addr} {fd : FuncData} {oc oc2 : Value} {od od2 : Option Addr} {osl osl2 : Array (Option Value)} {vs : Array Value} (a : PySem.W.nsIn K mainGlobals x = some (some (.ref f))) (l : K.lookup f = some ⟨oc, od, .func fd, osl⟩) (e : fd.code = .ref c)
    (lc : K.lookup c = some ⟨oc2, od2, .fields vs, osl2⟩) (hv : (vs[11]? : Option Value) = some (.ref P)) : PySem.W.tabIn K x = some (c, P) := by
  unfold PySem.W.tabIn
  rw [a]
  dsimp only
  rw [l]
  dsimp only
  rw [e]
  dsimp only
  rw [lc]
  dsimp only
  rw [hv]
theorem lamAt_mk {cs : List LamTab} {t : LamTab} {q : Str} (m : t ∈ cs) (hq : t.q = q) (nd : ∀ u ∈ cs, u.P = t.P → u.q = q) (TB : ∀ p ∈ cs, TabB base mg p.c p.P) : LamAt (clK K cs) base mg (.ref t.c) q :=
  ⟨t.c, t.P, rfl, TB t m, by subst hq; exact List.mem_map.mpr ⟨t, m, rfl⟩, fun p hp e => by
    obtain ⟨u, hu, rfl⟩ := List.mem_map.mp hp
    exact nd u hu e⟩
end
end Dx
namespace Dx
open PySem PySem.Spec PyProof.Rows L2 Wx LamX
theorem walkGD {l : PySem.W.OpenLaw} {n k : Nat} {q : Program} {loose : List Str} {XP : (Str → Option Value) → Heap → Prop} {YP : World → Heap → Prop} {d : DefRec} {K : Params → PySem.W.Frag} {x : Str} {xs : List Str}
    (hn : l.most = some n) (hn2 : n ≤ 63) (hdf : d.params.defaults = []) (hr : Room k callerA) (hxs : ∀ x ∈ xs, ((PyProof.Rows.recsOf q).find? fun e => e.name == x).isSome = true)
    (hY : ∀ (w : World) (h : Heap), YP w h → (K w.params).In h) (hnl : ∀ w : World, noLst (K w.params) = true)
    (F : ∀ (w : World) (mg : Str → Option Value) (fa : Addr) (h : Heap), (K w.params).In h → h.Ns mainGlobals mg → mg d.name = some (.ref fa) →
      ∃ cs : List LamTab, TabsIn (K w.params) xs cs ∧ ∃ fd : FuncData, (∀ (s : Shared) (u : Value), BindsTo s fd ⟨[u], []⟩ [(x, u)]) ∧
        ∀ base : Heap, (K w.params).In base → base.Ns mainGlobals mg → (∀ p ∈ cs, LamX.TabB base mg p.c p.P) → FnB true l.prog w (K w.params) mg base k fa fd [x] (spL (K w.params) (spW (clK (K w.params) cs) sp_law))) :
    PySem.W.WalkO q loose XP YP l.row.toRowW d [] (fun f vs => PySem.call f vs) :=
  walkGT (sp := fun w cs => spW (clK (K w.params) cs) sp_law) hn (Nat.le_trans hn2 (by decide)) hdf hr hxs hY hnl fun w mg fa h X G e =>
    let ⟨cs, t, r⟩ := F w mg fa h X G e; ⟨cs, t, fun A a ns hl hA hp ht => law_up (Nat.le_trans hl hn2) hA hp ht, r⟩
end Dx

set_option Elab.async false
set_option linter.all false
set_option maxRecDepth 100000
set_option maxHeartbeats 4000000
namespace Dx
open PySem L2 Wx PyProof.Rows LamX
def top (i : Nat) : Stmt := PySem.Challenge.pw_unseendeeds_k02_names_and_words.main.body.getD i (.Pass ⟨0, 0, 0, 0⟩)
abbrev c_EMPTY : W := (.str "_")
abbrev cd_EMPTY : D := (.str "_")
theorem rdc_EMPTY (F : Fz) : RD F cd_EMPTY c_EMPTY := by simp only [RD]
abbrev c_FIGURES : W := (.str "0123456789")
abbrev cd_FIGURES : D := (.str "0123456789")
theorem rdc_FIGURES (F : Fz) : RD F cd_FIGURES c_FIGURES := by simp only [RD]
abbrev c_LETTERS : W := (.str "abcdefghijklmnopqrstuvwxyz")
abbrev cd_LETTERS : D := (.str "abcdefghijklmnopqrstuvwxyz")
theorem rdc_LETTERS (F : Fz) : RD F cd_LETTERS c_LETTERS := by simp only [RD]
def okf (C f : Str) : Bool := decide ((C, f) ∈ ([("BadText", "line"), ("BadText", "word")] : List (Str × Str)))
def exTab : List (Str × Bool) := [("BadText", true), ("BadNumber", false), ("BadRow", false), ("NoName", false), ("Unlike", false), ("TooMany", false)]
def exT (h C : Str) : Option Bool := if C = "BadText" then exTab.lookup h else none
/-- what the text leans on -/
structure Txt (P : Program) (w : World) (K : PySem.W.Frag) (mg : Str → Option Value) (base : Heap) (cl : Cl) : Prop where
  kb : KitB K
  sf : ∀ C f, okf C f = true → XfC K (cl C) ∧ PySem.W.findIn K (.ref (cl C)) f = some none
  ex : ∀ h C b, exT h C = some b → PySem.W.exmOne K (.ref (cl C)) (.ref (cl h)) = some b
  b_all : mg "all" = none
  b_bool : mg "bool" = none
  b_enumerate : mg "enumerate" = none
  b_int : mg "int" = none
  b_isinstance : mg "isinstance" = none
  b_len : mg "len" = none
  b_list : mg "list" = none
  b_range : mg "range" = none
  b_repr : mg "repr" = none
  b_sorted : mg "sorted" = none
  b_str : mg "str" = none
  b_tuple : mg "tuple" = none
  b_zip : mg "zip" = none
  m_BadNumber : mg "BadNumber" = some (.ref (cl "BadNumber"))
  m_BadRow : mg "BadRow" = some (.ref (cl "BadRow"))
  m_BadText : mg "BadText" = some (.ref (cl "BadText"))
  m_NoName : mg "NoName" = some (.ref (cl "NoName"))
  m_TooMany : mg "TooMany" = some (.ref (cl "TooMany"))
  m_Unlike : mg "Unlike" = some (.ref (cl "Unlike"))
  m_is_name : mg "is_name" = some (.ref (cl "is_name"))
  c_EMPTY : GConst K mg "EMPTY" c_EMPTY
  c_FIGURES : GConst K mg "FIGURES" c_FIGURES
  c_LETTERS : GConst K mg "LETTERS" c_LETTERS
  f_at : FldK K cl "at" ["Cursor"]
  f_line : FldK K cl "line" ["Cursor"]
  f_rows : FldK K cl "rows" ["Cursor"]
  x_BadText : XMk P w K mg base "BadText" (cl "BadText") ["line", "word"]
/-! the promises -/
def sp_none : SpD := fun _ _ _ _ => False
def letters : List Nat := ("abcdefghijklmnopqrstuvwxyz" : Str).cps.toList
def figures : List Nat := ("0123456789" : Str).cps.toList
/-- the plain look at a name -/
def isNm (z : Str) : Bool := decide (1 ≤ z.length) && decide (z.length ≤ 12) && (match z.cps.toList with | c :: _ => decide (c ∈ letters) | [] => false) && z.cps.toList.all fun c => decide (c ∈ letters) || decide (c ∈ figures)
/-- values that the program looks at -/
def gv : D → Bool
  | .non => true
  | .bl _ => true
  | .int _ => true
  | .str z => decide (z.length ≤ 1000000)
  | .tup _ => true
  | .lst _ => true
  | .dic _ _ => true
  | _ => false
def isNameD : D → Bool
  | .str z => isNm z
  | _ => false
def isWordD : D → Bool
  | .tup ds => ds.all isNameD
  | _ => false
def sp_is_name : SpD := fun ds n Q _ => ∃ d : D, ds = [d] ∧ gv d = true ∧ Q (.leaf (.bl (isNameD d))) n
def sp__law_is_name : SpD := fun ds n Q _ => ∃ d : D, ds = [d] ∧ gv d = true ∧ okd 59 d = true ∧ Q (.leaf (.bl (isNameD d))) n
def gw : D → Bool
  | .tup ds => decide (ds.length ≤ 1000) && ds.all gv
  | d => gv d
def sp_is_word : SpD := fun ds n Q _ => ∃ d : D, ds = [d] ∧ gw d = true ∧ Q (.leaf (.bl (isWordD d))) n
def gx : D → Bool
  | .tup ds => decide (ds.length ≤ 1000) && (ds.all gv && okds 59 ds)
  | d => gv d
def sp__law_is_word : SpD := fun ds n Q _ => ∃ d : D, ds = [d] ∧ gx d = true ∧ Q (.leaf (.bl (isWordD d))) n
def lenD (xs : List D) : D := .tup [.int xs.length, .tup xs]
def sp_length_first : SpD := fun ds n Q _ => ∃ (d : D) (xs : List D), ds = [d] ∧ seqO (.leaf d) = some xs ∧ Q (.leaf (lenD xs)) n
def sp__law_before : SpD := fun ds n Q _ => ∃ xs : List D, ds = [.tup xs] ∧ Q (.leaf (lenD xs)) n
def sp_is_before : SpD := fun ds n Q _ => ∃ (d e : D) (xs ys : List Str), ds = [d, e] ∧ seqO (.leaf d) = some (xs.map .str) ∧ seqO (.leaf e) = some (ys.map .str) ∧ (∀ x ∈ xs, PyData.strOk x = true) ∧ (∀ x ∈ ys, PyData.strOk x = true) ∧ Q (.leaf (.bl (ltD (lenD (xs.map .str)) (lenD (ys.map .str))))) n
def textOf (xs : List Str) : Str := if xs = [] then "_" else Txt.join " " xs
def sp_word_text : SpD := fun ds n Q _ => ∃ (d : D) (xs : List Str), ds = [d] ∧ seqO (.leaf d) = some (xs.map .str) ∧ xs.length ≤ 10000 ∧ (∀ x ∈ xs, x.length ≤ 1000) ∧ Q (.leaf (.str (textOf xs))) n
def rowsOf (z : Str) : List D := (Txt.split z "\n").map fun l => .lst ((Txt.split l " ").map .str)
def bt (k l : Int) (X : XO) (n : Nat) : Prop := X "BadText" ["word", "line"] [.int k, .int l] n
def sp_rows_of : SpD := fun ds n Q X => ∃ d : D, ds = [d] ∧ gv d = true ∧ match d with
  | .str z => Q (.lst none (rowsOf z)) n
  | _ => bt 0 0 X n
abbrev fsC : List Str := ["rows", "line", "at"]
abbrev curO (rows : List D) (l a : Int) : List O := [.leaf (.lst rows), .leaf (.int l), .leaf (.int a)]
def sp_Cursor_init : SpM := fun fs os ds n Q _ => fs = [] ∧ os = [] ∧ ∃ rows : List D, ds = [.lst rows] ∧ Q (.leaf .non) fsC (curO rows 0 0) n
/-- what is seen -/
def seenD (rows : List D) (l a : Int) : D := match rows[l.toNat]? with
  | some (.lst row) => (row[a.toNat]?).getD .non
  | _ => .non
def curOk (rows : List D) (l a : Int) : Prop := 0 ≤ l ∧ 0 ≤ a ∧ rows.length ≤ 10000000 ∧ ∃ row, rows[l.toNat]? = some (.lst row) ∧ row.length ≤ 10000000 ∧ ∀ d ∈ row, ∃ z : Str, d = .str z ∧ z.length ≤ 1000000
def sp_Cursor_seen : SpM := fun fs os ds n Q _ => ∃ (rows : List D) (l a : Int), fs = fsC ∧ os = curO rows l a ∧ ds = [] ∧ curOk rows l a ∧ Q (.leaf (seenD rows l a)) fsC (curO rows l a) n
def btM (k l : Int) (X : XM) (fs : List Str) (os : List O) (n : Nat) : Prop := X "BadText" ["word", "line"] [.int k, .int l] fs os n
def sp_Cursor_refuse : SpM := fun fs os ds n _ X => ∃ (rows : List D) (l a : Int), fs = fsC ∧ os = curO rows l a ∧ ds = [] ∧ btM (a + 1) (l + 1) X fsC (curO rows l a) n
def sp_Cursor_take : SpM := fun fs os ds n Q X => ∃ (rows : List D) (l a : Int), fs = fsC ∧ os = curO rows l a ∧ ds = [.glb "is_name"] ∧ curOk rows l a ∧
  if isNameD (seenD rows l a) = true then Q (.leaf (seenD rows l a)) fsC (curO rows l (a + 1)) n else btM (a + 1) (l + 1) X fsC (curO rows l a) n
def sp_Cursor_goes_on : SpM := fun fs os ds n Q X => ∃ (rows : List D) (l a : Int) (e f : Bool), fs = fsC ∧ os = curO rows l a ∧ ds = [.bl e, .bl f] ∧ curOk rows l a ∧
  let last := decide (l + 1 = rows.length)
  if (!decide (seenD rows l a = .non) || (last && !e) || (!last && !f)) = true then btM (a + 1) (l + 1) X fsC (curO rows l a) n
  else if last = true then Q (.leaf (.bl false)) fsC (curO rows l a) n else Q (.leaf (.bl true)) fsC (curO rows (l + 1) 0) n
/-- the first wrong word of a text of a word -/
def badAt : List Str → Nat → Option Nat
  | [], _ => none
  | w :: r, k => if isNm w = true then badAt r (k + 1) else some k
def lineOf (z : Str) : List Str := Txt.split ((Txt.split z "\n").headD "") " "
def firstWrong (z : Str) : Option Nat :=
  if (lineOf z).head? = some "_" then (if (lineOf z).length = 1 ∧ (Txt.split z "\n").length = 1 then none else some 2)
  else match badAt (lineOf z) 1 with
    | some k => some k
    | none => if (Txt.split z "\n").length = 1 then none else some ((lineOf z).length + 1)
def wordOf (z : Str) : List Str := if (lineOf z).head? = some "_" then [] else lineOf z
def sp_word_read : SpD := fun ds n Q X => ∃ d : D, ds = [d] ∧ gv d = true ∧ match d with
  | .str z => z.length ≤ 100000 ∧ (match firstWrong z with
    | some k => bt k 1 X n
    | none => Q (.leaf (.tup ((wordOf z).map .str))) n)
  | _ => bt 0 0 X n
def sp__law_first_wrong : SpD := fun ds n Q _ => ∃ z : Str, ds = [.str z] ∧ z.length ≤ 100000 ∧ PyData.strOk z = true ∧ (match firstWrong z with
    | some k => Q (.lst none [.str "text", .int 1, .int k]) n
    | none => Q (.leaf .non) n)
/-! the law's draws -/
def small (n : Nat) : Prop := n < 2 ^ 39
def sp__law_pick : SpD := fun ds n Q _ => ∃ (d : D) (xs : List D), ds = [.pen, d] ∧ seqO (.leaf d) = some xs ∧ n < 2 ^ 40 ∧ 0 < xs.length ∧ xs.length < 1000 ∧ ∀ x ∈ xs, Q (.leaf x) (n + 1)
def sp__law_shuffled : SpD := fun ds n Q _ => ∃ (d : D) (xs : List D), ds = [.pen, d] ∧ seqO (.leaf d) = some xs ∧ n < 2 ^ 39 ∧ xs.length < 1000 ∧ ∀ ys : List D, ys.Perm xs → Q (.lst none ys) (n + xs.length)
def sp__law_name : SpD := fun ds n Q _ => ∃ i : Int, ds = [.pen, .int i] ∧ 0 ≤ i ∧ i < 10 ∧ n < 2 ^ 39 ∧ ∀ (z : Str) (n' : Nat), isNm z = true → n' ≤ n + 10 → Q (.leaf (.str z)) n'
def sp__law_names : SpD := fun ds n Q _ => ∃ m : Nat, ds = [.pen, .int m] ∧ m ≤ 6 ∧ n < 2 ^ 38 ∧ ∀ (zs : List Str) (n' : Nat), zs.length = m → (∀ z ∈ zs, isNm z = true) → n' ≤ n + 100 → Q (.lst none (zs.map .str)) n'
def sp__law_calls : SpD := fun ds n Q _ => ∃ m : Nat, ds = [.pen, .int m] ∧ m ≤ 6 ∧ n < 2 ^ 38 ∧ ∀ (zs : List Str) (n' : Nat), zs.length = m → (∀ z ∈ zs, isNm z = true) → n' ≤ n + 100 → Q (.leaf (.tup (zs.map .str))) n'
def sp__law_some_word : SpD := fun ds n Q _ => ∃ (zs : List Str) (m : Nat), ds = [.pen, .tup (zs.map .str), .int m] ∧ 0 < zs.length ∧ zs.length ≤ 6 ∧ m ≤ 12 ∧ n < 2 ^ 38 ∧ (∀ z ∈ zs, isNm z = true) ∧ ∀ (ws : List Str) (n' : Nat), ws.length ≤ m → (∀ z ∈ ws, isNm z = true) → n' ≤ n + 100 → Q (.leaf (.tup (ws.map .str))) n'
def sp__law_odd_name : SpD := fun ds n Q _ => ∃ z : Str, ds = [.pen, .str z] ∧ isNm z = true ∧ n < 2 ^ 38 ∧ ∀ d, gv d = true → okd 59 d = true → Q (.leaf d) (n + 1)
def sp__law_same : SpD := fun ds n Q _ => ∃ a b : Bool, ds = [.bl a, .bl b] ∧ Q (.leaf (.bl (a == b))) n
def sp__law_bent_words : SpD := fun ds n Q _ => ∃ (d e : D) (xs ys : List Str), ds = [.pen, d, e] ∧ seqO (.leaf d) = some (List.map D.str xs) ∧ lstO (.leaf d) ≠ none ∧ lstO (.leaf e) = some (List.map D.str ys) ∧ xs.length ≤ 20 ∧ ys.length ≤ 20 ∧ n < 2 ^ 38 ∧ (∀ x ∈ xs, x.length ≤ 100 ∧ PyData.strOk x = true) ∧ (∀ x ∈ ys, x.length ≤ 100 ∧ PyData.strOk x = true) ∧
  ∀ (ws : List Str) (n' : Nat), ws.length ≤ xs.length + 1 → (∀ x ∈ ws, x.length ≤ 100 ∧ PyData.strOk x = true) → n' ≤ n + 3 → Q (.lst none (ws.map .str)) n'

section
variable {P : Program} {w : World} {K : PySem.W.Frag} {mg : Str → Option Value} {base : Heap} {cl : Cl}
abbrev s_BadText : Stmt := inClass (top 3) 0
theorem sc_BadText : FnScope ["self", "line", "word"] ["self", "line", "word"] (defScope s_BadText) := ⟨rfl, rfl, rfl, by decide +kernel, rfl, by decide +kernel, by decide +kernel⟩
theorem xm_BadText {f C : Addr} {fd : FuncData} (F : Fun K "__init__" "BadText.__init__" s_BadText f fd) (T : OexC K C) (hm : mg "BadText" = some (.ref C)) (iC : PySem.W.findIn K (.ref C) "__init__" = some (some (.ref f))) (tI : PySem.W.typeIn K (.ref f) = some (.type "function")) (n1 : PySem.W.findIn K (.ref C) "line" = some none) (n2 : PySem.W.findIn K (.ref C) "word" = some none) : XMk P w K mg base "BadText" C ["line", "word"] :=
  ⟨T, hm, f, fd, _, iC, tI, okX2 F sc_BadText T n1 n2 (fun cdv A outer s H E => (pss_cons (ps_ost (pv 0) (pv 1)) (pss_one (ps_ost (pv 0) (pv 2))))), F.binds fun _ _ _ _ _ _ us hl => match us, hl with | [_, _, _], _ => rfl⟩

/-! is_name -/
abbrev s_is_name : Stmt := top 16
abbrev n_is_name : List Str := ["value", "sign"]
theorem sc_is_name : FnScope n_is_name ["value"] (defScope s_is_name) := ⟨rfl, rfl, rfl, by decide +kernel, rfl, by decide +kernel, by decide +kernel⟩
def t_is_name : TSd :=
    (dSeq (dIfS (dOr (dNot (dTest (dOp dIsi (dVar 0) (dC (.ty "str"))))) (dOr (dNot (dTest (dChain dLeI dLeI (dC (.int 1)) (dB1 dLen (dVar 0)) (dC (.int 12))))) (dTest (dOp dNotInSign (dOp dIx (dVar 0) (dC (.int 0))) (dC cd_LETTERS)))))
    (dRet (dC (.bl false)))
    dNext)
    (dRet (dB1 dAll (dLc (dIt (dVar 0)) (dgName 1) dYes (dOrV (dOp dInSign (dVar 1) (dC cd_LETTERS)) (dOp dInSign (dVar 1) (dC cd_FIGURES))) [1]))))
theorem d_is_name (T : Txt P w K mg base cl) {f : Addr} : ∀ (cdv : Value) (A : Around) (outer : List PySem.Env) (s : Shared) (H : Hp) (E : XK) (Ew : XSw), RoomG false 0 (cxB P w K mg base n_is_name "is_name" s_is_name f cdv A outer s H E).A → TakesW (cxB P w K mg base n_is_name "is_name" s_is_name f cdv A outer s H E) Ew → DSs (cxB P w K mg base n_is_name "is_name" s_is_name f cdv A outer s H E) Ew cl (defBody s_is_name) t_is_name :=
  fun cdv A outer s H E Ew hr tk =>
    have nd : n_is_name.Nodup := sc_is_name.nd
    (dss_cons (ds_if (DW.dt (dw_or (dt_not (dt_val (de_b2 cw_isi (rd_isi T.kb) (by rfl) T.b_isinstance (by decide +kernel) (de_var (wv 0)) (de_ty (by rfl) T.b_str (by decide +kernel))))) (dw_or (dt_not (dt_chain ow_leI rd_leI ow_leI rd_leI de_int (de_b1 cw_len rd_len (by rfl) T.b_len (by decide +kernel) (de_var (wv 0))) de_int)) (dw_or1 (dt_cmp ow_notInSign rd_notInSign (de_ix iw_seq rd_ix (de_var (wv 0)) de_int (fun _ _ => rfl)) (de_const T.c_LETTERS (by rfl) rdc_LETTERS) (by rfl))))))
    (dss_one (ds_ret de_bl))
    dss_nil)
    (dss_one (ds_ret (de_b1 (cw_all rfl) rd_all (by rfl) T.b_all (by decide +kernel) (de_lc (own := [("sign", 1)]) rfl nd (di_it (de_var (wv 0))) (blkOk_by (own := [("sign", 1)]) (N := n_is_name) (sc := defScope s_is_name) (by decide +kernel)) (gd_name (by decide)) (fun _ _ _ _ _ => (wgc_name (i := 1) (by decide) nd rfl (by first | exact .inl rfl | exact .inr rfl))) (fun _ _ _ _ _ => dts_nil) (fun _ _ _ _ _ => (de_or (de_cmp ow_inSign rd_inSign (de_var (wv 1)) (de_const T.c_LETTERS (by rfl) rdc_LETTERS) (by rfl)) (de_one (de_cmp ow_inSign rd_inSign (de_var (wv 1)) (de_const T.c_FIGURES (by rfl) rdc_FIGURES) (by rfl))))))))))

/-! is_word -/
abbrev s_is_word : Stmt := top 17
abbrev n_is_word : List Str := ["value", "call"]
theorem sc_is_word : FnScope n_is_word ["value"] (defScope s_is_word) := ⟨rfl, rfl, rfl, by decide +kernel, rfl, by decide +kernel, by decide +kernel⟩
def t_is_word : TSd :=
    (dRet (dAndV (dOp dIsi (dVar 0) (dC (.ty "tuple"))) (dB1 dAll (dLc (dIt (dVar 0)) (dgName 1) dYes (dCall (sp_is_name) [] (dCons (dVar 1) dNil)) [1]))))
theorem d_is_word (T : Txt P w K mg base cl) (C_is_name : Callee false P w K mg base 1 "is_name" ["value"] (spW cl (sp_is_name))) {f : Addr} : ∀ (cdv : Value) (A : Around) (outer : List PySem.Env) (s : Shared) (H : Hp) (E : XK) (Ew : XSw), RoomG false 1 (cxB P w K mg base n_is_word "is_word" s_is_word f cdv A outer s H E).A → TakesW (cxB P w K mg base n_is_word "is_word" s_is_word f cdv A outer s H E) Ew → DSs (cxB P w K mg base n_is_word "is_word" s_is_word f cdv A outer s H E) Ew cl (defBody s_is_word) t_is_word :=
  fun cdv A outer s H E Ew hr tk =>
    have nd : n_is_word.Nodup := sc_is_word.nd
    (dss_one (ds_ret (de_and (de_b2 cw_isi (rd_isi T.kb) (by rfl) T.b_isinstance (by decide +kernel) (de_var (wv 0)) (de_ty (by rfl) T.b_tuple (by decide +kernel))) (de_one (de_b1 (cw_all rfl) rd_all (by rfl) T.b_all (by decide +kernel) (de_lc (own := [("call", 1)]) rfl nd (di_it (de_var (wv 0))) (blkOk_by (own := [("call", 1)]) (N := n_is_word) (sc := defScope s_is_word) (by decide +kernel)) (gd_name (by decide)) (fun _ _ _ _ _ => (wgc_name (i := 1) (by decide) nd rfl (by first | exact .inl rfl | exact .inr rfl))) (fun _ _ _ _ _ => dts_nil) (fun _ _ _ _ _ => (de_callN C_is_name (hr.mono (by decide)) (by rfl) (da_cons (de_var (wv 1)) da_nil)))))))))

/-! length_first -/
abbrev s_length_first : Stmt := top 18
abbrev n_length_first : List Str := ["word"]
theorem sc_length_first : FnScope n_length_first ["word"] (defScope s_length_first) := ⟨rfl, rfl, rfl, by decide +kernel, rfl, by decide +kernel, by decide +kernel⟩
def t_length_first : TSd :=
    (dRet (dTup (dCons (dB1 dLen (dVar 0)) (dCons (dB1 dTupleOf (dVar 0)) dNil))))
theorem d_length_first (T : Txt P w K mg base cl) {f : Addr} : ∀ (cdv : Value) (A : Around) (outer : List PySem.Env) (s : Shared) (H : Hp) (E : XK) (Ew : XSw), RoomG false 0 (cxB P w K mg base n_length_first "length_first" s_length_first f cdv A outer s H E).A → TakesW (cxB P w K mg base n_length_first "length_first" s_length_first f cdv A outer s H E) Ew → DSs (cxB P w K mg base n_length_first "length_first" s_length_first f cdv A outer s H E) Ew cl (defBody s_length_first) t_length_first :=
  fun cdv A outer s H E Ew hr tk =>
    have nd : n_length_first.Nodup := sc_length_first.nd
    (dss_one (ds_ret (de_tup (da_cons (de_b1 cw_len rd_len (by rfl) T.b_len (by decide +kernel) (de_var (wv 0))) (da_cons (de_t1 cw_tupleK rd_tuple (by rfl) T.b_tuple (by decide +kernel) (de_var (wv 0))) da_nil)))))

/-! is_before -/
abbrev s_is_before : Stmt := top 19
abbrev n_is_before : List Str := ["word", "other"]
theorem sc_is_before : FnScope n_is_before ["word", "other"] (defScope s_is_before) := ⟨rfl, rfl, rfl, by decide +kernel, rfl, by decide +kernel, by decide +kernel⟩
def t_is_before : TSd :=
    (dRet (dOp dLt (dCall (sp_length_first) [] (dCons (dVar 0) dNil)) (dCall (sp_length_first) [] (dCons (dVar 1) dNil))))
theorem d_is_before (T : Txt P w K mg base cl) (C_length_first : Callee false P w K mg base 1 "length_first" ["word"] (spW cl (sp_length_first))) {f : Addr} : ∀ (cdv : Value) (A : Around) (outer : List PySem.Env) (s : Shared) (H : Hp) (E : XK) (Ew : XSw), RoomG false 1 (cxB P w K mg base n_is_before "is_before" s_is_before f cdv A outer s H E).A → TakesW (cxB P w K mg base n_is_before "is_before" s_is_before f cdv A outer s H E) Ew → DSs (cxB P w K mg base n_is_before "is_before" s_is_before f cdv A outer s H E) Ew cl (defBody s_is_before) t_is_before :=
  fun cdv A outer s H E Ew hr tk =>
    have nd : n_is_before.Nodup := sc_is_before.nd
    (dss_one (ds_ret (de_cmp (ow_ltD hr.units) rd_lt (de_call C_length_first tk (hr.mono (by decide)) (by rfl) (da_cons (de_var (wv 0)) da_nil)) (de_call C_length_first tk (hr.mono (by decide)) (by rfl) (da_cons (de_var (wv 1)) da_nil)) (nomark _))))

/-! word_text -/
abbrev s_word_text : Stmt := top 20
abbrev n_word_text : List Str := ["word"]
theorem sc_word_text : FnScope n_word_text ["word"] (defScope s_word_text) := ⟨rfl, rfl, rfl, by decide +kernel, rfl, by decide +kernel, by decide +kernel⟩
def t_word_text : TSd :=
    (dRet (dIf (dTest (dOp dEq (dB1 dLen (dVar 0)) (dC (.int 0)))) (dC cd_EMPTY) (dMS dJoin (dC (.str " ")) (dVar 0))))
theorem d_word_text (T : Txt P w K mg base cl) {f : Addr} : ∀ (cdv : Value) (A : Around) (outer : List PySem.Env) (s : Shared) (H : Hp) (E : XK) (Ew : XSw), RoomG false 0 (cxB P w K mg base n_word_text "word_text" s_word_text f cdv A outer s H E).A → TakesW (cxB P w K mg base n_word_text "word_text" s_word_text f cdv A outer s H E) Ew → DSs (cxB P w K mg base n_word_text "word_text" s_word_text f cdv A outer s H E) Ew cl (defBody s_word_text) t_word_text :=
  fun cdv A outer s H E Ew hr tk =>
    have nd : n_word_text.Nodup := sc_word_text.nd
    (dss_one (ds_ret (de_if (dt_cmp (ow_eqB hr.units) rd_eq (de_b1 cw_len rd_len (by rfl) T.b_len (by decide +kernel) (de_var (wv 0))) de_int (nomark _)) (de_const T.c_EMPTY (by rfl) rdc_EMPTY) (de_ms PySem.F.slot_str_join PySem.F.type_str_join mw_join rd_join de_str (de_var (wv 0))))))

/-! rows_of -/
abbrev s_rows_of : Stmt := top 11
abbrev n_rows_of : List Str := ["text", "line"]
theorem sc_rows_of : FnScope n_rows_of ["text"] (defScope s_rows_of) := ⟨rfl, rfl, rfl, by decide +kernel, rfl, by decide +kernel, by decide +kernel⟩
def t_rows_of : TSd :=
    (dSeq (dIfS (dNot (dTest (dOp dIsi (dVar 0) (dC (.ty "str")))))
    (dRaise "BadText" ["line", "word"] (dCons (dC (.int 0)) (dCons (dC (.int 0)) dNil)))
    dNext)
    (dRet (dLc (dIt (dMS dSplit (dVar 0) (dC (.str "\n")))) (dgName 1) dYes (dMS dSplit (dVar 1) (dC (.str " "))) [1])))
theorem d_rows_of (T : Txt P w K mg base cl) {f : Addr} : ∀ (cdv : Value) (A : Around) (outer : List PySem.Env) (s : Shared) (H : Hp) (E : XK) (Ew : XSw), RoomG false 2 (cxB P w K mg base n_rows_of "rows_of" s_rows_of f cdv A outer s H E).A → TakesW (cxB P w K mg base n_rows_of "rows_of" s_rows_of f cdv A outer s H E) Ew → DSs (cxB P w K mg base n_rows_of "rows_of" s_rows_of f cdv A outer s H E) Ew cl (defBody s_rows_of) t_rows_of :=
  fun cdv A outer s H E Ew hr tk =>
    have nd : n_rows_of.Nodup := sc_rows_of.nd
    (dss_cons (ds_if (dt_not (dt_val (de_b2 cw_isi (rd_isi T.kb) (by rfl) T.b_isinstance (by decide +kernel) (de_var (wv 0)) (de_ty (by rfl) T.b_str (by decide +kernel)))))
    (dss_one (ds_raise tk rfl T.x_BadText (hr.mono (by decide)) (by rfl) (da_cons de_int (da_cons de_int da_nil))))
    dss_nil)
    (dss_one (ds_ret (de_lc (own := [("line", 1)]) rfl nd (di_it (de_ms PySem.F.slot_str_split PySem.F.type_str_split mw_split rd_split (de_var (wv 0)) de_str)) (blkOk_by (own := [("line", 1)]) (N := n_rows_of) (sc := defScope s_rows_of) (by decide +kernel)) (gd_name (by decide)) (fun _ _ _ _ _ => (wgc_name (i := 1) (by decide) nd rfl (by first | exact .inl rfl | exact .inr rfl))) (fun _ _ _ _ _ => dts_nil) (fun _ _ _ _ _ => (de_ms PySem.F.slot_str_split PySem.F.type_str_split mw_split rd_split (de_var (wv 1)) de_str))))))

/-! Cursor.__init__ -/
abbrev s_Cursor_init : Stmt := inClass (top 12) 0
abbrev n_Cursor_init : List Str := ["self", "rows"]
theorem sc_Cursor_init : FnScope n_Cursor_init ["self", "rows"] (defScope s_Cursor_init) := ⟨rfl, rfl, rfl, by decide +kernel, rfl, by decide +kernel, by decide +kernel⟩
def t_Cursor_init : TSd :=
    (dSeq (dSetFld "rows" ["Cursor"] 0 (dVar 1))
    (dSeq (dSetFld "line" ["Cursor"] 0 (dC (.int 0)))
    (dSetFld "at" ["Cursor"] 0 (dC (.int 0)))))
theorem d_Cursor_init (T : Txt P w K mg base cl) {f : Addr} : ∀ (cdv : Value) (A : Around) (outer : List PySem.Env) (s : Shared) (H : Hp) (E : XK) (Ew : XSw), RoomG false 0 (cxB P w K mg base n_Cursor_init "Cursor.__init__" s_Cursor_init f cdv A outer s H E).A → TakesW (cxB P w K mg base n_Cursor_init "Cursor.__init__" s_Cursor_init f cdv A outer s H E) Ew → DSs (cxB P w K mg base n_Cursor_init "Cursor.__init__" s_Cursor_init f cdv A outer s H E) Ew cl (defBody s_Cursor_init) t_Cursor_init :=
  fun cdv A outer s H E Ew hr tk =>
    have nd : n_Cursor_init.Nodup := sc_Cursor_init.nd
    (dss_cons (ds_setFld T.f_rows (wv 0) (de_var (wv 1)))
    (dss_cons (ds_setFld T.f_line (wv 0) de_int)
    (dss_one (ds_setFld T.f_at (wv 0) de_int))))

/-! Cursor.seen -/
abbrev s_Cursor_seen : Stmt := inClass (top 12) 1
abbrev n_Cursor_seen : List Str := ["self", "row"]
theorem sc_Cursor_seen : FnScope n_Cursor_seen ["self"] (defScope s_Cursor_seen) := ⟨rfl, rfl, rfl, by decide +kernel, rfl, by decide +kernel, by decide +kernel⟩
def t_Cursor_seen : TSd :=
    (dSeq (dSet 1 (dOp dIx (dFld "rows" ["Cursor"] (dVar 0)) (dFld "line" ["Cursor"] (dVar 0))))
    (dRet (dIf (dTest (dOp dLtI (dFld "at" ["Cursor"] (dVar 0)) (dB1 dLen (dVar 1)))) (dOp dIx (dVar 1) (dFld "at" ["Cursor"] (dVar 0))) (dC .non))))
theorem d_Cursor_seen (T : Txt P w K mg base cl) {f : Addr} : ∀ (cdv : Value) (A : Around) (outer : List PySem.Env) (s : Shared) (H : Hp) (E : XK) (Ew : XSw), RoomG false 0 (cxB P w K mg base n_Cursor_seen "Cursor.seen" s_Cursor_seen f cdv A outer s H E).A → TakesW (cxB P w K mg base n_Cursor_seen "Cursor.seen" s_Cursor_seen f cdv A outer s H E) Ew → DSs (cxB P w K mg base n_Cursor_seen "Cursor.seen" s_Cursor_seen f cdv A outer s H E) Ew cl (defBody s_Cursor_seen) t_Cursor_seen :=
  fun cdv A outer s H E Ew hr tk =>
    have nd : n_Cursor_seen.Nodup := sc_Cursor_seen.nd
    (dss_cons (ds_set (i := 1) nd rfl (by first | exact .inl rfl | exact .inr rfl) (de_ix iw_seq rd_ix (de_fld T.f_rows (de_var (wv 0))) (de_fld T.f_line (de_var (wv 0))) (fun _ _ => rfl)))
    (dss_one (ds_ret (de_if (dt_cmp ow_ltI rd_ltI (de_fld T.f_at (de_var (wv 0))) (de_b1 cw_len rd_len (by rfl) T.b_len (by decide +kernel) (de_var (wv 1))) (nomark _)) (de_ix iw_seq rd_ix (de_var (wv 1)) (de_fld T.f_at (de_var (wv 0))) (fun _ _ => rfl)) de_non))))

/-! Cursor.refuse -/
abbrev s_Cursor_refuse : Stmt := inClass (top 12) 2
abbrev n_Cursor_refuse : List Str := ["self"]
theorem sc_Cursor_refuse : FnScope n_Cursor_refuse ["self"] (defScope s_Cursor_refuse) := ⟨rfl, rfl, rfl, by decide +kernel, rfl, by decide +kernel, by decide +kernel⟩
def t_Cursor_refuse : TSd :=
    (dRaise "BadText" ["line", "word"] (dCons (dOp dAdd (dFld "line" ["Cursor"] (dVar 0)) (dC (.int 1))) (dCons (dOp dAdd (dFld "at" ["Cursor"] (dVar 0)) (dC (.int 1))) dNil)))
theorem d_Cursor_refuse (T : Txt P w K mg base cl) {f : Addr} : ∀ (cdv : Value) (A : Around) (outer : List PySem.Env) (s : Shared) (H : Hp) (E : XK) (Ew : XSw), RoomG false 2 (cxB P w K mg base n_Cursor_refuse "Cursor.refuse" s_Cursor_refuse f cdv A outer s H E).A → TakesW (cxB P w K mg base n_Cursor_refuse "Cursor.refuse" s_Cursor_refuse f cdv A outer s H E) Ew → DSs (cxB P w K mg base n_Cursor_refuse "Cursor.refuse" s_Cursor_refuse f cdv A outer s H E) Ew cl (defBody s_Cursor_refuse) t_Cursor_refuse :=
  fun cdv A outer s H E Ew hr tk =>
    have nd : n_Cursor_refuse.Nodup := sc_Cursor_refuse.nd
    (dss_one (ds_raise tk rfl T.x_BadText (hr.mono (by decide)) (by rfl) (da_cons (de_op ow_addAll rd_add (de_fld T.f_line (de_var (wv 0))) de_int) (da_cons (de_op ow_addAll rd_add (de_fld T.f_at (de_var (wv 0))) de_int) da_nil))))

/-! Cursor.take -/
abbrev s_Cursor_take : Stmt := inClass (top 12) 3
abbrev n_Cursor_take : List Str := ["self", "is_right", "word"]
theorem sc_Cursor_take : FnScope n_Cursor_take ["self", "is_right"] (defScope s_Cursor_take) := ⟨rfl, rfl, rfl, by decide +kernel, rfl, by decide +kernel, by decide +kernel⟩
def t_Cursor_take : TSd :=
    (dSeq (dSet 2 (dMethO "Cursor" "seen" (sp_Cursor_seen) (dVar 0) dNil))
    (dSeq (dIfS (dOr (dTest (dOp (dIsN false) (dVar 2) (dC .non))) (dNot (dTest (dCallV 1 [("is_name", sp_is_name)] (dCons (dVar 2) dNil)))))
    (dDrop (dMethO "Cursor" "refuse" (sp_Cursor_refuse) (dVar 0) dNil))
    dNext)
    (dSeq (dAugFld "at" ["Cursor"] 0 (· + ·) (dC (.int 1)))
    (dRet (dVar 2)))))
theorem d_Cursor_take (T : Txt P w K mg base cl) (C_is_name : Callee false P w K mg base 1 "is_name" ["value"] (spW cl (sp_is_name))) (M_Cursor_refuse : CMt false P w K mg base 3 (cl "Cursor") "refuse" (spWM cl "Cursor" (sp_Cursor_refuse))) (M_Cursor_seen : CMt false P w K mg base 1 (cl "Cursor") "seen" (spWM cl "Cursor" (sp_Cursor_seen))) {f : Addr} : ∀ (cdv : Value) (A : Around) (outer : List PySem.Env) (s : Shared) (H : Hp) (E : XK) (Ew : XSw), RoomG false 3 (cxB P w K mg base n_Cursor_take "Cursor.take" s_Cursor_take f cdv A outer s H E).A → TakesW (cxB P w K mg base n_Cursor_take "Cursor.take" s_Cursor_take f cdv A outer s H E) Ew → DSs (cxB P w K mg base n_Cursor_take "Cursor.take" s_Cursor_take f cdv A outer s H E) Ew cl (defBody s_Cursor_take) t_Cursor_take :=
  fun cdv A outer s H E Ew hr tk =>
    have nd : n_Cursor_take.Nodup := sc_Cursor_take.nd
    (dss_cons (ds_set (i := 2) nd rfl (by first | exact .inl rfl | exact .inr rfl) (de_methO0_of (we_meth0X tk M_Cursor_seen (hr.mono (by decide)) (de_var (wv 0)))))
    (dss_cons (ds_if (DW.dt (dw_or (dt_cmp ow_isN rd_isN (de_var (wv 2)) de_non (nomark _)) (dw_or1 (dt_not (dt_val (de_callV (i := 1) (xs := [("is_name", sp_is_name)]) (List.forall_mem_cons.mpr ⟨⟨C_is_name, T.m_is_name⟩, List.forall_mem_nil _⟩) tk (hr.mono (by decide)) rfl (by first | exact Or.inl rfl | exact Or.inr (Or.inl rfl) | exact Or.inr (Or.inr rfl)) (da_cons (de_var (wv 2)) da_nil)))))))
    (dss_one (ds_expr (de_methO0_of (we_meth0X tk M_Cursor_refuse (hr.mono (by decide)) (de_var (wv 0))))))
    dss_nil)
    (dss_cons (ds_augFld T.f_at (wv 0) de_int in_addI)
    (dss_one (ds_ret (de_var (wv 2)))))))

/-! Cursor.goes_on -/
abbrev s_Cursor_goes_on : Stmt := inClass (top 12) 6
abbrev n_Cursor_goes_on : List Str := ["self", "may_end", "may_follow", "is_last"]
theorem sc_Cursor_goes_on : FnScope n_Cursor_goes_on ["self", "may_end", "may_follow"] (defScope s_Cursor_goes_on) := ⟨rfl, rfl, rfl, by decide +kernel, rfl, by decide +kernel, by decide +kernel⟩
def t_Cursor_goes_on : TSd :=
    (dSeq (dSet 3 (dOp dEq (dOp dAdd (dFld "line" ["Cursor"] (dVar 0)) (dC (.int 1))) (dB1 dLen (dFld "rows" ["Cursor"] (dVar 0)))))
    (dSeq (dIfS (dOr (dTest (dOp (dIsN true) (dMethO "Cursor" "seen" (sp_Cursor_seen) (dVar 0) dNil) (dC .non))) (dOr (dAnd (dTest (dVar 3)) (dNot (dTest (dVar 1)))) (dAnd (dNot (dTest (dVar 3))) (dNot (dTest (dVar 2))))))
    (dDrop (dMethO "Cursor" "refuse" (sp_Cursor_refuse) (dVar 0) dNil))
    dNext)
    (dSeq (dIfS (dTest (dVar 3))
    (dRet (dC (.bl false)))
    dNext)
    (dSeq (dAugFld "line" ["Cursor"] 0 (· + ·) (dC (.int 1)))
    (dSeq (dSetFld "at" ["Cursor"] 0 (dC (.int 0)))
    (dRet (dC (.bl true))))))))
theorem d_Cursor_goes_on (T : Txt P w K mg base cl) (M_Cursor_refuse : CMt false P w K mg base 3 (cl "Cursor") "refuse" (spWM cl "Cursor" (sp_Cursor_refuse))) (M_Cursor_seen : CMt false P w K mg base 1 (cl "Cursor") "seen" (spWM cl "Cursor" (sp_Cursor_seen))) {f : Addr} : ∀ (cdv : Value) (A : Around) (outer : List PySem.Env) (s : Shared) (H : Hp) (E : XK) (Ew : XSw), RoomG false 3 (cxB P w K mg base n_Cursor_goes_on "Cursor.goes_on" s_Cursor_goes_on f cdv A outer s H E).A → TakesW (cxB P w K mg base n_Cursor_goes_on "Cursor.goes_on" s_Cursor_goes_on f cdv A outer s H E) Ew → DSs (cxB P w K mg base n_Cursor_goes_on "Cursor.goes_on" s_Cursor_goes_on f cdv A outer s H E) Ew cl (defBody s_Cursor_goes_on) t_Cursor_goes_on :=
  fun cdv A outer s H E Ew hr tk =>
    have nd : n_Cursor_goes_on.Nodup := sc_Cursor_goes_on.nd
    (dss_cons (ds_set (i := 3) nd rfl (by first | exact .inl rfl | exact .inr rfl) (de_cmp (ow_eqB hr.units) rd_eq (de_op ow_addAll rd_add (de_fld T.f_line (de_var (wv 0))) de_int) (de_b1 cw_len rd_len (by rfl) T.b_len (by decide +kernel) (de_fld T.f_rows (de_var (wv 0)))) (nomark _)))
    (dss_cons (ds_if (DW.dt (dw_or (dt_cmp ow_notN rd_notN (de_methO0_of (we_meth0X tk M_Cursor_seen (hr.mono (by decide)) (de_var (wv 0)))) de_non (nomark _)) (dw_or (DW.dt (dw_and (dt_val (de_var (wv 3))) (dw_and1 (dt_not (dt_val (de_var (wv 1))))))) (dw_or1 (DW.dt (dw_and (dt_not (dt_val (de_var (wv 3)))) (dw_and1 (dt_not (dt_val (de_var (wv 2)))))))))))
    (dss_one (ds_expr (de_methO0_of (we_meth0X tk M_Cursor_refuse (hr.mono (by decide)) (de_var (wv 0))))))
    dss_nil)
    (dss_cons (ds_if (dt_val (de_var (wv 3)))
    (dss_one (ds_ret de_bl))
    dss_nil)
    (dss_cons (ds_augFld T.f_line (wv 0) de_int in_addI)
    (dss_cons (ds_setFld T.f_at (wv 0) de_int)
    (dss_one (ds_ret de_bl)))))))

/-! word_read -/
abbrev s_word_read : Stmt := top 21
abbrev n_word_read : List Str := ["text", "cursor", "found"]
theorem sc_word_read : FnScope n_word_read ["text"] (defScope s_word_read) := ⟨rfl, rfl, rfl, by decide +kernel, rfl, by decide +kernel, by decide +kernel⟩
def t_word_read : TSd :=
    (dSeq (dPar [1, 2] (dConsO (dMake "Cursor" (sp_Cursor_init) (dCons (dCall (sp_rows_of) [] (dCons (dVar 0) dNil)) dNil)) (dConsO (dLst dNil) dNilO)))
    (dSeq (dIfS (dTest (dOp dEq (dMethO "Cursor" "seen" (sp_Cursor_seen) (dVar 1) dNil) (dC cd_EMPTY)))
    (dSetFld "at" ["Cursor"] 1 (dC (.int 1)))
    (dSeq (dDrop (dMut fAppend (dVar 2) (dMethO "Cursor" "take" (sp_Cursor_take) (dVar 1) (dCons (dC (.glb "is_name")) dNil))))
    (dWhile (dTest (dOp (dIsN true) (dMethO "Cursor" "seen" (sp_Cursor_seen) (dVar 1) dNil) (dC .non)))
    (dDrop (dMut fAppend (dVar 2) (dMethO "Cursor" "take" (sp_Cursor_take) (dVar 1) (dCons (dC (.glb "is_name")) dNil)))))))
    (dSeq (dDrop (dMethO "Cursor" "goes_on" (sp_Cursor_goes_on) (dVar 1) (dCons (dC (.bl true)) (dCons (dC (.bl false)) dNil))))
    (dRet (dB1 dTupleOf (dVar 2))))))
theorem d_word_read (T : Txt P w K mg base cl) (C_rows_of : Callee false P w K mg base 3 "rows_of" ["text"] (spW cl (sp_rows_of))) (K_Cursor : CMk P w K mg base 1 "Cursor" (cl "Cursor") (spWM cl "Cursor" (sp_Cursor_init))) (M_Cursor_goes_on : CMt false P w K mg base 4 (cl "Cursor") "goes_on" (spWM cl "Cursor" (sp_Cursor_goes_on))) (M_Cursor_seen : CMt false P w K mg base 1 (cl "Cursor") "seen" (spWM cl "Cursor" (sp_Cursor_seen))) (M_Cursor_take : CMt false P w K mg base 4 (cl "Cursor") "take" (spWM cl "Cursor" (sp_Cursor_take))) {f : Addr} : ∀ (cdv : Value) (A : Around) (outer : List PySem.Env) (s : Shared) (H : Hp) (E : XK) (Ew : XSw), RoomG false 4 (cxB P w K mg base n_word_read "word_read" s_word_read f cdv A outer s H E).A → TakesW (cxB P w K mg base n_word_read "word_read" s_word_read f cdv A outer s H E) Ew → DSs (cxB P w K mg base n_word_read "word_read" s_word_read f cdv A outer s H E) Ew cl (defBody s_word_read) t_word_read :=
  fun cdv A outer s H E Ew hr tk =>
    have nd : n_word_read.Nodup := sc_word_read.nd
    (dss_cons (ds_par2 (i := 1) (j := 2) rfl nd rfl rfl (by decide) rfl rfl (dao_cons (de_make_of (we_makeX tk K_Cursor (hr.mono (by decide)) (by rfl) (da_cons (de_call C_rows_of tk (hr.mono (by decide)) (by rfl) (da_cons (de_var (wv 0)) da_nil)) da_nil))) (dao_cons (de_lst da_nil) dao_nil)) (by rfl))
    (dss_cons (ds_if (dt_cmp (ow_eqB hr.units) rd_eq (de_methO0_of (we_meth0X tk M_Cursor_seen (hr.mono (by decide)) (de_var (wv 1)))) (de_const T.c_EMPTY (by rfl) rdc_EMPTY) (nomark _))
    (dss_one (ds_setFld T.f_at (wv 1) de_int))
    (dss_cons (ds_expr (de_mut PySem.F.slot_list_append PySem.F.type_list_append mw_append mu_append (de_var (wv 2)) (de_methO_of (we_methX tk M_Cursor_take (hr.mono (by decide)) (de_var (wv 1)) (da_cons (de_glb (by rfl) T.m_is_name) da_nil)))))
    (dss_one (ds_while PassesOwn.leaving (dt_cmp ow_notN rd_notN (de_methO0_of (we_meth0X tk M_Cursor_seen (hr.mono (by decide)) (de_var (wv 1)))) de_non (nomark _))
    (dss_one (ds_expr (de_mut PySem.F.slot_list_append PySem.F.type_list_append mw_append mu_append (de_var (wv 2)) (de_methO_of (we_methX tk M_Cursor_take (hr.mono (by decide)) (de_var (wv 1)) (da_cons (de_glb (by rfl) T.m_is_name) da_nil))))))))))
    (dss_cons (ds_expr (de_methO_of (we_methX tk M_Cursor_goes_on (hr.mono (by decide)) (de_var (wv 1)) (da_cons de_bl (da_cons de_bl da_nil)))))
    (dss_one (ds_ret (de_t1 cw_tupleK rd_tuple (by rfl) T.b_tuple (by decide +kernel) (de_var (wv 2))))))))

/-! _law_pick -/
abbrev s__law_pick : Stmt := top 25
abbrev n__law_pick : List Str := ["pen", "some"]
theorem sc__law_pick : FnScope n__law_pick ["pen", "some"] (defScope s__law_pick) := ⟨rfl, rfl, rfl, by decide +kernel, rfl, by decide +kernel, by decide +kernel⟩
def t__law_pick : TSd :=
    (dRet (dOp dIx (dVar 1) (dCall (sp__law_draw) [] (dCons (dVar 0) (dCons (dB1 dLen (dVar 1)) dNil)))))
theorem d__law_pick (T : Txt P w K mg base cl) (C__law_draw : Callee false P w K mg base 1 "_law_draw" ["pen", "many"] (spW cl (sp__law_draw))) {f : Addr} : ∀ (cdv : Value) (A : Around) (outer : List PySem.Env) (s : Shared) (H : Hp) (E : XK) (Ew : XSw), RoomG false 1 (cxB P w K mg base n__law_pick "_law_pick" s__law_pick f cdv A outer s H E).A → TakesW (cxB P w K mg base n__law_pick "_law_pick" s__law_pick f cdv A outer s H E) Ew → DSs (cxB P w K mg base n__law_pick "_law_pick" s__law_pick f cdv A outer s H E) Ew cl (defBody s__law_pick) t__law_pick :=
  fun cdv A outer s H E Ew hr tk =>
    have nd : n__law_pick.Nodup := sc__law_pick.nd
    (dss_one (ds_ret (de_ix iw_seq rd_ix (de_var (wv 1)) (de_call C__law_draw tk (hr.mono (by decide)) (by rfl) (da_cons (de_var (wv 0)) (da_cons (de_b1 cw_len rd_len (by rfl) T.b_len (by decide +kernel) (de_var (wv 1))) da_nil))) (fun _ _ => rfl))))

/-! _law_shuffled -/
abbrev s__law_shuffled : Stmt := top 26
abbrev n__law_shuffled : List Str := ["pen", "some", "left", "found", "lap"]
theorem sc__law_shuffled : FnScope n__law_shuffled ["pen", "some"] (defScope s__law_shuffled) := ⟨rfl, rfl, rfl, by decide +kernel, rfl, by decide +kernel, by decide +kernel⟩
def t__law_shuffled : TSd :=
    (dSeq (dPar [2, 3] (dConsO (dB1 dListOf (dVar 1)) (dConsO (dLst dNil) dNilO)))
    (dSeq (dFor (dRng1 (dCons (dB1 dLen (dVar 1)) dNil)) (dgName 4)
    (dDrop (dMut fAppend (dVar 3) (dMut fPopAt (dVar 2) (dCall (sp__law_draw) [] (dCons (dVar 0) (dCons (dB1 dLen (dVar 2)) dNil)))))))
    (dRet (dVar 3))))
theorem d__law_shuffled (T : Txt P w K mg base cl) (C__law_draw : Callee false P w K mg base 1 "_law_draw" ["pen", "many"] (spW cl (sp__law_draw))) {f : Addr} : ∀ (cdv : Value) (A : Around) (outer : List PySem.Env) (s : Shared) (H : Hp) (E : XK) (Ew : XSw), RoomG false 1 (cxB P w K mg base n__law_shuffled "_law_shuffled" s__law_shuffled f cdv A outer s H E).A → TakesW (cxB P w K mg base n__law_shuffled "_law_shuffled" s__law_shuffled f cdv A outer s H E) Ew → DSs (cxB P w K mg base n__law_shuffled "_law_shuffled" s__law_shuffled f cdv A outer s H E) Ew cl (defBody s__law_shuffled) t__law_shuffled :=
  fun cdv A outer s H E Ew hr tk =>
    have nd : n__law_shuffled.Nodup := sc__law_shuffled.nd
    (dss_cons (ds_par2 (i := 2) (j := 3) rfl nd rfl rfl (by decide) rfl rfl (dao_cons (de_t1 cw_list rd_list (by rfl) T.b_list (by decide +kernel) (de_var (wv 1))) (dao_cons (de_lst da_nil) dao_nil)) (by rfl))
    (dss_cons (ds_for (vs := [4]) PassesOwn.leaving rfl (di_range1 (by rfl) T.b_range (da_cons (de_b1 cw_len rd_len (by rfl) T.b_len (by decide +kernel) (de_var (wv 1))) da_nil)) (wg_name (i := 4) nd rfl (by first | exact .inl rfl | exact .inr rfl)) (gd_name (by decide))
    (dss_one (ds_expr (de_mut PySem.F.slot_list_append PySem.F.type_list_append mw_append mu_append (de_var (wv 3)) (de_mut PySem.F.slot_list_pop PySem.F.type_list_pop mw_popAt mu_popAt (de_var (wv 2)) (de_call C__law_draw tk (hr.mono (by decide)) (by rfl) (da_cons (de_var (wv 0)) (da_cons (de_b1 cw_len rd_len (by rfl) T.b_len (by decide +kernel) (de_var (wv 2))) da_nil))))))))
    (dss_one (ds_ret (de_var (wv 3))))))

/-! _law_name -/
abbrev s__law_name : Stmt := top 27
abbrev n__law_name : List Str := ["pen", "index", "word", "spot", "place"]
theorem sc__law_name : FnScope n__law_name ["pen", "index"] (defScope s__law_name) := ⟨rfl, rfl, rfl, by decide +kernel, rfl, by decide +kernel, by decide +kernel⟩
def t__law_name : TSd :=
    (dSeq (dSet 2 (dC (.str "")))
    (dSeq (dFor (dRng1 (dCons (dOp dAdd (dC (.int 1)) (dCall (sp__law_draw) [] (dCons (dVar 0) (dCons (dC (.int 8)) dNil)))) dNil)) (dgName 3)
    (dSet 2 (dOp dAdd (dVar 2) (dOp dIx (dC (.str "abcdefghijklmnopqrstuvwxyz")) (dCall (sp__law_draw) [] (dCons (dVar 0) (dCons (dC (.int 26)) dNil)))))))
    (dSeq (dSet 4 (dOp dAdd (dC (.int 1)) (dCall (sp__law_draw) [] (dCons (dVar 0) (dCons (dB1 dLen (dVar 2)) dNil)))))
    (dRet (dOp dAdd (dOp dAdd (dSl (dVar 2) dNoPart (dPart (dVar 4))) (dB1 dStrInt (dVar 1))) (dSl (dVar 2) (dPart (dVar 4)) dNoPart))))))
theorem d__law_name (T : Txt P w K mg base cl) (C__law_draw : Callee false P w K mg base 1 "_law_draw" ["pen", "many"] (spW cl (sp__law_draw))) {f : Addr} : ∀ (cdv : Value) (A : Around) (outer : List PySem.Env) (s : Shared) (H : Hp) (E : XK) (Ew : XSw), RoomG false 1 (cxB P w K mg base n__law_name "_law_name" s__law_name f cdv A outer s H E).A → TakesW (cxB P w K mg base n__law_name "_law_name" s__law_name f cdv A outer s H E) Ew → DSs (cxB P w K mg base n__law_name "_law_name" s__law_name f cdv A outer s H E) Ew cl (defBody s__law_name) t__law_name :=
  fun cdv A outer s H E Ew hr tk =>
    have nd : n__law_name.Nodup := sc__law_name.nd
    (dss_cons (ds_set (i := 2) nd rfl (by first | exact .inl rfl | exact .inr rfl) de_str)
    (dss_cons (ds_for (vs := [3]) PassesOwn.leaving rfl (di_range1 (by rfl) T.b_range (da_cons (de_op ow_addAll rd_add de_int (de_call C__law_draw tk (hr.mono (by decide)) (by rfl) (da_cons (de_var (wv 0)) (da_cons de_int da_nil)))) da_nil)) (wg_name (i := 3) nd rfl (by first | exact .inl rfl | exact .inr rfl)) (gd_name (by decide))
    (dss_one (ds_set (i := 2) nd rfl (by first | exact .inl rfl | exact .inr rfl) (de_op ow_addAll rd_add (de_var (wv 2)) (de_ix iw_seq rd_ix de_str (de_call C__law_draw tk (hr.mono (by decide)) (by rfl) (da_cons (de_var (wv 0)) (da_cons de_int da_nil))) (fun _ _ => rfl))))))
    (dss_cons (ds_set (i := 4) nd rfl (by first | exact .inl rfl | exact .inr rfl) (de_op ow_addAll rd_add de_int (de_call C__law_draw tk (hr.mono (by decide)) (by rfl) (da_cons (de_var (wv 0)) (da_cons (de_b1 cw_len rd_len (by rfl) T.b_len (by decide +kernel) (de_var (wv 2))) da_nil)))))
    (dss_one (ds_ret (de_op ow_addAll rd_add (de_op ow_addAll rd_add (de_slice (de_var (wv 2)) dp_none (dp_some (de_var (wv 4)))) (de_t1 cw_strInt rd_strInt (by rfl) T.b_str (by decide +kernel) (de_var (wv 1)))) (de_slice (de_var (wv 2)) (dp_some (de_var (wv 4))) dp_none)))))))

/-! _law_names -/
abbrev s__law_names : Stmt := top 28
abbrev n__law_names : List Str := ["pen", "many", "index"]
theorem sc__law_names : FnScope n__law_names ["pen", "many"] (defScope s__law_names) := ⟨rfl, rfl, rfl, by decide +kernel, rfl, by decide +kernel, by decide +kernel⟩
def t__law_names : TSd :=
    (dRet (dCall (sp__law_shuffled) [] (dCons (dVar 0) (dCons (dLc (dRng1 (dCons (dVar 1) dNil)) (dgName 2) dYes (dCall (sp__law_name) [] (dCons (dVar 0) (dCons (dVar 2) dNil))) [2]) dNil))))
theorem d__law_names (T : Txt P w K mg base cl) (C__law_name : Callee false P w K mg base 2 "_law_name" ["pen", "index"] (spW cl (sp__law_name))) (C__law_shuffled : Callee false P w K mg base 2 "_law_shuffled" ["pen", "some"] (spW cl (sp__law_shuffled))) {f : Addr} : ∀ (cdv : Value) (A : Around) (outer : List PySem.Env) (s : Shared) (H : Hp) (E : XK) (Ew : XSw), RoomG false 2 (cxB P w K mg base n__law_names "_law_names" s__law_names f cdv A outer s H E).A → TakesW (cxB P w K mg base n__law_names "_law_names" s__law_names f cdv A outer s H E) Ew → DSs (cxB P w K mg base n__law_names "_law_names" s__law_names f cdv A outer s H E) Ew cl (defBody s__law_names) t__law_names :=
  fun cdv A outer s H E Ew hr tk =>
    have nd : n__law_names.Nodup := sc__law_names.nd
    (dss_one (ds_ret (de_call C__law_shuffled tk (hr.mono (by decide)) (by rfl) (da_cons (de_var (wv 0)) (da_cons (de_lc (own := [("index", 2)]) rfl nd (di_range1 (by rfl) T.b_range (da_cons (de_var (wv 1)) da_nil)) (blkOk_by (own := [("index", 2)]) (N := n__law_names) (sc := defScope s__law_names) (by decide +kernel)) (gd_name (by decide)) (fun _ _ _ _ _ => (wgc_name (i := 2) (by decide) nd rfl (by first | exact .inl rfl | exact .inr rfl))) (fun _ _ _ _ _ => dts_nil) (fun _ _ _ _ _ => (de_callN C__law_name (hr.mono (by decide)) (by rfl) (da_cons (de_var (wv 0)) (da_cons (de_var (wv 2)) da_nil))))) da_nil)))))

/-! _law_same -/
abbrev s__law_same : Stmt := top 29
abbrev n__law_same : List Str := ["told", "due", "one", "two"]
theorem sc__law_same : FnScope n__law_same ["told", "due"] (defScope s__law_same) := ⟨rfl, rfl, rfl, by decide +kernel, rfl, by decide +kernel, by decide +kernel⟩
def t__law_same : TSd :=
    (dSeq (dIfS (dTest (dOp dIsi (dVar 1) (dC (.ty "tuple"))))
    (dRet (dAndV (dOp dIsi (dVar 0) (dC (.ty "tuple"))) (dAndV (dOp dEq (dB1 dLen (dVar 0)) (dB1 dLen (dVar 1))) (dB1 dAll (dLc (dZip (dCons (dVar 0) (dCons (dVar 1) dNil))) (dgTup 2 (dgCons (dgName 2) (dgCons (dgName 3) dgNil))) dYes (dCall (sp_none) [] (dCons (dVar 2) (dCons (dVar 3) dNil))) [2, 3])))))
    dNext)
    (dSeq (dIfS (dTest (dOp (dIsN false) (dVar 1) (dC .non)))
    (dRet (dOp (dIsN false) (dVar 0) (dC .non)))
    dNext)
    (dSeq (dIfS (dTest (dOp dIsB (dVar 1) (dC (.bl true))))
    (dRet (dOp dIsB (dVar 0) (dC (.bl true))))
    dNext)
    (dSeq (dIfS (dTest (dOp dIsB (dVar 1) (dC (.bl false))))
    (dRet (dOp dIsB (dVar 0) (dC (.bl false))))
    dNext)
    (dSeq (dIfS (dTest (dOp dIsi (dVar 1) (dC (.ty "int"))))
    (dRet (dAndV (dOp dIsi (dVar 0) (dC (.ty "int"))) (dAndV (dNotV (dOp dIsi (dVar 0) (dC (.ty "bool")))) (dOp dEq (dVar 0) (dVar 1)))))
    dNext)
    (dRet (dAndV (dOp dIsi (dVar 0) (dC (.ty "str"))) (dOp dEq (dVar 0) (dVar 1)))))))))
theorem d__law_same (T : Txt P w K mg base cl) (R__law_same : Callee false P w K mg base 0 "_law_same" ["told", "due"] (spW cl sp_none)) {f : Addr} : ∀ (cdv : Value) (A : Around) (outer : List PySem.Env) (s : Shared) (H : Hp) (E : XK) (Ew : XSw), RoomG false 1 (cxB P w K mg base n__law_same "_law_same" s__law_same f cdv A outer s H E).A → TakesW (cxB P w K mg base n__law_same "_law_same" s__law_same f cdv A outer s H E) Ew → DSs (cxB P w K mg base n__law_same "_law_same" s__law_same f cdv A outer s H E) Ew cl (defBody s__law_same) t__law_same :=
  fun cdv A outer s H E Ew hr tk =>
    have nd : n__law_same.Nodup := sc__law_same.nd
    (dss_cons (ds_if (dt_val (de_b2 cw_isi (rd_isi T.kb) (by rfl) T.b_isinstance (by decide +kernel) (de_var (wv 1)) (de_ty (by rfl) T.b_tuple (by decide +kernel))))
    (dss_one (ds_ret (de_and (de_b2 cw_isi (rd_isi T.kb) (by rfl) T.b_isinstance (by decide +kernel) (de_var (wv 0)) (de_ty (by rfl) T.b_tuple (by decide +kernel))) (de_and (de_cmp (ow_eqB hr.units) rd_eq (de_b1 cw_len rd_len (by rfl) T.b_len (by decide +kernel) (de_var (wv 0))) (de_b1 cw_len rd_len (by rfl) T.b_len (by decide +kernel) (de_var (wv 1))) (nomark _)) (de_one (de_b1 (cw_all rfl) rd_all (by rfl) T.b_all (by decide +kernel) (de_lc (own := [("one", 2), ("two", 3)]) rfl nd (di_zip (by rfl) T.b_zip (da_cons (de_var (wv 0)) (da_cons (de_var (wv 1)) da_nil))) (blkOk_by (own := [("one", 2), ("two", 3)]) (N := n__law_same) (sc := defScope s__law_same) (by decide +kernel)) (gd_tupK (gds_cons (gd_name (by decide)) (gds_cons (gd_name (by decide)) gds_nil))) (fun _ _ _ _ _ => (wgc_tupK rfl (wgsc_cons (wgc_name (i := 2) (by decide) nd rfl (by first | exact .inl rfl | exact .inr rfl)) (wgsc_cons (wgc_name (i := 3) (by decide) nd rfl (by first | exact .inl rfl | exact .inr rfl)) wgsc_nil)))) (fun _ _ _ _ _ => dts_nil) (fun _ _ _ _ _ => (de_callN R__law_same (hr.mono (by decide)) (by rfl) (da_cons (de_var (wv 2)) (da_cons (de_var (wv 3)) da_nil)))))))))))
    dss_nil)
    (dss_cons (ds_if (dt_cmp ow_isN rd_isN (de_var (wv 1)) de_non (nomark _))
    (dss_one (ds_ret (de_cmp ow_isN rd_isN (de_var (wv 0)) de_non (nomark _))))
    dss_nil)
    (dss_cons (ds_if (dt_cmp ow_isB rd_isB (de_var (wv 1)) de_bl (nomark _))
    (dss_one (ds_ret (de_cmp ow_isB rd_isB (de_var (wv 0)) de_bl (nomark _))))
    dss_nil)
    (dss_cons (ds_if (dt_cmp ow_isB rd_isB (de_var (wv 1)) de_bl (nomark _))
    (dss_one (ds_ret (de_cmp ow_isB rd_isB (de_var (wv 0)) de_bl (nomark _))))
    dss_nil)
    (dss_cons (ds_if (dt_val (de_b2 cw_isi (rd_isi T.kb) (by rfl) T.b_isinstance (by decide +kernel) (de_var (wv 1)) (de_ty (by rfl) T.b_int (by decide +kernel))))
    (dss_one (ds_ret (de_and (de_b2 cw_isi (rd_isi T.kb) (by rfl) T.b_isinstance (by decide +kernel) (de_var (wv 0)) (de_ty (by rfl) T.b_int (by decide +kernel))) (de_and (de_not (de_b2 cw_isi (rd_isi T.kb) (by rfl) T.b_isinstance (by decide +kernel) (de_var (wv 0)) (de_ty (by rfl) T.b_bool (by decide +kernel)))) (de_one (de_cmp (ow_eqB hr.units) rd_eq (de_var (wv 0)) (de_var (wv 1)) (nomark _)))))))
    dss_nil)
    (dss_one (ds_ret (de_and (de_b2 cw_isi (rd_isi T.kb) (by rfl) T.b_isinstance (by decide +kernel) (de_var (wv 0)) (de_ty (by rfl) T.b_str (by decide +kernel))) (de_one (de_cmp (ow_eqB hr.units) rd_eq (de_var (wv 0)) (de_var (wv 1)) (nomark _)))))))))))

/-! _law_is_name -/
abbrev s__law_is_name : Stmt := top 30
abbrev n__law_is_name : List Str := ["value", "sign"]
theorem sc__law_is_name : FnScope n__law_is_name ["value"] (defScope s__law_is_name) := ⟨rfl, rfl, rfl, by decide +kernel, rfl, by decide +kernel, by decide +kernel⟩
def t__law_is_name : TSd :=
    (dSeq (dIfS (dOr (dNot (dTest (dOp dIsi (dVar 0) (dC (.ty "str"))))) (dOr (dNot (dTest (dChain dLeI dLeI (dC (.int 1)) (dB1 dLen (dVar 0)) (dC (.int 12))))) (dTest (dOp dNotInSign (dOp dIx (dVar 0) (dC (.int 0))) (dC (.str "abcdefghijklmnopqrstuvwxyz"))))))
    (dRet (dC (.bl false)))
    dNext)
    (dRet (dOp dEq (dLc (dIt (dVar 0)) (dgName 1) (dTest (dOp dNotInSign (dVar 1) (dC (.str "abcdefghijklmnopqrstuvwxyz0123456789")))) (dVar 1) [1]) (dLst dNil))))
theorem d__law_is_name (T : Txt P w K mg base cl) {f : Addr} : ∀ (cdv : Value) (A : Around) (outer : List PySem.Env) (s : Shared) (H : Hp) (E : XK) (Ew : XSw), RoomG false 0 (cxB P w K mg base n__law_is_name "_law_is_name" s__law_is_name f cdv A outer s H E).A → TakesW (cxB P w K mg base n__law_is_name "_law_is_name" s__law_is_name f cdv A outer s H E) Ew → DSs (cxB P w K mg base n__law_is_name "_law_is_name" s__law_is_name f cdv A outer s H E) Ew cl (defBody s__law_is_name) t__law_is_name :=
  fun cdv A outer s H E Ew hr tk =>
    have nd : n__law_is_name.Nodup := sc__law_is_name.nd
    (dss_cons (ds_if (DW.dt (dw_or (dt_not (dt_val (de_b2 cw_isi (rd_isi T.kb) (by rfl) T.b_isinstance (by decide +kernel) (de_var (wv 0)) (de_ty (by rfl) T.b_str (by decide +kernel))))) (dw_or (dt_not (dt_chain ow_leI rd_leI ow_leI rd_leI de_int (de_b1 cw_len rd_len (by rfl) T.b_len (by decide +kernel) (de_var (wv 0))) de_int)) (dw_or1 (dt_cmp ow_notInSign rd_notInSign (de_ix iw_seq rd_ix (de_var (wv 0)) de_int (fun _ _ => rfl)) de_str (by rfl))))))
    (dss_one (ds_ret de_bl))
    dss_nil)
    (dss_one (ds_ret (de_cmp (ow_eqB hr.units) rd_eq (de_lc (own := [("sign", 1)]) rfl nd (di_it (de_var (wv 0))) (blkOk_by (own := [("sign", 1)]) (N := n__law_is_name) (sc := defScope s__law_is_name) (by decide +kernel)) (gd_name (by decide)) (fun _ _ _ _ _ => (wgc_name (i := 1) (by decide) nd rfl (by first | exact .inl rfl | exact .inr rfl))) (fun _ _ _ _ _ => (dts_one (dt_cmp ow_notInSign rd_notInSign (de_var (wv 1)) de_str (by rfl)))) (fun _ _ _ _ _ => (de_var (wv 1)))) (de_lst da_nil) (nomark _)))))

/-! _law_calls -/
abbrev s__law_calls : Stmt := top 31
abbrev n__law_calls : List Str := ["pen", "many"]
theorem sc__law_calls : FnScope n__law_calls ["pen", "many"] (defScope s__law_calls) := ⟨rfl, rfl, rfl, by decide +kernel, rfl, by decide +kernel, by decide +kernel⟩
def t__law_calls : TSd :=
    (dRet (dB1 dTupleOf (dB1 dSorted (dCall (sp__law_names) [] (dCons (dVar 0) (dCons (dVar 1) dNil))))))
theorem d__law_calls (T : Txt P w K mg base cl) (C__law_names : Callee false P w K mg base 3 "_law_names" ["pen", "many"] (spW cl (sp__law_names))) {f : Addr} : ∀ (cdv : Value) (A : Around) (outer : List PySem.Env) (s : Shared) (H : Hp) (E : XK) (Ew : XSw), RoomG false 3 (cxB P w K mg base n__law_calls "_law_calls" s__law_calls f cdv A outer s H E).A → TakesW (cxB P w K mg base n__law_calls "_law_calls" s__law_calls f cdv A outer s H E) Ew → DSs (cxB P w K mg base n__law_calls "_law_calls" s__law_calls f cdv A outer s H E) Ew cl (defBody s__law_calls) t__law_calls :=
  fun cdv A outer s H E Ew hr tk =>
    have nd : n__law_calls.Nodup := sc__law_calls.nd
    (dss_one (ds_ret (de_t1 cw_tupleK rd_tuple (by rfl) T.b_tuple (by decide +kernel) (de_b1 (cw_sorted hr.units) rd_sorted (by rfl) T.b_sorted (by decide +kernel) (de_call C__law_names tk (hr.mono (by decide)) (by rfl) (da_cons (de_var (wv 0)) (da_cons (de_var (wv 1)) da_nil)))))))

/-! _law_some_word -/
abbrev s__law_some_word : Stmt := top 32
abbrev n__law_some_word : List Str := ["pen", "calls", "most", "spot"]
theorem sc__law_some_word : FnScope n__law_some_word ["pen", "calls", "most"] (defScope s__law_some_word) := ⟨rfl, rfl, rfl, by decide +kernel, rfl, by decide +kernel, by decide +kernel⟩
def t__law_some_word : TSd :=
    (dRet (dB1 dTupleOf (dLc (dRng1 (dCons (dCall (sp__law_draw) [] (dCons (dVar 0) (dCons (dOp dAdd (dVar 2) (dC (.int 1))) dNil))) dNil)) (dgName 3) dYes (dCall (sp__law_pick) [] (dCons (dVar 0) (dCons (dVar 1) dNil))) [3])))
theorem d__law_some_word (T : Txt P w K mg base cl) (C__law_draw : Callee false P w K mg base 1 "_law_draw" ["pen", "many"] (spW cl (sp__law_draw))) (C__law_pick : Callee false P w K mg base 2 "_law_pick" ["pen", "some"] (spW cl (sp__law_pick))) {f : Addr} : ∀ (cdv : Value) (A : Around) (outer : List PySem.Env) (s : Shared) (H : Hp) (E : XK) (Ew : XSw), RoomG false 2 (cxB P w K mg base n__law_some_word "_law_some_word" s__law_some_word f cdv A outer s H E).A → TakesW (cxB P w K mg base n__law_some_word "_law_some_word" s__law_some_word f cdv A outer s H E) Ew → DSs (cxB P w K mg base n__law_some_word "_law_some_word" s__law_some_word f cdv A outer s H E) Ew cl (defBody s__law_some_word) t__law_some_word :=
  fun cdv A outer s H E Ew hr tk =>
    have nd : n__law_some_word.Nodup := sc__law_some_word.nd
    (dss_one (ds_ret (de_t1 cw_tupleK rd_tuple (by rfl) T.b_tuple (by decide +kernel) (de_lc (own := [("spot", 3)]) rfl nd (di_range1 (by rfl) T.b_range (da_cons (de_call C__law_draw tk (hr.mono (by decide)) (by rfl) (da_cons (de_var (wv 0)) (da_cons (de_op ow_addAll rd_add (de_var (wv 2)) de_int) da_nil))) da_nil)) (blkOk_by (own := [("spot", 3)]) (N := n__law_some_word) (sc := defScope s__law_some_word) (by decide +kernel)) (gd_name (by decide)) (fun _ _ _ _ _ => (wgc_name (i := 3) (by decide) nd rfl (by first | exact .inl rfl | exact .inr rfl))) (fun _ _ _ _ _ => dts_nil) (fun _ _ _ _ _ => (de_callN C__law_pick (hr.mono (by decide)) (by rfl) (da_cons (de_var (wv 0)) (da_cons (de_var (wv 1)) da_nil))))))))

/-! _law_odd_name -/
abbrev s__law_odd_name : Stmt := top 33
abbrev n__law_odd_name : List Str := ["pen", "name"]
theorem sc__law_odd_name : FnScope n__law_odd_name ["pen", "name"] (defScope s__law_odd_name) := ⟨rfl, rfl, rfl, by decide +kernel, rfl, by decide +kernel, by decide +kernel⟩
def t__law_odd_name : TSd :=
    (dRet (dCall (sp__law_pick) [] (dCons (dVar 0) (dCons (dLst (dCons (dC (.str "")) (dCons (dOp dAdd (dC (.str "1")) (dSl (dVar 1) dNoPart (dPart (dC (.int 8))))) (dCons (dMS0 dUpper (dVar 1)) (dCons (dOp dAdd (dVar 1) (dC (.str "abcdefghijkl"))) (dCons (dOp dAdd (dSl (dVar 1) dNoPart (dPart (dC (.int 4)))) (dC (.str "_"))) (dCons (dC (.str " ")) (dCons (dOp dAdd (dSl (dVar 1) dNoPart (dPart (dC (.int 3)))) (dC (.str " b"))) (dCons (dC .non) (dCons (dC (.int 5)) (dCons (dC (.bl true)) (dCons (dTup (dCons (dVar 1) dNil)) (dCons (dOp dAdd (dSl (dVar 1) dNoPart (dPart (dC (.int 5)))) (dC (.str "\n"))) (dCons (dC (.str "-")) (dCons (dC (.str ".")) (dCons (dLst (dCons (dVar 1) dNil)) dNil)))))))))))))))) dNil))))
theorem d__law_odd_name (T : Txt P w K mg base cl) (C__law_pick : Callee false P w K mg base 2 "_law_pick" ["pen", "some"] (spW cl (sp__law_pick))) {f : Addr} : ∀ (cdv : Value) (A : Around) (outer : List PySem.Env) (s : Shared) (H : Hp) (E : XK) (Ew : XSw), RoomG false 2 (cxB P w K mg base n__law_odd_name "_law_odd_name" s__law_odd_name f cdv A outer s H E).A → TakesW (cxB P w K mg base n__law_odd_name "_law_odd_name" s__law_odd_name f cdv A outer s H E) Ew → DSs (cxB P w K mg base n__law_odd_name "_law_odd_name" s__law_odd_name f cdv A outer s H E) Ew cl (defBody s__law_odd_name) t__law_odd_name :=
  fun cdv A outer s H E Ew hr tk =>
    have nd : n__law_odd_name.Nodup := sc__law_odd_name.nd
    (dss_one (ds_ret (de_call C__law_pick tk (hr.mono (by decide)) (by rfl) (da_cons (de_var (wv 0)) (da_cons (de_lst (da_cons de_str (da_cons (de_op ow_addAll rd_add de_str (de_slice (de_var (wv 1)) dp_none (dp_some de_int))) (da_cons (de_ms0 PySem.F.slot_str_upper PySem.F.type_str_upper mw_upper rd_upper (de_var (wv 1))) (da_cons (de_op ow_addAll rd_add (de_var (wv 1)) de_str) (da_cons (de_op ow_addAll rd_add (de_slice (de_var (wv 1)) dp_none (dp_some de_int)) de_str) (da_cons de_str (da_cons (de_op ow_addAll rd_add (de_slice (de_var (wv 1)) dp_none (dp_some de_int)) de_str) (da_cons de_non (da_cons de_int (da_cons de_bl (da_cons (de_tup (da_cons (de_var (wv 1)) da_nil)) (da_cons (de_op ow_addAll rd_add (de_slice (de_var (wv 1)) dp_none (dp_some de_int)) de_str) (da_cons de_str (da_cons de_str (da_cons (de_lst (da_cons (de_var (wv 1)) da_nil)) da_nil)))))))))))))))) da_nil)))))

/-! _law_before -/
abbrev s__law_before : Stmt := top 34
abbrev n__law_before : List Str := ["word"]
theorem sc__law_before : FnScope n__law_before ["word"] (defScope s__law_before) := ⟨rfl, rfl, rfl, by decide +kernel, rfl, by decide +kernel, by decide +kernel⟩
def t__law_before : TSd :=
    (dRet (dTup (dCons (dB1 dLen (dVar 0)) (dCons (dVar 0) dNil))))
theorem d__law_before (T : Txt P w K mg base cl) {f : Addr} : ∀ (cdv : Value) (A : Around) (outer : List PySem.Env) (s : Shared) (H : Hp) (E : XK) (Ew : XSw), RoomG false 0 (cxB P w K mg base n__law_before "_law_before" s__law_before f cdv A outer s H E).A → TakesW (cxB P w K mg base n__law_before "_law_before" s__law_before f cdv A outer s H E) Ew → DSs (cxB P w K mg base n__law_before "_law_before" s__law_before f cdv A outer s H E) Ew cl (defBody s__law_before) t__law_before :=
  fun cdv A outer s H E Ew hr tk =>
    have nd : n__law_before.Nodup := sc__law_before.nd
    (dss_one (ds_ret (de_tup (da_cons (de_b1 cw_len rd_len (by rfl) T.b_len (by decide +kernel) (de_var (wv 0))) (da_cons (de_var (wv 0)) da_nil)))))

/-! _law_bent_words -/
abbrev s__law_bent_words : Stmt := top 36
abbrev n__law_bent_words : List Str := ["pen", "words", "more", "at", "way", "other"]
theorem sc__law_bent_words : FnScope n__law_bent_words ["pen", "words", "more"] (defScope s__law_bent_words) := ⟨rfl, rfl, rfl, by decide +kernel, rfl, by decide +kernel, by decide +kernel⟩
def t__law_bent_words : TSd :=
    (dSeq (dPar [3, 4] (dConsO (dCall (sp__law_draw) [] (dCons (dVar 0) (dCons (dOp dAdd (dB1 dLen (dVar 1)) (dC (.int 1))) dNil))) (dConsO (dCall (sp__law_draw) [] (dCons (dVar 0) (dCons (dC (.int 4)) dNil))) dNilO)))
    (dSeq (dSet 5 (dCall (sp__law_pick) [] (dCons (dVar 0) (dCons (dOp dAdd (dVar 2) (dLst (dCons (dC (.str "")) (dCons (dC (.str "A")) (dCons (dC (.str "1a")) (dCons (dC (.str "5")) (dCons (dC (.str "0")) (dCons (dC (.str "01")) dNil)))))))) dNil))))
    (dSeq (dIfS (dOr (dTest (dOp dEq (dVar 4) (dC (.int 0)))) (dTest (dOp dEq (dVar 3) (dB1 dLen (dVar 1)))))
    (dRet (dOp dAdd (dOp dAdd (dSl (dVar 1) dNoPart (dPart (dVar 3))) (dLst (dCons (dVar 5) dNil))) (dSl (dVar 1) (dPart (dVar 3)) dNoPart)))
    dNext)
    (dSeq (dIfS (dTest (dOp dEq (dVar 4) (dC (.int 1))))
    (dRet (dOp dAdd (dSl (dVar 1) dNoPart (dPart (dVar 3))) (dSl (dVar 1) (dPart (dOp dAdd (dVar 3) (dC (.int 1)))) dNoPart)))
    dNext)
    (dRet (dOp dAdd (dOp dAdd (dSl (dVar 1) dNoPart (dPart (dVar 3))) (dIf (dTest (dOp dEq (dVar 4) (dC (.int 2)))) (dLst (dCons (dVar 5) dNil)) (dOp dRepL (dSl (dVar 1) (dPart (dVar 3)) (dPart (dOp dAdd (dVar 3) (dC (.int 1))))) (dC (.int 2))))) (dSl (dVar 1) (dPart (dOp dAdd (dVar 3) (dC (.int 1)))) dNoPart)))))))
theorem d__law_bent_words (T : Txt P w K mg base cl) (C__law_draw : Callee false P w K mg base 1 "_law_draw" ["pen", "many"] (spW cl (sp__law_draw))) (C__law_pick : Callee false P w K mg base 2 "_law_pick" ["pen", "some"] (spW cl (sp__law_pick))) {f : Addr} : ∀ (cdv : Value) (A : Around) (outer : List PySem.Env) (s : Shared) (H : Hp) (E : XK) (Ew : XSw), RoomG false 2 (cxB P w K mg base n__law_bent_words "_law_bent_words" s__law_bent_words f cdv A outer s H E).A → TakesW (cxB P w K mg base n__law_bent_words "_law_bent_words" s__law_bent_words f cdv A outer s H E) Ew → DSs (cxB P w K mg base n__law_bent_words "_law_bent_words" s__law_bent_words f cdv A outer s H E) Ew cl (defBody s__law_bent_words) t__law_bent_words :=
  fun cdv A outer s H E Ew hr tk =>
    have nd : n__law_bent_words.Nodup := sc__law_bent_words.nd
    (dss_cons (ds_par2 (i := 3) (j := 4) rfl nd rfl rfl (by decide) rfl rfl (dao_cons (de_call C__law_draw tk (hr.mono (by decide)) (by rfl) (da_cons (de_var (wv 0)) (da_cons (de_op ow_addAll rd_add (de_b1 cw_len rd_len (by rfl) T.b_len (by decide +kernel) (de_var (wv 1))) de_int) da_nil))) (dao_cons (de_call C__law_draw tk (hr.mono (by decide)) (by rfl) (da_cons (de_var (wv 0)) (da_cons de_int da_nil))) dao_nil)) (by rfl))
    (dss_cons (ds_set (i := 5) nd rfl (by first | exact .inl rfl | exact .inr rfl) (de_call C__law_pick tk (hr.mono (by decide)) (by rfl) (da_cons (de_var (wv 0)) (da_cons (de_op ow_addAll rd_add (de_var (wv 2)) (de_lst (da_cons de_str (da_cons de_str (da_cons de_str (da_cons de_str (da_cons de_str (da_cons de_str da_nil)))))))) da_nil))))
    (dss_cons (ds_if (DW.dt (dw_or (dt_cmp (ow_eqB hr.units) rd_eq (de_var (wv 4)) de_int (nomark _)) (dw_or1 (dt_cmp (ow_eqB hr.units) rd_eq (de_var (wv 3)) (de_b1 cw_len rd_len (by rfl) T.b_len (by decide +kernel) (de_var (wv 1))) (nomark _)))))
    (dss_one (ds_ret (de_op ow_addAll rd_add (de_op ow_addAll rd_add (de_slice (de_var (wv 1)) dp_none (dp_some (de_var (wv 3)))) (de_lst (da_cons (de_var (wv 5)) da_nil))) (de_slice (de_var (wv 1)) (dp_some (de_var (wv 3))) dp_none))))
    dss_nil)
    (dss_cons (ds_if (dt_cmp (ow_eqB hr.units) rd_eq (de_var (wv 4)) de_int (nomark _))
    (dss_one (ds_ret (de_op ow_addAll rd_add (de_slice (de_var (wv 1)) dp_none (dp_some (de_var (wv 3)))) (de_slice (de_var (wv 1)) (dp_some (de_op ow_addAll rd_add (de_var (wv 3)) de_int)) dp_none))))
    dss_nil)
    (dss_one (ds_ret (de_op ow_addAll rd_add (de_op ow_addAll rd_add (de_slice (de_var (wv 1)) dp_none (dp_some (de_var (wv 3)))) (de_if (dt_cmp (ow_eqB hr.units) rd_eq (de_var (wv 4)) de_int (nomark _)) (de_lst (da_cons (de_var (wv 5)) da_nil)) (de_op ow_repL rd_repL (de_slice (de_var (wv 1)) (dp_some (de_var (wv 3))) (dp_some (de_op ow_addAll rd_add (de_var (wv 3)) de_int))) de_int))) (de_slice (de_var (wv 1)) (dp_some (de_op ow_addAll rd_add (de_var (wv 3)) de_int)) dp_none))))))))

/-! _law_first_wrong -/
abbrev s__law_first_wrong : Stmt := top 37
abbrev n__law_first_wrong : List Str := ["text", "lines", "words", "at", "word"]
theorem sc__law_first_wrong : FnScope n__law_first_wrong ["text"] (defScope s__law_first_wrong) := ⟨rfl, rfl, rfl, by decide +kernel, rfl, by decide +kernel, by decide +kernel⟩
def t__law_first_wrong : TSd :=
    (dSeq (dSet 1 (dMS dSplit (dVar 0) (dC (.str "\n"))))
    (dSeq (dSet 2 (dMS dSplit (dOp dIx (dVar 1) (dC (.int 0))) (dC (.str " "))))
    (dSeq (dFor (dEnum (dCons (dVar 2) dNil)) (dgTup 2 (dgCons (dgName 3) (dgCons (dgName 4) dgNil)))
    (dIfS (dAnd (dTest (dOp dEq (dVar 3) (dC (.int 0)))) (dTest (dOp dEq (dVar 4) (dC (.str "_")))))
    (dIfS (dTest (dOp dGtI (dB1 dLen (dVar 2)) (dC (.int 1))))
    (dRet (dLst (dCons (dC (.str "text")) (dCons (dC (.int 1)) (dCons (dC (.int 2)) dNil)))))
    dNext)
    (dIfS (dNot (dTest (dCall (sp__law_is_name) [] (dCons (dVar 4) dNil))))
    (dRet (dLst (dCons (dC (.str "text")) (dCons (dC (.int 1)) (dCons (dOp dAdd (dVar 3) (dC (.int 1))) dNil)))))
    dNext)))
    (dRet (dIf (dTest (dOp dEq (dB1 dLen (dVar 1)) (dC (.int 1)))) (dC .non) (dLst (dCons (dC (.str "text")) (dCons (dC (.int 1)) (dCons (dOp dAdd (dB1 dLen (dVar 2)) (dC (.int 1))) dNil)))))))))
theorem d__law_first_wrong (T : Txt P w K mg base cl) (C__law_is_name : Callee false P w K mg base 1 "_law_is_name" ["value"] (spW cl (sp__law_is_name))) {f : Addr} : ∀ (cdv : Value) (A : Around) (outer : List PySem.Env) (s : Shared) (H : Hp) (E : XK) (Ew : XSw), RoomG false 1 (cxB P w K mg base n__law_first_wrong "_law_first_wrong" s__law_first_wrong f cdv A outer s H E).A → TakesW (cxB P w K mg base n__law_first_wrong "_law_first_wrong" s__law_first_wrong f cdv A outer s H E) Ew → DSs (cxB P w K mg base n__law_first_wrong "_law_first_wrong" s__law_first_wrong f cdv A outer s H E) Ew cl (defBody s__law_first_wrong) t__law_first_wrong :=
  fun cdv A outer s H E Ew hr tk =>
    have nd : n__law_first_wrong.Nodup := sc__law_first_wrong.nd
    (dss_cons (ds_set (i := 1) nd rfl (by first | exact .inl rfl | exact .inr rfl) (de_ms PySem.F.slot_str_split PySem.F.type_str_split mw_split rd_split (de_var (wv 0)) de_str))
    (dss_cons (ds_set (i := 2) nd rfl (by first | exact .inl rfl | exact .inr rfl) (de_ms PySem.F.slot_str_split PySem.F.type_str_split mw_split rd_split (de_ix iw_seq rd_ix (de_var (wv 1)) de_int (fun _ _ => rfl)) de_str))
    (dss_cons (ds_for (vs := [3, 4]) PassesOwn.leaving rfl (di_enum (by rfl) T.b_enumerate (da_cons (de_var (wv 2)) da_nil)) (wg_tupK rfl (wgs_cons (wg_name (i := 3) nd rfl (by first | exact .inl rfl | exact .inr rfl)) (wgs_cons (wg_name (i := 4) nd rfl (by first | exact .inl rfl | exact .inr rfl)) wgs_nil))) (gd_tupK (gds_cons (gd_name (by decide)) (gds_cons (gd_name (by decide)) gds_nil)))
    (dss_one (ds_if (DW.dt (dw_and (dt_cmp (ow_eqB hr.units) rd_eq (de_var (wv 3)) de_int (nomark _)) (dw_and1 (dt_cmp (ow_eqB hr.units) rd_eq (de_var (wv 4)) de_str (nomark _)))))
    (dss_one (ds_if (dt_cmp ow_gtI rd_gtI (de_b1 cw_len rd_len (by rfl) T.b_len (by decide +kernel) (de_var (wv 2))) de_int (nomark _))
    (dss_one (ds_ret (de_lst (da_cons de_str (da_cons de_int (da_cons de_int da_nil))))))
    dss_nil))
    (dss_one (ds_if (dt_not (dt_val (de_call C__law_is_name tk (hr.mono (by decide)) (by rfl) (da_cons (de_var (wv 4)) da_nil))))
    (dss_one (ds_ret (de_lst (da_cons de_str (da_cons de_int (da_cons (de_op ow_addAll rd_add (de_var (wv 3)) de_int) da_nil))))))
    dss_nil)))))
    (dss_one (ds_ret (de_if (dt_cmp (ow_eqB hr.units) rd_eq (de_b1 cw_len rd_len (by rfl) T.b_len (by decide +kernel) (de_var (wv 1))) de_int (nomark _)) de_non (de_lst (da_cons de_str (da_cons de_int (da_cons (de_op ow_addAll rd_add (de_b1 cw_len rd_len (by rfl) T.b_len (by decide +kernel) (de_var (wv 2))) de_int) da_nil))))))))))

/-! _law_is_word -/
abbrev s__law_is_word : Stmt := top 38
abbrev n__law_is_word : List Str := ["value", "call"]
theorem sc__law_is_word : FnScope n__law_is_word ["value"] (defScope s__law_is_word) := ⟨rfl, rfl, rfl, by decide +kernel, rfl, by decide +kernel, by decide +kernel⟩
def t__law_is_word : TSd :=
    (dRet (dAndV (dOp dIsi (dVar 0) (dC (.ty "tuple"))) (dOp dEq (dLc (dIt (dVar 0)) (dgName 1) (dNot (dTest (dCall (sp__law_is_name) [] (dCons (dVar 1) dNil)))) (dVar 1) [1]) (dLst dNil))))
theorem d__law_is_word (T : Txt P w K mg base cl) (C__law_is_name : Callee false P w K mg base 1 "_law_is_name" ["value"] (spW cl (sp__law_is_name))) {f : Addr} : ∀ (cdv : Value) (A : Around) (outer : List PySem.Env) (s : Shared) (H : Hp) (E : XK) (Ew : XSw), RoomG false 1 (cxB P w K mg base n__law_is_word "_law_is_word" s__law_is_word f cdv A outer s H E).A → TakesW (cxB P w K mg base n__law_is_word "_law_is_word" s__law_is_word f cdv A outer s H E) Ew → DSs (cxB P w K mg base n__law_is_word "_law_is_word" s__law_is_word f cdv A outer s H E) Ew cl (defBody s__law_is_word) t__law_is_word :=
  fun cdv A outer s H E Ew hr tk =>
    have nd : n__law_is_word.Nodup := sc__law_is_word.nd
    (dss_one (ds_ret (de_and (de_b2 cw_isi (rd_isi T.kb) (by rfl) T.b_isinstance (by decide +kernel) (de_var (wv 0)) (de_ty (by rfl) T.b_tuple (by decide +kernel))) (de_one (de_cmp (ow_eqB hr.units) rd_eq (de_lc (own := [("call", 1)]) rfl nd (di_it (de_var (wv 0))) (blkOk_by (own := [("call", 1)]) (N := n__law_is_word) (sc := defScope s__law_is_word) (by decide +kernel)) (gd_name (by decide)) (fun _ _ _ _ _ => (wgc_name (i := 1) (by decide) nd rfl (by first | exact .inl rfl | exact .inr rfl))) (fun _ _ _ _ _ => (dts_one (dt_not (dt_val (de_callN C__law_is_name (hr.mono (by decide)) (by rfl) (da_cons (de_var (wv 1)) da_nil)))))) (fun _ _ _ _ _ => (de_var (wv 1)))) (de_lst da_nil) (nomark _))))))

/-! _law_why -/
abbrev s__law_why : Stmt := top 35
abbrev n__law_why : List Str := ["call", "found", "error"]
theorem sc__law_why : FnScope n__law_why ["call"] (defScope s__law_why) := ⟨rfl, rfl, rfl, by decide +kernel, rfl, by decide +kernel, by decide +kernel⟩
abbrev hs__law_why : List HdD := [⟨exT "BadText", 2, fun a C d => (dSet 1 (dLst (dCons (dC (.str "text")) (dCons (dSf okf a C d "line" (dVar 2)) (dCons (dSf okf a C d "word" (dVar 2)) dNil)))))⟩,
  ⟨exT "BadNumber", 2, fun a C d => (dSet 1 (dLst (dCons (dC (.str "number")) (dCons (dSf okf a C d "what" (dVar 2)) (dCons (dB1 dRepr (dSf okf a C d "number" (dVar 2))) dNil)))))⟩,
  ⟨exT "BadRow", 2, fun a C d => (dSet 1 (dLst (dCons (dC (.str "row")) (dCons (dSf okf a C d "what" (dVar 2)) (dCons (dB1 dRepr (dSf okf a C d "row" (dVar 2))) dNil)))))⟩,
  ⟨exT "NoName", 2, fun a C d => (dSet 1 (dLst (dCons (dC (.str "none")) (dCons (dB1 dRepr (dSf okf a C d "name" (dVar 2))) dNil))))⟩,
  ⟨exT "Unlike", 2, fun a C d => (dSet 1 (dLst (dCons (dC (.str "unlike")) (dCons (dSf okf a C d "what" (dVar 2)) dNil))))⟩,
  ⟨exT "TooMany", 2, fun a C d => (dSet 1 (dLst (dCons (dC (.str "many")) (dCons (dSf okf a C d "what" (dVar 2)) (dCons (dSf okf a C d "many" (dVar 2)) (dCons (dSf okf a C d "limit" (dVar 2)) dNil))))))⟩]
abbrev hc__law_why (cl : Cl) : List (Value × HdD) := [(.ref (cl "BadText"), ⟨exT "BadText", 2, fun a C d => (dSet 1 (dLst (dCons (dC (.str "text")) (dCons (dSf okf a C d "line" (dVar 2)) (dCons (dSf okf a C d "word" (dVar 2)) dNil)))))⟩),
  (.ref (cl "BadNumber"), ⟨exT "BadNumber", 2, fun a C d => (dSet 1 (dLst (dCons (dC (.str "number")) (dCons (dSf okf a C d "what" (dVar 2)) (dCons (dB1 dRepr (dSf okf a C d "number" (dVar 2))) dNil)))))⟩),
  (.ref (cl "BadRow"), ⟨exT "BadRow", 2, fun a C d => (dSet 1 (dLst (dCons (dC (.str "row")) (dCons (dSf okf a C d "what" (dVar 2)) (dCons (dB1 dRepr (dSf okf a C d "row" (dVar 2))) dNil)))))⟩),
  (.ref (cl "NoName"), ⟨exT "NoName", 2, fun a C d => (dSet 1 (dLst (dCons (dC (.str "none")) (dCons (dB1 dRepr (dSf okf a C d "name" (dVar 2))) dNil))))⟩),
  (.ref (cl "Unlike"), ⟨exT "Unlike", 2, fun a C d => (dSet 1 (dLst (dCons (dC (.str "unlike")) (dCons (dSf okf a C d "what" (dVar 2)) dNil))))⟩),
  (.ref (cl "TooMany"), ⟨exT "TooMany", 2, fun a C d => (dSet 1 (dLst (dCons (dC (.str "many")) (dCons (dSf okf a C d "what" (dVar 2)) (dCons (dSf okf a C d "many" (dVar 2)) (dCons (dSf okf a C d "limit" (dVar 2)) dNil))))))⟩)]
def post__law_why : TSd := (dRet (dVar 1))
theorem w__law_why (T : Txt P w K mg base cl) {g : Addr} {fd : FuncData} (F : Fun K "_law_why" "_law_why" s__law_why g fd) (hm : mg "_law_why" = some (.ref g)) : WhyF true P w K mg base cl 6 "_law_why" n__law_why (some 1) (hc__law_why cl) post__law_why :=
  ⟨(List.forall_mem_cons.mpr ⟨fun C b e => T.ex _ _ _ e, (List.forall_mem_cons.mpr ⟨fun C b e => T.ex _ _ _ e, (List.forall_mem_cons.mpr ⟨fun C b e => T.ex _ _ _ e, (List.forall_mem_cons.mpr ⟨fun C b e => T.ex _ _ _ e, (List.forall_mem_cons.mpr ⟨fun C b e => T.ex _ _ _ e, (List.forall_mem_cons.mpr ⟨fun C b e => T.ex _ _ _ e, List.forall_mem_nil _⟩)⟩)⟩)⟩)⟩)⟩), (fun i e => by cases e; decide), "call", s__law_why, g, fd, F, hm, sc__law_why, rfl, .inl rfl, F.binds fun _ _ _ _ _ _ us hl => match us, hl with | [_], _ => rfl, by decide, by decide, fun cdv A stk s H f c1 q tl hr act =>
    have nd : n__law_why.Nodup := sc__law_why.nd
    (wss_cons (t := wAsg (wC .non) (wgName 1)) (u := whyT none (lwOf K cl (hc__law_why cl)) (upS X0w cl post__law_why) q f c1 tl) (ws_set (i := 1) nd rfl (by first | exact .inl rfl | exact .inr rfl) we_non) (why_body rfl rfl nd act (.cons rfl rfl ⟨by rfl, by decide, .inl T.m_BadText⟩ (fun a C d oe pn hz hf => (dss_one (ds_set (i := 1) nd rfl (by first | exact .inl rfl | exact .inr rfl) (de_lst (da_cons de_str (da_cons (de_sf hz hf T.sf (de_var (wv 2))) (da_cons (de_sf hz hf T.sf (de_var (wv 2))) da_nil))))))) (.cons rfl rfl ⟨by rfl, by decide, .inl T.m_BadNumber⟩ (fun a C d oe pn hz hf => (dss_one (ds_set (i := 1) nd rfl (by first | exact .inl rfl | exact .inr rfl) (de_lst (da_cons de_str (da_cons (de_sf hz hf T.sf (de_var (wv 2))) (da_cons (de_b1 (cw_repr (X := (cxOf C8.CX0 P w K mg base n__law_why "_law_why" (defScope s__law_why) g cdv A stk s H C8.E0).suite a ((a, oe) :: pn)) hr.units (hr.gd rfl)) rd_repr (by rfl) T.b_repr (by decide +kernel) (de_sf hz hf T.sf (de_var (wv 2)))) da_nil))))))) (.cons rfl rfl ⟨by rfl, by decide, .inl T.m_BadRow⟩ (fun a C d oe pn hz hf => (dss_one (ds_set (i := 1) nd rfl (by first | exact .inl rfl | exact .inr rfl) (de_lst (da_cons de_str (da_cons (de_sf hz hf T.sf (de_var (wv 2))) (da_cons (de_b1 (cw_repr (X := (cxOf C8.CX0 P w K mg base n__law_why "_law_why" (defScope s__law_why) g cdv A stk s H C8.E0).suite a ((a, oe) :: pn)) hr.units (hr.gd rfl)) rd_repr (by rfl) T.b_repr (by decide +kernel) (de_sf hz hf T.sf (de_var (wv 2)))) da_nil))))))) (.cons rfl rfl ⟨by rfl, by decide, .inl T.m_NoName⟩ (fun a C d oe pn hz hf => (dss_one (ds_set (i := 1) nd rfl (by first | exact .inl rfl | exact .inr rfl) (de_lst (da_cons de_str (da_cons (de_b1 (cw_repr (X := (cxOf C8.CX0 P w K mg base n__law_why "_law_why" (defScope s__law_why) g cdv A stk s H C8.E0).suite a ((a, oe) :: pn)) hr.units (hr.gd rfl)) rd_repr (by rfl) T.b_repr (by decide +kernel) (de_sf hz hf T.sf (de_var (wv 2)))) da_nil)))))) (.cons rfl rfl ⟨by rfl, by decide, .inl T.m_Unlike⟩ (fun a C d oe pn hz hf => (dss_one (ds_set (i := 1) nd rfl (by first | exact .inl rfl | exact .inr rfl) (de_lst (da_cons de_str (da_cons (de_sf hz hf T.sf (de_var (wv 2))) da_nil)))))) (.cons rfl rfl ⟨by rfl, by decide, .inl T.m_TooMany⟩ (fun a C d oe pn hz hf => (dss_one (ds_set (i := 1) nd rfl (by first | exact .inl rfl | exact .inr rfl) (de_lst (da_cons de_str (da_cons (de_sf hz hf T.sf (de_var (wv 2))) (da_cons (de_sf hz hf T.sf (de_var (wv 2))) (da_cons (de_sf hz hf T.sf (de_var (wv 2))) da_nil)))))))) .nil)))))) (dss_one (ds_ret (de_var (wv 1))))))⟩

/-! law -/
abbrev s_law : Stmt := top 39
abbrev n_law : List Str := ["script", "pen", "lap", "calls", "name", "word", "at", "other", "value", "text", "words", "turn", "bent", "due", "odd"]
theorem sc_law : FnScope n_law ["script"] (defScope s_law) := ⟨rfl, rfl, rfl, by decide +kernel, rfl, by decide +kernel, by decide +kernel⟩
def t_law_0 : TSd :=
    (dIfS (dAnd (dTest (dOp (dIsN false) (dVar 13) (dC .non))) (dTest (dOp dNe (dCall (sp_word_text) [] (dCons (dCall (sp_word_read) [] (dCons (dVar 12) dNil)) dNil)) (dVar 12))))
    (dRet (dC (.bl false)))
    dNext)
def t_law_1 : TSd :=
    (dSeq (dIfS (dTest (dOp dNe (dWhy (some 1) n__law_why hs__law_why post__law_why (dCall (sp_word_read) [] (dCons (dVar 12) dNil))) (dVar 13)))
    (dRet (dC (.bl false)))
    dNext)
    t_law_0)
def t_law_2 : TSd :=
    (dSeq (dSet 13 (dCall (sp__law_first_wrong) [] (dCons (dVar 12) dNil)))
    t_law_1)
def t_law_3 : TSd :=
    (dSeq (dSet 12 (dMS dJoin (dC (.str " ")) (dVar 10)))
    t_law_2)
def t_law_4 : TSd :=
    (dFor (dRng1 (dCons (dC (.int 2)) dNil)) (dgName 11)
    (dSeq (dSet 10 (dCall (sp__law_bent_words) [] (dCons (dVar 1) (dCons (dVar 10) (dCons (dOp dAdd (dB1 dListOf (dVar 3)) (dLst (dCons (dC (.str "_")) (dCons (dC (.str "\n")) (dCons (dOp dAdd (dOp dAdd (dOp dIx (dVar 3) (dC (.int 0))) (dC (.str "\n"))) (dOp dIx (dVar 3) (dC (.int 0)))) dNil))))) dNil)))))
    t_law_3))
def t_law_5 : TSd :=
    (dSeq (dSet 10 (dMS dSplit (dVar 9) (dC (.str " "))))
    t_law_4)
def t_law_6 : TSd :=
    (dSeq (dIfS (dOr (dTest (dOp dNe (dCall (sp_word_text) [] (dCons (dVar 5) dNil)) (dVar 9))) (dOr (dTest (dOp dNe (dCall (sp_word_text) [] (dCons (dB1 dListOf (dVar 5)) dNil)) (dVar 9))) (dTest (dOp dNe (dB1 dRepr (dCall (sp_word_read) [] (dCons (dVar 9) dNil))) (dB1 dRepr (dVar 5))))))
    (dRet (dC (.bl false)))
    dNext)
    t_law_5)
def t_law_7 : TSd :=
    (dSeq (dSet 9 (dIf (dTest (dOp dNe (dVar 5) (dTup dNil))) (dMS dJoin (dC (.str " ")) (dVar 5)) (dC (.str "_"))))
    t_law_6)
def t_law_8 : TSd :=
    (dSeq (dFor (dIt (dLst (dCons (dVar 5) (dCons (dVar 7) (dCons (dB1 dListOf (dVar 5)) (dCons (dC .non) (dCons (dC (.int 5)) (dCons (dOp dIx (dVar 3) (dC (.int 0))) (dCons (dOp dAdd (dVar 5) (dTup (dCons (dCall (sp__law_odd_name) [] (dCons (dVar 1) (dCons (dOp dIx (dVar 3) (dC (.int 0))) dNil))) dNil))) (dCons (dTup (dCons (dC .non) dNil)) (dCons dDNew dNil))))))))))) (dgName 8)
    (dIfS (dNot (dTest (dCall (sp__law_same) [] (dCons (dCall (sp_is_word) [] (dCons (dVar 8) dNil)) (dCons (dCall (sp__law_is_word) [] (dCons (dVar 8) dNil)) dNil)))))
    (dRet (dC (.bl false)))
    dNext))
    t_law_7)
def t_law_9 : TSd :=
    (dSeq (dIfS (dNot (dTest (dCall (sp__law_same) [] (dCons (dCall (sp_is_before) [] (dCons (dB1 dListOf (dVar 7)) (dCons (dVar 5) dNil))) (dCons (dOp dLt (dCall (sp__law_before) [] (dCons (dVar 7) dNil)) (dCall (sp__law_before) [] (dCons (dVar 5) dNil))) dNil)))))
    (dRet (dC (.bl false)))
    dNext)
    t_law_8)
def t_law_10 : TSd :=
    (dSeq (dIfS (dNot (dTest (dCall (sp__law_same) [] (dCons (dCall (sp_is_before) [] (dCons (dVar 5) (dCons (dVar 7) dNil))) (dCons (dOp dLt (dCall (sp__law_before) [] (dCons (dVar 5) dNil)) (dCall (sp__law_before) [] (dCons (dVar 7) dNil))) dNil)))))
    (dRet (dC (.bl false)))
    dNext)
    t_law_9)
def t_law_11 : TSd :=
    (dSeq (dSet 7 (dCall (sp__law_pick) [] (dCons (dVar 1) (dCons (dLst (dCons (dVar 5) (dCons (dSl (dVar 5) dNoPart (dPart (dVar 6))) (dCons (dOp dAdd (dOp dAdd (dSl (dVar 5) dNoPart (dPart (dVar 6))) (dTup (dCons (dCall (sp__law_pick) [] (dCons (dVar 1) (dCons (dVar 3) dNil))) dNil))) (dSl (dVar 5) (dPart (dOp dAdd (dVar 6) (dC (.int 1)))) dNoPart)) (dCons (dCall (sp__law_some_word) [] (dCons (dVar 1) (dCons (dVar 3) (dCons (dC (.int 12)) dNil)))) dNil))))) dNil))))
    t_law_10)
def t_law_12 : TSd :=
    (dSeq (dSet 6 (dCall (sp__law_draw) [] (dCons (dVar 1) (dCons (dOp dAdd (dB1 dLen (dVar 5)) (dC (.int 1))) dNil))))
    t_law_11)
def t_law_13 : TSd :=
    (dSeq (dSet 5 (dCall (sp__law_some_word) [] (dCons (dVar 1) (dCons (dVar 3) (dCons (dC (.int 12)) dNil)))))
    t_law_12)
def t_law_14 : TSd :=
    (dSeq (dIfS (dNot (dTest (dCall (sp__law_same) [] (dCons (dCall (sp_is_name) [] (dCons (dVar 4) dNil)) (dCons (dCall (sp__law_is_name) [] (dCons (dVar 4) dNil)) dNil)))))
    (dRet (dC (.bl false)))
    dNext)
    t_law_13)
def t_law_15 : TSd :=
    (dSeq (dSet 4 (dCall (sp__law_pick) [] (dCons (dVar 1) (dCons (dLst (dCons (dOp dIx (dVar 3) (dC (.int 0))) (dCons (dC (.str "a")) (dCons (dOp dRepS (dC (.str "z")) (dC (.int 12))) (dCons (dC (.str "a0")) (dCons (dCall (sp__law_odd_name) [] (dCons (dVar 1) (dCons (dOp dIx (dVar 3) (dC (.int 0))) dNil))) (dCons (dCall (sp__law_odd_name) [] (dCons (dVar 1) (dCons (dOp dIx (dVar 3) (dNeg (dC (.int 1)))) dNil))) dNil))))))) dNil))))
    t_law_14)
def t_law_16 : TSd :=
    (dRet (dOp dEq (dWhy (some 1) n__law_why hs__law_why post__law_why (dCall (sp_word_read) [] (dCons (dVar 14) dNil))) (dLst (dCons (dC (.str "text")) (dCons (dC (.int 0)) (dCons (dC (.int 0)) dNil))))))
def t_law_17 : TSd :=
    (dSeq (dIfS (dTest (dOp dNe (dWhy (some 1) n__law_why hs__law_why post__law_why (dCall (sp_word_read) [] (dCons (dC (.str "")) dNil))) (dLst (dCons (dC (.str "text")) (dCons (dC (.int 1)) (dCons (dC (.int 1)) dNil))))))
    (dRet (dC (.bl false)))
    dNext)
    t_law_16)
def t_law_18 : TSd :=
    (dSeq (dSet 14 (dCall (sp__law_pick) [] (dCons (dVar 1) (dCons (dLst (dCons (dC .non) (dCons (dC (.int 5)) (dCons (dTup dNil) (dCons (dLst (dCons (dC (.str "a")) dNil)) (dCons (dC (.bl true)) (dCons dDNew dNil))))))) dNil))))
    t_law_17)
def t_law_19 : TSd :=
    (dSeq (dFor (dRng1 (dCons (dC (.int 4)) dNil)) (dgName 2)
    (dSeq (dSet 3 (dCall (sp__law_calls) [] (dCons (dVar 1) (dCons (dOp dAdd (dC (.int 1)) (dCall (sp__law_draw) [] (dCons (dVar 1) (dCons (dC (.int 4)) dNil)))) dNil))))
    t_law_15))
    t_law_18)
def t_law : TSd :=
    (dSeq (dSet 1 (dCall (sp__law_pen) [] (dCons (dVar 0) dNil)))
    t_law_19)
theorem d_law (T : Txt P w K mg base cl) {cdv : Value} (LA : LamAt cl base mg cdv ((("law" : Str) ++ (".<locals>." : Str)) ++ ("<lambda>" : Str))) (C__law_before : Callee false P w K mg base 1 "_law_before" ["word"] (spW cl (sp__law_before))) (C__law_bent_words : Callee false P w K mg base 3 "_law_bent_words" ["pen", "words", "more"] (spW cl (sp__law_bent_words))) (C__law_calls : Callee false P w K mg base 4 "_law_calls" ["pen", "many"] (spW cl (sp__law_calls))) (C__law_draw : Callee false P w K mg base 1 "_law_draw" ["pen", "many"] (spW cl (sp__law_draw))) (C__law_first_wrong : Callee false P w K mg base 2 "_law_first_wrong" ["text"] (spW cl (sp__law_first_wrong))) (C__law_is_name : Callee false P w K mg base 1 "_law_is_name" ["value"] (spW cl (sp__law_is_name))) (C__law_is_word : Callee false P w K mg base 2 "_law_is_word" ["value"] (spW cl (sp__law_is_word))) (C__law_odd_name : Callee false P w K mg base 3 "_law_odd_name" ["pen", "name"] (spW cl (sp__law_odd_name))) (C__law_pen : Callee false P w K mg base 1 "_law_pen" ["script"] (spW cl (sp__law_pen))) (C__law_pick : Callee false P w K mg base 2 "_law_pick" ["pen", "some"] (spW cl (sp__law_pick))) (C__law_same : Callee false P w K mg base 2 "_law_same" ["told", "due"] (spW cl (sp__law_same))) (C__law_some_word : Callee false P w K mg base 3 "_law_some_word" ["pen", "calls", "most"] (spW cl (sp__law_some_word))) (C_is_before : Callee false P w K mg base 2 "is_before" ["word", "other"] (spW cl (sp_is_before))) (C_is_name : Callee false P w K mg base 1 "is_name" ["value"] (spW cl (sp_is_name))) (C_is_word : Callee false P w K mg base 2 "is_word" ["value"] (spW cl (sp_is_word))) (C_word_read : Callee false P w K mg base 5 "word_read" ["text"] (spW cl (sp_word_read))) (C_word_text : Callee false P w K mg base 1 "word_text" ["word"] (spW cl (sp_word_text))) (W__law_why : WhyF true P w K mg base cl 6 "_law_why" n__law_why (some 1) (hc__law_why cl) post__law_why) {f : Addr} : ∀ (A : Around) (outer : List PySem.Env) (s : Shared) (H : Hp) (E : XK) (Ew : XSw), RoomG true 7 (cxB P w K mg base n_law "law" s_law f cdv A outer s H E).A → TakesW (cxB P w K mg base n_law "law" s_law f cdv A outer s H E) Ew → DSs (cxB P w K mg base n_law "law" s_law f cdv A outer s H E) Ew cl (defBody s_law) t_law :=
  fun A outer s H E Ew hr tk =>
    have nd : n_law.Nodup := sc_law.nd
    (dss_cons (ds_set (i := 1) nd rfl (by first | exact .inl rfl | exact .inr rfl) (de_call C__law_pen.up tk (hr.mono (by decide)) (by rfl) (da_cons (de_var (wv 0)) da_nil)))
    (dss_cons (ds_for (vs := [2]) PassesOwn.leaving rfl (di_range1 (by rfl) T.b_range (da_cons de_int da_nil)) (wg_name (i := 2) nd rfl (by first | exact .inl rfl | exact .inr rfl)) (gd_name (by decide))
    (dss_cons (ds_set (i := 3) nd rfl (by first | exact .inl rfl | exact .inr rfl) (de_call C__law_calls.up tk (hr.mono (by decide)) (by rfl) (da_cons (de_var (wv 1)) (da_cons (de_op ow_addAll rd_add de_int (de_call C__law_draw.up tk (hr.mono (by decide)) (by rfl) (da_cons (de_var (wv 1)) (da_cons de_int da_nil)))) da_nil))))
    (dss_cons (ds_set (i := 4) nd rfl (by first | exact .inl rfl | exact .inr rfl) (de_call C__law_pick.up tk (hr.mono (by decide)) (by rfl) (da_cons (de_var (wv 1)) (da_cons (de_lst (da_cons (de_ix iw_seq rd_ix (de_var (wv 3)) de_int (fun _ _ => rfl)) (da_cons de_str (da_cons (de_op ow_repS rd_repS de_str de_int) (da_cons de_str (da_cons (de_call C__law_odd_name.up tk (hr.mono (by decide)) (by rfl) (da_cons (de_var (wv 1)) (da_cons (de_ix iw_seq rd_ix (de_var (wv 3)) de_int (fun _ _ => rfl)) da_nil))) (da_cons (de_call C__law_odd_name.up tk (hr.mono (by decide)) (by rfl) (da_cons (de_var (wv 1)) (da_cons (de_ix iw_seq rd_ix (de_var (wv 3)) (de_neg de_int) (fun _ _ => rfl)) da_nil))) da_nil))))))) da_nil))))
    (dss_cons (ds_if (dt_not (dt_val (de_call C__law_same.up tk (hr.mono (by decide)) (by rfl) (da_cons (de_call C_is_name.up tk (hr.mono (by decide)) (by rfl) (da_cons (de_var (wv 4)) da_nil)) (da_cons (de_call C__law_is_name.up tk (hr.mono (by decide)) (by rfl) (da_cons (de_var (wv 4)) da_nil)) da_nil)))))
    (dss_one (ds_ret de_bl))
    dss_nil)
    (dss_cons (ds_set (i := 5) nd rfl (by first | exact .inl rfl | exact .inr rfl) (de_call C__law_some_word.up tk (hr.mono (by decide)) (by rfl) (da_cons (de_var (wv 1)) (da_cons (de_var (wv 3)) (da_cons de_int da_nil)))))
    (dss_cons (ds_set (i := 6) nd rfl (by first | exact .inl rfl | exact .inr rfl) (de_call C__law_draw.up tk (hr.mono (by decide)) (by rfl) (da_cons (de_var (wv 1)) (da_cons (de_op ow_addAll rd_add (de_b1 cw_len rd_len (by rfl) T.b_len (by decide +kernel) (de_var (wv 5))) de_int) da_nil))))
    (dss_cons (ds_set (i := 7) nd rfl (by first | exact .inl rfl | exact .inr rfl) (de_call C__law_pick.up tk (hr.mono (by decide)) (by rfl) (da_cons (de_var (wv 1)) (da_cons (de_lst (da_cons (de_var (wv 5)) (da_cons (de_slice (de_var (wv 5)) dp_none (dp_some (de_var (wv 6)))) (da_cons (de_op ow_addAll rd_add (de_op ow_addAll rd_add (de_slice (de_var (wv 5)) dp_none (dp_some (de_var (wv 6)))) (de_tup (da_cons (de_call C__law_pick.up tk (hr.mono (by decide)) (by rfl) (da_cons (de_var (wv 1)) (da_cons (de_var (wv 3)) da_nil))) da_nil))) (de_slice (de_var (wv 5)) (dp_some (de_op ow_addAll rd_add (de_var (wv 6)) de_int)) dp_none)) (da_cons (de_call C__law_some_word.up tk (hr.mono (by decide)) (by rfl) (da_cons (de_var (wv 1)) (da_cons (de_var (wv 3)) (da_cons de_int da_nil)))) da_nil))))) da_nil))))
    (dss_cons (ds_if (dt_not (dt_val (de_call C__law_same.up tk (hr.mono (by decide)) (by rfl) (da_cons (de_call C_is_before.up tk (hr.mono (by decide)) (by rfl) (da_cons (de_var (wv 5)) (da_cons (de_var (wv 7)) da_nil))) (da_cons (de_cmp (ow_ltD hr.units) rd_lt (de_call C__law_before.up tk (hr.mono (by decide)) (by rfl) (da_cons (de_var (wv 5)) da_nil)) (de_call C__law_before.up tk (hr.mono (by decide)) (by rfl) (da_cons (de_var (wv 7)) da_nil)) (nomark _)) da_nil)))))
    (dss_one (ds_ret de_bl))
    dss_nil)
    (dss_cons (ds_if (dt_not (dt_val (de_call C__law_same.up tk (hr.mono (by decide)) (by rfl) (da_cons (de_call C_is_before.up tk (hr.mono (by decide)) (by rfl) (da_cons (de_t1 cw_list rd_list (by rfl) T.b_list (by decide +kernel) (de_var (wv 7))) (da_cons (de_var (wv 5)) da_nil))) (da_cons (de_cmp (ow_ltD hr.units) rd_lt (de_call C__law_before.up tk (hr.mono (by decide)) (by rfl) (da_cons (de_var (wv 7)) da_nil)) (de_call C__law_before.up tk (hr.mono (by decide)) (by rfl) (da_cons (de_var (wv 5)) da_nil)) (nomark _)) da_nil)))))
    (dss_one (ds_ret de_bl))
    dss_nil)
    (dss_cons (ds_for (vs := [8]) PassesOwn.leaving rfl (di_it (de_lst (da_cons (de_var (wv 5)) (da_cons (de_var (wv 7)) (da_cons (de_t1 cw_list rd_list (by rfl) T.b_list (by decide +kernel) (de_var (wv 5))) (da_cons de_non (da_cons de_int (da_cons (de_ix iw_seq rd_ix (de_var (wv 3)) de_int (fun _ _ => rfl)) (da_cons (de_op ow_addAll rd_add (de_var (wv 5)) (de_tup (da_cons (de_call C__law_odd_name.up tk (hr.mono (by decide)) (by rfl) (da_cons (de_var (wv 1)) (da_cons (de_ix iw_seq rd_ix (de_var (wv 3)) de_int (fun _ _ => rfl)) da_nil))) da_nil))) (da_cons (de_tup (da_cons de_non da_nil)) (da_cons de_dnewK da_nil))))))))))) (wg_name (i := 8) nd rfl (by first | exact .inl rfl | exact .inr rfl)) (gd_name (by decide))
    (dss_one (ds_if (dt_not (dt_val (de_call C__law_same.up tk (hr.mono (by decide)) (by rfl) (da_cons (de_call C_is_word.up tk (hr.mono (by decide)) (by rfl) (da_cons (de_var (wv 8)) da_nil)) (da_cons (de_call C__law_is_word.up tk (hr.mono (by decide)) (by rfl) (da_cons (de_var (wv 8)) da_nil)) da_nil)))))
    (dss_one (ds_ret de_bl))
    dss_nil)))
    (dss_cons (ds_set (i := 9) nd rfl (by first | exact .inl rfl | exact .inr rfl) (de_if (dt_cmp (ow_neB hr.units) rd_ne (de_var (wv 5)) (de_tup da_nil) (nomark _)) (de_ms PySem.F.slot_str_join PySem.F.type_str_join mw_join rd_join de_str (de_var (wv 5))) de_str))
    (dss_cons (ds_if (DW.dt (dw_or (dt_cmp (ow_neB hr.units) rd_ne (de_call C_word_text.up tk (hr.mono (by decide)) (by rfl) (da_cons (de_var (wv 5)) da_nil)) (de_var (wv 9)) (nomark _)) (dw_or (dt_cmp (ow_neB hr.units) rd_ne (de_call C_word_text.up tk (hr.mono (by decide)) (by rfl) (da_cons (de_t1 cw_list rd_list (by rfl) T.b_list (by decide +kernel) (de_var (wv 5))) da_nil)) (de_var (wv 9)) (nomark _)) (dw_or1 (dt_cmp (ow_neB hr.units) rd_ne (de_b1 (cw_repr hr.units (hr.gd rfl)) rd_repr (by rfl) T.b_repr (by decide +kernel) (de_call C_word_read.up tk (hr.mono (by decide)) (by rfl) (da_cons (de_var (wv 9)) da_nil))) (de_b1 (cw_repr hr.units (hr.gd rfl)) rd_repr (by rfl) T.b_repr (by decide +kernel) (de_var (wv 5))) (nomark _))))))
    (dss_one (ds_ret de_bl))
    dss_nil)
    (dss_cons (ds_set (i := 10) nd rfl (by first | exact .inl rfl | exact .inr rfl) (de_ms PySem.F.slot_str_split PySem.F.type_str_split mw_split rd_split (de_var (wv 9)) de_str))
    (dss_one (ds_for (vs := [11]) PassesOwn.leaving rfl (di_range1 (by rfl) T.b_range (da_cons de_int da_nil)) (wg_name (i := 11) nd rfl (by first | exact .inl rfl | exact .inr rfl)) (gd_name (by decide))
    (dss_cons (ds_set (i := 10) nd rfl (by first | exact .inl rfl | exact .inr rfl) (de_call C__law_bent_words.up tk (hr.mono (by decide)) (by rfl) (da_cons (de_var (wv 1)) (da_cons (de_var (wv 10)) (da_cons (de_op ow_addAll rd_add (de_t1 cw_list rd_list (by rfl) T.b_list (by decide +kernel) (de_var (wv 3))) (de_lst (da_cons de_str (da_cons de_str (da_cons (de_op ow_addAll rd_add (de_op ow_addAll rd_add (de_ix iw_seq rd_ix (de_var (wv 3)) de_int (fun _ _ => rfl)) de_str) (de_ix iw_seq rd_ix (de_var (wv 3)) de_int (fun _ _ => rfl))) da_nil))))) da_nil)))))
    (dss_cons (ds_set (i := 12) nd rfl (by first | exact .inl rfl | exact .inr rfl) (de_ms PySem.F.slot_str_join PySem.F.type_str_join mw_join rd_join de_str (de_var (wv 10))))
    (dss_cons (ds_set (i := 13) nd rfl (by first | exact .inl rfl | exact .inr rfl) (de_call C__law_first_wrong.up tk (hr.mono (by decide)) (by rfl) (da_cons (de_var (wv 12)) da_nil)))
    (dss_cons (ds_if (dt_cmp (ow_neB hr.units) rd_ne (de_why W__law_why (by rfl) LA (hr.mono (by decide)) (by rfl) (by rfl) (fun _ _ _ _ _ => rfl) (fun A outer s H Ek E f c1 tk hr => (de_call C_word_read tk (hr.mono (by decide)) (by rfl) (da_cons (de_var (wv 12)) da_nil)))) (de_var (wv 13)) (nomark _))
    (dss_one (ds_ret de_bl))
    dss_nil)
    (dss_one (ds_if (DW.dt (dw_and (dt_cmp ow_isN rd_isN (de_var (wv 13)) de_non (nomark _)) (dw_and1 (dt_cmp (ow_neB hr.units) rd_ne (de_call C_word_text.up tk (hr.mono (by decide)) (by rfl) (da_cons (de_call C_word_read.up tk (hr.mono (by decide)) (by rfl) (da_cons (de_var (wv 12)) da_nil)) da_nil)) (de_var (wv 12)) (nomark _)))))
    (dss_one (ds_ret de_bl))
    dss_nil)))))))))))))))))))))
    (dss_cons (ds_set (i := 14) nd rfl (by first | exact .inl rfl | exact .inr rfl) (de_call C__law_pick.up tk (hr.mono (by decide)) (by rfl) (da_cons (de_var (wv 1)) (da_cons (de_lst (da_cons de_non (da_cons de_int (da_cons (de_tup da_nil) (da_cons (de_lst (da_cons de_str da_nil)) (da_cons de_bl (da_cons de_dnewK da_nil))))))) da_nil))))
    (dss_cons (ds_if (dt_cmp (ow_neB hr.units) rd_ne (de_why W__law_why (by rfl) LA (hr.mono (by decide)) (by rfl) (by rfl) (fun _ _ _ _ _ => rfl) (fun A outer s H Ek E f c1 tk hr => (de_call C_word_read tk (hr.mono (by decide)) (by rfl) (da_cons de_str da_nil)))) (de_lst (da_cons de_str (da_cons de_int (da_cons de_int da_nil)))) (nomark _))
    (dss_one (ds_ret de_bl))
    dss_nil)
    (dss_one (ds_ret (de_cmp (ow_eqB hr.units) rd_eq (de_why W__law_why (by rfl) LA (hr.mono (by decide)) (by rfl) (by rfl) (fun _ _ _ _ _ => rfl) (fun A outer s H Ek E f c1 tk hr => (de_call C_word_read tk (hr.mono (by decide)) (by rfl) (da_cons (de_var (wv 14)) da_nil)))) (de_lst (da_cons de_str (da_cons de_int (da_cons de_int da_nil)))) (nomark _))))))))

end
end Dx

set_option Elab.async false
set_option linter.all false
set_option maxRecDepth 100000
set_option maxHeartbeats 4000000
namespace Dx
open PySem L2 Wx
theorem atI_0 {α : Type} {a : α} {l : List α} : L2.atI (a :: l) 0 = some a := by
  exact atI_nat (j := 0) (xs := a :: l) rfl
theorem str_len_list {z : Str} : z.length = z.cps.toList.length := by simp [Str.length]
theorem isNm_iff {z : Str} {c : Nat} {r : List Nat} (e : z.cps.toList = c :: r) : isNm z = (decide (z.length ≤ 12) && (decide (c ∈ letters) && z.cps.toList.all fun c => decide (c ∈ letters) || decide (c ∈ figures))) := by
  unfold isNm
  have : 1 ≤ z.length := by rw [str_len_list, e]; simp
  rw [e, decide_eq_true this]
  simp [Bool.and_assoc]
theorem bls_all {f : Nat → Bool} {l : List Nat} : (l.map fun c => D.bl (f c)) = (l.map f).map D.bl := by rw [List.map_map]; rfl
theorem rd_is_name : ∀ ds n Q X, sp_is_name ds n Q X → t_is_name (endF Q X) (start n_is_name ds) n := by
  rintro ds n Q X ⟨d, rfl, hg, q⟩
  cases d <;> simp [gv] at hg
  case str z =>
    simp [t_is_name, start, endF, tyD, isiB, sizeLine_eq]
    refine ⟨by omega, ?_⟩
    cases e : z.cps.toList with
    | nil =>
      have h0 : z.length = 0 := by rw [str_len_list, e]; rfl
      have : isNameD (.str z) = false := by simp [isNameD, isNm, h0]
      rw [this] at q
      simpa [h0] using q
    | cons c r =>
      have h1 : 1 ≤ (z.length : Int) := by rw [str_len_list, e]; simp; omega
      rw [if_pos h1]
      have en : isNameD (.str z) = isNm z := rfl
      rw [en, isNm_iff e] at q
      split
      · rename_i h12
        refine ⟨by omega, c, atI_0, ?_⟩
        have h12' : decide (z.length ≤ 12) = true := decide_eq_true (by omega)
        rw [h12', Bool.true_and] at q
        split
        · rename_i hc
          have hc' : decide (c ∈ letters) = true := decide_eq_true (by simpa [letters] using hc)
          rw [hc', Bool.true_and] at q
          rw [← e]
          refine dlc_map (f := fun d => match d with
            | .str x => .bl (match x.cps.toList with | [c] => decide (c ∈ letters) || decide (c ∈ figures) | _ => false)
            | _ => .non) (by simp [sizeLine_eq]; rw [str_len_list] at hg; simp at hg; omega) ?_ ?_
          · intro d hd K1 k
            obtain ⟨c', hc', rfl⟩ := List.mem_map.mp hd
            by_cases h : c' ∈ ("abcdefghijklmnopqrstuvwxyz" : Str).cps
            · simp [wipeD, h]
              have := k [some (.leaf (.str z)), some (.leaf (.str ⟨#[c']⟩))] rfl
              simpa [letters, figures, h] using this
            · simp [wipeD, h]
              have := k [some (.leaf (.str z)), some (.leaf (.str ⟨#[c']⟩))] rfl
              simpa [letters, figures, h] using this
          · refine ⟨z.cps.toList.map fun c => decide (c ∈ letters) || decide (c ∈ figures), ?_, ?_⟩
            · simp [Function.comp_def]
            · simpa [Function.comp_def] using q
        · rename_i hc
          have hc' : decide (c ∈ letters) = false := decide_eq_false (by simpa [letters] using hc)
          rw [hc', Bool.false_and] at q
          exact q
      · rename_i h12
        have h12' : decide (z.length ≤ 12) = false := decide_eq_false (by omega)
        rw [h12', Bool.false_and] at q
        exact q
  all_goals (simp [t_is_name, start, endF, tyD, isiB, sizeLine_eq]; simpa [isNameD] using q)
end Dx

set_option Elab.async false
set_option linter.all false
set_option maxRecDepth 100000
set_option maxHeartbeats 4000000
namespace Dx
open PySem L2 Wx
theorem rd_is_word : ∀ ds n Q X, sp_is_word ds n Q X → t_is_word (endF Q X) (start n_is_word ds) n := by
  rintro ds n Q X ⟨d, rfl, hg, q⟩
  cases d <;> simp [gw, gv] at hg
  case tup xs =>
    simp [t_is_word, start, endF, tyD, isiB, sizeLine_eq]
    refine dlc_map (f := fun d => .bl (isNameD d)) (by rw [sizeLine_eq]; omega) (fun d hd K1 k => ?_) ?_
    · simp [wipeD]
      exact ⟨d, rfl, hg.2 d hd, k _ rfl⟩
    · exact ⟨xs.map isNameD, by simp [Function.comp_def], by simpa [isWordD, Function.comp_def] using q⟩
  all_goals (simp [t_is_word, start, endF, tyD, isiB, sizeLine_eq]; simpa [isWordD] using q)
theorem rd_length_first : ∀ ds n Q X, sp_length_first ds n Q X → t_length_first (endF Q X) (start n_length_first ds) n := by
  rintro ds n Q X ⟨d, xs, rfl, hs, q⟩
  cases d <;> cases hs
  all_goals (simp [t_length_first, start, endF, sizeLine_eq]; exact q)
theorem rd__law_before : ∀ ds n Q X, sp__law_before ds n Q X → t__law_before (endF Q X) (start n__law_before ds) n := by
  rintro ds n Q X ⟨xs, rfl, q⟩
  simp [t__law_before, start, endF, sizeLine_eq]
  exact q
theorem toPys_strs {xs : List Str} : toPys (xs.map .str) = xs.map .str := by
  induction xs with
  | nil => simp [toPys]
  | cons x r ih => simp [toPys, toPy, ih]
theorem okds_strs {n : Nat} {xs : List Str} (h : ∀ x ∈ xs, PyData.strOk x = true) : okds n (xs.map .str) = true := by
  induction xs with
  | nil => simp [okds]
  | cons x r ih =>
    simp only [List.map_cons, okds, okd, Bool.and_eq_true]
    exact ⟨h x List.mem_cons_self, ih fun y hy => h y (List.mem_cons_of_mem _ hy)⟩
theorem okd_lenD {xs : List Str} (h : ∀ x ∈ xs, PyData.strOk x = true) : okd 60 (lenD (xs.map .str)) = true := by
  simp [lenD, okd, okds, okds_strs h]
theorem alike_strs : ∀ {xs ys : List Str}, PySem.W.alikeAll (xs.map PyData.str) (ys.map PyData.str) = true
  | [], _ => by simp [PySem.W.alikeAll]
  | _ :: _, [] => by simp [PySem.W.alikeAll]
  | x :: xs, y :: ys => by simp [PySem.W.alikeAll, PySem.W.alike, alike_strs]
theorem alike_lenD {xs ys : List Str} : alikeD (lenD (xs.map .str)) (lenD (ys.map .str)) = true := by
  simp [alikeD, lenD, toPy, toPys, toPys_strs, PySem.W.alike, PySem.W.alikeAll, alike_strs]
theorem rd_is_before : ∀ ds n Q X, sp_is_before ds n Q X → t_is_before (endF Q X) (start n_is_before ds) n := by
  rintro ds n Q X ⟨d, e, xs, ys, rfl, hx, hy, ox, oy, q⟩
  simp [t_is_before, start, endF, sizeLine_eq]
  refine ⟨d, _, rfl, hx, ?_⟩
  simp
  refine ⟨e, _, rfl, hy, ?_⟩
  simp
  refine ⟨by simpa using okd_lenD ox, by simpa using okd_lenD oy, by simpa using alike_lenD, by simp [lenD], by simpa using q⟩
theorem rd_word_text : ∀ ds n Q X, sp_word_text ds n Q X → t_word_text (endF Q X) (start n_word_text ds) n := by
  rintro ds n Q X ⟨d, xs, rfl, hs, l1, l2, q⟩
  have hj : (xs.map (·.length)).sum + xs.length * (" " : Str).length ≤ 16777216 := by
    have : (xs.map (·.length)).sum ≤ xs.length * 1000 := by
      clear q hs l1
      induction xs with
      | nil => simp
      | cons x r ih =>
        have := ih fun y hy => l2 y (List.mem_cons_of_mem _ hy)
        have := l2 x List.mem_cons_self
        simp
        omega
    have e : (" " : Str).length = 1 := rfl
    rw [e]
    omega
  have key : (if xs.length = 0 then Q (.leaf (.str "_")) n else Q (.leaf (.str (Txt.join " " xs))) n) := by
    cases xs with
    | nil => simpa [textOf] using q
    | cons x r => simpa [textOf] using q
  cases d <;> cases hs
  all_goals
    simp [t_word_text, start, endF, sizeLine_eq]
    split
    · rename_i h
      rw [if_pos (by rw [h]; rfl)] at key
      exact key
    · rename_i h
      rw [if_neg (by cases xs <;> simp at h ⊢)] at key
      exact ⟨xs, rfl, hj, key⟩
theorem le_sum_mem : ∀ {l : List Nat} {a : Nat}, a ∈ l → a ≤ l.sum
  | x :: r, a, h => by
    rcases List.mem_cons.mp h with rfl | h
    · simp
    · have := le_sum_mem h
      simp
      omega
theorem split_short {z : Str} (c : Nat) : (Txt.split z ⟨#[c]⟩).length ≤ z.length + 1 ∧ ∀ x ∈ Txt.split z ⟨#[c]⟩, x.length ≤ z.length := by
  have h := PyProof.Rows.split_weight z ⟨#[c]⟩ (by simp [Str.length])
  have hp := PyProof.Rows.split_pos z ⟨#[c]⟩
  refine ⟨by omega, fun x hx => ?_⟩
  have hm : x.length ≤ ((Txt.split z ⟨#[c]⟩).map (·.length)).sum := by
    have : x.length ∈ (Txt.split z ⟨#[c]⟩).map (·.length) := List.mem_map.mpr ⟨x, hx, rfl⟩
    exact le_sum_mem this
  omega
theorem rd_rows_of : ∀ ds n Q X, sp_rows_of ds n Q X → t_rows_of (endF Q X) (start n_rows_of ds) n := by
  rintro ds n Q X ⟨d, rfl, hg, q⟩
  cases d <;> simp [gv] at hg
  case str z =>
    simp [t_rows_of, start, endF, tyD, isiB, sizeLine_eq]
    obtain ⟨s1, s2⟩ := split_short (z := z) 10
    refine ⟨by decide, by omega, ?_⟩
    refine dlc_map (f := fun d => match d with
      | .str l => .lst ((Txt.split l " ").map .str)
      | _ => .non) (by rw [sizeLine_eq]; simp; exact Nat.le_trans s1 (by omega)) (fun d hd K1 k => ?_) ?_
    · obtain ⟨l, hl, rfl⟩ := List.mem_map.mp hd
      have := s2 l hl
      simp [wipeD, sizeLine_eq]
      exact ⟨by decide, by omega, k _ rfl⟩
    · simpa [rowsOf, Function.comp_def] using q
  all_goals (simp [t_rows_of, start, endF, tyD, isiB, sizeLine_eq]; exact q)
end Dx

set_option Elab.async false
set_option linter.all false
set_option maxRecDepth 100000
set_option maxHeartbeats 4000000
namespace Dx
open PySem L2 Wx
theorem rd_Cursor_init : ∀ a fs os ds n Q X, sp_Cursor_init fs os ds n Q X → t_Cursor_init (endM a "Cursor" Q X) (startM n_Cursor_init a "Cursor" fs os ds) n := by
  rintro a fs os ds n Q X ⟨rfl, rfl, rows, rfl, q⟩
  simp [t_Cursor_init, startM, endM, sizeLine_eq, dSetFld_eq', putN, putO]
  exact q
theorem rd_Cursor_seen : ∀ a fs os ds n Q X, sp_Cursor_seen fs os ds n Q X → t_Cursor_seen (endM a "Cursor" Q X) (startM n_Cursor_seen a "Cursor" fs os ds) n := by
  rintro a fs os ds n Q X ⟨rows, l, b, rfl, rfl, rfl, ⟨hl, hb, hr, row, er, lr, hs⟩, q⟩
  obtain ⟨l, rfl⟩ := Int.eq_ofNat_of_zero_le hl
  obtain ⟨b, rfl⟩ := Int.eq_ofNat_of_zero_le hb
  simp [t_Cursor_seen, startM, endM, sizeLine_eq, lookF]
  refine ⟨_, atI_nat (by simpa using er), ?_⟩
  have es : seenD rows l b = (row[b]?).getD .non := by
    simp at er
    simp [seenD, er]
  rw [es] at q
  simp [lookF]
  split
  · rename_i h
    refine ⟨row[b], atI_nat (by simp), ?_⟩
    simpa [h] using q
  · rename_i h
    rw [List.getElem?_eq_none (by omega)] at q
    simpa using q
theorem rd_Cursor_refuse : ∀ a fs os ds n Q X, sp_Cursor_refuse fs os ds n Q X → t_Cursor_refuse (endM a "Cursor" Q X) (startM n_Cursor_refuse a "Cursor" fs os ds) n := by
  rintro a fs os ds n Q X ⟨rows, l, b, rfl, rfl, rfl, q⟩
  simp [t_Cursor_refuse, startM, endM, sizeLine_eq, lookF]
  exact q
theorem rd_Cursor_take : ∀ a fs os ds n Q X, sp_Cursor_take fs os ds n Q X → t_Cursor_take (endM a "Cursor" Q X) (startM n_Cursor_take a "Cursor" fs os ds) n := by
  rintro a fs os ds n Q X ⟨rows, l, b, rfl, rfl, rfl, hc, q⟩
  simp [t_Cursor_take, startM, endM, sizeLine_eq, lookF]
  refine ⟨rows, l, b, rfl, rfl, rfl, hc, ?_⟩
  obtain ⟨hl, hb, hr, row, er, lr, hs⟩ := hc
  have two : seenD rows l b = .non ∨ ∃ z : Str, seenD rows l b = .str z ∧ z.length ≤ 1000000 := by
    unfold seenD
    rw [er]
    cases e : row[b.toNat]? with
    | none => exact .inl (by simp [e])
    | some d =>
      obtain ⟨z, rfl, hz⟩ := hs d (List.mem_of_getElem? e)
      exact .inr ⟨z, by simp [e], hz⟩
  rcases two with e | ⟨z, e, hz⟩
  · rw [e] at q ⊢
    simp [isNameD] at q
    simp
    exact ⟨rows, l, b, rfl, rfl, rfl, q⟩
  · rw [e] at q ⊢
    simp
    refine ⟨.str z, rfl, by simpa [gv] using hz, ?_⟩
    cases hn : isNameD (.str z) with
    | true =>
      rw [hn, if_pos rfl] at q
      simpa [lookF, putN, putO] using q
    | false =>
      rw [hn, if_neg (by simp)] at q
      simp
      exact ⟨rows, l, b, rfl, rfl, rfl, q⟩
theorem rd_Cursor_goes_on : ∀ a fs os ds n Q X, sp_Cursor_goes_on fs os ds n Q X → t_Cursor_goes_on (endM a "Cursor" Q X) (startM n_Cursor_goes_on a "Cursor" fs os ds) n := by
  rintro a fs os ds n Q X ⟨rows, l, b, e, f, rfl, rfl, rfl, hc, q⟩
  simp [t_Cursor_goes_on, startM, endM, sizeLine_eq, lookF]
  refine ⟨rows, l, b, rfl, rfl, rfl, hc, ?_⟩
  obtain ⟨hl, hb, hr, row, er, lr, hs⟩ := hc
  have two : (seenD rows l b = .non ∧ isN (.leaf (seenD rows l b)) = true) ∨ (seenD rows l b ≠ .non ∧ isN (.leaf (seenD rows l b)) = false) := by
    unfold seenD
    rw [er]
    cases e : row[b.toNat]? with
    | none => exact .inl (by simp [e])
    | some d =>
      obtain ⟨z, rfl, hz⟩ := hs d (List.mem_of_getElem? e)
      exact .inr (by simp [e])
  have rf : ∀ K, btM (b + 1) (l + 1) X fsC (curO rows l b) n → sp_Cursor_refuse fsC (curO rows l b) [] n K (fun D gs es fs' os' n3 => X D gs es fs' os' n3) := fun K q => ⟨rows, l, b, rfl, rfl, rfl, q⟩
  rcases two with ⟨e1, e2⟩ | ⟨e1, e2⟩
  · by_cases hlast : l + 1 = (rows.length : Int)
    · cases e <;> cases f <;> simp [e1, e2, hlast] at q ⊢ <;> first | exact q | exact ⟨rows, l, b, rfl, rfl, rfl, by simpa [hlast] using q⟩
    · cases e <;> cases f <;> simp [e1, e2, hlast, lookF, putN, putO, dSetFld_eq'] at q ⊢ <;> first | exact q | exact ⟨rows, l, b, rfl, rfl, rfl, by simpa [hlast] using q⟩
  · simp [e1, e2] at q ⊢
    exact ⟨rows, l, b, rfl, rfl, rfl, q⟩
end Dx

set_option Elab.async false
set_option linter.all false
set_option maxRecDepth 100000
set_option maxHeartbeats 4000000
namespace Dx
open PySem L2 Wx
theorem split_ne {z : Str} {c : Nat} : ∃ l r, Txt.split z ⟨#[c]⟩ = l :: r := by
  have hp := PyProof.Rows.split_pos z ⟨#[c]⟩
  cases e : Txt.split z ⟨#[c]⟩ with
  | nil => rw [e] at hp; simp at hp
  | cons l r => exact ⟨l, r, rfl⟩
theorem row0 {z : Str} : (rowsOf z)[0]? = some (.lst ((lineOf z).map .str)) ∧ (rowsOf z).length = (Txt.split z "\n").length ∧ lineOf z ≠ [] := by
  obtain ⟨l, r, e⟩ := split_ne (z := z) (c := 10)
  have e : Txt.split z "\n" = l :: r := e
  unfold rowsOf lineOf
  rw [e]
  obtain ⟨l2, r2, e2⟩ := split_ne (z := l) (c := 32)
  have e2 : Txt.split l " " = l2 :: r2 := e2
  simp [e2]
theorem line_len {z : Str} : (lineOf z).length ≤ z.length + 1 ∧ ∀ x ∈ lineOf z, x.length ≤ z.length := by
  obtain ⟨l, r, e⟩ := split_ne (z := z) (c := 10)
  obtain ⟨a1, a2⟩ := split_short (z := z) 10
  rw [e] at a1 a2
  have e : Txt.split z "\n" = l :: r := e
  have hl := a2 l List.mem_cons_self
  have el : lineOf z = Txt.split l ⟨#[32]⟩ := by
    unfold lineOf
    rw [e]
    rfl
  obtain ⟨b1, b2⟩ := split_short (z := l) 32
  rw [el]
  exact ⟨by omega, fun x hx => Nat.le_trans (b2 x hx) hl⟩
theorem seen0 {z : Str} {k : Nat} : seenD (rowsOf z) 0 (k : Nat) = match (lineOf z)[k]? with | some w => .str w | none => .non := by
  simp [seenD, row0.1]
  cases e : (lineOf z)[k]? <;> simp
theorem cur0 {z : Str} {k : Nat} (hz : z.length ≤ 100000) : curOk (rowsOf z) 0 (k : Nat) := by
  obtain ⟨r1, r2, r3⟩ := row0 (z := z)
  obtain ⟨l1, l2⟩ := line_len (z := z)
  have := (split_short (z := z) 10).1
  have r2 : (rowsOf z).length = (Txt.split z ⟨#[10]⟩).length := r2
  refine ⟨by omega, by omega, by omega, _, by simpa using r1, by simp; omega, fun d hd => ?_⟩
  obtain ⟨w, hw, rfl⟩ := List.mem_map.mp hd
  exact ⟨w, rfl, Nat.le_trans (l2 w hw) (by omega)⟩
/-- the end of the line -/
theorem goes_end {z : Str} {k n : Nat} {Q : QM} {X : XM} (hz : z.length ≤ 100000)
    (h1 : ((lineOf z)[k]? ≠ none ∨ (Txt.split z "\n").length ≠ 1) → btM (k + 1) 1 X fsC (curO (rowsOf z) 0 k) n) (h2 : (lineOf z)[k]? = none → (Txt.split z "\n").length = 1 → Q (.leaf (.bl false)) fsC (curO (rowsOf z) 0 k) n) :
    sp_Cursor_goes_on fsC (curO (rowsOf z) 0 k) [.bl true, .bl false] n Q X := by
  refine ⟨rowsOf z, 0, k, true, false, rfl, rfl, rfl, cur0 hz, ?_⟩
  have el : (rowsOf z).length = (Txt.split z "\n").length := row0.2.1
  have eq1 : decide ((0 : Int) + 1 = ((rowsOf z).length : Nat)) = decide ((Txt.split z "\n").length = 1) := by
    rw [el]
    congr 1
    apply propext
    omega
  simp only [eq1]
  rw [seen0]
  cases e : (lineOf z)[k]? with
  | some w =>
    simp
    exact h1 (.inl (by rw [e]; simp))
  | none =>
    by_cases hl : (Txt.split z "\n").length = 1
    · simp [hl]
      exact h2 e hl
    · simp [hl]
      exact h1 (.inr hl)
theorem badAt_cons {w : Str} {r : List Str} {k : Nat} : badAt (w :: r) k = if isNm w = true then badAt r (k + 1) else some k := rfl
theorem rd_word_read : ∀ ds n Q X, sp_word_read ds n Q X → t_word_read (endF Q X) (start n_word_read ds) n := by
  rintro ds n Q X ⟨d, rfl, hg, q⟩
  simp [t_word_read, start, endF, sizeLine_eq]
  refine ⟨d, rfl, hg, ?_⟩
  cases d <;> simp [gv] at hg <;> try exact q
  rename_i z
  obtain ⟨hz, q⟩ := q
  simp
  refine ⟨rfl, rfl, rowsOf z, rfl, ?_⟩
  simp
  refine ⟨_, 0, 0, rfl, rfl, rfl, cur0 (k := 0) hz, ?_⟩
  have s0 : seenD (rowsOf z) 0 0 = match (lineOf z)[0]? with | some w => .str w | none => .non := seen0 (k := 0)
  obtain ⟨r1, r2, r3⟩ := row0 (z := z)
  obtain ⟨w0, W, eW⟩ : ∃ w0 W, lineOf z = w0 :: W := by
    cases e : lineOf z with
    | nil => exact absurd e r3
    | cons w0 W => exact ⟨w0, W, rfl⟩
  rw [eW] at s0
  simp at s0
  rw [s0]
  simp
  have tail : ∀ (k : Nat) (ds : List D), ((lineOf z)[k]? ≠ none ∨ (Txt.split z "\n").length ≠ 1 → bt (k + 1) 1 X n) → ((lineOf z)[k]? = none → (Txt.split z "\n").length = 1 → Q (.leaf (.tup ds)) n) →
      sp_Cursor_goes_on fsC (curO (rowsOf z) 0 k) [.bl true, .bl false] n (fun r fs' os' n3 => Q (.leaf (.tup ds)) n3) (fun D gs es fs' os' n3 => X D gs es n3) :=
    fun k ds h1 h2 => goes_end hz (fun h => h1 h) fun h h' => h2 h h'
  by_cases h0 : w0 = "_"
  · have fw : firstWrong z = if W = [] ∧ (Txt.split z "\n").length = 1 then none else some 2 := by
      unfold firstWrong
      rw [eW]
      simp [h0]
    rw [fw] at q
    simp [h0, cd_EMPTY, dSetFld_eq', putN, putO]
    refine tail 1 [] (fun h => ?_) (fun h h' => ?_)
    · rw [if_neg] at q
      · exact q
      · rw [eW] at h
        rintro ⟨e1, e2⟩
        rw [e1] at h
        rcases h with h | h
        · simp at h
        · exact h e2
    · rw [eW] at h
      simp at h
      rw [if_pos ⟨h, h'⟩] at q
      simpa [wordOf, eW, h0] using q
  · have fw : firstWrong z = match badAt (lineOf z) 1 with
        | some k => some k
        | none => if (Txt.split z "\n").length = 1 then none else some ((lineOf z).length + 1) := by
      unfold firstWrong
      rw [eW]
      simp [h0]
      all_goals (cases badAt (w0 :: W) 1 <;> rfl)
    have ww : wordOf z = lineOf z := by
      unfold wordOf
      rw [eW]
      simp [h0]
    rw [fw, ww] at q
    have hlen := (line_len (z := z)).1
    -- the bad word
    have bad : ∀ k w, (lineOf z)[k]? = some w → isNm w = false → badAt (lineOf z) 1 = badAt ((lineOf z).drop k) (k + 1) → bt (k + 1) 1 X n := by
      intro k w e hn hb
      have hd : (lineOf z).drop k = w :: (lineOf z).drop (k + 1) := by
        rw [List.drop_eq_getElem_cons (List.getElem?_eq_some_iff.mp e).1]
        rw [(List.getElem?_eq_some_iff.mp e).2]
      rw [hd, badAt_cons, if_neg (by rw [hn]; simp)] at hb
      rw [hb] at q
      simpa using q
    have good : ∀ k w, (lineOf z)[k]? = some w → isNm w = true → badAt (lineOf z) 1 = badAt ((lineOf z).drop k) (k + 1) → badAt (lineOf z) 1 = badAt ((lineOf z).drop (k + 1)) (k + 1 + 1) := by
      intro k w e hn hb
      have hd : (lineOf z).drop k = w :: (lineOf z).drop (k + 1) := by
        rw [List.drop_eq_getElem_cons (List.getElem?_eq_some_iff.mp e).1]
        rw [(List.getElem?_eq_some_iff.mp e).2]
      rw [hd] at hb
      rw [hb]
      show (if isNm w = true then badAt ((lineOf z).drop (k + 1)) (k + 1 + 1) else some (k + 1)) = _
      rw [if_pos hn]
    have take : ∀ (k : Nat) (w : Str) (K : QM), (lineOf z)[k]? = some w → badAt (lineOf z) 1 = badAt ((lineOf z).drop k) (k + 1) → (isNm w = true → badAt (lineOf z) 1 = badAt ((lineOf z).drop (k + 1)) (k + 1 + 1) → K (.leaf (.str w)) fsC (curO (rowsOf z) 0 ((k + 1 : Nat) : Int)) n) →
        sp_Cursor_take fsC (curO (rowsOf z) 0 k) [.glb "is_name"] n K (fun D gs es fs' os' n3 => X D gs es n3) := by
      intro k w K e hb h
      refine ⟨rowsOf z, 0, k, rfl, rfl, rfl, cur0 hz, ?_⟩
      rw [seen0, e]
      show if isNm w = true then _ else _
      cases hn : isNm w with
      | true =>
        rw [if_pos rfl]
        exact h hn (good k w e hn hb)
      | false =>
        rw [if_neg (by simp)]
        exact bad k w e hn hb
    have e0 : (lineOf z)[0]? = some w0 := by rw [eW]; rfl
    simp [h0, cd_EMPTY]
    refine take 0 w0 _ e0 rfl fun hn hb => ⟨by rw [sizeLine_eq]; omega, ?_⟩
    refine ⟨fun m ρ' n' => ∃ k, 1 ≤ k ∧ k ≤ (lineOf z).length ∧ m = (lineOf z).length - k ∧ n' = n ∧ ρ' = [some (.leaf (.str z)), some (.obj none "Cursor" fsC (curO (rowsOf z) 0 (k : Nat))), some (.lst none (((lineOf z).take k).map .str))] ∧ badAt (lineOf z) 1 = badAt ((lineOf z).drop k) (k + 1),
      ⟨_, 1, Nat.le_refl 1, by rw [eW]; simp, rfl, rfl, by rw [eW]; simp, hb⟩, ?_⟩
    rintro m ρ' n' ⟨k, hk1, hk2, rfl, rfl, rfl, hb⟩
    simp
    refine ⟨_, 0, k, rfl, rfl, rfl, cur0 hz, ?_⟩
    rw [seen0]
    cases e : (lineOf z)[k]? with
    | none =>
      have hk : k = (lineOf z).length := by
        have := List.getElem?_eq_none_iff.mp e
        omega
      simp
      refine tail k _ (fun h => ?_) (fun _ h => ?_)
      · rw [hb, hk, List.drop_length] at q
        simp only [badAt] at q
        rcases h with h | h
        · exact absurd e h
        · rw [if_neg h] at q
          rw [hk]
          simpa using q
      · rw [hb, hk, List.drop_length] at q
        simp only [badAt] at q
        rw [if_pos h] at q
        rw [hk, List.take_of_length_le (by simp)]
        simpa using q
    | some w =>
      simp
      refine take k w _ e hb fun hn hb' => ⟨by rw [sizeLine_eq]; omega, _, ?_, k + 1, by omega, ?_, rfl, rfl, ?_, hb'⟩
      · have := (List.getElem?_eq_some_iff.mp e).1
        omega
      · exact (List.getElem?_eq_some_iff.mp e).1
      · simp
        rw [List.take_add_one]
        simp [e]
end Dx

set_option Elab.async false
set_option linter.all false
set_option maxRecDepth 100000
set_option maxHeartbeats 4000000
namespace Dx
open PySem L2 Wx
theorem rd__law_pick : ∀ ds n Q X, sp__law_pick ds n Q X → t__law_pick (endF Q X) (start n__law_pick ds) n := by
  rintro ds n Q X ⟨d, xs, rfl, hs, hn, h1, h2, q⟩
  have key : ∀ j : Int, 0 ≤ j → j < xs.length → ∃ x, L2.atI xs j = some x ∧ x ∈ xs := fun j h0 hj => by
    obtain ⟨k, rfl⟩ := Int.eq_ofNat_of_zero_le h0
    have hk : k < xs.length := by omega
    exact ⟨xs[k], atI_nat (by simp), List.getElem_mem hk⟩
  cases d <;> cases hs
  all_goals
    simp [t__law_pick, start, endF, sizeLine_eq]
    refine ⟨_, rfl, hn, by omega, by omega, fun j h0 hj => ?_⟩
    obtain ⟨x, e, hx⟩ := key j h0 hj
    simp
    exact ⟨x, e, q x hx⟩
theorem okds_iff {n : Nat} : ∀ {ds : List D}, okds n ds = true ↔ ∀ d ∈ ds, okd n d = true
  | [] => by simp [okds]
  | d :: ds => by simp [okds, okds_iff (ds := ds)]
theorem okd_lst {n : Nat} {ds : List D} : okd (n + 1) (.lst ds) = okds n ds := by simp [okd]
theorem strOk_mem {z : Str} : PyData.strOk z = true ↔ ∀ c ∈ z.cps.toList, c < 0x110000 := by
  unfold PyData.strOk
  simp
  constructor
  · intro h c hc
    obtain ⟨i, hi, rfl⟩ := Array.mem_iff_getElem.mp hc
    exact h i hi
  · exact fun h i hi => h _ (Array.getElem_mem hi)
theorem filter_all {p : Nat → Bool} {l : List Nat} : (l.filter fun c => !p c).isEmpty = l.all p := by
  induction l with
  | nil => rfl
  | cons c r ih =>
    rw [List.filter_cons, List.all_cons]
    cases h : p c <;> simp [h]
    exact ih
theorem rd__law_is_name : ∀ ds n Q X, sp__law_is_name ds n Q X → t__law_is_name (endF Q X) (start n__law_is_name ds) n := by
  rintro ds n Q X ⟨d, rfl, hg, hok, q⟩
  cases d <;> simp [gv] at hg
  case str z =>
    simp [t__law_is_name, start, endF, tyD, isiB, sizeLine_eq]
    refine ⟨by omega, ?_⟩
    cases e : z.cps.toList with
    | nil =>
      have h0 : z.length = 0 := by rw [str_len_list, e]; rfl
      have : isNameD (.str z) = false := by simp [isNameD, isNm, h0]
      rw [this] at q
      simpa [h0] using q
    | cons c r =>
      have h1 : 1 ≤ (z.length : Int) := by rw [str_len_list, e]; simp; omega
      rw [if_pos h1]
      have en : isNameD (.str z) = isNm z := rfl
      rw [en, isNm_iff e] at q
      split
      · rename_i h12
        refine ⟨by omega, c, atI_0, ?_⟩
        have h12' : decide (z.length ≤ 12) = true := decide_eq_true (by omega)
        rw [h12', Bool.true_and] at q
        split
        · rename_i hc
          have hc' : decide (c ∈ letters) = true := decide_eq_true (by simpa [letters] using hc)
          rw [hc', Bool.true_and] at q
          rw [← e]
          have both : ∀ c' : Nat, (c' ∈ ("abcdefghijklmnopqrstuvwxyz0123456789" : Str).cps) ↔ (c' ∈ letters ∨ c' ∈ figures) := by
            intro c'
            have e1 : ("abcdefghijklmnopqrstuvwxyz0123456789" : Str).cps.toList = letters ++ figures := by decide +kernel
            rw [← Array.mem_toList_iff, e1, List.mem_append]
          refine dlc_filter (p := fun d => match d with
            | .str x => (match x.cps.toList with | [c] => !(decide (c ∈ letters) || decide (c ∈ figures)) | _ => false)
            | _ => false) (by simp [sizeLine_eq]; rw [str_len_list] at hg; simp at hg; omega) ?_ ?_
          · intro d hd K1 K0 k1 k0
            obtain ⟨c', hc', rfl⟩ := List.mem_map.mp hd
            by_cases h : c' ∈ ("abcdefghijklmnopqrstuvwxyz0123456789" : Str).cps
            · simp [wipeD, h]
              have h' := (both c').mp h
              exact k0 (by simp; exact fun hn => h'.resolve_left hn) _ rfl
            · simp [wipeD, h]
              have h' : ¬ (c' ∈ letters ∨ c' ∈ figures) := fun z => h ((both c').mpr z)
              exact k1 (by simpa using h') _ rfl
          · have ef : (List.filter (fun d => match d with
              | D.str x => (match x.cps.toList with | [c] => !(decide (c ∈ letters) || decide (c ∈ figures)) | _ => false)
              | _ => false) (z.cps.toList.map fun c => D.str ⟨#[c]⟩)) = (z.cps.toList.filter fun c => !(decide (c ∈ letters) || decide (c ∈ figures))).map fun c => D.str ⟨#[c]⟩ := by
              rw [List.filter_map]
              congr 1
            rw [ef]
            simp only [dEq_nil, retK_d, List.isEmpty_map]
            refine ⟨?_, ?_⟩
            · rw [okd_lst, okds_iff]
              intro d hd
              obtain ⟨c', hc', rfl⟩ := List.mem_map.mp hd
              have hz : PyData.strOk z = true := by simpa [okd] using hok
              have := strOk_mem.mp hz c' (List.mem_filter.mp hc').1
              show PyData.strOk _ = true
              rw [strOk_mem]
              simpa using this
            · rw [filter_all]
              exact q
        · rename_i hc
          have hc' : decide (c ∈ letters) = false := decide_eq_false (by simpa [letters] using hc)
          rw [hc', Bool.false_and] at q
          exact q
      · rename_i h12
        have h12' : decide (z.length ≤ 12) = false := decide_eq_false (by omega)
        rw [h12', Bool.false_and] at q
        exact q
  all_goals (simp [t__law_is_name, start, endF, tyD, isiB, sizeLine_eq]; simpa [isNameD] using q)
theorem filter_allD {p : D → Bool} {l : List D} : (l.filter fun c => !p c).isEmpty = l.all p := by
  induction l with
  | nil => rfl
  | cons c r ih =>
    rw [List.filter_cons, List.all_cons]
    cases h : p c <;> simp [h]
    exact ih
theorem rd__law_is_word : ∀ ds n Q X, sp__law_is_word ds n Q X → t__law_is_word (endF Q X) (start n__law_is_word ds) n := by
  rintro ds n Q X ⟨d, rfl, hg, q⟩
  cases d <;> simp [gx, gv] at hg
  case tup xs =>
    simp [t__law_is_word, start, endF, tyD, isiB, sizeLine_eq]
    obtain ⟨h1, h2, h3⟩ := hg
    have h3 := okds_iff.mp h3
    refine dlc_filter (p := fun d => !isNameD d) (by rw [sizeLine_eq]; omega) (fun d hd K1 K0 k1 k0 => ?_) ?_
    · simp [wipeD]
      refine ⟨d, rfl, h2 d hd, h3 d hd, ?_⟩
      cases e : isNameD d with
      | true => simp; exact k0 (by rw [e]; rfl) _ rfl
      | false => simp; exact k1 (by rw [e]; rfl) _ rfl
    · refine ⟨?_, ?_⟩
      · rw [okd_lst, okds_iff]
        exact fun d hd => h3 d (List.mem_filter.mp hd).1
      · rw [filter_allD]
        exact q
  all_goals (simp [t__law_is_word, start, endF, tyD, isiB, sizeLine_eq]; simpa [isWordD] using q)
theorem rd__law_same : ∀ ds n Q X, sp__law_same ds n Q X → t__law_same (endF Q X) (start n__law_same ds) n := by
  rintro ds n Q X ⟨a, b, rfl, q⟩
  cases a <;> cases b <;> simp [t__law_same, start, endF, tyD, isiB, sizeLine_eq, dIsB, isB, isN] <;> simpa using q
theorem erase_perm {x : D} {l : List D} {j : Nat} (h : l[j]? = some x) : (x :: l.eraseIdx j).Perm l := by
  obtain ⟨hj, e⟩ := List.getElem?_eq_some_iff.mp h
  have e2 : l = l.take j ++ x :: l.drop (j + 1) := by
    rw [← e, ← List.drop_eq_getElem_cons hj, List.take_append_drop]
  rw [List.eraseIdx_eq_take_drop_succ]
  have := (List.perm_middle (a := x) (l₁ := l.take j) (l₂ := l.drop (j + 1))).symm
  rw [← e2] at this
  exact this
theorem rd__law_shuffled : ∀ ds n Q X, sp__law_shuffled ds n Q X → t__law_shuffled (endF Q X) (start n__law_shuffled ds) n := by
  rintro ds n Q X ⟨d, xs, rfl, hs, hn, h2, q⟩
  have main : ∀ (s1 : Option O) (D0 : Dd), (∀ (ys : List D) (s : Option O), ys.Perm xs → D0.nx [some (.leaf .pen), s1, some (.lst none []), some (.lst none ys), s] (n + xs.length)) →
      dLoop (dgName 4) (dDrop (dMut fAppend (dVar 3) (dMut fPopAt (dVar 2) (dCall sp__law_draw [] (dCons (dVar 0) (dCons (dB1 dLen (dVar 2)) dNil)))))) D0 (dints 0 xs.length) [some (.leaf .pen), s1, some (.lst none xs), some (.lst none []), none] n := by
    intro s1 D0 h
    refine dloop_ind (I := fun r ρ m => ∃ (l ys : List D) (s : Option O), ρ = [some (.leaf .pen), s1, some (.lst none l), some (.lst none ys), s] ∧ l.length = r.length ∧ m + r.length = n + xs.length ∧ ys.length + l.length = xs.length ∧ (ys ++ l).Perm xs) ?step ?fin _ _ _ ⟨xs, [], none, rfl, by simp [dints], by simp [dints], by simp, by simp⟩
    case step =>
      rintro d r ρ m K ⟨l, ys, s, e, hl, hm, hy, hp⟩ k
      subst e
      rw [List.length_cons] at hl hm
      simp
      refine ⟨l.length, rfl, by omega, by omega, by omega, fun j h0 hj => ?_⟩
      simp
      refine fPopAt_ok h0 (by omega) (by omega) fun x ex => ?_
      simp [sizeLine_eq]
      refine ⟨by omega, k _ _ ⟨_, _, _, rfl, ?_, by omega, ?_, ?_⟩⟩
      · rw [List.length_eraseIdx, if_pos (by omega)]
        omega
      · rw [List.length_append, List.length_eraseIdx, if_pos (by omega)]
        simp
        omega
      · rw [List.append_assoc]
        exact ((erase_perm ex).append_left ys).trans hp
    case fin =>
      rintro ρ m ⟨l, ys, s, e, hl, hm, hy, hp⟩
      subst e
      have hl : l = [] := List.eq_nil_of_length_eq_zero hl
      subst hl
      have hm : m = n + xs.length := by simpa using hm
      subst hm
      exact h ys s (by simpa using hp)
  cases d <;> cases hs
  all_goals
    simp [t__law_shuffled, start, endF, sizeLine_eq]
    refine ⟨by omega, ?_⟩
    refine main _ _ fun ys s hp => ?_
    simp
    exact q ys hp
end Dx

set_option Elab.async false
set_option linter.all false
set_option maxRecDepth 100000
set_option maxHeartbeats 4000000
namespace Dx
open PySem L2 Wx
theorem nm_facts {z : Str} (h : isNm z = true) : 1 ≤ z.length ∧ z.length ≤ 12 ∧ ∀ c ∈ z.cps.toList, c ∈ letters ∨ c ∈ figures := by
  unfold isNm at h
  simp only [Bool.and_eq_true, decide_eq_true_eq, List.all_eq_true, Bool.or_eq_true] at h
  exact ⟨h.1.1.1, h.1.1.2, h.2⟩
theorem sign_lt {c : Nat} (h : c ∈ letters ∨ c ∈ figures) : c < 128 := by
  have h1 : ∀ c ∈ letters, c < 128 := by decide +kernel
  have h2 : ∀ c ∈ figures, c < 128 := by decide +kernel
  rcases h with h | h
  · exact h1 c h
  · exact h2 c h
theorem nm_ok {z : Str} (h : isNm z = true) : PyData.strOk z = true := strOk_mem.mpr fun c hc => by have := sign_lt ((nm_facts h).2.2 c hc); omega
def unStr : D → Str
  | .str z => z
  | _ => ""
theorem perm_strs {ys : List D} {zs : List Str} (h : ys.Perm (zs.map .str)) : ∃ zs' : List Str, ys = zs'.map .str ∧ zs'.Perm zs := by
  refine ⟨ys.map unStr, ?_, ?_⟩
  · rw [List.map_map]
    have : ∀ d ∈ ys, (D.str ∘ unStr) d = d := fun d hd => by
      obtain ⟨z, _, rfl⟩ := List.mem_map.mp (h.mem_iff.mp hd)
      rfl
    conv => lhs; rw [← List.map_id ys]
    exact (List.map_congr_left fun d hd => (this d hd).symm)
  · have := h.map unStr
    rw [List.map_map] at this
    have e : (unStr ∘ D.str) = id := rfl
    rw [e, List.map_id] at this
    exact this
theorem rd__law_calls : ∀ ds n Q X, sp__law_calls ds n Q X → t__law_calls (endF Q X) (start n__law_calls ds) n := by
  rintro ds n Q X ⟨m, rfl, hm, hn, q⟩
  simp [t__law_calls, start, endF, sizeLine_eq]
  refine ⟨m, rfl, hm, hn, fun zs n' hl hz hn' => ?_⟩
  simp
  have hp : (sortD (zs.map .str)).Perm (zs.map .str) := List.mergeSort_perm _ _
  obtain ⟨zs', e, hp'⟩ := perm_strs hp
  refine ⟨_, rfl, by rw [sizeLine_eq]; simp; omega, okds_strs fun x hx => nm_ok (hz x hx), ?_, .inr ?_, ?_⟩
  · intro a ha b hb
    obtain ⟨x, _, rfl⟩ := List.mem_map.mp ha
    obtain ⟨y, _, rfl⟩ := List.mem_map.mp hb
    simp [alikeD, toPy, PySem.W.alike]
  · intro d hd
    obtain ⟨x, _, rfl⟩ := List.mem_map.mp hd
    exact ⟨by simp, by simp⟩
  · simp
    rw [e]
    exact q zs' n' (by rw [hp'.length_eq]; exact hl) (fun z hz' => hz z (hp'.mem_iff.mp hz')) hn'
theorem rd__law_names : ∀ ds n Q X, sp__law_names ds n Q X → t__law_names (endF Q X) (start n__law_names ds) n := by
  rintro ds n Q X ⟨m, rfl, hm, hn, q⟩
  simp [t__law_names, start, endF, sizeLine_eq]
  refine ⟨by omega, ?_⟩
  refine dlc_ind (I := fun r acc k => ∃ zs : List Str, acc = zs.map .str ∧ zs.length + r.length = m ∧ (∀ z ∈ zs, isNm z = true) ∧ k ≤ n + 10 * zs.length ∧ ∀ d ∈ r, ∃ i : Int, d = .int i ∧ 0 ≤ i ∧ i < 10) ?step ?fin _ _ _ ⟨[], rfl, by simp [dints], by simp, by simp, ?_⟩
  case step =>
    rintro d r acc k K1 K0 ⟨zs, rfl, hl, hz, hk, hd⟩ k1 k0
    rw [List.length_cons] at hl
    obtain ⟨i, rfl, i0, i1⟩ := hd d List.mem_cons_self
    simp [wipeD]
    refine ⟨i, rfl, i0, i1, by omega, fun z n' hz' hn' => ?_⟩
    refine k1 _ _ _ rfl (by rw [sizeLine_eq]; simp; omega) ⟨zs ++ [z], by simp, by simp; omega, ?_, by simp; omega, fun d hd' => hd d (List.mem_cons_of_mem _ hd')⟩
    intro x hx
    rcases List.mem_append.mp hx with hx | hx
    · exact hz x hx
    · rw [List.mem_singleton.mp hx]; exact hz'
  case fin =>
    rintro acc k ⟨zs, rfl, hl, hz, hk, _⟩
    have hl : zs.length = m := by simpa using hl
    refine ⟨.lst (zs.map .str), _, rfl, rfl, by omega, by simp; omega, fun ys hp => ?_⟩
    obtain ⟨zs', rfl, hp'⟩ := perm_strs hp
    simp
    exact q zs' _ (by rw [hp'.length_eq]; exact hl) (fun z hz' => hz z (hp'.mem_iff.mp hz')) (by omega)
  · intro d hd
    obtain ⟨i, hi, rfl⟩ := List.mem_map.mp hd
    have := List.mem_range.mp hi
    exact ⟨_, rfl, by omega, by omega⟩
theorem rd__law_some_word : ∀ ds n Q X, sp__law_some_word ds n Q X → t__law_some_word (endF Q X) (start n__law_some_word ds) n := by
  rintro ds n Q X ⟨zs, m, rfl, h1, h2, hm, hn, hz, q⟩
  simp [t__law_some_word, start, endF, sizeLine_eq]
  refine ⟨_, rfl, by omega, by omega, by omega, fun j h0 hj => ?_⟩
  simp
  refine ⟨by omega, by omega, ?_⟩
  refine dlc_ind (I := fun r acc k => ∃ ws : List Str, acc = ws.map .str ∧ ws.length + r.length = j.toNat ∧ (∀ z ∈ ws, isNm z = true) ∧ k ≤ n + 1 + ws.length) ?step ?fin _ _ _ ⟨[], rfl, by simp [dints], by simp, by simp⟩
  case step =>
    rintro d r acc k K1 K0 ⟨ws, rfl, hl, hw, hk⟩ k1 k0
    rw [List.length_cons] at hl
    simp [wipeD]
    refine ⟨_, _, rfl, rfl, by omega, by simp; omega, by simp; omega, fun x hx => ?_⟩
    obtain ⟨z, hz', rfl⟩ := List.mem_map.mp hx
    refine k1 _ _ _ rfl (by rw [sizeLine_eq]; simp; omega) ⟨ws ++ [z], by simp, by simp; omega, ?_, by simp; omega⟩
    intro x hx
    rcases List.mem_append.mp hx with hx | hx
    · exact hw x hx
    · rw [List.mem_singleton.mp hx]; exact hz z hz'
  case fin =>
    rintro acc k ⟨ws, rfl, hl, hw, hk⟩
    have hl : ws.length = j.toNat := by simpa using hl
    exact q ws k (by omega) hw (by omega)
end Dx

set_option Elab.async false
set_option linter.all false
set_option maxRecDepth 100000
set_option maxHeartbeats 4000000
namespace Dx
open PySem L2 Wx
theorem sIx_le {len d k : Nat} (h : k ≤ len) : HT.sIx len d (some (k : Int)) = k := by
  rw [HT.sIx_nat]
  exact Nat.min_eq_left h
theorem cutS_pre {z : Str} {k : Nat} (h : k ≤ z.length) : (cutS z none (some (k : Int))).cps.toList = z.cps.toList.take k := by
  unfold cutS
  rw [sIx_le h, HT.sIx_none]
  simp
theorem cutS_post {z : Str} {k : Nat} (h : k ≤ z.length) : (cutS z (some (k : Int)) none).cps.toList = z.cps.toList.drop k := by
  unfold cutS
  rw [sIx_le h, HT.sIx_none]
  simp
  exact List.take_of_length_le (by simp [Str.length])
theorem digit_cps {i : Int} (h0 : 0 ≤ i) (h1 : i < 10) : ∃ c, (Str.ofString i.repr).cps.toList = [c] ∧ c ∈ figures := by
  obtain ⟨k, rfl⟩ := Int.eq_ofNat_of_zero_le h0
  have : k < 10 := by omega
  have key : ∀ k : Nat, k < 10 → (Str.ofString ((k : Nat) : Int).repr).cps.toList = [48 + k] ∧ (48 + k) ∈ figures := by decide +kernel
  exact ⟨_, key k this⟩
theorem app_cps {x y : Str} : (x ++ y).cps.toList = x.cps.toList ++ y.cps.toList := by simp only [Str.cps_append, Array.toList_append]
theorem rd__law_name : ∀ ds n Q X, sp__law_name ds n Q X → t__law_name (endF Q X) (start n__law_name ds) n := by
  rintro ds n Q X ⟨i, rfl, h0, h1, hn, q⟩
  simp [t__law_name, start, endF, sizeLine_eq]
  refine ⟨_, rfl, by omega, by omega, by omega, fun j j0 j1 => ?_⟩
  simp
  refine ⟨by omega, by omega, ?_⟩
  refine dloop_ind (I := fun r ρ m => ∃ (w : Str) (s : Option O), ρ = [some (.leaf .pen), some (.leaf (.int i)), some (.leaf (.str w)), s, none] ∧ w.length + r.length = (1 + j).toNat ∧ (∀ c ∈ w.cps.toList, c ∈ letters) ∧ m = n + 1 + w.length) ?step ?fin _ _ _ ⟨"", none, rfl, by simp [dints, Str.length]; rfl, by decide, rfl⟩
  case step =>
    rintro d r ρ m K ⟨w, s, rfl, hl, hw, rfl⟩ k
    rw [List.length_cons] at hl
    simp
    refine ⟨_, rfl, by omega, by omega, by omega, fun a a0 a1 => ?_⟩
    simp [sizeLine_eq]
    obtain ⟨a, rfl⟩ := Int.eq_ofNat_of_zero_le a0
    have ha : a < letters.length := by
      have : letters.length = 26 := by decide +kernel
      omega
    refine ⟨by decide, letters[a], atI_nat (by simp [letters]), ?_, k _ _ ⟨w ++ ⟨#[letters[a]]⟩, _, rfl, ?_, ?_, ?_⟩⟩
    · have : (⟨#[letters[a]]⟩ : Str).length = 1 := rfl
      omega
    · rw [Str.length_append]
      have : (⟨#[letters[a]]⟩ : Str).length = 1 := rfl
      omega
    · intro c hc
      rw [app_cps] at hc
      rcases List.mem_append.mp hc with hc | hc
      · exact hw c hc
      · simp at hc
        rw [hc]
        exact List.getElem_mem ha
    · rw [Str.length_append]
      have : (⟨#[letters[a]]⟩ : Str).length = 1 := rfl
      omega
  case fin =>
    rintro ρ m ⟨w, s, rfl, hl, hw, rfl⟩
    have hl : w.length = (1 + j).toNat := by simpa using hl
    simp [sizeLine_eq]
    refine ⟨by omega, _, rfl, by omega, by omega, by omega, fun a a0 a1 => ?_⟩
    obtain ⟨a, rfl⟩ := Int.eq_ofNat_of_zero_le a0
    obtain ⟨c, ec, hc⟩ := digit_cps h0 h1
    have ea : (1 : Int) + (a : Nat) = ((1 + a : Nat) : Int) := by omega
    have e1 := cutS_pre (z := w) (k := 1 + a) (by omega)
    have e2 := cutS_post (z := w) (k := 1 + a) (by omega)
    have l1 : (cutS w none (some ((1 + a : Nat) : Int))).length ≤ 8 := by rw [str_len_list, e1]; simp; rw [str_len_list] at hl; omega
    have l2 : (cutS w (some ((1 + a : Nat) : Int)) none).length ≤ 8 := by rw [str_len_list, e2]; simp; rw [str_len_list] at hl; simp at hl; omega
    have l3 : (Str.ofString i.repr).length = 1 := by rw [str_len_list, ec]; rfl
    simp [sizeLine_eq]
    rw [ea]
    have l4 : (cutS w none (some ((1 + a : Nat) : Int)) ++ Str.ofString i.repr).length ≤ 9 := by rw [Str.length_append]; omega
    refine ⟨by omega, ?_, by omega, by omega, by omega, ?_⟩
    · have : ∀ k, k < 10 → Nat.log2 k < 1920 := by decide
      exact this _ (by omega)
    · refine q _ _ ?_ (by omega)
      have hwl := str_len_list (z := w)
      have hwa : a < w.cps.toList.length := by omega
      have total : (cutS w none (some ((1 + a : Nat) : Int)) ++ Str.ofString i.repr ++ cutS w (some ((1 + a : Nat) : Int)) none).cps.toList = w.cps.toList.take (1 + a) ++ [c] ++ w.cps.toList.drop (1 + a) := by
        rw [app_cps, app_cps, e1, e2, ec]
      have tl : (cutS w none (some ((1 + a : Nat) : Int)) ++ Str.ofString i.repr ++ cutS w (some ((1 + a : Nat) : Int)) none).length ≤ 12 := by
        rw [str_len_list, total]
        simp only [List.length_append, List.length_take, List.length_drop, List.length_singleton]
        omega
      cases eL : w.cps.toList with
      | nil => rw [eL] at hwa; simp at hwa
      | cons x r =>
        rw [eL] at total hw
        rw [Nat.add_comm 1 a] at total
        rw [List.take_succ_cons, List.drop_succ_cons] at total
        rw [Nat.add_comm 1 a] at tl ⊢
        have total : (cutS w none (some ((a + 1 : Nat) : Int)) ++ Str.ofString i.repr ++ cutS w (some ((a + 1 : Nat) : Int)) none).cps.toList = x :: (r.take a ++ [c] ++ r.drop a) := by
          rw [total]
          simp
        rw [isNm_iff total]
        simp only [Bool.and_eq_true, decide_eq_true_eq, List.all_eq_true, Bool.or_eq_true]
        refine ⟨tl, hw x List.mem_cons_self, ?_⟩
        rw [total]
        intro y hy
        rcases List.mem_cons.mp hy with rfl | hy
        · exact .inl (hw _ List.mem_cons_self)
        · rcases List.mem_append.mp hy with hy | hy
          · rcases List.mem_append.mp hy with hy | hy
            · exact .inl (hw _ (List.mem_cons_of_mem _ (List.mem_of_mem_take hy)))
            · rw [List.mem_singleton.mp hy]
              exact .inr hc
          · exact .inl (hw _ (List.mem_cons_of_mem _ (List.mem_of_mem_drop hy)))
end Dx

set_option Elab.async false
set_option linter.all false
set_option maxRecDepth 100000
set_option maxHeartbeats 4000000
namespace Dx
open PySem L2 Wx
theorem strOk_app {x y : Str} (hx : PyData.strOk x = true) (hy : PyData.strOk y = true) : PyData.strOk (x ++ y) = true := by
  rw [strOk_mem] at *
  intro c hc
  rw [app_cps] at hc
  rcases List.mem_append.mp hc with h | h
  · exact hx c h
  · exact hy c h
theorem strOk_cut {x : Str} {a b : Option Int} (hx : PyData.strOk x = true) : PyData.strOk (cutS x a b) = true := by
  rw [strOk_mem] at *
  intro c hc
  unfold cutS at hc
  simp at hc
  exact hx c (List.mem_of_mem_drop (List.mem_of_mem_take hc))
theorem strOk_upper {z : Str} (h : isNm z = true) : PyData.strOk (Txt.upper z) = true := by
  rw [strOk_mem]
  have key : ∀ c ∈ letters ++ figures, ∀ d ∈ Unicode.upperOf c, d < 0x110000 := by decide +kernel
  have hz := (nm_facts h).2.2
  intro d hd
  have hd : d ∈ placed z fun _ c => Unicode.upperOf c := by simpa [Txt.upper] using hd
  unfold placed at hd
  obtain ⟨a, ha, hd⟩ := Array.mem_flatten.mp hd
  obtain ⟨i, hi, rfl⟩ := Array.mem_mapIdx.mp ha
  have hc := hz z.cps[i] (by simp)
  exact key _ (List.mem_append.mpr hc) d (by simpa using hd)
theorem rd__law_odd_name : ∀ ds n Q X, sp__law_odd_name ds n Q X → t__law_odd_name (endF Q X) (start n__law_odd_name ds) n := by
  rintro ds n Q X ⟨z, rfl, hz, hn, q⟩
  obtain ⟨l1, l2, l3⟩ := nm_facts hz
  have ok := nm_ok hz
  have c1 := cutS_length z none (some 8)
  have c2 := cutS_length z none (some 4)
  have c3 := cutS_length z none (some 3)
  have c4 := cutS_length z none (some 5)
  simp [t__law_odd_name, start, endF, sizeLine_eq]
  have e1 : (Str.ofString "1").length = 1 := rfl
  have e2 : (Str.ofString "abcdefghijkl").length = 12 := rfl
  have e3 : (Str.ofString "_").length = 1 := rfl
  have e4 : (Str.ofString " b").length = 2 := rfl
  have e5 : (Str.ofString "\n").length = 1 := rfl
  refine ⟨by omega, by omega, by omega, by omega, by omega, by omega, by omega, by omega, by omega, by omega, ?_⟩
  refine ⟨_, _, rfl, rfl, by omega, by simp, by simp, fun x hx => ?_⟩
  simp
  have hu : (Txt.upper z).length ≤ 1000000 := by
    have := PyProof.Rows.len_upper z
    omega
  have both : gv x = true ∧ okd 59 x = true := by
    simp only [List.mem_cons, List.not_mem_nil, or_false] at hx
    rcases hx with rfl | rfl | rfl | rfl | rfl | rfl | rfl | rfl | rfl | rfl | rfl | rfl | rfl | rfl | rfl
    · exact ⟨by decide +kernel, by decide +kernel⟩
    · exact ⟨by simp [gv, Str.length_append]; omega, by simpa [okd] using strOk_app (by decide +kernel) (strOk_cut ok)⟩
    · exact ⟨by simpa [gv] using hu, by simpa [okd] using strOk_upper hz⟩
    · exact ⟨by simp [gv, Str.length_append]; omega, by simpa [okd] using strOk_app ok (by decide +kernel)⟩
    · exact ⟨by simp [gv, Str.length_append]; omega, by simpa [okd] using strOk_app (strOk_cut ok) (by decide +kernel)⟩
    · exact ⟨by decide +kernel, by decide +kernel⟩
    · exact ⟨by simp [gv, Str.length_append]; omega, by simpa [okd] using strOk_app (strOk_cut ok) (by decide +kernel)⟩
    · exact ⟨rfl, rfl⟩
    · exact ⟨rfl, rfl⟩
    · exact ⟨rfl, rfl⟩
    · exact ⟨rfl, by simp [okd, okds, ok]⟩
    · exact ⟨by simp [gv, Str.length_append]; omega, by simpa [okd] using strOk_app (strOk_cut ok) (by decide +kernel)⟩
    · exact ⟨by decide +kernel, by decide +kernel⟩
    · exact ⟨by decide +kernel, by decide +kernel⟩
    · exact ⟨rfl, by simp [okd, okds, ok]⟩
  exact q x both.1 both.2
theorem cut_pre {α : Type} {l : List α} {k : Nat} (h : k ≤ l.length) : cut l none (some (k : Int)) = l.take k := by
  unfold cut
  rw [sIx_le h, HT.sIx_none]
  simp
theorem cut_post {α : Type} {l : List α} {k : Nat} (h : k ≤ l.length) : cut l (some (k : Int)) none = l.drop k := by
  unfold cut
  rw [sIx_le h, HT.sIx_none]
  exact List.take_of_length_le (by simp)
theorem cut_mid {α : Type} {l : List α} {k m : Nat} (h : k + m ≤ l.length) : cut l (some (k : Int)) (some ((k + m : Nat) : Int)) = (l.drop k).take m := by
  unfold cut
  rw [sIx_le h, sIx_le (by omega)]
  congr 1
  omega
theorem rd__law_bent_words : ∀ ds n Q X, sp__law_bent_words ds n Q X → t__law_bent_words (endF Q X) (start n__law_bent_words ds) n := by
  rintro ds n Q X ⟨d, e, xs, ys, rfl, hs, hd, he, l1, l2, hn, ox, oy, q⟩
  cases d <;> simp [seqO, lstO] at hs hd
  cases e <;> simp [lstO] at he
  subst hs he
  simp [t__law_bent_words, start, endF, sizeLine_eq]
  refine ⟨_, rfl, by omega, by omega, by omega, fun a a0 a1 => ?_⟩
  simp
  refine ⟨_, rfl, by omega, by omega, by omega, fun b b0 b1 => ?_⟩
  simp [sizeLine_eq]
  refine ⟨by omega, _, _, rfl, rfl, by omega, by simp, by simp; omega, fun o ho => ?_⟩
  obtain ⟨w, rfl, hw⟩ : ∃ w : Str, o = .str w ∧ w.length ≤ 100 ∧ PyData.strOk w = true := by
    rcases List.mem_append.mp ho with h | h
    · obtain ⟨w, hw, rfl⟩ := List.mem_map.mp h
      exact ⟨w, rfl, oy w hw⟩
    · simp only [List.mem_cons, List.not_mem_nil, or_false] at h
      rcases h with rfl | rfl | rfl | rfl | rfl | rfl <;> exact ⟨_, rfl, by decide +kernel, by decide +kernel⟩
  obtain ⟨a, rfl⟩ := Int.eq_ofNat_of_zero_le a0
  have ha : a ≤ xs.length := by omega
  have e1 : cut (xs.map D.str) none (some (a : Int)) = (xs.take a).map .str := by rw [cut_pre (by simpa using ha), List.map_take]
  have e2 : cut (xs.map D.str) (some (a : Int)) none = (xs.drop a).map .str := by rw [cut_post (by simpa using ha), List.map_drop]
  have fin : ∀ ws : List Str, ws.length ≤ xs.length + 1 → (∀ x ∈ ws, x ∈ xs ∨ x = w) → Q (.lst none (ws.map .str)) (n + 1 + 1 + 1) := fun ws h1 h2 => q ws _ h1 (fun x hx => by
    rcases h2 x hx with h | h
    · exact ox x h
    · rw [h]; exact hw) (by omega)
  have p1 : ∀ {x}, x ∈ xs.take a → x ∈ xs := fun h => List.mem_of_mem_take h
  have p2 : ∀ {k} {x}, x ∈ xs.drop k → x ∈ xs := fun h => List.mem_of_mem_drop h
  have ins : Q (.lst none ((xs.take a).map D.str ++ D.str w :: (xs.drop a).map .str)) (n + 1 + 1 + 1) := by
    have := fin (xs.take a ++ w :: xs.drop a) (by simp; omega) (fun x hx => by
      rcases List.mem_append.mp hx with h | h
      · exact .inl (p1 h)
      · rcases List.mem_cons.mp h with h | h
        · exact .inr h
        · exact .inl (p2 h))
    simpa using this
  simp [e1, e2]
  by_cases hb : b = 0
  · rw [if_pos hb]
    exact ⟨by omega, by omega, by simpa using ins⟩
  · rw [if_neg hb]
    by_cases hx : (a : Int) = xs.length
    · rw [if_pos hx]
      exact ⟨by omega, by omega, by simpa using ins⟩
    · rw [if_neg hx]
      have ha2 : a + 1 ≤ xs.length := by omega
      have ea : (a : Int) + 1 = ((a + 1 : Nat) : Int) := by omega
      have e3 : cut (xs.map D.str) (some ((a : Int) + 1)) none = (xs.drop (a + 1)).map .str := by rw [ea, cut_post (by simpa using ha2), List.map_drop]
      have e4 : cut (xs.map D.str) (some (a : Int)) (some ((a : Int) + 1)) = ((xs.drop a).take 1).map .str := by rw [ea, cut_mid (by simpa using ha2), ← List.map_drop, ← List.map_take]
      have de : xs.drop a = xs[a] :: xs.drop (a + 1) := List.drop_eq_getElem_cons ha2
      simp [e3, e4]
      by_cases hb1 : b = 1
      · rw [if_pos hb1]
        have := fin (xs.take a ++ xs.drop (a + 1)) (by simp; omega) (fun x hx => by
          rcases List.mem_append.mp hx with h | h
          · exact .inl (p1 h)
          · exact .inl (p2 h))
        exact ⟨by omega, by simpa using this⟩
      · rw [if_neg hb1]
        by_cases hb2 : b = 2
        · rw [if_pos hb2]
          have := fin (xs.take a ++ w :: xs.drop (a + 1)) (by simp; omega) (fun x hx => by
            rcases List.mem_append.mp hx with h | h
            · exact .inl (p1 h)
            · rcases List.mem_cons.mp h with h | h
              · exact .inr h
              · exact .inl (p2 h))
          exact ⟨by omega, by omega, by simpa using this⟩
        · rw [if_neg hb2]
          have := fin (xs.take a ++ [xs[a], xs[a]] ++ xs.drop (a + 1)) (by simp; omega) (fun x hx => by
            rcases List.mem_append.mp hx with h | h
            · rcases List.mem_append.mp h with h | h
              · exact .inl (p1 h)
              · have : x = xs[a] := by simpa using h
                rw [this]
                exact .inl (List.getElem_mem _)
            · exact .inl (p2 h))
          refine ⟨_, 2, rfl, rfl, by omega, by omega, by simp; omega, ?_⟩
          have et : List.take 1 (List.drop a (xs.map D.str)) = [D.str xs[a]] := by rw [← List.map_drop, de]; rfl
          have e5 : List.take a (xs.map D.str) ++ ([D.str xs[a]] ++ ([D.str xs[a]] ++ List.drop (a + 1) (xs.map D.str))) = List.map D.str (xs.take a ++ [xs[a], xs[a]] ++ xs.drop (a + 1)) := by
            simp
            rw [← List.map_drop, ← List.map_drop, de]
            rfl
          rw [et]
          simp [e3, sizeLine_eq]
          rw [← e5] at this
          exact ⟨by omega, by omega, this⟩
theorem join_codes {sep : Str} : ∀ {l : List Str} {p : Str}, p ∈ l → ∀ d ∈ p.cps.toList, d ∈ (Str.join sep l).cps.toList
  | [x], p, h, d, hd => by
    rw [List.mem_singleton.mp h] at hd
    exact hd
  | x :: y :: r, p, h, d, hd => by
    show d ∈ (x ++ sep ++ Str.join sep (y :: r)).cps.toList
    rw [app_cps, app_cps]
    rcases List.mem_cons.mp h with rfl | h
    · exact List.mem_append_left _ (List.mem_append_left _ hd)
    · exact List.mem_append_right _ (join_codes h d hd)
theorem split_ok {z s : Str} (h : PyData.strOk z = true) : ∀ x ∈ Txt.split z s, PyData.strOk x = true := fun x hx => strOk_mem.mpr fun c hc => strOk_mem.mp h c (by
  have := join_codes (sep := s) hx c hc
  rwa [StrLaws.join_split] at this)
theorem rd__law_first_wrong : ∀ ds n Q X, sp__law_first_wrong ds n Q X → t__law_first_wrong (endF Q X) (start n__law_first_wrong ds) n := by
  rintro ds n Q X ⟨z, rfl, hz, ok, q⟩
  obtain ⟨s1, s2⟩ := split_short (z := z) 10
  simp [t__law_first_wrong, start, endF, sizeLine_eq]
  refine ⟨by decide, by omega, ?_⟩
  obtain ⟨l0, r0, el⟩ := split_ne (z := z) (c := 10)
  rw [el] at s2
  have el : Txt.split z "\n" = l0 :: r0 := el
  have hl0 := s2 l0 List.mem_cons_self
  have eW : lineOf z = Txt.split l0 " " := by unfold lineOf; rw [el]; rfl
  obtain ⟨b1, b2⟩ := line_len (z := z)
  obtain ⟨w0, W, eW0⟩ : ∃ w0 W, lineOf z = w0 :: W := by
    cases e : lineOf z with
    | nil => exact absurd e (row0 (z := z)).2.2
    | cons w0 W => exact ⟨w0, W, rfl⟩
  have wok : ∀ x ∈ lineOf z, PyData.strOk x = true := by
    rw [eW]
    exact split_ok (split_ok ok l0 (by rw [el]; exact List.mem_cons_self))
  have fw0 : w0 = "_" → firstWrong z = if (lineOf z).length = 1 ∧ (Txt.split z "\n").length = 1 then none else some 2 := fun h => by
    unfold firstWrong
    rw [eW0, h]
    rfl
  have fw1 : w0 ≠ "_" → firstWrong z = match badAt (lineOf z) 1 with
        | some k => some k
        | none => if (Txt.split z "\n").length = 1 then none else some ((lineOf z).length + 1) := fun h => by
    unfold firstWrong
    rw [eW0, if_neg (by simpa using h)]
    all_goals (cases badAt (w0 :: W) 1 <;> rfl)
  rw [el] at fw0 fw1 ⊢
  refine ⟨.str l0, atI_0, rfl, ?_⟩
  simp [sizeLine_eq]
  refine ⟨by decide, by omega, ?_⟩
  rw [← eW]
  have fin2 : ∀ k : Nat, firstWrong z = some k → Q (.lst none [.str "text", .int 1, .int k]) n := fun k h => by rw [h] at q; exact q
  have fin0 : firstWrong z = none → Q (.leaf .non) n := fun h => by rw [h] at q; exact q
  have elen : (enumD ((lineOf z).map .str)).length = (lineOf z).length := by simp [enumD]
  refine dloop_ind (I := fun r ρ m => ∃ (k : Nat) (s3 s4 : Option O), r = (enumD ((lineOf z).map .str)).drop k ∧ ρ = [some (.leaf (.str z)), some (.lst none (.str l0 :: r0.map .str)), some (.leaf (.lst ((lineOf z).map .str))), s3, s4] ∧ m = n ∧ k ≤ (lineOf z).length ∧
    (k = 0 ∨ (w0 ≠ "_" ∧ badAt (lineOf z) 1 = badAt ((lineOf z).drop k) (k + 1)) ∨ (w0 = "_" ∧ (lineOf z).length = 1 ∧ k = 1))) ?step ?fin _ _ _ ⟨0, none, none, by simp, rfl, rfl, Nat.zero_le _, .inl rfl⟩
  case step =>
    rintro d r ρ m K ⟨k, s3, s4, er, rfl, rfl, hk, hc⟩ kk
    have hk2 : k < (lineOf z).length := by
      have := congrArg List.length er
      simp [elen] at this
      omega
    have hk3 : k < (enumD ((lineOf z).map .str)).length := by rw [elen]; exact hk2
    rw [List.drop_eq_getElem_cons hk3] at er
    injection er with er1 er2
    have ed : d = .tup [.int (k : Nat), .str (lineOf z)[k]] := by
      rw [er1]
      simp [enumD]
    subst ed
    have hw := b2 _ (List.getElem_mem hk2)
    have l3 : 3 ≤ sizeLine := by rw [sizeLine_eq]; omega
    have hd : (lineOf z).drop k = (lineOf z)[k] :: (lineOf z).drop (k + 1) := List.drop_eq_getElem_cons hk2
    have w00 : k = 0 → (lineOf z)[k] = w0 := fun h => by
      subst h
      simp [eW0]
    -- a word that is looked at
    have look : (k = 0 → w0 ≠ "_") → sp__law_is_name [.str (lineOf z)[k]] m (fun o n2 => bK (fun c ρ1 n1 => if c = true then K ρ1 n1 else dVar 3 ρ1 n1 (fzK fun s1 ρ1 n1 => wO0 s1 ρ1 fun o1 => dAdd o1 (.leaf (.int 1)) fun s => datK (fun d ρ1 n1 => 3 ≤ sizeLine ∧ Q (.lst none [.str "text", .int 1, d]) n1) s ρ1 n1) fun x C fs es n' => X C fs es n')
        (resS o) [some (.leaf (.str z)), some (.lst none (.str l0 :: r0.map .str)), some (.leaf (.lst ((lineOf z).map .str))), some (.leaf (.int (k : Nat))), some (.leaf (.str (lineOf z)[k]))] n2) (fun C fs es n2 => X C fs es n2) := by
      intro h0
      have hb : w0 ≠ "_" ∧ badAt (lineOf z) 1 = badAt ((lineOf z).drop k) (k + 1) := by
        rcases hc with h | h | ⟨h1, h2, h3⟩
        · refine ⟨h0 h, ?_⟩
          subst h
          rfl
        · exact h
        · omega
      refine ⟨_, rfl, by simp [gv]; omega, by simpa [okd] using wok _ (List.getElem_mem hk2), ?_⟩
      have en : isNameD (.str (lineOf z)[k]) = isNm (lineOf z)[k] := rfl
      rw [en]
      have hb2 := hb.2
      rw [hd, badAt_cons] at hb2
      cases hn : isNm (lineOf z)[k] with
      | true =>
        rw [hn, if_pos rfl] at hb2
        simp
        exact kk _ _ ⟨k + 1, _, _, er2, rfl, rfl, hk2, .inr (.inl ⟨hb.1, hb2⟩)⟩
      | false =>
        rw [hn, if_neg (by simp)] at hb2
        simp
        refine ⟨l3, ?_⟩
        have := fin2 (k + 1) (by rw [fw1 hb.1, hb2])
        simpa using this
    simp
    by_cases hk0 : k = 0
    · rw [if_pos hk0]
      by_cases hw0 : w0 = "_"
      · rw [if_pos ((w00 hk0).trans hw0)]
        by_cases hl1 : 1 < ((lineOf z).length : Int)
        · rw [if_pos hl1]
          refine ⟨l3, ?_⟩
          have := fin2 2 (by rw [fw0 hw0, if_neg]; rintro ⟨h, _⟩; omega)
          simpa using this
        · rw [if_neg hl1]
          refine kk _ _ ⟨k + 1, _, _, er2, rfl, rfl, hk2, .inr (.inr ⟨hw0, by omega, by omega⟩)⟩
      · rw [if_neg (by rw [w00 hk0]; exact hw0)]
        exact look fun _ => hw0
    · rw [if_neg hk0]
      exact look fun h => absurd h hk0
  case fin =>
    rintro ρ m ⟨k, s3, s4, er, rfl, rfl, hk, hc⟩
    have l3 : 3 ≤ sizeLine := by rw [sizeLine_eq]; omega
    have hk2 : k = (lineOf z).length := by
      have := congrArg List.length er
      simp [elen] at this
      omega
    simp
    have hl : 1 ≤ (lineOf z).length := by rw [eW0]; simp
    have hres : firstWrong z = if (l0 :: r0).length = 1 then none else some ((lineOf z).length + 1) := by
      rcases hc with h | ⟨h1, h2⟩ | ⟨h1, h2, h3⟩
      · omega
      · rw [fw1 h1, h2, hk2, List.drop_length]
        rfl
      · rw [fw0 h1, h2]
        by_cases h : (l0 :: r0).length = 1
        · rw [if_pos ⟨rfl, h⟩, if_pos h]
        · rw [if_neg (fun z => h z.2), if_neg h]
    by_cases h : (r0.length : Int) + 1 = 1
    · rw [if_pos h]
      exact fin0 (by rw [hres, if_pos (by show r0.length + 1 = 1; omega)])
    · rw [if_neg h]
      refine ⟨l3, ?_⟩
      have := fin2 ((lineOf z).length + 1) (by rw [hres, if_neg (by show ¬ (r0.length + 1 = 1); omega)])
      simpa using this
end Dx

set_option Elab.async false
set_option linter.all false
set_option maxRecDepth 100000
set_option maxHeartbeats 4000000
namespace Dx
open PySem L2 Wx
/-! texts joined and split -/
def jn (c : Nat) : List (List Nat) → List Nat
  | [] => []
  | [x] => x
  | x :: y :: r => x ++ c :: jn c (y :: r)
theorem app_inj {c : Nat} : ∀ {x y A B : List Nat}, c ∉ x → c ∉ y → x ++ c :: A = y ++ c :: B → x = y ∧ A = B
  | [], [], A, B, _, _, h => ⟨rfl, by simpa using h⟩
  | [], b :: y, A, B, _, hy, h => by
    simp at h
    exact absurd h.1 fun z => hy (by rw [z]; exact List.mem_cons_self)
  | a :: x, [], A, B, hx, _, h => by
    simp at h
    exact absurd h.1 fun z => hx (by rw [← z]; exact List.mem_cons_self)
  | a :: x, b :: y, A, B, hx, hy, h => by
    simp at h
    obtain ⟨e1, e2⟩ := app_inj (fun z => hx (List.mem_cons_of_mem _ z)) (fun z => hy (List.mem_cons_of_mem _ z)) h.2
    exact ⟨by rw [h.1, e1], e2⟩
theorem jn_inj {c : Nat} : ∀ {l m : List (List Nat)}, l ≠ [] → m ≠ [] → (∀ x ∈ l, c ∉ x) → (∀ x ∈ m, c ∉ x) → jn c l = jn c m → l = m
  | [], _, h, _, _, _, _ => absurd rfl h
  | _ :: _, [], _, h, _, _, _ => absurd rfl h
  | [x], [y], _, _, _, _, h => by
    have h : x = y := h
    rw [h]
  | [x], y :: z :: r, _, _, hl, _, h => by
    have h : x = y ++ c :: jn c (z :: r) := h
    exact absurd (by rw [h]; simp) (hl x List.mem_cons_self)
  | x :: y :: r, [z], _, _, _, hm, h => by
    have h : x ++ c :: jn c (y :: r) = z := h
    exact absurd (by rw [← h]; simp) (hm z List.mem_cons_self)
  | x :: y :: r, z :: w :: s, _, _, hl, hm, h => by
    obtain ⟨e1, e2⟩ := app_inj (hl x List.mem_cons_self) (hm z List.mem_cons_self) h
    rw [e1, jn_inj (by simp) (by simp) (fun a ha => hl a (List.mem_cons_of_mem _ ha)) (fun a ha => hm a (List.mem_cons_of_mem _ ha)) e2]
theorem join_jn {c : Nat} : ∀ {l : List Str}, (Str.join ⟨#[c]⟩ l).cps.toList = jn c (l.map fun x => x.cps.toList)
  | [] => rfl
  | [x] => rfl
  | x :: y :: r => by
    show (x ++ ⟨#[c]⟩ ++ Str.join ⟨#[c]⟩ (y :: r)).cps.toList = x.cps.toList ++ c :: jn c ((y :: r).map fun x => x.cps.toList)
    rw [app_cps, app_cps, join_jn]
    simp
theorem str_inj {x y : Str} (h : x.cps.toList = y.cps.toList) : x = y := by
  cases x
  cases y
  simp at h
  rw [h]
theorem map_cps_inj : ∀ {l m : List Str}, l.map (fun x => x.cps.toList) = m.map (fun x => x.cps.toList) → l = m
  | [], [], _ => rfl
  | [], _ :: _, h => by simp at h
  | _ :: _, [], h => by simp at h
  | x :: l, y :: m, h => by
    simp only [List.map_cons, List.cons.injEq] at h
    rw [str_inj h.1, map_cps_inj h.2]
theorem txt_join {s : Str} {l : List Str} : Txt.join s l = Str.join s l := StrLaws.glued_eq_join s l
theorem split_join {c : Nat} {ws : List Str} (h0 : ws ≠ []) (hf : ∀ w ∈ ws, c ∉ w.cps.toList) : Txt.split (Txt.join ⟨#[c]⟩ ws) ⟨#[c]⟩ = ws := by
  have h1 := StrLaws.join_split (Txt.join ⟨#[c]⟩ ws) ⟨#[c]⟩
  rw [txt_join] at h1 ⊢
  have h2 := congrArg (fun s : Str => s.cps.toList) h1
  simp only [join_jn] at h2
  obtain ⟨l, r, e⟩ := split_ne (z := Str.join ⟨#[c]⟩ ws) (c := c)
  refine map_cps_inj (jn_inj (c := c) ?_ ?_ ?_ ?_ h2)
  · rw [e]; simp
  · simpa using h0
  · intro x hx
    obtain ⟨w, hw, rfl⟩ := List.mem_map.mp hx
    exact StrLaws.split_free _ c w hw
  · intro x hx
    obtain ⟨w, hw, rfl⟩ := List.mem_map.mp hx
    exact hf w hw
theorem split_one {c : Nat} {z : Str} (h : c ∉ z.cps.toList) : Txt.split z ⟨#[c]⟩ = [z] := by
  have := split_join (c := c) (ws := [z]) (by simp) (by simpa using h)
  rw [txt_join] at this
  exact this
theorem one_line {z : Str} (h : (Txt.split z "\n").length = 1) : Txt.split z "\n" = [z] := by
  have h1 := StrLaws.join_split z "\n"
  cases e : Txt.split z "\n" with
  | nil => rw [e] at h; simp at h
  | cons l r =>
    rw [e] at h h1
    have : r = [] := List.eq_nil_of_length_eq_zero (by simpa using h)
    subst this
    have h1 : l = z := h1
    rw [h1]
theorem nm_free {z : Str} {c : Nat} (h : isNm z = true) (hc : c ∉ letters) (hf : c ∉ figures) : c ∉ z.cps.toList := fun hm => by
  rcases (nm_facts h).2.2 c hm with h | h
  · exact hc h
  · exact hf h
theorem join_mem {c d : Nat} : ∀ {ws : List Str}, d ∈ (Str.join ⟨#[c]⟩ ws).cps.toList → d = c ∨ ∃ w ∈ ws, d ∈ w.cps.toList
  | [], h => by cases h
  | [x], h => .inr ⟨x, List.mem_cons_self, h⟩
  | x :: y :: r, h => by
    have h : d ∈ (x ++ ⟨#[c]⟩ ++ Str.join ⟨#[c]⟩ (y :: r)).cps.toList := h
    rw [app_cps, app_cps] at h
    rcases List.mem_append.mp h with h | h
    · rcases List.mem_append.mp h with h | h
      · exact .inr ⟨x, List.mem_cons_self, h⟩
      · exact .inl (by simpa using h)
    · rcases join_mem h with h | ⟨w, hw, h⟩
      · exact .inl h
      · exact .inr ⟨w, List.mem_cons_of_mem _ hw, h⟩
theorem badAt_good : ∀ {ws : List Str} {k : Nat}, (∀ w ∈ ws, isNm w = true) → badAt ws k = none
  | [], _, _ => rfl
  | w :: r, k, h => by
    rw [badAt_cons, if_pos (h w List.mem_cons_self)]
    exact badAt_good fun x hx => h x (List.mem_cons_of_mem _ hx)
/-- the text of a word of names is read back -/
theorem read_back {ws : List Str} (h : ∀ w ∈ ws, isNm w = true) : firstWrong (textOf ws) = none ∧ wordOf (textOf ws) = ws ∧ (ws ≠ [] → lineOf (textOf ws) = ws) := by
  cases ws with
  | nil =>
    have e1 : Txt.split ("_" : Str) ⟨#[10]⟩ = [("_" : Str)] := split_one (by decide +kernel)
    have e2 : Txt.split ("_" : Str) ⟨#[32]⟩ = [("_" : Str)] := split_one (by decide +kernel)
    have el : lineOf (textOf []) = [("_" : Str)] := by
      show Txt.split ((Txt.split ("_" : Str) ⟨#[10]⟩).headD "") ⟨#[32]⟩ = _
      rw [e1]
      exact e2
    have en : (Txt.split (textOf []) "\n").length = 1 := by
      show (Txt.split ("_" : Str) ⟨#[10]⟩).length = 1
      rw [e1]
      rfl
    refine ⟨?_, ?_, fun h => absurd rfl h⟩
    · unfold firstWrong
      rw [el, en]
      rfl
    · unfold wordOf
      rw [el]
      rfl
  | cons w r =>
    have et : textOf (w :: r) = Txt.join ⟨#[32]⟩ (w :: r) := by
      unfold textOf
      rw [if_neg (by simp)]
      rfl
    have f32 : ∀ x ∈ w :: r, 32 ∉ x.cps.toList := fun x hx => nm_free (h x hx) (by decide +kernel) (by decide +kernel)
    have f10 : 10 ∉ (textOf (w :: r)).cps.toList := by
      rw [et, txt_join]
      intro hm
      rcases join_mem hm with e | ⟨x, hx, hm⟩
      · cases e
      · exact nm_free (h x hx) (by decide +kernel) (by decide +kernel) hm
    have e1 : Txt.split (textOf (w :: r)) "\n" = [textOf (w :: r)] := split_one f10
    have el : lineOf (textOf (w :: r)) = w :: r := by
      unfold lineOf
      rw [e1]
      show Txt.split (textOf (w :: r)) ⟨#[32]⟩ = w :: r
      rw [et]
      exact split_join (by simp) f32
    have hu : w ≠ "_" := fun z => by
      have := h w List.mem_cons_self
      rw [z] at this
      revert this
      decide +kernel
    refine ⟨?_, ?_, fun _ => el⟩
    · unfold firstWrong
      rw [el, e1, badAt_good h]
      simp [hu]
    · unfold wordOf
      rw [el]
      simp [hu]
theorem text_back {z : Str} (h : firstWrong z = none) : textOf (wordOf z) = z := by
  have key : (Txt.split z "\n").length = 1 := by
    unfold firstWrong at h
    split at h
    · split at h
      · rename_i h2
        exact h2.2
      · cases h
    · split at h
      · cases h
      · split at h
        · assumption
        · cases h
  have e1 := one_line key
  have el : lineOf z = Txt.split z ⟨#[32]⟩ := by
    unfold lineOf
    rw [e1]
    rfl
  have hj := StrLaws.join_split z ⟨#[32]⟩
  by_cases hu : (lineOf z).head? = some "_"
  · have hw : wordOf z = [] := by unfold wordOf; rw [if_pos hu]
    unfold firstWrong at h
    rw [if_pos hu] at h
    split at h
    · rename_i h2
      rw [hw]
      cases e : lineOf z with
      | nil => rw [e] at hu; cases hu
      | cons l r =>
        rw [e] at h2 hu
        have hr : r = [] := List.eq_nil_of_length_eq_zero (by simpa using h2.1)
        subst hr
        rw [← el, e] at hj
        have hj : l = z := hj
        have hu : l = "_" := by simpa using hu
        rw [← hj, hu]
        rfl
    · cases h
  · have hw : wordOf z = lineOf z := by unfold wordOf; rw [if_neg hu]
    rw [hw]
    unfold textOf
    rw [if_neg (row0 (z := z)).2.2, txt_join, el]
    exact hj
end Dx

set_option Elab.async false
set_option linter.all false
set_option maxRecDepth 100000
set_option maxHeartbeats 4000000
namespace Dx
open PySem L2 Wx
@[simp] theorem dSf_eq {ok : Str → Str → Bool} {a : Addr} {C f : Str} {d : Option Addr} {te : TEd} {ρ : Env} {n : Nat} {Q : QD} {X : XD} : dSf ok a C d f te ρ n Q X = (ok C f = true ∧ te ρ n (fun s ρ1 n1 => ∃ fs es v, s = .dat (.exc a d C fs es) ∧ (fs.zip es).lookup f = some v ∧ Q (.dat v) ρ1 n1) X) := id rfl
theorem okf_line : okf "BadText" "line" = true := by decide +kernel
theorem okf_word : okf "BadText" "word" = true := by decide +kernel
theorem exT_bt : exT "BadText" "BadText" = some true := by decide +kernel
/-- what the law's catcher tells of word_read -/
theorem why_read {ρ : Env} {n : Nat} {Q : QD} {X : XD} {te : TEd} {d : D} (hd : gv d = true) (hl : ∀ z, d = .str z → z.length ≤ 100000) (ht : ∀ (Q' : QD) (X' : XD), sp_word_read [d] n (fun o n2 => Q' (resS o) ρ n2) (fun C fs es n2 => X' ρ C fs es n2) → te ρ n Q' X')
    (hs : ∀ z, d = .str z → match firstWrong z with
      | some k => Q (.new (.lst none [.str "text", .int 1, .int (k : Nat)])) ρ n
      | none => Q (.dat .non) ρ n) (hn : (∀ z, d ≠ .str z) → Q (.new (.lst none [.str "text", .int 0, .int 0])) ρ n) : dWhy (some 1) n__law_why hs__law_why post__law_why te ρ n Q X := by
  intro f
  have l3 : 3 ≤ sizeLine := by rw [sizeLine_eq]; omega
  have bad : ∀ (k l : Int), Q (.new (.lst none [.str "text", .int l, .int k])) ρ n → dCatch { nx := fun ρ4 n4 => post__law_why (whyD Q ρ) ρ4 n4, rt := (whyD Q ρ).rt } hs__law_why (whyE (some 1) n__law_why f) "BadText" ["word", "line"] [.int k, .int l] n := by
    intro k l q
    refine ⟨true, exT_bt, fun _ a dd _ => ?_, fun z => nomatch z⟩
    simp [whyE, start, dUnset, post__law_why, whyD]
    exact ⟨okf_line, _, _, ⟨rfl, rfl⟩, .int l, by rfl, okf_word, _, _, ⟨rfl, rfl⟩, .int k, by rfl, l3, q⟩
  refine ht _ _ ⟨d, rfl, hd, ?_⟩
  cases d <;> simp only [gv] at hd <;> try exact bad 0 0 (hn fun z h => by cases h)
  case str z =>
    refine ⟨hl z rfl, ?_⟩
    have hs := hs z rfl
    cases e : firstWrong z with
    | some k =>
      rw [e] at hs
      exact bad k 1 hs
    | none =>
      rw [e] at hs
      simp [post__law_why, whyE, start, whyD]
      exact hs
  all_goals cases hd
end Dx

set_option Elab.async false
set_option linter.all false
set_option maxRecDepth 100000
set_option maxHeartbeats 4000000
namespace Dx
open PySem L2 Wx
@[simp] theorem dNeg_eq {ta : TEd} {ρ : Env} {n : Nat} {Q : QD} {X : XD} : dNeg ta ρ n Q X = ta ρ n (fun s ρ1 n1 => match s with
  | .dat (.int b) => Q (.dat (.int (-b))) ρ1 n1
  | _ => False) X := id rfl
@[simp] theorem dDNew_eq {ρ : Env} {n : Nat} {Q : QD} {X : XD} : dDNew ρ n Q X = Q (.new (.dic none [] [])) ρ n := id rfl
@[simp] theorem dRepS_eq {z : Str} {i : Int} {k : S → Prop} : dRepS (.leaf (.str z)) (.leaf (.int i)) k = (1 < i ∧ i ≤ 1000 ∧ 0 < z.length ∧ z.length ≤ 1000 ∧ k (.dat (.str (strRep i.toNat z)))) := propext ⟨fun ⟨z', i', e1, e2, h⟩ => by cases e1; cases e2; exact h, fun h => ⟨z, i, rfl, rfl, h⟩⟩
theorem bad_all : ∀ {ws : List Str} {k : Nat}, badAt ws k = none → ∀ w ∈ ws, isNm w = true
  | [], _, _, _, h => by cases h
  | w :: r, k, h, x, hx => by
    rw [badAt_cons] at h
    cases hn : isNm w with
    | false => rw [hn, if_neg (by simp)] at h; cases h
    | true =>
      rw [hn, if_pos rfl] at h
      rcases List.mem_cons.mp hx with rfl | hx
      · exact hn
      · exact bad_all h x hx
theorem word_names {z : Str} (h : firstWrong z = none) : ∀ w ∈ wordOf z, isNm w = true := by
  unfold wordOf
  by_cases hu : (lineOf z).head? = some "_"
  · rw [if_pos hu]
    intro w hw
    cases hw
  · rw [if_neg hu]
    unfold firstWrong at h
    rw [if_neg hu] at h
    split at h
    · cases h
    · rename_i hb
      exact bad_all hb
theorem word_len {z : Str} : (wordOf z).length ≤ z.length + 1 := by
  unfold wordOf
  split
  · simp
  · exact line_len.1
def dueO (z : Str) : O := match firstWrong z with
  | some k => .lst none [.str "text", .int 1, .int (k : Nat)]
  | none => .leaf .non
theorem text_ok : PyData.strOk "text" = true := by decide +kernel
theorem ne_due {a b : Int} {x : Option Addr} {k : S → Prop} : dNe (.leaf (.lst [.str "text", .int a, .int b])) (.lst x [.str "text", .int a, .int b]) k = k (.dat (.bl false)) := by
  show (okd 60 (frz (.leaf (.lst [.str "text", .int a, .int b]))) = true ∧ okd 60 (frz (.lst x [.str "text", .int a, .int b])) = true ∧ k (.dat (.bl (!eqD (frz (.leaf (.lst [.str "text", .int a, .int b]))) (frz (.lst x [.str "text", .int a, .int b])))))) = _
  simp [okd, okds, text_ok, eqD, toPy, toPys, PyData.eqv, PyData.eqvAll]
theorem eq_due {a b : Int} {x : Option Addr} {k : S → Prop} : dEq (.leaf (.lst [.str "text", .int a, .int b])) (.lst x [.str "text", .int a, .int b]) k = k (.dat (.bl true)) := by
  show (okd 60 (frz (.leaf (.lst [.str "text", .int a, .int b]))) = true ∧ okd 60 (frz (.lst x [.str "text", .int a, .int b])) = true ∧ k (.dat (.bl (eqD (frz (.leaf (.lst [.str "text", .int a, .int b]))) (frz (.lst x [.str "text", .int a, .int b])))))) = _
  simp [okd, okds, text_ok, eqD, toPy, toPys, PyData.eqv, PyData.eqvAll]
theorem ne_non {k : S → Prop} : dNe (.leaf .non) (.leaf .non) k = k (.dat (.bl false)) := by
  show (okd 60 (frz (.leaf .non)) = true ∧ okd 60 (frz (.leaf .non)) = true ∧ k (.dat (.bl (!eqD (frz (.leaf .non)) (frz (.leaf .non)))))) = _
  simp [okd, eqD, toPy, PyData.eqv]
section
variable {D : Dd} {n : Nat} {s2 s3 s4 s5 s6 s7 s8 s9 s10 s11 s12 s13 s14 : Option O}
theorem rd_law_0 {z : Str} (hz : z.length ≤ 9000) (q : D.nx [some (.leaf .scr), some (.leaf .pen), s2, s3, s4, s5, s6, s7, s8, s9, s10, s11, some (.leaf (.str z)), some (dueO z), s14] n) :
    t_law_0 D [some (.leaf .scr), some (.leaf .pen), s2, s3, s4, s5, s6, s7, s8, s9, s10, s11, some (.leaf (.str z)), some (dueO z), s14] n := by
  unfold t_law_0 dueO at *
  cases e : firstWrong z with
  | some k =>
    rw [e] at q
    simp [isN]
    exact q
  | none =>
    rw [e] at q
    simp [isN]
    refine ⟨.str z, rfl, by simp [gv]; omega, by omega, ?_⟩
    rw [e]
    simp
    refine ⟨_, wordOf z, rfl, rfl, ?_, fun x hx => ?_, ?_⟩
    · have := word_len (z := z)
      omega
    · have := (nm_facts (word_names e x hx)).2.1
      omega
    · simp [text_back e]
      exact q
theorem rd_law_1 {z : Str} (hz : z.length ≤ 9000) (q : D.nx [some (.leaf .scr), some (.leaf .pen), s2, s3, s4, s5, s6, s7, s8, s9, s10, s11, some (.leaf (.str z)), some (dueO z), s14] n) :
    t_law_1 D [some (.leaf .scr), some (.leaf .pen), s2, s3, s4, s5, s6, s7, s8, s9, s10, s11, some (.leaf (.str z)), some (dueO z), s14] n := by
  have h0 := rd_law_0 hz q
  unfold t_law_1
  simp only [dSeq_eq, dIfS_eq, dTest_eq, dOp_eq]
  refine why_read (d := .str z) (by simp [gv]; omega) (fun z' h => by cases h; omega) (fun Q' X' h => by simpa using h) (fun z' h => ?_) (fun h => absurd rfl (h z))
  cases h
  cases e : firstWrong z with
  | some k =>
    have ed : dueO z = .lst none [.str "text", .int 1, .int (k : Nat)] := by unfold dueO; rw [e]
    rw [ed] at h0 ⊢
    simp [ne_due]
    exact h0
  | none =>
    have ed : dueO z = .leaf .non := by unfold dueO; rw [e]
    rw [ed] at h0 ⊢
    simp [ne_non]
    exact h0
theorem rd_law_2 {z : Str} (hz : z.length ≤ 9000) (ok : PyData.strOk z = true) (q : ∀ s13, D.nx [some (.leaf .scr), some (.leaf .pen), s2, s3, s4, s5, s6, s7, s8, s9, s10, s11, some (.leaf (.str z)), s13, s14] n) :
    t_law_2 D [some (.leaf .scr), some (.leaf .pen), s2, s3, s4, s5, s6, s7, s8, s9, s10, s11, some (.leaf (.str z)), s13, s14] n := by
  have h1 := rd_law_1 (D := D) (n := n) (s2 := s2) (s3 := s3) (s4 := s4) (s5 := s5) (s6 := s6) (s7 := s7) (s8 := s8) (s9 := s9) (s10 := s10) (s11 := s11) (s14 := s14) hz (q _)
  unfold t_law_2
  simp
  refine ⟨z, rfl, by omega, ok, ?_⟩
  unfold dueO at h1
  cases e : firstWrong z with
  | some k => rw [e] at h1; simpa using h1
  | none => rw [e] at h1; simpa using h1
end
end Dx

set_option Elab.async false
set_option linter.all false
set_option maxRecDepth 100000
set_option maxHeartbeats 4000000
namespace Dx
open PySem L2 Wx
theorem sum_le {l : List Str} {b : Nat} (h : ∀ x ∈ l, x.length ≤ b) : (l.map (·.length)).sum ≤ l.length * b := by
  induction l with
  | nil => simp
  | cons x r ih =>
    have := ih fun y hy => h y (List.mem_cons_of_mem _ hy)
    have := h x List.mem_cons_self
    simp [Nat.succ_mul]
    omega
theorem join_len {ws : List Str} (h : ∀ x ∈ ws, x.length ≤ 100) (hl : ws.length ≤ 20) : (Txt.join " " ws).length ≤ 2100 ∧ (ws.map (·.length)).sum + ws.length * (" " : Str).length ≤ 16777216 := by
  have h1 := sum_le h
  have h2 := StrLaws.join_length_le " " ws
  have e : (" " : Str).length = 1 := rfl
  rw [e] at h2 ⊢
  rw [txt_join]
  have : ws.length * 100 ≤ 20 * 100 := Nat.mul_le_mul_right _ hl
  exact ⟨by omega, by omega⟩
theorem join_ok {ws : List Str} (h : ∀ x ∈ ws, PyData.strOk x = true) : PyData.strOk (Txt.join " " ws) = true := strOk_mem.mpr fun c hc => by
  rw [txt_join] at hc
  rcases join_mem (c := 32) hc with e | ⟨w, hw, hm⟩
  · omega
  · exact strOk_mem.mp (h w hw) c hm
section
variable {D : Dd} {n : Nat} {s2 s3 s4 s5 s6 s7 s8 s9 s10 s11 s12 s13 s14 : Option O}
theorem rd_law_3 {ws : List Str} (hl : ws.length ≤ 20) (h : ∀ x ∈ ws, x.length ≤ 100 ∧ PyData.strOk x = true) (q : ∀ s12 s13, D.nx [some (.leaf .scr), some (.leaf .pen), s2, s3, s4, s5, s6, s7, s8, s9, some (.lst none (ws.map .str)), s11, s12, s13, s14] n) :
    t_law_3 D [some (.leaf .scr), some (.leaf .pen), s2, s3, s4, s5, s6, s7, s8, s9, some (.lst none (ws.map .str)), s11, s12, s13, s14] n := by
  obtain ⟨j1, j2⟩ := join_len (fun x hx => (h x hx).1) hl
  unfold t_law_3
  simp
  refine ⟨ws, rfl, j2, ?_⟩
  exact rd_law_2 (by omega) (join_ok fun x hx => (h x hx).2) fun s13 => q _ _
theorem rd_law_4 {ws zs : List Str} {z0 : Str} (hn : n ≤ 9000) (hz : ∀ z ∈ z0 :: zs, isNm z = true) (hzl : zs.length ≤ 5) (hl : ws.length ≤ 12) (h : ∀ x ∈ ws, x.length ≤ 100 ∧ PyData.strOk x = true)
    (q : ∀ s10 s11 s12 s13 n', n' ≤ n + 10 → D.nx [some (.leaf .scr), some (.leaf .pen), s2, some (.leaf (.tup ((z0 :: zs).map .str))), s4, s5, s6, s7, s8, s9, s10, s11, s12, s13, s14] n') :
    t_law_4 D [some (.leaf .scr), some (.leaf .pen), s2, some (.leaf (.tup ((z0 :: zs).map .str))), s4, s5, s6, s7, s8, s9, some (.lst none (ws.map .str)), s11, s12, s13, s14] n := by
  unfold t_law_4
  simp
  refine dloop_ind (I := fun r ρ m => ∃ (ws : List Str) (s11 s12 s13 : Option O), ρ = [some (.leaf .scr), some (.leaf .pen), s2, some (.leaf (.tup ((z0 :: zs).map .str))), s4, s5, s6, s7, s8, s9, some (.lst none (ws.map .str)), s11, s12, s13, s14] ∧ ws.length + r.length ≤ 14 ∧ m + 3 * r.length ≤ n + 6 ∧ ∀ x ∈ ws, x.length ≤ 100 ∧ PyData.strOk x = true) ?step ?fin _ _ _ ⟨ws, _, _, _, rfl, by simp [dints]; omega, by simp [dints], h⟩
  case step =>
    rintro d r ρ m K ⟨ws, s11, s12, s13, rfl, hl, hm, hx⟩ k
    rw [List.length_cons] at hl hm
    have g0 := nm_facts (hz z0 List.mem_cons_self)
    have o0 := nm_ok (hz z0 List.mem_cons_self)
    have e1 : ("\n" : Str).length = 1 := rfl
    have l1 : (z0 ++ "\n" : Str).length = z0.length + 1 := by rw [Str.length_append, e1]
    have l2 : (z0 ++ "\n" ++ z0 : Str).length = z0.length + 1 + z0.length := by rw [Str.length_append, l1]
    simp [sizeLine_eq]
    refine ⟨.str z0, atI_0, ?_⟩
    simp [sizeLine_eq]
    refine ⟨by omega, .str z0, atI_0, ?_⟩
    simp [sizeLine_eq]
    refine ⟨by omega, by omega, _, _, ws, z0 :: (zs ++ [("_" : Str), ("\n" : Str), z0 ++ ("\n" : Str) ++ z0]), rfl, rfl, by simp [lstO], by simp, by omega, by simp; omega, by omega, hx, fun y hy => ?_, fun ws' n' h1 h2 h3 => ?_⟩
    · rcases List.mem_cons.mp hy with rfl | hy
      · exact ⟨by omega, o0⟩
      · rcases List.mem_append.mp hy with hy | hy
        · have hm := hz y (List.mem_cons_of_mem _ hy)
          have := (nm_facts hm).2.1
          exact ⟨by omega, nm_ok hm⟩
        · simp only [List.mem_cons, List.not_mem_nil, or_false] at hy
          rcases hy with rfl | rfl | rfl
          · exact ⟨by decide +kernel, by decide +kernel⟩
          · exact ⟨by decide +kernel, by decide +kernel⟩
          · exact ⟨by omega, strOk_app (strOk_app o0 (by decide +kernel)) o0⟩
    · exact rd_law_3 (ws := ws') (by omega) h2 fun s12 s13 => k _ _ ⟨ws', _, _, _, rfl, by omega, by omega, h2⟩
  case fin =>
    rintro ρ m ⟨ws, s11, s12, s13, rfl, hl, hm, hx⟩
    exact q _ _ _ _ _ (by simp at hm; omega)
theorem rd_law_5 {ws zs : List Str} {z0 : Str} (hn : n ≤ 9000) (hz : ∀ z ∈ z0 :: zs, isNm z = true) (hzl : zs.length ≤ 5) (hl : ws.length ≤ 12) (h : ∀ x ∈ ws, isNm x = true)
    (q : ∀ s10 s11 s12 s13 n', n' ≤ n + 10 → D.nx [some (.leaf .scr), some (.leaf .pen), s2, some (.leaf (.tup ((z0 :: zs).map .str))), s4, s5, s6, s7, s8, some (.leaf (.str (textOf ws))), s10, s11, s12, s13, s14] n') :
    t_law_5 D [some (.leaf .scr), some (.leaf .pen), s2, some (.leaf (.tup ((z0 :: zs).map .str))), s4, s5, s6, s7, s8, some (.leaf (.str (textOf ws))), s10, s11, s12, s13, s14] n := by
  have h100 : ∀ x ∈ ws, x.length ≤ 100 ∧ PyData.strOk x = true := fun x hx => ⟨by have := (nm_facts (h x hx)).2.1; omega, nm_ok (h x hx)⟩
  have tl : (textOf ws).length ≤ 3000 := by
    unfold textOf
    split
    · decide +kernel
    · have := (join_len (fun x hx => (h100 x hx).1) (by omega)).1
      omega
  have sp : ∃ us : List Str, Txt.split (textOf ws) " " = us ∧ us.length ≤ 12 ∧ ∀ x ∈ us, x.length ≤ 100 ∧ PyData.strOk x = true := by
    cases ws with
    | nil =>
      have e2 : Txt.split ("_" : Str) ⟨#[32]⟩ = [("_" : Str)] := split_one (by decide +kernel)
      refine ⟨_, e2, by simp, fun x hx => ?_⟩
      rw [List.mem_singleton.mp hx]
      exact ⟨by decide +kernel, by decide +kernel⟩
    | cons w r =>
      refine ⟨w :: r, ?_, hl, h100⟩
      have et : textOf (w :: r) = Txt.join ⟨#[32]⟩ (w :: r) := by
        unfold textOf
        rw [if_neg (by simp)]
        rfl
      rw [et]
      exact split_join (by simp) fun x hx => nm_free (h x hx) (by decide +kernel) (by decide +kernel)
  obtain ⟨us, e, ul, uh⟩ := sp
  unfold t_law_5
  simp [sizeLine_eq]
  refine ⟨by decide, by omega, ?_⟩
  rw [e]
  exact rd_law_4 hn hz hzl ul uh q
theorem shows_strs : ∀ {ws : List Str}, PyData.showableAll (ws.map PyData.str) = true ∧ PyData.hasDictAll (ws.map PyData.str) = false ∧ PyData.intsShortAll 13 (ws.map PyData.str) = true
  | [] => by simp [PyData.showableAll, PyData.hasDictAll, PyData.intsShortAll]
  | x :: r => by
    obtain ⟨a, b, c⟩ := shows_strs (ws := r)
    simp [PyData.showableAll, PyData.hasDictAll, PyData.intsShortAll, PyData.showable, PyData.hasDict, PyData.intsShort, a, b, c]
theorem weight_strs : ∀ {ws : List Str}, (∀ x ∈ ws, x.length ≤ 12) → PyData.weightAll (ws.map PyData.str) ≤ ws.length * 13
  | [], _ => by simp [PyData.weightAll]
  | x :: r, h => by
    have := weight_strs fun y hy => h y (List.mem_cons_of_mem _ hy)
    have h1 := h x List.mem_cons_self
    have h1 : x.cps.size ≤ 12 := h1
    simp [PyData.weightAll, PyData.weight, Nat.succ_mul]
    omega
/-- repr of a word of names -/
theorem repr_word {ws : List Str} (h : ∀ x ∈ ws, isNm x = true) (hl : ws.length ≤ 12) : okd 60 (.tup (ws.map .str)) = true ∧ (toPy (.tup (ws.map .str))).showable = true ∧ (toPy (.tup (ws.map .str))).hasDict = false ∧ (toPy (.tup (ws.map .str))).shown.length ≤ sizeLine := by
  have ok : okd 60 (.tup (ws.map .str)) = true := by
    have := okds_strs (n := 59) fun x hx => nm_ok (h x hx)
    simpa [okd] using this
  have et : toPy (.tup (ws.map .str)) = .tuple (ws.map PyData.str) := by simp [toPy, toPys_strs]
  obtain ⟨a, b, c⟩ := shows_strs (ws := ws)
  obtain ⟨l1, l2⟩ := okd_lay 60 _ ok
  rw [et] at l1 l2 ⊢
  have hw := weight_strs fun x hx => (nm_facts (h x hx)).2.1
  have lay : PyData.layable0 (.tuple (ws.map PyData.str)) = true := by
    unfold PyData.layable0
    rw [l1, decide_eq_true (by omega), decide_eq_true (by simp [PyData.weight]; omega)]
    rfl
  have := PyProof.Rows.shown_le13 lay (by simpa [PyData.intsShort] using c)
  exact ⟨ok, by simpa [PyData.showable] using a, by simpa [PyData.hasDict] using b, by rw [sizeLine_eq]; omega⟩
theorem rd_law_6 {ws zs : List Str} {z0 : Str} (hn : n ≤ 9000) (hz : ∀ z ∈ z0 :: zs, isNm z = true) (hzl : zs.length ≤ 5) (hl : ws.length ≤ 12) (h : ∀ x ∈ ws, isNm x = true)
    (q : ∀ s10 s11 s12 s13 n', n' ≤ n + 10 → D.nx [some (.leaf .scr), some (.leaf .pen), s2, some (.leaf (.tup ((z0 :: zs).map .str))), s4, some (.leaf (.tup (ws.map .str))), s6, s7, s8, some (.leaf (.str (textOf ws))), s10, s11, s12, s13, s14] n') :
    t_law_6 D [some (.leaf .scr), some (.leaf .pen), s2, some (.leaf (.tup ((z0 :: zs).map .str))), s4, some (.leaf (.tup (ws.map .str))), s6, s7, s8, some (.leaf (.str (textOf ws))), s10, s11, s12, s13, s14] n := by
  have h5 := rd_law_5 (D := D) (s2 := s2) (s4 := s4) (s5 := some (.leaf (.tup (ws.map .str)))) (s6 := s6) (s7 := s7) (s8 := s8) (s10 := s10) (s11 := s11) (s12 := s12) (s13 := s13) (s14 := s14) hn hz hzl hl h q
  obtain ⟨r1, r2, r3, r4⟩ := repr_word h hl
  obtain ⟨b1, b2, _⟩ := read_back h
  have w1 : ∀ x ∈ ws, x.length ≤ 1000 := fun x hx => by have := (nm_facts (h x hx)).2.1; omega
  have tl : (textOf ws).length ≤ 3000 := by
    unfold textOf
    split
    · decide +kernel
    · have := (join_len (ws := ws) (fun x hx => by have := (nm_facts (h x hx)).2.1; omega) (by omega)).1
      omega
  unfold t_law_6
  simp
  refine ⟨_, ws, rfl, rfl, by omega, w1, ?_⟩
  simp
  refine ⟨_, ws, rfl, rfl, by omega, w1, ?_⟩
  simp
  refine ⟨.str (textOf ws), rfl, by simp [gv]; omega, by omega, ?_⟩
  rw [b1]
  simp
  rw [b2]
  refine ⟨r1, r2, r3, r4, ?_⟩
  simp
  refine ⟨r1, r2, r3, r4, ?_⟩
  simp
  exact h5
end
end Dx

set_option Elab.async false
set_option linter.all false
set_option maxRecDepth 100000
set_option maxHeartbeats 4000000
namespace Dx
open PySem L2 Wx
theorem ne_tup {ds : List D} {k : S → Prop} : dNe (.leaf (.tup ds)) (.leaf (.tup [])) k = (okd 60 (.tup ds) = true ∧ k (.dat (.bl (!ds.isEmpty)))) := by
  show (okd 60 (frz (.leaf (.tup ds))) = true ∧ okd 60 (frz (.leaf (.tup []))) = true ∧ k (.dat (.bl (!eqD (frz (.leaf (.tup ds))) (frz (.leaf (.tup []))))))) = _
  have : eqD (.tup ds) (.tup []) = ds.isEmpty := by cases ds <;> simp [eqD, toPy, toPys, PyData.eqv, PyData.eqvAll]
  simp [this, okd, okds]
section
variable {D : Dd} {n : Nat} {s2 s3 s4 s5 s6 s7 s8 s9 s10 s11 s12 s13 s14 : Option O}
theorem rd_law_7 {ws zs : List Str} {z0 : Str} (hn : n ≤ 9000) (hz : ∀ z ∈ z0 :: zs, isNm z = true) (hzl : zs.length ≤ 5) (hl : ws.length ≤ 12) (h : ∀ x ∈ ws, isNm x = true)
    (q : ∀ s9 s10 s11 s12 s13 n', n' ≤ n + 10 → D.nx [some (.leaf .scr), some (.leaf .pen), s2, some (.leaf (.tup ((z0 :: zs).map .str))), s4, some (.leaf (.tup (ws.map .str))), s6, s7, s8, s9, s10, s11, s12, s13, s14] n') :
    t_law_7 D [some (.leaf .scr), some (.leaf .pen), s2, some (.leaf (.tup ((z0 :: zs).map .str))), s4, some (.leaf (.tup (ws.map .str))), s6, s7, s8, s9, s10, s11, s12, s13, s14] n := by
  have h6 := rd_law_6 (D := D) (s2 := s2) (s4 := s4) (s6 := s6) (s7 := s7) (s8 := s8) (s10 := s10) (s11 := s11) (s12 := s12) (s13 := s13) (s14 := s14) hn hz hzl hl h (fun _ _ _ _ _ h => q _ _ _ _ _ _ h)
  obtain ⟨r1, r2, r3, r4⟩ := repr_word h hl
  have j2 := (join_len (ws := ws) (fun x hx => by have := (nm_facts (h x hx)).2.1; omega) (by omega)).2
  unfold t_law_7
  simp
  rw [ne_tup]
  refine ⟨r1, ?_⟩
  cases ws with
  | nil =>
    simp
    exact h6
  | cons w r =>
    have et : textOf (w :: r) = Txt.join " " (w :: r) := by
      unfold textOf
      rw [if_neg (by simp)]
    rw [et] at h6
    simp
    exact ⟨w :: r, rfl, j2, h6⟩
theorem rd_law_8 {ws os zs : List Str} {z0 : Str} (hn : n ≤ 8000) (hz : ∀ z ∈ z0 :: zs, isNm z = true) (hzl : zs.length ≤ 5) (hl : ws.length ≤ 12) (h : ∀ x ∈ ws, isNm x = true) (hol : os.length ≤ 30) (ho : ∀ x ∈ os, isNm x = true)
    (q : ∀ s8 s9 s10 s11 s12 s13 n', n' ≤ n + 20 → D.nx [some (.leaf .scr), some (.leaf .pen), s2, some (.leaf (.tup ((z0 :: zs).map .str))), s4, some (.leaf (.tup (ws.map .str))), s6, some (.leaf (.tup (os.map .str))), s8, s9, s10, s11, s12, s13, s14] n') :
    t_law_8 D [some (.leaf .scr), some (.leaf .pen), s2, some (.leaf (.tup ((z0 :: zs).map .str))), s4, some (.leaf (.tup (ws.map .str))), s6, some (.leaf (.tup (os.map .str))), s8, s9, s10, s11, s12, s13, s14] n := by
  have gs : ∀ {l : List Str}, (∀ x ∈ l, isNm x = true) → l.length ≤ 30 → gw (.tup (l.map .str)) = true ∧ gx (.tup (l.map .str)) = true := fun {l} hl hn => by
    have g1 : ∀ x ∈ l.map Dx.D.str, gv x = true := fun d hd => by
      obtain ⟨x, hx, rfl⟩ := List.mem_map.mp hd
      have := (nm_facts (hl x hx)).2.1
      simp [gv]
      omega
    have g2 : okds 59 (l.map Dx.D.str) = true := okds_strs fun x hx => nm_ok (hl x hx)
    have g3 : (l.map Dx.D.str).length ≤ 1000 := by simp; omega
    simp only [gw, gx, Bool.and_eq_true, decide_eq_true_eq, List.all_eq_true]
    exact ⟨⟨g3, g1⟩, g3, g1, g2⟩
  unfold t_law_8
  simp [sizeLine_eq]
  refine ⟨.str z0, atI_0, .str z0, atI_0, z0, rfl, hz z0 List.mem_cons_self, by omega, fun od hg hok => ⟨by omega, ?_⟩⟩
  simp
  refine dloop_ind (I := fun r ρ m => (∀ x ∈ r, gw x = true ∧ gx x = true) ∧ m = n + 1 ∧ ∃ s8 : Option O, ρ = [some (.leaf .scr), some (.leaf .pen), s2, some (.leaf (.tup ((z0 :: zs).map .str))), s4, some (.leaf (.tup (ws.map .str))), s6, some (.leaf (.tup (os.map .str))), s8, s9, s10, s11, s12, s13, s14]) ?step ?fin _ _ _ ⟨fun x hx => ?_, rfl, _, rfl⟩
  case step =>
    rintro d r ρ m K ⟨hd, rfl, s8, rfl⟩ k
    obtain ⟨g1, g2⟩ := hd d List.mem_cons_self
    simp
    refine ⟨d, rfl, g1, ?_⟩
    simp
    refine ⟨d, rfl, g2, ?_⟩
    simp
    refine ⟨_, _, rfl, ?_⟩
    simp
    exact k _ _ ⟨fun x hx => hd x (List.mem_cons_of_mem _ hx), rfl, _, rfl⟩
  case fin =>
    rintro ρ m ⟨_, rfl, s8, rfl⟩
    exact rd_law_7 (by omega) hz hzl hl h fun s9 s10 s11 s12 s13 n' hn' => q _ _ _ _ _ _ _ (by omega)
  · simp only [List.mem_cons, List.not_mem_nil, or_false] at hx
    rcases hx with rfl | rfl | rfl | rfl | rfl | rfl | rfl | rfl | rfl
    · exact gs h (by omega)
    · exact gs ho hol
    · exact ⟨rfl, rfl⟩
    · exact ⟨rfl, rfl⟩
    · exact ⟨rfl, rfl⟩
    · have := (nm_facts (hz z0 List.mem_cons_self)).2.1
      exact ⟨by simp [gw, gv]; omega, by simp [gx, gv]; omega⟩
    · have g1 : ∀ x ∈ ws.map Dx.D.str ++ [od], gv x = true := fun d hd => by
        rcases List.mem_append.mp hd with hd | hd
        · obtain ⟨x, hx, rfl⟩ := List.mem_map.mp hd
          have := (nm_facts (h x hx)).2.1
          simp [gv]
          omega
        · rw [List.mem_singleton.mp hd]; exact hg
      have g2 : okds 59 (ws.map Dx.D.str ++ [od]) = true := okds_iff.mpr fun d hd => by
        rcases List.mem_append.mp hd with hd | hd
        · exact okds_iff.mp (okds_strs fun x hx => nm_ok (h x hx)) d hd
        · rw [List.mem_singleton.mp hd]; exact hok
      have g3 : (ws.map Dx.D.str ++ [od]).length ≤ 1000 := by simp; omega
      simp only [gw, gx, Bool.and_eq_true, decide_eq_true_eq, List.all_eq_true]
      exact ⟨⟨g3, g1⟩, g3, g1, g2⟩
    · exact ⟨rfl, rfl⟩
    · exact ⟨rfl, rfl⟩
end
end Dx

set_option Elab.async false
set_option linter.all false
set_option maxRecDepth 100000
set_option maxHeartbeats 4000000
namespace Dx
open PySem L2 Wx
section
variable {D : Dd} {n : Nat} {s2 s3 s4 s5 s6 s7 s8 s9 s10 s11 s12 s13 s14 : Option O}
theorem rd_law_9 {ws os zs : List Str} {z0 : Str} (hn : n ≤ 8000) (hz : ∀ z ∈ z0 :: zs, isNm z = true) (hzl : zs.length ≤ 5) (hl : ws.length ≤ 12) (h : ∀ x ∈ ws, isNm x = true) (hol : os.length ≤ 30) (ho : ∀ x ∈ os, isNm x = true)
    (q : ∀ s8 s9 s10 s11 s12 s13 n', n' ≤ n + 20 → D.nx [some (.leaf .scr), some (.leaf .pen), s2, some (.leaf (.tup ((z0 :: zs).map .str))), s4, some (.leaf (.tup (ws.map .str))), s6, some (.leaf (.tup (os.map .str))), s8, s9, s10, s11, s12, s13, s14] n') :
    t_law_9 D [some (.leaf .scr), some (.leaf .pen), s2, some (.leaf (.tup ((z0 :: zs).map .str))), s4, some (.leaf (.tup (ws.map .str))), s6, some (.leaf (.tup (os.map .str))), s8, s9, s10, s11, s12, s13, s14] n := by
  have h8 := rd_law_8 (s2 := s2) (s4 := s4) (s6 := s6) (s8 := s8) (s9 := s9) (s10 := s10) (s11 := s11) (s12 := s12) (s13 := s13) (s14 := s14) hn hz hzl hl h hol ho q
  have o1 := okd_lenD fun x hx => nm_ok (h x hx)
  have o2 := okd_lenD fun x hx => nm_ok (ho x hx)
  unfold t_law_9
  simp
  refine ⟨_, _, os, ws, rfl, rfl, rfl, fun x hx => nm_ok (ho x hx), fun x hx => nm_ok (h x hx), ?_⟩
  simp
  refine ⟨_, rfl, ?_⟩
  simp
  refine ⟨_, rfl, ?_⟩
  simp
  refine ⟨by simpa using o2, by simpa using o1, by simpa using alike_lenD, by simp [lenD], ?_⟩
  simp
  refine ⟨_, _, rfl, ?_⟩
  simp
  exact h8
theorem rd_law_10 {ws os zs : List Str} {z0 : Str} (hn : n ≤ 8000) (hz : ∀ z ∈ z0 :: zs, isNm z = true) (hzl : zs.length ≤ 5) (hl : ws.length ≤ 12) (h : ∀ x ∈ ws, isNm x = true) (hol : os.length ≤ 30) (ho : ∀ x ∈ os, isNm x = true)
    (q : ∀ s8 s9 s10 s11 s12 s13 n', n' ≤ n + 20 → D.nx [some (.leaf .scr), some (.leaf .pen), s2, some (.leaf (.tup ((z0 :: zs).map .str))), s4, some (.leaf (.tup (ws.map .str))), s6, some (.leaf (.tup (os.map .str))), s8, s9, s10, s11, s12, s13, s14] n') :
    t_law_10 D [some (.leaf .scr), some (.leaf .pen), s2, some (.leaf (.tup ((z0 :: zs).map .str))), s4, some (.leaf (.tup (ws.map .str))), s6, some (.leaf (.tup (os.map .str))), s8, s9, s10, s11, s12, s13, s14] n := by
  have h9 := rd_law_9 (s2 := s2) (s4 := s4) (s6 := s6) (s8 := s8) (s9 := s9) (s10 := s10) (s11 := s11) (s12 := s12) (s13 := s13) (s14 := s14) hn hz hzl hl h hol ho q
  have o1 := okd_lenD fun x hx => nm_ok (h x hx)
  have o2 := okd_lenD fun x hx => nm_ok (ho x hx)
  unfold t_law_10
  simp
  refine ⟨_, _, ws, os, rfl, rfl, rfl, fun x hx => nm_ok (h x hx), fun x hx => nm_ok (ho x hx), ?_⟩
  simp
  refine ⟨_, rfl, ?_⟩
  simp
  refine ⟨_, rfl, ?_⟩
  simp
  refine ⟨by simpa using o1, by simpa using o2, by simpa using alike_lenD, by simp [lenD], ?_⟩
  simp
  refine ⟨_, _, rfl, ?_⟩
  simp
  exact h9
end
end Dx

set_option Elab.async false
set_option linter.all false
set_option maxRecDepth 100000
set_option maxHeartbeats 4000000
namespace Dx
open PySem L2 Wx
section
variable {D : Dd} {n : Nat} {s2 s3 s4 s5 s6 s7 s8 s9 s10 s11 s12 s13 s14 : Option O}
/-- what is left after slot 4 -/
abbrev gE (s2 : Option O) (z0 : Str) (zs : List Str) (r : List (Option O)) : List (Option O) := some (.leaf .scr) :: some (.leaf .pen) :: s2 :: some (.leaf (.tup ((z0 :: zs).map .str))) :: r
theorem cut_sub {α β : Type} {f : α → β} (l : List α) (lo hi : Option Int) : ∃ us : List α, cut (l.map f) lo hi = us.map f ∧ us.length ≤ l.length ∧ ∀ x ∈ us, x ∈ l := by
  unfold cut
  simp only [List.length_map, ← List.map_drop, ← List.map_take]
  refine ⟨_, rfl, by simp; omega, fun x hx => ?_⟩
  first
    | exact List.mem_of_mem_drop (List.mem_of_mem_take hx)
    | exact List.mem_of_mem_take (List.mem_of_mem_drop hx)
theorem rd_law_12 {ws zs : List Str} {z0 : Str} (hn : n ≤ 7800) (hz : ∀ z ∈ z0 :: zs, isNm z = true) (hzl : zs.length ≤ 5) (hl : ws.length ≤ 12) (h : ∀ x ∈ ws, isNm x = true)
    (q : ∀ s5 s6 s7 s8 s9 s10 s11 s12 s13 n', n' ≤ n + 140 → D.nx [some (.leaf .scr), some (.leaf .pen), s2, some (.leaf (.tup ((z0 :: zs).map .str))), s4, s5, s6, s7, s8, s9, s10, s11, s12, s13, s14] n') :
    t_law_12 D [some (.leaf .scr), some (.leaf .pen), s2, some (.leaf (.tup ((z0 :: zs).map .str))), s4, some (.leaf (.tup (ws.map .str))), s6, s7, s8, s9, s10, s11, s12, s13, s14] n := by
  unfold t_law_12
  simp
  refine ⟨_, rfl, by omega, by omega, by omega, fun j h0 hj => ?_⟩
  simp [t_law_11]
  obtain ⟨us, e1, l1, m1⟩ := cut_sub (f := Dx.D.str) ws none (some j)
  obtain ⟨vs, e2, l2, m2⟩ := cut_sub (f := Dx.D.str) ws (some (j + 1)) none
  have cp : ∀ z ∈ z0 :: zs, True := fun _ _ => trivial
  rw [e1, e2]
  refine ⟨_, _, rfl, rfl, by omega, by simp, by simp; omega, fun x hx => ?_⟩
  have hx : x ∈ (z0 :: zs).map Dx.D.str := by simpa using hx
  obtain ⟨z, hzz, rfl⟩ := List.mem_map.mp hx
  refine ⟨by rw [sizeLine_eq]; omega, by rw [sizeLine_eq]; simp; omega, by rw [sizeLine_eq]; simp; omega, z0 :: zs, 12, by simp, by simp, by simp; omega, by omega, by omega, hz, fun os n' hol ho hn' => ?_⟩
  refine ⟨by rw [sizeLine_eq]; omega, _, _, rfl, rfl, by omega, by simp, by simp, fun x hx => ?_⟩
  have fin : ∀ os : List Str, os.length ≤ 30 → (∀ x ∈ os, isNm x = true) → x = .tup (os.map .str) → t_law_10 D [some (.leaf .scr), some (.leaf .pen), s2, some (.leaf (.tup ((z0 :: zs).map .str))), s4, some (.leaf (.tup (ws.map .str))), some (.leaf (.int j)), some (.leaf x), s8, s9, s10, s11, s12, s13, s14] (n' + 1) := fun os h1 h2 e => by
    rw [e]
    exact rd_law_10 (by omega) hz hzl hl h h1 h2 fun s8 s9 s10 s11 s12 s13 n'' hn'' => q _ _ _ _ _ _ _ _ _ _ (by omega)
  simp only [List.mem_cons, List.not_mem_nil, or_false] at hx
  rcases hx with hx | hx | hx | hx
  · exact fin ws (by omega) h hx
  · exact fin us (by omega) (fun x hx => h x (m1 x hx)) hx
  · refine fin (us ++ z :: vs) (by simp; omega) (fun x hx => ?_) (by rw [hx]; simp)
    rcases List.mem_append.mp hx with hx | hx
    · exact h x (m1 x hx)
    · rcases List.mem_cons.mp hx with rfl | hx
      · exact hz _ hzz
      · exact h x (m2 x hx)
  · exact fin os (by omega) ho (by rw [hx]; simp)
end
end Dx

set_option Elab.async false
set_option linter.all false
set_option maxRecDepth 100000
set_option maxHeartbeats 4000000
namespace Dx
open PySem L2 Wx
section
variable {D : Dd} {n : Nat} {s2 s3 s4 s5 s6 s7 s8 s9 s10 s11 s12 s13 s14 : Option O}
theorem rd_law_13 {zs : List Str} {z0 : Str} (hn : n ≤ 7600) (hz : ∀ z ∈ z0 :: zs, isNm z = true) (hzl : zs.length ≤ 5)
    (q : ∀ s5 s6 s7 s8 s9 s10 s11 s12 s13 n', n' ≤ n + 250 → D.nx [some (.leaf .scr), some (.leaf .pen), s2, some (.leaf (.tup ((z0 :: zs).map .str))), s4, s5, s6, s7, s8, s9, s10, s11, s12, s13, s14] n') :
    t_law_13 D [some (.leaf .scr), some (.leaf .pen), s2, some (.leaf (.tup ((z0 :: zs).map .str))), s4, s5, s6, s7, s8, s9, s10, s11, s12, s13, s14] n := by
  unfold t_law_13
  simp
  refine ⟨z0 :: zs, 12, by simp, by simp, by simp; omega, by omega, by omega, hz, fun ws n' hl h hn' => ?_⟩
  simp
  exact rd_law_12 (by omega) hz hzl hl h fun s5 s6 s7 s8 s9 s10 s11 s12 s13 n'' hn'' => q _ _ _ _ _ _ _ _ _ _ (by omega)
theorem rd_law_14 {zs : List Str} {z0 : Str} {d : Dx.D} (hg : gv d = true) (hok : okd 59 d = true) (hn : n ≤ 7600) (hz : ∀ z ∈ z0 :: zs, isNm z = true) (hzl : zs.length ≤ 5)
    (q : ∀ s5 s6 s7 s8 s9 s10 s11 s12 s13 n', n' ≤ n + 250 → D.nx [some (.leaf .scr), some (.leaf .pen), s2, some (.leaf (.tup ((z0 :: zs).map .str))), some (.leaf d), s5, s6, s7, s8, s9, s10, s11, s12, s13, s14] n') :
    t_law_14 D [some (.leaf .scr), some (.leaf .pen), s2, some (.leaf (.tup ((z0 :: zs).map .str))), some (.leaf d), s5, s6, s7, s8, s9, s10, s11, s12, s13, s14] n := by
  unfold t_law_14
  simp
  refine ⟨d, rfl, hg, ?_⟩
  simp
  refine ⟨d, rfl, hg, hok, ?_⟩
  simp
  refine ⟨_, _, rfl, ?_⟩
  simp
  exact rd_law_13 hn hz hzl q
theorem okd_nm {z : Str} (h : isNm z = true) : okd 59 (Dx.D.str z) = true := okds_iff.mp (okds_strs (xs := [z]) fun x hx => by rw [List.mem_singleton.mp hx]; exact nm_ok h) _ (by simp)
theorem rd_law_15 {zs : List Str} {z0 : Str} (hn : n ≤ 7500) (hz : ∀ z ∈ z0 :: zs, isNm z = true) (hzl : zs.length ≤ 5)
    (q : ∀ s4 s5 s6 s7 s8 s9 s10 s11 s12 s13 n', n' ≤ n + 300 → D.nx [some (.leaf .scr), some (.leaf .pen), s2, some (.leaf (.tup ((z0 :: zs).map .str))), s4, s5, s6, s7, s8, s9, s10, s11, s12, s13, s14] n') :
    t_law_15 D [some (.leaf .scr), some (.leaf .pen), s2, some (.leaf (.tup ((z0 :: zs).map .str))), s4, s5, s6, s7, s8, s9, s10, s11, s12, s13, s14] n := by
  unfold t_law_15
  simp [dNeg_eq, dRepS_eq]
  have hz0 := (nm_facts (hz z0 List.mem_cons_self)).2.1
  have hd0 : gv (Dx.D.str z0) = true := by simp [gv]; omega
  obtain ⟨z9, e9, hz9⟩ : ∃ z9, atI (Dx.D.str z0 :: List.map Dx.D.str zs) (-1) = some (Dx.D.str z9) ∧ isNm z9 = true := by
    rcases List.eq_nil_or_concat (z0 :: zs) with e | ⟨us, z9, e⟩
    · cases e
    · refine ⟨z9, ?_, hz z9 (by rw [e]; simp)⟩
      have e2 : Dx.D.str z0 :: List.map Dx.D.str zs = us.map Dx.D.str ++ [Dx.D.str z9] := by
        rw [← List.map_cons, e]; simp
      rw [e2]
      exact L2.atI_last _ _
  refine ⟨.str z0, atI_0, by decide +kernel, by decide +kernel, .str z0, atI_0, z0, rfl, hz z0 List.mem_cons_self, by omega, fun d1 g1 o1 => ⟨.str z9, e9, z9, rfl, hz9, by omega, fun d2 g2 o2 => ⟨by rw [sizeLine_eq]; omega, _, _, rfl, rfl, by omega, by simp, by simp, fun x hx => ?_⟩⟩⟩
  have fin : gv x = true → okd 59 x = true → t_law_14 D [some (.leaf .scr), some (.leaf .pen), s2, some (.leaf (.tup ((z0 :: zs).map .str))), some (.leaf x), s5, s6, s7, s8, s9, s10, s11, s12, s13, s14] (n + 1 + 1 + 1) := fun g o =>
    rd_law_14 g o (by omega) hz hzl fun s5 s6 s7 s8 s9 s10 s11 s12 s13 n'' hn'' => q _ _ _ _ _ _ _ _ _ _ _ (by omega)
  simp only [List.mem_cons, List.not_mem_nil, or_false] at hx
  rcases hx with rfl | rfl | rfl | rfl | rfl | rfl
  · exact fin hd0 (okd_nm (hz z0 List.mem_cons_self))
  · exact fin (by decide +kernel) (by decide +kernel)
  · exact fin (by decide +kernel) (by decide +kernel)
  · exact fin (by decide +kernel) (by decide +kernel)
  · exact fin (by simpa using g1) (by simpa using o1)
  · exact fin (by simpa using g2) (by simpa using o2)
end
end Dx

set_option Elab.async false
set_option linter.all false
set_option maxRecDepth 100000
set_option maxHeartbeats 4000000
namespace Dx
open PySem L2 Wx
section
variable {D : Dd} {n : Nat} {s0 s1 s2 s3 s4 s5 s6 s7 s8 s9 s10 s11 s12 s13 s14 : Option O}
theorem rd_law_16 {d : Dx.D} (hg : gv d = true) (hd : ∀ z, d ≠ .str z) (q : D.rt (.leaf (.bl true)) [s0, s1, s2, s3, s4, s5, s6, s7, s8, s9, s10, s11, s12, s13, some (.leaf d)] n) :
    t_law_16 D [s0, s1, s2, s3, s4, s5, s6, s7, s8, s9, s10, s11, s12, s13, some (.leaf d)] n := by
  unfold t_law_16
  simp
  refine why_read (d := d) hg (fun z e => absurd e (hd z)) (fun Q' X' h => ?_) (fun z e => absurd e (hd z)) (fun _ => ?_)
  · simp
    exact h
  · simp [sizeLine_eq, eq_due]
    exact q
theorem fw_nil : firstWrong (Str.ofString "") = some 1 := by decide +kernel
theorem rd_law_17 {d : Dx.D} (hg : gv d = true) (hd : ∀ z, d ≠ .str z) (q : D.rt (.leaf (.bl true)) [s0, s1, s2, s3, s4, s5, s6, s7, s8, s9, s10, s11, s12, s13, some (.leaf d)] n) :
    t_law_17 D [s0, s1, s2, s3, s4, s5, s6, s7, s8, s9, s10, s11, s12, s13, some (.leaf d)] n := by
  unfold t_law_17
  simp
  refine why_read (d := .str (Str.ofString "")) (by decide +kernel) (fun z e => by cases e; decide +kernel) (fun Q' X' h => ?_) (fun z e => ?_) (fun h => absurd rfl (h _))
  · simp
    exact h
  · cases e
    rw [fw_nil]
    have hne : ∀ {k : S → Prop}, dNe (O.leaf (Dx.D.lst [Dx.D.str (Str.ofString "text"), Dx.D.int 1, Dx.D.int 1])) (O.lst none [Dx.D.str (Str.ofString "text"), Dx.D.int 1, Dx.D.int 1]) k = k (.dat (.bl false)) := fun {k} => ne_due
    simp [sizeLine_eq, hne]
    exact rd_law_16 hg hd q
theorem rd_law_18 (hn : n ≤ 9000) (q : ∀ d n', D.rt (.leaf (.bl true)) [some (.leaf .scr), some (.leaf .pen), s2, s3, s4, s5, s6, s7, s8, s9, s10, s11, s12, s13, some (.leaf d)] n') :
    t_law_18 D [some (.leaf .scr), some (.leaf .pen), s2, s3, s4, s5, s6, s7, s8, s9, s10, s11, s12, s13, s14] n := by
  unfold t_law_18
  simp
  refine ⟨by rw [sizeLine_eq]; omega, by rw [sizeLine_eq]; omega, _, _, rfl, rfl, by omega, by simp, by simp, fun x hx => ?_⟩
  simp only [List.mem_cons, List.not_mem_nil, or_false] at hx
  rcases hx with rfl | rfl | rfl | rfl | rfl | rfl <;> exact rd_law_17 rfl (fun z h => by cases h) (q _ _)
theorem rd_law_19 (hn : n ≤ 1000) (q : ∀ s2 s3 s4 s5 s6 s7 s8 s9 s10 s11 s12 s13 d n', D.rt (.leaf (.bl true)) [some (.leaf .scr), some (.leaf .pen), s2, s3, s4, s5, s6, s7, s8, s9, s10, s11, s12, s13, some (.leaf d)] n') :
    t_law_19 D [some (.leaf .scr), some (.leaf .pen), s2, s3, s4, s5, s6, s7, s8, s9, s10, s11, s12, s13, s14] n := by
  unfold t_law_19
  simp
  refine dloop_ind (I := fun r ρ m => m + 1000 * r.length ≤ 7000 ∧ ∃ s2 s3 s4 s5 s6 s7 s8 s9 s10 s11 s12 s13 s14 : Option O, ρ = [some (.leaf .scr), some (.leaf .pen), s2, s3, s4, s5, s6, s7, s8, s9, s10, s11, s12, s13, s14]) ?step ?fin _ _ _ ⟨by simp [dints]; omega, _, _, _, _, _, _, _, _, _, _, _, _, _, rfl⟩
  case step =>
    rintro d r ρ m K ⟨hm, s2, s3, s4, s5, s6, s7, s8, s9, s10, s11, s12, s13, s14, rfl⟩ k
    rw [List.length_cons] at hm
    simp
    refine ⟨_, rfl, by omega, by omega, by omega, fun j h0 hj => ?_⟩
    simp
    obtain ⟨i, rfl⟩ := Int.eq_ofNat_of_zero_le h0
    refine ⟨1 + i, by simp, by omega, by omega, fun zs n' hl hz hn' => ?_⟩
    obtain ⟨z0, zr, rfl⟩ : ∃ z0 zr, zs = z0 :: zr := by
      cases zs with
      | nil => simp at hl; omega
      | cons z zr => exact ⟨z, zr, rfl⟩
    simp at hl
    refine rd_law_15 (by omega) hz (by omega) fun s4 s5 s6 s7 s8 s9 s10 s11 s12 s13 n'' hn'' => ?_
    exact k _ _ ⟨by omega, _, _, _, _, _, _, _, _, _, _, _, _, _, rfl⟩
  case fin =>
    rintro ρ m ⟨hm, s2, s3, s4, s5, s6, s7, s8, s9, s10, s11, s12, s13, s14, rfl⟩
    exact rd_law_18 (by omega) fun d n' => q _ _ _ _ _ _ _ _ _ _ _ _ _ _
end
end Dx

set_option Elab.async false
set_option linter.all false
set_option maxRecDepth 100000
set_option maxHeartbeats 4000000
namespace Dx
open PySem L2 Wx
theorem rd_law : ∀ ds n Q X, sp_law ds n Q X → t_law (endF Q X) (start n_law ds) n := by
  intro ds n Q X h
  obtain ⟨rfl, rfl, h⟩ := h
  simp [t_law, start, endF]
  refine ⟨rfl, rfl, ?_⟩
  exact rd_law_19 (by omega) fun _ _ _ _ _ _ _ _ _ _ _ _ _ n' => h n'
end Dx

set_option Elab.async false
set_option linter.all false
set_option maxRecDepth 100000
set_option maxHeartbeats 4000000
namespace Wx
open PySem L2
def top (i : Nat) : Stmt := PySem.Challenge.pw_unseendeeds_k02_names_and_words.main.body.getD i (.Pass ⟨0, 0, 0, 0⟩)

/-- what the text leans on -/
structure Txt (P : Program) (w : World) (K : PySem.W.Frag) (mg : Str → Option Value) (base : Heap) (cl : Str → Addr) : Prop where
  b_int : mg "int" = none
  b_len : mg "len" = none
  b_list : mg "list" = none
abbrev sp__law_draw : SpW := Dx.spw_draw
abbrev sp__law_pen : SpW := Dx.spw_pen

section
variable {P : Program} {w : World} {K : PySem.W.Frag} {mg : Str → Option Value} {base : Heap} {cl : Str → Addr}
/-! _law_pen -/
abbrev s__law_pen : Stmt := top 23
abbrev n__law_pen : List Str := ["script", "fold", "cell"]
theorem sc__law_pen : FnScope n__law_pen ["script"] (defScope s__law_pen) := ⟨rfl, rfl, rfl, by decide +kernel, rfl, by decide +kernel, by decide +kernel⟩
def t__law_pen (K : PySem.W.Frag) (cl : Str → Addr) (Ew : XSw) : TSw :=
    (wSeq (wAsg (wC (.int 37)) (wgName 1))
    (wSeq (wFor (wIt (wVar 0)) (wgName 2)
    (wAsg (wOp wMod (wCB wIntOf (wCons (wOp wAdd (wOp wMulI (wVar 1) (wC (.int 137))) (wVar 2)) wNil)) (wC (.int 1000000439))) (wgName 1)))
    (wRet (wDisp [((wC (.str "cells")), (wCB wListOf (wCons (wVar 0) wNil))), ((wC (.str "at")), (wC (.int 0))), ((wC (.str "digits")), (wC (.int 0))), ((wC (.str "count")), (wC (.int 0))), ((wC (.str "fold")), (wVar 1))]))))
theorem d__law_pen (T : Txt P w K mg base cl) {f : Addr} : ∀ (cdv : Value) (A : Around) (outer : List Env) (s : Shared) (H : Hp) (E : XK) (Ew : XSw), RoomG false 0 (cxB P w K mg base n__law_pen "_law_pen" s__law_pen f cdv A outer s H E).A → TakesW (cxB P w K mg base n__law_pen "_law_pen" s__law_pen f cdv A outer s H E) Ew → WSs (cxB P w K mg base n__law_pen "_law_pen" s__law_pen f cdv A outer s H E) (defBody s__law_pen) (t__law_pen K cl Ew) :=
  fun cdv A outer s H E Ew hr tk =>
    have nd : n__law_pen.Nodup := sc__law_pen.nd
    (wss_cons (ws_set (i := 1) nd rfl (by first | exact .inl rfl | exact .inr rfl) we_int)
    (wss_cons (ws_for PassesOwn.leaving rfl (wi_it (wv 0)) (wg_name (i := 2) nd rfl (by first | exact .inl rfl | exact .inr rfl))
    (wss_one (ws_set (i := 1) nd rfl (by first | exact .inl rfl | exact .inr rfl) (we_op ow_mod (we_callTy cw_int (by rfl) T.b_int (by decide +kernel) (wa_cons (we_op ow_add (we_op ow_mulI (wv 1) we_int) (wv 2)) wa_nil)) we_int))))
    (wss_one (ws_ret (we_disp (wpps_cons we_str (we_callTy cw_list (by rfl) T.b_list (by decide +kernel) (wa_cons (wv 0) wa_nil)) (wpps_cons we_str we_int (wpps_cons we_str we_int (wpps_cons we_str we_int (wpps_cons we_str (wv 1) wpps_nil))))))))))

/-! _law_draw -/
abbrev s__law_draw : Stmt := top 24
abbrev n__law_draw : List Str := ["pen", "many", "cell", "digit", "blend"]
theorem sc__law_draw : FnScope n__law_draw ["pen", "many"] (defScope s__law_draw) := ⟨rfl, rfl, rfl, by decide +kernel, rfl, by decide +kernel, by decide +kernel⟩
def t__law_draw (K : PySem.W.Frag) (cl : Str → Addr) (Ew : XSw) : TSw :=
    (wSeq (wDPut (wVar 0) (wC (.str "count")) (wOp wAdd (wDGet (wVar 0) (wC (.str "count"))) (wC (.int 1))))
    (wSeq (wIfS (wAnd (wTest (wOp (wEqS true) (wDGet (wVar 0) (wC (.str "digits"))) (wC (.int 0)))) (wTest (wOp wLtI (wDGet (wVar 0) (wC (.str "at"))) (wCB wLen (wCons (wDGet (wVar 0) (wC (.str "cells"))) wNil)))))
    (wSeq (wAsg (wOp wIx (wDGet (wVar 0) (wC (.str "cells"))) (wDGet (wVar 0) (wC (.str "at")))) (wgName 2))
    (wSeq (wDPut (wVar 0) (wC (.str "at")) (wOp wAdd (wDGet (wVar 0) (wC (.str "at"))) (wC (.int 1))))
    (wIfS (wTest (wOp wGeI (wVar 2) (wOp wPow (wC (.int 10)) (wC (.int 18)))))
    (wDPut (wVar 0) (wC (.str "digits")) (wOp wSub (wVar 2) (wOp wPow (wC (.int 10)) (wC (.int 18)))))
    (wDPut (wVar 0) (wC (.str "fold")) (wOp wMod (wCB wIntOf (wCons (wOp wAdd (wOp wMulI (wDGet (wVar 0) (wC (.str "fold"))) (wC (.int 70079))) (wVar 2)) wNil)) (wC (.int 2147483237)))))))
    wNext)
    (wSeq (wIfS (wTest (wOp wGtI (wDGet (wVar 0) (wC (.str "digits"))) (wC (.int 0))))
    (wSeq (wAsg (wOp wMod (wCB wIntOf (wCons (wDGet (wVar 0) (wC (.str "digits"))) wNil)) (wVar 1)) (wgName 3))
    (wSeq (wDPut (wVar 0) (wC (.str "digits")) (wOp wDiv (wDGet (wVar 0) (wC (.str "digits"))) (wVar 1)))
    (wRet (wVar 3))))
    wNext)
    (wSeq (wAsg (wOp wAdd (wOp wAdd (wDGet (wVar 0) (wC (.str "fold"))) (wOp wMulI (wDGet (wVar 0) (wC (.str "count"))) (wC (.int 7993)))) (wC (.int 71))) (wgName 4))
    (wRet (wOp wMod (wOp wDiv (wCB wIntOf (wCons (wOp wMod (wOp wPow (wVar 4) (wC (.int 17))) (wC (.int 2305843009213693951))) wNil)) (wC (.int 128))) (wVar 1)))))))
theorem d__law_draw (T : Txt P w K mg base cl) {f : Addr} : ∀ (cdv : Value) (A : Around) (outer : List Env) (s : Shared) (H : Hp) (E : XK) (Ew : XSw), RoomG false 0 (cxB P w K mg base n__law_draw "_law_draw" s__law_draw f cdv A outer s H E).A → TakesW (cxB P w K mg base n__law_draw "_law_draw" s__law_draw f cdv A outer s H E) Ew → WSs (cxB P w K mg base n__law_draw "_law_draw" s__law_draw f cdv A outer s H E) (defBody s__law_draw) (t__law_draw K cl Ew) :=
  fun cdv A outer s H E Ew hr tk =>
    have nd : n__law_draw.Nodup := sc__law_draw.nd
    (wss_cons (ws_dput (huG hr) (wv 0) we_str (we_op ow_add (we_dget (huG hr) (wv 0) we_str) we_int))
    (wss_cons (ws_if (ww_and (wt_cmp ow_eqS (we_dget (huG hr) (wv 0) we_str) we_int (nomark _)) (ww_and1 (wt_cmp ow_ltI (we_dget (huG hr) (wv 0) we_str) (we_callB cw_len (by rfl) T.b_len (by decide +kernel) (wa_cons (we_dget (huG hr) (wv 0) we_str) wa_nil)) (nomark _)))).wt
    (wss_cons (ws_set (i := 2) nd rfl (by first | exact .inl rfl | exact .inr rfl) (we_ix iw_seq (we_dget (huG hr) (wv 0) we_str) (we_dget (huG hr) (wv 0) we_str) (fun _ _ => rfl)))
    (wss_cons (ws_dput (huG hr) (wv 0) we_str (we_op ow_add (we_dget (huG hr) (wv 0) we_str) we_int))
    (wss_one (ws_if (wt_cmp ow_geI (wv 2) (we_op ow_pow we_int we_int) (nomark _))
    (wss_one (ws_dput (huG hr) (wv 0) we_str (we_op ow_sub (wv 2) (we_op ow_pow we_int we_int))))
    (wss_one (ws_dput (huG hr) (wv 0) we_str (we_op ow_mod (we_callTy cw_int (by rfl) T.b_int (by decide +kernel) (wa_cons (we_op ow_add (we_op ow_mulI (we_dget (huG hr) (wv 0) we_str) we_int) (wv 2)) wa_nil)) we_int)))))))
    wss_nil)
    (wss_cons (ws_if (wt_cmp ow_gtI (we_dget (huG hr) (wv 0) we_str) we_int (nomark _))
    (wss_cons (ws_set (i := 3) nd rfl (by first | exact .inl rfl | exact .inr rfl) (we_op ow_mod (we_callTy cw_int (by rfl) T.b_int (by decide +kernel) (wa_cons (we_dget (huG hr) (wv 0) we_str) wa_nil)) (wv 1)))
    (wss_cons (ws_dput (huG hr) (wv 0) we_str (we_op ow_div (we_dget (huG hr) (wv 0) we_str) (wv 1)))
    (wss_one (ws_ret (wv 3)))))
    wss_nil)
    (wss_cons (ws_set (i := 4) nd rfl (by first | exact .inl rfl | exact .inr rfl) (we_op ow_add (we_op ow_add (we_dget (huG hr) (wv 0) we_str) (we_op ow_mulI (we_dget (huG hr) (wv 0) we_str) we_int)) we_int))
    (wss_one (ws_ret (we_op ow_mod (we_op ow_div (we_callTy cw_int (by rfl) T.b_int (by decide +kernel) (wa_cons (we_op ow_mod (we_op ow_pow (wv 4) we_int) we_int) wa_nil)) we_int) (wv 1))))))))

end
end Wx

set_option Elab.async false
set_option linter.all false
set_option maxRecDepth 100000
set_option maxHeartbeats 4000000
namespace Wx
open PySem L2
def pk (cl : Addr) (a d : Int) (n : Int) (f : Int) : List (Key × W) := [(.inr "cells", .ref cl), (.inr "at", .int a), (.inr "digits", .int d), (.inr "count", .int n), (.inr "fold", .int f)]
@[simp] theorem pk_cells {cl : Addr} {a d n f : Int} : lookK (pk cl a d n f) (.inr "cells") = some (.ref cl) := by rfl
@[simp] theorem pk_at {cl : Addr} {a d n f : Int} : lookK (pk cl a d n f) (.inr "at") = some (.int a) := by rfl
@[simp] theorem pk_digits {cl : Addr} {a d n f : Int} : lookK (pk cl a d n f) (.inr "digits") = some (.int d) := by rfl
@[simp] theorem pk_count {cl : Addr} {a d n f : Int} : lookK (pk cl a d n f) (.inr "count") = some (.int n) := by rfl
@[simp] theorem pk_fold {cl : Addr} {a d n f : Int} : lookK (pk cl a d n f) (.inr "fold") = some (.int f) := by rfl
@[simp] theorem pk_sat {cl : Addr} {a d n f x : Int} : storeK (pk cl a d n f) (.inr "at") (.int x) = pk cl x d n f := by rfl
@[simp] theorem pk_sdigits {cl : Addr} {a d n f x : Int} : storeK (pk cl a d n f) (.inr "digits") (.int x) = pk cl a x n f := by rfl
@[simp] theorem pk_scount {cl : Addr} {a d n f x : Int} : storeK (pk cl a d n f) (.inr "count") (.int x) = pk cl a d x f := by rfl
@[simp] theorem pk_sfold {cl : Addr} {a d n f x : Int} : storeK (pk cl a d n f) (.inr "fold") (.int x) = pk cl a d n x := by rfl
theorem rd_dget {td ty : TEw} {ω : Sw} {A : AH} {Q : VKw} {p : Addr} {kvs : List (Key × W)} {x : Str} {w : W} (h1 : ∀ Q, Q (.ref p) A → td ω A Q) (h2 : ∀ Q, Q (.str x) A → ty ω A Q) (h : A.h p = some (.dK kvs)) (l : lookK kvs (.inr x) = some w) (q : Q w A) : wDGet td ty ω A Q :=
  h1 _ (h2 _ ⟨p, w, rfl, .inl ⟨kvs, .inr x, h, rfl, l.symm⟩, q⟩)
theorem rd_dput {td ty tv : TEw} {D : Dw} {ω : Sw} {A A1 : AH} {p : Addr} {kvs kvs' : List (Key × W)} {x : Str} {w : W} (h0 : ∀ Q, Q w A1 → tv ω A Q) (h1 : ∀ Q, Q (.ref p) A1 → td ω A1 Q) (h2 : ∀ Q, Q (.str x) A1 → ty ω A1 Q) (h : A1.h p = some (.dK kvs)) (hl : kvs.length < sizeLine)
    (l : storeK kvs (.inr x) w = kvs') (q : D.nx ω (A1.put p (.dK kvs'))) : wDPut td ty tv D ω A :=
  h0 _ (h1 _ (h2 _ ⟨p, rfl, .inl ⟨kvs, .inr x, h, rfl, hl, by rw [l]; exact q⟩⟩))
theorem len5 {cl : Addr} {a d n f : Int} : (pk cl a d n f).length < sizeLine := by rw [sizeLine_eq]; show 5 < _; decide
def spD_draw : SpW := fun ws A Q _ => ∃ (p cl : Addr) (n : Nat) (m a d f : Int) (ns : List Int), ws = [.ref p, .int m] ∧ A.h p = some (.dK (pk cl a d n f)) ∧ A.h cl = some (.lst (ns.map W.int)) ∧ cl ≠ p ∧ n < 2 ^ 40 ∧ 0 < m ∧ m < 2 ^ 30 ∧ 0 ≤ a ∧ 0 ≤ d ∧ -(2 ^ 40) < f ∧ f < 2 ^ 40 ∧
  ∀ x a' d' f' : Int, 0 ≤ x → x < m → 0 ≤ a' → 0 ≤ d' → -(2 ^ 40) < f' → f' < 2 ^ 40 → Q (.int x) (A.put p (.dK (pk cl a' d' (n + 1 : Nat) f')))

set_option pp.deepTerms false in
theorem rd_draw {K : PySem.W.Frag} {cl : Str → Addr} : ∀ ws A Q E, spD_draw ws A Q E → t__law_draw K cl (fun _ => fgE E) { nx := fun _ A' => fg Q .non A', rt := fg Q } (startW n__law_draw ws) A := by
  rintro ws A Q E ⟨p, cl, n, m, a, d, f, ns, rfl, hp, hc, ne, hn, hm, hm2, ha, hd, hf, hf2, q⟩
  have small : ∀ x : Int, -(2 ^ 41) < x → x < 2 ^ 41 → CPow (x + ((n : Int) + 1) * 7993 + 71) 17 := fun x h1 h2 => ⟨by decide, by decide, by omega⟩
  have div : ∀ y : Int, 0 ≤ y → CDivN y 128 := fun y hy => ⟨by decide, by decide⟩
  have fin : ∀ (a' d' f' : Int), 0 ≤ a' → 0 ≤ d' → -(2 ^ 40) < f' → f' < 2 ^ 40 →
      (if 0 < d' then ¬m = 0 ∧ CDivN d' m ∧ fg Q (W.int (d'.fmod m)) (A.put p (WO.dK (pk cl a' (d'.fdiv m) ((n : Int) + 1) f')))
      else CMul ((n : Int) + 1) 7993 ∧ CPow (f' + ((n : Int) + 1) * 7993 + 71) 17 ∧ CDivN (((f' + ((n : Int) + 1) * 7993 + 71) ^ 17).fmod 2305843009213693951) 128 ∧ ¬m = 0 ∧
        fg Q (W.int (((((f' + ((n : Int) + 1) * 7993 + 71) ^ 17).fmod 2305843009213693951).fdiv 128).fmod m)) (A.put p (WO.dK (pk cl a' d' ((n : Int) + 1) f')))) := by
    intro a' d' f' ha' hd' hf' hf2'
    split
    · refine ⟨by omega, ⟨by omega, by omega⟩, fg_i ?_⟩
      have b1 := Int.fmod_nonneg_of_pos d' hm
      have b2 := Int.fmod_lt_of_pos d' hm
      have b3 : 0 ≤ d'.fdiv m := Int.fdiv_nonneg hd' (by omega)
      exact q _ _ _ _ b1 b2 ha' b3 hf' hf2'
    · refine ⟨.inr ⟨by decide, by decide⟩, small _ (by omega) (by omega), ⟨by decide, by decide⟩, by omega, fg_i ?_⟩
      have b1 := Int.fmod_nonneg_of_pos (((((f' + ((n : Int) + 1) * 7993 + 71) ^ 17).fmod 2305843009213693951).fdiv 128)) hm
      have b2 := Int.fmod_lt_of_pos (((((f' + ((n : Int) + 1) * 7993 + 71) ^ 17).fmod 2305843009213693951).fdiv 128)) hm
      exact q _ _ _ _ b1 b2 ha' hd' hf' hf2'
  have c18 : CPow 10 18 := ⟨by decide, by decide, by decide⟩
  unfold t__law_draw
  simp [hp, dget_iff, dput_iff, len5, ne, hc, lenW_ref, wIx_ref, c18]
  split
  · split
    · rename_i h0 hlt
      obtain ⟨k, hk⟩ : ∃ k : Nat, a = k := ⟨a.toNat, by omega⟩
      subst hk
      have hk : k < ns.length := by omega
      refine ⟨.int ns[k], atI_nat (by simp [hk]), ?_⟩
      simp [hp, dget_iff, dput_iff, len5, ne, hc, lenW_ref, wIx_ref, c18]
      split
      · rename_i hge
        have h := fin (k + 1) (ns[k] - 1000000000000000000) f (by omega) (by omega) hf hf2
        simpa only [Int.sub_pos] using h
      · refine ⟨.inr ⟨by decide, by decide⟩, ?_⟩
        have b1 := Int.fmod_nonneg_of_pos (f * 70079 + ns[k]) (b := 2147483237) (by decide)
        have b2 := Int.fmod_lt_of_pos (f * 70079 + ns[k]) (b := 2147483237) (by decide)
        exact fin _ _ _ (by omega) hd (by omega) (by omega)
    · exact fin _ _ _ ha hd hf hf2
  · exact fin _ _ _ ha hd hf hf2
end Wx

set_option Elab.async false
set_option linter.all false
set_option maxRecDepth 100000
set_option maxHeartbeats 4000000
namespace Wx
open PySem L2
theorem AH.ext' {A B : AH} (h1 : A.pen = B.pen) (h2 : ∀ b, A.h b = B.h b) (h3 : A.tp = B.tp) (h4 : A.tb = B.tb) : A = B := by
  cases A; cases B
  simp only at h1 h2 h3 h4
  subst h1 h3 h4
  congr 1
  funext b
  exact h2 b
section
variable {P : Program} {w : World} {K : PySem.W.Frag} {mg : Str → Option Value} {base : Heap}
theorem draw_imp (vs : List V) (H : Hp) (Q : VK) (E : XK) (h : spL K sp__law_draw vs H Q E) : spL K spD_draw vs H Q E := by
  obtain ⟨ws, A, Q', E', r, ra, ⟨p, n, m, rfl, hp, hn, hm, hm2, q⟩, kQ, kE⟩ := h
  obtain ⟨cl, ns, at_, dg, fo, h1, h2, ne, h3, h4, h5, h6, ra1⟩ := pen_out ra hp
  refine ⟨_, _, fun w A2 => ∃ x a' d' f' : Int, w = .int x ∧ 0 ≤ x ∧ x < m ∧ 0 ≤ a' ∧ 0 ≤ d' ∧ -(2 ^ 40) < f' ∧ f' < 2 ^ 40 ∧ A2 = ({ pen := none, h := fun b => if b = p then some (.dK (pk cl at_ dg n fo)) else if b = cl then some (.lst (ns.map W.int)) else A.h b, tp := A.tp, tb := A.tb } : AH).put p (.dK (pk cl a' d' (n + 1 : Nat) f')), E', r, ra1,
    ⟨p, cl, n, m, at_, dg, fo, ns, rfl, if_pos rfl, by show (if cl = p then _ else if cl = cl then _ else _) = _; rw [if_neg ne, if_pos rfl], ne, hn, hm, hm2, h3, h4, h5, h6, fun x a' d' f' b1 b2 b3 b4 b5 b6 => ⟨x, a', d', f', rfl, b1, b2, b3, b4, b5, b6, rfl⟩⟩, fun v H' ⟨w, A2, t, ra2, rv, x, a', d', f', e1, b1, b2, b3, b4, b5, b6, e2⟩ => ?_, kE⟩
  subst e1 e2
  refine kQ v H' ⟨.int x, _, t, ?_, rv, q x b1 b2⟩
  have hpen := pen_in (p := p) (cl := cl) (ns := ns) (n := n + 1) ra2 (by show (if p = p then _ else _) = _; rw [if_pos rfl]; rfl)
    (by show (if cl = p then _ else if cl = p then _ else if cl = cl then _ else _) = _; rw [if_neg ne, if_neg ne, if_pos rfl]) rfl b3 b4 b5 b6
  have e : ({ pen := some (p, n + 1), h := fun b => if b = p ∨ b = cl then none else (({ pen := none, h := fun b => if b = p then some (.dK (pk cl at_ dg n fo)) else if b = cl then some (.lst (ns.map W.int)) else A.h b, tp := A.tp, tb := A.tb } : AH).put p (.dK (pk cl a' d' (n + 1 : Nat) f'))).h b, tp := A.tp, tb := A.tb } : AH) = A.pn p (n + 1) := by
    refine AH.ext' rfl (fun b => ?_) rfl rfl
    show (if b = p ∨ b = cl then none else if b = p then _ else if b = p then _ else if b = cl then _ else A.h b) = A.h b
    by_cases z : b = p
    · rw [if_pos (.inl z), z, h1]
    · by_cases z2 : b = cl
      · rw [if_pos (.inr z2), z2, h2]
      · rw [if_neg (fun y => y.elim z z2), if_neg z, if_neg z, if_neg z2]
  rw [← e]
  exact hpen
theorem ok_draw {clA : Str → Addr} (T : Txt P w K mg base clA) {f : Addr} {fd : FuncData} (F : Fun K "_law_draw" "_law_draw" s__law_draw f fd) : FnB false P w K mg base 1 f fd ["pen", "many"] (spL K sp__law_draw) :=
  (fnW (t := t__law_draw K clA) F sc__law_draw (fun ws A Q E ⟨_, _, _, _, _, _, _, _, e, _⟩ => by rw [e]; rfl) (d__law_draw T) rd_draw).imp draw_imp
/-! _law_pen -/
def spD_pen : SpW := fun ws A Q _ => ∃ (a : Addr) (ns : List Int), ws = [.ref a] ∧ A.h a = some (.rol (ns.map W.int)) ∧ A.pen = none ∧ ns.length ≤ 63 ∧ ∀ p cl f, A.h p = none → A.h cl = none → cl ≠ p → -(2 ^ 40) < f → f < 2 ^ 40 → Q (.ref p) ((((A.put p (.dK [])).put cl (.lst (ns.map W.int))).put p (.dK (pk cl 0 0 (0 : Nat) f))))
theorem rd_pen {clA : Str → Addr} : ∀ ws A Q E, spD_pen ws A Q E → t__law_pen K clA (fun _ => fgE E) { nx := fun _ A' => fg Q .non A', rt := fg Q } (startW n__law_pen ws) A := by
  rintro ws A Q E ⟨a, ns, rfl, ha, hn, hl, q⟩
  unfold t__law_pen
  simp
  refine ⟨ns.map W.int, .inr ha, ?_⟩
  -- the loop
  have loop : ∀ (l : List Int) (f : Int) (c : Option W) (D : Dw), -(2 ^ 40) < f → f < 2 ^ 40 → (∀ f c, -(2 ^ 40) < f → f < 2 ^ 40 → D.nx [some (.ref a), some (.int f), c] A) →
      wLoop (wgName 2) (wAsg (wOp wMod (wCB wIntOf (wCons (wOp wAdd (wOp wMulI (wVar 1) (wC (.int 137))) (wVar 2)) wNil)) (wC (.int 1000000439))) (wgName 1)) D (fun A' => isL A' a (ns.map W.int)) (l.map W.int) [some (.ref a), some (.int f), c] A := by
    intro l
    induction l with
    | nil =>
      intro f c D h1 h2 k
      exact ⟨.inr ha, k f c h1 h2⟩
    | cons x l ih =>
      intro f c D h1 h2 k
      simp
      have b1 := Int.fmod_nonneg_of_pos (f * 137 + x) (b := 1000000439) (by decide)
      have b2 := Int.fmod_lt_of_pos (f * 137 + x) (b := 1000000439) (by decide)
      refine ⟨.inr ha, .inr ⟨by decide, by decide⟩, ?_⟩
      exact ih _ _ _ (by omega) (by omega) k
  refine loop ns 37 none _ (by decide) (by decide) fun f c h1 h2 => ?_
  simp
  intro p hp
  have pa : a ≠ p := h_ne ha hp
  have e1 : isL (A.put p (.dK [])) a (ns.map W.int) := .inr (by show (if a = p then _ else _) = _; rw [if_neg pa]; exact ha)
  refine ⟨_, e1, fun cl hcl => ?_⟩
  by_cases z : cl = p
  · rw [if_pos z] at hcl; cases hcl
  rw [if_neg z] at hcl
  refine ⟨fun y => z y.symm, [(.inr "cells", .ref cl), (.inr "at", .int 0), (.inr "digits", .int 0), (.inr "count", .int 0), (.inr "fold", .int f)], rfl, by simp, fg_i ?_⟩
  exact q p cl f hp hcl z h1 h2
/-- the pen's dict is hidden behind the pen -/
theorem pen_imp (vs : List V) (H : Hp) (Q : VK) (E : XK) (h : spL K sp__law_pen vs H Q E) : spL K spD_pen vs H Q E := by
  obtain ⟨ws, A, Q', E', r, ra, ⟨a, ns, rfl, ha, hn, hl, q⟩, kQ, kE⟩ := h
  refine ⟨_, A, fun w A2 => ∃ p cl f, w = .ref p ∧ A.h p = none ∧ A.h cl = none ∧ cl ≠ p ∧ -(2 ^ 40) < f ∧ f < 2 ^ 40 ∧ A2 = (((A.put p (.dK [])).put cl (.lst (ns.map W.int))).put p (.dK (pk cl 0 0 (0 : Nat) f))), E', r, ra, ⟨a, ns, rfl, ha, hn, hl, fun p cl f h1 h2 h3 h4 h5 => ⟨p, cl, f, rfl, h1, h2, h3, h4, h5, rfl⟩⟩, fun v H' ⟨w, A2, t, ra2, rv, p, cl, f, e1, h1, h2, h3, h4, h5, e2⟩ => ?_, kE⟩
  subst e1 e2
  have hpen := pen_in (p := p) (cl := cl) (ns := ns) (n := 0) ra2 AH.put_same (by rw [AH.put_ne h3, AH.put_same]) hn (Int.le_refl 0) (Int.le_refl 0) h4 h5
  refine kQ v H' ⟨.ref p, _, t, hpen, rv, q p _ rfl ⟨fun b o e => ?_, .inl hn, fun _ _ => ⟨fun h => h, fun _ h => h⟩, rfl⟩⟩
  have n1 : b ≠ p := h_ne e h1
  have n2 : b ≠ cl := h_ne e h2
  show (if b = p ∨ b = cl then none else _) = _
  rw [if_neg (fun z => z.elim n1 n2), AH.put_ne n1, AH.put_ne n2, AH.put_ne n1]
  exact e
theorem ok_pen {clA : Str → Addr} (T : Txt P w K mg base clA) {f : Addr} {fd : FuncData} (F : Fun K "_law_pen" "_law_pen" s__law_pen f fd) : FnB false P w K mg base 1 f fd ["script"] (spL K sp__law_pen) :=
  (fnW (t := t__law_pen K clA) F sc__law_pen (fun ws A Q E ⟨_, _, e, _⟩ => by rw [e]; rfl) (d__law_pen T) rd_pen).imp pen_imp
end
end Wx

set_option Elab.async false
set_option linter.all false
set_option maxRecDepth 100000
set_option maxHeartbeats 4000000
namespace Dx
open PySem L2 Wx PyProof.Rows LamX
section
variable {P : Program} {w : World} {K : PySem.W.Frag} {mg : Str → Option Value} {base : Heap} {cl : Cl}
theorem ok_is_name (T : Txt P w K mg base cl) {f : Addr} {fd : FuncData} (F : Fun K "is_name" "is_name" s_is_name f fd) : FnB false P w K mg base 1 f fd ["value"] (spL K (spW cl sp_is_name)) :=
  fnD F sc_is_name (fun ds n Q X ⟨_, e, _⟩ => by rw [e]; rfl) (d_is_name T) rd_is_name
theorem ok_is_word (T : Txt P w K mg base cl) (C_is_name : Callee false P w K mg base 1 "is_name" ["value"] (spW cl (sp_is_name))) {f : Addr} {fd : FuncData} (F : Fun K "is_word" "is_word" s_is_word f fd) : FnB false P w K mg base 2 f fd ["value"] (spL K (spW cl sp_is_word)) :=
  fnD F sc_is_word (fun ds n Q X ⟨_, e, _⟩ => by rw [e]; rfl) (d_is_word T C_is_name) rd_is_word
theorem ok_length_first (T : Txt P w K mg base cl) {f : Addr} {fd : FuncData} (F : Fun K "length_first" "length_first" s_length_first f fd) : FnB false P w K mg base 1 f fd ["word"] (spL K (spW cl sp_length_first)) :=
  fnD F sc_length_first (fun ds n Q X ⟨_, _, e, _⟩ => by rw [e]; rfl) (d_length_first T) rd_length_first
theorem ok_is_before (T : Txt P w K mg base cl) (C_length_first : Callee false P w K mg base 1 "length_first" ["word"] (spW cl (sp_length_first))) {f : Addr} {fd : FuncData} (F : Fun K "is_before" "is_before" s_is_before f fd) : FnB false P w K mg base 2 f fd ["word", "other"] (spL K (spW cl sp_is_before)) :=
  fnD F sc_is_before (fun ds n Q X ⟨_, _, _, _, e, _⟩ => by rw [e]; rfl) (d_is_before T C_length_first) rd_is_before
theorem ok_word_text (T : Txt P w K mg base cl) {f : Addr} {fd : FuncData} (F : Fun K "word_text" "word_text" s_word_text f fd) : FnB false P w K mg base 1 f fd ["word"] (spL K (spW cl sp_word_text)) :=
  fnD F sc_word_text (fun ds n Q X ⟨_, _, e, _⟩ => by rw [e]; rfl) (d_word_text T) rd_word_text
theorem ok_rows_of (T : Txt P w K mg base cl) {f : Addr} {fd : FuncData} (F : Fun K "rows_of" "rows_of" s_rows_of f fd) : FnB false P w K mg base 3 f fd ["text"] (spL K (spW cl sp_rows_of)) :=
  fnD F sc_rows_of (fun ds n Q X ⟨_, e, _⟩ => by rw [e]; rfl) (d_rows_of T) rd_rows_of
theorem ok_Cursor_init (T : Txt P w K mg base cl) {f : Addr} {fd : FuncData} (F : Fun K "__init__" "Cursor.__init__" s_Cursor_init f fd) : FnB false P w K mg base 1 f fd ["self", "rows"] (spL K (spWM cl "Cursor" sp_Cursor_init)) :=
  fnM F sc_Cursor_init (fun fs os ds n Q X ⟨_, _, _, e, _⟩ => by rw [e]; rfl) (d_Cursor_init T) (fun a fs os ds n Q X h => rd_Cursor_init a fs os ds n Q X h)
theorem ok_Cursor_seen (T : Txt P w K mg base cl) {f : Addr} {fd : FuncData} (F : Fun K "seen" "Cursor.seen" s_Cursor_seen f fd) : FnB false P w K mg base 1 f fd ["self"] (spL K (spWM cl "Cursor" sp_Cursor_seen)) :=
  fnM F sc_Cursor_seen (fun fs os ds n Q X ⟨_, _, _, _, _, e, _⟩ => by rw [e]; rfl) (d_Cursor_seen T) (fun a fs os ds n Q X h => rd_Cursor_seen a fs os ds n Q X h)
theorem ok_Cursor_refuse (T : Txt P w K mg base cl) {f : Addr} {fd : FuncData} (F : Fun K "refuse" "Cursor.refuse" s_Cursor_refuse f fd) : FnB false P w K mg base 3 f fd ["self"] (spL K (spWM cl "Cursor" sp_Cursor_refuse)) :=
  fnM F sc_Cursor_refuse (fun fs os ds n Q X ⟨_, _, _, _, _, e, _⟩ => by rw [e]; rfl) (d_Cursor_refuse T) (fun a fs os ds n Q X h => rd_Cursor_refuse a fs os ds n Q X h)
theorem ok_Cursor_take (T : Txt P w K mg base cl) (C_is_name : Callee false P w K mg base 1 "is_name" ["value"] (spW cl (sp_is_name))) (M_Cursor_refuse : CMt false P w K mg base 3 (cl "Cursor") "refuse" (spWM cl "Cursor" (sp_Cursor_refuse))) (M_Cursor_seen : CMt false P w K mg base 1 (cl "Cursor") "seen" (spWM cl "Cursor" (sp_Cursor_seen))) {f : Addr} {fd : FuncData} (F : Fun K "take" "Cursor.take" s_Cursor_take f fd) : FnB false P w K mg base 4 f fd ["self", "is_right"] (spL K (spWM cl "Cursor" sp_Cursor_take)) :=
  fnM F sc_Cursor_take (fun fs os ds n Q X ⟨_, _, _, _, _, e, _⟩ => by rw [e]; rfl) (d_Cursor_take T C_is_name M_Cursor_refuse M_Cursor_seen) (fun a fs os ds n Q X h => rd_Cursor_take a fs os ds n Q X h)
theorem ok_Cursor_goes_on (T : Txt P w K mg base cl) (M_Cursor_refuse : CMt false P w K mg base 3 (cl "Cursor") "refuse" (spWM cl "Cursor" (sp_Cursor_refuse))) (M_Cursor_seen : CMt false P w K mg base 1 (cl "Cursor") "seen" (spWM cl "Cursor" (sp_Cursor_seen))) {f : Addr} {fd : FuncData} (F : Fun K "goes_on" "Cursor.goes_on" s_Cursor_goes_on f fd) : FnB false P w K mg base 4 f fd ["self", "may_end", "may_follow"] (spL K (spWM cl "Cursor" sp_Cursor_goes_on)) :=
  fnM F sc_Cursor_goes_on (fun fs os ds n Q X ⟨_, _, _, _, _, _, _, e, _⟩ => by rw [e]; rfl) (d_Cursor_goes_on T M_Cursor_refuse M_Cursor_seen) (fun a fs os ds n Q X h => rd_Cursor_goes_on a fs os ds n Q X h)
theorem ok_word_read (T : Txt P w K mg base cl) (C_rows_of : Callee false P w K mg base 3 "rows_of" ["text"] (spW cl (sp_rows_of))) (K_Cursor : CMk P w K mg base 1 "Cursor" (cl "Cursor") (spWM cl "Cursor" (sp_Cursor_init))) (M_Cursor_goes_on : CMt false P w K mg base 4 (cl "Cursor") "goes_on" (spWM cl "Cursor" (sp_Cursor_goes_on))) (M_Cursor_seen : CMt false P w K mg base 1 (cl "Cursor") "seen" (spWM cl "Cursor" (sp_Cursor_seen))) (M_Cursor_take : CMt false P w K mg base 4 (cl "Cursor") "take" (spWM cl "Cursor" (sp_Cursor_take))) {f : Addr} {fd : FuncData} (F : Fun K "word_read" "word_read" s_word_read f fd) : FnB false P w K mg base 5 f fd ["text"] (spL K (spW cl sp_word_read)) :=
  fnD F sc_word_read (fun ds n Q X ⟨_, e, _⟩ => by rw [e]; rfl) (d_word_read T C_rows_of K_Cursor M_Cursor_goes_on M_Cursor_seen M_Cursor_take) rd_word_read
theorem ok__law_pick (T : Txt P w K mg base cl) (C__law_draw : Callee false P w K mg base 1 "_law_draw" ["pen", "many"] (spW cl (sp__law_draw))) {f : Addr} {fd : FuncData} (F : Fun K "_law_pick" "_law_pick" s__law_pick f fd) : FnB false P w K mg base 2 f fd ["pen", "some"] (spL K (spW cl sp__law_pick)) :=
  fnD F sc__law_pick (fun ds n Q X ⟨_, _, e, _⟩ => by rw [e]; rfl) (d__law_pick T C__law_draw) rd__law_pick
theorem ok__law_shuffled (T : Txt P w K mg base cl) (C__law_draw : Callee false P w K mg base 1 "_law_draw" ["pen", "many"] (spW cl (sp__law_draw))) {f : Addr} {fd : FuncData} (F : Fun K "_law_shuffled" "_law_shuffled" s__law_shuffled f fd) : FnB false P w K mg base 2 f fd ["pen", "some"] (spL K (spW cl sp__law_shuffled)) :=
  fnD F sc__law_shuffled (fun ds n Q X ⟨_, _, e, _⟩ => by rw [e]; rfl) (d__law_shuffled T C__law_draw) rd__law_shuffled
theorem ok__law_name (T : Txt P w K mg base cl) (C__law_draw : Callee false P w K mg base 1 "_law_draw" ["pen", "many"] (spW cl (sp__law_draw))) {f : Addr} {fd : FuncData} (F : Fun K "_law_name" "_law_name" s__law_name f fd) : FnB false P w K mg base 2 f fd ["pen", "index"] (spL K (spW cl sp__law_name)) :=
  fnD F sc__law_name (fun ds n Q X ⟨_, e, _⟩ => by rw [e]; rfl) (d__law_name T C__law_draw) rd__law_name
theorem ok__law_names (T : Txt P w K mg base cl) (C__law_name : Callee false P w K mg base 2 "_law_name" ["pen", "index"] (spW cl (sp__law_name))) (C__law_shuffled : Callee false P w K mg base 2 "_law_shuffled" ["pen", "some"] (spW cl (sp__law_shuffled))) {f : Addr} {fd : FuncData} (F : Fun K "_law_names" "_law_names" s__law_names f fd) : FnB false P w K mg base 3 f fd ["pen", "many"] (spL K (spW cl sp__law_names)) :=
  fnD F sc__law_names (fun ds n Q X ⟨_, e, _⟩ => by rw [e]; rfl) (d__law_names T C__law_name C__law_shuffled) rd__law_names
theorem ok__law_same (T : Txt P w K mg base cl) (R__law_same : Callee false P w K mg base 0 "_law_same" ["told", "due"] (spW cl sp_none)) {f : Addr} {fd : FuncData} (F : Fun K "_law_same" "_law_same" s__law_same f fd) : FnB false P w K mg base 2 f fd ["told", "due"] (spL K (spW cl sp__law_same)) :=
  fnD F sc__law_same (fun ds n Q X ⟨_, _, e, _⟩ => by rw [e]; rfl) (d__law_same T R__law_same) rd__law_same
theorem ok__law_is_name (T : Txt P w K mg base cl) {f : Addr} {fd : FuncData} (F : Fun K "_law_is_name" "_law_is_name" s__law_is_name f fd) : FnB false P w K mg base 1 f fd ["value"] (spL K (spW cl sp__law_is_name)) :=
  fnD F sc__law_is_name (fun ds n Q X ⟨_, e, _⟩ => by rw [e]; rfl) (d__law_is_name T) rd__law_is_name
theorem ok__law_calls (T : Txt P w K mg base cl) (C__law_names : Callee false P w K mg base 3 "_law_names" ["pen", "many"] (spW cl (sp__law_names))) {f : Addr} {fd : FuncData} (F : Fun K "_law_calls" "_law_calls" s__law_calls f fd) : FnB false P w K mg base 4 f fd ["pen", "many"] (spL K (spW cl sp__law_calls)) :=
  fnD F sc__law_calls (fun ds n Q X ⟨_, e, _⟩ => by rw [e]; rfl) (d__law_calls T C__law_names) rd__law_calls
theorem ok__law_some_word (T : Txt P w K mg base cl) (C__law_draw : Callee false P w K mg base 1 "_law_draw" ["pen", "many"] (spW cl (sp__law_draw))) (C__law_pick : Callee false P w K mg base 2 "_law_pick" ["pen", "some"] (spW cl (sp__law_pick))) {f : Addr} {fd : FuncData} (F : Fun K "_law_some_word" "_law_some_word" s__law_some_word f fd) : FnB false P w K mg base 3 f fd ["pen", "calls", "most"] (spL K (spW cl sp__law_some_word)) :=
  fnD F sc__law_some_word (fun ds n Q X ⟨_, _, e, _⟩ => by rw [e]; rfl) (d__law_some_word T C__law_draw C__law_pick) rd__law_some_word
theorem ok__law_odd_name (T : Txt P w K mg base cl) (C__law_pick : Callee false P w K mg base 2 "_law_pick" ["pen", "some"] (spW cl (sp__law_pick))) {f : Addr} {fd : FuncData} (F : Fun K "_law_odd_name" "_law_odd_name" s__law_odd_name f fd) : FnB false P w K mg base 3 f fd ["pen", "name"] (spL K (spW cl sp__law_odd_name)) :=
  fnD F sc__law_odd_name (fun ds n Q X ⟨_, e, _⟩ => by rw [e]; rfl) (d__law_odd_name T C__law_pick) rd__law_odd_name
theorem ok__law_before (T : Txt P w K mg base cl) {f : Addr} {fd : FuncData} (F : Fun K "_law_before" "_law_before" s__law_before f fd) : FnB false P w K mg base 1 f fd ["word"] (spL K (spW cl sp__law_before)) :=
  fnD F sc__law_before (fun ds n Q X ⟨_, e, _⟩ => by rw [e]; rfl) (d__law_before T) rd__law_before
theorem ok__law_bent_words (T : Txt P w K mg base cl) (C__law_draw : Callee false P w K mg base 1 "_law_draw" ["pen", "many"] (spW cl (sp__law_draw))) (C__law_pick : Callee false P w K mg base 2 "_law_pick" ["pen", "some"] (spW cl (sp__law_pick))) {f : Addr} {fd : FuncData} (F : Fun K "_law_bent_words" "_law_bent_words" s__law_bent_words f fd) : FnB false P w K mg base 3 f fd ["pen", "words", "more"] (spL K (spW cl sp__law_bent_words)) :=
  fnD F sc__law_bent_words (fun ds n Q X ⟨_, _, _, _, e, _⟩ => by rw [e]; rfl) (d__law_bent_words T C__law_draw C__law_pick) rd__law_bent_words
theorem ok__law_first_wrong (T : Txt P w K mg base cl) (C__law_is_name : Callee false P w K mg base 1 "_law_is_name" ["value"] (spW cl (sp__law_is_name))) {f : Addr} {fd : FuncData} (F : Fun K "_law_first_wrong" "_law_first_wrong" s__law_first_wrong f fd) : FnB false P w K mg base 2 f fd ["text"] (spL K (spW cl sp__law_first_wrong)) :=
  fnD F sc__law_first_wrong (fun ds n Q X ⟨_, e, _⟩ => by rw [e]; rfl) (d__law_first_wrong T C__law_is_name) rd__law_first_wrong
theorem ok__law_is_word (T : Txt P w K mg base cl) (C__law_is_name : Callee false P w K mg base 1 "_law_is_name" ["value"] (spW cl (sp__law_is_name))) {f : Addr} {fd : FuncData} (F : Fun K "_law_is_word" "_law_is_word" s__law_is_word f fd) : FnB false P w K mg base 2 f fd ["value"] (spL K (spW cl sp__law_is_word)) :=
  fnD F sc__law_is_word (fun ds n Q X ⟨_, e, _⟩ => by rw [e]; rfl) (d__law_is_word T C__law_is_name) rd__law_is_word
theorem ok_draw {clA : Str → Addr} (T : Wx.Txt P w K mg base clA) {f : Addr} {fd : FuncData} (F : Fun K "_law_draw" "_law_draw" Wx.s__law_draw f fd) : FnB false P w K mg base 1 f fd ["pen", "many"] (spL K (spW cl sp__law_draw)) := (Wx.ok_draw T F).imp (spL_imp draw_up)
theorem ok_pen {clA : Str → Addr} (T : Wx.Txt P w K mg base clA) {f : Addr} {fd : FuncData} (F : Fun K "_law_pen" "_law_pen" Wx.s__law_pen f fd) : FnB false P w K mg base 1 f fd ["script"] (spL K (spW cl sp__law_pen)) := (Wx.ok_pen T F).imp (spL_imp pen_up)
end
end Dx

set_option Elab.async false
set_option linter.all false
set_option maxRecDepth 100000
set_option maxHeartbeats 4000000
namespace Dx
open PySem PySem.Spec L2 Wx PyProof.Rows LamX
def fldL : List (Str × Str) := [("Cursor", "at"), ("Cursor", "line"), ("Cursor", "rows")]
def okfL : List (Str × Str) := [("BadText", "line"), ("BadText", "word")]
def exmL : List ((Str × Str) × Bool) := [(("BadText", "BadText"), true), (("BadNumber", "BadText"), false), (("BadRow", "BadText"), false), (("NoName", "BadText"), false), (("Unlike", "BadText"), false), (("TooMany", "BadText"), false)]
def xL : List (Str × List Str) := [("BadText", ["line", "word"])]
def clsL : List Str := ["Cursor"]
def chkJ (K : PySem.W.Frag) : Bool := kbB K && (sfB K okfL && (exmB K exmL && (fldB K fldL && (xB K xL && clsL.all fun c => clsB K (adOf K c)))))
theorem okf_mem {C f : Str} (h : okf C f = true) : (C, f) ∈ okfL := of_decide_eq_true h
theorem lookup_mem {α β : Type} [BEq α] [LawfulBEq α] {a : α} {b : β} : ∀ {l : List (α × β)}, l.lookup a = some b → (a, b) ∈ l
  | [], h => by cases h
  | (c, d) :: r, h => by
    rw [List.lookup_cons] at h
    split at h
    · rename_i e
      cases h
      rw [eq_of_beq e]
      exact List.mem_cons_self
    · exact List.mem_cons_of_mem _ (lookup_mem h)
theorem exT_mem {h C : Str} {b : Bool} (e : exT h C = some b) : ((h, C), b) ∈ exmL := by
  unfold exT at e
  split at e
  · rename_i z
    subst z
    have q : exmL = exTab.map (fun p => ((p.1, ("BadText" : Str)), p.2)) := rfl
    rw [q]
    exact List.mem_map.mpr ⟨_, lookup_mem e, rfl⟩
  · cases e
theorem all_mk {l : PySem.W.OpenLaw} {w : World} {K : PySem.W.Frag} {h : Heap} {mg : Str → Option Value} {fa CCursor CBadNumber CBadRow CBadText CNoName CTooMany CUnlike fXBadText f_law_pen f_law_draw fis_name fis_word flength_first fis_before fword_text frows_of fCursor_init fCursor_seen fCursor_refuse fCursor_take fCursor_goes_on fword_read f_law_pick f_law_shuffled f_law_name f_law_names f_law_same f_law_is_name f_law_calls f_law_some_word f_law_odd_name f_law_before f_law_bent_words f_law_first_wrong f_law_is_word f_law_why ctlaw_ tPlaw_ flaw : Addr} (X : K.In h) (G : h.Ns mainGlobals mg) (hfa : mg "law" = some (.ref fa))
    {odXBadText anXBadText od_law_pen an_law_pen od_law_draw an_law_draw odis_name anis_name odis_word anis_word odlength_first anlength_first odis_before anis_before odword_text anword_text odrows_of anrows_of odCursor_init anCursor_init odCursor_seen anCursor_seen odCursor_refuse anCursor_refuse odCursor_take anCursor_take odCursor_goes_on anCursor_goes_on odword_read anword_read od_law_pick an_law_pick od_law_shuffled an_law_shuffled od_law_name an_law_name od_law_names an_law_names od_law_same an_law_same od_law_is_name an_law_is_name od_law_calls an_law_calls od_law_some_word an_law_some_word od_law_odd_name an_law_odd_name od_law_before an_law_before od_law_bent_words an_law_bent_words od_law_first_wrong an_law_first_wrong od_law_is_word an_law_is_word od_law_why an_law_why odlaw anlaw udlaw : Option Addr} {slXBadText sl_law_pen sl_law_draw slis_name slis_word sllength_first slis_before slword_text slrows_of slCursor_init slCursor_seen slCursor_refuse slCursor_take slCursor_goes_on slword_read sl_law_pick sl_law_shuffled sl_law_name sl_law_names sl_law_same sl_law_is_name sl_law_calls sl_law_some_word sl_law_odd_name sl_law_before sl_law_bent_words sl_law_first_wrong sl_law_is_word sl_law_why sllaw uslaw : Array (Option Value)} {ocXBadText kVXBadText dcXBadText pmXBadText ctXBadText cdXBadText oc_law_pen kV_law_pen dc_law_pen pm_law_pen ct_law_pen cd_law_pen oc_law_draw kV_law_draw dc_law_draw pm_law_draw ct_law_draw cd_law_draw ocis_name kVis_name dcis_name pmis_name ctis_name cdis_name ocis_word kVis_word dcis_word pmis_word ctis_word cdis_word oclength_first kVlength_first dclength_first pmlength_first ctlength_first cdlength_first ocis_before kVis_before dcis_before pmis_before ctis_before cdis_before ocword_text kVword_text dcword_text pmword_text ctword_text cdword_text ocrows_of kVrows_of dcrows_of pmrows_of ctrows_of cdrows_of ocCursor_init kVCursor_init dcCursor_init pmCursor_init ctCursor_init cdCursor_init ocCursor_seen kVCursor_seen dcCursor_seen pmCursor_seen ctCursor_seen cdCursor_seen ocCursor_refuse kVCursor_refuse dcCursor_refuse pmCursor_refuse ctCursor_refuse cdCursor_refuse ocCursor_take kVCursor_take dcCursor_take pmCursor_take ctCursor_take cdCursor_take ocCursor_goes_on kVCursor_goes_on dcCursor_goes_on pmCursor_goes_on ctCursor_goes_on cdCursor_goes_on ocword_read kVword_read dcword_read pmword_read ctword_read cdword_read oc_law_pick kV_law_pick dc_law_pick pm_law_pick ct_law_pick cd_law_pick oc_law_shuffled kV_law_shuffled dc_law_shuffled pm_law_shuffled ct_law_shuffled cd_law_shuffled oc_law_name kV_law_name dc_law_name pm_law_name ct_law_name cd_law_name oc_law_names kV_law_names dc_law_names pm_law_names ct_law_names cd_law_names oc_law_same kV_law_same dc_law_same pm_law_same ct_law_same cd_law_same oc_law_is_name kV_law_is_name dc_law_is_name pm_law_is_name ct_law_is_name cd_law_is_name oc_law_calls kV_law_calls dc_law_calls pm_law_calls ct_law_calls cd_law_calls oc_law_some_word kV_law_some_word dc_law_some_word pm_law_some_word ct_law_some_word cd_law_some_word oc_law_odd_name kV_law_odd_name dc_law_odd_name pm_law_odd_name ct_law_odd_name cd_law_odd_name oc_law_before kV_law_before dc_law_before pm_law_before ct_law_before cd_law_before oc_law_bent_words kV_law_bent_words dc_law_bent_words pm_law_bent_words ct_law_bent_words cd_law_bent_words oc_law_first_wrong kV_law_first_wrong dc_law_first_wrong pm_law_first_wrong ct_law_first_wrong cd_law_first_wrong oc_law_is_word kV_law_is_word dc_law_is_word pm_law_is_word ct_law_is_word cd_law_is_word oc_law_why kV_law_why dc_law_why pm_law_why ct_law_why cd_law_why oclaw kVlaw dclaw pmlaw ctlaw uclaw : Value} {tEMPTY tFIGURES tLETTERS : Tok} {vslaw : Array Value}
    (aCursor : PySem.W.nsIn K mainGlobals "Cursor" = some (some (.ref CCursor)))
    (aBadNumber : PySem.W.nsIn K mainGlobals "BadNumber" = some (some (.ref CBadNumber)))
    (aBadRow : PySem.W.nsIn K mainGlobals "BadRow" = some (some (.ref CBadRow)))
    (aBadText : PySem.W.nsIn K mainGlobals "BadText" = some (some (.ref CBadText)))
    (aNoName : PySem.W.nsIn K mainGlobals "NoName" = some (some (.ref CNoName)))
    (aTooMany : PySem.W.nsIn K mainGlobals "TooMany" = some (some (.ref CTooMany)))
    (aUnlike : PySem.W.nsIn K mainGlobals "Unlike" = some (some (.ref CUnlike)))
    (iXBadText : PySem.W.findIn K (.ref CBadText) "__init__" = some (some (.ref fXBadText)))
    (lXBadText : K.lookup fXBadText = some ⟨ocXBadText, odXBadText, .func (PySem.W.fnOf "__init__" "BadText.__init__" (defArgs s_BadText) (defBody s_BadText) (defScope s_BadText) .none kVXBadText dcXBadText pmXBadText anXBadText cdXBadText ctXBadText), slXBadText⟩)
    (cXBadText : PySem.W.codeIn K (cdXBadText) "BadText.__init__" = true)
    (kXBadText : PySem.W.keepIn K (.ref fXBadText) = true)
    (tXBadText : PySem.W.typeIn K (.ref fXBadText) = some (.type "function"))
    (a_law_pen : PySem.W.nsIn K mainGlobals "_law_pen" = some (some (.ref f_law_pen)))
    (l_law_pen : K.lookup f_law_pen = some ⟨oc_law_pen, od_law_pen, .func (PySem.W.fnOf "_law_pen" "_law_pen" (defArgs Wx.s__law_pen) (defBody Wx.s__law_pen) (defScope Wx.s__law_pen) .none kV_law_pen dc_law_pen pm_law_pen an_law_pen cd_law_pen ct_law_pen), sl_law_pen⟩)
    (c_law_pen : PySem.W.codeIn K (cd_law_pen) "_law_pen" = true)
    (k_law_pen : PySem.W.keepIn K (.ref f_law_pen) = true)
    (a_law_draw : PySem.W.nsIn K mainGlobals "_law_draw" = some (some (.ref f_law_draw)))
    (l_law_draw : K.lookup f_law_draw = some ⟨oc_law_draw, od_law_draw, .func (PySem.W.fnOf "_law_draw" "_law_draw" (defArgs Wx.s__law_draw) (defBody Wx.s__law_draw) (defScope Wx.s__law_draw) .none kV_law_draw dc_law_draw pm_law_draw an_law_draw cd_law_draw ct_law_draw), sl_law_draw⟩)
    (c_law_draw : PySem.W.codeIn K (cd_law_draw) "_law_draw" = true)
    (k_law_draw : PySem.W.keepIn K (.ref f_law_draw) = true)
    (ais_name : PySem.W.nsIn K mainGlobals "is_name" = some (some (.ref fis_name)))
    (lis_name : K.lookup fis_name = some ⟨ocis_name, odis_name, .func (PySem.W.fnOf "is_name" "is_name" (defArgs s_is_name) (defBody s_is_name) (defScope s_is_name) .none kVis_name dcis_name pmis_name anis_name cdis_name ctis_name), slis_name⟩)
    (cis_name : PySem.W.codeIn K (cdis_name) "is_name" = true)
    (kis_name : PySem.W.keepIn K (.ref fis_name) = true)
    (ais_word : PySem.W.nsIn K mainGlobals "is_word" = some (some (.ref fis_word)))
    (lis_word : K.lookup fis_word = some ⟨ocis_word, odis_word, .func (PySem.W.fnOf "is_word" "is_word" (defArgs s_is_word) (defBody s_is_word) (defScope s_is_word) .none kVis_word dcis_word pmis_word anis_word cdis_word ctis_word), slis_word⟩)
    (cis_word : PySem.W.codeIn K (cdis_word) "is_word" = true)
    (kis_word : PySem.W.keepIn K (.ref fis_word) = true)
    (alength_first : PySem.W.nsIn K mainGlobals "length_first" = some (some (.ref flength_first)))
    (llength_first : K.lookup flength_first = some ⟨oclength_first, odlength_first, .func (PySem.W.fnOf "length_first" "length_first" (defArgs s_length_first) (defBody s_length_first) (defScope s_length_first) .none kVlength_first dclength_first pmlength_first anlength_first cdlength_first ctlength_first), sllength_first⟩)
    (clength_first : PySem.W.codeIn K (cdlength_first) "length_first" = true)
    (klength_first : PySem.W.keepIn K (.ref flength_first) = true)
    (ais_before : PySem.W.nsIn K mainGlobals "is_before" = some (some (.ref fis_before)))
    (lis_before : K.lookup fis_before = some ⟨ocis_before, odis_before, .func (PySem.W.fnOf "is_before" "is_before" (defArgs s_is_before) (defBody s_is_before) (defScope s_is_before) .none kVis_before dcis_before pmis_before anis_before cdis_before ctis_before), slis_before⟩)
    (cis_before : PySem.W.codeIn K (cdis_before) "is_before" = true)
    (kis_before : PySem.W.keepIn K (.ref fis_before) = true)
    (aword_text : PySem.W.nsIn K mainGlobals "word_text" = some (some (.ref fword_text)))
    (lword_text : K.lookup fword_text = some ⟨ocword_text, odword_text, .func (PySem.W.fnOf "word_text" "word_text" (defArgs s_word_text) (defBody s_word_text) (defScope s_word_text) .none kVword_text dcword_text pmword_text anword_text cdword_text ctword_text), slword_text⟩)
    (cword_text : PySem.W.codeIn K (cdword_text) "word_text" = true)
    (kword_text : PySem.W.keepIn K (.ref fword_text) = true)
    (arows_of : PySem.W.nsIn K mainGlobals "rows_of" = some (some (.ref frows_of)))
    (lrows_of : K.lookup frows_of = some ⟨ocrows_of, odrows_of, .func (PySem.W.fnOf "rows_of" "rows_of" (defArgs s_rows_of) (defBody s_rows_of) (defScope s_rows_of) .none kVrows_of dcrows_of pmrows_of anrows_of cdrows_of ctrows_of), slrows_of⟩)
    (crows_of : PySem.W.codeIn K (cdrows_of) "rows_of" = true)
    (krows_of : PySem.W.keepIn K (.ref frows_of) = true)
    (iCursor_init : PySem.W.findIn K (.ref CCursor) "__init__" = some (some (.ref fCursor_init)))
    (lCursor_init : K.lookup fCursor_init = some ⟨ocCursor_init, odCursor_init, .func (PySem.W.fnOf "__init__" "Cursor.__init__" (defArgs s_Cursor_init) (defBody s_Cursor_init) (defScope s_Cursor_init) .none kVCursor_init dcCursor_init pmCursor_init anCursor_init cdCursor_init ctCursor_init), slCursor_init⟩)
    (cCursor_init : PySem.W.codeIn K (cdCursor_init) "Cursor.__init__" = true)
    (kCursor_init : PySem.W.keepIn K (.ref fCursor_init) = true)
    (sCursor_init : PySem.W.isFn K (.ref fCursor_init) = true)
    (iCursor_seen : PySem.W.findIn K (.ref CCursor) "seen" = some (some (.ref fCursor_seen)))
    (lCursor_seen : K.lookup fCursor_seen = some ⟨ocCursor_seen, odCursor_seen, .func (PySem.W.fnOf "seen" "Cursor.seen" (defArgs s_Cursor_seen) (defBody s_Cursor_seen) (defScope s_Cursor_seen) .none kVCursor_seen dcCursor_seen pmCursor_seen anCursor_seen cdCursor_seen ctCursor_seen), slCursor_seen⟩)
    (cCursor_seen : PySem.W.codeIn K (cdCursor_seen) "Cursor.seen" = true)
    (kCursor_seen : PySem.W.keepIn K (.ref fCursor_seen) = true)
    (sCursor_seen : PySem.W.isFn K (.ref fCursor_seen) = true)
    (iCursor_refuse : PySem.W.findIn K (.ref CCursor) "refuse" = some (some (.ref fCursor_refuse)))
    (lCursor_refuse : K.lookup fCursor_refuse = some ⟨ocCursor_refuse, odCursor_refuse, .func (PySem.W.fnOf "refuse" "Cursor.refuse" (defArgs s_Cursor_refuse) (defBody s_Cursor_refuse) (defScope s_Cursor_refuse) .none kVCursor_refuse dcCursor_refuse pmCursor_refuse anCursor_refuse cdCursor_refuse ctCursor_refuse), slCursor_refuse⟩)
    (cCursor_refuse : PySem.W.codeIn K (cdCursor_refuse) "Cursor.refuse" = true)
    (kCursor_refuse : PySem.W.keepIn K (.ref fCursor_refuse) = true)
    (sCursor_refuse : PySem.W.isFn K (.ref fCursor_refuse) = true)
    (iCursor_take : PySem.W.findIn K (.ref CCursor) "take" = some (some (.ref fCursor_take)))
    (lCursor_take : K.lookup fCursor_take = some ⟨ocCursor_take, odCursor_take, .func (PySem.W.fnOf "take" "Cursor.take" (defArgs s_Cursor_take) (defBody s_Cursor_take) (defScope s_Cursor_take) .none kVCursor_take dcCursor_take pmCursor_take anCursor_take cdCursor_take ctCursor_take), slCursor_take⟩)
    (cCursor_take : PySem.W.codeIn K (cdCursor_take) "Cursor.take" = true)
    (kCursor_take : PySem.W.keepIn K (.ref fCursor_take) = true)
    (sCursor_take : PySem.W.isFn K (.ref fCursor_take) = true)
    (iCursor_goes_on : PySem.W.findIn K (.ref CCursor) "goes_on" = some (some (.ref fCursor_goes_on)))
    (lCursor_goes_on : K.lookup fCursor_goes_on = some ⟨ocCursor_goes_on, odCursor_goes_on, .func (PySem.W.fnOf "goes_on" "Cursor.goes_on" (defArgs s_Cursor_goes_on) (defBody s_Cursor_goes_on) (defScope s_Cursor_goes_on) .none kVCursor_goes_on dcCursor_goes_on pmCursor_goes_on anCursor_goes_on cdCursor_goes_on ctCursor_goes_on), slCursor_goes_on⟩)
    (cCursor_goes_on : PySem.W.codeIn K (cdCursor_goes_on) "Cursor.goes_on" = true)
    (kCursor_goes_on : PySem.W.keepIn K (.ref fCursor_goes_on) = true)
    (sCursor_goes_on : PySem.W.isFn K (.ref fCursor_goes_on) = true)
    (aword_read : PySem.W.nsIn K mainGlobals "word_read" = some (some (.ref fword_read)))
    (lword_read : K.lookup fword_read = some ⟨ocword_read, odword_read, .func (PySem.W.fnOf "word_read" "word_read" (defArgs s_word_read) (defBody s_word_read) (defScope s_word_read) .none kVword_read dcword_read pmword_read anword_read cdword_read ctword_read), slword_read⟩)
    (cword_read : PySem.W.codeIn K (cdword_read) "word_read" = true)
    (kword_read : PySem.W.keepIn K (.ref fword_read) = true)
    (a_law_pick : PySem.W.nsIn K mainGlobals "_law_pick" = some (some (.ref f_law_pick)))
    (l_law_pick : K.lookup f_law_pick = some ⟨oc_law_pick, od_law_pick, .func (PySem.W.fnOf "_law_pick" "_law_pick" (defArgs s__law_pick) (defBody s__law_pick) (defScope s__law_pick) .none kV_law_pick dc_law_pick pm_law_pick an_law_pick cd_law_pick ct_law_pick), sl_law_pick⟩)
    (c_law_pick : PySem.W.codeIn K (cd_law_pick) "_law_pick" = true)
    (k_law_pick : PySem.W.keepIn K (.ref f_law_pick) = true)
    (a_law_shuffled : PySem.W.nsIn K mainGlobals "_law_shuffled" = some (some (.ref f_law_shuffled)))
    (l_law_shuffled : K.lookup f_law_shuffled = some ⟨oc_law_shuffled, od_law_shuffled, .func (PySem.W.fnOf "_law_shuffled" "_law_shuffled" (defArgs s__law_shuffled) (defBody s__law_shuffled) (defScope s__law_shuffled) .none kV_law_shuffled dc_law_shuffled pm_law_shuffled an_law_shuffled cd_law_shuffled ct_law_shuffled), sl_law_shuffled⟩)
    (c_law_shuffled : PySem.W.codeIn K (cd_law_shuffled) "_law_shuffled" = true)
    (k_law_shuffled : PySem.W.keepIn K (.ref f_law_shuffled) = true)
    (a_law_name : PySem.W.nsIn K mainGlobals "_law_name" = some (some (.ref f_law_name)))
    (l_law_name : K.lookup f_law_name = some ⟨oc_law_name, od_law_name, .func (PySem.W.fnOf "_law_name" "_law_name" (defArgs s__law_name) (defBody s__law_name) (defScope s__law_name) .none kV_law_name dc_law_name pm_law_name an_law_name cd_law_name ct_law_name), sl_law_name⟩)
    (c_law_name : PySem.W.codeIn K (cd_law_name) "_law_name" = true)
    (k_law_name : PySem.W.keepIn K (.ref f_law_name) = true)
    (a_law_names : PySem.W.nsIn K mainGlobals "_law_names" = some (some (.ref f_law_names)))
    (l_law_names : K.lookup f_law_names = some ⟨oc_law_names, od_law_names, .func (PySem.W.fnOf "_law_names" "_law_names" (defArgs s__law_names) (defBody s__law_names) (defScope s__law_names) .none kV_law_names dc_law_names pm_law_names an_law_names cd_law_names ct_law_names), sl_law_names⟩)
    (c_law_names : PySem.W.codeIn K (cd_law_names) "_law_names" = true)
    (k_law_names : PySem.W.keepIn K (.ref f_law_names) = true)
    (a_law_same : PySem.W.nsIn K mainGlobals "_law_same" = some (some (.ref f_law_same)))
    (l_law_same : K.lookup f_law_same = some ⟨oc_law_same, od_law_same, .func (PySem.W.fnOf "_law_same" "_law_same" (defArgs s__law_same) (defBody s__law_same) (defScope s__law_same) .none kV_law_same dc_law_same pm_law_same an_law_same cd_law_same ct_law_same), sl_law_same⟩)
    (c_law_same : PySem.W.codeIn K (cd_law_same) "_law_same" = true)
    (k_law_same : PySem.W.keepIn K (.ref f_law_same) = true)
    (a_law_is_name : PySem.W.nsIn K mainGlobals "_law_is_name" = some (some (.ref f_law_is_name)))
    (l_law_is_name : K.lookup f_law_is_name = some ⟨oc_law_is_name, od_law_is_name, .func (PySem.W.fnOf "_law_is_name" "_law_is_name" (defArgs s__law_is_name) (defBody s__law_is_name) (defScope s__law_is_name) .none kV_law_is_name dc_law_is_name pm_law_is_name an_law_is_name cd_law_is_name ct_law_is_name), sl_law_is_name⟩)
    (c_law_is_name : PySem.W.codeIn K (cd_law_is_name) "_law_is_name" = true)
    (k_law_is_name : PySem.W.keepIn K (.ref f_law_is_name) = true)
    (a_law_calls : PySem.W.nsIn K mainGlobals "_law_calls" = some (some (.ref f_law_calls)))
    (l_law_calls : K.lookup f_law_calls = some ⟨oc_law_calls, od_law_calls, .func (PySem.W.fnOf "_law_calls" "_law_calls" (defArgs s__law_calls) (defBody s__law_calls) (defScope s__law_calls) .none kV_law_calls dc_law_calls pm_law_calls an_law_calls cd_law_calls ct_law_calls), sl_law_calls⟩)
    (c_law_calls : PySem.W.codeIn K (cd_law_calls) "_law_calls" = true)
    (k_law_calls : PySem.W.keepIn K (.ref f_law_calls) = true)
    (a_law_some_word : PySem.W.nsIn K mainGlobals "_law_some_word" = some (some (.ref f_law_some_word)))
    (l_law_some_word : K.lookup f_law_some_word = some ⟨oc_law_some_word, od_law_some_word, .func (PySem.W.fnOf "_law_some_word" "_law_some_word" (defArgs s__law_some_word) (defBody s__law_some_word) (defScope s__law_some_word) .none kV_law_some_word dc_law_some_word pm_law_some_word an_law_some_word cd_law_some_word ct_law_some_word), sl_law_some_word⟩)
    (c_law_some_word : PySem.W.codeIn K (cd_law_some_word) "_law_some_word" = true)
    (k_law_some_word : PySem.W.keepIn K (.ref f_law_some_word) = true)
    (a_law_odd_name : PySem.W.nsIn K mainGlobals "_law_odd_name" = some (some (.ref f_law_odd_name)))
    (l_law_odd_name : K.lookup f_law_odd_name = some ⟨oc_law_odd_name, od_law_odd_name, .func (PySem.W.fnOf "_law_odd_name" "_law_odd_name" (defArgs s__law_odd_name) (defBody s__law_odd_name) (defScope s__law_odd_name) .none kV_law_odd_name dc_law_odd_name pm_law_odd_name an_law_odd_name cd_law_odd_name ct_law_odd_name), sl_law_odd_name⟩)
    (c_law_odd_name : PySem.W.codeIn K (cd_law_odd_name) "_law_odd_name" = true)
    (k_law_odd_name : PySem.W.keepIn K (.ref f_law_odd_name) = true)
    (a_law_before : PySem.W.nsIn K mainGlobals "_law_before" = some (some (.ref f_law_before)))
    (l_law_before : K.lookup f_law_before = some ⟨oc_law_before, od_law_before, .func (PySem.W.fnOf "_law_before" "_law_before" (defArgs s__law_before) (defBody s__law_before) (defScope s__law_before) .none kV_law_before dc_law_before pm_law_before an_law_before cd_law_before ct_law_before), sl_law_before⟩)
    (c_law_before : PySem.W.codeIn K (cd_law_before) "_law_before" = true)
    (k_law_before : PySem.W.keepIn K (.ref f_law_before) = true)
    (a_law_bent_words : PySem.W.nsIn K mainGlobals "_law_bent_words" = some (some (.ref f_law_bent_words)))
    (l_law_bent_words : K.lookup f_law_bent_words = some ⟨oc_law_bent_words, od_law_bent_words, .func (PySem.W.fnOf "_law_bent_words" "_law_bent_words" (defArgs s__law_bent_words) (defBody s__law_bent_words) (defScope s__law_bent_words) .none kV_law_bent_words dc_law_bent_words pm_law_bent_words an_law_bent_words cd_law_bent_words ct_law_bent_words), sl_law_bent_words⟩)
    (c_law_bent_words : PySem.W.codeIn K (cd_law_bent_words) "_law_bent_words" = true)
    (k_law_bent_words : PySem.W.keepIn K (.ref f_law_bent_words) = true)
    (a_law_first_wrong : PySem.W.nsIn K mainGlobals "_law_first_wrong" = some (some (.ref f_law_first_wrong)))
    (l_law_first_wrong : K.lookup f_law_first_wrong = some ⟨oc_law_first_wrong, od_law_first_wrong, .func (PySem.W.fnOf "_law_first_wrong" "_law_first_wrong" (defArgs s__law_first_wrong) (defBody s__law_first_wrong) (defScope s__law_first_wrong) .none kV_law_first_wrong dc_law_first_wrong pm_law_first_wrong an_law_first_wrong cd_law_first_wrong ct_law_first_wrong), sl_law_first_wrong⟩)
    (c_law_first_wrong : PySem.W.codeIn K (cd_law_first_wrong) "_law_first_wrong" = true)
    (k_law_first_wrong : PySem.W.keepIn K (.ref f_law_first_wrong) = true)
    (a_law_is_word : PySem.W.nsIn K mainGlobals "_law_is_word" = some (some (.ref f_law_is_word)))
    (l_law_is_word : K.lookup f_law_is_word = some ⟨oc_law_is_word, od_law_is_word, .func (PySem.W.fnOf "_law_is_word" "_law_is_word" (defArgs s__law_is_word) (defBody s__law_is_word) (defScope s__law_is_word) .none kV_law_is_word dc_law_is_word pm_law_is_word an_law_is_word cd_law_is_word ct_law_is_word), sl_law_is_word⟩)
    (c_law_is_word : PySem.W.codeIn K (cd_law_is_word) "_law_is_word" = true)
    (k_law_is_word : PySem.W.keepIn K (.ref f_law_is_word) = true)
    (a_law_why : PySem.W.nsIn K mainGlobals "_law_why" = some (some (.ref f_law_why)))
    (l_law_why : K.lookup f_law_why = some ⟨oc_law_why, od_law_why, .func (PySem.W.fnOf "_law_why" "_law_why" (defArgs s__law_why) (defBody s__law_why) (defScope s__law_why) .none kV_law_why dc_law_why pm_law_why an_law_why cd_law_why ct_law_why), sl_law_why⟩)
    (c_law_why : PySem.W.codeIn K (cd_law_why) "_law_why" = true)
    (k_law_why : PySem.W.keepIn K (.ref f_law_why) = true)
    (alaw : PySem.W.nsIn K mainGlobals "law" = some (some (.ref flaw)))
    (llaw : K.lookup flaw = some ⟨oclaw, odlaw, .func (PySem.W.fnOf "law" "law" (defArgs s_law) (defBody s_law) (defScope s_law) .none kVlaw dclaw pmlaw anlaw (.ref ctlaw_) ctlaw), sllaw⟩)
    (claw : PySem.W.codeIn K ((.ref ctlaw_)) "law" = true)
    (klaw : PySem.W.keepIn K (.ref flaw) = true)
    (ltlaw : K.lookup ctlaw_ = some ⟨uclaw, udlaw, .fields vslaw, uslaw⟩)
    (hvlaw : (vslaw[11]? : Option Value) = some (.ref tPlaw_))
    (nPlaw : K.lookup tPlaw_ = none)
    (mkCursor : PySem.W.makesIn K CCursor = true)
    (kpCursor : PySem.W.keepIn K (.ref CCursor) = true)
    (gEMPTY : PySem.W.nsIn K mainGlobals "EMPTY" = some (some (.str "_" tEMPTY)))
    (gFIGURES : PySem.W.nsIn K mainGlobals "FIGURES" = some (some (.str "0123456789" tFIGURES)))
    (gLETTERS : PySem.W.nsIn K mainGlobals "LETTERS" = some (some (.str "abcdefghijklmnopqrstuvwxyz" tLETTERS)))
    (zall : PySem.W.nsIn K mainGlobals "all" = some none)
    (zbool : PySem.W.nsIn K mainGlobals "bool" = some none)
    (zenumerate : PySem.W.nsIn K mainGlobals "enumerate" = some none)
    (zint : PySem.W.nsIn K mainGlobals "int" = some none)
    (zisinstance : PySem.W.nsIn K mainGlobals "isinstance" = some none)
    (zlen : PySem.W.nsIn K mainGlobals "len" = some none)
    (zlist : PySem.W.nsIn K mainGlobals "list" = some none)
    (zrange : PySem.W.nsIn K mainGlobals "range" = some none)
    (zrepr : PySem.W.nsIn K mainGlobals "repr" = some none)
    (zsorted : PySem.W.nsIn K mainGlobals "sorted" = some none)
    (zstr : PySem.W.nsIn K mainGlobals "str" = some none)
    (ztuple : PySem.W.nsIn K mainGlobals "tuple" = some none)
    (zzip : PySem.W.nsIn K mainGlobals "zip" = some none)
    (hchk : chkJ K = true)
    : ∃ cs : List LamTab, TabsIn K ["law"] cs ∧ ∃ fd : FuncData, (∀ (s : Shared) (u : Value), BindsTo s fd ⟨[u], []⟩ [("script", u)]) ∧ ∀ base : Heap, K.In base → base.Ns mainGlobals mg → (∀ p ∈ cs, LamX.TabB base mg p.c p.P) → FnB true l.prog w K mg base 8 fa fd ["script"] (spL K (spW (clK K cs) sp_law)) := by
  have e := hfa.symm.trans (PySem.W.mg_of X G alaw)
  cases e
  unfold chkJ at hchk
  simp only [Bool.and_eq_true] at hchk
  obtain ⟨hkb, hsf, hexm, hfld, hx, hcls⟩ := hchk
  have tablaw := tabIn_mk alaw llaw rfl ltlaw hvlaw
  obtain ⟨cs, hcs⟩ : ∃ cs : List LamTab, cs = [⟨ctlaw_, tPlaw_, "law.<locals>.<lambda>"⟩] := ⟨_, rfl⟩
  obtain rfl : CCursor = adOf K "Cursor" := (adOf_of aCursor).symm
  obtain rfl : CBadNumber = adOf K "BadNumber" := (adOf_of aBadNumber).symm
  obtain rfl : CBadRow = adOf K "BadRow" := (adOf_of aBadRow).symm
  obtain rfl : CBadText = adOf K "BadText" := (adOf_of aBadText).symm
  obtain rfl : CNoName = adOf K "NoName" := (adOf_of aNoName).symm
  obtain rfl : CTooMany = adOf K "TooMany" := (adOf_of aTooMany).symm
  obtain rfl : CUnlike = adOf K "Unlike" := (adOf_of aUnlike).symm
  have FXBadText := fun_mk (st := s_BadText) lXBadText cXBadText kXBadText
  have F_law_pen := fun_mk (st := Wx.s__law_pen) l_law_pen c_law_pen k_law_pen
  have F_law_draw := fun_mk (st := Wx.s__law_draw) l_law_draw c_law_draw k_law_draw
  have Fis_name := fun_mk (st := s_is_name) lis_name cis_name kis_name
  have Fis_word := fun_mk (st := s_is_word) lis_word cis_word kis_word
  have Flength_first := fun_mk (st := s_length_first) llength_first clength_first klength_first
  have Fis_before := fun_mk (st := s_is_before) lis_before cis_before kis_before
  have Fword_text := fun_mk (st := s_word_text) lword_text cword_text kword_text
  have Frows_of := fun_mk (st := s_rows_of) lrows_of crows_of krows_of
  have FCursor_init := fun_mk (st := s_Cursor_init) lCursor_init cCursor_init kCursor_init
  have FCursor_seen := fun_mk (st := s_Cursor_seen) lCursor_seen cCursor_seen kCursor_seen
  have FCursor_refuse := fun_mk (st := s_Cursor_refuse) lCursor_refuse cCursor_refuse kCursor_refuse
  have FCursor_take := fun_mk (st := s_Cursor_take) lCursor_take cCursor_take kCursor_take
  have FCursor_goes_on := fun_mk (st := s_Cursor_goes_on) lCursor_goes_on cCursor_goes_on kCursor_goes_on
  have Fword_read := fun_mk (st := s_word_read) lword_read cword_read kword_read
  have F_law_pick := fun_mk (st := s__law_pick) l_law_pick c_law_pick k_law_pick
  have F_law_shuffled := fun_mk (st := s__law_shuffled) l_law_shuffled c_law_shuffled k_law_shuffled
  have F_law_name := fun_mk (st := s__law_name) l_law_name c_law_name k_law_name
  have F_law_names := fun_mk (st := s__law_names) l_law_names c_law_names k_law_names
  have F_law_same := fun_mk (st := s__law_same) l_law_same c_law_same k_law_same
  have F_law_is_name := fun_mk (st := s__law_is_name) l_law_is_name c_law_is_name k_law_is_name
  have F_law_calls := fun_mk (st := s__law_calls) l_law_calls c_law_calls k_law_calls
  have F_law_some_word := fun_mk (st := s__law_some_word) l_law_some_word c_law_some_word k_law_some_word
  have F_law_odd_name := fun_mk (st := s__law_odd_name) l_law_odd_name c_law_odd_name k_law_odd_name
  have F_law_before := fun_mk (st := s__law_before) l_law_before c_law_before k_law_before
  have F_law_bent_words := fun_mk (st := s__law_bent_words) l_law_bent_words c_law_bent_words k_law_bent_words
  have F_law_first_wrong := fun_mk (st := s__law_first_wrong) l_law_first_wrong c_law_first_wrong k_law_first_wrong
  have F_law_is_word := fun_mk (st := s__law_is_word) l_law_is_word c_law_is_word k_law_is_word
  have F_law_why := fun_mk (st := s__law_why) l_law_why c_law_why k_law_why
  have Flaw := funC_mk (st := s_law) llaw claw
  refine ⟨cs, ⟨by rw [hcs]; simp only [List.map_cons, List.map_nil, tablaw], by rw [hcs]; simp only [List.forall_mem_cons, List.not_mem_nil, false_implies, implies_true, nPlaw, and_self]⟩, PySem.W.fnOf "law" "law" (defArgs s_law) (defBody s_law) (defScope s_law) .none kVlaw dclaw pmlaw anlaw (.ref ctlaw_) ctlaw, fun s v => .of_eq rfl, fun base _ _ TB => ?_⟩
  have T : Txt l.prog w K mg base (clK K cs) := {
    kb := kbB_ok hkb,
    sf := fun C f e => sfB_ok hsf (okf_mem e),
    ex := fun hd C b e => exmB_ok hexm (exT_mem e),
    b_all := PySem.W.mg_none_of X G zall,
    b_bool := PySem.W.mg_none_of X G zbool,
    b_enumerate := PySem.W.mg_none_of X G zenumerate,
    b_int := PySem.W.mg_none_of X G zint,
    b_isinstance := PySem.W.mg_none_of X G zisinstance,
    b_len := PySem.W.mg_none_of X G zlen,
    b_list := PySem.W.mg_none_of X G zlist,
    b_range := PySem.W.mg_none_of X G zrange,
    b_repr := PySem.W.mg_none_of X G zrepr,
    b_sorted := PySem.W.mg_none_of X G zsorted,
    b_str := PySem.W.mg_none_of X G zstr,
    b_tuple := PySem.W.mg_none_of X G ztuple,
    b_zip := PySem.W.mg_none_of X G zzip,
    m_BadNumber := mgA X G aBadNumber,
    m_BadRow := mgA X G aBadRow,
    m_BadText := mgA X G aBadText,
    m_NoName := mgA X G aNoName,
    m_TooMany := mgA X G aTooMany,
    m_Unlike := mgA X G aUnlike,
    m_is_name := mgA X G ais_name,
    c_EMPTY := gc_str (PySem.W.mg_of X G gEMPTY),
    c_FIGURES := gc_str (PySem.W.mg_of X G gFIGURES),
    c_LETTERS := gc_str (PySem.W.mg_of X G gLETTERS),
    f_at := fldB_ok hfld (by decide +kernel),
    f_line := fldB_ok hfld (by decide +kernel),
    f_rows := fldB_ok hfld (by decide +kernel),
    x_BadText := xm_BadText FXBadText (xB_ok (C := "BadText") (fs := ["line", "word"]) hx (by decide +kernel)).1 (mgA X G aBadText) iXBadText tXBadText ((xB_ok (C := "BadText") (fs := ["line", "word"]) hx (by decide +kernel)).2 "line" (by decide +kernel)) ((xB_ok (C := "BadText") (fs := ["line", "word"]) hx (by decide +kernel)).2 "word" (by decide +kernel)) }
  have TP : Wx.Txt l.prog w K mg base (adOf K) := {
    b_int := PySem.W.mg_none_of X G zint,
    b_len := PySem.W.mg_none_of X G zlen,
    b_list := PySem.W.mg_none_of X G zlist }
  have C__law_draw : Callee false l.prog w K mg base 1 "_law_draw" ["pen", "many"] (spW (clK K cs) sp__law_draw) := ⟨_, _, ok_draw TP F_law_draw, PySem.W.mg_of X G a_law_draw, k_law_draw, F_law_draw.binds fun _ _ _ _ _ _ us hl => match us, hl with | [_, _], _ => rfl⟩
  have C__law_pen : Callee false l.prog w K mg base 1 "_law_pen" ["script"] (spW (clK K cs) sp__law_pen) := ⟨_, _, ok_pen TP F_law_pen, PySem.W.mg_of X G a_law_pen, k_law_pen, F_law_pen.binds fun _ _ _ _ _ _ us hl => match us, hl with | [_], _ => rfl⟩
  have C_is_name : Callee false l.prog w K mg base 1 "is_name" ["value"] (spW (clK K cs) (sp_is_name)) := ⟨_, _, ok_is_name T Fis_name, PySem.W.mg_of X G ais_name, kis_name, Fis_name.binds fun _ _ _ _ _ _ us hl => match us, hl with | [_], _ => rfl⟩
  have C_is_word : Callee false l.prog w K mg base 2 "is_word" ["value"] (spW (clK K cs) (sp_is_word)) := ⟨_, _, ok_is_word T C_is_name Fis_word, PySem.W.mg_of X G ais_word, kis_word, Fis_word.binds fun _ _ _ _ _ _ us hl => match us, hl with | [_], _ => rfl⟩
  have C_length_first : Callee false l.prog w K mg base 1 "length_first" ["word"] (spW (clK K cs) (sp_length_first)) := ⟨_, _, ok_length_first T Flength_first, PySem.W.mg_of X G alength_first, klength_first, Flength_first.binds fun _ _ _ _ _ _ us hl => match us, hl with | [_], _ => rfl⟩
  have C_is_before : Callee false l.prog w K mg base 2 "is_before" ["word", "other"] (spW (clK K cs) (sp_is_before)) := ⟨_, _, ok_is_before T C_length_first Fis_before, PySem.W.mg_of X G ais_before, kis_before, Fis_before.binds fun _ _ _ _ _ _ us hl => match us, hl with | [_, _], _ => rfl⟩
  have C_word_text : Callee false l.prog w K mg base 1 "word_text" ["word"] (spW (clK K cs) (sp_word_text)) := ⟨_, _, ok_word_text T Fword_text, PySem.W.mg_of X G aword_text, kword_text, Fword_text.binds fun _ _ _ _ _ _ us hl => match us, hl with | [_], _ => rfl⟩
  have C_rows_of : Callee false l.prog w K mg base 3 "rows_of" ["text"] (spW (clK K cs) (sp_rows_of)) := ⟨_, _, ok_rows_of T Frows_of, PySem.W.mg_of X G arows_of, krows_of, Frows_of.binds fun _ _ _ _ _ _ us hl => match us, hl with | [_], _ => rfl⟩
  have K_Cursor : CMk l.prog w K mg base 1 "Cursor" (adOf K "Cursor") (spWM (clK K cs) "Cursor" (sp_Cursor_init)) := ⟨mgA X G aCursor, _, _, _, ⟨mkCursor, iCursor_init, sCursor_init, kpCursor⟩, (ok_Cursor_init T FCursor_init).ok, FCursor_init.binds fun _ _ _ _ _ _ us hl => match us, hl with | [_, _], _ => rfl⟩
  have M_Cursor_seen : CMt false l.prog w K mg base 1 (adOf K "Cursor") "seen" (spWM (clK K cs) "Cursor" (sp_Cursor_seen)) := ⟨clsB_ok (List.all_eq_true.mp hcls "Cursor" (by decide +kernel)), _, _, _, ⟨iCursor_seen, sCursor_seen, kCursor_seen⟩, ok_Cursor_seen T FCursor_seen, FCursor_seen.binds fun _ _ _ _ _ _ us hl => match us, hl with | [_], _ => rfl⟩
  have M_Cursor_refuse : CMt false l.prog w K mg base 3 (adOf K "Cursor") "refuse" (spWM (clK K cs) "Cursor" (sp_Cursor_refuse)) := ⟨clsB_ok (List.all_eq_true.mp hcls "Cursor" (by decide +kernel)), _, _, _, ⟨iCursor_refuse, sCursor_refuse, kCursor_refuse⟩, ok_Cursor_refuse T FCursor_refuse, FCursor_refuse.binds fun _ _ _ _ _ _ us hl => match us, hl with | [_], _ => rfl⟩
  have M_Cursor_take : CMt false l.prog w K mg base 4 (adOf K "Cursor") "take" (spWM (clK K cs) "Cursor" (sp_Cursor_take)) := ⟨clsB_ok (List.all_eq_true.mp hcls "Cursor" (by decide +kernel)), _, _, _, ⟨iCursor_take, sCursor_take, kCursor_take⟩, ok_Cursor_take T C_is_name M_Cursor_refuse M_Cursor_seen FCursor_take, FCursor_take.binds fun _ _ _ _ _ _ us hl => match us, hl with | [_, _], _ => rfl⟩
  have M_Cursor_goes_on : CMt false l.prog w K mg base 4 (adOf K "Cursor") "goes_on" (spWM (clK K cs) "Cursor" (sp_Cursor_goes_on)) := ⟨clsB_ok (List.all_eq_true.mp hcls "Cursor" (by decide +kernel)), _, _, _, ⟨iCursor_goes_on, sCursor_goes_on, kCursor_goes_on⟩, ok_Cursor_goes_on T M_Cursor_refuse M_Cursor_seen FCursor_goes_on, FCursor_goes_on.binds fun _ _ _ _ _ _ us hl => match us, hl with | [_, _, _], _ => rfl⟩
  have C_word_read : Callee false l.prog w K mg base 5 "word_read" ["text"] (spW (clK K cs) (sp_word_read)) := ⟨_, _, ok_word_read T C_rows_of K_Cursor M_Cursor_goes_on M_Cursor_seen M_Cursor_take Fword_read, PySem.W.mg_of X G aword_read, kword_read, Fword_read.binds fun _ _ _ _ _ _ us hl => match us, hl with | [_], _ => rfl⟩
  have C__law_pick : Callee false l.prog w K mg base 2 "_law_pick" ["pen", "some"] (spW (clK K cs) (sp__law_pick)) := ⟨_, _, ok__law_pick T C__law_draw F_law_pick, PySem.W.mg_of X G a_law_pick, k_law_pick, F_law_pick.binds fun _ _ _ _ _ _ us hl => match us, hl with | [_, _], _ => rfl⟩
  have C__law_shuffled : Callee false l.prog w K mg base 2 "_law_shuffled" ["pen", "some"] (spW (clK K cs) (sp__law_shuffled)) := ⟨_, _, ok__law_shuffled T C__law_draw F_law_shuffled, PySem.W.mg_of X G a_law_shuffled, k_law_shuffled, F_law_shuffled.binds fun _ _ _ _ _ _ us hl => match us, hl with | [_, _], _ => rfl⟩
  have C__law_name : Callee false l.prog w K mg base 2 "_law_name" ["pen", "index"] (spW (clK K cs) (sp__law_name)) := ⟨_, _, ok__law_name T C__law_draw F_law_name, PySem.W.mg_of X G a_law_name, k_law_name, F_law_name.binds fun _ _ _ _ _ _ us hl => match us, hl with | [_, _], _ => rfl⟩
  have C__law_names : Callee false l.prog w K mg base 3 "_law_names" ["pen", "many"] (spW (clK K cs) (sp__law_names)) := ⟨_, _, ok__law_names T C__law_name C__law_shuffled F_law_names, PySem.W.mg_of X G a_law_names, k_law_names, F_law_names.binds fun _ _ _ _ _ _ us hl => match us, hl with | [_, _], _ => rfl⟩
  have R__law_same : Callee false l.prog w K mg base 0 "_law_same" ["told", "due"] (spW (clK K cs) sp_none) := ⟨_, _, fn_none, PySem.W.mg_of X G a_law_same, k_law_same, F_law_same.binds fun _ _ _ _ _ _ us hl => match us, hl with | [_, _], _ => rfl⟩
  have C__law_same : Callee false l.prog w K mg base 2 "_law_same" ["told", "due"] (spW (clK K cs) (sp__law_same)) := ⟨_, _, ok__law_same T R__law_same F_law_same, PySem.W.mg_of X G a_law_same, k_law_same, F_law_same.binds fun _ _ _ _ _ _ us hl => match us, hl with | [_, _], _ => rfl⟩
  have C__law_is_name : Callee false l.prog w K mg base 1 "_law_is_name" ["value"] (spW (clK K cs) (sp__law_is_name)) := ⟨_, _, ok__law_is_name T F_law_is_name, PySem.W.mg_of X G a_law_is_name, k_law_is_name, F_law_is_name.binds fun _ _ _ _ _ _ us hl => match us, hl with | [_], _ => rfl⟩
  have C__law_calls : Callee false l.prog w K mg base 4 "_law_calls" ["pen", "many"] (spW (clK K cs) (sp__law_calls)) := ⟨_, _, ok__law_calls T C__law_names F_law_calls, PySem.W.mg_of X G a_law_calls, k_law_calls, F_law_calls.binds fun _ _ _ _ _ _ us hl => match us, hl with | [_, _], _ => rfl⟩
  have C__law_some_word : Callee false l.prog w K mg base 3 "_law_some_word" ["pen", "calls", "most"] (spW (clK K cs) (sp__law_some_word)) := ⟨_, _, ok__law_some_word T C__law_draw C__law_pick F_law_some_word, PySem.W.mg_of X G a_law_some_word, k_law_some_word, F_law_some_word.binds fun _ _ _ _ _ _ us hl => match us, hl with | [_, _, _], _ => rfl⟩
  have C__law_odd_name : Callee false l.prog w K mg base 3 "_law_odd_name" ["pen", "name"] (spW (clK K cs) (sp__law_odd_name)) := ⟨_, _, ok__law_odd_name T C__law_pick F_law_odd_name, PySem.W.mg_of X G a_law_odd_name, k_law_odd_name, F_law_odd_name.binds fun _ _ _ _ _ _ us hl => match us, hl with | [_, _], _ => rfl⟩
  have C__law_before : Callee false l.prog w K mg base 1 "_law_before" ["word"] (spW (clK K cs) (sp__law_before)) := ⟨_, _, ok__law_before T F_law_before, PySem.W.mg_of X G a_law_before, k_law_before, F_law_before.binds fun _ _ _ _ _ _ us hl => match us, hl with | [_], _ => rfl⟩
  have C__law_bent_words : Callee false l.prog w K mg base 3 "_law_bent_words" ["pen", "words", "more"] (spW (clK K cs) (sp__law_bent_words)) := ⟨_, _, ok__law_bent_words T C__law_draw C__law_pick F_law_bent_words, PySem.W.mg_of X G a_law_bent_words, k_law_bent_words, F_law_bent_words.binds fun _ _ _ _ _ _ us hl => match us, hl with | [_, _, _], _ => rfl⟩
  have C__law_first_wrong : Callee false l.prog w K mg base 2 "_law_first_wrong" ["text"] (spW (clK K cs) (sp__law_first_wrong)) := ⟨_, _, ok__law_first_wrong T C__law_is_name F_law_first_wrong, PySem.W.mg_of X G a_law_first_wrong, k_law_first_wrong, F_law_first_wrong.binds fun _ _ _ _ _ _ us hl => match us, hl with | [_], _ => rfl⟩
  have C__law_is_word : Callee false l.prog w K mg base 2 "_law_is_word" ["value"] (spW (clK K cs) (sp__law_is_word)) := ⟨_, _, ok__law_is_word T C__law_is_name F_law_is_word, PySem.W.mg_of X G a_law_is_word, k_law_is_word, F_law_is_word.binds fun _ _ _ _ _ _ us hl => match us, hl with | [_], _ => rfl⟩
  have W__law_why := w__law_why (P := l.prog) (w := w) T F_law_why (PySem.W.mg_of X G a_law_why)
  have LA : LamAt (clK K cs) base mg (.ref ctlaw_) ((("law" : Str) ++ (".<locals>." : Str)) ++ ("<lambda>" : Str)) := by
    subst hcs
    exact lamAt_mk (t := ⟨ctlaw_, tPlaw_, "law.<locals>.<lambda>"⟩) List.mem_cons_self (show ("law.<locals>.<lambda>" : Str) = _ by decide +kernel) (fun u hu _ => by rw [List.mem_singleton.mp hu]; exact (show ("law.<locals>.<lambda>" : Str) = _ by decide +kernel)) TB
  exact fnD_c Flaw sc_law (fun ds n Q X ⟨e, _⟩ => by rw [e]; rfl) (d_law T LA C__law_before C__law_bent_words C__law_calls C__law_draw C__law_first_wrong C__law_is_name C__law_is_word C__law_odd_name C__law_pen C__law_pick C__law_same C__law_some_word C_is_before C_is_name C_is_word C_word_read C_word_text W__law_why) rd_law
end Dx

set_option Elab.async false
open PySem PySem.W PyProof.Rows in
set_option maxRecDepth 100000 in
set_option maxHeartbeats 0 in
theorem PySem.Challenge.cw_unseendeeds_k02_names_and_words_holds : PySem.Challenge.rw_unseendeeds_k02_names_and_words.Holds := by
  w_on; o_law; k_head; (case hw => w_witness2)
  k_fill
  refine Dx.walkGD (l := PySem.Challenge.rw_unseendeeds_k02_names_and_words) (n := 63) (k := 8) (x := "script") (xs := ["law"]) rfl (by decide) rfl ⟨rfl, by decide, by decide⟩ (by decide +kernel) (fun w h Y => PySem.W.km_in_of Y) ?nl ?F
  case nl => intro w; exact (by kernel_rfl)
  case F =>
    intro w mg fa h KX G hmg
    refine' Dx.all_mk KX G hmg ?aCursor ?aBadNumber ?aBadRow ?aBadText ?aNoName ?aTooMany ?aUnlike ?iXBadText ?lXBadText ?cXBadText ?kXBadText ?tXBadText ?a_law_pen ?l_law_pen ?c_law_pen ?k_law_pen ?a_law_draw ?l_law_draw ?c_law_draw ?k_law_draw ?ais_name ?lis_name ?cis_name ?kis_name ?ais_word ?lis_word ?cis_word ?kis_word ?alength_first ?llength_first ?clength_first ?klength_first ?ais_before ?lis_before ?cis_before ?kis_before ?aword_text ?lword_text ?cword_text ?kword_text ?arows_of ?lrows_of ?crows_of ?krows_of ?iCursor_init ?lCursor_init ?cCursor_init ?kCursor_init ?sCursor_init ?iCursor_seen ?lCursor_seen ?cCursor_seen ?kCursor_seen ?sCursor_seen ?iCursor_refuse ?lCursor_refuse ?cCursor_refuse ?kCursor_refuse ?sCursor_refuse ?iCursor_take ?lCursor_take ?cCursor_take ?kCursor_take ?sCursor_take ?iCursor_goes_on ?lCursor_goes_on ?cCursor_goes_on ?kCursor_goes_on ?sCursor_goes_on ?aword_read ?lword_read ?cword_read ?kword_read ?a_law_pick ?l_law_pick ?c_law_pick ?k_law_pick ?a_law_shuffled ?l_law_shuffled ?c_law_shuffled ?k_law_shuffled ?a_law_name ?l_law_name ?c_law_name ?k_law_name ?a_law_names ?l_law_names ?c_law_names ?k_law_names ?a_law_same ?l_law_same ?c_law_same ?k_law_same ?a_law_is_name ?l_law_is_name ?c_law_is_name ?k_law_is_name ?a_law_calls ?l_law_calls ?c_law_calls ?k_law_calls ?a_law_some_word ?l_law_some_word ?c_law_some_word ?k_law_some_word ?a_law_odd_name ?l_law_odd_name ?c_law_odd_name ?k_law_odd_name ?a_law_before ?l_law_before ?c_law_before ?k_law_before ?a_law_bent_words ?l_law_bent_words ?c_law_bent_words ?k_law_bent_words ?a_law_first_wrong ?l_law_first_wrong ?c_law_first_wrong ?k_law_first_wrong ?a_law_is_word ?l_law_is_word ?c_law_is_word ?k_law_is_word ?a_law_why ?l_law_why ?c_law_why ?k_law_why ?alaw ?llaw ?claw ?klaw ?ltlaw ?hvlaw ?nPlaw ?mkCursor ?kpCursor ?gEMPTY ?gFIGURES ?gLETTERS ?zall ?zbool ?zenumerate ?zint ?zisinstance ?zlen ?zlist ?zrange ?zrepr ?zsorted ?zstr ?ztuple ?zzip ?hchk
    (case aCursor => k_is)
    (case aBadNumber => k_is)
    (case aBadRow => k_is)
    (case aBadText => k_is)
    (case aNoName => k_is)
    (case aTooMany => k_is)
    (case aUnlike => k_is)
    (case iXBadText => k_is)
    (case lXBadText => k_is)
    (case cXBadText => k_is)
    (case kXBadText => k_is)
    (case tXBadText => k_is)
    (case a_law_pen => k_is)
    (case l_law_pen => k_is)
    (case c_law_pen => k_is)
    (case k_law_pen => k_is)
    (case a_law_draw => k_is)
    (case l_law_draw => k_is)
    (case c_law_draw => k_is)
    (case k_law_draw => k_is)
    (case ais_name => k_is)
    (case lis_name => k_is)
    (case cis_name => k_is)
    (case kis_name => k_is)
    (case ais_word => k_is)
    (case lis_word => k_is)
    (case cis_word => k_is)
    (case kis_word => k_is)
    (case alength_first => k_is)
    (case llength_first => k_is)
    (case clength_first => k_is)
    (case klength_first => k_is)
    (case ais_before => k_is)
    (case lis_before => k_is)
    (case cis_before => k_is)
    (case kis_before => k_is)
    (case aword_text => k_is)
    (case lword_text => k_is)
    (case cword_text => k_is)
    (case kword_text => k_is)
    (case arows_of => k_is)
    (case lrows_of => k_is)
    (case crows_of => k_is)
    (case krows_of => k_is)
    (case iCursor_init => k_is)
    (case lCursor_init => k_is)
    (case cCursor_init => k_is)
    (case kCursor_init => k_is)
    (case sCursor_init => k_is)
    (case iCursor_seen => k_is)
    (case lCursor_seen => k_is)
    (case cCursor_seen => k_is)
    (case kCursor_seen => k_is)
    (case sCursor_seen => k_is)
    (case iCursor_refuse => k_is)
    (case lCursor_refuse => k_is)
    (case cCursor_refuse => k_is)
    (case kCursor_refuse => k_is)
    (case sCursor_refuse => k_is)
    (case iCursor_take => k_is)
    (case lCursor_take => k_is)
    (case cCursor_take => k_is)
    (case kCursor_take => k_is)
    (case sCursor_take => k_is)
    (case iCursor_goes_on => k_is)
    (case lCursor_goes_on => k_is)
    (case cCursor_goes_on => k_is)
    (case kCursor_goes_on => k_is)
    (case sCursor_goes_on => k_is)
    (case aword_read => k_is)
    (case lword_read => k_is)
    (case cword_read => k_is)
    (case kword_read => k_is)
    (case a_law_pick => k_is)
    (case l_law_pick => k_is)
    (case c_law_pick => k_is)
    (case k_law_pick => k_is)
    (case a_law_shuffled => k_is)
    (case l_law_shuffled => k_is)
    (case c_law_shuffled => k_is)
    (case k_law_shuffled => k_is)
    (case a_law_name => k_is)
    (case l_law_name => k_is)
    (case c_law_name => k_is)
    (case k_law_name => k_is)
    (case a_law_names => k_is)
    (case l_law_names => k_is)
    (case c_law_names => k_is)
    (case k_law_names => k_is)
    (case a_law_same => k_is)
    (case l_law_same => k_is)
    (case c_law_same => k_is)
    (case k_law_same => k_is)
    (case a_law_is_name => k_is)
    (case l_law_is_name => k_is)
    (case c_law_is_name => k_is)
    (case k_law_is_name => k_is)
    (case a_law_calls => k_is)
    (case l_law_calls => k_is)
    (case c_law_calls => k_is)
    (case k_law_calls => k_is)
    (case a_law_some_word => k_is)
    (case l_law_some_word => k_is)
    (case c_law_some_word => k_is)
    (case k_law_some_word => k_is)
    (case a_law_odd_name => k_is)
    (case l_law_odd_name => k_is)
    (case c_law_odd_name => k_is)
    (case k_law_odd_name => k_is)
    (case a_law_before => k_is)
    (case l_law_before => k_is)
    (case c_law_before => k_is)
    (case k_law_before => k_is)
    (case a_law_bent_words => k_is)
    (case l_law_bent_words => k_is)
    (case c_law_bent_words => k_is)
    (case k_law_bent_words => k_is)
    (case a_law_first_wrong => k_is)
    (case l_law_first_wrong => k_is)
    (case c_law_first_wrong => k_is)
    (case k_law_first_wrong => k_is)
    (case a_law_is_word => k_is)
    (case l_law_is_word => k_is)
    (case c_law_is_word => k_is)
    (case k_law_is_word => k_is)
    (case a_law_why => k_is)
    (case l_law_why => k_is)
    (case c_law_why => k_is)
    (case k_law_why => k_is)
    (case alaw => k_is)
    (case llaw => k_is)
    (case claw => k_is)
    (case klaw => k_is)
    (case ltlaw => k_is)
    (case hvlaw => exact rfl)
    (case nPlaw => kernel_rfl)
    (case mkCursor => k_is)
    (case kpCursor => k_is)
    (case gEMPTY => k_is)
    (case gFIGURES => k_is)
    (case gLETTERS => k_is)
    (case zall => k_is)
    (case zbool => k_is)
    (case zenumerate => k_is)
    (case zint => k_is)
    (case zisinstance => k_is)
    (case zlen => k_is)
    (case zlist => k_is)
    (case zrange => k_is)
    (case zrepr => k_is)
    (case zsorted => k_is)
    (case zstr => k_is)
    (case ztuple => k_is)
    (case zzip => k_is)
    (case hchk => kernel_rfl)

