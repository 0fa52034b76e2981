import PyProof.Rows.All
import Wide.All
import OpenK.AllK
import Wide.FinOn
import HandS.ForMost
import HandS.ForExc
import HandS.Evl
import HandS.Flow
import HandS.Wide
import HandS.WideBits
import HandS.Gcd
import HandS.IsInst
import HandS.Defaults
import HandS.ExcOwn
import HandS.Head0
import HandS.Head1
import HandS.Head2
import HandS.Head3
import HandS.HeadEnd
import HandS.HeadHook1
import HandS.HeadHook2
import PySem.Challenge.RW_everyrain_k00_numbers
set_option Elab.async false
set_option linter.all false
set_option maxRecDepth 100000
set_option maxHeartbeats 2000000
/-! A small language of data over the hand layer: D (immutable data), slots, an evaluator; its soundness stands in the next part. -/
namespace VI
open PySem L2 Evl
/-- data: what a value is, all the way down -/
inductive D where
  | non
  | bl (b : Bool)
  | int (i : Int)
  | str (x : Str)
  | tup (ds : List D)
  | lst (ds : List D)
  | ins (c : Nat) (fs : List (Str × D))
/-! ### what a value stands for -/
mutual
inductive Rep (K : PySem.W.Frag) (cl : Nat → Addr) (H : Hp) : V → D → Prop
  | non : Rep K cl H .non .non
  | bl (b : Bool) : Rep K cl H (.bl b) (.bl b)
  | int (i : Int) : Rep K cl H (.int i) (.int i)
  | str (x : Str) : Rep K cl H (.str x) (.str x)
  | tup {a : Addr} {xs : List V} {ds : List D} : SqT K H a xs → Reps K cl H xs ds → Rep K cl H (.ref a) (.tup ds)
  | lst {a : Addr} {xs : List V} {ds : List D} : SqL K H a xs → Reps K cl H xs ds → Rep K cl H (.ref a) (.lst ds)
  | ins {a : Addr} {c : Nat} {dx : Addr} {fs : List (Str × V)} {gs : List (Str × D)} : H a = some (.ins (cl c) dx fs) → RepF K cl H fs gs → Rep K cl H (.ref a) (.ins c gs)
inductive Reps (K : PySem.W.Frag) (cl : Nat → Addr) (H : Hp) : List V → List D → Prop
  | nil : Reps K cl H [] []
  | cons {v : V} {vs : List V} {d : D} {ds : List D} : Rep K cl H v d → Reps K cl H vs ds → Reps K cl H (v :: vs) (d :: ds)
inductive RepF (K : PySem.W.Frag) (cl : Nat → Addr) (H : Hp) : List (Str × V) → List (Str × D) → Prop
  | nil : RepF K cl H [] []
  | cons {n : Str} {v : V} {vs : List (Str × V)} {d : D} {ds : List (Str × D)} : Rep K cl H v d → RepF K cl H vs ds → RepF K cl H ((n, v) :: vs) ((n, d) :: ds)
end
section
variable {K : PySem.W.Frag} {cl : Nat → Addr} {H H' : Hp}
mutual
theorem Rep.mono (e : Ex H H') : ∀ (d : D) (v : V), Rep K cl H v d → Rep K cl H' v d
  | .non, _, h => by cases h; exact .non
  | .bl b, _, h => by cases h; exact .bl b
  | .int b, _, h => by cases h; exact .int b
  | .str b, _, h => by cases h; exact .str b
  | .tup ds, _, h => by
    cases h with
    | tup h1 h2 => exact .tup (ex_t e h1) (Reps.mono e ds _ h2)
  | .lst ds, _, h => by
    cases h with
    | lst h1 h2 => exact .lst (ex_l e h1) (Reps.mono e ds _ h2)
  | .ins c gs, _, h => by
    cases h with
    | ins h1 h2 => exact .ins (e _ _ h1) (RepF.mono e gs _ h2)
theorem Reps.mono (e : Ex H H') : ∀ (ds : List D) (vs : List V), Reps K cl H vs ds → Reps K cl H' vs ds
  | [], _, h => by cases h; exact .nil
  | d :: ds, _, h => by
    cases h with
    | cons h1 h2 => exact .cons (Rep.mono e d _ h1) (Reps.mono e ds _ h2)
theorem RepF.mono (e : Ex H H') : ∀ (ds : List (Str × D)) (vs : List (Str × V)), RepF K cl H vs ds → RepF K cl H' vs ds
  | [], _, h => by cases h; exact .nil
  | (n, d) :: ds, _, h => by
    cases h with
    | cons h1 h2 => exact .cons (Rep.mono e d _ h1) (RepF.mono e ds _ h2)
end
theorem Reps.len : ∀ {vs : List V} {ds : List D}, Reps K cl H vs ds → vs.length = ds.length
  | _, _, .nil => rfl
  | _, _, .cons _ h => by rw [List.length_cons, List.length_cons, h.len]
theorem Reps.get : ∀ {vs : List V} {ds : List D} {i : Nat} {d : D}, Reps K cl H vs ds → ds[i]? = some d → ∃ v, vs[i]? = some v ∧ Rep K cl H v d
  | _, _, _, _, .nil, e => by simp at e
  | _, _, 0, _, .cons r _, e => by simp at e; subst e; exact ⟨_, rfl, r⟩
  | _, _, i + 1, _, .cons _ t, e => by
    obtain ⟨v, h1, h2⟩ := Reps.get (i := i) t (by simpa using e)
    exact ⟨v, by simpa using h1, h2⟩
theorem Reps.get' : ∀ {vs : List V} {ds : List D} {i : Nat} {v : V}, Reps K cl H vs ds → vs[i]? = some v → ∃ d, ds[i]? = some d ∧ Rep K cl H v d
  | _, _, _, _, .nil, e => by simp at e
  | _, _, 0, _, .cons r _, e => by simp at e; subst e; exact ⟨_, rfl, r⟩
  | _, _, i + 1, _, .cons _ t, e => by
    obtain ⟨v, h1, h2⟩ := Reps.get' (i := i) t (by simpa using e)
    exact ⟨v, by simpa using h1, h2⟩
theorem Reps.append : ∀ {vs ws : List V} {ds es : List D}, Reps K cl H vs ds → Reps K cl H ws es → Reps K cl H (vs ++ ws) (ds ++ es)
  | _, _, _, _, .nil, s => s
  | _, _, _, _, .cons r t, s => .cons r (Reps.append t s)
theorem Reps.snoc {vs : List V} {ds : List D} {v : V} {d : D} (h : Reps K cl H vs ds) (r : Rep K cl H v d) : Reps K cl H (vs ++ [v]) (ds ++ [d]) := h.append (.cons r .nil)
theorem Reps.dropLast : ∀ {vs : List V} {ds : List D}, Reps K cl H vs ds → Reps K cl H vs.dropLast ds.dropLast
  | _, _, .nil => .nil
  | _, _, .cons r .nil => .nil
  | _, _, .cons r (.cons r' t) => .cons r (Reps.dropLast (.cons r' t))
theorem Reps.reverse : ∀ {vs : List V} {ds : List D}, Reps K cl H vs ds → Reps K cl H vs.reverse ds.reverse
  | _, _, .nil => .nil
  | _, _, .cons r t => by
    rw [List.reverse_cons, List.reverse_cons]
    exact t.reverse.snoc r
theorem Reps.set : ∀ {vs : List V} {ds : List D} (i : Nat) {v : V} {d : D}, Reps K cl H vs ds → Rep K cl H v d → Reps K cl H (vs.set i v) (ds.set i d)
  | _, _, _, _, _, .nil, _ => .nil
  | _, _, 0, _, _, .cons _ t, r => .cons r t
  | _, _, i + 1, _, _, .cons r' t, r => .cons r' (Reps.set i t r)
theorem Reps.take : ∀ {vs : List V} {ds : List D} (n : Nat), Reps K cl H vs ds → Reps K cl H (vs.take n) (ds.take n)
  | _, _, 0, _ => .nil
  | _, _, _ + 1, .nil => .nil
  | _, _, n + 1, .cons r t => .cons r (Reps.take n t)
theorem Reps.drop : ∀ {vs : List V} {ds : List D} (n : Nat), Reps K cl H vs ds → Reps K cl H (vs.drop n) (ds.drop n)
  | _, _, 0, r => r
  | _, _, _ + 1, .nil => .nil
  | _, _, n + 1, .cons r t => Reps.drop n t
end
/-! ### slots -/
inductive Slot where
  | no
  /-- a value that nobody changes -/
  | v (d : D)
  /-- a list of our own -/
  | l (ds : List D)
abbrev Env := List Slot
def Env.at (ρ : Env) (i : Nat) : Slot := ρ.getD i .no
def sAt (σ : L2.St) (i : Nat) : Option V := (σ[i]?).join
structure Par where
  K : PySem.W.Frag
  cl : Nat → Addr
  /-- what must stay as it is -/
  B : Hp
  /-- what was data at the entry -/
  Hi0 : Hp
  /-- the parameters that are lists of the caller's own -/
  pin : List (Nat × Addr)
def SlotOk (P : Par) (Hi H : Hp) (ov : Option V) : Slot → List Addr → Prop
  | .no, A => A = []
  | .v d, A => A = [] ∧ ∃ v, ov = some v ∧ Rep P.K P.cl Hi v d
  | .l ds, A => ∃ a vs, A = [a] ∧ ov = some (.ref a) ∧ H a = some (.lst vs) ∧ Reps P.K P.cl Hi vs ds
structure RelA (P : Par) (io : List Nat) (Hi H : Hp) (σ : L2.St) (ρ : Env) (A : Nat → List Addr) : Prop where
  b : Ex P.B H
  i : Ex Hi H
  i0 : Ex P.Hi0 Hi
  fr : ∀ p, P.B p ≠ none → Hi p ≠ none → P.Hi0 p ≠ none
  len : σ.length = ρ.length
  sl : ∀ i, SlotOk P Hi H (sAt σ i) (ρ.at i) (A i)
  ow : ∀ i, ∀ a ∈ A i, Hi a = none ∧ P.B a = none
  nd : ∀ i, (A i).Nodup
  dj : ∀ i j, i ≠ j → ∀ a ∈ A i, a ∉ A j
  pn : ∀ p ∈ P.pin, sAt σ p.1 = some (.ref p.2) ∧ p.1 ∈ io
def Rel (P : Par) (io : List Nat) (Hi H : Hp) (σ : L2.St) (ρ : Env) : Prop := ∃ A, RelA P io Hi H σ ρ A
section
variable {P : Par} {io : List Nat} {Hi Hi' H H' : Hp} {σ : L2.St} {ρ : Env} {A : Nat → List Addr}
theorem SlotOk.mono {ov : Option V} {s : Slot} {l : List Addr} (e : Ex Hi Hi') (k : ∀ a ∈ l, ∀ o, H a = some o → H' a = some o) (h : SlotOk P Hi H ov s l) : SlotOk P Hi' H' ov s l := by
  cases s with
  | no => exact h
  | v d =>
    obtain ⟨h1, v, h2, h3⟩ := h
    exact ⟨h1, v, h2, h3.mono e⟩
  | l ds =>
    obtain ⟨a, vs, h1, h2, h3, h4⟩ := h
    subst h1
    exact ⟨a, vs, rfl, h2, k a (List.mem_singleton.mpr rfl) _ h3, h4.mono e⟩
/-- THE STEP: data grows, what is tracked and no data stays, none of it becomes data -/
theorem RelA.step (R : RelA P io Hi H σ ρ A) (e : Ex Hi Hi') (i' : Ex Hi' H') (k : ∀ a o, H a = some o → Hi a = none → H' a = some o) (z : ∀ a, H a ≠ none → Hi a = none → Hi' a = none) : RelA P io Hi' H' σ ρ A where
  b := fun a o h => by
    have h1 := R.b a o h
    cases q : Hi a with
    | none => exact k a o h1 q
    | some u =>
      have h2 := R.i a u q
      rw [h1] at h2
      rw [h2]
      exact i' a u (e a u q)
  i := i'
  i0 := fun a o h => e a o (R.i0 a o h)
  fr := fun p h1 h2 => by
    cases q : Hi p with
    | none =>
      have h3 : H p ≠ none := fun w => by
        cases q2 : P.B p with
        | none => exact h1 q2
        | some o =>
          rw [R.b p o q2] at w
          cases w
      exact absurd (z p h3 q) h2
    | some u => exact R.fr p h1 (by rw [q]; exact fun w => nomatch w)
  len := R.len
  sl := fun j => (R.sl j).mono e fun a ha o ho => k a o ho (R.ow j a ha).1
  ow := fun j a ha => by
    have h0 := R.ow j a ha
    refine ⟨z a ?_ h0.1, h0.2⟩
    have h1 := R.sl j
    cases q : ρ.at j with
    | no => rw [q] at h1; have h1' : A j = [] := h1; rw [h1'] at ha; cases ha
    | v d => rw [q] at h1; obtain ⟨h1', _⟩ := h1; rw [h1'] at ha; cases ha
    | l ds =>
      rw [q] at h1
      obtain ⟨b, vs, h1', _, h3, _⟩ := h1
      rw [h1'] at ha
      have e2 := List.mem_singleton.mp ha
      rw [e2, h3]
      exact fun w => nomatch w
  nd := R.nd
  dj := R.dj
  pn := R.pn
theorem Rel.step (R : Rel P io Hi H σ ρ) (e : Ex Hi Hi') (i' : Ex Hi' H') (k : ∀ a o, H a = some o → Hi a = none → H' a = some o) (z : ∀ a, H a ≠ none → Hi a = none → Hi' a = none) : Rel P io Hi' H' σ ρ := by
  obtain ⟨A, R⟩ := R
  exact ⟨A, R.step e i' k z⟩
theorem Rel.ex (R : Rel P io Hi H σ ρ) : Ex Hi H := by
  obtain ⟨A, R⟩ := R
  exact R.i
theorem Rel.hfree (R : Rel P io Hi H σ ρ) {p : Addr} (h : H p = none) : Hi p = none := fresh_back R.ex h
/-- a new thing that is data at once -/
theorem Rel.newD (R : Rel P io Hi H σ ρ) {p : Addr} {o : HO} (h : H p = none) : Rel P io (upd Hi p o) (upd H p o) σ ρ := by
  refine R.step (Ex.new (R.hfree h)) (fun a u e => ?_) (fun a u e n => ?_) (fun a n e => ?_)
  · by_cases q : a = p
    · subst q; rw [upd_same] at e ⊢; exact e
    · rw [upd_ne q] at e ⊢; exact R.ex a u e
  · rw [upd_ne (ne_of_none e h)]; exact e
  · rw [upd_ne]
    · exact e
    · intro q; subst q; exact n h
/-- a new thing of our own -/
theorem Rel.newO (R : Rel P io Hi H σ ρ) {p : Addr} {o : HO} (h : H p = none) : Rel P io Hi (upd H p o) σ ρ :=
  R.step (Ex.refl _) (fun a u e => Ex.new h a u (R.ex a u e)) (fun a u e n => Ex.new h a u e) (fun _ _ e => e)
theorem sAt_set {σ : L2.St} {i j : Nat} {x : Option V} (hi : i < σ.length) : sAt (σ.set i x) j = if j = i then x else sAt σ j := by
  unfold sAt
  by_cases e : j = i
  · subst e
    rw [if_pos rfl, List.getElem?_set_self hi]
    cases x <;> rfl
  · rw [if_neg e, List.getElem?_set_ne (Ne.symm e)]
theorem at_set {ρ : Env} {i j : Nat} {x : Slot} (hi : i < ρ.length) : Env.at (ρ.set i x) j = if j = i then x else ρ.at j := by
  unfold Env.at
  by_cases e : j = i
  · subst e
    rw [if_pos rfl, List.getD_eq_getElem?_getD, List.getElem?_set_self hi]
    rfl
  · rw [if_neg e, List.getD_eq_getElem?_getD, List.getD_eq_getElem?_getD, List.getElem?_set_ne (Ne.symm e)]
/-- a slot is stored: data -/
theorem Rel.setV (R : Rel P io Hi H σ ρ) {i : Nat} {v : V} {d : D} (hi : i < σ.length) (hn : i ∉ io) (r : Rep P.K P.cl Hi v d) : Rel P io Hi H (σ.set i (some v)) (ρ.set i (.v d)) := by
  obtain ⟨A, R⟩ := R
  have hi' : i < ρ.length := by rw [← R.len]; exact hi
  refine ⟨fun j => if j = i then [] else A j, R.b, R.i, R.i0, R.fr, by rw [List.length_set, List.length_set]; exact R.len, fun j => ?_, fun j a ha => ?_, fun j => ?_, fun j k hjk a ha => ?_, fun p hp => ?_⟩
  · rw [sAt_set hi, at_set hi']
    by_cases e : j = i
    · rw [if_pos e, if_pos e, if_pos e]; exact ⟨rfl, v, rfl, r⟩
    · rw [if_neg e, if_neg e, if_neg e]; exact R.sl j
  · skip
    by_cases e : j = i
    · rw [if_pos e] at ha; cases ha
    · rw [if_neg e] at ha; exact R.ow j a ha
  · skip
    by_cases e : j = i
    · rw [if_pos e]; exact List.nodup_nil
    · rw [if_neg e]; exact R.nd j
  · skip
    by_cases e : j = i
    · rw [if_pos e] at ha; cases ha
    · rw [if_neg e] at ha
      by_cases e' : k = i
      · rw [if_pos e']; exact List.not_mem_nil
      · rw [if_neg e']; exact R.dj j k hjk a ha
  · obtain ⟨h1, h2⟩ := R.pn p hp
    refine ⟨?_, h2⟩
    rw [sAt_set hi, if_neg]
    · exact h1
    · intro e; rw [e] at h2; exact hn h2
/-- .. a list of our own, at an address that is no slot's -/
theorem RelA.setL (R : RelA P io Hi H σ ρ A) {i : Nat} {a : Addr} {vs : List V} {ds : List D} (hi : i < σ.length) (hn : i ∉ io) (ho : H a = some (.lst vs)) (hz : Hi a = none) (hb : P.B a = none) (hf : ∀ j, a ∉ A j) (r : Reps P.K P.cl Hi vs ds) :
    Rel P io Hi H (σ.set i (some (.ref a))) (ρ.set i (.l ds)) := by
  have hi' : i < ρ.length := by rw [← R.len]; exact hi
  refine ⟨fun j => if j = i then [a] else A j, R.b, R.i, R.i0, R.fr, by rw [List.length_set, List.length_set]; exact R.len, fun j => ?_, fun j b ha => ?_, fun j => ?_, fun j k hjk b ha => ?_, fun p hp => ?_⟩
  · rw [sAt_set hi, at_set hi']
    by_cases e : j = i
    · rw [if_pos e, if_pos e, if_pos e]; exact ⟨a, vs, rfl, rfl, ho, r⟩
    · rw [if_neg e, if_neg e, if_neg e]; exact R.sl j
  · skip
    by_cases e : j = i
    · rw [if_pos e] at ha
      have e2 := List.mem_singleton.mp ha
      rw [e2]; exact ⟨hz, hb⟩
    · rw [if_neg e] at ha; exact R.ow j b ha
  · skip
    by_cases e : j = i
    · rw [if_pos e]; exact List.nodup_cons.mpr ⟨List.not_mem_nil, List.nodup_nil⟩
    · rw [if_neg e]; exact R.nd j
  · skip
    by_cases e : j = i
    · rw [if_pos e] at ha
      have e2 := List.mem_singleton.mp ha
      have e' : ¬ k = i := fun q => hjk (e.trans q.symm)
      rw [if_neg e', e2]; exact hf k
    · rw [if_neg e] at ha
      by_cases e' : k = i
      · rw [if_pos e']
        intro q
        have e2 := List.mem_singleton.mp q
        rw [e2] at ha
        exact hf j ha
      · rw [if_neg e']; exact R.dj j k hjk b ha
  · obtain ⟨h1, h2⟩ := R.pn p hp
    refine ⟨?_, h2⟩
    rw [sAt_set hi, if_neg]
    · exact h1
    · intro e; rw [e] at h2; exact hn h2
/-- what a slot of our own is -/
theorem RelA.own (R : RelA P io Hi H σ ρ A) {i : Nat} {ds : List D} (h : ρ.at i = .l ds) : ∃ a vs, A i = [a] ∧ sAt σ i = some (.ref a) ∧ H a = some (.lst vs) ∧ Reps P.K P.cl Hi vs ds ∧ Hi a = none ∧ P.B a = none := by
  have h1 := R.sl i
  rw [h] at h1
  obtain ⟨a, vs, h2, h3, h4, h5⟩ := h1
  obtain ⟨h6, h7⟩ := R.ow i a (by rw [h2]; exact List.mem_singleton.mpr rfl)
  exact ⟨a, vs, h2, h3, h4, h5, h6, h7⟩
theorem Rel.val (R : Rel P io Hi H σ ρ) {i : Nat} {d : D} (h : ρ.at i = .v d) : ∃ v, σ[i]? = some (some v) ∧ Rep P.K P.cl Hi v d := by
  obtain ⟨A, R⟩ := R
  have h1 := R.sl i
  rw [h] at h1
  obtain ⟨_, v, h2, h3⟩ := h1
  refine ⟨v, ?_, h3⟩
  unfold sAt at h2
  cases q : σ[i]? with
  | none => rw [q] at h2; cases h2
  | some x =>
    rw [q] at h2
    have h2' : x = some v := h2
    rw [h2']
theorem sAt_some {σ : L2.St} {i : Nat} {v : V} (h : sAt σ i = some v) : σ[i]? = some (some v) := by
  unfold sAt at h
  cases q : σ[i]? with
  | none => rw [q] at h; cases h
  | some x =>
    rw [q] at h
    have h2' : x = some v := h
    rw [h2']
theorem at_lt {ρ : Env} {i : Nat} (h : ρ.at i ≠ .no) : i < ρ.length := by
  by_cases q : i < ρ.length
  · exact q
  · exfalso
    apply h
    unfold Env.at
    rw [List.getD_eq_getElem?_getD, List.getElem?_eq_none_iff.mpr (by omega)]
    rfl
/-- our own list is changed in place -/
theorem Rel.mutL (R : Rel P io Hi H σ ρ) {i : Nat} {ds ds' : List D} (h : ρ.at i = .l ds) : ∃ a vs, σ[i]? = some (some (.ref a)) ∧ H a = some (.lst vs) ∧ Reps P.K P.cl Hi vs ds ∧
    ∀ vs', Reps P.K P.cl Hi vs' ds' → Rel P io Hi (upd H a (.lst vs')) σ (ρ.set i (.l ds')) := by
  obtain ⟨A, R⟩ := R
  obtain ⟨a, vs, h1, h2, h3, h4, h5, h6⟩ := R.own h
  have hi' : i < ρ.length := at_lt (by rw [h]; exact fun w => nomatch w)
  refine ⟨a, vs, sAt_some h2, h3, h4, fun vs' r => ⟨A, ⟨fun b o e => ?_, fun b o e => ?_, R.i0, R.fr, by rw [List.length_set]; exact R.len, fun j => ?_, R.ow, R.nd, R.dj, R.pn⟩⟩⟩
  · rw [upd_ne]
    · exact R.b b o e
    · intro q; subst q; rw [h6] at e; cases e
  · rw [upd_ne]
    · exact R.i b o e
    · intro q; subst q; rw [h5] at e; cases e
  · rw [at_set hi']
    by_cases e : j = i
    · rw [if_pos e, e]
      exact ⟨a, vs', h1, h2, upd_same, r⟩
    · rw [if_neg e]
      refine (R.sl j).mono (Ex.refl _) fun b hb o ho => ?_
      rw [upd_ne]
      · exact ho
      · intro q
        subst q
        exact R.dj j i e b hb (by rw [h1]; exact List.mem_singleton.mpr rfl)
/-- our own list becomes data -/
theorem Rel.frz (R : Rel P io Hi H σ ρ) {i : Nat} {ds : List D} (h : ρ.at i = .l ds) : ∃ a vs, σ[i]? = some (some (.ref a)) ∧ H a = some (.lst vs) ∧ Hi a = none ∧ Reps P.K P.cl Hi vs ds ∧ Rel P io (upd Hi a (.lst vs)) H σ (ρ.set i (.v (.lst ds))) := by
  obtain ⟨A, R⟩ := R
  obtain ⟨a, vs, h1, h2, h3, h4, h5, h6⟩ := R.own h
  have hi' : i < ρ.length := at_lt (by rw [h]; exact fun w => nomatch w)
  have e0 : Ex Hi (upd Hi a (.lst vs)) := Ex.new h5
  have na : ∀ j b, j ≠ i → b ∈ A j → b ≠ a := fun j b hj hb q => by
    subst q
    exact R.dj j i hj b hb (by rw [h1]; exact List.mem_singleton.mpr rfl)
  refine ⟨a, vs, sAt_some h2, h3, h5, h4, fun j => if j = i then [] else A j, ⟨R.b, fun b o e => ?_, fun b o e => e0 b o (R.i0 b o e), fun p q1 q2 => ?_, by rw [List.length_set]; exact R.len, fun j => ?_, fun j b hb => ?_, fun j => ?_, fun j k hjk b hb => ?_, R.pn⟩⟩
  · by_cases q : b = a
    · subst q; rw [upd_same] at e; rw [h3]; exact e
    · rw [upd_ne q] at e; exact R.i b o e
  · by_cases q : p = a
    · subst q; exact absurd h6 q1
    · rw [upd_ne q] at q2; exact R.fr p q1 q2
  · rw [at_set hi']
    by_cases e : j = i
    · rw [if_pos e, if_pos e, e]
      exact ⟨rfl, .ref a, h2, .lst (.inl (.inl upd_same)) (h4.mono e0)⟩
    · rw [if_neg e, if_neg e]
      exact (R.sl j).mono e0 fun _ _ _ ho => ho
  · skip
    by_cases e : j = i
    · rw [if_pos e] at hb; cases hb
    · rw [if_neg e] at hb
      obtain ⟨x1, x2⟩ := R.ow j b hb
      exact ⟨by rw [upd_ne (na j b e hb)]; exact x1, x2⟩
  · skip
    by_cases e : j = i
    · rw [if_pos e]; exact List.nodup_nil
    · rw [if_neg e]; exact R.nd j
  · skip
    by_cases e : j = i
    · rw [if_pos e] at hb; cases hb
    · rw [if_neg e] at hb
      by_cases e' : k = i
      · rw [if_pos e']; exact List.not_mem_nil
      · rw [if_neg e']; exact R.dj j k hjk b hb
end
end VI
set_option maxHeartbeats 2000000
/-! The language: expressions, argument lists, list makers, statements; what they come to. -/
namespace VI
open PySem L2 Evl
inductive Ty where
  | int | bool | str | tuple | list
  deriving DecidableEq
def Ty.name : Ty → String
  | .int => "int" | .bool => "bool" | .str => "str" | .tuple => "tuple" | .list => "list"
inductive Op2 where
  | add | sub | mul | fdiv | mod | pow
  deriving DecidableEq
inductive Cm where
  | lt | le | gt | ge
  deriving DecidableEq
mutual
inductive E where
  | var (i : Nat)
  | cst (d : D)
  | tup (a : A)
  | bin (op : Op2) (a b : E)
  | neg (a : E)
  | cmp (op : Cm) (a b : E)
  | eqq (ne : Bool) (a b : E)
  | isN (ne : Bool) (a : E)
  | and (a b : E)
  | or (a b : E)
  | not (a : E)
  | ifx (c a b : E)
  | call (f : Nat) (a : A)
  | isT (a : E) (ts : List Ty)
  | len (a : E)
  | lenl (i : Nat)
  | abs (a : E)
  | int1 (a : E)
  | min2 (a b : E)
  | max2 (a b : E)
  | gcd (a b : E)
  | bits (a : E)
  | ix (a b : E)
  | pop (i : Nat)
  | tupOf (a : E)
  | ofL (l : L)
inductive A where
  | nil
  | cons (e : E) (r : A)
  | io (i : Nat) (r : A)
inductive L where
  | disp (a : A)
  | listOf (e : E)
  | callL (f : Nat) (a : A)
end
inductive S where
  | nil
  | seq (a b : S)
  | pass
  | asg (i : Nat) (e : E)
  | asgT (is : List Nat) (e : E)
  | par (i j : Nat) (a b : E)
  | newL (i : Nat) (l : L)
  | app (i : Nat) (e : E)
  | rev (i : Nat)
  | ite (c : E) (a b : S)
  | forV (i : Nat) (e : E) (b : S)
  | forR (i : Nat) (n : E) (b : S)
  | whl (c : E) (b : S)
  | ret (e : E)
  | retL (i : Nat)
  | brk
  | cnt
  | nev
inductive Out (α : Type) where
  | ok (d : α) (ρ : Env)
  | ex (c : Nat) (w : List D) (ρ : Env)
def bnd {α β : Type} (m : Option (Out α)) (f : α → Env → Option (Out β)) : Option (Out β) :=
  match m with
  | none => none
  | some (.ok d ρ) => f d ρ
  | some (.ex c w ρ) => some (.ex c w ρ)
inductive AV where
  | v (d : D)
  | io (i : Nat)
inductive FOut where
  | ret (r : Slot) (outs : List Slot)
  | ex (c : Nat) (w : List D) (outs : List Slot)
abbrev Gam := Nat → List Slot → Option FOut
def truthy : D → Option Bool
  | .non => some false
  | .bl b => some b
  | .int i => some (i != 0)
  | .str x => if x.length ≤ sizeLine then some ((x.length : Int) != 0) else none
  | .tup ds => some (!ds.isEmpty)
  | .lst ds => some (!ds.isEmpty)
  | .ins _ _ => none
def okMul (i j : Int) : Bool := decide (i.natAbs.log2 + j.natAbs.log2 < 1000000) || decide ((-(2 ^ 64) < i ∧ i < 2 ^ 64) ∨ (-(2 ^ 64) < j ∧ j < 2 ^ 64))
def okDiv (j : Int) : Bool := decide (0 < j ∧ j.natAbs.log2 < 9000)
def okPow (i j : Int) : Bool := decide (0 ≤ j ∧ j ≤ 1000000 ∧ i.natAbs < 2 ^ 64)
def binD : Op2 → D → D → Option D
  | .add, .int i, .int j => some (.int (i + j))
  | .sub, .int i, .int j => some (.int (i - j))
  | .mul, .int i, .int j => if okMul i j = true then some (.int (i * j)) else none
  | .fdiv, .int i, .int j => if okDiv j = true then some (.int (i / j)) else none
  | .mod, .int i, .int j => if 0 < j then some (.int (i % j)) else none
  | .pow, .int i, .int j => if okPow i j = true then some (.int (i ^ j.toNat)) else none
  | _, _, _ => none
def cmpD : Cm → Int → Int → Bool
  | .lt, i, j => decide (i < j)
  | .le, i, j => decide (i ≤ j)
  | .gt, i, j => decide (j < i)
  | .ge, i, j => decide (j ≤ i)
mutual
def toPy : D → Option PyData
  | .non => some .none
  | .bl b => some (.bool b)
  | .int i => some (.int i)
  | .str x => some (.str x)
  | .tup ds => (toPys ds).map .tuple
  | .lst ds => (toPys ds).map .list
  | .ins _ _ => none
def toPys : List D → Option (List PyData)
  | [] => some []
  | d :: ds => (toPy d).bind fun p => (toPys ds).map fun ps => p :: ps
end
def eqD (a b : D) : Option Bool :=
  (toPy a).bind fun p => (toPy b).bind fun q => if SeqAt.shaped p = true ∧ SeqAt.shaped q = true then some (PyData.eqv p q) else none
def tyOf : D → Option String
  | .non => some "NoneType"
  | .bl _ => some "bool"
  | .int _ => some "int"
  | .str _ => some "str"
  | .tup _ => some "tuple"
  | .lst _ => some "list"
  | .ins _ _ => none
def isTy (d : D) (t : Ty) : Bool := match d, t with
  | .bl _, .bool | .bl _, .int | .int _, .int | .str _, .str | .tup _, .tuple | .lst _, .list => true
  | _, _ => false
def isTyD (d : D) (ts : List Ty) : Option Bool := (tyOf d).map fun _ => ts.any fun t => isTy d t
def isNon : D → Bool
  | .non => true
  | _ => false
def vals : List AV → Option (List D)
  | [] => some []
  | .v d :: r => (vals r).map fun ds => d :: ds
  | .io _ :: _ => none
def slotsOf (ρ : Env) : List AV → List Slot
  | [] => []
  | .v d :: r => .v d :: slotsOf ρ r
  | .io i :: r => ρ.at i :: slotsOf ρ r
def iosOf : List AV → List Nat
  | [] => []
  | .v _ :: r => iosOf r
  | .io i :: r => i :: iosOf r
def isOwn : Slot → Bool
  | .l _ => true
  | _ => false
def isVal : Slot → Bool
  | .v _ => true
  | _ => false
def iosOk (ρ : Env) (avs : List AV) : Bool := decide (iosOf avs).Nodup && (iosOf avs).all fun i => isOwn (ρ.at i)
def putBack (ρ : Env) : List AV → List Slot → Env
  | .v _ :: r, _ :: o => putBack ρ r o
  | .io i :: r, s :: o => putBack (ρ.set i s) r o
  | _, _ => ρ
def ok1 {α : Type} (o : Option α) (ρ : Env) : Option (Out α) := o.map fun d => .ok d ρ
def items : D → Option (List D)
  | .tup ds => some ds
  | .lst ds => some ds
  | _ => none
def negD : D → Option D
  | .int i => some (.int (-i))
  | _ => none
def cmpDD (op : Cm) : D → D → Option D
  | .int i, .int j => some (.bl (cmpD op i j))
  | _, _ => none
def absD : D → Option D
  | .int i => some (.int (if i < 0 then -i else i))
  | _ => none
def int1D : D → Option D
  | .int i => some (.int i)
  | _ => none
def bitsD : D → Option D
  | .int i => some (.int (Builtin.Int.intBits i : Nat))
  | _ => none
def min2D : D → D → Option D
  | .int i, .int j => some (.int (if j < i then j else i))
  | _, _ => none
def max2D : D → D → Option D
  | .int i, .int j => some (.int (if j > i then j else i))
  | _, _ => none
def gcdD : D → D → Option D
  | .int i, .int j => some (.int ((Nat.gcd i.natAbs j.natAbs : Nat) : Int))
  | _, _ => none
def lenD (x : D) : Option D := (items x).map fun ds => .int ds.length
def tupD (x : D) : Option D := (items x).map .tup
def ixD (x : D) : D → Option D
  | .int i => (items x).bind fun ds => atI ds i
  | _ => none
def eqqD (ne : Bool) (x y : D) : Option D := (eqD x y).map fun k => .bl (if ne then !k else k)
def isTDD (ts : List Ty) (x : D) : Option D := (isTyD x ts).map .bl
mutual
def evE (Γ : Gam) : E → Env → Option (Out D)
  | .var i, ρ => match ρ.at i with
    | .v d => some (.ok d ρ)
    | .l ds => some (.ok (.lst ds) (ρ.set i (.v (.lst ds))))
    | .no => none
  | .cst d, ρ => some (.ok d ρ)
  | .tup a, ρ => bnd (evA Γ a ρ) fun avs ρ => ok1 ((vals avs).bind fun ds => if ds.length ≤ sizeLine then some (.tup ds) else none) ρ
  | .bin op a b, ρ => bnd (evE Γ a ρ) fun x ρ => bnd (evE Γ b ρ) fun y ρ => ok1 (binD op x y) ρ
  | .neg a, ρ => bnd (evE Γ a ρ) fun x ρ => ok1 (negD x) ρ
  | .cmp op a b, ρ => bnd (evE Γ a ρ) fun x ρ => bnd (evE Γ b ρ) fun y ρ => ok1 (cmpDD op x y) ρ
  | .eqq ne a b, ρ => bnd (evE Γ a ρ) fun x ρ => bnd (evE Γ b ρ) fun y ρ => ok1 (eqqD ne x y) ρ
  | .isN ne a, ρ => bnd (evE Γ a ρ) fun x ρ => some (.ok (.bl (if ne then !isNon x else isNon x)) ρ)
  | .and a b, ρ => bnd (evE Γ a ρ) fun x ρ => match truthy x with
    | some true => evE Γ b ρ
    | some false => some (.ok x ρ)
    | none => none
  | .or a b, ρ => bnd (evE Γ a ρ) fun x ρ => match truthy x with
    | some false => evE Γ b ρ
    | some true => some (.ok x ρ)
    | none => none
  | .not a, ρ => bnd (evE Γ a ρ) fun x ρ => ok1 ((truthy x).map fun k => .bl (!k)) ρ
  | .ifx c a b, ρ => bnd (bnd (evE Γ c ρ) fun x ρ => ok1 (truthy x) ρ) fun k ρ => match k with
    | true => evE Γ a ρ
    | false => evE Γ b ρ
  | .call f a, ρ => bnd (evA Γ a ρ) fun avs ρ => if iosOk ρ avs = true then match Γ f (slotsOf ρ avs) with
    | some (.ret (.v d) outs) => some (.ok d (putBack ρ avs outs))
    | some (.ex c w outs) => some (.ex c w (putBack ρ avs outs))
    | _ => none else none
  | .isT a ts, ρ => bnd (evE Γ a ρ) fun x ρ => ok1 (isTDD ts x) ρ
  | .len a, ρ => bnd (evE Γ a ρ) fun x ρ => ok1 (lenD x) ρ
  | .lenl i, ρ => match ρ.at i with
    | .l ds => some (.ok (.int ds.length) ρ)
    | .v d => ok1 (lenD d) ρ
    | .no => none
  | .abs a, ρ => bnd (evE Γ a ρ) fun x ρ => ok1 (absD x) ρ
  | .int1 a, ρ => bnd (evE Γ a ρ) fun x ρ => ok1 (int1D x) ρ
  | .min2 a b, ρ => bnd (evE Γ a ρ) fun x ρ => bnd (evE Γ b ρ) fun y ρ => ok1 (min2D x y) ρ
  | .max2 a b, ρ => bnd (evE Γ a ρ) fun x ρ => bnd (evE Γ b ρ) fun y ρ => ok1 (max2D x y) ρ
  | .gcd a b, ρ => bnd (evE Γ a ρ) fun x ρ => bnd (evE Γ b ρ) fun y ρ => ok1 (gcdD x y) ρ
  | .bits a, ρ => bnd (evE Γ a ρ) fun x ρ => ok1 (bitsD x) ρ
  | .ix a b, ρ => bnd (evE Γ a ρ) fun x ρ => bnd (evE Γ b ρ) fun y ρ => ok1 (ixD x y) ρ
  | .pop i, ρ => match ρ.at i with
    | .l ds => ok1 (ds[ds.length - 1]?) (ρ.set i (.l ds.dropLast))
    | _ => none
  | .tupOf a, ρ => bnd (evE Γ a ρ) fun x ρ => ok1 (tupD x) ρ
  | .ofL l, ρ => bnd (evL Γ l ρ) fun ds ρ => some (.ok (.lst ds) ρ)
def evA (Γ : Gam) : A → Env → Option (Out (List AV))
  | .nil, ρ => some (.ok [] ρ)
  | .cons e r, ρ => bnd (evE Γ e ρ) fun d ρ => bnd (evA Γ r ρ) fun ds ρ => some (.ok (.v d :: ds) ρ)
  | .io i r, ρ => match ρ.at i with
    | .l _ => bnd (evA Γ r ρ) fun ds ρ => some (.ok (.io i :: ds) ρ)
    | _ => none
def evL (Γ : Gam) : L → Env → Option (Out (List D))
  | .disp a, ρ => bnd (evA Γ a ρ) fun avs ρ => ok1 ((vals avs).bind fun ds => if ds.length ≤ sizeLine then some ds else none) ρ
  | .listOf e, ρ => bnd (evE Γ e ρ) fun x ρ => ok1 (items x) ρ
  | .callL f a, ρ => bnd (evA Γ a ρ) fun avs ρ => if iosOk ρ avs = true then match Γ f (slotsOf ρ avs) with
    | some (.ret (.l ds) outs) => some (.ok ds (putBack ρ avs outs))
    | some (.ex c w outs) => some (.ex c w (putBack ρ avs outs))
    | _ => none else none
end
/-- a test -/
def evT (Γ : Gam) (e : E) (ρ : Env) : Option (Out Bool) := bnd (evE Γ e ρ) fun x ρ => ok1 (truthy x) ρ
inductive SOut where
  | nx (ρ : Env)
  | ret (r : Slot) (ρ : Env)
  | bk (ρ : Env)
  | ct (ρ : Env)
  | ex (c : Nat) (w : List D) (ρ : Env)
def sbnd {α : Type} (m : Option (Out α)) (f : α → Env → Option SOut) : Option SOut :=
  match m with
  | none => none
  | some (.ok d ρ) => f d ρ
  | some (.ex c w ρ) => some (.ex c w ρ)
def thenS (m : Option SOut) (f : Env → Option SOut) : Option SOut :=
  match m with
  | some (.nx ρ) => f ρ
  | o => o
def loopS (f : D → Env → Option SOut) : List D → Env → Option SOut
  | [], ρ => some (.nx ρ)
  | d :: ds, ρ => match f d ρ with
    | some (.nx ρ') => loopS f ds ρ'
    | some (.ct ρ') => loopS f ds ρ'
    | some (.bk ρ') => some (.nx ρ')
    | o => o
def whileS (c : Env → Option (Out Bool)) (f : Env → Option SOut) : Nat → Env → Option SOut
  | 0, _ => none
  | n + 1, ρ => sbnd (c ρ) fun x ρ => match x with
    | true => (match f ρ with
      | some (.nx ρ') => whileS c f n ρ'
      | some (.ct ρ') => whileS c f n ρ'
      | some (.bk ρ') => some (.nx ρ')
      | o => o)
    | false => some (.nx ρ)
def setAll (ρ : Env) : List Nat → List D → Env
  | i :: is, d :: ds => setAll (ρ.set i (.v d)) is ds
  | _, _ => ρ
def rangeD (n : Nat) : List D := (List.range n).map fun (k : Nat) => D.int (0 + (k : Int))
def setS (ρ : Env) (i : Nat) (s : Slot) : Option SOut := if i < ρ.length then some (.nx (ρ.set i s)) else none
def bindS (ρ : Env) (i : Nat) (s : Slot) (f : Env → Option SOut) : Option SOut := if i < ρ.length then f (ρ.set i s) else none
def evS (Γ : Gam) (fu : Nat) : S → Env → Option SOut
  | .nil, ρ => some (.nx ρ)
  | .seq a b, ρ => thenS (evS Γ fu a ρ) (evS Γ fu b)
  | .pass, ρ => some (.nx ρ)
  | .asg i e, ρ => sbnd (evE Γ e ρ) fun d ρ => setS ρ i (.v d)
  | .asgT is e, ρ => sbnd (evE Γ e ρ) fun d ρ => match d with
    | .tup ds => if ds.length = is.length ∧ (is.all fun i => decide (i < ρ.length)) = true then some (.nx (setAll ρ is ds)) else none
    | _ => none
  | .par i j a b, ρ => sbnd (evE Γ a ρ) fun x ρ => sbnd (evE Γ b ρ) fun y ρ => bindS ρ i (.v x) fun ρ => setS ρ j (.v y)
  | .newL i l, ρ => sbnd (evL Γ l ρ) fun ds ρ => setS ρ i (.l ds)
  | .app i e, ρ => match ρ.at i with
    | .l _ => sbnd (evE Γ e ρ) fun d ρ => match ρ.at i with
      | .l ds => if ds.length < sizeLine then some (.nx (ρ.set i (.l (ds ++ [d])))) else none
      | _ => none
    | _ => none
  | .rev i, ρ => match ρ.at i with
    | .l ds => some (.nx (ρ.set i (.l ds.reverse)))
    | _ => none
  | .ite c a b, ρ => sbnd (evT Γ c ρ) fun x ρ => match x with
    | true => evS Γ fu a ρ
    | false => evS Γ fu b ρ
  | .forV i e b, ρ => sbnd (evE Γ e ρ) fun x ρ => match items x with
    | some ds => loopS (fun d ρ => bindS ρ i (.v d) (evS Γ fu b)) ds ρ
    | none => none
  | .forR i e b, ρ => sbnd (evE Γ e ρ) fun x ρ => match x with
    | .int n => if n < 2 ^ 62 ∧ -(2 ^ 62) ≤ n then loopS (fun d ρ => bindS ρ i (.v d) (evS Γ fu b)) (rangeD n.toNat) ρ else none
    | _ => none
  | .whl c b, ρ => whileS (evT Γ c) (evS Γ fu b) fu ρ
  | .ret e, ρ => sbnd (evE Γ e ρ) fun d ρ => some (.ret (.v d) ρ)
  | .retL i, ρ => match ρ.at i with
    | .l ds => some (.ret (.l ds) ρ)
    | _ => none
  | .brk, ρ => some (.bk ρ)
  | .cnt, ρ => some (.ct ρ)
  | .nev, _ => none
structure Def where
  name : Str
  N : List Str
  np : Nat
  io : List Nat
  body : S
def outsOf (io : List Nat) (np : Nat) (ρ : Env) : List Slot := (List.range np).map fun k => if k ∈ io then ρ.at k else .no
def startD (d : Def) (avs : List Slot) : Env := avs ++ List.replicate (d.N.length - avs.length) .no
def finish (d : Def) : Option SOut → Option FOut
  | some (.nx ρ) => some (.ret (.v .non) (outsOf d.io d.np ρ))
  | some (.ret r ρ) => some (.ret r (outsOf d.io d.np ρ))
  | some (.ex c w ρ) => some (.ex c w (outsOf d.io d.np ρ))
  | _ => none
def avsOk (d : Def) (avs : List Slot) : Bool := decide (avs.length = d.np) && (List.range d.np).all fun k => if k ∈ d.io then isOwn (Env.at avs k) else isVal (Env.at avs k)
def callD (defs : List Def) (fu : Nat) : Nat → Gam
  | 0 => fun _ _ => none
  | n + 1 => fun f avs => match defs[f]? with
    | some d => if avsOk d avs = true then finish d (evS (callD defs fu n) fu d.body (startD d avs)) else none
    | none => none
end VI
set_option maxHeartbeats 2000000
/-! Soundness, first part: expressions. -/
namespace VI
open PySem L2 Evl
/-- what is wanted behind an outcome -/
def FinG {α β : Type} (P : Par) (io : List Nat) (W : WX) (Hi : Hp) (σ : L2.St) (R : Par → Hp → Hp → (Nat → List Addr) → L2.St → β → α → Prop) (Q : β → Hp → Prop) : Option (Out α) → Prop
  | none => False
  | some (.ok d ρ) => ∀ v Hi' H' A, Ex Hi Hi' → RelA P io Hi' H' σ ρ A → R P Hi' H' A σ v d → Q v H'
  | some (.ex c w ρ) => ∀ dx Hi' H' A, Ex Hi Hi' → RelA P io Hi' H' σ ρ A → H' dx = some (.xd [("word", .non)]) → W (.ref (P.cl c)) (some dx) σ H'
section
variable {α β γ δ : Type} {P : Par} {io : List Nat} {W : WX} {Hi Hi' : Hp} {σ : L2.St} {R : Par → Hp → Hp → (Nat → List Addr) → L2.St → β → α → Prop} {R2 : Par → Hp → Hp → (Nat → List Addr) → L2.St → δ → γ → Prop}
theorem FinG.mono {Q : β → Hp → Prop} (e : Ex Hi Hi') : ∀ {o : Option (Out α)}, FinG P io W Hi σ R Q o → FinG P io W Hi' σ R Q o
  | none, h => h
  | some (.ok _ _), h => fun v H1 H2 A e1 => h v H1 H2 A (e.trans e1)
  | some (.ex _ _ _), h => fun v H1 H2 A e1 => h v H1 H2 A (e.trans e1)
theorem FinG.bnd {Q : δ → Hp → Prop} {Q1 : β → Hp → Prop} {m : Option (Out α)} {f : α → Env → Option (Out γ)} (h : FinG P io W Hi σ R2 Q (bnd m f))
    (k : ∀ v Hi' H' ρ' A d, Ex Hi Hi' → RelA P io Hi' H' σ ρ' A → R P Hi' H' A σ v d → FinG P io W Hi' σ R2 Q (f d ρ') → Q1 v H') : FinG P io W Hi σ R Q1 m := by
  cases m with
  | none => exact h
  | some o =>
    cases o with
    | ok d ρ => exact fun v H1 H2 A e r1 r2 => k v H1 H2 ρ A d e r1 r2 (FinG.mono e h)
    | ex c w ρ => exact h
theorem FinG.ok {Q : β → Hp → Prop} {d : α} {ρ : Env} {H : Hp} {A : Nat → List Addr} {v : β} (h : FinG P io W Hi σ R Q (some (.ok d ρ))) (r : RelA P io Hi H σ ρ A) (q : R P Hi H A σ v d) : Q v H := h v Hi H A (Ex.refl _) r q
/-- .. where the heap has grown -/
theorem FinG.ok' {Q : β → Hp → Prop} {d : α} {ρ : Env} {H : Hp} {A : Nat → List Addr} {v : β} (h : FinG P io W Hi σ R Q (some (.ok d ρ))) (e : Ex Hi Hi') (r : RelA P io Hi' H σ ρ A) (q : R P Hi' H A σ v d) : Q v H := h v Hi' H A e r q
theorem ok1_some {o : Option α} {ρ : Env} {Q : β → Hp → Prop} (h : FinG P io W Hi σ R Q (ok1 o ρ)) : ∃ d, o = some d ∧ FinG P io W Hi σ R Q (some (.ok d ρ)) := by
  cases o with
  | none => exact False.elim h
  | some d => exact ⟨d, rfl, h⟩
end
/-- the relations of results -/
def RV : Par → Hp → Hp → (Nat → List Addr) → L2.St → V → D → Prop := fun P Hi _ _ _ v d => Rep P.K P.cl Hi v d
def RT : Par → Hp → Hp → (Nat → List Addr) → L2.St → Bool → Bool → Prop := fun _ _ _ _ _ b d => b = d
inductive RepA (P : Par) (Hi : Hp) (σ : L2.St) : List V → List AV → Prop
  | nil : RepA P Hi σ [] []
  | v {v : V} {d : D} {vs : List V} {avs : List AV} : Rep P.K P.cl Hi v d → RepA P Hi σ vs avs → RepA P Hi σ (v :: vs) (.v d :: avs)
  | io {v : V} {i : Nat} {vs : List V} {avs : List AV} : sAt σ i = some v → RepA P Hi σ vs avs → RepA P Hi σ (v :: vs) (.io i :: avs)
def RA : Par → Hp → Hp → (Nat → List Addr) → L2.St → List V → List AV → Prop := fun P Hi _ _ σ vs avs => RepA P Hi σ vs avs
def RL : Par → Hp → Hp → (Nat → List Addr) → L2.St → V → List D → Prop := fun P Hi H A _ v ds => ∃ a vs, v = .ref a ∧ H a = some (.lst vs) ∧ Reps P.K P.cl Hi vs ds ∧ Hi a = none ∧ P.B a = none ∧ ∀ j, a ∉ A j
/-- an evaluator as a reading -/
def tG {α β : Type} (K : PySem.W.Frag) (cl : Nat → Addr) (io : List Nat) (W : WX) (R : Par → Hp → Hp → (Nat → List Addr) → L2.St → β → α → Prop) (ev : Env → Option (Out α)) : L2.St → Hp → (β → Hp → Prop) → Prop :=
  fun σ H Q => ∃ B Hi0 pin Hi ρ A, RelA ⟨K, cl, B, Hi0, pin⟩ io Hi H σ ρ A ∧ FinG ⟨K, cl, B, Hi0, pin⟩ io W Hi σ R Q (ev ρ)
theorem RepA.mono {P : Par} {Hi Hi' : Hp} {σ : L2.St} (e : Ex Hi Hi') : ∀ {vs : List V} {avs : List AV}, RepA P Hi σ vs avs → RepA P Hi' σ vs avs
  | _, _, .nil => .nil
  | _, _, .v r t => .v (r.mono e) (RepA.mono e t)
  | _, _, .io r t => .io r (RepA.mono e t)
theorem RepA.vals {P : Par} {Hi : Hp} {σ : L2.St} : ∀ {vs : List V} {avs : List AV} {ds : List D}, RepA P Hi σ vs avs → vals avs = some ds → Reps P.K P.cl Hi vs ds
  | _, _, _, .nil, h => by
    have e : [] = _ := Option.some.inj h
    subst e
    exact .nil
  | _, _, _, .v (avs := avs) r t, h => by
    unfold VI.vals at h
    cases q : VI.vals avs with
    | none => rw [q] at h; cases h
    | some es =>
      rw [q] at h
      have e := Option.some.inj h
      subst e
      exact .cons r (RepA.vals t q)
  | _, _, _, .io _ _, h => by
    unfold VI.vals at h
    cases h
theorem RepA.len {P : Par} {Hi : Hp} {σ : L2.St} : ∀ {vs : List V} {avs : List AV}, RepA P Hi σ vs avs → vs.length = avs.length
  | _, _, .nil => rfl
  | _, _, .v r t => by rw [List.length_cons, List.length_cons, t.len]
  | _, _, .io r t => by rw [List.length_cons, List.length_cons, t.len]
theorem PE.imp {X : Cx} {e : Expr} {t t' : TE} (h : PE X e t) (k : ∀ σ H Q, t' σ H Q → t σ H Q) : PE X e t' := ⟨fun pins s σ H Q I q => h.run pins s σ H Q I (k σ H Q q)⟩
theorem PT.imp {X : Cx} {e : Expr} {t t' : TT} (h : PT X e t) (k : ∀ σ H Q, t' σ H Q → t σ H Q) : PT X e t' := ⟨fun pins s σ H Q I q => h.run pins s σ H Q I (k σ H Q q)⟩
theorem PA.imp {X : Cx} {e : List Expr} {t t' : TA} (h : PA X e t) (k : ∀ σ H Q, t' σ H Q → t σ H Q) : PA X e t' := ⟨fun po pins s σ H Q I q => h.run po pins s σ H Q I (k σ H Q q)⟩
theorem PS.imp {X : Cx} {e : Stmt} {t t' : TS} (h : PS X e t) (k : ∀ D σ H, t' D σ H → t D σ H) : PS X e t' := ⟨fun pins s σ H D I q => h.run pins s σ H D I (k D σ H q)⟩
theorem PSs.imp {X : Cx} {e : List Stmt} {t t' : TS} (h : PSs X e t) (k : ∀ D σ H, t' D σ H → t D σ H) : PSs X e t' := ⟨fun pins s σ H D I q => h.run pins s σ H D I (k D σ H q)⟩
section
variable {X : Cx} {cl : Nat → Addr} {io : List Nat} {W : WX} {Γ : Gam} {a b c : Expr} {ia ib ic : E} {pos : Pos}
abbrev tE (X : Cx) (cl : Nat → Addr) (io : List Nat) (W : WX) (Γ : Gam) (e : E) : TE := tG X.K cl io W RV (evE Γ e)
abbrev tT (X : Cx) (cl : Nat → Addr) (io : List Nat) (W : WX) (Γ : Gam) (e : E) : TT := tG X.K cl io W RT (evT Γ e)
abbrev tA (X : Cx) (cl : Nat → Addr) (io : List Nat) (W : WX) (Γ : Gam) (e : A) : TA := tG X.K cl io W RA (evA Γ e)
abbrev tL (X : Cx) (cl : Nat → Addr) (io : List Nat) (W : WX) (Γ : Gam) (e : L) : TE := tG X.K cl io W RL (evL Γ e)
theorem Rel.frzA {P : Par} {Hi H : Hp} {σ : L2.St} {ρ : Env} {A : Nat → List Addr} (R : RelA P io Hi H σ ρ A) {i : Nat} {ds : List D} (h : ρ.at i = .l ds) :
    ∃ v Hi' A', σ[i]? = some (some v) ∧ Ex Hi Hi' ∧ RelA P io Hi' H σ (ρ.set i (.v (.lst ds))) A' ∧ Rep P.K P.cl Hi' v (.lst ds) := by
  obtain ⟨a, vs, h1, h2, h3, h4, A', h5⟩ := Rel.frz ⟨A, R⟩ h
  have e : Ex Hi (upd Hi a (.lst vs)) := Ex.new h3
  exact ⟨.ref a, _, A', h1, e, h5, .lst (.inl (.inl upd_same)) (h4.mono e)⟩
theorem snd_var {i : Nat} {x : Str} (hN : X.N[i]? = some x) (hv : Vis X.env.scope x) (hd : (x == ("__debug__" : Str)) = false) (hcd : (x == ("__classdict__" : Str)) = false) : PE X (.Name x pos) (tE X cl io W Γ (.var i)) := by
  refine PE.imp (pe_var hN hv hd hcd) ?_
  rintro σ H Q ⟨B, Hi0, pin, Hi, ρ, A, R, h⟩
  unfold evE at h
  cases q : ρ.at i with
  | no => rw [q] at h; exact h.elim
  | v d =>
    rw [q] at h
    obtain ⟨v, h1, h2⟩ := Rel.val ⟨A, R⟩ q
    exact ⟨v, h1, h.ok R h2⟩
  | l ds =>
    rw [q] at h
    obtain ⟨v, Hi', A', h1, h2, h3, h4⟩ := Rel.frzA R q
    exact ⟨v, h1, h.ok' h2 h3 h4⟩
def constD : Const → Option D
  | .none => some .non
  | .bool b => some (.bl b)
  | .int i => some (.int i)
  | .str x => some (.str x)
  | _ => none
theorem snd_cst {k : Const} {d : D} {j : Nat} (hk : constD k = some d) : PE X (.Constant k j pos) (tE X cl io W Γ (.cst d)) := by
  have fin : ∀ {v : V}, (∀ K cl Hi, Rep K cl Hi v d) → ∀ σ H Q, tE X cl io W Γ (.cst d) σ H Q → tC v σ H Q := by
    rintro v hr σ H Q ⟨B, Hi0, pin, Hi, ρ, A, R, h⟩
    exact h.ok R (hr _ _ _)
  cases k with
  | none => cases hk; exact PE.imp pe_non (fin fun _ _ _ => .non)
  | bool b => cases hk; exact PE.imp pe_bl (fin fun _ _ _ => .bl b)
  | int i => cases hk; exact PE.imp pe_int (fin fun _ _ _ => .int i)
  | str x => cases hk; exact PE.imp pe_str (fin fun _ _ _ => .str x)
  | _ => cases hk
theorem snd_tup {es : List Expr} {k : Nat} {ia : A} (ha : PA X es (tA X cl io W Γ ia)) : PE X (.Tuple es k pos) (tE X cl io W Γ (.tup ia)) := by
  refine PE.imp (pe_tup ha) ?_
  rintro σ H Q ⟨B, Hi0, pin, Hi, ρ, A, R, h⟩
  refine ⟨B, Hi0, pin, Hi, ρ, A, R, ?_⟩
  unfold evE at h
  refine h.bnd fun vs Hi1 H1 ρ1 A1 avs e1 R1 r1 h1 => ?_
  obtain ⟨d, hd, h2⟩ := ok1_some h1
  cases q : vals avs with
  | none => rw [q] at hd; cases hd
  | some ds =>
    rw [q] at hd
    have hr := r1.vals q
    by_cases hl : ds.length ≤ sizeLine
    · have hd' : (if ds.length ≤ sizeLine then some (D.tup ds) else none) = some d := hd
      rw [if_pos hl] at hd'
      cases hd'
      refine ⟨by rw [hr.len]; exact hl, fun p hp => ?_⟩
      obtain ⟨A2, R2⟩ := Rel.newD (o := .tup vs) ⟨A1, R1⟩ hp
      have e2 : Ex Hi1 (upd Hi1 p (.tup vs)) := Ex.new (Rel.hfree ⟨A1, R1⟩ hp)
      exact h2.ok' e2 R2 (.tup (.inl (.inl upd_same)) (hr.mono e2))
    · have hd' : (if ds.length ≤ sizeLine then some (D.tup ds) else none) = some d := hd
      rw [if_neg hl] at hd'
      cases hd'
theorem snd_disp {es : List Expr} {ia : A} (ha : PA X es (tA X cl io W Γ ia)) : PE X (.List es pos) (tL X cl io W Γ (.disp ia)) := by
  refine PE.imp (pe_lst ha) ?_
  rintro σ H Q ⟨B, Hi0, pin, Hi, ρ, A, R, h⟩
  refine ⟨B, Hi0, pin, Hi, ρ, A, R, ?_⟩
  unfold evL at h
  refine h.bnd fun vs Hi1 H1 ρ1 A1 avs e1 R1 r1 h1 => ?_
  obtain ⟨d, hd, h2⟩ := ok1_some h1
  cases q : vals avs with
  | none => rw [q] at hd; cases hd
  | some ds =>
    rw [q] at hd
    have hr := r1.vals q
    by_cases hl : ds.length ≤ sizeLine
    · have hd' : (if ds.length ≤ sizeLine then some ds else none) = some d := hd
      rw [if_pos hl] at hd'
      cases hd'
      refine ⟨by rw [hr.len]; exact hl, fun p hp => ?_⟩
      have R2 := R1.step (H' := upd H1 p (.lst vs)) (Ex.refl _) (fun a u e => Ex.new hp a u (R1.i a u e)) (fun a u e n => Ex.new hp a u e) (fun _ _ e => e)
      refine h2.ok R2 ⟨p, vs, rfl, upd_same, hr, Rel.hfree ⟨A1, R1⟩ hp, fresh_back R1.b hp, fun j hj => ?_⟩
      have := R1.sl j
      cases q2 : ρ1.at j with
      | no => rw [q2] at this; have t2 : A1 j = [] := this; rw [t2] at hj; cases hj
      | v d => rw [q2] at this; obtain ⟨t2, _⟩ := this; rw [t2] at hj; cases hj
      | l ds =>
        rw [q2] at this
        obtain ⟨a', vs', t2, _, t3, _⟩ := this
        rw [t2] at hj
        have t4 := List.mem_singleton.mp hj
        subst t4
        rw [hp] at t3
        cases t3
    · have hd' : (if ds.length ≤ sizeLine then some ds else none) = some d := hd
      rw [if_neg hl] at hd'
      cases hd'
/-- a new list as data -/
theorem snd_ofL {il : L} (ha : PE X a (tL X cl io W Γ il)) : PE X a (tE X cl io W Γ (.ofL il)) := by
  refine PE.imp ha ?_
  rintro σ H Q ⟨B, Hi0, pin, Hi, ρ, A, R, h⟩
  refine ⟨B, Hi0, pin, Hi, ρ, A, R, ?_⟩
  unfold evE at h
  refine h.bnd fun v Hi1 H1 ρ1 A1 ds e1 R1 r1 h1 => ?_
  obtain ⟨p, vs, rfl, hp, hr, hn, hb, hj⟩ := r1
  have e2 : Ex Hi1 (upd Hi1 p (.lst vs)) := Ex.new hn
  refine h1.ok' (A := A1) e2 ⟨R1.b, fun b o e => ?_, fun b o e => e2 b o (R1.i0 b o e), fun b q1 q2 => ?_, R1.len, fun j => (R1.sl j).mono e2 fun _ _ _ ho => ho, fun j b hb' => ?_, R1.nd, R1.dj, R1.pn⟩ (.lst (.inl (.inl upd_same)) (hr.mono e2))
  · by_cases q : b = p
    · subst q; rw [upd_same] at e; rw [hp]; exact e
    · rw [upd_ne q] at e; exact R1.i b o e
  · by_cases q : b = p
    · subst q; exact absurd hb q1
    · rw [upd_ne q] at q2; exact R1.fr b q1 q2
  · obtain ⟨x1, x2⟩ := R1.ow j b hb'
    refine ⟨?_, x2⟩
    rw [upd_ne]
    · exact x1
    · intro q; subst q; exact hj j hb'
/-- two in a row, then an operation -/
theorem two {r : R2} {f : D → D → Option D} (hr : ∀ (P : Par) (Hi H : Hp) (x y : V) (dx dy d : D) (Q : VK), P.K = X.K → Ex Hi H → Rep P.K P.cl Hi x dx → Rep P.K P.cl Hi y dy → f dx dy = some d → (∀ v, Rep P.K P.cl Hi v d → Q v H) → r x y H Q)
    {e : E} (he : ∀ ρ, evE Γ e ρ = bnd (evE Γ ia ρ) fun x ρ => bnd (evE Γ ib ρ) fun y ρ => ok1 (f x y) ρ) (σ : L2.St) (H : Hp) (Q : VK) (h : tE X cl io W Γ e σ H Q) : tOp r (tE X cl io W Γ ia) (tE X cl io W Γ ib) σ H Q := by
  obtain ⟨B, Hi0, pin, Hi, ρ, A, R, h⟩ := h
  rw [he] at h
  refine ⟨B, Hi0, pin, Hi, ρ, A, R, h.bnd fun v1 Hi1 H1 ρ1 A1 d1 e1 R1 r1 h1 => ?_⟩
  refine ⟨B, Hi0, pin, Hi1, ρ1, A1, R1, h1.bnd fun v2 Hi2 H2 ρ2 A2 d2 e2 R2 r2 h2 => ?_⟩
  obtain ⟨d, hd, h3⟩ := ok1_some h2
  exact hr ⟨X.K, cl, B, Hi0, pin⟩ Hi2 H2 v1 v2 d1 d2 d Q rfl R2.i (Rep.mono e2 _ _ r1) r2 hd fun v rv => h3.ok R2 rv
/-- one, then an operation -/
theorem one {r : V → Hp → VK → Prop} {f : D → Option D} (hr : ∀ (P : Par) (Hi H : Hp) (x : V) (dx d : D) (Q : VK), P.K = X.K → Ex Hi H → Rep P.K P.cl Hi x dx → f dx = some d → (∀ v, Rep P.K P.cl Hi v d → Q v H) → r x H Q)
    {e : E} (he : ∀ ρ, evE Γ e ρ = bnd (evE Γ ia ρ) fun x ρ => ok1 (f x) ρ) (σ : L2.St) (H : Hp) (Q : VK) (h : tE X cl io W Γ e σ H Q) : tUn r (tE X cl io W Γ ia) σ H Q := by
  obtain ⟨B, Hi0, pin, Hi, ρ, A, R, h⟩ := h
  rw [he] at h
  refine ⟨B, Hi0, pin, Hi, ρ, A, R, h.bnd fun v1 Hi1 H1 ρ1 A1 d1 e1 R1 r1 h1 => ?_⟩
  obtain ⟨d, hd, h3⟩ := ok1_some h1
  exact hr ⟨X.K, cl, B, Hi0, pin⟩ Hi1 H1 v1 d1 d Q rfl R1.i r1 hd fun v rv => h3.ok R1 rv
def opA : Op2 → Operator
  | .add => .Add | .sub => .Sub | .mul => .Mult | .fdiv => .FloorDiv | .mod => .Mod | .pow => .Pow
theorem snd_bin {op : Op2} (ha : PE X a (tE X cl io W Γ ia)) (hb : PE X b (tE X cl io W Γ ib)) : PE X (.BinOp a (opA op) b pos) (tE X cl io W Γ (.bin op ia ib)) := by
  cases op with
  | add =>
    refine PE.imp (pe_op op_add ha hb) (two (f := binD .add) (fun P Hi H x y dx dy d Q hK e rx ry hd q => ?_) fun ρ => by rw [evE])
    cases rx <;> cases ry <;> cases hd
    exact ⟨_, _, rfl, rfl, q _ (.int _)⟩
  | sub =>
    refine PE.imp (pe_op op_sub ha hb) (two (f := binD .sub) (fun P Hi H x y dx dy d Q hK e rx ry hd q => ?_) fun ρ => by rw [evE])
    cases rx <;> cases ry <;> cases hd
    exact ⟨_, _, rfl, rfl, q _ (.int _)⟩
  | mul =>
    refine PE.imp (pe_op (op_mulW.or op_mul) ha hb) (two (f := binD .mul) (fun P Hi H x y dx dy d Q hK e rx ry hd q => ?_) fun ρ => by rw [evE])
    cases rx <;> cases ry <;> try (cases hd; done)
    rename_i i j
    by_cases hc : okMul i j = true
    · have hd' : (if okMul i j = true then some (D.int (i * j)) else none) = some d := hd
      rw [if_pos hc] at hd'
      cases hd'
      unfold okMul at hc
      rw [Bool.or_eq_true] at hc
      rcases hc with hc | hc
      · exact .inl ⟨_, _, rfl, rfl, (show CMulW i j from of_decide_eq_true (p := i.natAbs.log2 + j.natAbs.log2 < 1000000) hc), q _ (.int _)⟩
      · exact .inr ⟨_, _, rfl, rfl, (show CMul i j from of_decide_eq_true (p := (-(2 ^ 64) < i ∧ i < 2 ^ 64) ∨ (-(2 ^ 64) < j ∧ j < 2 ^ 64)) hc), q _ (.int _)⟩
    · have hd' : (if okMul i j = true then some (D.int (i * j)) else none) = some d := hd
      rw [if_neg hc] at hd'
      cases hd'
  | fdiv =>
    refine PE.imp (pe_op op_fdivW ha hb) (two (f := binD .fdiv) (fun P Hi H x y dx dy d Q hK e rx ry hd q => ?_) fun ρ => by rw [evE])
    cases rx <;> cases ry <;> try (cases hd; done)
    rename_i i j
    by_cases hc : okDiv j = true
    · have hd' : (if okDiv j = true then some (D.int (i / j)) else none) = some d := hd
      rw [if_pos hc] at hd'
      cases hd'
      exact ⟨_, _, rfl, rfl, (show CDivW i j from of_decide_eq_true (p := 0 < j ∧ j.natAbs.log2 < 9000) hc), q _ (.int _)⟩
    · have hd' : (if okDiv j = true then some (D.int (i / j)) else none) = some d := hd
      rw [if_neg hc] at hd'
      cases hd'
  | mod =>
    refine PE.imp (pe_op op_mod ha hb) (two (f := binD .mod) (fun P Hi H x y dx dy d Q hK e rx ry hd q => ?_) fun ρ => by rw [evE])
    cases rx <;> cases ry <;> try (cases hd; done)
    rename_i i j
    by_cases hc : 0 < j
    · have hd' : (if 0 < j then some (D.int (i % j)) else none) = some d := hd
      rw [if_pos hc] at hd'
      cases hd'
      exact ⟨_, _, rfl, rfl, hc, q _ (.int _)⟩
    · have hd' : (if 0 < j then some (D.int (i % j)) else none) = some d := hd
      rw [if_neg hc] at hd'
      cases hd'
  | pow =>
    refine PE.imp (pe_op op_pow ha hb) (two (f := binD .pow) (fun P Hi H x y dx dy d Q hK e rx ry hd q => ?_) fun ρ => by rw [evE])
    cases rx <;> cases ry <;> try (cases hd; done)
    rename_i i j
    by_cases hc : okPow i j = true
    · have hd' : (if okPow i j = true then some (D.int (i ^ j.toNat)) else none) = some d := hd
      rw [if_pos hc] at hd'
      cases hd'
      exact ⟨_, _, rfl, rfl, (show CPow i j from of_decide_eq_true (p := 0 ≤ j ∧ j ≤ 1000000 ∧ i.natAbs < 2 ^ 64) hc), q _ (.int _)⟩
    · have hd' : (if okPow i j = true then some (D.int (i ^ j.toNat)) else none) = some d := hd
      rw [if_neg hc] at hd'
      cases hd'
theorem snd_neg (ha : PE X a (tE X cl io W Γ ia)) : PE X (.UnaryOp .USub a pos) (tE X cl io W Γ (.neg ia)) := by
  refine PE.imp (pe_un un_neg ha) (one (f := negD) (fun P Hi H x dx d Q hK e rx hd q => ?_) fun ρ => by rw [evE])
  cases rx <;> cases hd
  exact ⟨_, rfl, q _ (.int _)⟩
def cmA : Cm → CmpOp
  | .lt => .Lt | .le => .LtE | .gt => .Gt | .ge => .GtE
theorem snd_cmp {op : Cm} (ha : PE X a (tE X cl io W Γ ia)) (hb : PE X b (tE X cl io W Γ ib)) : PE X (.Compare a [cmA op] [b] pos) (tE X cl io W Γ (.cmp op ia ib)) := by
  have go : ∀ (p : Int → Int → Bool), (∀ i j, cmpD op i j = p i j) → ∀ σ H Q, tE X cl io W Γ (.cmp op ia ib) σ H Q → tOp (rI0 fun i j => .bl (p i j)) (tE X cl io W Γ ia) (tE X cl io W Γ ib) σ H Q := fun p hp σ H Q h =>
    two (f := cmpDD op) (fun P Hi H x y dx dy d Q hK e rx ry hd q => by
      cases rx <;> cases ry <;> cases hd
      rename_i i j
      exact ⟨_, _, rfl, rfl, by show Q (V.bl (p i j)) H; rw [← hp]; exact q _ (.bl _)⟩) (fun ρ => by rw [evE]) σ H Q h
  cases op with
  | lt => exact PE.imp (pe_cmpR op_lt ha hb (nomark _)) (go _ fun _ _ => rfl)
  | le => exact PE.imp (pe_cmpR op_le ha hb (nomark _)) (go _ fun _ _ => rfl)
  | gt => exact PE.imp (pe_cmpR op_gt ha hb (nomark _)) (go _ fun _ _ => rfl)
  | ge => exact PE.imp (pe_cmpR op_ge ha hb (nomark _)) (go _ fun _ _ => rfl)
mutual
theorem rep_dp {K : PySem.W.Frag} {cl : Nat → Addr} {H : Hp} : ∀ (d : D) (v : V) (p : PyData), Rep K cl H v d → toPy d = some p → Dp K H v p
  | .non, _, _, h, e => by cases h; cases e; exact .non
  | .bl _, _, _, h, e => by cases h; cases e; exact .bl _
  | .int _, _, _, h, e => by cases h; cases e; exact .int _
  | .str _, _, _, h, e => by cases h; cases e; exact .str _
  | .tup ds, _, p, h, e => by
    unfold toPy at e
    cases q : toPys ds with
    | none => rw [q] at e; cases e
    | some ps =>
      rw [q] at e
      cases e
      cases h with
      | tup h1 h2 => exact .tup h1 (reps_dp ds _ ps h2 q)
  | .lst ds, _, p, h, e => by
    unfold toPy at e
    cases q : toPys ds with
    | none => rw [q] at e; cases e
    | some ps =>
      rw [q] at e
      cases e
      cases h with
      | lst h1 h2 => exact .lst h1 (reps_dp ds _ ps h2 q)
  | .ins _ _, _, _, _, e => by unfold toPy at e; cases e
theorem reps_dp {K : PySem.W.Frag} {cl : Nat → Addr} {H : Hp} : ∀ (ds : List D) (vs : List V) (ps : List PyData), Reps K cl H vs ds → toPys ds = some ps → DpAll K H vs ps
  | [], _, _, h, e => by cases h; unfold toPys at e; cases e; exact .nil
  | d :: ds, _, ps, h, e => by
    unfold toPys at e
    cases q : toPy d with
    | none => rw [q] at e; cases e
    | some p =>
      rw [q] at e
      cases q2 : toPys ds with
      | none => rw [q2] at e; cases e
      | some qs =>
        rw [q2] at e
        cases e
        cases h with
        | cons h1 h2 => exact .cons (rep_dp d _ p h1 q) (reps_dp ds _ qs h2 q2)
end
theorem eqD_some {x y : D} {k : Bool} (h : eqD x y = some k) : ∃ p q, toPy x = some p ∧ toPy y = some q ∧ SeqAt.shaped p = true ∧ SeqAt.shaped q = true ∧ PyData.eqv p q = k := by
  unfold eqD at h
  cases q1 : toPy x with
  | none => rw [q1] at h; cases h
  | some p =>
    rw [q1] at h
    cases q2 : toPy y with
    | none => rw [q2] at h; cases h
    | some q =>
      rw [q2] at h
      have h' : (if SeqAt.shaped p = true ∧ SeqAt.shaped q = true then some (PyData.eqv p q) else none) = some k := h
      by_cases hc : SeqAt.shaped p = true ∧ SeqAt.shaped q = true
      · rw [if_pos hc] at h'
        exact ⟨p, q, rfl, rfl, hc.1, hc.2, Option.some.inj h'⟩
      · rw [if_neg hc] at h'
        cases h'
theorem snd_eqq {ne : Bool} (hu : X.A.units + 64 < cLine) (ha : PE X a (tE X cl io W Γ ia)) (hb : PE X b (tE X cl io W Γ ib)) : PE X (.Compare a [if ne then .NotEq else .Eq] [b] pos) (tE X cl io W Γ (.eqq ne ia ib)) := by
  have go : ∀ {r : R2}, (∀ (P : Par) (Hi H : Hp) (x y : V) (dx dy d : D) (Q : VK), P.K = X.K → Ex Hi H → Rep P.K P.cl Hi x dx → Rep P.K P.cl Hi y dy → eqqD ne dx dy = some d → (∀ v, Rep P.K P.cl Hi v d → Q v H) → r x y H Q) →
      ∀ σ H Q, tE X cl io W Γ (.eqq ne ia ib) σ H Q → tOp r (tE X cl io W Γ ia) (tE X cl io W Γ ib) σ H Q := fun hr σ H Q h =>
    two (f := eqqD ne) hr (fun ρ => by rw [evE]) σ H Q h
  cases ne with
  | false =>
    refine PE.imp (pe_cmpR (op_eqD hu) ha hb (nomark _)) (go fun P Hi H x y dx dy d Q hK e rx ry hd q => ?_)
    cases q1 : eqD dx dy with
    | none => unfold eqqD at hd; rw [q1] at hd; cases hd
    | some k =>
      unfold eqqD at hd
      rw [q1] at hd
      cases hd
      obtain ⟨p1, p2, e1, e2, s1, s2, e3⟩ := eqD_some q1
      rw [← hK]
      exact ⟨p1, p2, rep_dp _ _ _ (Rep.mono e _ _ rx) e1, rep_dp _ _ _ (Rep.mono e _ _ ry) e2, s1, s2, by rw [e3]; exact q _ (.bl _)⟩
  | true =>
    refine PE.imp (pe_cmpR (op_neD hu) ha hb (nomark _)) (go fun P Hi H x y dx dy d Q hK e rx ry hd q => ?_)
    cases q1 : eqD dx dy with
    | none => unfold eqqD at hd; rw [q1] at hd; cases hd
    | some k =>
      unfold eqqD at hd
      rw [q1] at hd
      cases hd
      obtain ⟨p1, p2, e1, e2, s1, s2, e3⟩ := eqD_some q1
      rw [← hK]
      exact ⟨p1, p2, rep_dp _ _ _ (Rep.mono e _ _ rx) e1, rep_dp _ _ _ (Rep.mono e _ _ ry) e2, s1, s2, by rw [e3]; exact q _ (.bl _)⟩
theorem isNon_of {K : PySem.W.Frag} {H : Hp} {x : V} {d : D} (r : Rep K cl H x d) : decide (x = V.non) = isNon d := by
  cases r <;> rfl
theorem snd_isN {ne : Bool} {j : Nat} {p2 : Pos} (ha : PE X a (tE X cl io W Γ ia)) : PE X (.Compare a [if ne then .IsNot else .Is] [.Constant .none j p2] pos) (tE X cl io W Γ (.isN ne ia)) := by
  have go : ∀ (σ : L2.St) (H : Hp) (Q : VK) (g : Bool → Bool), (∀ k, (if ne then !k else k) = g k) → tE X cl io W Γ (.isN ne ia) σ H Q → tE X cl io W Γ ia σ H fun x H1 => Q (.bl (g (decide (x = V.non)))) H1 := by
    rintro σ H Q g hg ⟨B, Hi0, pin, Hi, ρ, A, R, h⟩
    refine ⟨B, Hi0, pin, Hi, ρ, A, R, ?_⟩
    unfold evE at h
    refine h.bnd fun v1 Hi1 H1 ρ1 A1 d1 e1 R1 r1 h1 => ?_
    have e := isNon_of r1
    rw [e, ← hg]
    refine h1.ok R1 ?_
    cases ne <;> exact .bl _
  cases ne with
  | false => exact PE.imp (pe_cmp (pc_isN ha) rfl) fun σ H Q h => go σ H Q (fun k => k) (fun _ => rfl) h
  | true => exact PE.imp (pe_cmp (pc_notN ha) rfl) fun σ H Q h => go σ H Q (fun k => !k) (fun _ => rfl) h
/-- a value's truth -/
theorem tru_of {K : PySem.W.Frag} {Hi H : Hp} {x : V} {d : D} {k : Bool} (e : Ex Hi H) (r : Rep K cl Hi x d) (h : truthy d = some k) : TruV K x H k := by
  cases r with
  | non => cases h; rfl
  | bl b => cases h; rfl
  | int i => cases h; rfl
  | str z =>
    have h' : (if z.length ≤ sizeLine then some ((z.length : Int) != 0) else none) = some k := h
    by_cases hl : z.length ≤ sizeLine
    · rw [if_pos hl] at h'
      cases h'
      exact ⟨hl, rfl⟩
    · rw [if_neg hl] at h'
      cases h'
  | @tup a xs ds h1 h2 =>
    cases h
    refine .inr (.inl ⟨xs, ex_t e h1, ?_⟩)
    cases h2 <;> rfl
  | @lst a xs ds h1 h2 =>
    cases h
    refine .inl ⟨xs, ex_l e h1, ?_⟩
    cases h2 <;> rfl
  | ins _ _ => cases h
theorem snd_and {b' : Expr} {rest : List Expr} (ha : PE X a (tE X cl io W Γ ia)) (hb : PE X (.BoolOp .And (b' :: rest) pos) (tE X cl io W Γ ib)) : PE X (.BoolOp .And (a :: b' :: rest) pos) (tE X cl io W Γ (.and ia ib)) := by
  refine PE.imp (pe_andT ha hb) ?_
  rintro σ H Q ⟨B, Hi0, pin, Hi, ρ, A, R, h⟩
  refine ⟨B, Hi0, pin, Hi, ρ, A, R, ?_⟩
  unfold evE at h
  refine h.bnd fun v1 Hi1 H1 ρ1 A1 d1 e1 R1 r1 h1 => ?_
  cases q : truthy d1 with
  | none => rw [q] at h1; exact h1.elim
  | some k =>
    rw [q] at h1
    refine ⟨k, tru_of R1.i r1 q, ?_⟩
    cases k with
    | true => rw [if_pos rfl]; exact ⟨B, Hi0, pin, Hi1, ρ1, A1, R1, h1⟩
    | false => rw [if_neg Bool.false_ne_true]; exact h1.ok R1 r1
theorem snd_or {b' : Expr} {rest : List Expr} (ha : PE X a (tE X cl io W Γ ia)) (hb : PE X (.BoolOp .Or (b' :: rest) pos) (tE X cl io W Γ ib)) : PE X (.BoolOp .Or (a :: b' :: rest) pos) (tE X cl io W Γ (.or ia ib)) := by
  refine PE.imp (pe_orT ha hb) ?_
  rintro σ H Q ⟨B, Hi0, pin, Hi, ρ, A, R, h⟩
  refine ⟨B, Hi0, pin, Hi, ρ, A, R, ?_⟩
  unfold evE at h
  refine h.bnd fun v1 Hi1 H1 ρ1 A1 d1 e1 R1 r1 h1 => ?_
  cases q : truthy d1 with
  | none => rw [q] at h1; exact h1.elim
  | some k =>
    rw [q] at h1
    refine ⟨k, tru_of R1.i r1 q, ?_⟩
    cases k with
    | true => rw [if_pos rfl]; exact h1.ok R1 r1
    | false => rw [if_neg Bool.false_ne_true]; exact ⟨B, Hi0, pin, Hi1, ρ1, A1, R1, h1⟩
theorem snd_not (ha : PE X a (tE X cl io W Γ ia)) : PE X (.UnaryOp .Not a pos) (tE X cl io W Γ (.not ia)) := by
  refine PE.imp (pe_notT ha) ?_
  rintro σ H Q ⟨B, Hi0, pin, Hi, ρ, A, R, h⟩
  refine ⟨B, Hi0, pin, Hi, ρ, A, R, ?_⟩
  unfold evE at h
  refine h.bnd fun v1 Hi1 H1 ρ1 A1 d1 e1 R1 r1 h1 => ?_
  obtain ⟨d, hd, h2⟩ := ok1_some h1
  cases q : truthy d1 with
  | none => rw [q] at hd; cases hd
  | some k =>
    rw [q] at hd
    cases hd
    exact ⟨k, tru_of R1.i r1 q, h2.ok R1 (.bl _)⟩
/-! tests -/
theorem sndT_val (ha : PE X a (tE X cl io W Γ ia)) (he : ∀ whole, isTrue a X.env whole = (do let v ← whole; standAt a.pos; holding [v] (PySem.truthy v))) : PT X a (tT X cl io W Γ ia) := by
  refine PT.imp (pt_truth ha he) ?_
  rintro σ H Q ⟨B, Hi0, pin, Hi, ρ, A, R, h⟩
  refine ⟨B, Hi0, pin, Hi, ρ, A, R, ?_⟩
  unfold evT at h
  refine h.bnd fun v1 Hi1 H1 ρ1 A1 d1 e1 R1 r1 h1 => ?_
  obtain ⟨k, hk, h2⟩ := ok1_some h1
  exact ⟨k, tru_of R1.i r1 hk, h2.ok R1 rfl⟩
theorem evT_not (ρ : Env) : evT Γ (.not ia) ρ = bnd (evT Γ ia ρ) fun k ρ => some (.ok (!k) ρ) := by
  unfold evT
  rw [evE]
  cases q : evE Γ ia ρ with
  | none => rfl
  | some o =>
    cases o with
    | ex c w r => rfl
    | ok d r =>
      show bnd (ok1 ((truthy d).map fun k => D.bl (!k)) r) _ = bnd (ok1 (truthy d) r) _
      cases truthy d <;> rfl
theorem sndT_not (ha : PT X a (tT X cl io W Γ ia)) : PT X (.UnaryOp .Not a pos) (tT X cl io W Γ (.not ia)) := by
  refine PT.imp (pt_not ha) ?_
  rintro σ H Q ⟨B, Hi0, pin, Hi, ρ, A, R, h⟩
  refine ⟨B, Hi0, pin, Hi, ρ, A, R, ?_⟩
  rw [evT_not] at h
  refine h.bnd fun v1 Hi1 H1 ρ1 A1 d1 e1 R1 r1 h1 => ?_
  cases r1
  exact h1.ok R1 rfl
theorem evT_and (ρ : Env) : evT Γ (.and ia ib) ρ = bnd (evT Γ ia ρ) fun k ρ => match k with | true => evT Γ ib ρ | false => some (.ok false ρ) := by
  unfold evT
  rw [evE]
  cases q : evE Γ ia ρ with
  | none => rfl
  | some o =>
    cases o with
    | ex c w r => rfl
    | ok d r =>
      show bnd (match truthy d with | some true => evE Γ ib r | some false => some (.ok d r) | none => none) _ = bnd (ok1 (truthy d) r) _
      cases q2 : truthy d with
      | none => rfl
      | some k =>
        cases k with
        | true => rfl
        | false =>
          show ok1 (truthy d) r = some (.ok false r)
          rw [q2]
          rfl
theorem evT_or (ρ : Env) : evT Γ (.or ia ib) ρ = bnd (evT Γ ia ρ) fun k ρ => match k with | false => evT Γ ib ρ | true => some (.ok true ρ) := by
  unfold evT
  rw [evE]
  cases q : evE Γ ia ρ with
  | none => rfl
  | some o =>
    cases o with
    | ex c w r => rfl
    | ok d r =>
      show bnd (match truthy d with | some false => evE Γ ib r | some true => some (.ok d r) | none => none) _ = bnd (ok1 (truthy d) r) _
      cases q2 : truthy d with
      | none => rfl
      | some k =>
        cases k with
        | false => rfl
        | true =>
          show ok1 (truthy d) r = some (.ok true r)
          rw [q2]
          rfl
theorem sndT_and {b' : Expr} {rest : List Expr} (ha : PT X a (tT X cl io W Γ ia)) (hb : PW X (.BoolOp .And (b' :: rest) pos) (tT X cl io W Γ ib)) : PW X (.BoolOp .And (a :: b' :: rest) pos) (tT X cl io W Γ (.and ia ib)) := by
  refine ⟨fun wh pins s σ H Q I h => (pw_and ha hb).run wh pins s σ H Q I ?_⟩
  obtain ⟨B, Hi0, pin, Hi, ρ, A, R, h⟩ := h
  refine ⟨B, Hi0, pin, Hi, ρ, A, R, ?_⟩
  rw [evT_and] at h
  refine h.bnd fun v1 Hi1 H1 ρ1 A1 d1 e1 R1 r1 h1 => ?_
  cases r1
  cases v1 with
  | true => rw [if_pos rfl]; exact ⟨B, Hi0, pin, Hi1, ρ1, A1, R1, h1⟩
  | false => rw [if_neg Bool.false_ne_true]; exact h1.ok R1 rfl
theorem sndT_or {b' : Expr} {rest : List Expr} (ha : PT X a (tT X cl io W Γ ia)) (hb : PW X (.BoolOp .Or (b' :: rest) pos) (tT X cl io W Γ ib)) : PW X (.BoolOp .Or (a :: b' :: rest) pos) (tT X cl io W Γ (.or ia ib)) := by
  refine ⟨fun wh pins s σ H Q I h => (pw_or ha hb).run wh pins s σ H Q I ?_⟩
  obtain ⟨B, Hi0, pin, Hi, ρ, A, R, h⟩ := h
  refine ⟨B, Hi0, pin, Hi, ρ, A, R, ?_⟩
  rw [evT_or] at h
  refine h.bnd fun v1 Hi1 H1 ρ1 A1 d1 e1 R1 r1 h1 => ?_
  cases r1
  cases v1 with
  | true => rw [if_pos rfl]; exact h1.ok R1 rfl
  | false => rw [if_neg Bool.false_ne_true]; exact ⟨B, Hi0, pin, Hi1, ρ1, A1, R1, h1⟩
theorem sndT_cmp {op : Cm} (ha : PE X a (tE X cl io W Γ ia)) (hb : PE X b (tE X cl io W Γ ib)) : PT X (.Compare a [cmA op] [b] pos) (tT X cl io W Γ (.cmp op ia ib)) := by
  have go : ∀ (p : Int → Int → Bool), (∀ i j, cmpD op i j = p i j) → ∀ σ H Q, tT X cl io W Γ (.cmp op ia ib) σ H Q → tTest (tOp (rI0 fun i j => .bl (p i j)) (tE X cl io W Γ ia) (tE X cl io W Γ ib)) σ H Q := by
    rintro p hp σ H Q ⟨B, Hi0, pin, Hi, ρ, A, R, h⟩
    refine ⟨B, Hi0, pin, Hi, ρ, A, R, ?_⟩
    unfold evT evE at h
    refine FinG.bnd (R := RV) (R2 := RT) (Q := Q) (f := fun x ρ => bnd (bnd (evE Γ ib ρ) fun y ρ => ok1 (cmpDD op x y) ρ) fun x ρ => ok1 (truthy x) ρ) (by
      cases q : evE Γ ia ρ with
      | none => rw [q] at h; exact h
      | some o => rw [q] at h; cases o <;> exact h) fun v1 Hi1 H1 ρ1 A1 d1 e1 R1 r1 h1 => ?_
    refine ⟨B, Hi0, pin, Hi1, ρ1, A1, R1, ?_⟩
    refine FinG.bnd (R := RV) (R2 := RT) (Q := Q) (f := fun y ρ => bnd (ok1 (cmpDD op d1 y) ρ) fun x ρ => ok1 (truthy x) ρ) (by
      cases q : evE Γ ib ρ1 with
      | none => rw [q] at h1; exact h1
      | some o => rw [q] at h1; cases o <;> exact h1) fun v2 Hi2 H2 ρ2 A2 d2 e2 R2 r2 h2 => ?_
    cases r1 <;> cases r2 <;> try (exact h2.elim)
    refine ⟨_, _, rfl, rfl, _, rfl, ?_⟩
    rw [← hp]
    exact FinG.ok h2 R2 rfl
  cases op with
  | lt => exact PT.imp (pt_cmpR op_lt ha hb (nomark _)) (go _ fun _ _ => rfl)
  | le => exact PT.imp (pt_cmpR op_le ha hb (nomark _)) (go _ fun _ _ => rfl)
  | gt => exact PT.imp (pt_cmpR op_gt ha hb (nomark _)) (go _ fun _ _ => rfl)
  | ge => exact PT.imp (pt_cmpR op_ge ha hb (nomark _)) (go _ fun _ _ => rfl)
theorem sndT_isN {ne : Bool} {j : Nat} {p2 : Pos} (ha : PE X a (tE X cl io W Γ ia)) : PT X (.Compare a [if ne then .IsNot else .Is] [.Constant .none j p2] pos) (tT X cl io W Γ (.isN ne ia)) := by
  have go : ∀ (σ : L2.St) (H : Hp) (Q : Bool → Hp → Prop) (g : Bool → Bool), (∀ k, (if ne then !k else k) = g k) → tT X cl io W Γ (.isN ne ia) σ H Q → tE X cl io W Γ ia σ H fun x H1 => ∃ c, V.bl (g (decide (x = V.non))) = V.bl c ∧ Q c H1 := by
    rintro σ H Q g hg ⟨B, Hi0, pin, Hi, ρ, A, R, h⟩
    refine ⟨B, Hi0, pin, Hi, ρ, A, R, ?_⟩
    unfold evT evE at h
    refine FinG.bnd (R := RV) (R2 := RT) (Q := Q) (f := fun x ρ => bnd (some (Out.ok (D.bl (if ne then !isNon x else isNon x)) ρ)) fun x ρ => ok1 (truthy x) ρ) (by
      cases q : evE Γ ia ρ with
      | none => rw [q] at h; exact h
      | some o => rw [q] at h; cases o <;> exact h) fun v1 Hi1 H1 ρ1 A1 d1 e1 R1 r1 h1 => ?_
    refine ⟨_, rfl, ?_⟩
    have e := isNon_of r1
    rw [e, ← hg]
    exact FinG.ok h1 R1 rfl
  cases ne with
  | false => exact PT.imp (pt_cmp (pc_isN ha) rfl) fun σ H Q h => go σ H Q (fun k => k) (fun _ => rfl) h
  | true => exact PT.imp (pt_cmp (pc_notN ha) rfl) fun σ H Q h => go σ H Q (fun k => !k) (fun _ => rfl) h
theorem sndT_eqq {ne : Bool} (hu : X.A.units + 64 < cLine) (ha : PE X a (tE X cl io W Γ ia)) (hb : PE X b (tE X cl io W Γ ib)) : PT X (.Compare a [if ne then .NotEq else .Eq] [b] pos) (tT X cl io W Γ (.eqq ne ia ib)) := by
  have go : ∀ {r : R2}, (∀ (Hi H : Hp) (x y : V) (dx dy : D) (k : Bool) (Q : VK), Ex Hi H → Rep X.K cl Hi x dx → Rep X.K cl Hi y dy → eqD dx dy = some k → Q (.bl (if ne then !k else k)) H → r x y H Q) →
      ∀ σ H Q, tT X cl io W Γ (.eqq ne ia ib) σ H Q → tTest (tOp r (tE X cl io W Γ ia) (tE X cl io W Γ ib)) σ H Q := by
    rintro r hr σ H Q ⟨B, Hi0, pin, Hi, ρ, A, R, h⟩
    refine ⟨B, Hi0, pin, Hi, ρ, A, R, ?_⟩
    unfold evT evE at h
    refine FinG.bnd (R := RV) (R2 := RT) (Q := Q) (f := fun x ρ => bnd (bnd (evE Γ ib ρ) fun y ρ => ok1 (eqqD ne x y) ρ) fun x ρ => ok1 (truthy x) ρ) (by
      cases q : evE Γ ia ρ with
      | none => rw [q] at h; exact h
      | some o => rw [q] at h; cases o <;> exact h) fun v1 Hi1 H1 ρ1 A1 d1 e1 R1 r1 h1 => ?_
    refine ⟨B, Hi0, pin, Hi1, ρ1, A1, R1, ?_⟩
    refine FinG.bnd (R := RV) (R2 := RT) (Q := Q) (f := fun y ρ => bnd (ok1 (eqqD ne d1 y) ρ) fun x ρ => ok1 (truthy x) ρ) (by
      cases q : evE Γ ib ρ1 with
      | none => rw [q] at h1; exact h1
      | some o => rw [q] at h1; cases o <;> exact h1) fun v2 Hi2 H2 ρ2 A2 d2 e2 R2 r2 h2 => ?_
    cases q1 : eqD d1 d2 with
    | none => unfold eqqD at h2; rw [q1] at h2; exact h2.elim
    | some k =>
      unfold eqqD at h2
      rw [q1] at h2
      refine hr Hi2 H2 v1 v2 d1 d2 k _ R2.i (Rep.mono e2 _ _ r1) r2 q1 ⟨_, rfl, ?_⟩
      exact FinG.ok h2 R2 rfl
  cases ne with
  | false =>
    refine PT.imp (pt_cmpR (op_eqD hu) ha hb (nomark _)) (go fun Hi H x y dx dy k Q e rx ry q1 q => ?_)
    obtain ⟨p1, p2, e1, e2, s1, s2, e3⟩ := eqD_some q1
    exact ⟨p1, p2, rep_dp _ _ _ (Rep.mono e _ _ rx) e1, rep_dp _ _ _ (Rep.mono e _ _ ry) e2, s1, s2, by rw [e3]; exact q⟩
  | true =>
    refine PT.imp (pt_cmpR (op_neD hu) ha hb (nomark _)) (go fun Hi H x y dx dy k Q e rx ry q1 q => ?_)
    obtain ⟨p1, p2, e1, e2, s1, s2, e3⟩ := eqD_some q1
    exact ⟨p1, p2, rep_dp _ _ _ (Rep.mono e _ _ rx) e1, rep_dp _ _ _ (Rep.mono e _ _ ry) e2, s1, s2, by rw [e3]; exact q⟩
theorem snd_ifx (hc : PT X c (tT X cl io W Γ ic)) (ha : PE X a (tE X cl io W Γ ia)) (hb : PE X b (tE X cl io W Γ ib)) : PE X (.IfExp c a b pos) (tE X cl io W Γ (.ifx ic ia ib)) := by
  refine PE.imp (pe_ifExp hc ha hb) ?_
  rintro σ H Q ⟨B, Hi0, pin, Hi, ρ, A, R, h⟩
  refine ⟨B, Hi0, pin, Hi, ρ, A, R, ?_⟩
  unfold evE at h
  refine FinG.bnd (R := RT) h fun v1 Hi1 H1 ρ1 A1 d1 e1 R1 r1 h1 => ?_
  cases r1
  cases v1 with
  | true => rw [if_pos rfl]; exact ⟨B, Hi0, pin, Hi1, ρ1, A1, R1, h1⟩
  | false => rw [if_neg Bool.false_ne_true]; exact ⟨B, Hi0, pin, Hi1, ρ1, A1, R1, h1⟩
end
end VI
set_option maxHeartbeats 2000000
/-! Soundness, second part: built-ins, argument lists, list makers, calls. -/
namespace VI
open PySem L2 Evl
def plainX : Expr → Bool
  | .Starred _ _ => false
  | _ => true
theorem star_cons {e : Expr} {es : List Expr} {env : PySem.Env} (h : plainX e = true) : starEach (e :: es) env = (false, eval e env) :: starEach es env := by
  cases e <;> first | rfl | (cases h; done)
theorem star_any {pos : Pos} {env : PySem.Env} : ∀ {es : List Expr}, es.all plainX = true → (backTo pos (starEach es env)).any (·.1) = false
  | [], _ => rfl
  | e :: es, h => by
    rw [List.all_cons, Bool.and_eq_true] at h
    rw [star_cons h.1]
    show (false || (backTo pos (starEach es env)).any (·.1)) = false
    rw [star_any h.2]
    rfl
section
variable {X : Cx} {cl : Nat → Addr} {io : List Nat} {W : WX} {Γ : Gam} {a b c : Expr} {ia ib ic : E} {pos : Pos}
/-! argument lists -/
theorem snd_anil : PA X [] (tA X cl io W Γ .nil) := by
  refine PA.imp pa_nil ?_
  rintro σ H Q ⟨B, Hi0, pin, Hi, ρ, A, R, h⟩
  unfold evA at h
  exact FinG.ok (v := []) h R RepA.nil
theorem snd_acons {es : List Expr} {ir : A} (hp : plainX a = true) (ha : PE X a (tE X cl io W Γ ia)) (hr : PA X es (tA X cl io W Γ ir)) : PA X (a :: es) (tA X cl io W Γ (.cons ia ir)) := by
  refine PA.imp (pa_cons ha hr (star_cons hp)) ?_
  rintro σ H Q ⟨B, Hi0, pin, Hi, ρ, A, R, h⟩
  refine ⟨B, Hi0, pin, Hi, ρ, A, R, ?_⟩
  unfold evA at h
  refine h.bnd fun v1 Hi1 H1 ρ1 A1 d1 e1 R1 r1 h1 => ?_
  refine ⟨B, Hi0, pin, Hi1, ρ1, A1, R1, h1.bnd fun vs Hi2 H2 ρ2 A2 avs e2 R2 r2 h2 => ?_⟩
  exact h2.ok R2 (.v (Rep.mono e2 _ _ r1) r2)
theorem snd_aio {es : List Expr} {ir : A} {i : Nat} {x : Str} {p : Pos} (hN : X.N[i]? = some x) (hv : Vis X.env.scope x) (hd : (x == ("__debug__" : Str)) = false) (hcd : (x == ("__classdict__" : Str)) = false)
    (hr : PA X es (tA X cl io W Γ ir)) : PA X (.Name x p :: es) (tA X cl io W Γ (.io i ir)) := by
  refine PA.imp (pa_cons (pe_var hN hv hd hcd) hr rfl) ?_
  rintro σ H Q ⟨B, Hi0, pin, Hi, ρ, A, R, h⟩
  unfold evA at h
  cases q : ρ.at i with
  | no => rw [q] at h; exact h.elim
  | v d => rw [q] at h; exact h.elim
  | l ds =>
    rw [q] at h
    obtain ⟨a', vs, h1, h2, h3, h4, h5, h6⟩ := R.own q
    refine ⟨.ref a', sAt_some h2, B, Hi0, pin, Hi, ρ, A, R, ?_⟩
    refine FinG.bnd h fun vs Hi2 H2 ρ2 A2 avs e2 R2 r2 h3' => ?_
    exact h3'.ok R2 (.io h2 r2)
/-! built-ins of one and two values -/
theorem one' {r : List V → Hp → VK → Prop} {f : D → Option D} (hr : ∀ (P : Par) (Hi H : Hp) (x : V) (dx d : D) (Q : VK), P.K = X.K → Ex Hi H → Rep P.K P.cl Hi x dx → f dx = some d → (∀ v, Rep P.K P.cl Hi v d → Q v H) → r [x] H Q)
    {e : E} (he : ∀ ρ, evE Γ e ρ = bnd (evE Γ ia ρ) fun x ρ => ok1 (f x) ρ) (σ : L2.St) (H : Hp) (Q : VK) (h : tE X cl io W Γ e σ H Q) : tCB r (tCons (tE X cl io W Γ ia) tNil) σ H Q := by
  obtain ⟨B, Hi0, pin, Hi, ρ, A, R, h⟩ := h
  rw [he] at h
  refine ⟨B, Hi0, pin, Hi, ρ, A, R, h.bnd fun v1 Hi1 H1 ρ1 A1 d1 e1 R1 r1 h1 => ?_⟩
  obtain ⟨d, hd, h3⟩ := ok1_some h1
  exact hr ⟨X.K, cl, B, Hi0, pin⟩ Hi1 H1 v1 d1 d Q rfl R1.i r1 hd fun v rv => h3.ok R1 rv
theorem two' {r : List V → Hp → VK → Prop} {f : D → D → Option D} (hr : ∀ (P : Par) (Hi H : Hp) (x y : V) (dx dy d : D) (Q : VK), P.K = X.K → Ex Hi H → Rep P.K P.cl Hi x dx → Rep P.K P.cl Hi y dy → f dx dy = some d → (∀ v, Rep P.K P.cl Hi v d → Q v H) → r [x, y] H Q)
    {e : E} (he : ∀ ρ, evE Γ e ρ = bnd (evE Γ ia ρ) fun x ρ => bnd (evE Γ ib ρ) fun y ρ => ok1 (f x y) ρ) (σ : L2.St) (H : Hp) (Q : VK) (h : tE X cl io W Γ e σ H Q) : tCB r (tCons (tE X cl io W Γ ia) (tCons (tE X cl io W Γ ib) tNil)) σ H Q := by
  obtain ⟨B, Hi0, pin, Hi, ρ, A, R, h⟩ := h
  rw [he] at h
  refine ⟨B, Hi0, pin, Hi, ρ, A, R, h.bnd fun v1 Hi1 H1 ρ1 A1 d1 e1 R1 r1 h1 => ?_⟩
  refine ⟨B, Hi0, pin, Hi1, ρ1, A1, R1, h1.bnd fun v2 Hi2 H2 ρ2 A2 d2 e2 R2 r2 h2 => ?_⟩
  obtain ⟨d, hd, h3⟩ := ok1_some h2
  exact hr ⟨X.K, cl, B, Hi0, pin⟩ Hi2 H2 v1 v2 d1 d2 d Q rfl R2.i (Rep.mono e2 _ _ r1) r2 hd fun v rv => h3.ok R2 rv
theorem items_some {K : PySem.W.Frag} {cl : Nat → Addr} {H : Hp} {x : V} {d : D} {ds : List D} (r : Rep K cl H x d) (h : items d = some ds) : ∃ a xs, x = .ref a ∧ Reps K cl H xs ds ∧ (SqL K H a xs ∨ SqT K H a xs) := by
  cases r with
  | tup h1 h2 => cases h; exact ⟨_, _, rfl, h2, .inr h1⟩
  | lst h1 h2 => cases h; exact ⟨_, _, rfl, h2, .inl h1⟩
  | _ => cases h
theorem sq_ex {K : PySem.W.Frag} {Hi H : Hp} {a : Addr} {xs : List V} (e : Ex Hi H) (h : SqL K Hi a xs ∨ SqT K Hi a xs) : SqL K H a xs ∨ SqT K H a xs := h.elim (fun z => .inl (ex_l e z)) fun z => .inr (ex_t e z)
variable {p : Pos}
theorem snd_len (hg : Gl X "len") (hm : X.mg "len" = none) (hp : plainX a = true) (ha : PE X a (tE X cl io W Γ ia)) : PE X (.Call (.Name "len" p) [a] [] pos) (tE X cl io W Γ (.len ia)) := by
  refine PE.imp (pe_callB call_len_seq hg hm PySem.boot_len (pa_cons ha pa_nil (star_cons hp)) (he := star_cons hp) (hpl := rfl)) (one' (f := lenD) (fun P Hi H x dx d Q hK e rx hd q => ?_) fun ρ => by rw [evE])
  unfold lenD at hd
  cases q1 : items dx with
  | none => rw [q1] at hd; cases hd
  | some ds =>
    rw [q1] at hd
    cases hd
    obtain ⟨a', xs, rfl, hr, hs⟩ := items_some rx q1
    rw [← hK]
    refine ⟨a', xs, rfl, sq_ex e hs, ?_⟩
    rw [hr.len]
    exact q _ (.int _)
theorem snd_lenl {i : Nat} {x : Str} {p2 : Pos} (hg : Gl X "len") (hm : X.mg "len" = none) (hN : X.N[i]? = some x) (hv : Vis X.env.scope x) (hd : (x == ("__debug__" : Str)) = false) (hcd : (x == ("__classdict__" : Str)) = false) :
    PE X (.Call (.Name "len" p) [.Name x p2] [] pos) (tE X cl io W Γ (.lenl i)) := by
  refine PE.imp (pe_callB call_len_seq hg hm PySem.boot_len (pa_cons (pe_var hN hv hd hcd) pa_nil)) ?_
  rintro σ H Q ⟨B, Hi0, pin, Hi, ρ, A, R, h⟩
  unfold evE at h
  cases q : ρ.at i with
  | no => rw [q] at h; exact h.elim
  | v d =>
    rw [q] at h
    obtain ⟨v, h1, h2⟩ := Rel.val ⟨A, R⟩ q
    obtain ⟨k, hk, h3⟩ := ok1_some h
    unfold lenD at hk
    cases q1 : items d with
    | none => rw [q1] at hk; cases hk
    | some ds =>
      rw [q1] at hk
      cases hk
      obtain ⟨a', xs, rfl, hr, hs⟩ := items_some h2 q1
      refine ⟨.ref a', h1, a', xs, rfl, sq_ex R.i hs, ?_⟩
      rw [hr.len]
      exact h3.ok R (.int _)
  | l ds =>
    rw [q] at h
    obtain ⟨a', vs, h1, h2, h3, h4, h5, h6⟩ := R.own q
    refine ⟨.ref a', sAt_some h2, a', vs, rfl, .inl (.inl (.inl h3)), ?_⟩
    rw [h4.len]
    exact h.ok R (.int _)
theorem snd_abs (hg : Gl X "abs") (hm : X.mg "abs" = none) (hp : plainX a = true) (ha : PE X a (tE X cl io W Γ ia)) : PE X (.Call (.Name "abs" p) [a] [] pos) (tE X cl io W Γ (.abs ia)) := by
  refine PE.imp (pe_callB call_abs hg hm (by decide +kernel) (pa_cons ha pa_nil (star_cons hp)) (he := star_cons hp) (hpl := rfl)) (one' (f := absD) (fun P Hi H x dx d Q hK e rx hd q => ?_) fun ρ => by rw [evE])
  cases rx <;> cases hd
  exact ⟨_, rfl, q _ (.int _)⟩
theorem snd_int1 (hg : Gl X "int") (hm : X.mg "int" = none) (hp : plainX a = true) (ha : PE X a (tE X cl io W Γ ia)) : PE X (.Call (.Name "int" p) [a] [] pos) (tE X cl io W Γ (.int1 ia)) := by
  refine PE.imp (pe_callTy call_int1 hg hm (by decide +kernel) (pa_cons ha pa_nil (star_cons hp)) (he := star_cons hp) (hpl := rfl)) (one' (f := int1D) (fun P Hi H x dx d Q hK e rx hd q => ?_) fun ρ => by rw [evE])
  cases rx <;> cases hd
  exact .inl ⟨_, rfl, q _ (.int _)⟩
theorem snd_tupOf (hg : Gl X "tuple") (hm : X.mg "tuple" = none) (hp : plainX a = true) (ha : PE X a (tE X cl io W Γ ia)) : PE X (.Call (.Name "tuple" p) [a] [] pos) (tE X cl io W Γ (.tupOf ia)) := by
  refine PE.imp (pe_callTy call_tuple_of hg hm (by decide +kernel) (pa_cons ha pa_nil (star_cons hp)) (he := star_cons hp) (hpl := rfl)) ?_
  rintro σ H Q ⟨B, Hi0, pin, Hi, ρ, A, R, h⟩
  refine ⟨B, Hi0, pin, Hi, ρ, A, R, ?_⟩
  unfold evE at h
  refine h.bnd fun v1 Hi1 H1 ρ1 A1 d1 e1 R1 r1 h1 => ?_
  obtain ⟨d, hd, h3⟩ := ok1_some h1
  cases r1 <;> cases hd
  · rename_i a' xs ds h4 h5
    exact ⟨a', xs, rfl, .inr ⟨ex_t R1.i h4, h3.ok R1 (.tup h4 h5)⟩⟩
  · rename_i a' xs ds h4 h5
    refine ⟨a', xs, rfl, .inl ⟨ex_l R1.i h4, fun l hl => ?_⟩⟩
    obtain ⟨A2, R2⟩ := Rel.newD (o := .tup xs) ⟨A1, R1⟩ hl
    have e2 : Ex Hi1 (upd Hi1 l (.tup xs)) := Ex.new (Rel.hfree ⟨A1, R1⟩ hl)
    exact h3.ok' e2 R2 (.tup (.inl (.inl upd_same)) (h5.mono e2))
theorem snd_min2 (hc : X.calm = true) (hg : Gl X "min") (hm : X.mg "min" = none) (hp : plainX a = true) (hp' : plainX b = true) (ha : PE X a (tE X cl io W Γ ia)) (hb : PE X b (tE X cl io W Γ ib)) : PE X (.Call (.Name "min" p) [a, b] [] pos) (tE X cl io W Γ (.min2 ia ib)) := by
  refine PE.imp (pe_callB (call_min2 hc) hg hm (by decide +kernel) (pa_cons ha (pa_cons hb pa_nil (star_cons hp')) (star_cons hp)) (he := star_cons hp) (hpl := star_any (by rw [List.all_cons, hp'] <;> rfl))) (two' (f := min2D) (fun P Hi H x y dx dy d Q hK e rx ry hd q => ?_) fun ρ => by rw [evE])
  cases rx <;> cases ry <;> cases hd
  exact ⟨_, _, rfl, q _ (.int _)⟩
theorem snd_max2 (hc : X.calm = true) (hg : Gl X "max") (hm : X.mg "max" = none) (hp : plainX a = true) (hp' : plainX b = true) (ha : PE X a (tE X cl io W Γ ia)) (hb : PE X b (tE X cl io W Γ ib)) : PE X (.Call (.Name "max" p) [a, b] [] pos) (tE X cl io W Γ (.max2 ia ib)) := by
  refine PE.imp (pe_callB (call_max2 hc) hg hm (by decide +kernel) (pa_cons ha (pa_cons hb pa_nil (star_cons hp')) (star_cons hp)) (he := star_cons hp) (hpl := star_any (by rw [List.all_cons, hp'] <;> rfl))) (two' (f := max2D) (fun P Hi H x y dx dy d Q hK e rx ry hd q => ?_) fun ρ => by rw [evE])
  cases rx <;> cases ry <;> cases hd
  exact ⟨_, _, rfl, q _ (.int _)⟩
theorem snd_gcd {x : Str} (hg : Gl X x) (hm : X.mg x = some (.builtin "math.gcd")) (hdb : (x == ("__debug__" : Str)) = false) (hp : plainX a = true) (hp' : plainX b = true) (ha : PE X a (tE X cl io W Γ ia)) (hb : PE X b (tE X cl io W Γ ib)) : PE X (.Call (.Name x p) [a, b] [] pos) (tE X cl io W Γ (.gcd ia ib)) := by
  refine PE.imp (pe_callBfun cr_gcd hg hm (pa_cons ha (pa_cons hb pa_nil (star_cons hp')) (star_cons hp)) hdb (he := star_cons hp) (hpl := star_any (by rw [List.all_cons, hp'] <;> rfl))) (two' (f := gcdD) (fun P Hi H x y dx dy d Q hK e rx ry hd q => ?_) fun ρ => by rw [evE])
  cases rx <;> cases ry <;> cases hd
  exact ⟨_, _, rfl, q _ (.int _)⟩
theorem snd_bits {p2 : Pos} (hb : attributeBase a "bit_length" X.env (eval a X.env) = eval a X.env) (hl : (p2.endLine == pos.line) = true) (ha : PE X a (tE X cl io W Γ ia)) : PE X (.Call (.Attribute a "bit_length" p2) [] [] pos) (tE X cl io W Γ (.bits ia)) := by
  refine PE.imp (pe_bits ha hb hl) ?_
  rintro σ H Q ⟨B, Hi0, pin, Hi, ρ, A, R, h⟩
  refine ⟨B, Hi0, pin, Hi, ρ, A, R, ?_⟩
  unfold evE at h
  refine h.bnd fun v1 Hi1 H1 ρ1 A1 d1 e1 R1 r1 h1 => ?_
  obtain ⟨d, hd, h3⟩ := ok1_some h1
  cases r1 <;> cases hd
  exact ⟨_, rfl, h3.ok R1 (.int _)⟩
theorem ixN_len {α β : Type} {xs : List α} {ys : List β} {i : Int} (h : xs.length = ys.length) {y : β} (e : atI ys i = some y) : ∃ j, ixN xs.length i = some j ∧ ys[j]? = some y := by
  unfold atI at e
  rw [← h] at e
  cases q : ixN xs.length i with
  | none => rw [q] at e; cases e
  | some j => rw [q] at e; exact ⟨j, rfl, e⟩
theorem reps_at {K : PySem.W.Frag} {cl : Nat → Addr} {H : Hp} {xs : List V} {ds : List D} {i : Int} {d : D} (r : Reps K cl H xs ds) (h : atI ds i = some d) : ∃ v, atI xs i = some v ∧ Rep K cl H v d := by
  obtain ⟨j, h1, h2⟩ := ixN_len r.len h
  obtain ⟨v, h3, h4⟩ := r.get h2
  refine ⟨v, ?_, h4⟩
  unfold atI
  rw [h1]
  exact h3
theorem snd_ix (hs : PlainIx b) (ha : PE X a (tE X cl io W Γ ia)) (hb : PE X b (tE X cl io W Γ ib)) : PE X (.Subscript a b pos) (tE X cl io W Γ (.ix ia ib)) := by
  refine PE.imp (pe_ix (ix_list.or ix_tup) ha hb hs) (two (f := ixD) (fun P Hi H x y dx dy d Q hK e rx ry hd q => ?_) fun ρ => by rw [evE])
  cases ry <;> try (cases hd; done)
  rename_i i
  unfold ixD at hd
  cases q1 : items dx with
  | none => rw [q1] at hd; cases hd
  | some ds =>
    rw [q1] at hd
    obtain ⟨a', xs, rfl, hr, hs⟩ := items_some rx q1
    obtain ⟨v, h1, h2⟩ := reps_at hr (show atI ds i = some d from hd)
    rw [hK] at hs h2
    rcases hs with hs | hs
    · exact .inl ⟨a', xs, i, v, rfl, rfl, ex_l e hs, h1, q v (by rw [hK]; exact h2)⟩
    · exact .inr ⟨a', xs, i, v, rfl, rfl, ex_t e hs, h1, q v (by rw [hK]; exact h2)⟩
theorem snd_pop {i : Nat} {x : Str} {p2 p3 : Pos} (hl : (p3.endLine == pos.line) = true) (hN : X.N[i]? = some x) (hv : Vis X.env.scope x) (hd : (x == ("__debug__" : Str)) = false) (hcd : (x == ("__classdict__" : Str)) = false) :
    PE X (.Call (.Attribute (.Name x p2) "pop" p3) [] [] pos) (tE X cl io W Γ (.pop i)) := by
  refine PE.imp (pe_bm0 PySem.F.plainAttrs_list PySem.F.slot_list_pop PySem.F.type_list_pop mt_pop (pe_var hN hv hd hcd) rfl hl) ?_
  rintro σ H Q ⟨B, Hi0, pin, Hi, ρ, A, R, h⟩
  unfold evE at h
  cases q : ρ.at i with
  | no => rw [q] at h; exact h.elim
  | v d => rw [q] at h; exact h.elim
  | l ds =>
    rw [q] at h
    obtain ⟨d, hd, h2⟩ := ok1_some h
    obtain ⟨a', vs, h3, h4, h5, h6⟩ := Rel.mutL (ds' := ds.dropLast) ⟨A, R⟩ q
    obtain ⟨v, h7, h8⟩ := h5.get hd
    obtain ⟨A', R'⟩ := h6 _ h5.dropLast
    refine ⟨.ref a', h3, .inl ⟨rfl, _, .inl (.inl h4)⟩, a', vs, v, rfl, rfl, h4, by rw [h5.len]; exact h7, h2.ok R' h8⟩
theorem snd_listOf (hg : Gl X "list") (hm : X.mg "list" = none) (hp : plainX a = true) (ha : PE X a (tE X cl io W Γ ia)) : PE X (.Call (.Name "list" p) [a] [] pos) (tL X cl io W Γ (.listOf ia)) := by
  refine PE.imp (pe_callTy call_list_of hg hm (by decide +kernel) (pa_cons ha pa_nil (star_cons hp)) (he := star_cons hp) (hpl := rfl)) ?_
  rintro σ H Q ⟨B, Hi0, pin, Hi, ρ, A, R, h⟩
  refine ⟨B, Hi0, pin, Hi, ρ, A, R, ?_⟩
  unfold evL at h
  refine h.bnd fun v1 Hi1 H1 ρ1 A1 d1 e1 R1 r1 h1 => ?_
  obtain ⟨ds, hd, h3⟩ := ok1_some h1
  obtain ⟨a', xs, rfl, hr, hs⟩ := items_some r1 hd
  refine ⟨a', xs, rfl, sq_ex R1.i hs, fun l hl => ?_⟩
  have R2 := R1.step (H' := upd H1 l (.lst xs)) (Ex.refl _) (fun a u e => Ex.new hl a u (R1.i a u e)) (fun a u e n => Ex.new hl a u e) (fun _ _ e => e)
  refine h3.ok R2 ⟨l, xs, rfl, upd_same, hr, Rel.hfree ⟨A1, R1⟩ hl, fresh_back R1.b hl, fun j hj => ?_⟩
  have := R1.sl j
  cases q2 : ρ1.at j with
  | no => rw [q2] at this; have t2 : A1 j = [] := this; rw [t2] at hj; cases hj
  | v d => rw [q2] at this; obtain ⟨t2, _⟩ := this; rw [t2] at hj; cases hj
  | l ds =>
    rw [q2] at this
    obtain ⟨a', vs', t2, _, t3, _⟩ := this
    rw [t2] at hj
    have t4 := List.mem_singleton.mp hj
    subst t4
    rw [hl] at t3
    cases t3
/-! isinstance -/
theorem ty_of {K : PySem.W.Frag} {Hi H : Hp} {x : V} {d : D} {t : String} (e : Ex Hi H) (r : Rep K cl Hi x d) (h : tyOf d = some t) : TyX K H x (.type t) := by
  cases r with
  | non => cases h; exact .base .non
  | bl b => cases h; exact .base (.bl b)
  | int i => cases h; exact .base (.int i)
  | str z => cases h; exact .base (.str z)
  | tup h1 _ =>
    cases h
    rcases ex_t e h1 with (h2 | ⟨o, h2⟩) | ⟨o, its, n, h2, h3, _⟩
    · exact .base (.tup h2)
    · exact .fTuple h2
    · exact .kTuple h2 h3
  | lst h1 _ =>
    cases h
    rcases ex_l e h1 with (h2 | ⟨o, h2⟩) | ⟨o, its, n, h2, h3, _⟩
    · exact .base (.lst h2)
    · exact .base (.frz h2)
    · exact .kList h2 h3
  | ins _ _ => cases h
theorem kit_all : (["NoneType", "bool", "int", "str", "tuple", "list"].all fun t => [Ty.int, .bool, .str, .tuple, .list].all fun u => decide (kitB t u.name = some (decide (t = u.name) || (decide (t = "bool") && decide (u = .int))))) = true := by decide +kernel
theorem kit_one {d : D} {t : String} {u : Ty} (h : tyOf d = some t) : kitB t u.name = some (isTy d u) := by
  have k := kit_all
  rw [List.all_eq_true] at k
  have hu : u ∈ [Ty.int, .bool, .str, .tuple, .list] := by cases u <;> decide
  have go : ∀ s, s ∈ ["NoneType", "bool", "int", "str", "tuple", "list"] → kitB s u.name = some (decide (s = u.name) || (decide (s = "bool") && decide (u = .int))) := fun s hs => of_decide_eq_true ((List.all_eq_true.mp (k s hs)) u hu)
  cases d with
  | non => cases h; rw [go "NoneType" (by decide)]; cases u <;> decide
  | bl b => cases h; rw [go "bool" (by decide)]; cases u <;> rfl
  | int b => cases h; rw [go "int" (by decide)]; cases u <;> rfl
  | str b => cases h; rw [go "str" (by decide)]; cases u <;> rfl
  | tup b => cases h; rw [go "tuple" (by decide)]; cases u <;> rfl
  | lst b => cases h; rw [go "list" (by decide)]; cases u <;> rfl
  | ins _ _ => cases h
theorem kit_any {K : PySem.W.Frag} {d : D} {t : String} (h : tyOf d = some t) : ∀ ts : List Ty, PySem.W.kitAny K (.type t) (ts.map fun u => .type u.name) = some (ts.any fun u => isTy d u)
  | [] => rfl
  | u :: r => by
    have h1 := kit_ty (K := K) (kit_one (u := u) h)
    rw [List.map_cons, List.any_cons]
    refine kitAny_cons h1 (fun hb => ?_) fun hb => ?_
    · rw [hb, Bool.false_or]; exact kit_any h r
    · rw [hb, Bool.true_or]
theorem boot_ty (t : Ty) : bootBuiltins (Str.ofString t.name) = some (.type t.name) := by cases t <;> decide +kernel
theorem pe_ty {t : Ty} (hg : Gl X (Str.ofString t.name)) (hm : X.mg (Str.ofString t.name) = none) : PE X (.Name (Str.ofString t.name) p) (tC (.ty t.name)) :=
  pe_bltn hg hm (boot_ty t) rfl (by cases t <;> decide) (by cases t <;> decide)
theorem snd_isT1 {t : Ty} {p2 : Pos} (hg : Gl X "isinstance") (hm : X.mg "isinstance" = none) (hg2 : Gl X (Str.ofString t.name)) (hm2 : X.mg (Str.ofString t.name) = none) (hp : plainX a = true) (ha : PE X a (tE X cl io W Γ ia)) :
    PE X (.Call (.Name "isinstance" p) [a, .Name (Str.ofString t.name) p2] [] pos) (tE X cl io W Γ (.isT ia [t])) := by
  refine PE.imp (pe_callB call_isi hg hm (by decide +kernel) (pa_cons ha (pa_cons (pe_ty hg2 hm2) pa_nil) (star_cons hp)) (he := star_cons hp) (hpl := rfl)) ?_
  rintro σ H Q ⟨B, Hi0, pin, Hi, ρ, A, R, h⟩
  refine ⟨B, Hi0, pin, Hi, ρ, A, R, ?_⟩
  unfold evE at h
  refine h.bnd fun v1 Hi1 H1 ρ1 A1 d1 e1 R1 r1 h1 => ?_
  obtain ⟨d, hd, h3⟩ := ok1_some h1
  unfold isTDD isTyD at hd
  cases q : tyOf d1 with
  | none => rw [q] at hd; cases hd
  | some s =>
    rw [q] at hd
    cases hd
    refine ⟨v1, .ty t.name, .type s, .type t.name, isTy d1 t, rfl, .ty _, ty_of R1.i r1 q, kit_ty (kit_one q), ?_⟩
    have e : ([t].any fun u => isTy d1 u) = isTy d1 t := by rw [List.any_cons]; simp
    rw [← e]
    exact h3.ok R1 (.bl _)
inductive TyArgs (X : Cx) : List Ty → List Expr → Prop
  | nil : TyArgs X [] []
  | cons {t : Ty} {e : Expr} {ts : List Ty} {es : List Expr} (h : ∃ p2, e = .Name (Str.ofString t.name) p2 ∧ Gl X (Str.ofString t.name) ∧ X.mg (Str.ofString t.name) = none) (r : TyArgs X ts es) : TyArgs X (t :: ts) (e :: es)
theorem snd_tys : ∀ {ts : List Ty} {es : List Expr}, TyArgs X ts es →
    PA X es (fun _ H Q => Q (ts.map fun t => V.ty t.name) H)
  | _, _, .nil => pa_nil
  | _, _, .cons ⟨p2, he, h1, h2⟩ t => by
    subst he
    exact PA.imp (pa_cons (pe_ty h1 h2) (snd_tys t)) fun σ H Q h => h
theorem cls_tys : ∀ ts : List Ty, Paired ClsV (ts.map fun t => V.ty t.name) (ts.map fun t => Value.type t.name)
  | [] => .nil
  | t :: r => .cons (.ty _) (cls_tys r)
theorem snd_isTs {ts : List Ty} {es : List Expr} {k : Nat} {p2 : Pos} (hl : ts.length ≤ sizeLine) (hg : Gl X "isinstance") (hm : X.mg "isinstance" = none)
    (ht : TyArgs X ts es) (hp : plainX a = true) (ha : PE X a (tE X cl io W Γ ia)) :
    PE X (.Call (.Name "isinstance" p) [a, .Tuple es k p2] [] pos) (tE X cl io W Γ (.isT ia ts)) := by
  refine PE.imp (pe_callB call_isiT hg hm (by decide +kernel) (pa_cons ha (pa_cons (pe_tup (snd_tys ht)) pa_nil) (star_cons hp)) (he := star_cons hp) (hpl := rfl)) ?_
  rintro σ H Q ⟨B, Hi0, pin, Hi, ρ, A, R, h⟩
  refine ⟨B, Hi0, pin, Hi, ρ, A, R, ?_⟩
  unfold evE at h
  refine h.bnd fun v1 Hi1 H1 ρ1 A1 d1 e1 R1 r1 h1 => ?_
  obtain ⟨d, hd, h3⟩ := ok1_some h1
  unfold isTDD isTyD at hd
  cases q : tyOf d1 with
  | none => rw [q] at hd; cases hd
  | some s =>
    rw [q] at hd
    cases hd
    refine ⟨by rw [List.length_map]; exact hl, fun l hl' => ?_⟩
    obtain ⟨A2, R2⟩ := Rel.newO (o := .tup (ts.map fun t => V.ty t.name)) ⟨A1, R1⟩ hl'
    exact ⟨v1, l, _, .type s, _, _, rfl, upd_same, cls_tys ts, ty_of R2.i r1 q, kit_any q ts, h3.ok R2 (.bl _)⟩
end
end VI
set_option maxHeartbeats 2000000
/-! Soundness, third part: calls of defs. -/
namespace VI
open PySem L2 Evl
/-! ### the arguments' places -/
def posIo : List AV → Nat → Option Nat
  | [], _ => none
  | .v _ :: r, j => (posIo r j).map (· + 1)
  | .io i :: r, j => if i = j then some 0 else (posIo r j).map (· + 1)
theorem posIo_some : ∀ {avs : List AV} {j k : Nat}, posIo avs j = some k → avs[k]? = some (.io j)
  | [], _, _, h => by cases h
  | .v _ :: r, j, k, h => by
    unfold posIo at h
    cases q : posIo r j with
    | none => rw [q] at h; cases h
    | some m => rw [q] at h; cases h; simpa using posIo_some q
  | .io i :: r, j, k, h => by
    unfold posIo at h
    by_cases e : i = j
    · rw [if_pos e] at h; cases h; rw [e]; rfl
    · rw [if_neg e] at h
      cases q : posIo r j with
      | none => rw [q] at h; cases h
      | some m => rw [q] at h; cases h; simpa using posIo_some q
theorem posIo_mem : ∀ {avs : List AV} {j : Nat}, j ∈ iosOf avs → ∃ k, posIo avs j = some k
  | [], _, h => by cases h
  | .v _ :: r, j, h => by
    obtain ⟨k, e⟩ := posIo_mem (avs := r) (show j ∈ iosOf r from h)
    exact ⟨k + 1, by unfold posIo; rw [e]; rfl⟩
  | .io i :: r, j, h => by
    unfold posIo
    by_cases e : i = j
    · exact ⟨0, if_pos e⟩
    · rw [if_neg e]
      have h' : j ∈ i :: iosOf r := h
      rcases List.mem_cons.mp h' with q | q
      · exact absurd q.symm e
      · obtain ⟨k, e2⟩ := posIo_mem q
        exact ⟨k + 1, by rw [e2]; rfl⟩
theorem mem_ios : ∀ {avs : List AV} {j k : Nat}, avs[k]? = some (.io j) → j ∈ iosOf avs
  | [], _, _, h => by simp at h
  | .v _ :: r, j, 0, h => by simp at h
  | .v _ :: r, j, k + 1, h => mem_ios (avs := r) (k := k) (by simpa using h)
  | .io i :: r, j, 0, h => by
    simp at h
    subst h
    exact List.mem_cons_self
  | .io i :: r, j, k + 1, h => List.mem_cons_of_mem _ (mem_ios (avs := r) (k := k) (by simpa using h))
theorem ios_inj : ∀ {avs : List AV} {j k m : Nat}, (iosOf avs).Nodup → avs[k]? = some (.io j) → avs[m]? = some (.io j) → k = m
  | [], _, _, _, _, h, _ => by simp at h
  | .v _ :: r, j, 0, _, _, h, _ => by simp at h
  | .v _ :: r, j, _ + 1, 0, _, _, h => by simp at h
  | .v _ :: r, j, k + 1, m + 1, n, h1, h2 => congrArg (· + 1) (ios_inj (avs := r) n (by simpa using h1) (by simpa using h2))
  | .io i :: r, j, 0, 0, _, _, _ => rfl
  | .io i :: r, j, 0, m + 1, n, h1, h2 => by
    simp at h1
    subst h1
    exact absurd (mem_ios (avs := r) (k := m) (by simpa using h2)) (List.nodup_cons.mp n).1
  | .io i :: r, j, k + 1, 0, n, h1, h2 => by
    simp at h2
    subst h2
    exact absurd (mem_ios (avs := r) (k := k) (by simpa using h1)) (List.nodup_cons.mp n).1
  | .io i :: r, j, k + 1, m + 1, n, h1, h2 => congrArg (· + 1) (ios_inj (avs := r) (List.nodup_cons.mp n).2 (by simpa using h1) (by simpa using h2))
theorem slotsOf_len {ρ : Env} : ∀ avs : List AV, (slotsOf ρ avs).length = avs.length
  | [] => rfl
  | .v _ :: r => congrArg (· + 1) (slotsOf_len r)
  | .io _ :: r => congrArg (· + 1) (slotsOf_len r)
theorem at_nil (k : Nat) : Env.at [] k = .no := by unfold Env.at; rw [List.getD_eq_getElem?_getD]; rfl
theorem at_zero (s : Slot) (r : Env) : Env.at (s :: r) 0 = s := rfl
theorem at_succ (s : Slot) (r : Env) (k : Nat) : Env.at (s :: r) (k + 1) = Env.at r k := by unfold Env.at; rw [List.getD_cons_succ]
theorem slotsOf_at {ρ : Env} : ∀ (avs : List AV) (k : Nat), Env.at (slotsOf ρ avs) k = match avs[k]? with | some (.v d) => .v d | some (.io i) => ρ.at i | none => .no
  | [], k => at_nil k
  | .v _ :: r, 0 => rfl
  | .io _ :: r, 0 => rfl
  | .v _ :: r, k + 1 => by
    show Env.at (_ :: slotsOf ρ r) (k + 1) = _
    rw [at_succ, slotsOf_at r k, List.getElem?_cons_succ]
  | .io _ :: r, k + 1 => by
    show Env.at (_ :: slotsOf ρ r) (k + 1) = _
    rw [at_succ, slotsOf_at r k, List.getElem?_cons_succ]
theorem putBack_len : ∀ (avs : List AV) (outs : List Slot) (ρ : Env), (putBack ρ avs outs).length = ρ.length
  | [], _, _ => by unfold putBack; rfl
  | .v _ :: r, [], _ => by unfold putBack; rfl
  | .io _ :: r, [], _ => by unfold putBack; rfl
  | .v _ :: r, s :: o, ρ => by unfold putBack; exact putBack_len r o ρ
  | .io i :: r, s :: o, ρ => by unfold putBack; rw [putBack_len r o, List.length_set]
theorem putBack_at : ∀ (avs : List AV) (outs : List Slot) (ρ : Env) (j : Nat), avs.length = outs.length → (iosOf avs).Nodup → (∀ i ∈ iosOf avs, i < ρ.length) →
    (putBack ρ avs outs).at j = match posIo avs j with | some k => Env.at outs k | none => ρ.at j
  | [], [], ρ, j, _, _, _ => by unfold putBack; rfl
  | [], _ :: _, _, _, h, _, _ => by cases h
  | _ :: _, [], _, _, h, _, _ => by cases h
  | .v _ :: r, s :: o, ρ, j, hl, hn, hb => by
    have hl' : r.length = o.length := by simpa using hl
    unfold putBack posIo
    rw [putBack_at r o ρ j hl' hn hb]
    cases posIo r j with
    | none => rfl
    | some k => show _ = Env.at (s :: o) (k + 1); rw [at_succ]
  | .io i :: r, s :: o, ρ, j, hl, hn, hb => by
    have hl' : r.length = o.length := by simpa using hl
    have hn' := List.nodup_cons.mp (show (i :: iosOf r).Nodup from hn)
    unfold putBack posIo
    rw [putBack_at r o _ j hl' hn'.2 fun k hk => by rw [List.length_set]; exact hb k (List.mem_cons_of_mem _ hk)]
    have hi : i < ρ.length := hb i List.mem_cons_self
    by_cases e : i = j
    · rw [if_pos e]
      cases q : posIo r j with
      | none => show Env.at (ρ.set i s) j = s; rw [at_set hi, if_pos e.symm]
      | some k => exact absurd (mem_ios (posIo_some q)) (by rw [← e]; exact hn'.1)
    · rw [if_neg e]
      cases q : posIo r j with
      | none => show Env.at (ρ.set i s) j = ρ.at j; rw [at_set hi, if_neg (Ne.symm e)]
      | some k => show _ = Env.at (s :: o) (k + 1); rw [at_succ]
theorem RepA.at {P : Par} {Hi : Hp} {σ : L2.St} : ∀ {vs : List V} {avs : List AV}, RepA P Hi σ vs avs → ∀ (k : Nat), match avs[k]? with
    | some (.v d) => ∃ v, vs[k]? = some v ∧ Rep P.K P.cl Hi v d
    | some (.io i) => ∃ v, vs[k]? = some v ∧ sAt σ i = some v
    | none => vs[k]? = none
  | _, _, .nil, k => by simp
  | _, _, .v r t, 0 => ⟨_, rfl, r⟩
  | _, _, .io r t, 0 => ⟨_, rfl, r⟩
  | _, _, .v r t, k + 1 => by
    have := t.at k
    rw [List.getElem?_cons_succ, List.getElem?_cons_succ]
    exact this
  | _, _, .io r t, k + 1 => by
    have := t.at k
    rw [List.getElem?_cons_succ, List.getElem?_cons_succ]
    exact this
/-! ### into the call -/
def cellsOf (A : Nat → List Addr) (avs : List AV) : List Addr := (iosOf avs).flatMap A
def Bc (H : Hp) (A : Nat → List Addr) (avs : List AV) : Hp := fun p => if p ∈ cellsOf A avs then none else H p
def Ac (A : Nat → List Addr) (avs : List AV) : Nat → List Addr := fun k => match avs[k]? with
  | some (.io i) => A i
  | _ => []
def pinc (A : Nat → List Addr) (avs : List AV) : List (Nat × Addr) := (List.range avs.length).flatMap fun k => (Ac A avs k).map fun a => (k, a)
theorem mem_cells {A : Nat → List Addr} {avs : List AV} {a : Addr} : a ∈ cellsOf A avs ↔ ∃ i, i ∈ iosOf avs ∧ a ∈ A i := by
  unfold cellsOf
  rw [List.mem_flatMap]
theorem sAt_map (vs : List V) (k : Nat) : sAt (vs.map some) k = vs[k]? := by
  unfold sAt
  rw [List.getElem?_map]
  cases vs[k]? <;> rfl
section
variable {P : Par} {io io' : List Nat} {Hi Hi' H H' : Hp} {σ : L2.St} {ρ : Env} {A : Nat → List Addr} {vs : List V} {avs : List AV}
theorem call_in (R : RelA P io Hi H σ ρ A) (r : RepA P Hi σ vs avs) (nd : (iosOf avs).Nodup) (hio : ∀ k, isOwn (Env.at (slotsOf ρ avs) k) = true → k ∈ io') :
    RelA ⟨P.K, P.cl, Bc H A avs, Hi, pinc A avs⟩ io' Hi H (vs.map some) (slotsOf ρ avs) (Ac A avs) where
  b := fun p o e => by
    unfold Bc at e
    by_cases q : p ∈ cellsOf A avs
    · simp only [q, if_true] at e; cases e
    · simp only [q, if_false] at e; exact e
  i := R.i
  i0 := Ex.refl _
  fr := fun _ _ h => h
  len := by rw [List.length_map, slotsOf_len, r.len]
  sl := fun k => by
    have h := r.at k
    rw [sAt_map, slotsOf_at]
    unfold Ac
    cases q : avs[k]? with
    | none => rfl
    | some av =>
      rw [q] at h
      cases av with
      | v d =>
        obtain ⟨v, h1, h2⟩ := h
        exact ⟨rfl, v, h1, h2⟩
      | io i =>
        obtain ⟨v, h1, h2⟩ := h
        rw [h1, ← h2]
        have h3 := R.sl i
        show SlotOk _ Hi H (sAt σ i) (ρ.at i) (A i)
        cases q2 : ρ.at i <;> rw [q2] at h3 <;> exact h3
  ow := fun k a ha => by
    unfold Ac at ha
    cases q : avs[k]? with
    | none => rw [q] at ha; cases ha
    | some av =>
      rw [q] at ha
      cases av with
      | v d => cases ha
      | io i =>
        refine ⟨(R.ow i a ha).1, ?_⟩
        show Bc H A avs a = none
        unfold Bc
        rw [if_pos (mem_cells.mpr ⟨i, mem_ios q, ha⟩)]
  nd := fun k => by
    unfold Ac
    cases q : avs[k]? with
    | none => exact List.nodup_nil
    | some av =>
      cases av with
      | v d => exact List.nodup_nil
      | io i => exact R.nd i
  dj := fun k m hkm a ha => by
    unfold Ac at ha ⊢
    cases q : avs[k]? with
    | none => rw [q] at ha; cases ha
    | some av =>
      rw [q] at ha
      cases av with
      | v d => cases ha
      | io i =>
        cases q2 : avs[m]? with
        | none => exact List.not_mem_nil
        | some av2 =>
          cases av2 with
          | v d => exact List.not_mem_nil
          | io j =>
            refine R.dj i j (fun e => hkm ?_) a ha
            rw [← e] at q2
            exact ios_inj nd q q2
  pn := fun p hp => by
    obtain ⟨k, hk, h1⟩ := List.mem_flatMap.mp (show p ∈ pinc A avs from hp)
    obtain ⟨a, ha, rfl⟩ := List.mem_map.mp h1
    have ha' := ha
    unfold Ac at ha
    cases q : avs[k]? with
    | none => rw [q] at ha; cases ha
    | some av =>
      rw [q] at ha
      cases av with
      | v d => cases ha
      | io i =>
        replace ha : a ∈ A i := ha
        have h := r.at k
        rw [q] at h
        obtain ⟨v, h2, h3⟩ := h
        have h4 := R.sl i
        have own : ∃ ds, ρ.at i = .l ds := by
          cases q2 : ρ.at i with
          | no => rw [q2] at h4; have t2 : A i = [] := h4; rw [t2] at ha; cases ha
          | v d => rw [q2] at h4; obtain ⟨t2, _⟩ := h4; rw [t2] at ha; cases ha
          | l ds => exact ⟨ds, rfl⟩
        obtain ⟨ds, hds⟩ := own
        obtain ⟨a', vs', t1, t2, _⟩ := R.own hds
        rw [t1] at ha
        have ea := List.mem_singleton.mp ha
        subst ea
        refine ⟨?_, hio k ?_⟩
        · show sAt (vs.map some) k = _
          rw [sAt_map, h2, ← h3, t2]
        · rw [slotsOf_at, q]
          show isOwn (ρ.at i) = true
          rw [hds]
          rfl
/-- what holds of it: every list of our own is pinned -/
theorem pin_all {k : Nat} {a : Addr} (h : a ∈ Ac A avs k) : (k, a) ∈ pinc A avs := by
  unfold pinc
  have hk : k < avs.length := by
    unfold Ac at h
    cases q : avs[k]? with
    | none => rw [q] at h; cases h
    | some av => exact (List.getElem?_eq_some_iff.mp q).1
  exact List.mem_flatMap.mpr ⟨k, List.mem_range.mpr hk, List.mem_map.mpr ⟨a, h, rfl⟩⟩
/-! ### and back -/
def A2 (A Ak : Nat → List Addr) (avs : List AV) : Nat → List Addr := fun j => match posIo avs j with
  | some k => Ak k
  | none => A j
theorem call_out {outs : List Slot} {τ : L2.St} {θ : Env} {Ak : Nat → List Addr} (R : RelA P io Hi H σ ρ A) (r : RepA P Hi σ vs avs) (nd : (iosOf avs).Nodup) (own : ∀ i ∈ iosOf avs, isOwn (ρ.at i) = true) (e : Ex Hi Hi')
    (Rc : RelA ⟨P.K, P.cl, Bc H A avs, Hi, pinc A avs⟩ io' Hi' H' τ θ Ak) (hl : outs.length = avs.length) (hτ : ∀ k, k < avs.length → sAt τ k = vs[k]?) (hθ : ∀ k, k < avs.length → θ.at k = Env.at outs k) :
    RelA P io Hi' H' σ (putBack ρ avs outs) (A2 A Ak avs) ∧ (∀ a, Bc H A avs a = none → P.B a = none) ∧ ∀ n a, (∀ k, k < avs.length → a ∉ Ak k) → a ∈ Ak n → ∀ j, a ∉ A2 A Ak avs j := by
  have notCell : ∀ p, P.B p ≠ none → p ∉ cellsOf A avs := fun p h hm => by
    obtain ⟨i, h1, h2⟩ := mem_cells.mp hm
    exact h (R.ow i p h2).2
  have bB : ∀ p o, P.B p = some o → Bc H A avs p = some o := fun p o h => by
    unfold Bc
    rw [if_neg (notCell p (by rw [h]; exact fun z => nomatch z))]
    exact R.b p o h
  have ownAt : ∀ i ∈ iosOf avs, ∃ a ds, A i = [a] ∧ sAt σ i = some (.ref a) ∧ ρ.at i = .l ds := fun i hi => by
    have h := own i hi
    cases q : ρ.at i with
    | no => rw [q] at h; cases h
    | v d => rw [q] at h; cases h
    | l ds =>
      obtain ⟨a, _, h1, h2, _⟩ := R.own q
      exact ⟨a, ds, h1, h2, rfl⟩
  have bnd : ∀ i ∈ iosOf avs, i < ρ.length := fun i hi => by
    obtain ⟨a, ds, _, _, h⟩ := ownAt i hi
    exact at_lt (by rw [h]; exact fun z => nomatch z)
  have pAt : ∀ j, (putBack ρ avs outs).at j = match posIo avs j with | some k => Env.at outs k | none => ρ.at j := fun j => putBack_at avs outs ρ j hl.symm nd bnd
  -- the part of a place that came back
  have back : ∀ {j k : Nat}, posIo avs j = some k → SlotOk P Hi' H' (sAt σ j) (Env.at outs k) (Ak k) ∧ k < avs.length := fun {j k} q => by
    have h1 := posIo_some q
    have hk : k < avs.length := (List.getElem?_eq_some_iff.mp h1).1
    have h2 := r.at k
    rw [h1] at h2
    obtain ⟨v, h3, h4⟩ := h2
    have h5 := Rc.sl k
    rw [hτ k hk, hθ k hk, h3, ← h4] at h5
    refine ⟨?_, hk⟩
    cases q2 : Env.at outs k <;> rw [q2] at h5 <;> exact h5
  have sub : ∀ {j k : Nat} {a : Addr}, posIo avs j = some k → a ∈ Ak k → a ∈ A j := fun {j k a} q ha => by
    have h1 := (back q).1
    obtain ⟨a', ds, h2, h3, h4⟩ := ownAt j (mem_ios (posIo_some q))
    cases q2 : Env.at outs k with
    | no => rw [q2] at h1; have t2 : Ak k = [] := h1; rw [t2] at ha; cases ha
    | v d => rw [q2] at h1; obtain ⟨t2, _⟩ := h1; rw [t2] at ha; cases ha
    | l ds =>
      rw [q2] at h1
      obtain ⟨a2, vs2, t1, t2, _⟩ := h1
      rw [t1] at ha
      have ea := List.mem_singleton.mp ha
      subst ea
      rw [h3] at t2
      have e2 : a' = a := by injection t2 with t2; injection t2
      rw [h2, e2]
      exact List.mem_singleton.mpr rfl
  have subA : ∀ {j : Nat} {a : Addr}, a ∈ A2 A Ak avs j → a ∈ A j := fun {j a} ha => by
    unfold A2 at ha
    cases q : posIo avs j with
    | none => rw [q] at ha; exact ha
    | some k => rw [q] at ha; exact sub q ha
  have there : ∀ {j : Nat} {a : Addr}, a ∈ A j → ∃ o, H a = some o := fun {j a} ha => by
    have h1 := R.sl j
    cases q2 : ρ.at j with
    | no => rw [q2] at h1; have t2 : A j = [] := h1; rw [t2] at ha; cases ha
    | v d => rw [q2] at h1; obtain ⟨t2, _⟩ := h1; rw [t2] at ha; cases ha
    | l ds =>
      rw [q2] at h1
      obtain ⟨a2, vs2, t1, _, t3, _⟩ := h1
      rw [t1] at ha
      have ea := List.mem_singleton.mp ha
      subst ea
      exact ⟨_, t3⟩
  have others : ∀ {j : Nat} {a : Addr} {o : HO}, posIo avs j = none → a ∈ A j → H a = some o → Bc H A avs a = some o := fun {j a o} q ha ho => by
    unfold Bc
    rw [if_neg]
    · exact ho
    · intro hm
      obtain ⟨i, h1, h2⟩ := mem_cells.mp hm
      by_cases eij : i = j
      · subst eij
        obtain ⟨k, hk⟩ := posIo_mem h1
        rw [q] at hk
        cases hk
      · exact R.dj i j eij a h2 ha
  have bNone : ∀ a, Bc H A avs a = none → P.B a = none := fun a h => by
    cases q : P.B a with
    | none => rfl
    | some o => rw [bB a o q] at h; cases h
  refine ⟨⟨fun p o h => Rc.b p o (bB p o h), Rc.i, fun p o h => e p o (R.i0 p o h), fun p h1 h2 => ?_, by rw [putBack_len]; exact R.len, fun j => ?_, fun j a ha => ?_, fun j => ?_, fun i j hij a ha hb => R.dj i j hij a (subA ha) (subA hb), R.pn⟩, bNone, fun n a hk hn j hj => ?_⟩
  · cases q : P.B p with
    | none => exact absurd q h1
    | some o => exact R.fr p h1 (Rc.fr p (by show Bc H A avs p ≠ none; rw [bB p o q]; exact fun z => nomatch z) h2)
  · rw [pAt]
    unfold A2
    cases q : posIo avs j with
    | some k => exact (back q).1
    | none => exact (R.sl j).mono e fun a ha o ho => Rc.b a o (others q ha ho)
  · unfold A2 at ha
    cases q : posIo avs j with
    | some k =>
      rw [q] at ha
      exact ⟨(Rc.ow k a ha).1, (R.ow j a (sub q ha)).2⟩
    | none =>
      rw [q] at ha
      obtain ⟨o, ho⟩ := there ha
      have h1 := others q ha ho
      refine ⟨?_, (R.ow j a ha).2⟩
      cases q2 : Hi' a with
      | none => rfl
      | some u => exact absurd (R.ow j a ha).1 (Rc.fr a (by show Bc H A avs a ≠ none; rw [h1]; exact fun z => nomatch z) (by rw [q2]; exact fun z => nomatch z))
  · unfold A2
    cases q : posIo avs j with
    | some k => exact Rc.nd k
    | none => exact R.nd j
  · unfold A2 at hj
    cases q : posIo avs j with
    | some k =>
      rw [q] at hj
      exact hk k (back q).2 hj
    | none =>
      rw [q] at hj
      obtain ⟨o, ho⟩ := there hj
      have h1 := others q hj ho
      have h2 : Bc H A avs a = none := (Rc.ow n a hn).2
      rw [h1] at h2
      cases h2
end
/-! ### the promise of a def -/
def FinF (P : Par) (io : List Nat) (Hi : Hp) (vs : List V) (Q : VK) (E : XK) : Option FOut → Prop
  | none => False
  | some (.ret r outs) => ∀ v Hi' H' A, Ex Hi Hi' → RelA P io Hi' H' (vs.map some ++ [some v]) (outs ++ [r]) A → Q v H'
  | some (.ex c w outs) => ∀ dx Hi' H' A, Ex Hi Hi' → RelA P io Hi' H' (vs.map some) outs A → H' dx = some (.xd [("word", .non)]) → E (.ref (P.cl c)) (some dx) H'
def spF (K : PySem.W.Frag) (cl : Nat → Addr) (io : List Nat) (np : Nat) (g : List Slot → Option FOut) : Sp := fun vs H Q E =>
  ∃ B Hi pin avs A, RelA ⟨K, cl, B, Hi, pin⟩ io Hi H (vs.map some) avs A ∧ vs.length = np ∧ (∀ k a, a ∈ A k → (k, a) ∈ pin) ∧ FinF ⟨K, cl, B, Hi, pin⟩ io Hi vs Q E (g avs)
/-- what a def's meaning g bears -/
structure GamOk (io : List Nat) (np : Nat) (g : List Slot → Option FOut) : Prop where
  len : ∀ avs, g avs ≠ none → avs.length = np
  own : ∀ avs, g avs ≠ none → ∀ k, isOwn (Env.at avs k) = true → k ∈ io
  outs : ∀ avs r outs, g avs = some (.ret r outs) → outs.length = np
  outsX : ∀ avs c w outs, g avs = some (.ex c w outs) → outs.length = np
theorem at_app_lt {xs ys : List Slot} {k : Nat} (h : k < xs.length) : Env.at (xs ++ ys) k = Env.at xs k := by
  unfold Env.at
  rw [List.getD_eq_getElem?_getD, List.getD_eq_getElem?_getD, List.getElem?_append_left h]
theorem at_app_last {xs : List Slot} {s : Slot} : Env.at (xs ++ [s]) xs.length = s := by
  unfold Env.at
  rw [List.getD_eq_getElem?_getD, List.getElem?_append_right (Nat.le_refl _), Nat.sub_self]
  rfl
theorem sAt_app_lt {xs : List V} {o : Option V} {k : Nat} (h : k < xs.length) : sAt (xs.map some ++ [o]) k = xs[k]? := by
  unfold sAt
  rw [List.getElem?_append_left (by rw [List.length_map]; exact h), List.getElem?_map]
  cases xs[k]? <;> rfl
theorem sAt_app_last {xs : List V} {o : Option V} : sAt (xs.map some ++ [o]) xs.length = o := by
  unfold sAt
  rw [List.getElem?_append_right (by rw [List.length_map]; exact Nat.le_refl _), List.length_map, Nat.sub_self]
  cases o <;> rfl
section
variable {K : PySem.W.Frag} {cl : Nat → Addr} {B Hi0 : Hp} {pin : List (Nat × Addr)} {io io' : List Nat} {np : Nat} {g : List Slot → Option FOut} {W : WX} {Hi H : Hp} {σ : L2.St} {ρ : Env} {A : Nat → List Addr} {vs : List V} {avs : List AV}
theorem iosOk_of (h : iosOk ρ avs = true) : (iosOf avs).Nodup ∧ ∀ i ∈ iosOf avs, isOwn (ρ.at i) = true := by
  unfold iosOk at h
  rw [Bool.and_eq_true] at h
  exact ⟨of_decide_eq_true h.1, fun i hi => List.all_eq_true.mp h.2 i hi⟩
def callE (g : List Slot → Option FOut) (avs : List AV) (ρ : Env) : Option (Out D) := if iosOk ρ avs = true then match g (slotsOf ρ avs) with
    | some (.ret (.v d) outs) => some (.ok d (putBack ρ avs outs))
    | some (.ex c w outs) => some (.ex c w (putBack ρ avs outs))
    | _ => none else none
def callLE (g : List Slot → Option FOut) (avs : List AV) (ρ : Env) : Option (Out (List D)) := if iosOk ρ avs = true then match g (slotsOf ρ avs) with
    | some (.ret (.l ds) outs) => some (.ok ds (putBack ρ avs outs))
    | some (.ex c w outs) => some (.ex c w (putBack ρ avs outs))
    | _ => none else none
theorem call_sp (G : GamOk io' np g) (R : RelA ⟨K, cl, B, Hi0, pin⟩ io Hi H σ ρ A) (r : RepA ⟨K, cl, B, Hi0, pin⟩ Hi σ vs avs) {Q : VK} (h : FinG ⟨K, cl, B, Hi0, pin⟩ io W Hi σ RV Q (callE g avs ρ)) :
    spF K cl io' np g vs H Q (WE W σ) := by
  unfold callE at h
  by_cases hc : iosOk ρ avs = true
  · rw [if_pos hc] at h
    obtain ⟨nd, own⟩ := iosOk_of hc
    cases q : g (slotsOf ρ avs) with
    | none => rw [q] at h; exact h.elim
    | some o =>
      have hne : g (slotsOf ρ avs) ≠ none := by rw [q]; exact fun z => nomatch z
      have hlen : vs.length = np := by rw [r.len, ← slotsOf_len (ρ := ρ), G.len _ hne]
      have hal : avs.length = np := by rw [← r.len, hlen]
      have Ri := call_in (io' := io') R r nd (G.own _ hne)
      refine ⟨_, _, _, _, _, Ri, hlen, fun k a ha => pin_all ha, ?_⟩
      rw [q] at h ⊢
      cases o with
      | ret s outs =>
        have ho := G.outs _ _ _ q
        cases s with
        | no => exact h.elim
        | l ds => exact h.elim
        | v d =>
          intro v Hi' H' Ak e Rc
          obtain ⟨R2, _, _⟩ := call_out R r nd own e Rc (ho.trans hal.symm) (fun k hk => sAt_app_lt (by rw [r.len]; exact hk)) (fun k hk => at_app_lt (by rw [ho, ← hal]; exact hk))
          refine h v Hi' H' _ e R2 ?_
          have h1 := Rc.sl outs.length
          rw [at_app_last, ho, ← hlen, sAt_app_last] at h1
          obtain ⟨_, v', h2, h3⟩ := h1
          cases h2
          exact h3
      | ex c w outs =>
        have ho := G.outsX _ _ _ _ q
        intro dx Hi' H' Ak e Rc hdx
        obtain ⟨R2, _, _⟩ := call_out R r nd own e Rc (ho.trans hal.symm) (fun k hk => sAt_map vs k) (fun k hk => rfl)
        exact h dx Hi' H' _ e R2 hdx
  · rw [if_neg hc] at h
    exact h.elim
theorem callL_sp (G : GamOk io' np g) (R : RelA ⟨K, cl, B, Hi0, pin⟩ io Hi H σ ρ A) (r : RepA ⟨K, cl, B, Hi0, pin⟩ Hi σ vs avs) {Q : VK} (h : FinG ⟨K, cl, B, Hi0, pin⟩ io W Hi σ RL Q (callLE g avs ρ)) :
    spF K cl io' np g vs H Q (WE W σ) := by
  unfold callLE at h
  by_cases hc : iosOk ρ avs = true
  · rw [if_pos hc] at h
    obtain ⟨nd, own⟩ := iosOk_of hc
    cases q : g (slotsOf ρ avs) with
    | none => rw [q] at h; exact h.elim
    | some o =>
      have hne : g (slotsOf ρ avs) ≠ none := by rw [q]; exact fun z => nomatch z
      have hlen : vs.length = np := by rw [r.len, ← slotsOf_len (ρ := ρ), G.len _ hne]
      have hal : avs.length = np := by rw [← r.len, hlen]
      have Ri := call_in (io' := io') R r nd (G.own _ hne)
      refine ⟨_, _, _, _, _, Ri, hlen, fun k a ha => pin_all ha, ?_⟩
      rw [q] at h ⊢
      cases o with
      | ret s outs =>
        have ho := G.outs _ _ _ q
        cases s with
        | no => exact h.elim
        | v d => exact h.elim
        | l ds =>
          intro v Hi' H' Ak e Rc
          obtain ⟨R2, bN, fr⟩ := call_out R r nd own e Rc (ho.trans hal.symm) (fun k hk => sAt_app_lt (by rw [r.len]; exact hk)) (fun k hk => at_app_lt (by rw [ho, ← hal]; exact hk))
          refine h v Hi' H' _ e R2 ?_
          have h1 := Rc.sl outs.length
          rw [at_app_last, ho, ← hlen, sAt_app_last] at h1
          obtain ⟨a, vs', h2, h3, h4, h5⟩ := h1
          cases h3
          have hm : a ∈ Ak vs.length := by rw [h2]; exact List.mem_singleton.mpr rfl
          have hw := Rc.ow vs.length a hm
          exact ⟨a, vs', rfl, h4, h5, hw.1, bN a hw.2, fr vs.length a (fun k hk => Rc.dj vs.length k (by rw [r.len]; omega) a hm) hm⟩
      | ex c w outs =>
        have ho := G.outsX _ _ _ _ q
        intro dx Hi' H' Ak e Rc hdx
        obtain ⟨R2, _, _⟩ := call_out R r nd own e Rc (ho.trans hal.symm) (fun k hk => sAt_map vs k) (fun k hk => rfl)
        exact h dx Hi' H' _ e R2 hdx
  · rw [if_neg hc] at h
    exact h.elim
end
/-! ### the rules -/
section
variable {X : Cx} {cl : Nat → Addr} {io io' : List Nat} {np k f : Nat} {W : WX} {Γ : Gam} {a : Expr} {es : List Expr} {ia : A} {pos p : Pos} {x : Str} {fa : Addr} {fd : FuncData} {ps : List Str}
structure FnHas (X : Cx) (cl : Nat → Addr) (x : Str) (io' : List Nat) (np : Nat) (g : List Slot → Option FOut) : Prop where
  has : ∃ (k : Nat) (fa : Addr) (fd : FuncData) (ps : List Str), FnOk X.prog X.w X.K X.mg X.base (L2.CX X.prog X.w) k fa fd ps (spF X.K cl io' np g) ∧ Room k X.A ∧ X.mg x = some (.ref fa) ∧ PySem.W.keepIn X.K (.ref fa) = true ∧ Binds X.K fd ps []
  g : GamOk io' np g
theorem snd_call (F : FnHas X cl x io' np (Γ f)) (tk : Takes X W) (hg : Gl X x) (hd : (x == ("__debug__" : Str)) = false) (hp : (a :: es).all plainX = true) (ha : PA X (a :: es) (tA X cl io W Γ ia)) :
    PE X (.Call (.Name x p) (a :: es) [] pos) (tE X cl io W Γ (.call f ia)) := by
  obtain ⟨⟨k, fa, fd, ps, F1, hr, hm, hk, hb⟩, G⟩ := F
  rw [List.all_cons, Bool.and_eq_true] at hp
  refine PE.imp (pe_callS F1 hr hg hm hk hb (fun σ => passAt tk σ) ha hd (star_cons hp.1) (star_any hp.2)) ?_
  rintro σ H Q ⟨B, Hi0, pin, Hi, ρ, A, R, h⟩
  refine ⟨B, Hi0, pin, Hi, ρ, A, R, ?_⟩
  rw [show evE Γ (.call f ia) ρ = bnd (evA Γ ia ρ) fun avs ρ => callE (Γ f) avs ρ by rw [evE]; rfl] at h
  exact h.bnd fun vs Hi1 H1 ρ1 A1 avs e1 R1 r1 h1 => call_sp G R1 r1 h1
theorem snd_callL (F : FnHas X cl x io' np (Γ f)) (tk : Takes X W) (hg : Gl X x) (hd : (x == ("__debug__" : Str)) = false) (hp : (a :: es).all plainX = true) (ha : PA X (a :: es) (tA X cl io W Γ ia)) :
    PE X (.Call (.Name x p) (a :: es) [] pos) (tL X cl io W Γ (.callL f ia)) := by
  obtain ⟨⟨k, fa, fd, ps, F1, hr, hm, hk, hb⟩, G⟩ := F
  rw [List.all_cons, Bool.and_eq_true] at hp
  refine PE.imp (pe_callS F1 hr hg hm hk hb (fun σ => passAt tk σ) ha hd (star_cons hp.1) (star_any hp.2)) ?_
  rintro σ H Q ⟨B, Hi0, pin, Hi, ρ, A, R, h⟩
  refine ⟨B, Hi0, pin, Hi, ρ, A, R, ?_⟩
  rw [show evL Γ (.callL f ia) ρ = bnd (evA Γ ia ρ) fun avs ρ => callLE (Γ f) avs ρ by rw [evL]; rfl] at h
  exact h.bnd fun vs Hi1 H1 ρ1 A1 avs e1 R1 r1 h1 => callL_sp G R1 r1 h1
end
end VI
set_option maxHeartbeats 2000000
/-! Soundness, fourth part: statements. -/
namespace VI
open PySem L2 Evl
def RetOk (P : Par) (io : List Nat) (Hi : Hp) (σ : L2.St) (ρ : Env) (v : V) : Slot → Prop
  | .no => False
  | .v d => Rep P.K P.cl Hi v d
  | .l ds => ∃ i, i ∉ io ∧ ρ.at i = .l ds ∧ sAt σ i = some v
def FinS (P : Par) (io : List Nat) (W : WX) (D : Ends) (Hi : Hp) : Option SOut → Prop
  | none => False
  | some (.nx ρ) => ∀ σ Hi' H' A, Ex Hi Hi' → RelA P io Hi' H' σ ρ A → D.nx σ H'
  | some (.bk ρ) => ∀ σ Hi' H' A, Ex Hi Hi' → RelA P io Hi' H' σ ρ A → D.bk σ H'
  | some (.ct ρ) => ∀ σ Hi' H' A, Ex Hi Hi' → RelA P io Hi' H' σ ρ A → D.ct σ H'
  | some (.ret r ρ) => ∀ v σ Hi' H' A, Ex Hi Hi' → RelA P io Hi' H' σ ρ A → RetOk P io Hi' σ ρ v r → D.rt v H'
  | some (.ex c w ρ) => ∀ dx σ Hi' H' A, Ex Hi Hi' → RelA P io Hi' H' σ ρ A → H' dx = some (.xd [("word", .non)]) → W (.ref (P.cl c)) (some dx) σ H'
section
variable {α β : Type} {P : Par} {io : List Nat} {W : WX} {D : Ends} {Hi Hi' : Hp} {σ : L2.St} {R : Par → Hp → Hp → (Nat → List Addr) → L2.St → β → α → Prop}
theorem FinS.mono (e : Ex Hi Hi') : ∀ {o : Option SOut}, FinS P io W D Hi o → FinS P io W D Hi' o
  | none, h => h
  | some (.nx _), h => fun σ H1 H2 A e1 => h σ H1 H2 A (e.trans e1)
  | some (.bk _), h => fun σ H1 H2 A e1 => h σ H1 H2 A (e.trans e1)
  | some (.ct _), h => fun σ H1 H2 A e1 => h σ H1 H2 A (e.trans e1)
  | some (.ret _ _), h => fun v σ H1 H2 A e1 => h v σ H1 H2 A (e.trans e1)
  | some (.ex _ _ _), h => fun v σ H1 H2 A e1 => h v σ H1 H2 A (e.trans e1)
theorem FinS.sbnd {Q1 : β → Hp → Prop} {m : Option (Out α)} {f : α → Env → Option SOut} (h : FinS P io W D Hi (sbnd m f))
    (k : ∀ v Hi' H' ρ' A d, Ex Hi Hi' → RelA P io Hi' H' σ ρ' A → R P Hi' H' A σ v d → FinS P io W D Hi' (f d ρ') → Q1 v H') : FinG P io W Hi σ R Q1 m := by
  cases m with
  | none => exact h
  | some o =>
    cases o with
    | ok d ρ => exact fun v H1 H2 A e r1 r2 => k v H1 H2 ρ A d e r1 r2 (FinS.mono e h)
    | ex c w ρ => exact fun dx H1 H2 A e r1 r2 => h dx σ H1 H2 A e r1 r2
/-- the same outcome under other ends -/
theorem FinS.ends {D' : Ends} (h1 : ∀ σ H, D.nx σ H → D'.nx σ H) (h2 : ∀ v H, D.rt v H → D'.rt v H) (h3 : ∀ σ H, D.bk σ H → D'.bk σ H) (h4 : ∀ σ H, D.ct σ H → D'.ct σ H) : ∀ {o : Option SOut}, FinS P io W D Hi o → FinS P io W D' Hi o
  | none, h => h
  | some (.nx _), h => fun σ H1 H2 A e1 r => h1 _ _ (h σ H1 H2 A e1 r)
  | some (.bk _), h => fun σ H1 H2 A e1 r => h3 _ _ (h σ H1 H2 A e1 r)
  | some (.ct _), h => fun σ H1 H2 A e1 r => h4 _ _ (h σ H1 H2 A e1 r)
  | some (.ret _ _), h => fun v σ H1 H2 A e1 r q => h2 _ _ (h v σ H1 H2 A e1 r q)
  | some (.ex _ _ _), h => h
end
def tSt (K : PySem.W.Frag) (cl : Nat → Addr) (io : List Nat) (W : WX) (ev : Env → Option SOut) : TS :=
  fun D σ H => ∃ B Hi0 pin Hi ρ A, RelA ⟨K, cl, B, Hi0, pin⟩ io Hi H σ ρ A ∧ FinS ⟨K, cl, B, Hi0, pin⟩ io W D Hi (ev ρ)
section
variable {X : Cx} {cl : Nat → Addr} {io : List Nat} {W : WX} {Γ : Gam} {fu : Nat} {a b c : Expr} {ia ib ic : E} {pos p : Pos} {st : Stmt} {rest sb sc : List Stmt} {s1 s2 : S} {x : Str} {i : Nat}
abbrev tS (X : Cx) (cl : Nat → Addr) (io : List Nat) (W : WX) (Γ : Gam) (fu : Nat) (s : S) : TS := tSt X.K cl io W (evS Γ fu s)
theorem snds_nil : PSs X [] (tS X cl io W Γ fu .nil) := by
  refine PSs.imp pss_nil ?_
  rintro D σ H ⟨B, Hi0, pin, Hi, ρ, A, R, h⟩
  exact h σ Hi H A (Ex.refl _) R
theorem snds_seq (h1 : PS X st (tS X cl io W Γ fu s1)) (h2 : PSs X rest (tS X cl io W Γ fu s2)) : PSs X (st :: rest) (tS X cl io W Γ fu (.seq s1 s2)) := by
  refine PSs.imp (pss_cons h1 h2) ?_
  rintro D σ H ⟨B, Hi0, pin, Hi, ρ, A, R, h⟩
  refine ⟨B, Hi0, pin, Hi, ρ, A, R, ?_⟩
  rw [evS] at h
  cases q : evS Γ fu s1 ρ with
  | none => rw [q] at h; exact h
  | some o =>
    rw [q] at h
    cases o with
    | nx ρ1 => exact fun σ' Hi' H' A' e R' => ⟨B, Hi0, pin, Hi', ρ1, A', R', FinS.mono e h⟩
    | bk ρ1 => exact h
    | ct ρ1 => exact h
    | ret r ρ1 => exact h
    | ex c w ρ1 => exact h
theorem snd_pass : PS X (.Pass pos) (tS X cl io W Γ fu .pass) := by
  refine PS.imp ps_pass ?_
  rintro D σ H ⟨B, Hi0, pin, Hi, ρ, A, R, h⟩
  exact h σ Hi H A (Ex.refl _) R
theorem snd_brk : PS X (.Break pos) (tS X cl io W Γ fu .brk) := by
  refine PS.imp ps_break ?_
  rintro D σ H ⟨B, Hi0, pin, Hi, ρ, A, R, h⟩
  exact h σ Hi H A (Ex.refl _) R
theorem snd_cnt : PS X (.Continue pos) (tS X cl io W Γ fu .cnt) := by
  refine PS.imp ps_continue ?_
  rintro D σ H ⟨B, Hi0, pin, Hi, ρ, A, R, h⟩
  exact h σ Hi H A (Ex.refl _) R
theorem snd_nev : PS X st (tS X cl io W Γ fu .nev) := by
  refine PS.imp ps_never ?_
  rintro D σ H ⟨B, Hi0, pin, Hi, ρ, A, R, h⟩
  exact h
/-- a slot is stored -/
theorem setS_of {P : Par} {D : Ends} {Hi H : Hp} {σ : L2.St} {ρ : Env} {A : Nat → List Addr} {v : V} {d : VI.D} (hn : i ∉ io) (R : RelA P io Hi H σ ρ A) (r : Rep P.K P.cl Hi v d) (h : FinS P io W D Hi (setS ρ i (.v d))) : D.nx (σ.set i (some v)) H := by
  unfold setS at h
  by_cases hc : i < ρ.length
  · rw [if_pos hc] at h
    obtain ⟨A', R'⟩ := Rel.setV ⟨A, R⟩ (by rw [R.len]; exact hc) hn r
    exact h _ Hi H A' (Ex.refl _) R'
  · rw [if_neg hc] at h
    exact h.elim
theorem bindS_of {P : Par} {D : Ends} {Hi H : Hp} {σ : L2.St} {ρ : Env} {A : Nat → List Addr} {v : V} {d : VI.D} {f : Env → Option SOut} (hn : i ∉ io) (R : RelA P io Hi H σ ρ A) (r : Rep P.K P.cl Hi v d) (h : FinS P io W D Hi (bindS ρ i (.v d) f)) :
    ∃ A', RelA P io Hi H (σ.set i (some v)) (ρ.set i (.v d)) A' ∧ FinS P io W D Hi (f (ρ.set i (.v d))) := by
  unfold bindS at h
  by_cases hc : i < ρ.length
  · rw [if_pos hc] at h
    obtain ⟨A', R'⟩ := Rel.setV ⟨A, R⟩ (by rw [R.len]; exact hc) hn r
    exact ⟨A', R', h⟩
  · rw [if_neg hc] at h
    exact h.elim
theorem snd_asg (hN : X.N.Nodup) (hi : X.N[i]? = some x) (hx : Loc X.env.scope x) (hf : X.fn x = true) (hn : i ∉ io) (hs : swapsWith a (some (.Name x p)) pos.line X.env = pure false) (ha : PE X a (tE X cl io W Γ ia)) :
    PS X (.Assign [.Name x p] a pos) (tS X cl io W Γ fu (.asg i ia)) := by
  refine PS.imp (ps_set hN hi hx ha hs (.inl hf)) ?_
  rintro D σ H ⟨B, Hi0, pin, Hi, ρ, A, R, h⟩
  refine ⟨B, Hi0, pin, Hi, ρ, A, R, ?_⟩
  rw [evS] at h
  exact h.sbnd fun v Hi1 H1 ρ1 A1 d e1 R1 r1 h1 => setS_of hn R1 r1 h1
theorem snd_newL {il : L} (hN : X.N.Nodup) (hi : X.N[i]? = some x) (hx : Loc X.env.scope x) (hf : X.fn x = true) (hn : i ∉ io) (hs : swapsWith a (some (.Name x p)) pos.line X.env = pure false) (ha : PE X a (tL X cl io W Γ il)) :
    PS X (.Assign [.Name x p] a pos) (tS X cl io W Γ fu (.newL i il)) := by
  refine PS.imp (ps_set hN hi hx ha hs (.inl hf)) ?_
  rintro D σ H ⟨B, Hi0, pin, Hi, ρ, A, R, h⟩
  refine ⟨B, Hi0, pin, Hi, ρ, A, R, ?_⟩
  rw [evS] at h
  refine h.sbnd fun v Hi1 H1 ρ1 A1 d e1 R1 r1 h1 => ?_
  unfold setS at h1
  by_cases hc : i < ρ1.length
  · rw [if_pos hc] at h1
    obtain ⟨q, vs, rfl, h2, h3, h4, h5, h6⟩ := r1
    obtain ⟨A', R'⟩ := RelA.setL R1 (by rw [R1.len]; exact hc) hn h2 h4 h5 h6 h3
    exact h1 _ Hi1 H1 A' (Ex.refl _) R'
  · rw [if_neg hc] at h1
    exact h1.elim
/-- several targets -/
def setAllV (σ : L2.St) : List Nat → List V → L2.St
  | i :: is, v :: vs => setAllV (σ.set i (some v)) is vs
  | _, _ => σ
inductive Targets (X : Cx) (io : List Nat) : List Nat → List Expr → Prop
  | nil : Targets X io [] []
  | cons {i : Nat} {x : Str} {p : Pos} {is : List Nat} {es : List Expr} (hi : X.N[i]? = some x) (hx : Loc X.env.scope x) (hf : X.fn x = true) (hn : i ∉ io) (r : Targets X io is es) : Targets X io (i :: is) (.Name x p :: es)
theorem Targets.len {X : Cx} {io : List Nat} : ∀ {is : List Nat} {es : List Expr}, Targets X io is es → is.length = es.length
  | _, _, .nil => rfl
  | _, _, .cons _ _ _ _ r => by rw [List.length_cons, List.length_cons, r.len]
theorem pgs_all (hN : X.N.Nodup) : ∀ {is : List Nat} {es : List Expr}, Targets X io is es → PGs X es (fun vs σ H Q => vs.length = is.length ∧ Q (setAllV σ is vs) H)
  | _, _, .nil => ⟨fun pins s σ H vs us Q I r h => pgs_nil.run pins s σ H vs us Q I r ⟨List.eq_nil_of_length_eq_zero h.1, by
      have e : vs = [] := List.eq_nil_of_length_eq_zero h.1
      subst e
      exact h.2⟩⟩
  | _, _, .cons hi hx hf hn r => ⟨fun pins s σ H vs us Q I rv h => (pgs_cons (pg_name hN hi hx (.inl hf)) (pgs_all hN r)).run pins s σ H vs us Q I rv (by
      obtain ⟨h1, h2⟩ := h
      cases vs with
      | nil => cases h1
      | cons v vr =>
        refine ⟨v, vr, rfl, ?_⟩
        exact ⟨by simpa using h1, h2⟩)⟩
theorem assignEach_names {X : Cx} {io : List Nat} {env : PySem.Env} : ∀ {is : List Nat} {es : List Expr}, Targets X io is es → (assignEach es env).length = es.length ∧ (assignEach es env).findIdx? (·.1) = none
  | _, _, .nil => ⟨rfl, rfl⟩
  | _, _, .cons (x := x) (p := p) (es := es) hi hx hf hn r => by
    obtain ⟨h1, h2⟩ := assignEach_names (env := env) r
    have e : assignEach (.Name x p :: es) env = (false, assign (.Name x p) env) :: assignEach es env := rfl
    rw [e]
    refine ⟨by rw [List.length_cons, List.length_cons, h1], ?_⟩
    rw [List.findIdx?_cons]
    simp [h2]
theorem setAll_len : ∀ (is : List Nat) (ds : List D) (ρ : Env), (setAll ρ is ds).length = ρ.length
  | [], _, _ => by unfold setAll; rfl
  | _ :: _, [], _ => by unfold setAll; rfl
  | i :: is, d :: ds, ρ => by unfold setAll; rw [setAll_len is ds, List.length_set]
theorem setAll_of {P : Par} {Hi H : Hp} : ∀ {is : List Nat} {ds : List D} {vs : List V} {σ : L2.St} {ρ : Env}, (∀ i ∈ is, i ∉ io) → (∀ i ∈ is, i < ρ.length) → Rel P io Hi H σ ρ → Reps P.K P.cl Hi vs ds → ds.length = is.length → Rel P io Hi H (setAllV σ is vs) (setAll ρ is ds)
  | [], [], _, σ, ρ, _, _, R, .nil, _ => R
  | i :: is, d :: ds, _, σ, ρ, hn, hb, R, .cons (v := v) (vs := vs) r t, hl => by
    unfold setAllV setAll
    have hi : i < σ.length := by
      obtain ⟨A, R'⟩ := id R
      rw [R'.len]
      exact hb i List.mem_cons_self
    exact setAll_of (fun j hj => hn j (List.mem_cons_of_mem _ hj)) (fun j hj => by rw [List.length_set]; exact hb j (List.mem_cons_of_mem _ hj)) (Rel.setV R hi (hn i List.mem_cons_self) r) t (by simpa using hl)
theorem Targets.out {X : Cx} {io : List Nat} : ∀ {is : List Nat} {es : List Expr}, Targets X io is es → ∀ i ∈ is, i ∉ io
  | _, _, .nil, _, h => by cases h
  | _, _, .cons _ _ _ hn r, j, h => by
    rcases List.mem_cons.mp h with e | h
    · rw [e]; exact hn
    · exact r.out j h
theorem snd_asgT {is : List Nat} {es : List Expr} {k : Nat} (hc : X.calm = true) (hN : X.N.Nodup) (ht : Targets X io is es) (hs : swapsWithSole [.Tuple es k p] a pos.line X.env = pure false) (hw : swappedStores [.Tuple es k p] a X.env = pure none)
    (ha : PE X a (tE X cl io W Γ ia)) : PS X (.Assign [.Tuple es k p] a pos) (tS X cl io W Γ fu (.asgT is ia)) := by
  obtain ⟨l1, l2⟩ := assignEach_names (env := X.env) ht
  refine PS.imp (ps_asg ha (pg_tup (n := is.length) hc (pgs_all hN ht) (by rw [l1, ht.len]) l2) hs hw rfl) ?_
  rintro D σ H ⟨B, Hi0, pin, Hi, ρ, A, R, h⟩
  refine ⟨B, Hi0, pin, Hi, ρ, A, R, ?_⟩
  rw [evS] at h
  refine h.sbnd fun v Hi1 H1 ρ1 A1 d e1 R1 r1 h1 => ?_
  cases r1 with
  | @tup a' xs ds h2 h3 =>
    have h1' : FinS ⟨X.K, cl, B, Hi0, pin⟩ io W D Hi1 (if ds.length = is.length ∧ (is.all fun i => decide (i < ρ1.length)) = true then some (.nx (setAll ρ1 is ds)) else none) := h1
    by_cases hcc : ds.length = is.length ∧ (is.all fun i => decide (i < ρ1.length)) = true
    · rw [if_pos hcc] at h1'
      have hl : xs.length = is.length := by rw [h3.len]; exact hcc.1
      refine ⟨a', xs, rfl, ex_t R1.i h2, hl, hl, ?_⟩
      obtain ⟨A', R'⟩ := setAll_of (is := is) ht.out (fun i hi => of_decide_eq_true (List.all_eq_true.mp hcc.2 i hi)) ⟨A1, R1⟩ h3 hcc.1
      exact h1' _ Hi1 H1 A' (Ex.refl _) R'
    · rw [if_neg hcc] at h1'
      exact h1'.elim
  | _ => exact h1.elim
theorem snd_par {j : Nat} {y : Str} {px py pt pt2 : Pos} {kt k2 : Nat} (hc : X.calm = true) (hN : X.N.Nodup) (hi : X.N[i]? = some x) (hj : X.N[j]? = some y) (hij : i ≠ j) (hx : X.env.scope.names.lookup x = some .local) (hy : X.env.scope.names.lookup y = some .local)
    (hn : i ∉ io) (hn' : j ∉ io) (hp : plainX a = true) (hp' : plainX b = true) (hw : swappedStores [.Tuple [.Name x px, .Name y py] kt pt] (.Tuple [a, b] k2 pt2) X.env = pure (some [x, y]))
    (ha : PE X a (tE X cl io W Γ ia)) (hb : PE X b (tE X cl io W Γ ib)) : PS X (.Assign [.Tuple [.Name x px, .Name y py] kt pt] (.Tuple [a, b] k2 pt2) pos) (tS X cl io W Γ fu (.par i j ia ib)) := by
  refine PS.imp (ps_par hc hN hi hj hij hx hy (pa_cons ha (pa_cons hb pa_nil (star_cons hp')) (star_cons hp)) hw) ?_
  rintro D σ H ⟨B, Hi0, pin, Hi, ρ, A, R, h⟩
  refine ⟨B, Hi0, pin, Hi, ρ, A, R, ?_⟩
  rw [evS] at h
  refine h.sbnd fun v Hi1 H1 ρ1 A1 d e1 R1 r1 h1 => ?_
  refine ⟨B, Hi0, pin, Hi1, ρ1, A1, R1, h1.sbnd fun v2 Hi2 H2 ρ2 A2' d2 e2 R2 r2 h2 => ?_⟩
  refine ⟨v, v2, rfl, ?_⟩
  obtain ⟨A3, R3, h3⟩ := bindS_of hn R2 (Rep.mono e2 _ _ r1) h2
  exact setS_of hn' R3 r2 h3
theorem snd_app {p2 p3 : Pos} (hi : X.N[i]? = some x) (hv : Vis X.env.scope x) (hd : (x == ("__debug__" : Str)) = false) (hcd : (x == ("__classdict__" : Str)) = false) (hp : plainX a = true) (hl : (p3.endLine == pos.line) = true)
    (hfew : ((backTo pos (starEach [a] X.env)).all (fun x => !x.1) && (backToKw pos (keywordEach [] X.env)).all (fun x => x.1.isSome) && decide (([a] : List Expr).length + ([] : List Keyword).length + (if ([] : List Keyword).isEmpty then 0 else 1) < 30)) = true)
    (ha : PE X a (tE X cl io W Γ ia)) : PS X (.Expr (.Call (.Attribute (.Name x p2) "append" p3) [a] [] pos) p) (tS X cl io W Γ fu (.app i ia)) := by
  refine PS.imp (ps_expr (pe_bm PySem.F.plainAttrs_list PySem.F.slot_list_append PySem.F.type_list_append mt_append (pe_var hi hv hd hcd) (pa_cons ha pa_nil (star_cons hp)) rfl hfew hl (star_cons hp) rfl) rfl) ?_
  rintro D σ H ⟨B, Hi0, pin, Hi, ρ, A, R, h⟩
  rw [evS] at h
  cases q : ρ.at i with
  | no => rw [q] at h; exact h.elim
  | v d => rw [q] at h; exact h.elim
  | l ds =>
    rw [q] at h
    obtain ⟨a', vs, h1, h2, h3, h4, h5, h6⟩ := R.own q
    refine ⟨.ref a', sAt_some h2, .inl ⟨rfl, _, .inl (.inl h3)⟩, B, Hi0, pin, Hi, ρ, A, R, ?_⟩
    refine FinS.sbnd h fun v Hi1 H1 ρ1 A1 d e1 R1 r1 k1 => ?_
    cases q2 : ρ1.at i with
    | no => rw [q2] at k1; exact k1.elim
    | v d => rw [q2] at k1; exact k1.elim
    | l es =>
      rw [q2] at k1
      obtain ⟨a2, ws, t3, t4, t5, t6⟩ := Rel.mutL (ds' := es ++ [d]) ⟨A1, R1⟩ q2
      have ea : a2 = a' := by
        rw [sAt_some h2] at t3
        injection t3 with t3; injection t3 with t3; injection t3 with t3
        exact t3.symm
      subst ea
      have k1' : FinS ⟨X.K, cl, B, Hi0, pin⟩ io W D Hi1 (if es.length < sizeLine then some (.nx (ρ1.set i (.l (es ++ [d])))) else none) := k1
      by_cases hc : es.length < sizeLine
      · rw [if_pos hc] at k1'
        obtain ⟨A3, R3⟩ := t6 (ws ++ [v]) (t5.snoc r1)
        exact ⟨a2, ws, v, rfl, rfl, t4, by rw [t5.len]; exact hc, k1' _ Hi1 _ A3 (Ex.refl _) R3⟩
      · rw [if_neg hc] at k1'
        exact k1'.elim
theorem snd_rev {p2 p3 : Pos} (hi : X.N[i]? = some x) (hv : Vis X.env.scope x) (hd : (x == ("__debug__" : Str)) = false) (hcd : (x == ("__classdict__" : Str)) = false) (hl : (p3.endLine == pos.line) = true) :
    PS X (.Expr (.Call (.Attribute (.Name x p2) "reverse" p3) [] [] pos) p) (tS X cl io W Γ fu (.rev i)) := by
  refine PS.imp (ps_expr (pe_bm0 PySem.F.plainAttrs_list PySem.F.slot_list_reverse PySem.F.type_list_reverse mt_reverse (pe_var hi hv hd hcd) rfl hl) rfl) ?_
  rintro D σ H ⟨B, Hi0, pin, Hi, ρ, A, R, h⟩
  rw [evS] at h
  cases q : ρ.at i with
  | no => rw [q] at h; exact h.elim
  | v d => rw [q] at h; exact h.elim
  | l ds =>
    rw [q] at h
    obtain ⟨a', vs, h3, h4, h5, h6⟩ := Rel.mutL (ds' := ds.reverse) ⟨A, R⟩ q
    obtain ⟨A', R'⟩ := h6 _ h5.reverse
    exact ⟨.ref a', h3, .inl ⟨rfl, _, .inl (.inl h4)⟩, a', vs, rfl, rfl, h4, h _ Hi _ A' (Ex.refl _) R'⟩
theorem snd_ite (hc : PT X c (tT X cl io W Γ ic)) (ha : PSs X sb (tS X cl io W Γ fu s1)) (hb : PSs X sc (tS X cl io W Γ fu s2)) : PS X (.If c sb sc pos) (tS X cl io W Γ fu (.ite ic s1 s2)) := by
  refine PS.imp (ps_if hc ha hb) ?_
  rintro D σ H ⟨B, Hi0, pin, Hi, ρ, A, R, h⟩
  refine ⟨B, Hi0, pin, Hi, ρ, A, R, ?_⟩
  rw [evS] at h
  refine FinS.sbnd (R := RT) h fun v1 Hi1 H1 ρ1 A1 d1 e1 R1 r1 h1 => ?_
  cases r1
  cases v1 with
  | true => rw [if_pos rfl]; exact ⟨B, Hi0, pin, Hi1, ρ1, A1, R1, h1⟩
  | false => rw [if_neg Bool.false_ne_true]; exact ⟨B, Hi0, pin, Hi1, ρ1, A1, R1, h1⟩
theorem snd_ret (ha : PE X a (tE X cl io W Γ ia)) : PS X (.Return (some a) pos) (tS X cl io W Γ fu (.ret ia)) := by
  refine PS.imp (ps_ret ha) ?_
  rintro D σ H ⟨B, Hi0, pin, Hi, ρ, A, R, h⟩
  refine ⟨B, Hi0, pin, Hi, ρ, A, R, ?_⟩
  rw [evS] at h
  exact h.sbnd fun v Hi1 H1 ρ1 A1 d e1 R1 r1 h1 => h1 v σ Hi1 H1 A1 (Ex.refl _) R1 r1
theorem snd_retL (hi : X.N[i]? = some x) (hv : Vis X.env.scope x) (hd : (x == ("__debug__" : Str)) = false) (hcd : (x == ("__classdict__" : Str)) = false) (hn : i ∉ io) : PS X (.Return (some (.Name x p)) pos) (tS X cl io W Γ fu (.retL i)) := by
  refine PS.imp (ps_ret (pe_var hi hv hd hcd)) ?_
  rintro D σ H ⟨B, Hi0, pin, Hi, ρ, A, R, h⟩
  rw [evS] at h
  cases q : ρ.at i with
  | no => rw [q] at h; exact h.elim
  | v d => rw [q] at h; exact h.elim
  | l ds =>
    rw [q] at h
    obtain ⟨a', vs, h1, h2, _⟩ := R.own q
    exact ⟨.ref a', sAt_some h2, h _ σ Hi H A (Ex.refl _) R ⟨i, hn, q, h2⟩⟩
/-! loops -/
theorem loop_step {P : Par} {D : Ends} {Hi : Hp} {f : VI.D → Env → Option SOut} {d : VI.D} {ds : List VI.D} {ρ : Env} {N : L2.St → Hp → Prop} (h : FinS P io W D Hi (loopS f (d :: ds) ρ))
    (hN : ∀ σ' Hi' H' ρ' A, Ex Hi Hi' → RelA P io Hi' H' σ' ρ' A → FinS P io W D Hi' (loopS f ds ρ') → N σ' H') : FinS P io W { D with nx := N, ct := N, bk := D.nx } Hi (f d ρ) := by
  unfold loopS at h
  cases q : f d ρ with
  | none => rw [q] at h; exact h
  | some o =>
    rw [q] at h
    cases o with
    | nx ρ1 => exact fun σ' Hi' H' A e R => hN σ' Hi' H' ρ1 A e R (FinS.mono e h)
    | ct ρ1 => exact fun σ' Hi' H' A e R => hN σ' Hi' H' ρ1 A e R (FinS.mono e h)
    | bk ρ1 => exact h
    | ret r ρ1 => exact h
    | ex c w ρ1 => exact h
/-- a list or a tuple is walked -/
def iSeq (K : PySem.W.Frag) (tl : TE) : TI := fun σ H R => tl σ H fun x H1 => ∃ a, x = .ref a ∧ (((∃ xs, SqL K H1 a xs) ∧ R (Itl K a) H1) ∨ ((∃ xs, SqT K H1 a xs) ∧ R (Itt K a) H1))
theorem pi_seq {tg l : Expr} {tl : TE} (hl : PE X l tl) : PI X tg l (iSeq X.K tl) := by
  refine ⟨fun pins s σ H R I h => ?_⟩
  refine thn (hl.run pins s σ H _ I h) fun v s1 ⟨x, H1, I1, r1, q1⟩ => ?_
  obtain ⟨a, e, q⟩ := q1
  subst e
  cases r1
  have fp : ∀ b ∈ [s1.heap.objs.size], FpOk X pins H1 b := fun b hb => by
    have e : b = s1.heap.objs.size := by simpa using hb
    subst e
    exact I1.fpOk (Nat.le_refl _) (I1.hok.fresh (Nat.le_refl _))
  rcases q with ⟨⟨xs, hq⟩, q⟩ | ⟨⟨xs, hq⟩, q⟩
  · obtain ⟨its, rv, p, hz⟩ := I1.list hq
    refine wpAny_pyIter_list p.isList ?_
    exact ⟨s1.heap.objs.size, [s1.heap.objs.size], _, _, H1, rfl, I1.kept (t' := s1.toks) fun b o e => Heap.get?_push_of_some _ e, turn_list a _, ⟨_, Heap.get?_push_size _ rfl, rfl, rfl⟩, fp, q⟩
  · obtain ⟨its, rv, p, hz⟩ := I1.tuple hq
    refine wpAny_pyIter_tuple (show s1.heap.IsTuple a its.toArray from p) ?_
    exact ⟨s1.heap.objs.size, [s1.heap.objs.size], _, _, H1, rfl, I1.kept (t' := s1.toks) fun b o e => Heap.get?_push_of_some _ e, turn_tuple a _, ⟨_, Heap.get?_push_size _ rfl, rfl, rfl⟩, fp, q⟩
theorem snd_forV (hp : PassesOwn (model X.prog X.w) X.A X.env X.xe) (hc : X.calm = true) (hN : X.N.Nodup) (hi : X.N[i]? = some x) (hx : Loc X.env.scope x) (hf : X.fn x = true) (hn : i ∉ io) (hs : ∀ u, foldedSetIterable a X.env u = pure u)
    (ha : PE X a (tE X cl io W Γ ia)) (hb : PSs X sb (tS X cl io W Γ fu s1)) : PS X (.For (.Name x p) a sb [] pos) (tS X cl io W Γ fu (.forV i ia s1)) := by
  refine PS.imp (ps_for hp hc (pi_seq ha) (pg_name hN hi hx (.inl hf)) hb hs) ?_
  rintro D σ H ⟨B, Hi0, pin, Hi, ρ, A, R, h⟩
  refine ⟨B, Hi0, pin, Hi, ρ, A, R, ?_⟩
  rw [evS] at h
  refine h.sbnd fun v Hi1 H1 ρ1 A1 d e1 R1 r1 h1 => ?_
  cases q : items d with
  | none => rw [q] at h1; exact h1.elim
  | some ds =>
    rw [q] at h1
    obtain ⟨a', xs, rfl, h3, h2⟩ := items_some r1 q
    let Pv : Nat → L2.St → Hp → Prop := fun k σ' H' => ∃ Hi' ρ' A', Ex Hi1 Hi' ∧ RelA ⟨X.K, cl, B, Hi0, pin⟩ io Hi' H' σ' ρ' A' ∧ FinS ⟨X.K, cl, B, Hi0, pin⟩ io W D Hi' (loopS (fun d ρ => bindS ρ i (.v d) (evS Γ fu s1)) (ds.drop k) ρ')
    have turn : ∀ (k : Nat) (x' : V) (σ' : L2.St) (H' : Hp), xs[k]? = some x' → Pv k σ' H' → gName i x' σ' H' fun σ2 H2 => tS X cl io W Γ fu s1 { D with nx := Pv (k + 1), ct := Pv (k + 1), bk := D.nx } σ2 H2 := fun k x' σ' H' hk ⟨Hi', ρ', A', e', R', h'⟩ => by
      obtain ⟨d, hd, rd⟩ := h3.get' hk
      have hdrop : ds.drop k = d :: ds.drop (k + 1) := by
        obtain ⟨hlt, he⟩ := List.getElem?_eq_some_iff.mp hd
        rw [List.drop_eq_getElem_cons hlt, he]
      rw [hdrop] at h'
      have h4 := loop_step (N := Pv (k + 1)) h' fun σ2 Hi2 H2 ρ2 A2 e2 R2 k2 => ⟨Hi2, ρ2, A2, e'.trans e2, R2, k2⟩
      obtain ⟨A3, R3, h5⟩ := bindS_of hn R' (Rep.mono e' _ _ rd) h4
      exact ⟨B, Hi0, pin, Hi', _, A3, R3, h5⟩
    have fin : ∀ σ' H', Pv xs.length σ' H' → D.nx σ' H' := fun σ' H' ⟨Hi', ρ', A', e', R', h'⟩ => by
      rw [show ds.drop xs.length = [] from List.drop_eq_nil_of_le (by rw [h3.len]; exact Nat.le_refl _)] at h'
      exact h' σ' Hi' H' A' (Ex.refl _) R'
    have start : Pv 0 σ H1 := ⟨Hi1, ρ1, A1, Ex.refl _, R1, h1⟩
    refine ⟨a', rfl, ?_⟩
    rcases h2 with h2 | h2
    · exact .inl ⟨⟨xs, ex_l R1.i h2⟩, for_list (K := X.K) (a := a') (xs := xs) Pv start (fun k σ' H' _ ⟨Hi', ρ', A', e', R', _⟩ => ex_l (e'.trans R'.i) h2) turn fin⟩
    · exact .inr ⟨⟨xs, ex_t R1.i h2⟩, for_tup (K := X.K) (a := a') (xs := xs) Pv start (fun k σ' H' _ ⟨Hi', ρ', A', e', R', _⟩ => ex_t (e'.trans R'.i) h2) turn fin⟩
theorem rangeD_get {n k : Nat} (h : k < n) : (rangeD n).drop k = .int (0 + (k : Int)) :: (rangeD n).drop (k + 1) := by
  have hlt : k < (rangeD n).length := by unfold rangeD; rw [List.length_map, List.length_range]; exact h
  rw [List.drop_eq_getElem_cons hlt]
  have e : (rangeD n)[k]'hlt = .int (0 + (k : Int)) := by simp [rangeD]
  rw [e]
theorem snd_forR {p2 : Pos} (hp : PassesOwn (model X.prog X.w) X.A X.env X.xe) (hc : X.calm = true) (hN : X.N.Nodup) (hi : X.N[i]? = some x) (hx : Loc X.env.scope x) (hf : X.fn x = true) (hn : i ∉ io) (hg : Gl X "range") (hm : X.mg "range" = none) (hpl : plainX a = true)
    (ha : PE X a (tE X cl io W Γ ia)) (hb : PSs X sb (tS X cl io W Γ fu s1)) {pos2 : Pos} : PS X (.For (.Name x p) (.Call (.Name "range" p2) [a] [] pos2) sb [] pos) (tS X cl io W Γ fu (.forR i ia s1)) := by
  refine PS.imp (ps_for hp hc (pi_range1 hg hm (pa_cons ha pa_nil (star_cons hpl)) (by rw [star_cons hpl]; rfl)) (pg_name hN hi hx (.inl hf)) hb) ?_
  rintro D σ H ⟨B, Hi0, pin, Hi, ρ, A, R, h⟩
  refine ⟨B, Hi0, pin, Hi, ρ, A, R, ?_⟩
  rw [evS] at h
  refine h.sbnd fun v Hi1 H1 ρ1 A1 d e1 R1 r1 h1 => ?_
  cases r1 with
  | int n =>
    have h1' : FinS ⟨X.K, cl, B, Hi0, pin⟩ io W D Hi1 (if n < 2 ^ 62 ∧ -(2 ^ 62) ≤ n then loopS (fun d ρ => bindS ρ i (.v d) (evS Γ fu s1)) (rangeD n.toNat) ρ1 else none) := h1
    by_cases hcc : n < 2 ^ 62 ∧ -(2 ^ 62) ≤ n
    · rw [if_pos hcc] at h1'
      refine ⟨n, rfl, hcc.2, hcc.1, for_range (lo := 0) (n := n.toNat)
        (fun k σ' H' => ∃ Hi' ρ' A', Ex Hi1 Hi' ∧ RelA ⟨X.K, cl, B, Hi0, pin⟩ io Hi' H' σ' ρ' A' ∧ FinS ⟨X.K, cl, B, Hi0, pin⟩ io W D Hi' (loopS (fun d ρ => bindS ρ i (.v d) (evS Γ fu s1)) ((rangeD n.toNat).drop k) ρ'))
        ⟨Hi1, ρ1, A1, Ex.refl _, R1, h1'⟩ (fun k σ' H' hk ⟨Hi', ρ', A', e', R', h'⟩ => ?_) (fun σ' H' ⟨Hi', ρ', A', e', R', h'⟩ => ?_)⟩
      · rw [rangeD_get hk] at h'
        have h4 := loop_step (N := fun σ' H' => ∃ Hi' ρ' A', Ex Hi1 Hi' ∧ RelA ⟨X.K, cl, B, Hi0, pin⟩ io Hi' H' σ' ρ' A' ∧ FinS ⟨X.K, cl, B, Hi0, pin⟩ io W D Hi' (loopS (fun d ρ => bindS ρ i (.v d) (evS Γ fu s1)) ((rangeD n.toNat).drop (k + 1)) ρ')) h'
          fun σ2 Hi2 H2 ρ2 A2 e2 R2 k2 => ⟨Hi2, ρ2, A2, e'.trans e2, R2, k2⟩
        obtain ⟨A3, R3, h5⟩ := bindS_of hn R' (.int _) h4
        exact ⟨B, Hi0, pin, Hi', _, A3, R3, h5⟩
      · rw [show (rangeD n.toNat).drop n.toNat = [] from List.drop_eq_nil_of_le (by unfold rangeD; rw [List.length_map, List.length_range]; exact Nat.le_refl _)] at h'
        exact h' σ' Hi' H' A' (Ex.refl _) R'
    · rw [if_neg hcc] at h1'
      exact h1'.elim
  | _ => exact h1.elim
theorem snd_whl (hp : PassesOwn (model X.prog X.w) X.A X.env X.xe) (hc : PT X c (tT X cl io W Γ ic)) (hb : PSs X sb (tS X cl io W Γ fu s1)) : PS X (.While c sb [] pos) (tS X cl io W Γ fu (.whl ic s1)) := by
  refine PS.imp (ps_while hp hc hb) ?_
  rintro D σ H ⟨B, Hi0, pin, Hi, ρ, A, R, h⟩
  rw [evS] at h
  refine ⟨fun m σ' H' => ∃ Hi' ρ' A', RelA ⟨X.K, cl, B, Hi0, pin⟩ io Hi' H' σ' ρ' A' ∧ FinS ⟨X.K, cl, B, Hi0, pin⟩ io W D Hi' (whileS (evT Γ ic) (evS Γ fu s1) m ρ'), ⟨fu, Hi, ρ, A, R, h⟩, ?_⟩
  rintro m σ1 H1 ⟨Hi1, ρ1, A1, R1, h1⟩
  cases m with
  | zero => exact h1.elim
  | succ m =>
    refine ⟨B, Hi0, pin, Hi1, ρ1, A1, R1, ?_⟩
    rw [whileS] at h1
    refine FinS.sbnd (R := RT) h1 fun k Hi2 H2 ρ2 A2 d e2 R2 r2 h2 => ?_
    cases r2
    cases k with
    | false => rw [if_neg Bool.false_ne_true]; exact h2 σ1 Hi2 H2 A2 (Ex.refl _) R2
    | true =>
      rw [if_pos rfl]
      refine ⟨fun σ' H' => ∃ Hi' ρ' A', RelA ⟨X.K, cl, B, Hi0, pin⟩ io Hi' H' σ' ρ' A' ∧ FinS ⟨X.K, cl, B, Hi0, pin⟩ io W D Hi' (whileS (evT Γ ic) (evS Γ fu s1) m ρ'), fun σ' H' w => ⟨m, Nat.lt_succ_self m, w⟩, B, Hi0, pin, Hi2, ρ2, A2, R2, ?_⟩
      have h3 : FinS ⟨X.K, cl, B, Hi0, pin⟩ io W D Hi2 (match evS Γ fu s1 ρ2 with
        | some (.nx ρ') => whileS (evT Γ ic) (evS Γ fu s1) m ρ'
        | some (.ct ρ') => whileS (evT Γ ic) (evS Γ fu s1) m ρ'
        | some (.bk ρ') => some (.nx ρ')
        | o => o) := h2
      cases q : evS Γ fu s1 ρ2 with
      | none => rw [q] at h3; exact h3
      | some o =>
        rw [q] at h3
        cases o with
        | nx ρ3 => exact fun σ' Hi' H' A' e' R' => ⟨Hi', ρ3, A', R', FinS.mono e' h3⟩
        | ct ρ3 => exact fun σ' Hi' H' A' e' R' => ⟨Hi', ρ3, A', R', FinS.mono e' h3⟩
        | bk ρ3 => exact h3
        | ret r ρ3 => exact h3
        | ex c w ρ3 => exact h3
end
end VI
set_option maxHeartbeats 2000000
/-! The check that a term of the language is the program's text, and the soundness as a whole. -/
namespace VI
open PySem L2 Evl
structure Fn where
  name : Str
  io : List Nat
  np : Nat
structure Ctx where
  N : List Str
  sc : Scope
  io : List Nat
  fns : List Fn
  free : List Str
  gcds : List Str
def eqAtom : D → D → Bool
  | .non, .non => true
  | .bl a, .bl b => decide (a = b)
  | .int a, .int b => decide (a = b)
  | .str a, .str b => decide (a = b)
  | _, _ => false
theorem eqAtom_eq {a b : D} (h : eqAtom a b = true) : a = b := by
  cases a <;> cases b <;> first | rfl | (cases h; done) | (have e := of_decide_eq_true h; rw [e])
def Ctx.vis (C : Ctx) (x : Str) : Bool := decide (C.sc.names.lookup x = some .local) || decide (C.sc.names.lookup x = some .cell) || decide (C.sc.names.lookup x = some .free)
def Ctx.loc (C : Ctx) (x : Str) : Bool := decide (C.sc.names.lookup x = some .local)
def Ctx.name (C : Ctx) (i : Nat) (x : Str) : Bool := decide (C.N[i]? = some x) && C.vis x && !(x == ("__debug__" : Str)) && !(x == ("__classdict__" : Str))
def Ctx.glob (C : Ctx) (x : Str) : Bool := decide (C.sc.names.lookup x = some .globalImplicit)
def Ctx.blt (C : Ctx) (x y : Str) : Bool := decide (x = y) && C.glob x && decide (x ∈ C.free)
def Ctx.fn (C : Ctx) (f : Nat) (x : Str) : Bool := C.glob x && !(x == ("__debug__" : Str)) && match C.fns[f]? with
  | some g => decide (g.name = x)
  | none => false
def noSlice : Expr → Bool
  | .Slice _ _ _ _ => false
  | _ => true
def noComp : Expr → Bool
  | .ListComp _ _ _ _ => false
  | .SetComp _ _ _ _ => false
  | .DictComp _ _ _ _ _ => false
  | _ => true
def noSet : Expr → Bool
  | .Set _ _ _ => false
  | _ => true
def noTup : Expr → Bool
  | .Tuple _ _ _ => false
  | _ => true
def isName : Expr → Bool
  | .Name _ _ => true
  | .Attribute _ _ _ => true
  | .Subscript _ _ _ => true
  | _ => false
/-- a term whose test is its value's truth, or a chain of not, and, or of such -/
def tst : E → Bool
  | .ifx _ _ _ => false
  | .not a => tst a
  | .and a b => tst a && tst b
  | .or a b => tst a && tst b
  | _ => true
def tyName (C : Ctx) (t : Ty) : Expr → Bool
  | .Name x _ => C.blt x (Str.ofString t.name)
  | _ => false
def tyNames (C : Ctx) : List Ty → List Expr → Bool
  | [], [] => true
  | t :: ts, e :: es => tyName C t e && tyNames C ts es
  | _, _ => false
mutual
def mtE (C : Ctx) : E → Expr → Bool
  | .var i, .Name x _ => C.name i x
  | .cst d, .Constant k _ _ => match constD k with | some d' => eqAtom d' d | none => false
  | .tup a, .Tuple es _ _ => mtA C a es
  | .bin op a b, .BinOp x o y _ => decide (o = opA op) && mtE C a x && mtE C b y
  | .neg a, .UnaryOp .USub x _ => mtE C a x
  | .cmp op a b, .Compare x [o] [y] _ => decide (o = cmA op) && mtE C a x && mtE C b y
  | .eqq ne a b, .Compare x [o] [y] _ => decide (o = if ne then .NotEq else .Eq) && mtE C a x && mtE C b y
  | .isN ne a, .Compare x [o] [.Constant .none _ _] _ => decide (o = if ne then .IsNot else .Is) && mtE C a x
  | .and a b, .BoolOp .And (x :: y :: r) p => mtE C a x && match r with
    | [] => mtE C b y
    | _ => mtE C b (.BoolOp .And (y :: r) p)
  | .or a b, .BoolOp .Or (x :: y :: r) p => mtE C a x && match r with
    | [] => mtE C b y
    | _ => mtE C b (.BoolOp .Or (y :: r) p)
  | .not a, .UnaryOp .Not x _ => mtE C a x
  | .ifx c a b, .IfExp z x y _ => tst c && mtE C c z && mtE C a x && mtE C b y
  | .call f a, .Call (.Name x _) (e :: es) [] _ => C.fn f x && (e :: es).all plainX && mtA C a (e :: es)
  | .isT a ts, .Call (.Name x _) [e, t] [] _ => C.blt x "isinstance" && plainX e && mtE C a e && match t with
    | .Tuple es _ _ => tyNames C ts es && decide (ts.length ≤ sizeLine)
    | t => match ts with | [u] => tyName C u t | _ => false
  | .len a, .Call (.Name x _) [e] [] _ => C.blt x "len" && plainX e && mtE C a e
  | .lenl i, .Call (.Name x _) [.Name y _] [] _ => C.blt x "len" && C.name i y
  | .abs a, .Call (.Name x _) [e] [] _ => C.blt x "abs" && plainX e && mtE C a e
  | .int1 a, .Call (.Name x _) [e] [] _ => C.blt x "int" && plainX e && mtE C a e
  | .min2 a b, .Call (.Name x _) [e, e'] [] _ => C.blt x "min" && plainX e && plainX e' && mtE C a e && mtE C b e'
  | .max2 a b, .Call (.Name x _) [e, e'] [] _ => C.blt x "max" && plainX e && plainX e' && mtE C a e && mtE C b e'
  | .gcd a b, .Call (.Name x _) [e, e'] [] _ => C.glob x && !(x == ("__debug__" : Str)) && decide (x ∈ C.gcds) && plainX e && plainX e' && mtE C a e && mtE C b e'
  | .bits a, .Call (.Attribute e n p2) [] [] p => decide (n = "bit_length") && isName e && (p2.endLine == p.line) && mtE C a e
  | .ix a b, .Subscript x y _ => noSlice y && mtE C a x && mtE C b y
  | .pop i, .Call (.Attribute (.Name x _) n p3) [] [] p => decide (n = "pop") && C.name i x && (p3.endLine == p.line)
  | .tupOf a, .Call (.Name x _) [e] [] _ => C.blt x "tuple" && plainX e && mtE C a e
  | .ofL l, e => mtL C l e
  | _, _ => false
def mtA (C : Ctx) : A → List Expr → Bool
  | .nil, [] => true
  | .cons a r, e :: es => plainX e && mtE C a e && mtA C r es
  | .io i r, .Name x _ :: es => C.name i x && mtA C r es
  | _, _ => false
def mtL (C : Ctx) : L → Expr → Bool
  | .disp a, .List es _ => mtA C a es
  | .listOf a, .Call (.Name x _) [e] [] _ => C.blt x "list" && plainX e && mtE C a e
  | .callL f a, .Call (.Name x _) (e :: es) [] _ => C.fn f x && (e :: es).all plainX && mtA C a (e :: es)
  | _, _ => false
end
def tgts (C : Ctx) : List Nat → List Expr → Bool
  | [], [] => true
  | i :: is, .Name x _ :: es => decide (C.N[i]? = some x) && C.loc x && decide (i ∉ C.io) && tgts C is es
  | _, _ => false
mutual
def mtS (C : Ctx) : S → Stmt → Bool
  | .pass, .Pass _ => true
  | .asg i e, .Assign [.Name x _] v _ => decide (C.N[i]? = some x) && C.loc x && decide (i ∉ C.io) && noComp v && mtE C e v
  | .newL i l, .Assign [.Name x _] v _ => decide (C.N[i]? = some x) && C.loc x && decide (i ∉ C.io) && noComp v && mtL C l v
  | .asgT is e, .Assign [.Tuple ts _ _] v _ => tgts C is ts && noComp v && noTup v && mtE C e v
  | .par i j a b, .Assign [.Tuple [.Name x px, .Name y py] _ _] (.Tuple [v, u] _ _) _ => decide (C.N[i]? = some x) && decide (C.N[j]? = some y) && decide (i ≠ j) && decide (x ≠ y) && C.loc x && C.loc y && decide (i ∉ C.io) && decide (j ∉ C.io) &&
      plainX v && plainX u && (py.line == px.line) && !([v, u].all (foldedForSure 8)) && !([v, u].all (constantsAlone 8)) && mtE C a v && mtE C b u
  | .app i e, .Expr (.Call (.Attribute (.Name x _) n p3) [v] [] p) _ => decide (n = "append") && C.name i x && plainX v && (p3.endLine == p.line) && mtE C e v
  | .rev i, .Expr (.Call (.Attribute (.Name x _) n p3) [] [] p) _ => decide (n = "reverse") && C.name i x && (p3.endLine == p.line)
  | .ite c a b, .If z s t _ => tst c && mtE C c z && mtB C a s && mtB C b t
  | .forV i e b, .For (.Name x _) v s [] _ => decide (C.N[i]? = some x) && C.loc x && decide (i ∉ C.io) && noSet v && mtE C e v && mtB C b s
  | .forR i e b, .For (.Name x _) (.Call (.Name r _) [v] [] _) s [] _ => decide (C.N[i]? = some x) && C.loc x && decide (i ∉ C.io) && C.blt r "range" && plainX v && mtE C e v && mtB C b s
  | .whl c b, .While z s [] _ => tst c && mtE C c z && mtB C b s
  | .ret e, .Return (some v) _ => mtE C e v
  | .retL i, .Return (some (.Name x _)) _ => C.name i x && decide (i ∉ C.io)
  | .brk, .Break _ => true
  | .cnt, .Continue _ => true
  | .nev, _ => true
  | _, _ => false
def mtB (C : Ctx) : S → List Stmt → Bool
  | .nil, [] => true
  | .seq a b, s :: r => mtS C a s && mtB C b r
  | _, _ => false
end
/-- what the frame must bear -/
structure CxOk (X : Cx) (C : Ctx) (cl : Nat → Addr) (W : WX) (Γ : Gam) : Prop where
  N : X.N = C.N
  sc : X.env.scope = C.sc
  kind : X.env.blockKind = .function
  nd : C.N.Nodup
  calm : X.calm = true
  pass : PassesOwn (model X.prog X.w) X.A X.env X.xe
  tk : Takes X W
  fn : ∀ x, X.fn x = true
  units : X.A.units + 64 < cLine
  free : ∀ x ∈ C.free, X.mg x = none
  gcd : ∀ x ∈ C.gcds, X.mg x = some (.builtin "math.gcd")
  fns : ∀ f g, C.fns[f]? = some g → FnHas X cl g.name g.io g.np (Γ f)
section
variable {X : Cx} {C : Ctx} {cl : Nat → Addr} {W : WX} {Γ : Gam}
theorem CxOk.name (O : CxOk X C cl W Γ) {i : Nat} {x : Str} (h : C.name i x = true) : X.N[i]? = some x ∧ Vis X.env.scope x ∧ (x == ("__debug__" : Str)) = false ∧ (x == ("__classdict__" : Str)) = false := by
  unfold Ctx.name Ctx.vis at h
  simp only [Bool.and_eq_true, Bool.or_eq_true, decide_eq_true_eq, Bool.not_eq_true'] at h
  obtain ⟨⟨⟨h1, h2⟩, h3⟩, h4⟩ := h
  refine ⟨by rw [O.N]; exact h1, ?_, h3, h4⟩
  rw [O.sc]
  rcases h2 with (h2 | h2) | h2
  · exact .inl h2
  · exact .inr (.inl h2)
  · exact .inr (.inr h2)
theorem CxOk.glob (O : CxOk X C cl W Γ) {x : Str} (h : C.glob x = true) : Gl X x := by
  show X.env.scope.names.lookup x = some .globalImplicit
  rw [O.sc]
  exact of_decide_eq_true h
theorem CxOk.blt (O : CxOk X C cl W Γ) {x y : Str} (h : C.blt x y = true) : x = y ∧ Gl X y ∧ X.mg y = none := by
  unfold Ctx.blt at h
  simp only [Bool.and_eq_true, decide_eq_true_eq] at h
  obtain ⟨⟨h1, h2⟩, h3⟩ := h
  subst h1
  exact ⟨rfl, O.glob h2, O.free _ h3⟩
theorem CxOk.has (O : CxOk X C cl W Γ) {f : Nat} {x : Str} (h : C.fn f x = true) : ∃ io np, FnHas X cl x io np (Γ f) ∧ Gl X x ∧ (x == ("__debug__" : Str)) = false := by
  unfold Ctx.fn at h
  simp only [Bool.and_eq_true, Bool.not_eq_true'] at h
  obtain ⟨⟨h1, h2⟩, h3⟩ := h
  cases q : C.fns[f]? with
  | none => rw [q] at h3; cases h3
  | some g =>
    rw [q] at h3
    have e : g.name = x := of_decide_eq_true h3
    have h4 := O.fns f g q
    rw [e] at h4
    exact ⟨_, _, h4, O.glob h1, h2⟩
theorem CxOk.loc (O : CxOk X C cl W Γ) {x : Str} (h : C.loc x = true) : Loc X.env.scope x := by
  refine .inl ?_
  rw [O.sc]
  exact of_decide_eq_true h
theorem tyName_of (O : CxOk X C cl W Γ) {t : Ty} {e : Expr} (h : tyName C t e = true) : ∃ p2, e = .Name (Str.ofString t.name) p2 ∧ Gl X (Str.ofString t.name) ∧ X.mg (Str.ofString t.name) = none := by
  cases e <;> try (cases h; done)
  rename_i x p2
  obtain ⟨h1, h2, h3⟩ := O.blt (show C.blt x (Str.ofString t.name) = true from h)
  subst h1
  exact ⟨p2, rfl, h2, h3⟩
theorem tyNames_of (O : CxOk X C cl W Γ) : ∀ {ts : List Ty} {es : List Expr}, tyNames C ts es = true → TyArgs X ts es
  | [], [], _ => .nil
  | [], _ :: _, h => by cases h
  | _ :: _, [], h => by cases h
  | t :: ts, e :: es, h => by
    unfold tyNames at h
    rw [Bool.and_eq_true] at h
    exact .cons (tyName_of O h.1) (tyNames_of O h.2)
theorem plainIx_of {b : Expr} (h : noSlice b = true) : PlainIx b := by
  cases b <;> first | (intro _ _; rfl) | (cases h; done)
theorem abase_of {e : Expr} {n : Str} {env : PySem.Env} {t : Sem Value} (h : isName e = true) : attributeBase e n env t = t := by
  cases e <;> first | rfl | (cases h; done)
theorem boolOne {x : Expr} {op : BoolOp} {t : TE} {pos : Pos} (h : PE X x t) : PE X (.BoolOp op [x] pos) t := pe_one h
mutual
theorem mtE_ok (O : CxOk X C cl W Γ) : ∀ (ir : E) (e : Expr), mtE C ir e = true → PE X e (tE X cl C.io W Γ ir)
  | .var i, e, h => by
    unfold mtE at h
    split at h <;> first | (exact absurd h Bool.false_ne_true) | (rename_i heq; cases heq; done) | (rename_i heq; cases heq)
    obtain ⟨h1, h2, h3, h4⟩ := O.name h
    exact snd_var h1 h2 h3 h4
  | .cst d, e, h => by
    unfold mtE at h
    split at h <;> first | (exact absurd h Bool.false_ne_true) | (rename_i heq; cases heq; done) | (rename_i heq; cases heq)
    rename_i k j p
    cases q : constD k with
    | none => rw [q] at h; cases h
    | some d' =>
      rw [q] at h
      have e := eqAtom_eq h
      subst e
      exact snd_cst q
  | .tup a, e, h => by
    unfold mtE at h
    split at h <;> first | (exact absurd h Bool.false_ne_true) | (rename_i heq; cases heq; done) | (rename_i heq; cases heq)
    exact snd_tup (mtA_ok O a _ h)
  | .bin op a b, e, h => by
    unfold mtE at h
    split at h <;> first | (exact absurd h Bool.false_ne_true) | (rename_i heq; cases heq; done) | (rename_i heq; cases heq)
    simp only [Bool.and_eq_true, decide_eq_true_eq, Bool.not_eq_true'] at h
    obtain ⟨⟨h1, h2⟩, h3⟩ := h
    subst h1
    exact snd_bin (mtE_ok O a _ h2) (mtE_ok O b _ h3)
  | .neg a, e, h => by
    unfold mtE at h
    split at h <;> first | (exact absurd h Bool.false_ne_true) | (rename_i heq; cases heq; done) | (rename_i heq; cases heq)
    exact snd_neg (mtE_ok O a _ h)
  | .cmp op a b, e, h => by
    unfold mtE at h
    split at h <;> first | (exact absurd h Bool.false_ne_true) | (rename_i heq; cases heq; done) | (rename_i heq; cases heq)
    simp only [Bool.and_eq_true, decide_eq_true_eq, Bool.not_eq_true'] at h
    obtain ⟨⟨h1, h2⟩, h3⟩ := h
    subst h1
    exact snd_cmp (mtE_ok O a _ h2) (mtE_ok O b _ h3)
  | .eqq ne a b, e, h => by
    unfold mtE at h
    split at h <;> first | (exact absurd h Bool.false_ne_true) | (rename_i heq; cases heq; done) | (rename_i heq; cases heq)
    simp only [Bool.and_eq_true, decide_eq_true_eq, Bool.not_eq_true'] at h
    obtain ⟨⟨h1, h2⟩, h3⟩ := h
    subst h1
    exact snd_eqq O.units (mtE_ok O a _ h2) (mtE_ok O b _ h3)
  | .isN ne a, e, h => by
    unfold mtE at h
    split at h <;> first | (exact absurd h Bool.false_ne_true) | (rename_i heq; cases heq; done) | (rename_i heq; cases heq)
    simp only [Bool.and_eq_true, decide_eq_true_eq, Bool.not_eq_true'] at h
    obtain ⟨h1, h2⟩ := h
    subst h1
    exact snd_isN (mtE_ok O a _ h2)
  | .and a b, e, h => by
    unfold mtE at h
    split at h <;> first | (exact absurd h Bool.false_ne_true) | (rename_i heq; cases heq; done) | (rename_i heq; cases heq)
    rename_i x y r p
    rw [Bool.and_eq_true] at h
    cases r with
    | nil => exact snd_and (mtE_ok O a _ h.1) (pe_one (mtE_ok O b _ h.2))
    | cons z r => exact snd_and (mtE_ok O a _ h.1) (mtE_ok O b _ h.2)
  | .or a b, e, h => by
    unfold mtE at h
    split at h <;> first | (exact absurd h Bool.false_ne_true) | (rename_i heq; cases heq; done) | (rename_i heq; cases heq)
    rename_i x y r p
    rw [Bool.and_eq_true] at h
    cases r with
    | nil => exact snd_or (mtE_ok O a _ h.1) (pe_one (mtE_ok O b _ h.2))
    | cons z r => exact snd_or (mtE_ok O a _ h.1) (mtE_ok O b _ h.2)
  | .not a, e, h => by
    unfold mtE at h
    split at h <;> first | (exact absurd h Bool.false_ne_true) | (rename_i heq; cases heq; done) | (rename_i heq; cases heq)
    exact snd_not (mtE_ok O a _ h)
  | .ifx c a b, e, h => by
    unfold mtE at h
    split at h <;> first | (exact absurd h Bool.false_ne_true) | (rename_i heq; cases heq; done) | (rename_i heq; cases heq)
    simp only [Bool.and_eq_true, decide_eq_true_eq, Bool.not_eq_true'] at h
    obtain ⟨⟨⟨h0, h1⟩, h2⟩, h3⟩ := h
    exact snd_ifx (mtT_ok O c _ h0 h1) (mtE_ok O a _ h2) (mtE_ok O b _ h3)
  | .call f a, e, h => by
    unfold mtE at h
    split at h <;> first | (exact absurd h Bool.false_ne_true) | (rename_i heq; cases heq; done) | (rename_i heq; cases heq)
    simp only [Bool.and_eq_true] at h
    obtain ⟨⟨h1, h2⟩, h3⟩ := h
    obtain ⟨io, np, F, h4, h5⟩ := O.has h1
    exact snd_call F O.tk h4 h5 h2 (mtA_ok O a _ h3)
  | .isT a ts, e, h => by
    unfold mtE at h
    split at h <;> first | (exact absurd h Bool.false_ne_true) | (rename_i heq; cases heq; done) | (rename_i heq; cases heq)
    simp only [Bool.and_eq_true] at h
    obtain ⟨⟨⟨h1, h2⟩, h3⟩, h4⟩ := h
    obtain ⟨e1, h5, h6⟩ := O.blt h1
    subst e1
    split at h4
    · simp only [Bool.and_eq_true, decide_eq_true_eq] at h4
      exact snd_isTs h4.2 h5 h6 (tyNames_of O h4.1) h2 (mtE_ok O a _ h3)
    · split at h4
      · obtain ⟨p2, e2, h7, h8⟩ := tyName_of O h4
        subst e2
        exact snd_isT1 h5 h6 h7 h8 h2 (mtE_ok O a _ h3)
      · cases h4
  | .len a, e, h => by
    unfold mtE at h
    split at h <;> first | (exact absurd h Bool.false_ne_true) | (rename_i heq; cases heq; done) | (rename_i heq; cases heq)
    simp only [Bool.and_eq_true] at h
    obtain ⟨⟨h1, h2⟩, h3⟩ := h
    obtain ⟨e1, h5, h6⟩ := O.blt h1
    subst e1
    exact snd_len h5 h6 h2 (mtE_ok O a _ h3)
  | .lenl i, e, h => by
    unfold mtE at h
    split at h <;> first | (exact absurd h Bool.false_ne_true) | (rename_i heq; cases heq; done) | (rename_i heq; cases heq)
    rw [Bool.and_eq_true] at h
    obtain ⟨e1, h5, h6⟩ := O.blt h.1
    subst e1
    obtain ⟨h1, h2, h3, h4⟩ := O.name h.2
    exact snd_lenl h5 h6 h1 h2 h3 h4
  | .abs a, e, h => by
    unfold mtE at h
    split at h <;> first | (exact absurd h Bool.false_ne_true) | (rename_i heq; cases heq; done) | (rename_i heq; cases heq)
    simp only [Bool.and_eq_true] at h
    obtain ⟨⟨h1, h2⟩, h3⟩ := h
    obtain ⟨e1, h5, h6⟩ := O.blt h1
    subst e1
    exact snd_abs h5 h6 h2 (mtE_ok O a _ h3)
  | .int1 a, e, h => by
    unfold mtE at h
    split at h <;> first | (exact absurd h Bool.false_ne_true) | (rename_i heq; cases heq; done) | (rename_i heq; cases heq)
    simp only [Bool.and_eq_true] at h
    obtain ⟨⟨h1, h2⟩, h3⟩ := h
    obtain ⟨e1, h5, h6⟩ := O.blt h1
    subst e1
    exact snd_int1 h5 h6 h2 (mtE_ok O a _ h3)
  | .min2 a b, e, h => by
    unfold mtE at h
    split at h <;> first | (exact absurd h Bool.false_ne_true) | (rename_i heq; cases heq; done) | (rename_i heq; cases heq)
    simp only [Bool.and_eq_true] at h
    obtain ⟨⟨⟨⟨h1, h2⟩, h2'⟩, h3⟩, h4⟩ := h
    obtain ⟨e1, h5, h6⟩ := O.blt h1
    subst e1
    exact snd_min2 O.calm h5 h6 h2 h2' (mtE_ok O a _ h3) (mtE_ok O b _ h4)
  | .max2 a b, e, h => by
    unfold mtE at h
    split at h <;> first | (exact absurd h Bool.false_ne_true) | (rename_i heq; cases heq; done) | (rename_i heq; cases heq)
    simp only [Bool.and_eq_true] at h
    obtain ⟨⟨⟨⟨h1, h2⟩, h2'⟩, h3⟩, h4⟩ := h
    obtain ⟨e1, h5, h6⟩ := O.blt h1
    subst e1
    exact snd_max2 O.calm h5 h6 h2 h2' (mtE_ok O a _ h3) (mtE_ok O b _ h4)
  | .gcd a b, e, h => by
    unfold mtE at h
    split at h <;> first | (exact absurd h Bool.false_ne_true) | (rename_i heq; cases heq; done) | (rename_i heq; cases heq)
    simp only [Bool.and_eq_true, decide_eq_true_eq, Bool.not_eq_true'] at h
    obtain ⟨⟨⟨⟨⟨⟨h1, h0⟩, h9⟩, h2⟩, h2'⟩, h3⟩, h4⟩ := h
    exact snd_gcd (O.glob h1) (O.gcd _ h9) h0 h2 h2' (mtE_ok O a _ h3) (mtE_ok O b _ h4)
  | .bits a, e, h => by
    unfold mtE at h
    split at h <;> first | (exact absurd h Bool.false_ne_true) | (rename_i heq; cases heq; done) | (rename_i heq; cases heq)
    simp only [Bool.and_eq_true, decide_eq_true_eq] at h
    obtain ⟨⟨⟨h1, h2⟩, h3⟩, h4⟩ := h
    subst h1
    exact snd_bits (abase_of h2) h3 (mtE_ok O a _ h4)
  | .ix a b, e, h => by
    unfold mtE at h
    split at h <;> first | (exact absurd h Bool.false_ne_true) | (rename_i heq; cases heq; done) | (rename_i heq; cases heq)
    simp only [Bool.and_eq_true] at h
    obtain ⟨⟨h1, h2⟩, h3⟩ := h
    exact snd_ix (plainIx_of h1) (mtE_ok O a _ h2) (mtE_ok O b _ h3)
  | .pop i, e, h => by
    unfold mtE at h
    split at h <;> first | (exact absurd h Bool.false_ne_true) | (rename_i heq; cases heq; done) | (rename_i heq; cases heq)
    simp only [Bool.and_eq_true, decide_eq_true_eq] at h
    obtain ⟨⟨h1, h2⟩, h3⟩ := h
    subst h1
    obtain ⟨h4, h5, h6, h7⟩ := O.name h2
    exact snd_pop h3 h4 h5 h6 h7
  | .tupOf a, e, h => by
    unfold mtE at h
    split at h <;> first | (exact absurd h Bool.false_ne_true) | (rename_i heq; cases heq; done) | (rename_i heq; cases heq)
    simp only [Bool.and_eq_true] at h
    obtain ⟨⟨h1, h2⟩, h3⟩ := h
    obtain ⟨e1, h5, h6⟩ := O.blt h1
    subst e1
    exact snd_tupOf h5 h6 h2 (mtE_ok O a _ h3)
  | .ofL l, e, h => snd_ofL (mtL_ok O l e (by unfold mtE at h; exact h))
theorem mtT_ok (O : CxOk X C cl W Γ) : ∀ (ir : E) (e : Expr), tst ir = true → mtE C ir e = true → PT X e (tT X cl C.io W Γ ir)
  | .ifx _ _ _, _, h, _ => by cases h
  | .not a, e, ht, h => by
    unfold mtE at h
    split at h <;> first | (exact absurd h Bool.false_ne_true) | (rename_i heq; cases heq; done) | (rename_i heq; cases heq)
    exact sndT_not (mtT_ok O a _ ht h)
  | .and a b, e, ht, h => by
    unfold mtE at h
    split at h <;> first | (exact absurd h Bool.false_ne_true) | (rename_i heq; cases heq; done) | (rename_i heq; cases heq)
    rename_i x y r p
    rw [Bool.and_eq_true] at h
    have ht' : (tst a && tst b) = true := ht
    rw [Bool.and_eq_true] at ht'
    cases r with
    | nil => exact (sndT_and (mtT_ok O a _ ht'.1 h.1) (pw_and1 (mtT_ok O b _ ht'.2 h.2))).pt
    | cons z r => exact (sndT_and (mtT_ok O a _ ht'.1 h.1) (mtW_and O b ht'.2 h.2)).pt
  | .or a b, e, ht, h => by
    unfold mtE at h
    split at h <;> first | (exact absurd h Bool.false_ne_true) | (rename_i heq; cases heq; done) | (rename_i heq; cases heq)
    rename_i x y r p
    rw [Bool.and_eq_true] at h
    have ht' : (tst a && tst b) = true := ht
    rw [Bool.and_eq_true] at ht'
    cases r with
    | nil => exact (sndT_or (mtT_ok O a _ ht'.1 h.1) (pw_or1 (mtT_ok O b _ ht'.2 h.2))).pt
    | cons z r => exact (sndT_or (mtT_ok O a _ ht'.1 h.1) (mtW_or O b ht'.2 h.2)).pt
  | .var i, e, ht, h => sndT_val (mtE_ok O _ _ h) (by
    unfold mtE at h
    split at h <;> first | (exact absurd h Bool.false_ne_true) | (rename_i heq; cases heq; done) | (rename_i heq; cases heq)
    exact fun _ => rfl)
  | .cst d, e, ht, h => sndT_val (mtE_ok O _ _ h) (by
    unfold mtE at h
    split at h <;> first | (exact absurd h Bool.false_ne_true) | (rename_i heq; cases heq; done) | (rename_i heq; cases heq)
    exact fun _ => rfl)
  | .tup a, e, ht, h => sndT_val (mtE_ok O _ _ h) (by
    unfold mtE at h
    split at h <;> first | (exact absurd h Bool.false_ne_true) | (rename_i heq; cases heq; done) | (rename_i heq; cases heq)
    exact fun _ => rfl)
  | .bin op a b, e, ht, h => sndT_val (mtE_ok O _ _ h) (by
    unfold mtE at h
    split at h <;> first | (exact absurd h Bool.false_ne_true) | (rename_i heq; cases heq; done) | (rename_i heq; cases heq)
    exact fun _ => rfl)
  | .neg a, e, ht, h => sndT_val (mtE_ok O _ _ h) (by
    unfold mtE at h
    split at h <;> first | (exact absurd h Bool.false_ne_true) | (rename_i heq; cases heq; done) | (rename_i heq; cases heq)
    exact fun _ => rfl)
  | .call f a, e, ht, h => sndT_val (mtE_ok O _ _ h) (by
    unfold mtE at h
    split at h <;> first | (exact absurd h Bool.false_ne_true) | (rename_i heq; cases heq; done) | (rename_i heq; cases heq)
    exact fun _ => rfl)
  | .isT a ts, e, ht, h => sndT_val (mtE_ok O _ _ h) (by
    unfold mtE at h
    split at h <;> first | (exact absurd h Bool.false_ne_true) | (rename_i heq; cases heq; done) | (rename_i heq; cases heq)
    exact fun _ => rfl)
  | .len a, e, ht, h => sndT_val (mtE_ok O _ _ h) (by
    unfold mtE at h
    split at h <;> first | (exact absurd h Bool.false_ne_true) | (rename_i heq; cases heq; done) | (rename_i heq; cases heq)
    exact fun _ => rfl)
  | .lenl i, e, ht, h => sndT_val (mtE_ok O _ _ h) (by
    unfold mtE at h
    split at h <;> first | (exact absurd h Bool.false_ne_true) | (rename_i heq; cases heq; done) | (rename_i heq; cases heq)
    exact fun _ => rfl)
  | .abs a, e, ht, h => sndT_val (mtE_ok O _ _ h) (by
    unfold mtE at h
    split at h <;> first | (exact absurd h Bool.false_ne_true) | (rename_i heq; cases heq; done) | (rename_i heq; cases heq)
    exact fun _ => rfl)
  | .int1 a, e, ht, h => sndT_val (mtE_ok O _ _ h) (by
    unfold mtE at h
    split at h <;> first | (exact absurd h Bool.false_ne_true) | (rename_i heq; cases heq; done) | (rename_i heq; cases heq)
    exact fun _ => rfl)
  | .min2 a b, e, ht, h => sndT_val (mtE_ok O _ _ h) (by
    unfold mtE at h
    split at h <;> first | (exact absurd h Bool.false_ne_true) | (rename_i heq; cases heq; done) | (rename_i heq; cases heq)
    exact fun _ => rfl)
  | .max2 a b, e, ht, h => sndT_val (mtE_ok O _ _ h) (by
    unfold mtE at h
    split at h <;> first | (exact absurd h Bool.false_ne_true) | (rename_i heq; cases heq; done) | (rename_i heq; cases heq)
    exact fun _ => rfl)
  | .gcd a b, e, ht, h => sndT_val (mtE_ok O _ _ h) (by
    unfold mtE at h
    split at h <;> first | (exact absurd h Bool.false_ne_true) | (rename_i heq; cases heq; done) | (rename_i heq; cases heq)
    exact fun _ => rfl)
  | .bits a, e, ht, h => sndT_val (mtE_ok O _ _ h) (by
    unfold mtE at h
    split at h <;> first | (exact absurd h Bool.false_ne_true) | (rename_i heq; cases heq; done) | (rename_i heq; cases heq)
    exact fun _ => rfl)
  | .ix a b, e, ht, h => sndT_val (mtE_ok O _ _ h) (by
    unfold mtE at h
    split at h <;> first | (exact absurd h Bool.false_ne_true) | (rename_i heq; cases heq; done) | (rename_i heq; cases heq)
    exact fun _ => rfl)
  | .pop i, e, ht, h => sndT_val (mtE_ok O _ _ h) (by
    unfold mtE at h
    split at h <;> first | (exact absurd h Bool.false_ne_true) | (rename_i heq; cases heq; done) | (rename_i heq; cases heq)
    exact fun _ => rfl)
  | .tupOf a, e, ht, h => sndT_val (mtE_ok O _ _ h) (by
    unfold mtE at h
    split at h <;> first | (exact absurd h Bool.false_ne_true) | (rename_i heq; cases heq; done) | (rename_i heq; cases heq)
    exact fun _ => rfl)
  | .cmp op a b, e, _, h => by
    unfold mtE at h
    split at h <;> first | (exact absurd h Bool.false_ne_true) | (rename_i heq; cases heq; done) | (rename_i heq; cases heq)
    simp only [Bool.and_eq_true, decide_eq_true_eq, Bool.not_eq_true'] at h
    obtain ⟨⟨h1, h2⟩, h3⟩ := h
    subst h1
    exact sndT_cmp (mtE_ok O a _ h2) (mtE_ok O b _ h3)
  | .eqq ne a b, e, _, h => by
    unfold mtE at h
    split at h <;> first | (exact absurd h Bool.false_ne_true) | (rename_i heq; cases heq; done) | (rename_i heq; cases heq)
    simp only [Bool.and_eq_true, decide_eq_true_eq, Bool.not_eq_true'] at h
    obtain ⟨⟨h1, h2⟩, h3⟩ := h
    subst h1
    exact sndT_eqq O.units (mtE_ok O a _ h2) (mtE_ok O b _ h3)
  | .isN ne a, e, _, h => by
    unfold mtE at h
    split at h <;> first | (exact absurd h Bool.false_ne_true) | (rename_i heq; cases heq; done) | (rename_i heq; cases heq)
    simp only [Bool.and_eq_true, decide_eq_true_eq, Bool.not_eq_true'] at h
    obtain ⟨h1, h2⟩ := h
    subst h1
    exact sndT_isN (mtE_ok O a _ h2)
  | .ofL l, e, _, h => sndT_val (mtE_ok O _ _ h) (by
    unfold mtE at h
    unfold mtL at h
    split at h <;> first | (exact absurd h Bool.false_ne_true) | (exact fun _ => rfl))
theorem mtW_and (O : CxOk X C cl W Γ) : ∀ (ir : E) {y z : Expr} {r : List Expr} {p : Pos}, tst ir = true → mtE C ir (.BoolOp .And (y :: z :: r) p) = true → PW X (.BoolOp .And (y :: z :: r) p) (tT X cl C.io W Γ ir)
  | .and a b, y, z, r, p, ht, h => by
    unfold mtE at h
    rw [Bool.and_eq_true] at h
    have ht' : (tst a && tst b) = true := ht
    rw [Bool.and_eq_true] at ht'
    cases r with
    | nil => exact sndT_and (mtT_ok O a _ ht'.1 h.1) (pw_and1 (mtT_ok O b _ ht'.2 h.2))
    | cons w r => exact sndT_and (mtT_ok O a _ ht'.1 h.1) (mtW_and O b ht'.2 h.2)
  | .var i, _, _, _, _, _, h => absurd h (by unfold mtE; exact Bool.false_ne_true)
  | .cst d, _, _, _, _, _, h => absurd h (by unfold mtE; exact Bool.false_ne_true)
  | .tup a, _, _, _, _, _, h => absurd h (by unfold mtE; exact Bool.false_ne_true)
  | .bin op a b, _, _, _, _, _, h => absurd h (by unfold mtE; exact Bool.false_ne_true)
  | .neg a, _, _, _, _, _, h => absurd h (by unfold mtE; exact Bool.false_ne_true)
  | .cmp op a b, _, _, _, _, _, h => absurd h (by unfold mtE; exact Bool.false_ne_true)
  | .eqq ne a b, _, _, _, _, _, h => absurd h (by unfold mtE; exact Bool.false_ne_true)
  | .isN ne a, _, _, _, _, _, h => absurd h (by unfold mtE; exact Bool.false_ne_true)
  | .or a b, _, _, _, _, _, h => absurd h (by unfold mtE; exact Bool.false_ne_true)
  | .not a, _, _, _, _, _, h => absurd h (by unfold mtE; exact Bool.false_ne_true)
  | .ifx c a b, _, _, _, _, _, h => absurd h (by unfold mtE; exact Bool.false_ne_true)
  | .call f a, _, _, _, _, _, h => absurd h (by unfold mtE; exact Bool.false_ne_true)
  | .isT a ts, _, _, _, _, _, h => absurd h (by unfold mtE; exact Bool.false_ne_true)
  | .len a, _, _, _, _, _, h => absurd h (by unfold mtE; exact Bool.false_ne_true)
  | .lenl i, _, _, _, _, _, h => absurd h (by unfold mtE; exact Bool.false_ne_true)
  | .abs a, _, _, _, _, _, h => absurd h (by unfold mtE; exact Bool.false_ne_true)
  | .int1 a, _, _, _, _, _, h => absurd h (by unfold mtE; exact Bool.false_ne_true)
  | .min2 a b, _, _, _, _, _, h => absurd h (by unfold mtE; exact Bool.false_ne_true)
  | .max2 a b, _, _, _, _, _, h => absurd h (by unfold mtE; exact Bool.false_ne_true)
  | .gcd a b, _, _, _, _, _, h => absurd h (by unfold mtE; exact Bool.false_ne_true)
  | .bits a, _, _, _, _, _, h => absurd h (by unfold mtE; exact Bool.false_ne_true)
  | .ix a b, _, _, _, _, _, h => absurd h (by unfold mtE; exact Bool.false_ne_true)
  | .pop i, _, _, _, _, _, h => absurd h (by unfold mtE; exact Bool.false_ne_true)
  | .tupOf a, _, _, _, _, _, h => absurd h (by unfold mtE; exact Bool.false_ne_true)
  | .ofL l, _, _, _, _, _, h => absurd h (by unfold mtE mtL; cases l <;> exact Bool.false_ne_true)
theorem mtW_or (O : CxOk X C cl W Γ) : ∀ (ir : E) {y z : Expr} {r : List Expr} {p : Pos}, tst ir = true → mtE C ir (.BoolOp .Or (y :: z :: r) p) = true → PW X (.BoolOp .Or (y :: z :: r) p) (tT X cl C.io W Γ ir)
  | .or a b, y, z, r, p, ht, h => by
    unfold mtE at h
    rw [Bool.and_eq_true] at h
    have ht' : (tst a && tst b) = true := ht
    rw [Bool.and_eq_true] at ht'
    cases r with
    | nil => exact sndT_or (mtT_ok O a _ ht'.1 h.1) (pw_or1 (mtT_ok O b _ ht'.2 h.2))
    | cons w r => exact sndT_or (mtT_ok O a _ ht'.1 h.1) (mtW_or O b ht'.2 h.2)
  | .var i, _, _, _, _, _, h => absurd h (by unfold mtE; exact Bool.false_ne_true)
  | .cst d, _, _, _, _, _, h => absurd h (by unfold mtE; exact Bool.false_ne_true)
  | .tup a, _, _, _, _, _, h => absurd h (by unfold mtE; exact Bool.false_ne_true)
  | .bin op a b, _, _, _, _, _, h => absurd h (by unfold mtE; exact Bool.false_ne_true)
  | .neg a, _, _, _, _, _, h => absurd h (by unfold mtE; exact Bool.false_ne_true)
  | .cmp op a b, _, _, _, _, _, h => absurd h (by unfold mtE; exact Bool.false_ne_true)
  | .eqq ne a b, _, _, _, _, _, h => absurd h (by unfold mtE; exact Bool.false_ne_true)
  | .isN ne a, _, _, _, _, _, h => absurd h (by unfold mtE; exact Bool.false_ne_true)
  | .and a b, _, _, _, _, _, h => absurd h (by unfold mtE; exact Bool.false_ne_true)
  | .not a, _, _, _, _, _, h => absurd h (by unfold mtE; exact Bool.false_ne_true)
  | .ifx c a b, _, _, _, _, _, h => absurd h (by unfold mtE; exact Bool.false_ne_true)
  | .call f a, _, _, _, _, _, h => absurd h (by unfold mtE; exact Bool.false_ne_true)
  | .isT a ts, _, _, _, _, _, h => absurd h (by unfold mtE; exact Bool.false_ne_true)
  | .len a, _, _, _, _, _, h => absurd h (by unfold mtE; exact Bool.false_ne_true)
  | .lenl i, _, _, _, _, _, h => absurd h (by unfold mtE; exact Bool.false_ne_true)
  | .abs a, _, _, _, _, _, h => absurd h (by unfold mtE; exact Bool.false_ne_true)
  | .int1 a, _, _, _, _, _, h => absurd h (by unfold mtE; exact Bool.false_ne_true)
  | .min2 a b, _, _, _, _, _, h => absurd h (by unfold mtE; exact Bool.false_ne_true)
  | .max2 a b, _, _, _, _, _, h => absurd h (by unfold mtE; exact Bool.false_ne_true)
  | .gcd a b, _, _, _, _, _, h => absurd h (by unfold mtE; exact Bool.false_ne_true)
  | .bits a, _, _, _, _, _, h => absurd h (by unfold mtE; exact Bool.false_ne_true)
  | .ix a b, _, _, _, _, _, h => absurd h (by unfold mtE; exact Bool.false_ne_true)
  | .pop i, _, _, _, _, _, h => absurd h (by unfold mtE; exact Bool.false_ne_true)
  | .tupOf a, _, _, _, _, _, h => absurd h (by unfold mtE; exact Bool.false_ne_true)
  | .ofL l, _, _, _, _, _, h => absurd h (by unfold mtE mtL; cases l <;> exact Bool.false_ne_true)
theorem mtA_ok (O : CxOk X C cl W Γ) : ∀ (ir : A) (e : List Expr), mtA C ir e = true → PA X e (tA X cl C.io W Γ ir)
  | .nil, e, h => by
    unfold mtA at h
    split at h <;> first | (exact absurd h Bool.false_ne_true) | (rename_i heq; cases heq; done) | (rename_i heq; cases heq)
    exact snd_anil
  | .cons a r, e, h => by
    unfold mtA at h
    split at h <;> first | (exact absurd h Bool.false_ne_true) | (rename_i heq; cases heq; done) | (rename_i heq; cases heq)
    simp only [Bool.and_eq_true] at h
    obtain ⟨⟨h1, h2⟩, h3⟩ := h
    exact snd_acons h1 (mtE_ok O a _ h2) (mtA_ok O r _ h3)
  | .io i r, e, h => by
    unfold mtA at h
    split at h <;> first | (exact absurd h Bool.false_ne_true) | (rename_i heq; cases heq; done) | (rename_i heq; cases heq)
    rw [Bool.and_eq_true] at h
    obtain ⟨h1, h2, h3, h4⟩ := O.name h.1
    exact snd_aio h1 h2 h3 h4 (mtA_ok O r _ h.2)
theorem mtL_ok (O : CxOk X C cl W Γ) : ∀ (ir : L) (e : Expr), mtL C ir e = true → PE X e (tL X cl C.io W Γ ir)
  | .disp a, e, h => by
    unfold mtL at h
    split at h <;> first | (exact absurd h Bool.false_ne_true) | (rename_i heq; cases heq; done) | (rename_i heq; cases heq)
    exact snd_disp (mtA_ok O a _ h)
  | .listOf a, e, h => by
    unfold mtL at h
    split at h <;> first | (exact absurd h Bool.false_ne_true) | (rename_i heq; cases heq; done) | (rename_i heq; cases heq)
    simp only [Bool.and_eq_true] at h
    obtain ⟨⟨h1, h2⟩, h3⟩ := h
    obtain ⟨e1, h5, h6⟩ := O.blt h1
    subst e1
    exact snd_listOf h5 h6 h2 (mtE_ok O a _ h3)
  | .callL f a, e, h => by
    unfold mtL at h
    split at h <;> first | (exact absurd h Bool.false_ne_true) | (rename_i heq; cases heq; done) | (rename_i heq; cases heq)
    simp only [Bool.and_eq_true] at h
    obtain ⟨⟨h1, h2⟩, h3⟩ := h
    obtain ⟨io, np, F, h4, h5⟩ := O.has h1
    exact snd_callL F O.tk h4 h5 h2 (mtA_ok O a _ h3)
end
end
end VI
set_option maxHeartbeats 2000000
/-! The soundness of statements and of defs. -/
namespace VI
open PySem L2 Evl
section
variable {X : Cx} {C : Ctx} {cl : Nat → Addr} {W : WX} {Γ : Gam} {fu : Nat}
theorem swaps_of {e : Expr} {t : Option Expr} {n : Nat} {env : PySem.Env} (h : noComp e = true) : swapsWith e t n env = pure false := by
  cases e <;> first | rfl | (cases h; done)
theorem swapsSole_of {e t : Expr} {n : Nat} {env : PySem.Env} (h : noComp e = true) : swapsWithSole [t] e n env = pure false := by
  cases e <;> first | rfl | (cases h; done)
theorem stores_of {ts : List Expr} {k : Nat} {p : Pos} {e : Expr} {env : PySem.Env} (h : noTup e = true) : swappedStores [.Tuple ts k p] e env = pure none := by
  cases e <;> first | rfl | (cases h; done)
theorem folded_of {e : Expr} {env : PySem.Env} (h : noSet e = true) : ∀ u, foldedSetIterable e env u = pure u := by
  cases e <;> first | (intro _; rfl) | (cases h; done)
theorem tgts_of (O : CxOk X C cl W Γ) : ∀ {is : List Nat} {es : List Expr}, tgts C is es = true → Targets X C.io is es
  | [], [], _ => .nil
  | [], _ :: _, h => by unfold tgts at h; cases h
  | _ :: _, [], h => by unfold tgts at h; cases h
  | i :: is, e :: es, h => by
    cases e <;> try (exact absurd h (by unfold tgts; exact Bool.false_ne_true))
    unfold tgts at h
    simp only [Bool.and_eq_true, decide_eq_true_eq] at h
    obtain ⟨⟨⟨h1, h2⟩, h3⟩, h4⟩ := h
    exact .cons (by rw [O.N]; exact h1) (O.loc h2) (O.fn _) h3 (tgts_of O h4)
theorem swapped_of (O : CxOk X C cl W Γ) {x y : Str} {px py p p2 : Pos} {k k2 : Nat} {a b : Expr} (hx : C.loc x = true) (hy : C.loc y = true) (hxy : x ≠ y) (hl : (py.line == px.line) = true) (ha : plainX a = true) (hb : plainX b = true)
    (h1 : [a, b].all (foldedForSure 8) = false) (h2 : [a, b].all (constantsAlone 8) = false) : swappedStores [.Tuple [.Name x px, .Name y py] k p] (.Tuple [a, b] k2 p2) X.env = pure (some [x, y]) := by
  have kx : X.env.kindOf x = some .local := by
    show X.env.scope.names.lookup x = _
    rw [O.sc]; exact of_decide_eq_true hx
  have ky : X.env.kindOf y = some .local := by
    show X.env.scope.names.lookup y = _
    rw [O.sc]; exact of_decide_eq_true hy
  have e1 : ([a, b].any fun | .Starred .. => true | _ => false) = false := by
    cases a <;> first | (cases ha; done) | (cases b <;> first | (cases hb; done) | rfl)
  have kb := O.kind
  have hyx : (y == x) = false := beq_eq_false_iff_ne.mpr (Ne.symm hxy)
  have hxx : (x == y) = false := beq_eq_false_iff_ne.mpr hxy
  have hl' : py.line = px.line := beq_iff_eq.mp hl
  unfold swappedStores
  simp [kx, ky, kb, Expr.pos, hl', List.eraseDups, hyx, hxx]
  have n2 : (List.eraseDupsBy (fun x1 x2 => x1 == x2) [x, y]).length = 2 := by
    simp [List.eraseDupsBy, List.eraseDupsBy.loop, hyx, hxx]
  simp only [List.all_cons, List.all_nil, Bool.and_true] at h1 h2
  rw [if_neg]
  · rw [if_pos n2, if_neg, if_neg]
    · intro h; rw [h.1, h.2] at h2; cases h2
    · intro h; rw [h.1, h.2] at h1; cases h1
  · intro h
    rcases h with h | h
    · cases a <;> first | (cases ha; done) | (cases h; done)
    · cases b <;> first | (cases hb; done) | (cases h; done)
mutual
theorem mtS_ok (O : CxOk X C cl W Γ) : ∀ (ir : S) (e : Stmt), mtS C ir e = true → PS X e (tS X cl C.io W Γ fu ir)
  | .pass, e, h => by
    unfold mtS at h
    split at h <;> first | (exact absurd h Bool.false_ne_true) | (rename_i heq; cases heq; done) | (rename_i heq; cases heq)
    exact snd_pass
  | .asg i ie, e, h => by
    unfold mtS at h
    split at h <;> first | (exact absurd h Bool.false_ne_true) | (rename_i heq; cases heq; done) | (rename_i heq; cases heq)
    simp only [Bool.and_eq_true, decide_eq_true_eq, Bool.not_eq_true'] at h
    obtain ⟨⟨⟨⟨h1, h2⟩, h3⟩, h4⟩, h5⟩ := h
    exact snd_asg (by rw [O.N]; exact O.nd) (by rw [O.N]; exact h1) (O.loc h2) (O.fn _) h3 (swaps_of h4) (mtE_ok O _ _ h5)
  | .newL i l, e, h => by
    unfold mtS at h
    split at h <;> first | (exact absurd h Bool.false_ne_true) | (rename_i heq; cases heq; done) | (rename_i heq; cases heq)
    simp only [Bool.and_eq_true, decide_eq_true_eq, Bool.not_eq_true'] at h
    obtain ⟨⟨⟨⟨h1, h2⟩, h3⟩, h4⟩, h5⟩ := h
    exact snd_newL (by rw [O.N]; exact O.nd) (by rw [O.N]; exact h1) (O.loc h2) (O.fn _) h3 (swaps_of h4) (mtL_ok O _ _ h5)
  | .asgT is ie, e, h => by
    unfold mtS at h
    split at h <;> first | (exact absurd h Bool.false_ne_true) | (rename_i heq; cases heq; done) | (rename_i heq; cases heq)
    simp only [Bool.and_eq_true, decide_eq_true_eq, Bool.not_eq_true'] at h
    obtain ⟨⟨⟨h1, h2⟩, h3⟩, h4⟩ := h
    exact snd_asgT O.calm (by rw [O.N]; exact O.nd) (tgts_of O h1) (swapsSole_of h2) (stores_of h3) (mtE_ok O _ _ h4)
  | .par i j a b, e, h => by
    unfold mtS at h
    split at h <;> first | (exact absurd h Bool.false_ne_true) | (rename_i heq; cases heq; done) | (rename_i heq; cases heq)
    simp only [Bool.and_eq_true, decide_eq_true_eq, Bool.not_eq_true'] at h
    obtain ⟨⟨⟨⟨⟨⟨⟨⟨⟨⟨⟨⟨⟨⟨h1, h2⟩, h3⟩, h4⟩, h5⟩, h6⟩, h7⟩, h8⟩, h9⟩, h10⟩, h11⟩, h12⟩, h13⟩, h14⟩, h15⟩ := h
    exact snd_par O.calm (by rw [O.N]; exact O.nd) (by rw [O.N]; exact h1) (by rw [O.N]; exact h2) h3 (by rw [O.sc]; exact of_decide_eq_true h5) (by rw [O.sc]; exact of_decide_eq_true h6) h7 h8 h9 h10
      (swapped_of O h5 h6 h4 h11 h9 h10 h12 h13) (mtE_ok O _ _ h14) (mtE_ok O _ _ h15)
  | .app i ie, e, h => by
    unfold mtS at h
    split at h <;> first | (exact absurd h Bool.false_ne_true) | (rename_i heq; cases heq; done) | (rename_i heq; cases heq)
    simp only [Bool.and_eq_true, decide_eq_true_eq, Bool.not_eq_true'] at h
    obtain ⟨⟨⟨⟨h1, h2⟩, h3⟩, h4⟩, h5⟩ := h
    subst h1
    obtain ⟨h6, h7, h8, h9⟩ := O.name h2
    exact snd_app h6 h7 h8 h9 h3 h4 (by rw [star_cons h3]; rfl) (mtE_ok O _ _ h5)
  | .rev i, e, h => by
    unfold mtS at h
    split at h <;> first | (exact absurd h Bool.false_ne_true) | (rename_i heq; cases heq; done) | (rename_i heq; cases heq)
    simp only [Bool.and_eq_true, decide_eq_true_eq, Bool.not_eq_true'] at h
    obtain ⟨⟨h1, h2⟩, h4⟩ := h
    subst h1
    obtain ⟨h6, h7, h8, h9⟩ := O.name h2
    exact snd_rev h6 h7 h8 h9 h4
  | .ite c a b, e, h => by
    unfold mtS at h
    split at h <;> first | (exact absurd h Bool.false_ne_true) | (rename_i heq; cases heq; done) | (rename_i heq; cases heq)
    simp only [Bool.and_eq_true, decide_eq_true_eq, Bool.not_eq_true'] at h
    obtain ⟨⟨⟨h1, h2⟩, h3⟩, h4⟩ := h
    exact snd_ite (mtT_ok O _ _ h1 h2) (mtB_ok O a _ h3) (mtB_ok O b _ h4)
  | .forV i ie b, e, h => by
    unfold mtS at h
    split at h <;> first | (exact absurd h Bool.false_ne_true) | (rename_i heq; cases heq; done) | (rename_i heq; cases heq)
    simp only [Bool.and_eq_true, decide_eq_true_eq, Bool.not_eq_true'] at h
    obtain ⟨⟨⟨⟨⟨h1, h2⟩, h3⟩, h4⟩, h5⟩, h6⟩ := h
    exact snd_forV O.pass O.calm (by rw [O.N]; exact O.nd) (by rw [O.N]; exact h1) (O.loc h2) (O.fn _) h3 (folded_of h4) (mtE_ok O _ _ h5) (mtB_ok O b _ h6)
  | .forR i ie b, e, h => by
    unfold mtS at h
    split at h <;> first | (exact absurd h Bool.false_ne_true) | (rename_i heq; cases heq; done) | (rename_i heq; cases heq)
    simp only [Bool.and_eq_true, decide_eq_true_eq, Bool.not_eq_true'] at h
    obtain ⟨⟨⟨⟨⟨⟨h1, h2⟩, h3⟩, h4⟩, h5⟩, h6⟩, h7⟩ := h
    obtain ⟨e1, h8, h9⟩ := O.blt h4
    subst e1
    exact snd_forR O.pass O.calm (by rw [O.N]; exact O.nd) (by rw [O.N]; exact h1) (O.loc h2) (O.fn _) h3 h8 h9 h5 (mtE_ok O _ _ h6) (mtB_ok O b _ h7)
  | .whl c b, e, h => by
    unfold mtS at h
    split at h <;> first | (exact absurd h Bool.false_ne_true) | (rename_i heq; cases heq; done) | (rename_i heq; cases heq)
    simp only [Bool.and_eq_true, decide_eq_true_eq, Bool.not_eq_true'] at h
    obtain ⟨⟨h1, h2⟩, h3⟩ := h
    exact snd_whl O.pass (mtT_ok O _ _ h1 h2) (mtB_ok O b _ h3)
  | .ret ie, e, h => by
    unfold mtS at h
    split at h <;> first | (exact absurd h Bool.false_ne_true) | (rename_i heq; cases heq; done) | (rename_i heq; cases heq)
    exact snd_ret (mtE_ok O _ _ h)
  | .retL i, e, h => by
    unfold mtS at h
    split at h <;> first | (exact absurd h Bool.false_ne_true) | (rename_i heq; cases heq; done) | (rename_i heq; cases heq)
    simp only [Bool.and_eq_true, decide_eq_true_eq, Bool.not_eq_true'] at h
    obtain ⟨h1, h2⟩ := h
    obtain ⟨h6, h7, h8, h9⟩ := O.name h1
    exact snd_retL h6 h7 h8 h9 h2
  | .brk, e, h => by
    unfold mtS at h
    split at h <;> first | (exact absurd h Bool.false_ne_true) | (rename_i heq; cases heq; done) | (rename_i heq; cases heq)
    exact snd_brk
  | .cnt, e, h => by
    unfold mtS at h
    split at h <;> first | (exact absurd h Bool.false_ne_true) | (rename_i heq; cases heq; done) | (rename_i heq; cases heq)
    exact snd_cnt
  | .nev, e, h => snd_nev
  | .nil, e, h => absurd h (by unfold mtS; exact Bool.false_ne_true)
  | .seq _ _, e, h => absurd h (by unfold mtS; exact Bool.false_ne_true)
theorem mtB_ok (O : CxOk X C cl W Γ) : ∀ (ir : S) (e : List Stmt), mtB C ir e = true → PSs X e (tS X cl C.io W Γ fu ir)
  | .nil, e, h => by
    unfold mtB at h
    split at h <;> first | (exact absurd h Bool.false_ne_true) | (rename_i heq; cases heq; done) | (rename_i heq; cases heq)
    exact snds_nil
  | .seq a b, e, h => by
    unfold mtB at h
    split at h <;> first | (exact absurd h Bool.false_ne_true) | (rename_i heq; cases heq; done) | (rename_i heq; cases heq)
    rw [Bool.and_eq_true] at h
    exact snds_seq (mtS_ok O a _ h.1) (mtB_ok O b _ h.2)
  | .pass, e, h => absurd h (by unfold mtB; exact Bool.false_ne_true)
  | .asg _ _, e, h => absurd h (by unfold mtB; exact Bool.false_ne_true)
  | .newL _ _, e, h => absurd h (by unfold mtB; exact Bool.false_ne_true)
  | .asgT _ _, e, h => absurd h (by unfold mtB; exact Bool.false_ne_true)
  | .par _ _ _ _, e, h => absurd h (by unfold mtB; exact Bool.false_ne_true)
  | .app _ _, e, h => absurd h (by unfold mtB; exact Bool.false_ne_true)
  | .rev _, e, h => absurd h (by unfold mtB; exact Bool.false_ne_true)
  | .ite _ _ _, e, h => absurd h (by unfold mtB; exact Bool.false_ne_true)
  | .forV _ _ _, e, h => absurd h (by unfold mtB; exact Bool.false_ne_true)
  | .forR _ _ _, e, h => absurd h (by unfold mtB; exact Bool.false_ne_true)
  | .whl _ _, e, h => absurd h (by unfold mtB; exact Bool.false_ne_true)
  | .ret _, e, h => absurd h (by unfold mtB; exact Bool.false_ne_true)
  | .retL _, e, h => absurd h (by unfold mtB; exact Bool.false_ne_true)
  | .brk, e, h => absurd h (by unfold mtB; exact Bool.false_ne_true)
  | .cnt, e, h => absurd h (by unfold mtB; exact Bool.false_ne_true)
  | .nev, e, h => absurd h (by unfold mtB; exact Bool.false_ne_true)
end
end
end VI
set_option maxHeartbeats 2000000
/-! The soundness of defs, of the program, of a law; the head's facts. -/
namespace VI
open PySem L2 Evl
theorem outsOf_len (io : List Nat) (np : Nat) (ρ : Env) : (outsOf io np ρ).length = np := by
  unfold outsOf
  rw [List.length_map, List.length_range]
theorem outsOf_at {io : List Nat} {np k : Nat} {ρ : Env} (h : k < np) : Env.at (outsOf io np ρ) k = if k ∈ io then ρ.at k else .no := by
  unfold Env.at outsOf
  rw [List.getD_eq_getElem?_getD, List.getElem?_map, List.getElem?_range h]
  rfl
theorem avsOk_of {d : Def} {avs : List Slot} (h : avsOk d avs = true) : avs.length = d.np ∧ ∀ k, k < d.np → if k ∈ d.io then isOwn (Env.at avs k) = true else isVal (Env.at avs k) = true := by
  unfold avsOk at h
  rw [Bool.and_eq_true] at h
  refine ⟨of_decide_eq_true h.1, fun k hk => ?_⟩
  have h2 := List.all_eq_true.mp h.2 k (List.mem_range.mpr hk)
  by_cases q : k ∈ d.io
  · rw [if_pos q] at h2 ⊢; exact h2
  · rw [if_neg q] at h2 ⊢; exact h2
theorem callD_succ (defs : List Def) (fu n f : Nat) (avs : List Slot) : callD defs fu (n + 1) f avs = match defs[f]? with
    | some d => if avsOk d avs = true then finish d (evS (callD defs fu n) fu d.body (startD d avs)) else none
    | none => none := rfl
theorem callD_some {defs : List Def} {fu n f : Nat} {avs : List Slot} (h : callD defs fu n f avs ≠ none) : ∃ m d, n = m + 1 ∧ defs[f]? = some d ∧ avsOk d avs = true ∧ callD defs fu n f avs = finish d (evS (callD defs fu m) fu d.body (startD d avs)) := by
  cases n with
  | zero => exact absurd rfl h
  | succ m =>
    rw [callD_succ] at h ⊢
    cases q : defs[f]? with
    | none => rw [q] at h; exact absurd rfl h
    | some d =>
      rw [q] at h
      dsimp only at h ⊢
      by_cases hc : avsOk d avs = true
      · exact ⟨m, d, rfl, rfl, hc, by rw [if_pos hc]⟩
      · rw [if_neg hc] at h; exact absurd rfl h
theorem gam_ok {defs : List Def} {fu n f : Nat} {d : Def} (hd : defs[f]? = some d) : GamOk d.io d.np (callD defs fu n f) where
  len := fun avs h => by
    obtain ⟨m, d', rfl, h1, h2, h3⟩ := callD_some h
    rw [hd] at h1; cases h1
    exact (avsOk_of h2).1
  own := fun avs h k hk => by
    obtain ⟨m, d', rfl, h1, h2, h3⟩ := callD_some h
    rw [hd] at h1; cases h1
    obtain ⟨h4, h5⟩ := avsOk_of h2
    have hlt : k < d.np := by
      rw [← h4]
      refine at_lt (ρ := avs) fun z => ?_
      rw [z] at hk; cases hk
    have h6 := h5 k hlt
    by_cases q : k ∈ d.io
    · exact q
    · rw [if_neg q] at h6
      cases q2 : Env.at avs k with
      | no => rw [q2] at hk; cases hk
      | v _ => rw [q2] at hk; cases hk
      | l _ => rw [q2] at h6; cases h6
  outs := fun avs r outs h => by
    obtain ⟨m, d', rfl, h1, h2, h3⟩ := callD_some (by rw [h]; exact fun z => nomatch z)
    rw [hd] at h1; cases h1
    rw [h3] at h
    cases q : evS (callD defs fu m) fu d.body (startD d avs) with
    | none => rw [q] at h; cases h
    | some o =>
      rw [q] at h
      cases o <;> cases h <;> exact outsOf_len _ _ _
  outsX := fun avs c w outs h => by
    obtain ⟨m, d', rfl, h1, h2, h3⟩ := callD_some (by rw [h]; exact fun z => nomatch z)
    rw [hd] at h1; cases h1
    rw [h3] at h
    cases q : evS (callD defs fu m) fu d.body (startD d avs) with
    | none => rw [q] at h; cases h
    | some o =>
      rw [q] at h
      cases o <;> cases h <;> exact outsOf_len _ _ _
section
variable {P : Par} {io : List Nat} {Hi H : Hp} {σ : L2.St} {ρ : Env} {A : Nat → List Addr}
/-- the frame's further names -/
theorem start_rel (R : RelA P io Hi H σ ρ A) (n : Nat) : RelA P io Hi H (σ ++ List.replicate n none) (ρ ++ List.replicate n .no) A where
  b := R.b
  i := R.i
  i0 := R.i0
  fr := R.fr
  len := by rw [List.length_append, List.length_append, List.length_replicate, List.length_replicate, R.len]
  sl := fun k => by
    by_cases hk : k < ρ.length
    · have h1 : sAt (σ ++ List.replicate n none) k = sAt σ k := by
        unfold sAt
        rw [List.getElem?_append_left (by rw [R.len]; exact hk)]
      rw [h1, at_app_lt hk]
      exact R.sl k
    · have h2 : Env.at (ρ ++ List.replicate n .no) k = .no := by
        unfold Env.at
        rw [List.getD_eq_getElem?_getD, List.getElem?_append_right (by omega), List.getElem?_replicate]
        split <;> rfl
      have h3 : ρ.at k = .no := by
        unfold Env.at
        rw [List.getD_eq_getElem?_getD, List.getElem?_eq_none_iff.mpr (by omega)]
        rfl
      have h4 := R.sl k
      rw [h3] at h4
      rw [h2]
      exact h4
  ow := R.ow
  nd := R.nd
  dj := R.dj
  pn := fun p hp => by
    obtain ⟨h1, h2⟩ := R.pn p hp
    refine ⟨?_, h2⟩
    have hk : p.1 < σ.length := by
      unfold sAt at h1
      cases q : σ[p.1]? with
      | none => rw [q] at h1; cases h1
      | some o => exact (List.getElem?_eq_some_iff.mp q).1
    unfold sAt at h1 ⊢
    rw [List.getElem?_append_left hk]
    exact h1
/-- what a def hands back: its parameters' lists and its value -/
def Ao (A : Nat → List Addr) (io : List Nat) (np : Nat) (l : List Addr) : Nat → List Addr := fun k => if k < np then (if k ∈ io then A k else []) else if k = np then l else []
theorem end_rel {vs : List V} {v : V} {r : Slot} {l : List Addr} {np : Nat} (R : RelA P io Hi H σ ρ A) (hl : vs.length = np) (hpin : ∀ k, k < np → k ∈ io → sAt σ k = vs[k]?)
    (hr : SlotOk P Hi H (some v) r l) (hl1 : ∀ a ∈ l, Hi a = none ∧ P.B a = none) (hl2 : l.Nodup) (hl3 : ∀ a ∈ l, ∀ k ∈ io, a ∉ A k) (hpn : ∀ p ∈ P.pin, p.1 < np) :
    RelA P io Hi H (vs.map some ++ [some v]) (outsOf io np ρ ++ [r]) (Ao A io np l) where
  b := R.b
  i := R.i
  i0 := R.i0
  fr := R.fr
  len := by rw [List.length_append, List.length_append, List.length_map, outsOf_len, hl]; rfl
  sl := fun k => by
    unfold Ao
    by_cases hk : k < np
    · rw [if_pos hk, at_app_lt (by rw [outsOf_len]; exact hk), outsOf_at hk, sAt_app_lt (by rw [hl]; exact hk)]
      by_cases hio : k ∈ io
      · rw [if_pos hio, if_pos hio, ← hpin k hk hio]; exact R.sl k
      · rw [if_neg hio, if_neg hio]; exact rfl
    · rw [if_neg hk]
      by_cases he : k = np
      · have e1 : Env.at (outsOf io np ρ ++ [r]) k = r := by
          have := at_app_last (xs := outsOf io np ρ) (s := r)
          rw [outsOf_len] at this
          rw [he]; exact this
        have e2 : sAt (vs.map some ++ [some v]) k = some v := by
          have := sAt_app_last (xs := vs) (o := some v)
          rw [hl] at this
          rw [he]; exact this
        rw [if_pos he, e1, e2]
        exact hr
      · rw [if_neg he]
        have h2 : Env.at (outsOf io np ρ ++ [r]) k = .no := by
          unfold Env.at
          rw [List.getD_eq_getElem?_getD, List.getElem?_eq_none_iff.mpr (by rw [List.length_append, outsOf_len]; show np + 1 ≤ k; omega)]
          rfl
        rw [h2]
        exact rfl
  ow := fun k a ha => by
    unfold Ao at ha
    split at ha
    · split at ha
      · exact R.ow k a ha
      · cases ha
    · split at ha
      · exact hl1 a ha
      · cases ha
  nd := fun k => by
    unfold Ao
    split
    · split
      · exact R.nd k
      · exact List.nodup_nil
    · split
      · exact hl2
      · exact List.nodup_nil
  dj := fun i j hij a ha => by
    unfold Ao at ha ⊢
    split at ha
    · rename_i h1
      split at ha
      · rename_i h2
        split
        · split
          · exact R.dj i j hij a ha
          · exact List.not_mem_nil
        · split
          · exact fun h => hl3 a h i h2 ha
          · exact List.not_mem_nil
      · cases ha
    · split at ha
      · split
        · split
          · rename_i h3; exact hl3 a ha j h3
          · exact List.not_mem_nil
        · split
          · rename_i h1 h2 h3 h4; exact absurd (h2.trans h4.symm) hij
          · exact List.not_mem_nil
      · cases ha
  pn := fun p hp => by
    obtain ⟨h1, h2⟩ := R.pn p hp
    refine ⟨?_, h2⟩
    rw [sAt_app_lt (by rw [hl]; exact hpn p hp), ← hpin _ (hpn p hp) h2]
    exact h1
theorem end_relX {vs : List V} {np : Nat} (R : RelA P io Hi H σ ρ A) (hl : vs.length = np) (hpin : ∀ k, k < np → k ∈ io → sAt σ k = vs[k]?) (hpn : ∀ p ∈ P.pin, p.1 < np) :
    RelA P io Hi H (vs.map some) (outsOf io np ρ) (Ao A io np []) where
  b := R.b
  i := R.i
  i0 := R.i0
  fr := R.fr
  len := by rw [List.length_map, outsOf_len, hl]
  sl := fun k => by
    unfold Ao
    by_cases hk : k < np
    · rw [if_pos hk, outsOf_at hk, sAt_map]
      by_cases hio : k ∈ io
      · rw [if_pos hio, if_pos hio, ← hpin k hk hio]; exact R.sl k
      · rw [if_neg hio, if_neg hio]; exact rfl
    · rw [if_neg hk]
      have h2 : Env.at (outsOf io np ρ) k = .no := by
        unfold Env.at
        rw [List.getD_eq_getElem?_getD, List.getElem?_eq_none_iff.mpr (by rw [outsOf_len]; omega)]
        rfl
      rw [h2]
      split <;> exact rfl
  ow := fun k a ha => by
    unfold Ao at ha
    split at ha
    · split at ha
      · exact R.ow k a ha
      · cases ha
    · split at ha <;> cases ha
  nd := fun k => by
    unfold Ao
    split
    · split
      · exact R.nd k
      · exact List.nodup_nil
    · split <;> exact List.nodup_nil
  dj := fun i j hij a ha => by
    unfold Ao at ha ⊢
    split at ha
    · split at ha
      · split
        · split
          · exact R.dj i j hij a ha
          · exact List.not_mem_nil
        · split <;> exact List.not_mem_nil
      · cases ha
    · split at ha <;> cases ha
  pn := fun p hp => by
    obtain ⟨h1, h2⟩ := R.pn p hp
    refine ⟨?_, h2⟩
    rw [sAt_map, ← hpin _ (hpn p hp) h2]
    exact h1
end
/-! ### a def of the text -/
def fnsOf (defs : List Def) : List Fn := defs.map fun d => ⟨d.name, d.io, d.np⟩
structure DefOk (defs : List Def) (free gcds : List Str) (d : Def) (st : Stmt) : Prop where
  sc : FnScope d.N (d.N.take d.np) (defScope st)
  np : (d.N.take d.np).length = d.np
  mt : mtB ⟨d.N, defScope st, d.io, fnsOf defs, free, gcds⟩ d.body (defBody st) = true
  bd : ∀ (kV doc pm : Value) (an : Option Addr) (cdv ct : Value) (us : List Value), us.length = (d.N.take d.np).length → bindArgs (PySem.W.fnOf d.name d.name (defArgs st) (defBody st) (defScope st) .none kV doc pm an cdv ct) ⟨us, []⟩ = pure ((d.N.take d.np).zip us)
structure ProgOk (K : PySem.W.Frag) (mg : Str → Option Value) (defs : List Def) (free gcds : List Str) : Prop where
  hfree : ∀ x ∈ free, mg x = none
  hgcd : ∀ x ∈ gcds, mg x = some (.builtin "math.gcd")
  fns : ∀ (f : Nat) (d : Def), defs[f]? = some d → ∃ st fa fd, DefOk defs free gcds d st ∧ FunD K d.name d.name (defArgs st) (defBody st) (defScope st) [] [] fa fd ∧ mg d.name = some (.ref fa)
section
variable {P : Program} {w : World} {K : PySem.W.Frag} {mg : Str → Option Value} {base : Heap} {cl : Nat → Addr} {defs : List Def} {free gcds : List Str} {fu : Nat}
theorem prog_ok (G : ProgOk K mg defs free gcds) : ∀ (n f : Nat) (d : Def) (st : Stmt) (fa : Addr) (fd : FuncData), defs[f]? = some d → DefOk defs free gcds d st → FunD K d.name d.name (defArgs st) (defBody st) (defScope st) [] [] fa fd →
    FnOk P w K mg base (L2.CX P w) n fa fd (d.N.take d.np) (spF K cl d.io d.np (callD defs fu n f)) := by
  intro n
  induction n with
  | zero =>
    intro f d st fa fd hd Dk F
    have no : ∀ vs H Q E, spF K cl d.io d.np (callD defs fu 0 f) vs H Q E → False := by
      rintro vs H Q E ⟨B, Hi, pin, avs, A, _, _, _, h⟩
      exact h
    have len : ∀ vs H Q E, spF K cl d.io d.np (callD defs fu 0 f) vs H Q E → vs.length = (d.N.take d.np).length := fun vs H Q E h => (no vs H Q E h).elim
    exact (F.ok (CX := L2.CX P w) (k := 0) (sp := fun vs H Q E => False) Dk.sc (fun _ _ _ _ h => h.elim) (fun _ _ _ _ _ _ _ _ _ h => h.elim) : FnOk P w K mg base (L2.CX P w) 1 fa fd (d.N.take d.np) _) |> fun z => ⟨len, fun A outer s H args binds vs Q E hr h0 hb hv h => (no vs H Q E h).elim⟩
  | succ n ih =>
    intro f d st fa fd hd Dk F
    refine F.ok Dk.sc (fun vs H Q E h => ?_) fun cdv A outer s H vs Q E hr h => ?_
    · obtain ⟨B, Hi, pin, avs, A, _, hl, _⟩ := h
      rw [hl, Dk.np]
    · obtain ⟨B, Hi, pin, avs, Aa, R, hl, hpin, h⟩ := h
      have hne : callD defs fu (n + 1) f avs ≠ none := fun z => by rw [z] at h; exact h
      obtain ⟨m, d', hm, hd', hok, hcall⟩ := callD_some hne
      rw [hd] at hd'; cases hd'
      have hm' : n = m := by omega
      subst hm'
      rw [hcall] at h
      obtain ⟨hal, hav⟩ := avsOk_of hok
      let W : WX := fun cls d _ H => E cls d H
      have O : CxOk (cxOf (L2.CX P w) P w K mg base d.N d.name (defScope st) fa cdv A outer s H E) ⟨d.N, defScope st, d.io, fnsOf defs, free, gcds⟩ cl W (callD defs fu n) := {
        N := rfl
        sc := rfl
        kind := by
          show (if (defScope st).kind.isAnnotationScope then ScopeKind.function else (defScope st).kind) = .function
          rw [Dk.sc.kind]; rfl
        nd := Dk.sc.nd
        calm := rfl
        pass := passes_of rfl
        tk := takes_of rfl rfl rfl rfl
        fn := fun _ => rfl
        units := hr.units
        free := G.hfree
        gcd := G.hgcd
        fns := fun f' g' hg => by
          have hg' : (fnsOf defs)[f']? = some g' := hg
          unfold fnsOf at hg'
          rw [List.getElem?_map] at hg'
          cases q : defs[f']? with
          | none => rw [q] at hg'; cases hg'
          | some d2 =>
            rw [q] at hg'
            cases hg'
            obtain ⟨st2, fa2, fd2, D2, F2, hm2⟩ := G.fns f' d2 q
            exact ⟨⟨n, fa2, fd2, _, ih f' d2 st2 fa2 fd2 q D2 F2, hr, hm2, F2.kp, F2.bindsN D2.bd⟩, gam_ok q⟩ }
      refine ⟨_, mtB_ok (fu := fu) O d.body (defBody st) Dk.mt, ?_⟩
      have e1 : start d.N vs = vs.map some ++ List.replicate (d.N.length - vs.length) none := rfl
      have e2 : startD d avs = avs ++ List.replicate (d.N.length - vs.length) .no := by
        unfold startD
        rw [hal, hl]
      rw [e1]
      refine ⟨B, Hi, pin, Hi, startD d avs, Aa, by rw [e2]; exact start_rel R _, ?_⟩
      -- what the end asks
      have pinned : ∀ {σ' : L2.St} {Hi' H' : Hp} {ρ' : Env} {A' : Nat → List Addr}, RelA ⟨K, cl, B, Hi, pin⟩ d.io Hi' H' σ' ρ' A' → ∀ k, k < d.np → k ∈ d.io → sAt σ' k = vs[k]? := fun {σ' Hi' H' ρ' A'} R' k hk hio => by
        have h1 := hav k hk
        rw [if_pos hio] at h1
        cases q : Env.at avs k with
        | no => rw [q] at h1; cases h1
        | v _ => rw [q] at h1; cases h1
        | l ds =>
          obtain ⟨a, _, h2, h3, _⟩ := R.own q
          have h4 : (k, a) ∈ pin := hpin k a (by rw [h2]; exact List.mem_singleton.mpr rfl)
          rw [(R'.pn _ h4).1, ← sAt_map, h3]
      have hpn : ∀ p ∈ pin, p.1 < d.np := fun p hp => by
        have h1 := (R.pn p hp).1
        rw [sAt_map] at h1
        rw [← hl]
        exact (List.getElem?_eq_some_iff.mp h1).1
      cases q : evS (callD defs fu n) fu d.body (startD d avs) with
      | none => rw [q] at h; exact h
      | some o =>
        rw [q] at h
        cases o with
        | nx ρ' =>
          intro σ' Hi' H' A' e R'
          exact h .non Hi' H' _ e (end_rel (l := []) R' hl (pinned R') ⟨rfl, _, rfl, .non⟩ (fun _ z => (nomatch z)) List.nodup_nil (fun _ z => (nomatch z)) hpn)
        | bk ρ' => exact h.elim
        | ct ρ' => exact h.elim
        | ret r ρ' =>
          intro v σ' Hi' H' A' e R' hr'
          cases r with
          | no => exact hr'.elim
          | v dd => exact h v Hi' H' _ e (end_rel (l := []) R' hl (pinned R') ⟨rfl, v, rfl, hr'⟩ (fun _ z => (nomatch z)) List.nodup_nil (fun _ z => (nomatch z)) hpn)
          | l ds =>
            obtain ⟨i, hi, hat, hs⟩ := hr'
            obtain ⟨a, vs', t1, t2, t3, t4, t5, t6⟩ := R'.own hat
            rw [hs] at t2
            cases t2
            refine h (.ref a) Hi' H' _ e (end_rel (l := [a]) R' hl (pinned R') ⟨a, vs', rfl, rfl, t3, t4⟩ (fun b hb => ?_) (List.nodup_cons.mpr ⟨List.not_mem_nil, List.nodup_nil⟩) (fun b hb k hk => ?_) hpn)
            · rw [List.mem_singleton.mp hb]; exact ⟨t5, t6⟩
            · rw [List.mem_singleton.mp hb]
              refine R'.dj i k (fun z => hi (by rw [z]; exact hk)) a (by rw [t1]; exact List.mem_singleton.mpr rfl)
        | ex c w' ρ' =>
          intro dx σ' Hi' H' A' e R' hdx
          exact h dx Hi' H' _ e (end_relX R' hl (pinned R') hpn) hdx
/-- THE LAW: what the evaluator says of it is so -/
theorem law_sp {f : Nat} {d : Def} {k : Nat} {H : Hp} {a : Addr} {ns : List Int} (hnp : d.np = 1) (hS : SqL K H a (ns.map V.int))
    (hcall : callD defs fu k f [.v (.lst (ns.map D.int))] = some (.ret (.v (.bl true)) [.no])) : spF K cl d.io d.np (callD defs fu k f) [.ref a] H (fun v _ => v = .bl true) fun _ _ _ => False := by
  have reps : ∀ ns : List Int, Reps K cl H (ns.map V.int) (ns.map D.int) := by
    intro ns
    induction ns with
    | nil => exact .nil
    | cons n r ih => exact .cons (.int n) ih
  refine ⟨H, H, [], [.v (.lst (ns.map D.int))], fun _ => [], ⟨Ex.refl _, Ex.refl _, Ex.refl _, fun _ _ h => h, rfl, fun i => ?_, fun _ _ z => (nomatch z), fun _ => List.nodup_nil, fun _ _ _ _ z => (nomatch z), fun _ z => (nomatch z)⟩, by rw [hnp]; rfl, fun _ _ z => (nomatch z), ?_⟩
  · cases i with
    | zero => exact ⟨rfl, .ref a, rfl, .lst hS (reps ns)⟩
    | succ i =>
      have : Env.at [Slot.v (.lst (ns.map D.int))] (i + 1) = .no := by rw [at_succ, at_nil]
      rw [this]
      exact rfl
  · rw [hcall]
    intro v Hi' H' A' e R'
    have h1 := R'.sl 1
    obtain ⟨_, v', h2, h3⟩ := h1
    cases h2
    cases h3
    rfl
end
/-! ### the head: facts by names, one more Bool -/
section
open He
def obsX (fa : List Fa) (fn : List DefD) (ex : PySem.W.Frag → Bool) (K : PySem.W.Frag) : AlD := ((fa.all fun f => f.ok K) && (fn.all fun d => d.ok K) && ex K, fn.map fun d => fnW K d.at_)
def SaysX (fa : List Fa) (fn : List DefD) (ex : PySem.W.Frag → Bool) (K : PySem.W.Frag) : Prop := obsX fa fn ex K = valD fn
def obsXG (n : Nat) (fa : List Fa) (fn : List DefD) (ex : PySem.W.Frag → Bool) (g : Addr → Option Obj) : AlD := obsX fa fn ex (frG g (asD g n))
def hookX (n : Nat) (fa : List Fa) (fn : List DefD) (ex : PySem.W.Frag → Bool) : PySem.W.Hook where
  α := AlD
  obs := fun s => obsXG n fa fn ex s.heap.get?
  val := fun _ => valD fn
  says := fun _ h => ∃ K : PySem.W.Frag, K.In h ∧ SaysX fa fn ex K
  of := fun _ _ e => ⟨_, frG_in, e⟩
  keeps := fun _ _ _ ⟨K, hK, c⟩ k => ⟨K, PySem.W.Frag.In.keeps hK k, c⟩
theorem obsXG_eq {n : Nat} {fa : List Fa} {fn : List DefD} {ex : PySem.W.Frag → Bool} {g : Addr → Option Obj} {s : Shared} (h : ∀ a, g a = s.heap.get? a) : obsXG n fa fn ex g = (hookX n fa fn ex).obs s := by
  have e : g = s.heap.get? := funext h
  rw [e] <;> rfl
variable {fa : List Fa} {fn : List DefD} {ex : PySem.W.Frag → Bool} {K : PySem.W.Frag}
theorem SaysX.parts (c : SaysX fa fn ex K) : SaysD fa fn K ∧ ex K = true := by
  have c1 : ((fa.all fun f => f.ok K) && (fn.all fun d => d.ok K) && ex K) = true := congrArg (fun z : AlD => z.1) c
  have c2 : fn.map (fun d => fnW K d.at_) = fn.map DefD.val := congrArg (fun z : AlD => z.2) c
  rw [Bool.and_eq_true] at c1
  exact ⟨by unfold SaysD obsD valD; rw [c1.1, c2], c1.2⟩
end
/-! ### from the head's facts to the law -/
section
open He
variable {defs : List Def} {free gcds : List Str} {tx : Nat → Stmt}
def AllOk (defs : List Def) (free gcds : List Str) (tx : Nat → Stmt) : List (Def × Nat) → Prop
  | [] => True
  | p :: r => DefOk defs free gcds p.1 (tx p.2) ∧ AllOk defs free gcds tx r
theorem AllOk.at : ∀ {l : List (Def × Nat)} {f : Nat} {p : Def × Nat}, AllOk defs free gcds tx l → l[f]? = some p → DefOk defs free gcds p.1 (tx p.2)
  | [], _, _, _, h => by simp at h
  | _ :: _, 0, _, a, h => by simp at h; subst h; exact a.1
  | _ :: r, f + 1, _, a, h => AllOk.at (l := r) (f := f) a.2 (by simpa using h)
def ddOf (tx : Nat → Stmt) (p : Def × Nat) : DefD := ⟨(p.1.name, none), p.1.name, p.1.name, defArgs (tx p.2), defBody (tx p.2), defScope (tx p.2), [], []⟩
def fnOf (tx : Nat → Stmt) (l : List (Def × Nat)) : List DefD := l.map (ddOf tx)
def faOf (l : List (Def × Nat)) (free : List Str) : List Fa := l.map (fun p => .glo p.1.name) ++ free.map .free
def exOf (gcds : List Str) (K : PySem.W.Frag) : Bool := gcds.all fun x => eqO (PySem.W.nsIn K mainGlobals x) (some (some (.builtin "math.gcd")))
theorem prog_of {l : List (Def × Nat)} {K : PySem.W.Frag} {h : Heap} {mg : Str → Option Value} (X : K.In h) (G : h.Ns mainGlobals mg) (c : SaysX (faOf l free) (fnOf tx l) (exOf gcds) K) (hl : l.map (·.1) = defs) (hok : AllOk defs free gcds tx l) :
    ProgOk K mg defs free gcds := by
  obtain ⟨c1, c2⟩ := c.parts
  have fact : ∀ f ∈ faOf l free, f.ok K = true := fun f hf => by
    obtain ⟨i, hi⟩ := List.getElem?_of_mem hf
    exact c1.fact i hi
  refine ⟨fun x hx => free_ok X G (fact _ (List.mem_append_right _ (List.mem_map.mpr ⟨x, hx, rfl⟩))), fun x hx => PySem.W.mg_of X G (eqO_ok (List.all_eq_true.mp c2 x hx)), fun f d hd => ?_⟩
  rw [← hl, List.getElem?_map] at hd
  cases q : l[f]? with
  | none => rw [q] at hd; cases hd
  | some p =>
    rw [q] at hd
    cases hd
    obtain ⟨fd, F⟩ := c1.def_ f (d := ddOf tx p) (by unfold fnOf; rw [List.getElem?_map, q]; rfl)
    refine ⟨tx p.2, _, fd, hok.at q, F, ?_⟩
    exact glo_ok X G (fact _ (List.mem_append_left _ (List.mem_map.mpr ⟨p, List.mem_of_getElem? q, rfl⟩)))
/-- the law's walk: what the evaluator says is so -/
theorem walk_law {l : PySem.W.OpenLaw} {k f fu : Nat} {d : Def} {ps : List (Def × Nat)} {q : Program} {loose : List Str} {XP : (Str → Option Value) → Heap → Prop} {dr : DefRec}
    (hn : l.most = some 63) (hdf : dr.params.defaults = []) (hname : dr.name = d.name) (hr : Room k callerA) (hl : ps.map (·.1) = defs) (hok : AllOk defs free gcds tx ps) (hd : defs[f]? = some d) (hps : d.N.take d.np = ([Str.ofString "script"] : List Str)) (hnp : d.np = 1)
    (law : ∀ ns : List Int, ns.length ≤ 63 → callD defs fu k f [.v (.lst (ns.map D.int))] = some (.ret (.v (.bl true)) [.no])) :
    PySem.W.WalkO q loose XP (fun _ h => ∃ K : PySem.W.Frag, K.In h ∧ SaysX (faOf ps free) (fnOf tx ps) (exOf gcds) K) l.row.toRowW dr [] (fun f vs => PySem.call f vs) := by
  refine Att.attach_call hn hdf fun w s₀ s₁ mg mb fa o pm cd doc a vs ns G Y ho hd' hcd hmg hobj hints hlen hg => ?_
  obtain ⟨K, KX, c⟩ := Y
  have P := prog_of KX G.T.g c hl hok
  obtain ⟨st, fa2, fd, D2, F2, hm2⟩ := P.fns f d hd
  rw [hname] at hmg
  have e : fa2 = fa := by rw [hm2] at hmg; injection hmg with z; injection z
  subst e
  have bind : ∀ (s : Shared) (u : Value), BindsTo s fd ⟨[u], []⟩ [("script", u)] := fun s u => by
    have z := F2.bindsA (ps := d.N.take d.np) D2.bd s [u] (by rw [hps]; rfl)
    rw [hps] at z
    exact z
  refine law_call KX G.T.g G.T.b G.T.builtins G.T.nolimit hg hobj hints (Nat.le_trans hlen (by decide)) hr (sp := spF K (fun _ => 0) d.io d.np (callD defs fu k f)) (CX := L2.CX l.prog w) (fun base kb gb => ?_) bind (fun H hO hS => law_sp hnp hS (law ns hlen)) fun H e s' hx => ?_
  · have P2 : ProgOk K mg defs free gcds := P
    have z := prog_ok (P := l.prog) (w := w) (base := base) (cl := fun _ => 0) (fu := fu) P2 k f d st fa2 fd hd D2 F2
    rw [hps] at z
    exact z
  · obtain ⟨_, _, _, _, _, _, _, _, _, _, _, _, z⟩ := hx
    exact z.elim
end
end VI
set_option maxHeartbeats 2000000
/-! Reckoning with the evaluator: rules for simp. -/
namespace VI
theorem nrf {α : Sort _} (a : α) : a = a := rfl
open PySem L2
section
variable {α β : Type}
@[simp] theorem bnd_ok (d : α) (ρ : Env) (f : α → Env → Option (Out β)) : bnd (some (.ok d ρ)) f = f d ρ := nrf _
@[simp] theorem bnd_no (f : α → Env → Option (Out β)) : bnd none f = none := nrf _
@[simp] theorem bnd_ex (c : Nat) (w : List D) (ρ : Env) (f : α → Env → Option (Out β)) : bnd (some (.ex c w ρ)) f = some (.ex c w ρ) := nrf _
@[simp] theorem sbnd_ok (d : α) (ρ : Env) (f : α → Env → Option SOut) : sbnd (some (.ok d ρ)) f = f d ρ := nrf _
@[simp] theorem sbnd_no (f : α → Env → Option SOut) : sbnd none f = none := nrf _
@[simp] theorem sbnd_ex (c : Nat) (w : List D) (ρ : Env) (f : α → Env → Option SOut) : sbnd (some (.ex c w ρ)) f = some (.ex c w ρ) := nrf _
@[simp] theorem thenS_nx (ρ : Env) (f : Env → Option SOut) : thenS (some (.nx ρ)) f = f ρ := nrf _
@[simp] theorem thenS_ret (r : Slot) (ρ : Env) (f : Env → Option SOut) : thenS (some (.ret r ρ)) f = some (.ret r ρ) := nrf _
@[simp] theorem thenS_bk (ρ : Env) (f : Env → Option SOut) : thenS (some (.bk ρ)) f = some (.bk ρ) := nrf _
@[simp] theorem thenS_ct (ρ : Env) (f : Env → Option SOut) : thenS (some (.ct ρ)) f = some (.ct ρ) := nrf _
@[simp] theorem thenS_ex (c : Nat) (w : List D) (ρ : Env) (f : Env → Option SOut) : thenS (some (.ex c w ρ)) f = some (.ex c w ρ) := nrf _
@[simp] theorem thenS_no (f : Env → Option SOut) : thenS none f = none := nrf _
@[simp] theorem ok1_s (d : α) (ρ : Env) : ok1 (some d) ρ = some (.ok d ρ) := nrf _
@[simp] theorem ok1_n (ρ : Env) : ok1 (none : Option α) ρ = none := nrf _
@[simp] theorem thenS_ite {c : Prop} [Decidable c] (a b : Option SOut) (f : Env → Option SOut) : thenS (if c then a else b) f = if c then thenS a f else thenS b f := by split <;> rfl
@[simp] theorem sbnd_ite {c : Prop} [Decidable c] (a b : Option (Out α)) (f : α → Env → Option SOut) : sbnd (if c then a else b) f = if c then sbnd a f else sbnd b f := by split <;> rfl
@[simp] theorem bnd_ite {c : Prop} [Decidable c] (a b : Option (Out α)) (f : α → Env → Option (Out β)) : bnd (if c then a else b) f = if c then bnd a f else bnd b f := by split <;> rfl
end
@[simp] theorem finish_nx (d : Def) (ρ : Env) : VI.finish d (some (.nx ρ)) = some (.ret (.v .non) (outsOf d.io d.np ρ)) := nrf _
@[simp] theorem finish_ret (d : Def) (r : Slot) (ρ : Env) : VI.finish d (some (.ret r ρ)) = some (.ret r (outsOf d.io d.np ρ)) := nrf _
@[simp] theorem finish_ite {c : Prop} [Decidable c] (d : Def) (a b : Option SOut) : VI.finish d (if c then a else b) = if c then VI.finish d a else VI.finish d b := by split <;> rfl
@[simp] theorem isTDD_int (ts : List Ty) (i : Int) : isTDD ts (.int i) = some (.bl (ts.any fun t => isTy (.int i) t)) := nrf _
@[simp] theorem isTDD_bl (ts : List Ty) (i : Bool) : isTDD ts (.bl i) = some (.bl (ts.any fun t => isTy (.bl i) t)) := nrf _
@[simp] theorem isTDD_tup (ts : List Ty) (i : List D) : isTDD ts (.tup i) = some (.bl (ts.any fun t => isTy (.tup i) t)) := nrf _
@[simp] theorem isTDD_lst (ts : List Ty) (i : List D) : isTDD ts (.lst i) = some (.bl (ts.any fun t => isTy (.lst i) t)) := nrf _
@[simp] theorem lenD_tup (l : List D) : lenD (.tup l) = some (.int l.length) := nrf _
@[simp] theorem lenD_lst (l : List D) : lenD (.lst l) = some (.int l.length) := nrf _
@[simp] theorem items_tup (l : List D) : items (.tup l) = some l := nrf _
@[simp] theorem items_lst (l : List D) : items (.lst l) = some l := nrf _
@[simp] theorem cmpDD_int (op : Cm) (i j : Int) : cmpDD op (.int i) (.int j) = some (.bl (cmpD op i j)) := nrf _
@[simp] theorem cmpD_lt (i j : Int) : cmpD .lt i j = decide (i < j) := nrf _
@[simp] theorem cmpD_le (i j : Int) : cmpD .le i j = decide (i ≤ j) := nrf _
@[simp] theorem cmpD_gt (i j : Int) : cmpD .gt i j = decide (j < i) := nrf _
@[simp] theorem cmpD_ge (i j : Int) : cmpD .ge i j = decide (j ≤ i) := nrf _
@[simp] theorem negD_int (i : Int) : negD (.int i) = some (.int (-i)) := nrf _
@[simp] theorem absD_int (i : Int) : absD (.int i) = some (.int (if i < 0 then -i else i)) := nrf _
@[simp] theorem int1D_int (i : Int) : int1D (.int i) = some (.int i) := nrf _
@[simp] theorem bitsD_int (i : Int) : bitsD (.int i) = some (.int (Builtin.Int.intBits i : Nat)) := nrf _
@[simp] theorem min2D_int (i j : Int) : min2D (.int i) (.int j) = some (.int (if j < i then j else i)) := nrf _
@[simp] theorem max2D_int (i j : Int) : max2D (.int i) (.int j) = some (.int (if j > i then j else i)) := nrf _
@[simp] theorem gcdD_int (i j : Int) : gcdD (.int i) (.int j) = some (.int ((Nat.gcd i.natAbs j.natAbs : Nat) : Int)) := nrf _
@[simp] theorem tupD_lst (l : List D) : tupD (.lst l) = some (.tup l) := nrf _
@[simp] theorem tupD_tup (l : List D) : tupD (.tup l) = some (.tup l) := nrf _
@[simp] theorem bin_add (i j : Int) : binD .add (.int i) (.int j) = some (.int (i + j)) := nrf _
@[simp] theorem bin_sub (i j : Int) : binD .sub (.int i) (.int j) = some (.int (i - j)) := nrf _
theorem bin_mul {i j : Int} (h : okMul i j = true) : binD .mul (.int i) (.int j) = some (.int (i * j)) := if_pos h
theorem bin_fdiv {i j : Int} (h : okDiv j = true) : binD .fdiv (.int i) (.int j) = some (.int (i / j)) := if_pos h
theorem bin_mod {i j : Int} (h : 0 < j) : binD .mod (.int i) (.int j) = some (.int (i % j)) := if_pos h
@[simp] theorem eqqD_int (ne : Bool) (i j : Int) : eqqD ne (.int i) (.int j) = some (.bl (if ne then !decide (i = j) else decide (i = j))) := nrf _
@[simp] theorem ixD_int (x : D) (i : Int) : ixD x (.int i) = (items x).bind fun ds => atI ds i := nrf _
@[simp] theorem atI_0 {α : Type} (a : α) (l : List α) : atI (a :: l) 0 = some a := atI_nat (j := 0) rfl
@[simp] theorem atI_1 {α : Type} (a b : α) (l : List α) : atI (a :: b :: l) 1 = some b := atI_nat (j := 1) rfl
@[simp] theorem atI_2 {α : Type} (a b c : α) (l : List α) : atI (a :: b :: c :: l) 2 = some c := atI_nat (j := 2) rfl
@[simp] theorem atI_3 {α : Type} (a b c d : α) (l : List α) : atI (a :: b :: c :: d :: l) 3 = some d := atI_nat (j := 3) rfl
theorem okMul_of {i j : Int} {a b : Nat} (ha : i.natAbs < 2 ^ a) (hb : j.natAbs < 2 ^ b) (h : a + b ≤ 900000) : okMul i j = true := by
  have h1 : CMulW i j := wide_mul (a := a + 1) (b := b + 1) (Nat.lt_of_lt_of_le ha (Nat.pow_le_pow_right (by decide) (by omega))) (Nat.lt_of_lt_of_le hb (Nat.pow_le_pow_right (by decide) (by omega))) (by omega) (by omega) (by omega)
  unfold okMul
  rw [show decide (i.natAbs.log2 + j.natAbs.log2 < 1000000) = true from decide_eq_true h1]
  rfl
theorem okMul_l {i j : Int} (h : -(2 ^ 64) < i ∧ i < 2 ^ 64) : okMul i j = true := by
  unfold okMul
  rw [Bool.or_eq_true]
  exact .inr (decide_eq_true (.inl h))
theorem okMul_r {i j : Int} (h : -(2 ^ 64) < j ∧ j < 2 ^ 64) : okMul i j = true := by
  unfold okMul
  rw [Bool.or_eq_true]
  exact .inr (decide_eq_true (.inr h))
theorem okDiv_of {j : Int} {b : Nat} (h : 0 < j) (hb : j.natAbs < 2 ^ b) (h9 : b ≤ 8999) : okDiv j = true := by
  have h1 : CDivW 0 j := wide_div (b := b + 1) h (Nat.lt_of_lt_of_le hb (Nat.pow_le_pow_right (by decide) (by omega))) (by omega) (by omega)
  exact decide_eq_true h1
theorem le_line {n : Nat} (h : n ≤ 100000) : n ≤ sizeLine := Nat.le_trans h (by decide)
theorem lt_line {n : Nat} (h : n < 100000) : n < sizeLine := Nat.lt_of_lt_of_le h (by decide)
@[simp] theorem le_line1 : (1 ≤ sizeLine) = True := eq_true (by decide)
@[simp] theorem le_line2 : (2 ≤ sizeLine) = True := eq_true (by decide)
@[simp] theorem le_line3 : (3 ≤ sizeLine) = True := eq_true (by decide)
@[simp] theorem le_line4 : (4 ≤ sizeLine) = True := eq_true (by decide)
@[simp] theorem le_line0 : (0 ≤ sizeLine) = True := eq_true (by decide)
@[simp] theorem lt_line0 : (0 < sizeLine) = True := eq_true (by decide)
@[simp] theorem lt_line1 : (1 < sizeLine) = True := eq_true (by decide)
@[simp] theorem lt_line2 : (2 < sizeLine) = True := eq_true (by decide)
@[simp] theorem lt_line3 : (3 < sizeLine) = True := eq_true (by decide)
@[simp] theorem lt_line4 : (4 < sizeLine) = True := eq_true (by decide)
@[simp] theorem lt_line5 : (5 < sizeLine) = True := eq_true (by decide)
@[simp] theorem lt_line6 : (6 < sizeLine) = True := eq_true (by decide)
@[simp] theorem lt_line7 : (7 < sizeLine) = True := eq_true (by decide)
@[simp] theorem le_line5 : (5 ≤ sizeLine) = True := eq_true (by decide)
@[simp] theorem le_line6 : (6 ≤ sizeLine) = True := eq_true (by decide)
@[simp] theorem le_line7 : (7 ≤ sizeLine) = True := eq_true (by decide)
/-! continuations, by name -/
def u1 {α β : Type} (F : α → Option β) (x : α) (ρ : Env) : Option (Out β) := ok1 (F x) ρ
@[simp] theorem u1_def {α β : Type} (F : α → Option β) (x : α) (ρ : Env) : u1 F x ρ = ok1 (F x) ρ := nrf _
def b1 {β : Type} (Γ : Gam) (b : E) (F : D → D → Option β) (x : D) (ρ : Env) : Option (Out β) := bnd (evE Γ b ρ) (u1 (F x))
@[simp] theorem b1_def {β : Type} (Γ : Gam) (b : E) (F : D → D → Option β) (x : D) (ρ : Env) : b1 Γ b F x ρ = bnd (evE Γ b ρ) (u1 (F x)) := nrf _
def tupV (avs : List AV) : Option D := (vals avs).bind fun ds => if ds.length ≤ sizeLine then some (.tup ds) else none
@[simp] theorem tupV_def (avs : List AV) : tupV avs = (vals avs).bind fun ds => if ds.length ≤ sizeLine then some (.tup ds) else none := nrf _
def dispV (avs : List AV) : Option (List D) := (vals avs).bind fun ds => if ds.length ≤ sizeLine then some ds else none
@[simp] theorem dispV_def (avs : List AV) : dispV avs = (vals avs).bind fun ds => if ds.length ≤ sizeLine then some ds else none := nrf _
def isND (ne : Bool) (x : D) : Option D := some (.bl (if ne then !isNon x else isNon x))
@[simp] theorem isND_def (ne : Bool) (x : D) : isND ne x = some (.bl (if ne then !isNon x else isNon x)) := nrf _
def notD (x : D) : Option D := (truthy x).map fun k => .bl (!k)
@[simp] theorem notD_def (x : D) : notD x = (truthy x).map fun k => .bl (!k) := nrf _
def lstO (ds : List D) : Option D := some (.lst ds)
@[simp] theorem lstO_def (ds : List D) : lstO ds = some (.lst ds) := nrf _
def kAnd (Γ : Gam) (b : E) (x : D) (ρ : Env) : Option (Out D) := match truthy x with
  | some true => evE Γ b ρ
  | some false => some (.ok x ρ)
  | none => none
theorem kAnd_t {Γ : Gam} {b : E} {x : D} {ρ : Env} (h : truthy x = some true) : kAnd Γ b x ρ = evE Γ b ρ := by rw [kAnd, h]
theorem kAnd_f {Γ : Gam} {b : E} {x : D} {ρ : Env} (h : truthy x = some false) : kAnd Γ b x ρ = some (.ok x ρ) := by rw [kAnd, h]
@[simp] theorem kAnd_def (Γ : Gam) (b : E) (x : D) (ρ : Env) : kAnd Γ b x ρ = match truthy x with
  | some true => evE Γ b ρ
  | some false => some (.ok x ρ)
  | none => none := nrf _
def kOr (Γ : Gam) (b : E) (x : D) (ρ : Env) : Option (Out D) := match truthy x with
  | some false => evE Γ b ρ
  | some true => some (.ok x ρ)
  | none => none
@[simp] theorem kOr_def (Γ : Gam) (b : E) (x : D) (ρ : Env) : kOr Γ b x ρ = match truthy x with
  | some false => evE Γ b ρ
  | some true => some (.ok x ρ)
  | none => none := nrf _
def kIf (Γ : Gam) (a b : E) (k : Bool) (ρ : Env) : Option (Out D) := match k with
  | true => evE Γ a ρ
  | false => evE Γ b ρ
@[simp] theorem kIf_t (Γ : Gam) (a b : E) (ρ : Env) : kIf Γ a b true ρ = evE Γ a ρ := nrf _
@[simp] theorem kIf_f (Γ : Gam) (a b : E) (ρ : Env) : kIf Γ a b false ρ = evE Γ b ρ := nrf _
@[simp] theorem kIf_d (Γ : Gam) (a b : E) (c : Prop) [Decidable c] (ρ : Env) : kIf Γ a b (decide c) ρ = if c then evE Γ a ρ else evE Γ b ρ := by by_cases h : c <;> simp [h]
def kIte (Γ : Gam) (fu : Nat) (a b : S) (k : Bool) (ρ : Env) : Option SOut := match k with
  | true => evS Γ fu a ρ
  | false => evS Γ fu b ρ
@[simp] theorem kIte_t (Γ : Gam) (fu : Nat) (a b : S) (ρ : Env) : kIte Γ fu a b true ρ = evS Γ fu a ρ := nrf _
@[simp] theorem kIte_f (Γ : Gam) (fu : Nat) (a b : S) (ρ : Env) : kIte Γ fu a b false ρ = evS Γ fu b ρ := nrf _
@[simp] theorem kIte_d (Γ : Gam) (fu : Nat) (a b : S) (c : Prop) [Decidable c] (ρ : Env) : kIte Γ fu a b (decide c) ρ = if c then evS Γ fu a ρ else evS Γ fu b ρ := by by_cases h : c <;> simp [h]
def kIo (i : Nat) (ds : List AV) (ρ : Env) : Option (Out (List AV)) := some (.ok (.io i :: ds) ρ)
@[simp] theorem kIo_def (i : Nat) (ds : List AV) (ρ : Env) : kIo i ds ρ = some (.ok (.io i :: ds) ρ) := nrf _
def kC2 (d : D) (ds : List AV) (ρ : Env) : Option (Out (List AV)) := some (.ok (.v d :: ds) ρ)
@[simp] theorem kC2_def (d : D) (ds : List AV) (ρ : Env) : kC2 d ds ρ = some (.ok (.v d :: ds) ρ) := nrf _
def kCons (Γ : Gam) (r : A) (d : D) (ρ : Env) : Option (Out (List AV)) := bnd (evA Γ r ρ) (kC2 d)
@[simp] theorem kCons_def (Γ : Gam) (r : A) (d : D) (ρ : Env) : kCons Γ r d ρ = bnd (evA Γ r ρ) (kC2 d) := nrf _
def kAsg (i : Nat) (d : D) (ρ : Env) : Option SOut := setS ρ i (.v d)
@[simp] theorem kAsg_def (i : Nat) (d : D) (ρ : Env) : kAsg i d ρ = setS ρ i (.v d) := nrf _
def kNewL (i : Nat) (ds : List D) (ρ : Env) : Option SOut := setS ρ i (.l ds)
@[simp] theorem kNewL_def (i : Nat) (ds : List D) (ρ : Env) : kNewL i ds ρ = setS ρ i (.l ds) := nrf _
def kP2 (i j : Nat) (x y : D) (ρ : Env) : Option SOut := bindS ρ i (.v x) fun ρ => setS ρ j (.v y)
@[simp] theorem kP2_def (i j : Nat) (x y : D) (ρ : Env) : kP2 i j x y ρ = bindS ρ i (.v x) fun ρ => setS ρ j (.v y) := nrf _
def kPar (Γ : Gam) (i j : Nat) (b : E) (x : D) (ρ : Env) : Option SOut := sbnd (evE Γ b ρ) (kP2 i j x)
@[simp] theorem kPar_def (Γ : Gam) (i j : Nat) (b : E) (x : D) (ρ : Env) : kPar Γ i j b x ρ = sbnd (evE Γ b ρ) (kP2 i j x) := nrf _
def kRet (d : D) (ρ : Env) : Option SOut := some (.ret (.v d) ρ)
@[simp] theorem kRet_def (d : D) (ρ : Env) : kRet d ρ = some (.ret (.v d) ρ) := nrf _
def kBody (Γ : Gam) (fu i : Nat) (b : S) (d : D) (ρ : Env) : Option SOut := bindS ρ i (.v d) (evS Γ fu b)
@[simp] theorem kBody_def (Γ : Gam) (fu i : Nat) (b : S) (d : D) (ρ : Env) : kBody Γ fu i b d ρ = bindS ρ i (.v d) (evS Γ fu b) := nrf _
section
variable (Γ : Gam) (fu : Nat) (ρ : Env)
@[simp] theorem evE_cst (d : D) : evE Γ (.cst d) ρ = some (.ok d ρ) := by rw [evE] <;> rfl
@[simp] theorem evE_tup (a : A) : evE Γ (.tup a) ρ = bnd (evA Γ a ρ) (u1 tupV) := by rw [evE] <;> rfl
@[simp] theorem evE_bin (op : Op2) (a b : E) : evE Γ (.bin op a b) ρ = bnd (evE Γ a ρ) (b1 Γ b (binD op)) := by rw [evE] <;> rfl
@[simp] theorem evE_neg (a : E) : evE Γ (.neg a) ρ = bnd (evE Γ a ρ) (u1 negD) := by rw [evE] <;> rfl
@[simp] theorem evE_cmp (op : Cm) (a b : E) : evE Γ (.cmp op a b) ρ = bnd (evE Γ a ρ) (b1 Γ b (cmpDD op)) := by rw [evE] <;> rfl
@[simp] theorem evE_eqq (ne : Bool) (a b : E) : evE Γ (.eqq ne a b) ρ = bnd (evE Γ a ρ) (b1 Γ b (eqqD ne)) := by rw [evE] <;> rfl
@[simp] theorem evE_isN (ne : Bool) (a : E) : evE Γ (.isN ne a) ρ = bnd (evE Γ a ρ) (u1 (isND ne)) := by rw [evE] <;> rfl
@[simp] theorem evE_and (a b : E) : evE Γ (.and a b) ρ = bnd (evE Γ a ρ) (kAnd Γ b) := by rw [evE] <;> rfl
@[simp] theorem evE_or (a b : E) : evE Γ (.or a b) ρ = bnd (evE Γ a ρ) (kOr Γ b) := by rw [evE] <;> rfl
@[simp] theorem evE_not (a : E) : evE Γ (.not a) ρ = bnd (evE Γ a ρ) (u1 notD) := by rw [evE] <;> rfl
@[simp] theorem evE_ifx (c a b : E) : evE Γ (.ifx c a b) ρ = bnd (evT Γ c ρ) (kIf Γ a b) := by rw [evE] <;> rfl
@[simp] theorem evE_call (f : Nat) (a : A) : evE Γ (.call f a) ρ = bnd (evA Γ a ρ) (callE (Γ f)) := by rw [evE] <;> rfl
@[simp] theorem evE_isT (a : E) (ts : List Ty) : evE Γ (.isT a ts) ρ = bnd (evE Γ a ρ) (u1 (isTDD ts)) := by rw [evE] <;> rfl
@[simp] theorem evE_len (a : E) : evE Γ (.len a) ρ = bnd (evE Γ a ρ) (u1 lenD) := by rw [evE] <;> rfl
@[simp] theorem evE_abs (a : E) : evE Γ (.abs a) ρ = bnd (evE Γ a ρ) (u1 absD) := by rw [evE] <;> rfl
@[simp] theorem evE_int1 (a : E) : evE Γ (.int1 a) ρ = bnd (evE Γ a ρ) (u1 int1D) := by rw [evE] <;> rfl
@[simp] theorem evE_min2 (a b : E) : evE Γ (.min2 a b) ρ = bnd (evE Γ a ρ) (b1 Γ b min2D) := by rw [evE] <;> rfl
@[simp] theorem evE_max2 (a b : E) : evE Γ (.max2 a b) ρ = bnd (evE Γ a ρ) (b1 Γ b max2D) := by rw [evE] <;> rfl
@[simp] theorem evE_gcd (a b : E) : evE Γ (.gcd a b) ρ = bnd (evE Γ a ρ) (b1 Γ b gcdD) := by rw [evE] <;> rfl
@[simp] theorem evE_bits (a : E) : evE Γ (.bits a) ρ = bnd (evE Γ a ρ) (u1 bitsD) := by rw [evE] <;> rfl
@[simp] theorem evE_ix (a b : E) : evE Γ (.ix a b) ρ = bnd (evE Γ a ρ) (b1 Γ b ixD) := by rw [evE] <;> rfl
@[simp] theorem evE_tupOf (a : E) : evE Γ (.tupOf a) ρ = bnd (evE Γ a ρ) (u1 tupD) := by rw [evE] <;> rfl
@[simp] theorem evE_ofL (l : L) : evE Γ (.ofL l) ρ = bnd (evL Γ l ρ) (u1 lstO) := by rw [evE] <;> rfl
def varE (s : Slot) (i : Nat) (ρ : Env) : Option (Out D) := match s with
  | .v d => some (.ok d ρ)
  | .l ds => some (.ok (.lst ds) (ρ.set i (.v (.lst ds))))
  | .no => none
@[simp] theorem varE_v (d : D) (i : Nat) : varE (.v d) i ρ = some (.ok d ρ) := nrf _
@[simp] theorem varE_l (ds : List D) (i : Nat) : varE (.l ds) i ρ = some (.ok (.lst ds) (ρ.set i (.v (.lst ds)))) := nrf _
@[simp] theorem evE_var (i : Nat) : evE Γ (.var i) ρ = varE (ρ.at i) i ρ := by rw [evE] <;> rfl
def lenlE (s : Slot) (ρ : Env) : Option (Out D) := match s with
  | .l ds => some (.ok (.int ds.length) ρ)
  | .v d => ok1 (lenD d) ρ
  | .no => none
@[simp] theorem lenlE_l (ds : List D) : lenlE (.l ds) ρ = some (.ok (.int ds.length) ρ) := nrf _
@[simp] theorem lenlE_v (d : D) : lenlE (.v d) ρ = ok1 (lenD d) ρ := nrf _
@[simp] theorem evE_lenl (i : Nat) : evE Γ (.lenl i) ρ = lenlE (ρ.at i) ρ := by rw [evE] <;> rfl
def popE (s : Slot) (i : Nat) (ρ : Env) : Option (Out D) := match s with
  | .l ds => ok1 (ds[ds.length - 1]?) (ρ.set i (.l ds.dropLast))
  | _ => none
@[simp] theorem popE_l (ds : List D) (i : Nat) : popE (.l ds) i ρ = ok1 (ds[ds.length - 1]?) (ρ.set i (.l ds.dropLast)) := nrf _
@[simp] theorem evE_pop (i : Nat) : evE Γ (.pop i) ρ = popE (ρ.at i) i ρ := by rw [evE] <;> rfl
def appS (s : Slot) (i : Nat) (d : D) (ρ : Env) : Option SOut := match s with
  | .l ds => if ds.length < sizeLine then some (.nx (ρ.set i (.l (ds ++ [d])))) else none
  | _ => none
@[simp] theorem appS_l (ds : List D) (i : Nat) (d : D) : appS (.l ds) i d ρ = if ds.length < sizeLine then some (.nx (ρ.set i (.l (ds ++ [d])))) else none := nrf _
def kApp (i : Nat) (d : D) (ρ : Env) : Option SOut := appS (ρ.at i) i d ρ
@[simp] theorem kApp_def (i : Nat) (d : D) (ρ : Env) : kApp i d ρ = appS (ρ.at i) i d ρ := nrf _
def revS (s : Slot) (i : Nat) (ρ : Env) : Option SOut := match s with
  | .l ds => some (.nx (ρ.set i (.l ds.reverse)))
  | _ => none
@[simp] theorem revS_l (ds : List D) (i : Nat) : revS (.l ds) i ρ = some (.nx (ρ.set i (.l ds.reverse))) := nrf _
@[simp] theorem evS_rev (i : Nat) : evS Γ fu (.rev i) ρ = revS (ρ.at i) i ρ := by rw [evS] <;> rfl
def retLS (s : Slot) (ρ : Env) : Option SOut := match s with
  | .l ds => some (.ret (.l ds) ρ)
  | _ => none
@[simp] theorem retLS_l (ds : List D) : retLS (.l ds) ρ = some (.ret (.l ds) ρ) := nrf _
@[simp] theorem evS_retL (i : Nat) : evS Γ fu (.retL i) ρ = retLS (ρ.at i) ρ := by rw [evS] <;> rfl
def isL : Slot → Bool
  | .l _ => true
  | _ => false
@[simp] theorem isL_l (ds : List D) : isL (.l ds) = true := nrf _
@[simp] theorem evS_app (i : Nat) (e : E) : evS Γ fu (.app i e) ρ = if isL (ρ.at i) = true then sbnd (evE Γ e ρ) (kApp i) else none := by
  rw [evS]
  cases ρ.at i <;> rfl
@[simp] theorem evA_io (i : Nat) (r : A) : evA Γ (.io i r) ρ = if isL (ρ.at i) = true then bnd (evA Γ r ρ) (kIo i) else none := by
  rw [evA]
  cases ρ.at i <;> rfl
theorem evE_varV {i : Nat} {d : D} (h : ρ.at i = .v d) : evE Γ (.var i) ρ = some (.ok d ρ) := by rw [evE, h]
theorem evE_varL {i : Nat} {ds : List D} (h : ρ.at i = .l ds) : evE Γ (.var i) ρ = some (.ok (.lst ds) (ρ.set i (.v (.lst ds)))) := by rw [evE, h]
@[simp] theorem evA_nil : evA Γ .nil ρ = some (.ok [] ρ) := by rw [evA] <;> rfl
@[simp] theorem evA_cons (e : E) (r : A) : evA Γ (.cons e r) ρ = bnd (evE Γ e ρ) (kCons Γ r) := by rw [evA] <;> rfl
@[simp] theorem evL_disp (a : A) : evL Γ (.disp a) ρ = bnd (evA Γ a ρ) (u1 dispV) := by rw [evL] <;> rfl
@[simp] theorem evL_listOf (e : E) : evL Γ (.listOf e) ρ = bnd (evE Γ e ρ) (u1 items) := by rw [evL] <;> rfl
@[simp] theorem evL_callL (f : Nat) (a : A) : evL Γ (.callL f a) ρ = bnd (evA Γ a ρ) (callLE (Γ f)) := by rw [evL] <;> rfl
@[simp] theorem evT_def (e : E) : evT Γ e ρ = bnd (evE Γ e ρ) (u1 truthy) := nrf _
@[simp] theorem evS_nil : evS Γ fu .nil ρ = some (.nx ρ) := by rw [evS] <;> rfl
@[simp] theorem evS_pass : evS Γ fu .pass ρ = some (.nx ρ) := by rw [evS] <;> rfl
@[simp] theorem evS_seq (a b : S) : evS Γ fu (.seq a b) ρ = thenS (evS Γ fu a ρ) (evS Γ fu b) := by rw [evS] <;> rfl
@[simp] theorem evS_asg (i : Nat) (e : E) : evS Γ fu (.asg i e) ρ = sbnd (evE Γ e ρ) (kAsg i) := by rw [evS] <;> rfl
@[simp] theorem evS_par (i j : Nat) (a b : E) : evS Γ fu (.par i j a b) ρ = sbnd (evE Γ a ρ) (kPar Γ i j b) := by rw [evS] <;> rfl
@[simp] theorem evS_newL (i : Nat) (l : L) : evS Γ fu (.newL i l) ρ = sbnd (evL Γ l ρ) (kNewL i) := by rw [evS] <;> rfl
@[simp] theorem evS_ite (c : E) (a b : S) : evS Γ fu (.ite c a b) ρ = sbnd (evT Γ c ρ) (kIte Γ fu a b) := by rw [evS] <;> rfl
@[simp] theorem evS_ret (e : E) : evS Γ fu (.ret e) ρ = sbnd (evE Γ e ρ) (kRet) := by rw [evS] <;> rfl
@[simp] theorem evS_brk : evS Γ fu .brk ρ = some (.bk ρ) := by rw [evS] <;> rfl
@[simp] theorem evS_cnt : evS Γ fu .cnt ρ = some (.ct ρ) := by rw [evS] <;> rfl
def asgT (is : List Nat) (d : D) (ρ : Env) : Option SOut := match d with
  | .tup ds => if ds.length = is.length ∧ (is.all fun i => decide (i < ρ.length)) = true then some (.nx (setAll ρ is ds)) else none
  | _ => none
@[simp] theorem evS_asgT (is : List Nat) (e : E) : evS Γ fu (.asgT is e) ρ = sbnd (evE Γ e ρ) (asgT is) := by rw [evS] <;> rfl
@[simp] theorem asgT_tup (is : List Nat) (ds : List D) : asgT is (.tup ds) ρ = if ds.length = is.length ∧ (is.all fun i => decide (i < ρ.length)) = true then some (.nx (setAll ρ is ds)) else none := nrf _
def forVD (f : D → Env → Option SOut) (x : D) (ρ : Env) : Option SOut := match items x with
  | some ds => loopS f ds ρ
  | none => none
@[simp] theorem evS_forV (i : Nat) (e : E) (b : S) : evS Γ fu (.forV i e b) ρ = sbnd (evE Γ e ρ) (forVD (kBody Γ fu i b)) := by rw [evS] <;> rfl
def forRD (f : D → Env → Option SOut) (x : D) (ρ : Env) : Option SOut := match x with
  | .int n => if n < 2 ^ 62 ∧ -(2 ^ 62) ≤ n then loopS f (rangeD n.toNat) ρ else none
  | _ => none
@[simp] theorem evS_forR (i : Nat) (e : E) (b : S) : evS Γ fu (.forR i e b) ρ = sbnd (evE Γ e ρ) (forRD (kBody Γ fu i b)) := by rw [evS] <;> rfl
end
def outE (o : Option FOut) (avs : List AV) (ρ : Env) : Option (Out D) := match o with
  | some (.ret (.v d) outs) => some (.ok d (putBack ρ avs outs))
  | some (.ex c w outs) => some (.ex c w (putBack ρ avs outs))
  | _ => none
@[simp] theorem outE_v (d : D) (outs : List Slot) (avs : List AV) (ρ : Env) : outE (some (.ret (.v d) outs)) avs ρ = some (.ok d (putBack ρ avs outs)) := nrf _
@[simp] theorem callE_def (g : List Slot → Option FOut) (avs : List AV) (ρ : Env) : callE g avs ρ = if iosOk ρ avs = true then outE (g (slotsOf ρ avs)) avs ρ else none := nrf _
def outL (o : Option FOut) (avs : List AV) (ρ : Env) : Option (Out (List D)) := match o with
  | some (.ret (.l d) outs) => some (.ok d (putBack ρ avs outs))
  | some (.ex c w outs) => some (.ex c w (putBack ρ avs outs))
  | _ => none
@[simp] theorem outL_l (d : List D) (outs : List Slot) (avs : List AV) (ρ : Env) : outL (some (.ret (.l d) outs)) avs ρ = some (.ok d (putBack ρ avs outs)) := nrf _
@[simp] theorem callLE_def (g : List Slot → Option FOut) (avs : List AV) (ρ : Env) : callLE g avs ρ = if iosOk ρ avs = true then outL (g (slotsOf ρ avs)) avs ρ else none := nrf _
@[simp] theorem iosOk_nil (ρ : Env) : iosOk ρ [] = true := nrf _
@[simp] theorem iosOk_v (ρ : Env) (d : D) (r : List AV) : iosOk ρ (.v d :: r) = iosOk ρ r := nrf _
@[simp] theorem iosOk_io (ρ : Env) (i : Nat) (r : List AV) : iosOk ρ (.io i :: r) = (decide (i ∉ iosOf r) && isOwn (ρ.at i) && iosOk ρ r) := by
  unfold iosOk
  simp only [iosOf, List.nodup_cons, List.all_cons, Bool.decide_and]
  cases decide (i ∉ iosOf r) <;> cases isOwn (ρ.at i) <;> simp
@[simp] theorem iosOf_nil : iosOf [] = [] := nrf _
@[simp] theorem iosOf_v (d : D) (r : List AV) : iosOf (.v d :: r) = iosOf r := nrf _
@[simp] theorem iosOf_io (i : Nat) (r : List AV) : iosOf (.io i :: r) = i :: iosOf r := nrf _
@[simp] theorem isOwn_l (ds : List D) : isOwn (.l ds) = true := nrf _
@[simp] theorem slotsOf_nil (ρ : Env) : slotsOf ρ [] = [] := nrf _
@[simp] theorem slotsOf_v (ρ : Env) (d : D) (r : List AV) : slotsOf ρ (.v d :: r) = .v d :: slotsOf ρ r := nrf _
@[simp] theorem slotsOf_io (ρ : Env) (i : Nat) (r : List AV) : slotsOf ρ (.io i :: r) = ρ.at i :: slotsOf ρ r := nrf _
@[simp] theorem putBack_nil (ρ : Env) (o : List Slot) : putBack ρ [] o = ρ := by unfold putBack; rfl
@[simp] theorem putBack_v (ρ : Env) (d : D) (r : List AV) (s : Slot) (o : List Slot) : putBack ρ (.v d :: r) (s :: o) = putBack ρ r o := by rw [putBack]
@[simp] theorem putBack_io (ρ : Env) (i : Nat) (r : List AV) (s : Slot) (o : List Slot) : putBack ρ (.io i :: r) (s :: o) = putBack (ρ.set i s) r o := by rw [putBack]
@[simp] theorem vals_nil : vals [] = some [] := nrf _
@[simp] theorem vals_v (d : D) (r : List AV) : vals (.v d :: r) = (vals r).map fun ds => d :: ds := nrf _
@[simp] theorem setAll_nil (ρ : Env) (ds : List D) : setAll ρ [] ds = ρ := by unfold setAll; rfl
@[simp] theorem setAll_cons (ρ : Env) (i : Nat) (is : List Nat) (d : D) (ds : List D) : setAll ρ (i :: is) (d :: ds) = setAll (ρ.set i (.v d)) is ds := by rw [setAll]
@[simp] theorem startD_def (d : Def) (avs : List Slot) : startD d avs = avs ++ List.replicate (d.N.length - avs.length) .no := nrf _
@[simp] theorem outsOf_def (io : List Nat) (np : Nat) (ρ : Env) : outsOf io np ρ = (List.range np).map fun k => if k ∈ io then ρ.at k else .no := nrf _
@[simp] theorem range1 : List.range 1 = [0] := nrf _
@[simp] theorem range2 : List.range 2 = [0, 1] := nrf _
@[simp] theorem range3 : List.range 3 = [0, 1, 2] := nrf _
@[simp] theorem range4 : List.range 4 = [0, 1, 2, 3] := nrf _
@[simp] theorem range5 : List.range 5 = [0, 1, 2, 3, 4] := nrf _
@[simp] theorem range6 : List.range 6 = [0, 1, 2, 3, 4, 5] := nrf _
/-- a call that gives data -/
theorem callE_v {g : List Slot → Option FOut} {avs : List AV} {ρ : Env} {d : D} {outs : List Slot} (h1 : iosOk ρ avs = true) (h2 : g (slotsOf ρ avs) = some (.ret (.v d) outs)) : callE g avs ρ = some (.ok d (putBack ρ avs outs)) := by
  unfold callE
  rw [if_pos h1, h2]
theorem callLE_l {g : List Slot → Option FOut} {avs : List AV} {ρ : Env} {d : List D} {outs : List Slot} (h1 : iosOk ρ avs = true) (h2 : g (slotsOf ρ avs) = some (.ret (.l d) outs)) : callLE g avs ρ = some (.ok d (putBack ρ avs outs)) := by
  unfold callLE
  rw [if_pos h1, h2]
@[simp] theorem truthy_bl (b : Bool) : truthy (.bl b) = some b := nrf _
@[simp] theorem truthy_int (i : Int) : truthy (.int i) = some (i != 0) := nrf _
@[simp] theorem at_z (s : Slot) (r : Env) : Env.at (s :: r) 0 = s := nrf _
@[simp] theorem at_s (s : Slot) (r : Env) (k : Nat) : Env.at (s :: r) (k + 1) = Env.at r k := at_succ s r k
@[simp] theorem setS_lt {ρ : Env} {i : Nat} {s : Slot} (h : i < ρ.length) : setS ρ i s = some (.nx (ρ.set i s)) := if_pos h
@[simp] theorem bindS_lt {ρ : Env} {i : Nat} {s : Slot} {f : Env → Option SOut} (h : i < ρ.length) : bindS ρ i s f = f (ρ.set i s) := if_pos h
end VI
set_option maxHeartbeats 4000000
namespace K00
open PySem L2 VI
/-! ### the program in the language (printed by gen.py) -/
def b_is_whole : S := (.seq (.ret (.and (.isT (.var 0) [.int]) (.not (.isT (.var 0) [.bool]))))
  .nil)
def d_is_whole : Def := ⟨"is_whole", ["given"], 1, [], b_is_whole⟩
def b_raw_pair : S := (.seq (.ite (.call 0 (.cons (.var 0) .nil))
  (.seq (.ret (.tup (.cons (.var 0) (.cons (.cst (.int 1)) .nil))))
  .nil)
  .nil)
  (.seq (.ite (.and (.isT (.var 0) [.tuple]) (.eqq false (.len (.var 0)) (.cst (.int 2))))
  (.seq (.asgT [2, 3] (.var 0))
  (.seq (.ite (.and (.call 0 (.cons (.var 2) .nil)) (.and (.call 0 (.cons (.var 3) .nil)) (.cmp .ge (.var 3) (.cst (.int 1)))))
  (.seq (.ret (.tup (.cons (.var 2) (.cons (.var 3) .nil))))
  .nil)
  .nil)
  .nil))
  .nil)
  (.seq .nev
  .nil)))
def d_raw_pair : Def := ⟨"raw_pair", ["given", "word", "top", "bottom"], 2, [], b_raw_pair⟩
def b_lowest_terms : S := (.seq (.ite (.cmp .lt (.var 1) (.cst (.int 0)))
  (.seq (.par 0 1 (.neg (.var 0)) (.neg (.var 1)))
  .nil)
  .nil)
  (.seq (.asg 2 (.gcd (.var 0) (.var 1)))
  (.seq (.ret (.tup (.cons (.bin .fdiv (.var 0) (.var 2)) (.cons (.bin .fdiv (.var 1) (.var 2)) .nil))))
  .nil)))
def d_lowest_terms : Def := ⟨"lowest_terms", ["top", "bottom", "common"], 2, [], b_lowest_terms⟩
def b_ratio_named : S := (.seq (.asgT [2, 3] (.call 1 (.cons (.var 0) (.cons (.var 1) .nil))))
  (.seq (.ret (.call 2 (.cons (.var 2) (.cons (.var 3) .nil))))
  .nil))
def d_ratio_named : Def := ⟨"ratio_named", ["given", "word", "top", "bottom"], 2, [], b_ratio_named⟩
def b_ratio : S := (.seq (.ret (.call 3 (.cons (.var 0) (.cons (.cst (.str "number")) .nil))))
  .nil)
def d_ratio : Def := ⟨"ratio", ["number"], 1, [], b_ratio⟩
def b_of : S := (.seq (.ite (.not (.call 0 (.cons (.var 0) .nil)))
  (.seq .nev
  .nil)
  .nil)
  (.seq (.ite (.or (.not (.call 0 (.cons (.var 1) .nil))) (.eqq false (.var 1) (.cst (.int 0))))
  (.seq .nev
  .nil)
  .nil)
  (.seq (.ret (.call 2 (.cons (.var 0) (.cons (.var 1) .nil))))
  .nil)))
def d_of : Def := ⟨"of", ["top", "bottom"], 2, [], b_of⟩
def b_plus : S := (.seq (.asgT [2, 3] (.call 1 (.cons (.var 0) (.cons (.cst (.str "one")) .nil))))
  (.seq (.asgT [4, 5] (.call 1 (.cons (.var 1) (.cons (.cst (.str "other")) .nil))))
  (.seq (.ite (.eqq false (.var 3) (.var 5))
  (.seq (.ret (.call 2 (.cons (.bin .add (.var 2) (.var 4)) (.cons (.var 3) .nil))))
  .nil)
  .nil)
  (.seq (.ret (.call 2 (.cons (.bin .add (.bin .mul (.var 2) (.var 5)) (.bin .mul (.var 4) (.var 3))) (.cons (.bin .mul (.var 3) (.var 5)) .nil))))
  .nil))))
def d_plus : Def := ⟨"plus", ["one", "other", "a", "b", "c", "d"], 2, [], b_plus⟩
def b_minus : S := (.seq (.asgT [2, 3] (.call 1 (.cons (.var 0) (.cons (.cst (.str "one")) .nil))))
  (.seq (.asgT [4, 5] (.call 1 (.cons (.var 1) (.cons (.cst (.str "other")) .nil))))
  (.seq (.ite (.eqq false (.var 3) (.var 5))
  (.seq (.ret (.call 2 (.cons (.bin .sub (.var 2) (.var 4)) (.cons (.var 3) .nil))))
  .nil)
  .nil)
  (.seq (.ret (.call 2 (.cons (.bin .sub (.bin .mul (.var 2) (.var 5)) (.bin .mul (.var 4) (.var 3))) (.cons (.bin .mul (.var 3) (.var 5)) .nil))))
  .nil))))
def d_minus : Def := ⟨"minus", ["one", "other", "a", "b", "c", "d"], 2, [], b_minus⟩
def b_times : S := (.seq (.asgT [2, 3] (.call 1 (.cons (.var 0) (.cons (.cst (.str "one")) .nil))))
  (.seq (.asgT [4, 5] (.call 1 (.cons (.var 1) (.cons (.cst (.str "other")) .nil))))
  (.seq (.ret (.call 2 (.cons (.bin .mul (.var 2) (.var 4)) (.cons (.bin .mul (.var 3) (.var 5)) .nil))))
  .nil)))
def d_times : Def := ⟨"times", ["one", "other", "a", "b", "c", "d"], 2, [], b_times⟩
def b_divided : S := (.seq (.asgT [2, 3] (.call 1 (.cons (.var 0) (.cons (.cst (.str "one")) .nil))))
  (.seq (.asgT [4, 5] (.call 1 (.cons (.var 1) (.cons (.cst (.str "other")) .nil))))
  (.seq (.ite (.eqq false (.var 4) (.cst (.int 0)))
  (.seq .nev
  .nil)
  .nil)
  (.seq (.ret (.call 2 (.cons (.bin .mul (.var 2) (.var 5)) (.cons (.bin .mul (.var 3) (.var 4)) .nil))))
  .nil))))
def d_divided : Def := ⟨"divided", ["one", "other", "a", "b", "c", "d"], 2, [], b_divided⟩
def b_compare : S := (.seq (.asgT [2, 3] (.call 1 (.cons (.var 0) (.cons (.cst (.str "one")) .nil))))
  (.seq (.asgT [4, 5] (.call 1 (.cons (.var 1) (.cons (.cst (.str "other")) .nil))))
  (.seq (.asg 6 (.bin .mul (.var 2) (.var 5)))
  (.seq (.asg 7 (.bin .mul (.var 4) (.var 3)))
  (.seq (.ite (.cmp .lt (.var 6) (.var 7))
  (.seq (.ret (.neg (.cst (.int 1))))
  .nil)
  .nil)
  (.seq (.ite (.cmp .gt (.var 6) (.var 7))
  (.seq (.ret (.cst (.int 1)))
  .nil)
  .nil)
  (.seq (.ret (.cst (.int 0)))
  .nil)))))))
def d_compare : Def := ⟨"compare", ["one", "other", "a", "b", "c", "d", "left", "right"], 2, [], b_compare⟩
def b_lesser : S := (.seq (.ite (.cmp .le (.call 10 (.cons (.var 0) (.cons (.var 1) .nil))) (.cst (.int 0)))
  (.seq (.ret (.call 3 (.cons (.var 0) (.cons (.cst (.str "one")) .nil))))
  .nil)
  .nil)
  (.seq (.ret (.call 3 (.cons (.var 1) (.cons (.cst (.str "other")) .nil))))
  .nil))
def d_lesser : Def := ⟨"lesser", ["one", "other"], 2, [], b_lesser⟩
def b_greater : S := (.seq (.ite (.cmp .ge (.call 10 (.cons (.var 0) (.cons (.var 1) .nil))) (.cst (.int 0)))
  (.seq (.ret (.call 3 (.cons (.var 0) (.cons (.cst (.str "one")) .nil))))
  .nil)
  .nil)
  (.seq (.ret (.call 3 (.cons (.var 1) (.cons (.cst (.str "other")) .nil))))
  .nil))
def d_greater : Def := ⟨"greater", ["one", "other"], 2, [], b_greater⟩
def b_sum_of : S := (.seq (.ite (.not (.isT (.var 0) [.list, .tuple]))
  (.seq .nev
  .nil)
  .nil)
  (.seq (.asg 1 (.cst (.int 0)))
  (.seq (.asg 2 (.cst (.int 1)))
  (.seq (.forV 3 (.var 0)
  (.seq (.asgT [4, 5] (.call 1 (.cons (.var 3) (.cons (.cst (.str "numbers")) .nil))))
  (.seq (.ite (.eqq false (.var 5) (.var 2))
  (.seq (.asg 1 (.bin .add (.var 1) (.var 4)))
  .nil)
  (.seq (.asgT [1, 2] (.call 2 (.cons (.bin .add (.bin .mul (.var 1) (.var 5)) (.bin .mul (.var 4) (.var 2))) (.cons (.bin .mul (.var 2) (.var 5)) .nil))))
  .nil))
  .nil)))
  (.seq (.ret (.call 2 (.cons (.var 1) (.cons (.var 2) .nil))))
  .nil)))))
def d_sum_of : Def := ⟨"sum_of", ["numbers", "top", "bottom", "given", "a", "b"], 1, [], b_sum_of⟩
def b_rounded_up : S := (.seq (.asgT [1, 2] (.call 1 (.cons (.var 0) (.cons (.cst (.str "number")) .nil))))
  (.seq (.ret (.neg (.bin .fdiv (.neg (.var 1)) (.var 2))))
  .nil))
def d_rounded_up : Def := ⟨"rounded_up", ["number", "top", "bottom"], 1, [], b_rounded_up⟩
def b_rounded_down : S := (.seq (.asgT [1, 2] (.call 1 (.cons (.var 0) (.cons (.cst (.str "number")) .nil))))
  (.seq (.ret (.bin .fdiv (.var 1) (.var 2)))
  .nil))
def d_rounded_down : Def := ⟨"rounded_down", ["number", "top", "bottom"], 1, [], b_rounded_down⟩
def b__law_draws : S := (.seq (.newL 1 (.disp .nil))
  (.seq (.forR 2 (.min2 (.len (.var 0)) (.cst (.int 63)))
  (.seq (.asg 3 (.int1 (.ix (.var 0) (.var 2))))
  (.seq (.ite (.cmp .lt (.var 3) (.cst (.int 0)))
  (.seq (.asg 3 (.bin .sub (.cst (.int 1)) (.bin .mul (.cst (.int 2)) (.var 3))))
  .nil)
  .nil)
  (.seq (.ite (.cmp .ge (.var 3) (.bin .pow (.cst (.int 10)) (.cst (.int 18))))
  (.seq (.forR 4 (.cst (.int 50))
  (.seq (.ite (.cmp .gt (.var 3) (.cst (.int 0)))
  (.seq (.app 1 (.bin .mod (.int1 (.var 3)) (.cst (.int 30))))
  (.seq (.asg 3 (.bin .fdiv (.var 3) (.cst (.int 30))))
  .nil))
  .nil)
  .nil))
  .nil)
  (.seq (.asg 5 (.bin .mod (.int1 (.bin .add (.bin .add (.bin .mul (.var 3) (.cst (.int 104729))) (.bin .mul (.var 2) (.cst (.int 7919)))) (.cst (.int 1)))) (.cst (.int 998244353))))
  (.seq (.forR 4 (.cst (.int 7))
  (.seq (.asg 5 (.bin .mod (.int1 (.bin .add (.bin .add (.bin .add (.bin .mul (.var 5) (.var 5)) (.bin .mul (.var 4) (.cst (.int 65537)))) (.var 2)) (.cst (.int 3)))) (.cst (.int 1000000007))))
  (.seq (.app 1 (.var 5))
  .nil)))
  .nil)))
  .nil))))
  (.seq (.rev 1)
  (.seq (.retL 1)
  .nil))))
def d__law_draws : Def := ⟨"_law_draws", ["script", "draws", "at", "cell", "k", "number"], 1, [], b__law_draws⟩
def b__law_take : S := (.seq (.ite (.eqq false (.lenl 0) (.cst (.int 0)))
  (.seq (.ret (.cst (.int 0)))
  .nil)
  .nil)
  (.seq (.ret (.bin .mod (.int1 (.pop 0)) (.var 1)))
  .nil))
def d__law_take : Def := ⟨"_law_take", ["draws", "many"], 2, [0], b__law_take⟩
def b__law_whole : S := (.seq (.ret (.and (.isT (.var 0) [.int]) (.not (.isT (.var 0) [.bool]))))
  .nil)
def d__law_whole : Def := ⟨"_law_whole", ["value"], 1, [], b__law_whole⟩
def b__law_pair : S := (.seq (.asg 2 (.abs (.var 0)))
  (.seq (.asg 3 (.var 1))
  (.seq (.forR 4 (.bin .add (.bin .mul (.cst (.int 2)) (.bits (.var 1))) (.cst (.int 10)))
  (.seq (.ite (.eqq false (.var 3) (.cst (.int 0)))
  (.seq .brk
  .nil)
  .nil)
  (.seq (.asg 5 (.bin .mod (.int1 (.var 2)) (.var 3)))
  (.seq (.asg 2 (.var 3))
  (.seq (.asg 3 (.var 5))
  .nil)))))
  (.seq (.ret (.tup (.cons (.bin .fdiv (.var 0) (.var 2)) (.cons (.bin .fdiv (.var 1) (.var 2)) .nil))))
  .nil))))
def d__law_pair : Def := ⟨"_law_pair", ["top", "bottom", "one", "other", "k", "rest"], 2, [], b__law_pair⟩
def b__law_number : S := (.seq (.ite (.or (.not (.isT (.var 0) [.tuple])) (.eqq true (.len (.var 0)) (.cst (.int 2))))
  (.seq (.ret (.cst (.bl false)))
  .nil)
  .nil)
  (.seq (.ite (.or (.not (.call 18 (.cons (.ix (.var 0) (.cst (.int 0))) .nil))) (.or (.not (.call 18 (.cons (.ix (.var 0) (.cst (.int 1))) .nil))) (.cmp .lt (.ix (.var 0) (.cst (.int 1))) (.cst (.int 1)))))
  (.seq (.ret (.cst (.bl false)))
  .nil)
  .nil)
  (.seq (.ret (.eqq false (.var 0) (.call 19 (.cons (.ix (.var 0) (.cst (.int 0))) (.cons (.ix (.var 0) (.cst (.int 1))) .nil)))))
  .nil)))
def d__law_number : Def := ⟨"_law_number", ["value"], 1, [], b__law_number⟩
def b__law_sum : S := (.seq (.ret (.call 19 (.cons (.bin .add (.bin .mul (.ix (.var 0) (.cst (.int 0))) (.ix (.var 1) (.cst (.int 1)))) (.bin .mul (.ix (.var 1) (.cst (.int 0))) (.ix (.var 0) (.cst (.int 1))))) (.cons (.bin .mul (.ix (.var 0) (.cst (.int 1))) (.ix (.var 1) (.cst (.int 1)))) .nil))))
  .nil)
def d__law_sum : Def := ⟨"_law_sum", ["one", "other"], 2, [], b__law_sum⟩
def b__law_less : S := (.seq (.ret (.call 19 (.cons (.bin .sub (.bin .mul (.ix (.var 0) (.cst (.int 0))) (.ix (.var 1) (.cst (.int 1)))) (.bin .mul (.ix (.var 1) (.cst (.int 0))) (.ix (.var 0) (.cst (.int 1))))) (.cons (.bin .mul (.ix (.var 0) (.cst (.int 1))) (.ix (.var 1) (.cst (.int 1)))) .nil))))
  .nil)
def d__law_less : Def := ⟨"_law_less", ["one", "other"], 2, [], b__law_less⟩
def b__law_times : S := (.seq (.ret (.call 19 (.cons (.bin .mul (.ix (.var 0) (.cst (.int 0))) (.ix (.var 1) (.cst (.int 0)))) (.cons (.bin .mul (.ix (.var 0) (.cst (.int 1))) (.ix (.var 1) (.cst (.int 1)))) .nil))))
  .nil)
def d__law_times : Def := ⟨"_law_times", ["one", "other"], 2, [], b__law_times⟩
def b__law_below : S := (.seq (.ret (.cmp .lt (.bin .mul (.ix (.var 0) (.cst (.int 0))) (.ix (.var 1) (.cst (.int 1)))) (.bin .mul (.ix (.var 1) (.cst (.int 0))) (.ix (.var 0) (.cst (.int 1))))))
  .nil)
def d__law_below : Def := ⟨"_law_below", ["one", "other"], 2, [], b__law_below⟩
def b__law_quotient : S := (.seq (.ite (.cmp .lt (.var 1) (.cst (.int 0)))
  (.seq (.ret (.call 19 (.cons (.neg (.var 0)) (.cons (.neg (.var 1)) .nil))))
  .nil)
  .nil)
  (.seq (.ret (.call 19 (.cons (.var 0) (.cons (.var 1) .nil))))
  .nil))
def d__law_quotient : Def := ⟨"_law_quotient", ["top", "bottom"], 2, [], b__law_quotient⟩
def b__law_great : S := (.seq (.asg 2 (.cst (.int 0)))
  (.seq (.asg 3 (.cst (.int 0)))
  (.seq (.forR 4 (.var 1)
  (.seq (.asg 2 (.bin .add (.bin .mul (.var 2) (.cst (.int 30))) (.call 17 (.io 0 (.cons (.cst (.int 30)) .nil)))))
  (.seq (.asg 3 (.bin .add (.bin .mul (.var 3) (.cst (.int 30))) (.call 17 (.io 0 (.cons (.cst (.int 30)) .nil)))))
  .nil)))
  (.seq (.ite (.eqq false (.call 17 (.io 0 (.cons (.cst (.int 2)) .nil))) (.cst (.int 1)))
  (.seq (.asg 2 (.neg (.var 2)))
  .nil)
  .nil)
  (.seq (.ret (.tup (.cons (.var 2) (.cons (.bin .add (.var 3) (.cst (.int 1))) .nil))))
  .nil)))))
def d__law_great : Def := ⟨"_law_great", ["draws", "many", "top", "bottom", "k"], 2, [0], b__law_great⟩
def b__law_given : S := (.seq (.asg 1 (.call 17 (.io 0 (.cons (.cst (.int 5)) .nil))))
  (.seq (.ite (.eqq false (.var 1) (.cst (.int 0)))
  (.seq (.ret (.bin .sub (.call 17 (.io 0 (.cons (.cst (.int 27)) .nil))) (.cst (.int 13))))
  .nil)
  .nil)
  (.seq (.ite (.eqq false (.var 1) (.cst (.int 4)))
  (.seq (.ret (.call 26 (.io 0 (.cons (.cst (.int 12)) .nil))))
  .nil)
  .nil)
  (.seq (.ret (.tup (.cons (.bin .sub (.call 17 (.io 0 (.cons (.cst (.int 29)) .nil))) (.cst (.int 14))) (.cons (.bin .add (.cst (.int 1)) (.call 17 (.io 0 (.cons (.cst (.int 9)) .nil)))) .nil))))
  .nil))))
def d__law_given : Def := ⟨"_law_given", ["draws", "word"], 1, [0], b__law_given⟩
def b__law_value : S := (.seq (.ite (.isT (.var 0) [.tuple])
  (.seq (.ret (.call 19 (.cons (.ix (.var 0) (.cst (.int 0))) (.cons (.ix (.var 0) (.cst (.int 1))) .nil))))
  .nil)
  .nil)
  (.seq (.ret (.tup (.cons (.var 0) (.cons (.cst (.int 1)) .nil))))
  .nil))
def d__law_value : Def := ⟨"_law_value", ["given"], 1, [], b__law_value⟩
def b__law_same : S := (.seq (.ret (.and (.call 20 (.cons (.var 0) .nil)) (.eqq false (.var 0) (.var 1))))
  .nil)
def d__law_same : Def := ⟨"_law_same", ["told", "due"], 2, [], b__law_same⟩
def b__law_alone : S := (.seq (.asg 1 (.call 28 (.cons (.var 0) .nil)))
  (.seq (.ite (.not (.call 29 (.cons (.call 4 (.cons (.var 0) .nil)) (.cons (.var 1) .nil))))
  (.seq (.ret (.cst (.bl false)))
  .nil)
  .nil)
  (.seq (.asg 2 (.call 14 (.cons (.var 0) .nil)))
  (.seq (.asg 3 (.call 15 (.cons (.var 0) .nil)))
  (.seq (.ite (.or (.not (.call 18 (.cons (.var 2) .nil))) (.not (.call 18 (.cons (.var 3) .nil))))
  (.seq (.ret (.cst (.bl false)))
  .nil)
  .nil)
  (.seq (.ret (.and (.eqq false (.var 2) (.neg (.bin .fdiv (.neg (.ix (.var 1) (.cst (.int 0)))) (.ix (.var 1) (.cst (.int 1)))))) (.eqq false (.var 3) (.bin .fdiv (.ix (.var 1) (.cst (.int 0))) (.ix (.var 1) (.cst (.int 1)))))))
  .nil))))))
def d__law_alone : Def := ⟨"_law_alone", ["given", "due", "high", "low"], 1, [], b__law_alone⟩
def b__law_joined : S := (.seq (.asg 2 (.call 28 (.cons (.var 0) .nil)))
  (.seq (.asg 3 (.call 28 (.cons (.var 1) .nil)))
  (.seq (.asg 4 (.call 21 (.cons (.var 2) (.cons (.var 3) .nil))))
  (.seq (.asg 5 (.call 23 (.cons (.var 2) (.cons (.var 3) .nil))))
  (.seq (.ite (.or (.not (.call 29 (.cons (.call 6 (.cons (.var 0) (.cons (.var 1) .nil))) (.cons (.var 4) .nil)))) (.not (.call 29 (.cons (.call 6 (.cons (.var 1) (.cons (.var 0) .nil))) (.cons (.var 4) .nil)))))
  (.seq (.ret (.cst (.bl false)))
  .nil)
  .nil)
  (.seq (.ite (.or (.not (.call 29 (.cons (.call 8 (.cons (.var 0) (.cons (.var 1) .nil))) (.cons (.var 5) .nil)))) (.not (.call 29 (.cons (.call 8 (.cons (.var 1) (.cons (.var 0) .nil))) (.cons (.var 5) .nil)))))
  (.seq (.ret (.cst (.bl false)))
  .nil)
  .nil)
  (.seq (.ite (.not (.call 29 (.cons (.call 7 (.cons (.var 0) (.cons (.var 1) .nil))) (.cons (.call 22 (.cons (.var 2) (.cons (.var 3) .nil))) .nil))))
  (.seq (.ret (.cst (.bl false)))
  .nil)
  .nil)
  (.seq (.ite (.not (.call 29 (.cons (.call 7 (.cons (.call 6 (.cons (.var 0) (.cons (.var 1) .nil))) (.cons (.var 1) .nil))) (.cons (.var 2) .nil))))
  (.seq (.ret (.cst (.bl false)))
  .nil)
  .nil)
  (.seq (.ite (.eqq true (.ix (.var 3) (.cst (.int 0))) (.cst (.int 0)))
  (.seq (.asg 6 (.call 25 (.cons (.bin .mul (.ix (.var 2) (.cst (.int 0))) (.ix (.var 3) (.cst (.int 1)))) (.cons (.bin .mul (.ix (.var 2) (.cst (.int 1))) (.ix (.var 3) (.cst (.int 0)))) .nil))))
  (.seq (.ite (.not (.call 29 (.cons (.call 9 (.cons (.var 0) (.cons (.var 1) .nil))) (.cons (.var 6) .nil))))
  (.seq (.ret (.cst (.bl false)))
  .nil)
  .nil)
  (.seq (.ite (.not (.call 29 (.cons (.call 9 (.cons (.call 8 (.cons (.var 0) (.cons (.var 1) .nil))) (.cons (.var 1) .nil))) (.cons (.var 2) .nil))))
  (.seq (.ret (.cst (.bl false)))
  .nil)
  .nil)
  .nil)))
  .nil)
  (.seq (.ret (.cst (.bl true)))
  .nil))))))))))
def d__law_joined : Def := ⟨"_law_joined", ["left", "right", "one", "other", "added", "many", "due"], 2, [], b__law_joined⟩
def b__law_ordered : S := (.seq (.asg 2 (.call 28 (.cons (.var 0) .nil)))
  (.seq (.asg 3 (.call 28 (.cons (.var 1) .nil)))
  (.seq (.asg 4 (.cst (.int 0)))
  (.seq (.ite (.call 24 (.cons (.var 2) (.cons (.var 3) .nil)))
  (.seq (.asg 4 (.neg (.cst (.int 1))))
  .nil)
  .nil)
  (.seq (.ite (.call 24 (.cons (.var 3) (.cons (.var 2) .nil)))
  (.seq (.asg 4 (.cst (.int 1)))
  .nil)
  .nil)
  (.seq (.asg 5 (.call 10 (.cons (.var 0) (.cons (.var 1) .nil))))
  (.seq (.ite (.or (.not (.call 18 (.cons (.var 5) .nil))) (.eqq true (.var 5) (.var 4)))
  (.seq (.ret (.cst (.bl false)))
  .nil)
  .nil)
  (.seq (.asg 6 (.var 2))
  (.seq (.asg 7 (.var 3))
  (.seq (.ite (.eqq false (.var 4) (.cst (.int 1)))
  (.seq (.asg 6 (.var 3))
  (.seq (.asg 7 (.var 2))
  .nil))
  .nil)
  (.seq (.ret (.and (.call 29 (.cons (.call 11 (.cons (.var 0) (.cons (.var 1) .nil))) (.cons (.var 6) .nil))) (.call 29 (.cons (.call 12 (.cons (.var 0) (.cons (.var 1) .nil))) (.cons (.var 7) .nil)))))
  .nil)))))))))))
def d__law_ordered : Def := ⟨"_law_ordered", ["left", "right", "one", "other", "due", "told", "least", "most"], 2, [], b__law_ordered⟩
def b__law_three : S := (.seq (.asg 3 (.call 28 (.cons (.var 0) .nil)))
  (.seq (.asg 4 (.call 28 (.cons (.var 1) .nil)))
  (.seq (.asg 5 (.call 28 (.cons (.var 2) .nil)))
  (.seq (.asg 6 (.call 21 (.cons (.call 21 (.cons (.var 3) (.cons (.var 4) .nil))) (.cons (.var 5) .nil))))
  (.seq (.ite (.not (.call 29 (.cons (.call 6 (.cons (.call 6 (.cons (.var 0) (.cons (.var 1) .nil))) (.cons (.var 2) .nil))) (.cons (.var 6) .nil))))
  (.seq (.ret (.cst (.bl false)))
  .nil)
  .nil)
  (.seq (.ite (.not (.call 29 (.cons (.call 6 (.cons (.var 0) (.cons (.call 6 (.cons (.var 1) (.cons (.var 2) .nil))) .nil))) (.cons (.var 6) .nil))))
  (.seq (.ret (.cst (.bl false)))
  .nil)
  .nil)
  (.seq (.asg 6 (.call 23 (.cons (.call 23 (.cons (.var 3) (.cons (.var 4) .nil))) (.cons (.var 5) .nil))))
  (.seq (.ite (.not (.call 29 (.cons (.call 8 (.cons (.call 8 (.cons (.var 0) (.cons (.var 1) .nil))) (.cons (.var 2) .nil))) (.cons (.var 6) .nil))))
  (.seq (.ret (.cst (.bl false)))
  .nil)
  .nil)
  (.seq (.ret (.call 29 (.cons (.call 8 (.cons (.var 0) (.cons (.call 8 (.cons (.var 1) (.cons (.var 2) .nil))) .nil))) (.cons (.var 6) .nil))))
  .nil)))))))))
def d__law_three : Def := ⟨"_law_three", ["first", "second", "third", "one", "two", "last", "due"], 3, [], b__law_three⟩
def b__law_made : S := (.seq (.asg 1 (.bin .sub (.call 17 (.io 0 (.cons (.cst (.int 61)) .nil))) (.cst (.int 30))))
  (.seq (.asg 2 (.bin .add (.cst (.int 1)) (.call 17 (.io 0 (.cons (.cst (.int 12)) .nil)))))
  (.seq (.ite (.eqq false (.call 17 (.io 0 (.cons (.cst (.int 2)) .nil))) (.cst (.int 1)))
  (.seq (.asg 2 (.neg (.var 2)))
  .nil)
  .nil)
  (.seq (.ret (.call 29 (.cons (.call 5 (.cons (.var 1) (.cons (.var 2) .nil))) (.cons (.call 25 (.cons (.var 1) (.cons (.var 2) .nil))) .nil))))
  .nil))))
def d__law_made : Def := ⟨"_law_made", ["draws", "top", "bottom"], 1, [0], b__law_made⟩
def b__law_row : S := (.seq (.newL 2 (.disp .nil))
  (.seq (.asg 3 (.tup (.cons (.cst (.int 0)) (.cons (.cst (.int 1)) .nil))))
  (.seq (.forR 4 (.call 17 (.io 0 (.cons (.cst (.int 6)) .nil)))
  (.seq (.asg 6 (.ix (.var 1) (.call 17 (.io 0 (.cons (.cst (.int 3)) .nil)))))
  (.seq (.ite (.eqq false (.call 17 (.io 0 (.cons (.cst (.int 2)) .nil))) (.cst (.int 1)))
  (.seq (.asg 6 (.call 27 (.io 0 .nil)))
  .nil)
  .nil)
  (.seq (.app 2 (.var 6))
  (.seq (.asg 3 (.call 21 (.cons (.var 3) (.cons (.call 28 (.cons (.var 6) .nil)) .nil))))
  .nil)))))
  (.seq (.asg 5 (.ofL (.listOf (.var 2))))
  (.seq (.ite (.or (.not (.call 29 (.cons (.call 13 (.cons (.var 5) .nil)) (.cons (.var 3) .nil)))) (.eqq true (.var 5) (.var 2)))
  (.seq (.ret (.cst (.bl false)))
  .nil)
  .nil)
  (.seq (.ret (.call 29 (.cons (.call 13 (.cons (.tupOf (.var 2)) .nil)) (.cons (.var 3) .nil))))
  .nil))))))
def d__law_row : Def := ⟨"_law_row", ["draws", "known", "row", "due", "k", "handed", "given"], 2, [0], b__law_row⟩
def b_law : S := (.seq (.newL 1 (.callL 16 (.cons (.var 0) .nil)))
  (.seq (.newL 2 (.disp .nil))
  (.seq (.forR 3 (.cst (.int 3))
  (.seq (.app 2 (.call 27 (.io 1 .nil)))
  .nil))
  (.seq (.forV 4 (.var 2)
  (.seq (.ite (.not (.call 30 (.cons (.var 4) .nil)))
  (.seq (.ret (.cst (.bl false)))
  .nil)
  .nil)
  .nil))
  (.seq (.forV 5 (.ofL (.disp (.cons (.tup (.cons (.ix (.var 2) (.cst (.int 0))) (.cons (.ix (.var 2) (.cst (.int 1))) .nil))) (.cons (.tup (.cons (.ix (.var 2) (.cst (.int 1))) (.cons (.ix (.var 2) (.cst (.int 2))) .nil))) (.cons (.tup (.cons (.ix (.var 2) (.cst (.int 2))) (.cons (.ix (.var 2) (.cst (.int 0))) .nil))) (.cons (.tup (.cons (.ix (.var 2) (.cst (.int 1))) (.cons (.ix (.var 2) (.cst (.int 1))) .nil))) .nil))))))
  (.seq (.ite (.or (.not (.call 31 (.cons (.ix (.var 5) (.cst (.int 0))) (.cons (.ix (.var 5) (.cst (.int 1))) .nil)))) (.not (.call 32 (.cons (.ix (.var 5) (.cst (.int 0))) (.cons (.ix (.var 5) (.cst (.int 1))) .nil)))))
  (.seq (.ret (.cst (.bl false)))
  .nil)
  .nil)
  .nil))
  (.seq (.ite (.or (.not (.call 33 (.cons (.ix (.var 2) (.cst (.int 0))) (.cons (.ix (.var 2) (.cst (.int 1))) (.cons (.ix (.var 2) (.cst (.int 2))) .nil))))) (.not (.call 33 (.cons (.ix (.var 2) (.cst (.int 2))) (.cons (.ix (.var 2) (.cst (.int 2))) (.cons (.ix (.var 2) (.cst (.int 1))) .nil))))))
  (.seq (.ret (.cst (.bl false)))
  .nil)
  .nil)
  (.seq (.forR 3 (.cst (.int 3))
  (.seq (.ite (.or (.not (.call 34 (.io 1 .nil))) (.not (.call 35 (.io 1 (.cons (.var 2) .nil)))))
  (.seq (.ret (.cst (.bl false)))
  .nil)
  .nil)
  .nil))
  (.seq (.asg 6 (.call 26 (.io 1 (.cons (.cst (.int 27)) .nil))))
  (.seq (.ite (.or (.not (.call 30 (.cons (.var 6) .nil))) (.not (.call 32 (.cons (.var 6) (.cons (.ix (.var 2) (.cst (.int 0))) .nil)))))
  (.seq (.ret (.cst (.bl false)))
  .nil)
  .nil)
  (.seq (.ret (.call 32 (.cons (.ix (.var 2) (.cst (.int 1))) (.cons (.var 6) .nil))))
  .nil))))))))))
def d_law : Def := ⟨"law", ["script", "draws", "known", "k", "given", "pair", "great"], 1, [], b_law⟩
def defs : List Def := [d_is_whole, d_raw_pair, d_lowest_terms, d_ratio_named, d_ratio, d_of, d_plus, d_minus, d_times, d_divided, d_compare, d_lesser, d_greater, d_sum_of, d_rounded_up, d_rounded_down, d__law_draws, d__law_take, d__law_whole, d__law_pair, d__law_number, d__law_sum, d__law_less, d__law_times, d__law_below, d__law_quotient, d__law_great, d__law_given, d__law_value, d__law_same, d__law_alone, d__law_joined, d__law_ordered, d__law_three, d__law_made, d__law_row, d_law]
def free : List Str := ["abs", "bool", "int", "isinstance", "len", "list", "min", "range", "tuple"]
def gcds : List Str := ["gcd"]
end K00
set_option maxHeartbeats 4000000
namespace K00
open PySem L2 VI
/-! ### the mathematics: pairs in lowest terms are rationals -/
def prR (r : Rat) : D := .tup [.int r.num, .int (r.den : Int)]
theorem den_pos (r : Rat) : (0 : Int) < (r.den : Int) := by have := r.den_pos; omega
theorem low_num {a b : Int} (hb : 0 < b) : (Rat.divInt a b).num = a / ((Nat.gcd a.natAbs b.natAbs : Nat) : Int) := by
  rw [Rat.num_divInt, Int.sign_eq_one_of_pos hb, Int.one_mul, Int.gcd_comm]
  rfl
theorem low_den {a b : Int} (hb : 0 < b) : ((Rat.divInt a b).den : Int) = b / ((Nat.gcd a.natAbs b.natAbs : Nat) : Int) := by
  rw [Rat.den_divInt, if_neg (by omega), Int.gcd_comm]
  show ((b.natAbs / (Nat.gcd a.natAbs b.natAbs) : Nat) : Int) = _
  rw [Int.natCast_ediv, Int.natAbs_of_nonneg (by omega)]
theorem gcd_pos' {a b : Int} (hb : 0 < b) : (0 : Int) < ((Nat.gcd a.natAbs b.natAbs : Nat) : Int) := by
  have := Nat.gcd_pos_of_pos_right a.natAbs (show 0 < b.natAbs by omega)
  omega
theorem gcd_le' {a b : Int} (hb : 0 < b) : (((Nat.gcd a.natAbs b.natAbs : Nat) : Int)).natAbs ≤ b.natAbs := by
  have := Nat.gcd_le_right a.natAbs (show 0 < b.natAbs by omega)
  omega
theorem num_le {a b : Int} (hb : 0 < b) : (Rat.divInt a b).num.natAbs ≤ a.natAbs := by
  rw [low_num hb]
  exact Int.natAbs_ediv_le_natAbs _ _
theorem den_le {a b : Int} (hb : 0 < b) : ((Rat.divInt a b).den : Int).natAbs ≤ b.natAbs := by
  rw [low_den hb]
  exact Int.natAbs_ediv_le_natAbs _ _
theorem rat_ne {b : Int} (hb : 0 < b) : (b : Rat) ≠ 0 := by
  intro h
  have : b = 0 := by exact_mod_cast h
  omega
theorem rat_pos {b : Int} (hb : 0 < b) : (0 : Rat) < (b : Rat) := by exact_mod_cast hb
theorem add_same (a c : Int) {b : Int} : Rat.divInt (a + c) b = Rat.divInt a b + Rat.divInt c b := by
  rw [Rat.divInt_eq_div, Rat.divInt_eq_div, Rat.divInt_eq_div, Rat.div_def, Rat.div_def, Rat.div_def, Rat.intCast_add, Rat.add_mul]
theorem sub_same (a c : Int) {b : Int} : Rat.divInt (a - c) b = Rat.divInt a b - Rat.divInt c b := by
  rw [Rat.divInt_eq_div, Rat.divInt_eq_div, Rat.divInt_eq_div, Rat.div_def, Rat.div_def, Rat.div_def, Rat.intCast_sub]
  grind
theorem lt_iff {a b c d : Int} (hb : 0 < b) (hd : 0 < d) : Rat.divInt a b < Rat.divInt c d ↔ a * d < c * b := by
  rw [Rat.divInt_eq_div, Rat.divInt_eq_div, Rat.div_lt_iff (rat_pos hb), Rat.div_def, Rat.mul_assoc, Rat.mul_comm _ (b : Rat), ← Rat.mul_assoc, ← Rat.div_def, Rat.lt_div_iff (rat_pos hd)]
  exact_mod_cast Iff.rfl
theorem le_div {x y c : Rat} (hc : 0 < c) : x ≤ y / c ↔ x * c ≤ y := by
  rw [← Rat.not_lt, ← Rat.not_lt, Rat.div_lt_iff hc]
theorem floor_divInt {a b : Int} (hb : 0 < b) : (Rat.divInt a b).floor = a / b := by
  refine Int.le_antisymm ?_ ?_
  · refine (Int.le_ediv_iff_mul_le hb).mpr ?_
    have h := Rat.floor_le (Rat.divInt a b)
    rw [Rat.divInt_eq_div] at h ⊢
    have h2 := (le_div (rat_pos hb)).mp h
    exact_mod_cast h2
  · rw [Rat.le_floor_iff, Rat.divInt_eq_div, le_div (rat_pos hb)]
    have h := Int.ediv_mul_le a (show b ≠ 0 by omega)
    exact_mod_cast h
theorem num_den_floor (r : Rat) : r.num / (r.den : Int) = r.floor := (Rat.floor_def r).symm
end K00
set_option maxHeartbeats 4000000
namespace K00
open PySem L2 VI
abbrev CD := callD defs 100
theorem step {n f : Nat} {d : Def} {avs : List Slot} (hd : defs[f]? = some d) (hok : avsOk d avs = true) : CD (n + 1) f avs = VI.finish d (evS (CD n) 100 d.body (startD d avs)) := by
  show callD defs 100 (n + 1) f avs = _
  rw [callD_succ, hd]
  show (if avsOk d avs = true then _ else none) = _
  rw [if_pos hok]
def one (d : D) : Option FOut := some (.ret (.v d) [.no])
def two (d : D) : Option FOut := some (.ret (.v d) [.no, .no])
theorem whole_int (n : Nat) (a : Int) : CD (n + 1) 0 [.v (.int a)] = one (.bl true) := by
  rw [step (d := d_is_whole) rfl rfl]
  rfl
theorem whole_tup (n : Nat) (l : List D) : CD (n + 1) 0 [.v (.tup l)] = one (.bl false) := by
  rw [step (d := d_is_whole) rfl rfl]
  rfl
def Raw (d : D) (a b : Int) : Prop := (d = .int a ∧ b = 1) ∨ (d = .tup [.int a, .int b] ∧ 1 ≤ b)
theorem Raw.pos {d : D} {a b : Int} (h : Raw d a b) : 0 < b := by
  rcases h with ⟨_, rfl⟩ | ⟨_, h⟩ <;> omega
theorem raw_ok (n : Nat) {d : D} {a b : Int} (w : D) (h : Raw d a b) : CD (n + 2) 1 [.v d, .v w] = two (.tup [.int a, .int b]) := by
  rw [step (d := d_raw_pair) rfl rfl]
  rcases h with ⟨rfl, rfl⟩ | ⟨rfl, hb⟩
  · simp [d_raw_pair, b_raw_pair, whole_int, one, two]
  · simp [d_raw_pair, b_raw_pair, whole_int, whole_tup, one, two, isTy, hb]
/-! sizes -/
structure Sz (d : D) (r : Rat) (s : Nat) : Prop where
  has : ∃ a b, Raw d a b ∧ r = Rat.divInt a b ∧ a.natAbs < 2 ^ s ∧ b.natAbs < 2 ^ s
theorem pw {x : Nat} {s t : Nat} (h : x < 2 ^ s) (hs : s ≤ t) : x < 2 ^ t := Nat.lt_of_lt_of_le h (Nat.pow_le_pow_right (by decide) hs)
theorem prR_raw (r : Rat) : Raw (prR r) r.num (r.den : Int) := .inr ⟨rfl, by have := den_pos r; omega⟩
theorem prR_sz {r : Rat} {a b : Int} {s : Nat} (hb : 0 < b) (h : r = Rat.divInt a b) (ha : a.natAbs < 2 ^ s) (hb' : b.natAbs < 2 ^ s) : Sz (prR r) r s :=
  ⟨r.num, (r.den : Int), prR_raw r, (Rat.num_divInt_den r).symm, by rw [h]; exact Nat.lt_of_le_of_lt (num_le hb) ha, by rw [h]; exact Nat.lt_of_le_of_lt (den_le hb) hb'⟩
theorem low_pos (n : Nat) {a b : Int} {s : Nat} (hb : 0 < b) (hs : b.natAbs < 2 ^ s) (h9 : s ≤ 8000) : CD (n + 1) 2 [.v (.int a), .v (.int b)] = two (prR (Rat.divInt a b)) := by
  rw [step (d := d_lowest_terms) rfl rfl]
  have hk : okDiv ((Nat.gcd a.natAbs b.natAbs : Nat) : Int) = true := okDiv_of (b := s) (gcd_pos' hb) (Nat.lt_of_le_of_lt (gcd_le' hb) hs) (by omega)
  have hn : ¬ b < 0 := by omega
  simp [d_lowest_terms, b_lowest_terms, hn, bin_fdiv hk, two, prR, low_num hb, low_den hb]
theorem low_neg (n : Nat) {a b : Int} {s : Nat} (hb : b < 0) (hs : b.natAbs < 2 ^ s) (h9 : s ≤ 8000) : CD (n + 1) 2 [.v (.int a), .v (.int b)] = two (prR (Rat.divInt a b)) := by
  rw [step (d := d_lowest_terms) rfl rfl]
  have hb' : 0 < -b := by omega
  have hk : okDiv ((Nat.gcd (-a).natAbs (-b).natAbs : Nat) : Int) = true := okDiv_of (b := s) (gcd_pos' hb') (Nat.lt_of_le_of_lt (gcd_le' hb') (by rw [Int.natAbs_neg]; exact hs)) (by omega)
  have e : Rat.divInt a b = Rat.divInt (-a) (-b) := (Rat.neg_divInt_neg a b).symm
  have h1 := bin_fdiv (i := -a) hk
  have h2 := bin_fdiv (i := -b) hk
  rw [e]
  simp only [Int.natAbs_neg] at h1 h2
  simp [d_lowest_terms, b_lowest_terms, hb, h1, h2, two, prR, low_num hb', low_den hb']
end K00
set_option maxHeartbeats 4000000
namespace K00
open PySem L2 VI
theorem mul_lt {a d : Int} {s t : Nat} (ha : a.natAbs < 2 ^ s) (hd : d.natAbs < 2 ^ t) : (a * d).natAbs < 2 ^ (s + t) := by
  rw [Int.natAbs_mul, Nat.pow_add]
  exact Nat.mul_lt_mul_of_lt_of_lt ha hd
theorem add_lt {a d : Int} {s : Nat} (ha : a.natAbs < 2 ^ s) (hd : d.natAbs < 2 ^ s) : (a + d).natAbs < 2 ^ (s + 1) := by
  have := Int.natAbs_add_le a d
  rw [Nat.pow_succ]
  omega
theorem sub_lt {a d : Int} {s : Nat} (ha : a.natAbs < 2 ^ s) (hd : d.natAbs < 2 ^ s) : (a - d).natAbs < 2 ^ (s + 1) := by
  have := Int.natAbs_sub_le a d
  rw [Nat.pow_succ]
  omega
structure Bd (r : Rat) (s : Nat) : Prop where
  n : r.num.natAbs < 2 ^ s
  d : (r.den : Int).natAbs < 2 ^ s
theorem Sz.bd {d : D} {r : Rat} {s : Nat} (h : Sz d r s) : Bd r s := by
  obtain ⟨a, b, hr, e, h1, h2⟩ := h.has
  exact ⟨by rw [e]; exact Nat.lt_of_le_of_lt (num_le hr.pos) h1, by rw [e]; exact Nat.lt_of_le_of_lt (den_le hr.pos) h2⟩
theorem Bd.sz {r : Rat} {s : Nat} (h : Bd r s) : Sz (prR r) r s := ⟨r.num, (r.den : Int), prR_raw r, (Rat.num_divInt_den r).symm, h.n, h.d⟩
theorem Bd.up {r : Rat} {s t : Nat} (h : Bd r s) (hs : s ≤ t) : Bd r t := ⟨pw h.n hs, pw h.d hs⟩
theorem bd_div {a b : Int} {s : Nat} (hb : 0 < b) (h1 : a.natAbs < 2 ^ s) (h2 : b.natAbs < 2 ^ s) : Bd (Rat.divInt a b) s := ⟨Nat.lt_of_le_of_lt (num_le hb) h1, Nat.lt_of_le_of_lt (den_le hb) h2⟩
theorem rat_add (r q : Rat) : r + q = Rat.divInt (r.num * q.den + q.num * r.den) (r.den * q.den) := by
  have h1 := den_pos r
  have h2 := den_pos q
  rw [← Rat.divInt_add_divInt _ _ (by omega) (by omega), Rat.num_divInt_den, Rat.num_divInt_den]
theorem rat_sub (r q : Rat) : r - q = Rat.divInt (r.num * q.den - q.num * r.den) (r.den * q.den) := by
  have h1 := den_pos r
  have h2 := den_pos q
  rw [← Rat.divInt_sub_divInt _ _ (by omega) (by omega), Rat.num_divInt_den, Rat.num_divInt_den]
theorem rat_mul (r q : Rat) : r * q = Rat.divInt (r.num * q.num) (r.den * q.den) := by
  rw [← Rat.divInt_mul_divInt, Rat.num_divInt_den, Rat.num_divInt_den]
theorem Bd.add {r q : Rat} {s t : Nat} (h : Bd r s) (k : Bd q t) : Bd (r + q) (s + t + 1) := by
  rw [rat_add]
  exact bd_div (Int.mul_pos (den_pos r) (den_pos q)) (add_lt (mul_lt h.n k.d) (by rw [Nat.add_comm]; exact mul_lt k.n h.d)) (pw (mul_lt h.d k.d) (by omega))
theorem Bd.sub {r q : Rat} {s t : Nat} (h : Bd r s) (k : Bd q t) : Bd (r - q) (s + t + 1) := by
  rw [rat_sub]
  exact bd_div (Int.mul_pos (den_pos r) (den_pos q)) (sub_lt (mul_lt h.n k.d) (by rw [Nat.add_comm]; exact mul_lt k.n h.d)) (pw (mul_lt h.d k.d) (by omega))
theorem Bd.mul {r q : Rat} {s t : Nat} (h : Bd r s) (k : Bd q t) : Bd (r * q) (s + t) := by
  rw [rat_mul]
  exact bd_div (Int.mul_pos (den_pos r) (den_pos q)) (mul_lt h.n k.n) (mul_lt h.d k.d)
section ops
variable {x y : D} {r q : Rat} {s t : Nat}
theorem ratio_named_ok (n : Nat) (w : D) (hx : Sz x r s) (h9 : s ≤ 8000) : CD (n + 3) 3 [.v x, .v w] = two (prR r) := by
  obtain ⟨a, b, hr, rfl, h1, h2⟩ := hx.has
  rw [step (d := d_ratio_named) rfl rfl]
  simp [d_ratio_named, b_ratio_named, raw_ok n _ hr, low_pos _ hr.pos h2 h9, two]
theorem ratio_ok (n : Nat) (hx : Sz x r s) (h9 : s ≤ 8000) : CD (n + 4) 4 [.v x] = one (prR r) := by
  rw [step (d := d_ratio) rfl rfl]
  simp [d_ratio, b_ratio, ratio_named_ok n _ hx h9, one, two]
theorem plus_ok (n : Nat) (hx : Sz x r s) (hy : Sz y q t) (h9 : s + t ≤ 8000) : CD (n + 3) 6 [.v x, .v y] = two (prR (r + q)) := by
  obtain ⟨a, b, hr, rfl, h1, h2⟩ := hx.has
  obtain ⟨c, d, hq, rfl, h3, h4⟩ := hy.has
  have hb := hr.pos
  have hd := hq.pos
  rw [step (d := d_plus) rfl rfl]
  by_cases hbd : b = d
  · subst hbd
    simp [d_plus, b_plus, raw_ok n _ hr, raw_ok n _ hq, low_pos _ hb h2 (show s ≤ 8000 by omega), two, add_same]
  · rw [Rat.divInt_add_divInt _ _ (by omega) (by omega)]
    simp [d_plus, b_plus, raw_ok n _ hr, raw_ok n _ hq, hbd, bin_mul (okMul_of h1 h4 (by omega)), bin_mul (okMul_of h3 h2 (by omega)), bin_mul (okMul_of h2 h4 (by omega)), low_pos _ (Int.mul_pos hb hd) (mul_lt h2 h4) (show s + t ≤ 8000 by omega), two]
theorem minus_ok (n : Nat) (hx : Sz x r s) (hy : Sz y q t) (h9 : s + t ≤ 8000) : CD (n + 3) 7 [.v x, .v y] = two (prR (r - q)) := by
  obtain ⟨a, b, hr, rfl, h1, h2⟩ := hx.has
  obtain ⟨c, d, hq, rfl, h3, h4⟩ := hy.has
  have hb := hr.pos
  have hd := hq.pos
  rw [step (d := d_minus) rfl rfl]
  by_cases hbd : b = d
  · subst hbd
    simp [d_minus, b_minus, raw_ok n _ hr, raw_ok n _ hq, low_pos _ hb h2 (show s ≤ 8000 by omega), two, sub_same]
  · rw [Rat.divInt_sub_divInt _ _ (by omega) (by omega)]
    simp [d_minus, b_minus, raw_ok n _ hr, raw_ok n _ hq, hbd, bin_mul (okMul_of h1 h4 (by omega)), bin_mul (okMul_of h3 h2 (by omega)), bin_mul (okMul_of h2 h4 (by omega)), low_pos _ (Int.mul_pos hb hd) (mul_lt h2 h4) (show s + t ≤ 8000 by omega), two]
theorem times_ok (n : Nat) (hx : Sz x r s) (hy : Sz y q t) (h9 : s + t ≤ 8000) : CD (n + 3) 8 [.v x, .v y] = two (prR (r * q)) := by
  obtain ⟨a, b, hr, rfl, h1, h2⟩ := hx.has
  obtain ⟨c, d, hq, rfl, h3, h4⟩ := hy.has
  rw [step (d := d_times) rfl rfl, Rat.divInt_mul_divInt]
  simp [d_times, b_times, raw_ok n _ hr, raw_ok n _ hq, bin_mul (okMul_of h1 h3 (by omega)), bin_mul (okMul_of h2 h4 (by omega)), low_pos _ (Int.mul_pos hr.pos hq.pos) (mul_lt h2 h4) (show s + t ≤ 8000 by omega), two]
theorem low_any (n : Nat) {a b : Int} (hb : b ≠ 0) (hs : b.natAbs < 2 ^ s) (h9 : s ≤ 8000) : CD (n + 1) 2 [.v (.int a), .v (.int b)] = two (prR (Rat.divInt a b)) := by
  by_cases h : 0 < b
  · exact low_pos n h hs h9
  · exact low_neg n (by omega) hs h9
theorem rat_div (a b c d : Int) : Rat.divInt a b / Rat.divInt c d = Rat.divInt (a * d) (b * c) := by
  rw [Rat.div_def, Rat.inv_divInt, Rat.divInt_mul_divInt]
theorem divided_ok (n : Nat) (hx : Sz x r s) (hy : Sz y q t) (h0 : q ≠ 0) (h9 : s + t ≤ 8000) : CD (n + 3) 9 [.v x, .v y] = two (prR (r / q)) := by
  obtain ⟨a, b, hr, rfl, h1, h2⟩ := hx.has
  obtain ⟨c, d, hq, rfl, h3, h4⟩ := hy.has
  have hc : c ≠ 0 := by
    intro e
    subst e
    exact h0 (Rat.zero_divInt _)
  have hb := hr.pos
  rw [step (d := d_divided) rfl rfl, rat_div]
  simp [d_divided, b_divided, raw_ok n _ hr, raw_ok n _ hq, hc, bin_mul (okMul_of h1 h4 (by omega)), bin_mul (okMul_of h2 h3 (by omega)), low_any _ (Int.mul_ne_zero (by omega) hc) (mul_lt h2 h3) (show s + t ≤ 8000 by omega), two]
/-- what compare says -/
def cmpR (r q : Rat) : Int := if r < q then -1 else if q < r then 1 else 0
theorem compare_ok (n : Nat) (hx : Sz x r s) (hy : Sz y q t) (h9 : s + t ≤ 8000) : CD (n + 3) 10 [.v x, .v y] = two (.int (cmpR r q)) := by
  obtain ⟨a, b, hr, rfl, h1, h2⟩ := hx.has
  obtain ⟨c, d, hq, rfl, h3, h4⟩ := hy.has
  rw [step (d := d_compare) rfl rfl]
  unfold cmpR
  simp only [lt_iff hr.pos hq.pos, lt_iff hq.pos hr.pos]
  simp [d_compare, b_compare, raw_ok n _ hr, raw_ok n _ hq, bin_mul (okMul_of h1 h4 (by omega)), bin_mul (okMul_of h3 h2 (by omega)), two]
  by_cases e1 : a * d < c * b
  · simp [e1]
  · by_cases e2 : c * b < a * d
    · simp [e1, e2]
    · simp [e1, e2]
theorem cmpR_le (r q : Rat) : cmpR r q ≤ 0 ↔ r ≤ q := by
  unfold cmpR
  split
  · rename_i h
    exact ⟨fun _ => Rat.le_of_lt h, fun _ => by decide⟩
  · split
    · rename_i h
      exact ⟨fun h => absurd h (by decide), fun h' => absurd h (Rat.not_lt.mpr h')⟩
    · rename_i h
      exact ⟨fun _ => Rat.not_lt.mp h, fun _ => by decide⟩
theorem cmpR_ge (r q : Rat) : 0 ≤ cmpR r q ↔ q ≤ r := by
  unfold cmpR
  split
  · rename_i h
    exact ⟨fun h => absurd h (by decide), fun h' => absurd h (Rat.not_lt.mpr h')⟩
  · rename_i h
    refine ⟨fun _ => Rat.not_lt.mp h, fun _ => ?_⟩
    split <;> decide
theorem lesser_ok (n : Nat) (hx : Sz x r s) (hy : Sz y q t) (h9 : s + t ≤ 8000) : CD (n + 4) 11 [.v x, .v y] = two (prR (if r ≤ q then r else q)) := by
  rw [step (d := d_lesser) rfl rfl]
  by_cases h : r ≤ q
  · simp [d_lesser, b_lesser, compare_ok n hx hy h9, cmpR_le, h, ratio_named_ok n _ hx (show s ≤ 8000 by omega), two]
  · simp [d_lesser, b_lesser, compare_ok n hx hy h9, cmpR_le, h, ratio_named_ok n _ hy (show t ≤ 8000 by omega), two]
theorem greater_ok (n : Nat) (hx : Sz x r s) (hy : Sz y q t) (h9 : s + t ≤ 8000) : CD (n + 4) 12 [.v x, .v y] = two (prR (if q ≤ r then r else q)) := by
  rw [step (d := d_greater) rfl rfl]
  by_cases h : q ≤ r
  · simp [d_greater, b_greater, compare_ok n hx hy h9, cmpR_ge, h, ratio_named_ok n _ hx (show s ≤ 8000 by omega), two]
  · simp [d_greater, b_greater, compare_ok n hx hy h9, cmpR_ge, h, ratio_named_ok n _ hy (show t ≤ 8000 by omega), two]
theorem down_ok (n : Nat) (hx : Sz x r s) (h9 : s ≤ 8000) : CD (n + 3) 15 [.v x] = one (.int r.floor) := by
  obtain ⟨a, b, hr, rfl, h1, h2⟩ := hx.has
  rw [step (d := d_rounded_down) rfl rfl, floor_divInt hr.pos]
  simp [d_rounded_down, b_rounded_down, raw_ok n _ hr, bin_fdiv (okDiv_of hr.pos h2 (by omega)), one, two]
theorem up_ok (n : Nat) (hx : Sz x r s) (h9 : s ≤ 8000) : CD (n + 3) 14 [.v x] = one (.int (-(-r).floor)) := by
  obtain ⟨a, b, hr, rfl, h1, h2⟩ := hx.has
  rw [step (d := d_rounded_up) rfl rfl, Rat.neg_divInt, floor_divInt hr.pos]
  simp [d_rounded_up, b_rounded_up, raw_ok n _ hr, bin_fdiv (okDiv_of hr.pos h2 (by omega)), one, two]
theorem whole18_int (n : Nat) (a : Int) : CD (n + 1) 18 [.v (.int a)] = one (.bl true) := by
  rw [step (d := d__law_whole) rfl rfl]
  rfl
theorem of_ok (n : Nat) {a b : Int} (hb : b ≠ 0) (hs : b.natAbs < 2 ^ s) (h9 : s ≤ 8000) : CD (n + 2) 5 [.v (.int a), .v (.int b)] = two (prR (Rat.divInt a b)) := by
  rw [step (d := d_of) rfl rfl]
  simp [d_of, b_of, whole_int, hb, low_any _ hb hs h9, one, two]
end ops
end K00
set_option maxHeartbeats 4000000
namespace K00
open PySem L2 VI
def euB : S := (.seq (.ite (.eqq false (.var 3) (.cst (.int 0)))
  (.seq .brk
  .nil)
  .nil)
  (.seq (.asg 5 (.bin .mod (.int1 (.var 2)) (.var 3)))
  (.seq (.asg 2 (.var 3))
  (.seq (.asg 3 (.var 5))
  .nil))))
theorem half {b c : Nat} (h0 : 0 < c) (h : c < b) : 2 * (b % c) < b := by
  have h1 := Nat.div_add_mod b c
  have h2 := Nat.mod_lt b h0
  have h3 : 0 < b / c := Nat.div_pos (by omega) h0
  have h4 : c * 1 ≤ c * (b / c) := Nat.mul_le_mul_left c h3
  omega
theorem eu_stop (Γ : Gam) (d : D) (ds : List D) (a : Nat) (t u k r : Slot) :
    loopS (kBody Γ 100 4 euB) (d :: ds) [t, u, .v (.int a), .v (.int 0), k, r] = some (.nx [t, u, .v (.int a), .v (.int 0), .v d, r]) := by
  simp [loopS, euB]
theorem eu_go (Γ : Gam) (d : D) (ds : List D) (a b : Nat) (h : 0 < b) (t u k r : Slot) :
    loopS (kBody Γ 100 4 euB) (d :: ds) [t, u, .v (.int a), .v (.int b), k, r] = loopS (kBody Γ 100 4 euB) ds [t, u, .v (.int b), .v (.int (a % b : Nat)), .v d, .v (.int (a % b : Nat))] := by
  have hb : (0 : Int) < b := by omega
  have h0 : ¬ (b = 0) := by omega
  rw [loopS]
  simp [euB, h0, bin_mod (i := (a : Int)) hb]
theorem eu_loop (Γ : Gam) : ∀ (m : Nat) (ds : List D) (a b : Nat) (t u k r : Slot), b < 2 ^ m → 2 * m + 1 ≤ ds.length → ∃ k' r',
    loopS (kBody Γ 100 4 euB) ds [t, u, .v (.int a), .v (.int b), k, r] = some (.nx [t, u, .v (.int (Nat.gcd a b : Nat)), .v (.int 0), k', r'])
  | 0, [], _, _, _, _, _, _, _, hl => absurd hl (by simp)
  | 0, d :: ds, a, b, t, u, k, r, hb, _ => by
    obtain rfl : b = 0 := by simpa using hb
    exact ⟨_, _, (eu_stop Γ d ds a t u k r).trans (by rw [Nat.gcd_zero_right])⟩
  | m + 1, [], _, _, _, _, _, _, _, hl => absurd hl (by simp)
  | m + 1, [_], _, _, _, _, _, _, _, hl => absurd hl (by simp)
  | m + 1, d :: e :: ds, a, b, t, u, k, r, hb, hl => by
    rcases Nat.eq_zero_or_pos b with rfl | h
    · rw [Nat.gcd_zero_right]
      exact ⟨_, _, eu_stop Γ d _ a t u k r⟩
    · rw [eu_go Γ d _ a b h]
      have e1 : Nat.gcd a b = Nat.gcd (a % b) b := by rw [Nat.gcd_comm, Nat.gcd_rec]
      rcases Nat.eq_zero_or_pos (a % b) with h1 | h1
      · rw [e1, h1, Nat.gcd_zero_left]
        exact ⟨_, _, eu_stop Γ e _ b t u _ _⟩
      · rw [eu_go Γ e _ b (a % b) h1]
        have hh := half h1 (Nat.mod_lt a h)
        have e2 : Nat.gcd (a % b) b = Nat.gcd (a % b) (b % (a % b)) := by rw [Nat.gcd_rec, Nat.gcd_comm]
        rw [e1, e2]
        exact eu_loop Γ m ds (a % b) (b % (a % b)) t u (.v e) (.v (.int (b % (a % b) : Nat))) (by rw [Nat.pow_succ] at hb; omega) (by simp at hl; omega)
theorem range_len (n : Nat) : (rangeD n).length = n := by simp [rangeD]
theorem forR_nat (f : D → VI.Env → Option SOut) (n : Nat) (ρ : VI.Env) (h : n < 2 ^ 62) : forRD f (.int n) ρ = loopS f (rangeD n) ρ := by
  unfold forRD
  dsimp only
  rw [if_pos ⟨by omega, by omega⟩, Int.toNat_natCast]
theorem law_pair_ok (n : Nat) {a b : Int} {s : Nat} (hb : 0 < b) (hs : b.natAbs < 2 ^ s) (h9 : s ≤ 8000) : CD (n + 1) 19 [.v (.int a), .v (.int b)] = two (prR (Rat.divInt a b)) := by
  rw [step (d := d__law_pair) rfl rfl]
  have hbits : Builtin.Int.intBits b ≤ s := PySem.intBits_le_iff.mpr hs
  have hbb : b.natAbs < 2 ^ (Builtin.Int.intBits b) := PySem.intBits_le_iff.mp (Nat.le_refl _)
  have hk : okDiv ((Nat.gcd a.natAbs b.natAbs : Nat) : Int) = true := okDiv_of (b := s) (gcd_pos' hb) (Nat.lt_of_le_of_lt (gcd_le' hb) hs) (by omega)
  obtain ⟨k', r', hl⟩ := eu_loop (CD n) (Builtin.Int.intBits b) (rangeD (2 * Builtin.Int.intBits b + 10)) a.natAbs b.natAbs (.v (.int a)) (.v (.int b)) .no .no hbb (by rw [range_len]; omega)
  have ea : (if a < 0 then -a else a) = ((a.natAbs : Nat) : Int) := by split <;> omega
  have eb : ((b.natAbs : Nat) : Int) = b := by omega
  rw [eb] at hl
  have hm : okMul 2 ((Builtin.Int.intBits b : Nat) : Int) = true := okMul_l (by decide)
  have e10 : ((2 * Builtin.Int.intBits b + 10 : Nat) : Int) = 2 * ((Builtin.Int.intBits b : Nat) : Int) + 10 := by omega
  have hloop := (forR_nat (kBody (CD n) 100 4 euB) (2 * Builtin.Int.intBits b + 10) [.v (.int a), .v (.int b), .v (.int ((a.natAbs : Nat) : Int)), .v (.int b), .no, .no] (by omega)).trans hl
  unfold euB at hloop
  rw [e10] at hloop
  simp [d__law_pair, b__law_pair, ea, bin_mul hm, hloop, bin_fdiv hk, two, prR, low_num hb, low_den hb]
end K00
set_option maxHeartbeats 4000000
namespace K00
open PySem L2 VI
theorem beq_refl_int (a : Int) : (a == a) = true := by simp
theorem eq_pair (a b c d : Int) : eqD (.tup [.int a, .int b]) (.tup [.int c, .int d]) = some (a == c && b == d) := by
  show some _ = _
  congr 1
  show ((a == c) && ((b == d) && true)) = _
  rw [Bool.and_true]
theorem eqq_prR (r : Rat) : eqqD false (prR r) (prR r) = some (.bl true) := by
  unfold eqqD prR
  rw [eq_pair]
  simp
theorem prR_int (a : Int) : prR (Rat.divInt a 1) = .tup [.int a, .int 1] := by
  unfold prR
  rw [low_num (by decide), low_den (by decide)]
  simp
theorem prR_nd (r : Rat) : prR (Rat.divInt r.num r.den) = prR r := by rw [Rat.num_divInt_den]
section
variable {x y : D} {r q : Rat} {s t : Nat}
theorem number_ok (n : Nat) (h : Bd r s) (h9 : s ≤ 8000) : CD (n + 2) 20 [.v (prR r)] = one (.bl true) := by
  have hp := law_pair_ok n (den_pos r) h.d h9 (a := r.num)
  rw [prR_nd] at hp
  have hd := r.den_pos
  have hd' : ¬ r.den < 1 := by omega
  have hd2 : ¬ (r.den : Int) < 1 := by omega
  have hq := eqq_prR r
  rw [step (d := d__law_number) rfl rfl]
  unfold prR at hp hq ⊢
  simp [d__law_number, b__law_number, whole18_int, hp, one, two, hd', hd2, hq, isTy]
theorem value_ok (n : Nat) (h : Sz x r s) (h9 : s ≤ 8000) : CD (n + 2) 28 [.v x] = one (prR r) := by
  obtain ⟨a, b, hr, rfl, h1, h2⟩ := h.has
  rw [step (d := d__law_value) rfl rfl]
  rcases hr with ⟨rfl, rfl⟩ | ⟨rfl, hb⟩
  · rw [prR_int]
    simp [d__law_value, b__law_value, one, isTy]
  · simp [d__law_value, b__law_value, one, two, isTy, law_pair_ok n (show 0 < b by omega) h2 h9]
theorem same_ok (n : Nat) (h : Bd r s) (h9 : s ≤ 8000) : CD (n + 3) 29 [.v (prR r), .v (prR r)] = two (.bl true) := by
  rw [step (d := d__law_same) rfl rfl]
  simp [d__law_same, b__law_same, number_ok n h h9, one, two, eqq_prR]
theorem sum_ok (n : Nat) (h : Bd r s) (k : Bd q t) (h9 : s + t ≤ 8000) : CD (n + 2) 21 [.v (prR r), .v (prR q)] = two (prR (r + q)) := by
  rw [step (d := d__law_sum) rfl rfl, rat_add]
  have hp := law_pair_ok n (Int.mul_pos (den_pos r) (den_pos q)) (mul_lt h.d k.d) h9 (a := r.num * q.den + q.num * r.den)
  conv => lhs; unfold prR
  simp [d__law_sum, b__law_sum, bin_mul (okMul_of h.n k.d (by omega)), bin_mul (okMul_of k.n h.d (by omega)), bin_mul (okMul_of h.d k.d (by omega)), hp, two]
theorem less_ok (n : Nat) (h : Bd r s) (k : Bd q t) (h9 : s + t ≤ 8000) : CD (n + 2) 22 [.v (prR r), .v (prR q)] = two (prR (r - q)) := by
  rw [step (d := d__law_less) rfl rfl, rat_sub]
  have hp := law_pair_ok n (Int.mul_pos (den_pos r) (den_pos q)) (mul_lt h.d k.d) h9 (a := r.num * q.den - q.num * r.den)
  conv => lhs; unfold prR
  simp [d__law_less, b__law_less, bin_mul (okMul_of h.n k.d (by omega)), bin_mul (okMul_of k.n h.d (by omega)), bin_mul (okMul_of h.d k.d (by omega)), hp, two]
theorem mul_ok (n : Nat) (h : Bd r s) (k : Bd q t) (h9 : s + t ≤ 8000) : CD (n + 2) 23 [.v (prR r), .v (prR q)] = two (prR (r * q)) := by
  rw [step (d := d__law_times) rfl rfl, rat_mul]
  have hp := law_pair_ok n (Int.mul_pos (den_pos r) (den_pos q)) (mul_lt h.d k.d) h9 (a := r.num * q.num)
  conv => lhs; unfold prR
  simp [d__law_times, b__law_times, bin_mul (okMul_of h.n k.n (by omega)), bin_mul (okMul_of h.d k.d (by omega)), hp, two]
theorem lt_nd (r q : Rat) : r < q ↔ r.num * q.den < q.num * r.den := by
  have := lt_iff (den_pos r) (den_pos q) (a := r.num) (c := q.num)
  rwa [Rat.num_divInt_den, Rat.num_divInt_den] at this
theorem below_ok (n : Nat) (h : Bd r s) (k : Bd q t) (h9 : s + t ≤ 8000) : CD (n + 1) 24 [.v (prR r), .v (prR q)] = two (.bl (decide (r < q))) := by
  rw [step (d := d__law_below) rfl rfl]
  conv => lhs; unfold prR
  simp [d__law_below, b__law_below, bin_mul (okMul_of h.n k.d (by omega)), bin_mul (okMul_of k.n h.d (by omega)), two, lt_nd r q]
theorem quotient_ok (n : Nat) {a b : Int} (hb : b ≠ 0) (hs : b.natAbs < 2 ^ s) (h9 : s ≤ 8000) : CD (n + 2) 25 [.v (.int a), .v (.int b)] = two (prR (Rat.divInt a b)) := by
  rw [step (d := d__law_quotient) rfl rfl]
  by_cases h : b < 0
  · have hp := law_pair_ok n (show 0 < -b by omega) (by rw [Int.natAbs_neg]; exact hs) h9 (a := -a)
    rw [Rat.neg_divInt_neg] at hp
    simp [d__law_quotient, b__law_quotient, h, hp, two]
  · simp [d__law_quotient, b__law_quotient, h, law_pair_ok n (show 0 < b by omega) hs h9, two]
theorem alone_ok (n : Nat) (h : Sz x r s) (h9 : s ≤ 8000) : CD (n + 5) 30 [.v x] = one (.bl true) := by
  rw [step (d := d__law_alone) rfl rfl]
  have k := h.bd
  have hd : okDiv (r.den : Int) = true := okDiv_of (den_pos r) k.d (by omega)
  have hv := value_ok (n + 2) h h9
  have hr := ratio_ok n h h9
  have hs := same_ok (n + 1) k h9
  have hu := up_ok (n + 1) h h9
  have hl := down_ok (n + 1) h h9
  rw [← num_den_floor, show (-r).num = -r.num from rfl, show (-r).den = r.den from rfl] at hu
  rw [← num_den_floor] at hl
  unfold prR at hv hr hs
  simp [d__law_alone, b__law_alone, hv, hr, hs, hu, hl, one, two, whole18_int, bin_fdiv hd]
end
end K00
set_option maxHeartbeats 4000000
namespace K00
open PySem L2 VI
section
variable {x y z : D} {r q w : Rat} {s t u : Nat}
theorem zero_ne (h : q.num ≠ 0) : q ≠ 0 := fun e => h (by rw [e]; rfl)
theorem joined_ok (n : Nat) (hx : Sz x r s) (hy : Sz y q t) (h9 : s + t + t + 1 ≤ 8000) : CD (n + 6) 31 [.v x, .v y] = two (.bl true) := by
  rw [step (d := d__law_joined) rfl rfl]
  have k := hx.bd
  have l := hy.bd
  have ea := rat_add r q
  have hadd := k.add l
  have hmul := k.mul l
  have e1 : CD (n + 5) 28 [.v x] = one (prR r) := value_ok (n + 3) hx (by omega)
  have e2 : CD (n + 5) 28 [.v y] = one (prR q) := value_ok (n + 3) hy (by omega)
  have e3 : CD (n + 5) 21 [.v (prR r), .v (prR q)] = two (prR (r + q)) := sum_ok (n + 3) k l (by omega)
  have e4 : CD (n + 5) 23 [.v (prR r), .v (prR q)] = two (prR (r * q)) := mul_ok (n + 3) k l (by omega)
  have e5 : CD (n + 5) 6 [.v x, .v y] = two (prR (r + q)) := plus_ok (n + 2) hx hy (by omega)
  have e6 : CD (n + 5) 6 [.v y, .v x] = two (prR (r + q)) := by rw [Rat.add_comm]; exact plus_ok (n + 2) hy hx (by omega)
  have e7 : CD (n + 5) 8 [.v x, .v y] = two (prR (r * q)) := times_ok (n + 2) hx hy (by omega)
  have e8 : CD (n + 5) 8 [.v y, .v x] = two (prR (r * q)) := by rw [Rat.mul_comm]; exact times_ok (n + 2) hy hx (by omega)
  have e9 : CD (n + 5) 7 [.v x, .v y] = two (prR (r - q)) := minus_ok (n + 2) hx hy (by omega)
  have e10 : CD (n + 5) 22 [.v (prR r), .v (prR q)] = two (prR (r - q)) := less_ok (n + 3) k l (by omega)
  have e11 : CD (n + 5) 7 [.v (prR (r + q)), .v y] = two (prR r) := by
    have := minus_ok (n + 2) hadd.sz hy (by omega)
    rwa [show r + q - q = r by grind] at this
  have s1 : CD (n + 5) 29 [.v (prR (r + q)), .v (prR (r + q))] = two (.bl true) := same_ok (n + 2) hadd (by omega)
  have s2 : CD (n + 5) 29 [.v (prR (r * q)), .v (prR (r * q))] = two (.bl true) := same_ok (n + 2) hmul (by omega)
  have s3 : CD (n + 5) 29 [.v (prR (r - q)), .v (prR (r - q))] = two (.bl true) := same_ok (n + 2) (k.sub l) (by omega)
  have s4 : CD (n + 5) 29 [.v (prR r), .v (prR r)] = two (.bl true) := same_ok (n + 2) k (by omega)
  by_cases h0 : q.num = 0
  · simp [d__law_joined, b__law_joined, e1, e2, e3, e4, e5, e6, e7, e8, e9, e10, e11, s1, s2, s3, s4, one, two]
    simp [prR, h0]
  · have hq := zero_ne h0
    have hden : (r.den : Int) * q.num ≠ 0 := Int.mul_ne_zero (by have := den_pos r; omega) h0
    have e12 : CD (n + 5) 25 [.v (.int (r.num * q.den)), .v (.int (r.den * q.num))] = two (prR (r / q)) := by
      have h1 := quotient_ok (n + 3) hden (mul_lt k.d l.n) (by omega) (a := r.num * q.den)
      rwa [← rat_div, Rat.num_divInt_den, Rat.num_divInt_den] at h1
    have e13 : CD (n + 5) 9 [.v x, .v y] = two (prR (r / q)) := divided_ok (n + 2) hx hy hq (by omega)
    have e14 : CD (n + 5) 9 [.v (prR (r * q)), .v y] = two (prR r) := by
      have := divided_ok (n + 2) hmul.sz hy hq (by omega)
      rwa [show r * q / q = r by grind] at this
    have hdv : Bd (r / q) (s + t) := by
      have h1 : r / q = Rat.divInt (r.num * q.den) (r.den * q.num) := by rw [← rat_div, Rat.num_divInt_den, Rat.num_divInt_den]
      by_cases hp : 0 < q.num
      · rw [h1]
        exact bd_div (Int.mul_pos (den_pos r) hp) (mul_lt k.n l.d) (mul_lt k.d l.n)
      · rw [h1, ← Rat.neg_divInt_neg]
        refine bd_div ?_ (by rw [Int.natAbs_neg]; exact mul_lt k.n l.d) (by rw [Int.natAbs_neg]; exact mul_lt k.d l.n)
        have := Int.mul_neg_of_pos_of_neg (den_pos r) (show q.num < 0 by omega)
        omega
    have s5 : CD (n + 5) 29 [.v (prR (r / q)), .v (prR (r / q))] = two (.bl true) := same_ok (n + 2) hdv (by omega)
    simp [d__law_joined, b__law_joined, e1, e2, e3, e4, e5, e6, e7, e8, e9, e10, e11, s1, s2, s3, s4, one, two]
    unfold prR at *
    simp [h0, bin_mul (okMul_of k.n l.d (show s + t ≤ 900000 by omega)), bin_mul (okMul_of k.d l.n (show s + t ≤ 900000 by omega)), e7, e12, e13, e14, s5, s4, one, two]
theorem ordered_ok (n : Nat) (hx : Sz x r s) (hy : Sz y q t) (h9 : s + t ≤ 8000) : CD (n + 6) 32 [.v x, .v y] = two (.bl true) := by
  rw [step (d := d__law_ordered) rfl rfl]
  have k := hx.bd
  have l := hy.bd
  have e1 : CD (n + 5) 28 [.v x] = one (prR r) := value_ok (n + 3) hx (by omega)
  have e2 : CD (n + 5) 28 [.v y] = one (prR q) := value_ok (n + 3) hy (by omega)
  have e3 : CD (n + 5) 24 [.v (prR r), .v (prR q)] = two (.bl (decide (r < q))) := below_ok (n + 4) k l h9
  have e4 : CD (n + 5) 24 [.v (prR q), .v (prR r)] = two (.bl (decide (q < r))) := below_ok (n + 4) l k (by omega)
  have e5 : CD (n + 5) 10 [.v x, .v y] = two (.int (cmpR r q)) := compare_ok (n + 2) hx hy h9
  have e6 : CD (n + 5) 11 [.v x, .v y] = two (prR (if r ≤ q then r else q)) := lesser_ok (n + 1) hx hy h9
  have e7 : CD (n + 5) 12 [.v x, .v y] = two (prR (if q ≤ r then r else q)) := greater_ok (n + 1) hx hy h9
  have s1 : CD (n + 5) 29 [.v (prR r), .v (prR r)] = two (.bl true) := same_ok (n + 2) k (by omega)
  have s2 : CD (n + 5) 29 [.v (prR q), .v (prR q)] = two (.bl true) := same_ok (n + 2) l (by omega)
  have w18 : ∀ i : Int, CD (n + 5) 18 [.v (.int i)] = one (.bl true) := whole18_int (n + 4)
  by_cases h1 : r < q
  · have h2 : ¬ q < r := Rat.not_lt.mpr (Rat.le_of_lt h1)
    have h3 : r ≤ q := Rat.le_of_lt h1
    have h4 : ¬ q ≤ r := Rat.not_le.mpr h1
    have h5 : cmpR r q = -1 := if_pos h1
    rw [h5] at e5
    rw [if_pos h3] at e6
    rw [if_neg h4] at e7
    simp [d__law_ordered, b__law_ordered, e1, e2, e3, e4, e5, e6, e7, s1, s2, w18, one, two, h1, h2]
  · by_cases h2 : q < r
    · have h3 : q ≤ r := Rat.le_of_lt h2
      have h4 : ¬ r ≤ q := Rat.not_le.mpr h2
      have h5 : cmpR r q = 1 := (if_neg h1).trans (if_pos h2)
      rw [h5] at e5
      rw [if_neg h4] at e6
      rw [if_pos h3] at e7
      simp [d__law_ordered, b__law_ordered, e1, e2, e3, e4, e5, e6, e7, s1, s2, w18, one, two, h1, h2]
    · obtain rfl : r = q := Rat.le_antisymm (Rat.not_lt.mp h2) (Rat.not_lt.mp h1)
      have h5 : cmpR r r = 0 := (if_neg h1).trans (if_neg h2)
      rw [h5] at e5
      rw [if_pos (Rat.le_refl)] at e6 e7
      simp [d__law_ordered, b__law_ordered, e1, e2, e3, e4, e5, e6, e7, s1, s2, w18, one, two, h1, h2]
def thr (d : D) : Option FOut := some (.ret (.v d) [.no, .no, .no])
theorem three_ok (n : Nat) (hx : Sz x r s) (hy : Sz y q t) (hz : Sz z w u) (h9 : s + t + u + 2 ≤ 8000) : CD (n + 6) 33 [.v x, .v y, .v z] = thr (.bl true) := by
  rw [step (d := d__law_three) rfl rfl]
  have k := hx.bd
  have l := hy.bd
  have m := hz.bd
  have e1 : CD (n + 5) 28 [.v x] = one (prR r) := value_ok (n + 3) hx (by omega)
  have e2 : CD (n + 5) 28 [.v y] = one (prR q) := value_ok (n + 3) hy (by omega)
  have e3 : CD (n + 5) 28 [.v z] = one (prR w) := value_ok (n + 3) hz (by omega)
  have e4 : CD (n + 5) 21 [.v (prR r), .v (prR q)] = two (prR (r + q)) := sum_ok (n + 3) k l (by omega)
  have e5 : CD (n + 5) 21 [.v (prR (r + q)), .v (prR w)] = two (prR (r + q + w)) := sum_ok (n + 3) (k.add l) m (by omega)
  have e6 : CD (n + 5) 23 [.v (prR r), .v (prR q)] = two (prR (r * q)) := mul_ok (n + 3) k l (by omega)
  have e7 : CD (n + 5) 23 [.v (prR (r * q)), .v (prR w)] = two (prR (r * q * w)) := mul_ok (n + 3) (k.mul l) m (by omega)
  have e8 : CD (n + 5) 6 [.v x, .v y] = two (prR (r + q)) := plus_ok (n + 2) hx hy (by omega)
  have e9 : CD (n + 5) 6 [.v (prR (r + q)), .v z] = two (prR (r + q + w)) := plus_ok (n + 2) (k.add l).sz hz (by omega)
  have e10 : CD (n + 5) 6 [.v y, .v z] = two (prR (q + w)) := plus_ok (n + 2) hy hz (by omega)
  have e11 : CD (n + 5) 6 [.v x, .v (prR (q + w))] = two (prR (r + q + w)) := by rw [Rat.add_assoc]; exact plus_ok (n + 2) hx (l.add m).sz (by omega)
  have e12 : CD (n + 5) 8 [.v x, .v y] = two (prR (r * q)) := times_ok (n + 2) hx hy (by omega)
  have e13 : CD (n + 5) 8 [.v (prR (r * q)), .v z] = two (prR (r * q * w)) := times_ok (n + 2) (k.mul l).sz hz (by omega)
  have e14 : CD (n + 5) 8 [.v y, .v z] = two (prR (q * w)) := times_ok (n + 2) hy hz (by omega)
  have e15 : CD (n + 5) 8 [.v x, .v (prR (q * w))] = two (prR (r * q * w)) := by rw [Rat.mul_assoc]; exact times_ok (n + 2) hx (l.mul m).sz (by omega)
  have s1 : CD (n + 5) 29 [.v (prR (r + q + w)), .v (prR (r + q + w))] = two (.bl true) := same_ok (n + 2) ((k.add l).add m) (by omega)
  have s2 : CD (n + 5) 29 [.v (prR (r * q * w)), .v (prR (r * q * w))] = two (.bl true) := same_ok (n + 2) ((k.mul l).mul m) (by omega)
  simp [d__law_three, b__law_three, e1, e2, e3, e4, e5, e6, e7, e8, e9, e10, e11, e12, e13, e14, e15, s1, s2, one, two, thr]
end
end K00
set_option maxHeartbeats 4000000
namespace K00
open PySem L2 VI
def Dr (xs : List Int) : Slot := .l (xs.map D.int)
theorem take_ok (n : Nat) (xs : List Int) {m : Int} (hm : 0 < m) : ∃ xs' v, 0 ≤ v ∧ v < m ∧ CD (n + 1) 17 [Dr xs, .v (.int m)] = some (.ret (.v (.int v)) [Dr xs', .no]) := by
  rcases List.eq_nil_or_concat xs with rfl | ⟨ys, v, rfl⟩
  · refine ⟨[], 0, by decide, hm, ?_⟩
    rw [step (d := d__law_take) rfl rfl]
    simp [d__law_take, b__law_take, Dr]
  · refine ⟨ys, v % m, Int.emod_nonneg _ (by omega), Int.emod_lt_of_pos _ hm, ?_⟩
    rw [step (d := d__law_take) rfl rfl]
    have h1 : ¬ ((ys.length : Int) + 1 = 0) := by omega
    simp [d__law_take, b__law_take, Dr, h1, bin_mod hm]
def grB : S := (.seq (.asg 2 (.bin .add (.bin .mul (.var 2) (.cst (.int 30))) (.call 17 (.io 0 (.cons (.cst (.int 30)) .nil)))))
  (.seq (.asg 3 (.bin .add (.bin .mul (.var 3) (.cst (.int 30))) (.call 17 (.io 0 (.cons (.cst (.int 30)) .nil)))))
  .nil))
theorem great_loop (n : Nat) (mm : Slot) : ∀ (ds : List D) (j : Nat) (xs : List Int) (t b : Int) (k : Slot), 0 ≤ t → t < 30 ^ j → 0 ≤ b → b < 30 ^ j → ∃ xs' t' b' k', 0 ≤ t' ∧ t' < 30 ^ (j + ds.length) ∧ 0 ≤ b' ∧ b' < 30 ^ (j + ds.length) ∧
    loopS (kBody (CD (n + 1)) 100 4 grB) ds [Dr xs, mm, .v (.int t), .v (.int b), k] = some (.nx [Dr xs', mm, .v (.int t'), .v (.int b'), k'])
  | [], j, xs, t, b, k, h1, h2, h3, h4 => ⟨xs, t, b, k, h1, h2, h3, h4, rfl⟩
  | d :: ds, j, xs, t, b, k, h1, h2, h3, h4 => by
    obtain ⟨x1, v1, g1, g2, g3⟩ := take_ok n xs (m := 30) (by decide)
    obtain ⟨x2, v2, g4, g5, g6⟩ := take_ok n x1 (m := 30) (by decide)
    have e : (30 : Int) ^ (j + 1) = 30 ^ j * 30 := Int.pow_succ _ _
    obtain ⟨x', t', b', k', r1, r2, r3, r4, r5⟩ := great_loop n mm ds (j + 1) x2 (t * 30 + v1) (b * 30 + v2) (.v d) (by omega) (by omega) (by omega) (by omega)
    have ej : j + (d :: ds).length = j + 1 + ds.length := by simp; omega
    rw [ej]
    refine ⟨x', t', b', k', r1, r2, r3, r4, ?_⟩
    rw [← r5, loopS]
    have m1 : okMul t 30 = true := okMul_r (by decide)
    have m2 : okMul b 30 = true := okMul_r (by decide)
    unfold Dr at *
    simp [grB, bin_mul m1, bin_mul m2, g3, g6]
theorem pow30 (m : Nat) : (30 : Int) ^ m ≤ 2 ^ (5 * m) := by
  have h : (30 : Nat) ^ m ≤ (2 ^ 5) ^ m := Nat.pow_le_pow_left (by decide) m
  rw [← Nat.pow_mul] at h
  exact_mod_cast h
theorem great_ok (n : Nat) (xs : List Int) (m : Nat) (hm : m ≤ 100) : ∃ xs' d r, Sz d r (5 * m + 1) ∧ CD (n + 2) 26 [Dr xs, .v (.int m)] = some (.ret (.v d) [Dr xs', .no]) := by
  obtain ⟨x1, t, b, k, h1, h2, h3, h4, h5⟩ := great_loop n (.v (.int m)) (rangeD m) 0 xs 0 0 .no (by decide) (by decide) (by decide) (by decide)
  rw [Nat.zero_add, range_len] at h2 h4
  obtain ⟨x2, v, g1, g2, g3⟩ := take_ok n x1 (m := 2) (by decide)
  have hloop := (forR_nat (kBody (CD (n + 1)) 100 4 grB) m [Dr xs, .v (.int m), .v (.int 0), .v (.int 0), .no] (by omega)).trans h5
  have hp := pow30 m
  have e2 : (2 : Int) ^ (5 * m + 1) = 2 ^ (5 * m) * 2 := Int.pow_succ _ _
  have e3 : ((2 ^ (5 * m + 1) : Nat) : Int) = 2 ^ (5 * m + 1) := by simp
  have e4 : ((2 ^ (5 * m) : Nat) : Int) = 2 ^ (5 * m) := by simp
  refine ⟨x2, .tup [.int (if v = 1 then -t else t), .int (b + 1)], Rat.divInt (if v = 1 then -t else t) (b + 1), ⟨_, _, .inr ⟨rfl, by omega⟩, rfl, ?_, ?_⟩, ?_⟩
  · split <;> omega
  · omega
  · rw [step (d := d__law_great) rfl rfl]
    unfold grB at hloop
    unfold Dr at *
    by_cases hv : v = 1
    · simp [d__law_great, b__law_great, hloop, g3, hv]
    · simp [d__law_great, b__law_great, hloop, g3, hv]
theorem Sz.up {d : D} {r : Rat} {s t : Nat} (h : Sz d r s) (hs : s ≤ t) : Sz d r t := by
  obtain ⟨a, b, h1, h2, h3, h4⟩ := h.has
  exact ⟨a, b, h1, h2, pw h3 hs, pw h4 hs⟩
theorem given_ok (n : Nat) (xs : List Int) : ∃ xs' d r, Sz d r 61 ∧ CD (n + 3) 27 [Dr xs] = some (.ret (.v d) [Dr xs']) := by
  obtain ⟨x1, v, g1, g2, g3⟩ := take_ok (n + 1) xs (m := 5) (by decide)
  obtain ⟨x2, a, a1, a2, a3⟩ := take_ok (n + 1) x1 (m := 27) (by decide)
  obtain ⟨x3, e, r, e1, e2⟩ := great_ok n x1 12 (by decide)
  obtain ⟨x4, p, p1, p2, p3⟩ := take_ok (n + 1) x1 (m := 29) (by decide)
  obtain ⟨x5, q, q1, q2, q3⟩ := take_ok (n + 1) x4 (m := 9) (by decide)
  rw [step (d := d__law_given) rfl rfl]
  unfold Dr at *
  by_cases h0 : v = 0
  · refine ⟨x2, .int (a - 13), Rat.divInt (a - 13) 1, ⟨_, _, .inl ⟨rfl, rfl⟩, rfl, by omega, by decide⟩, ?_⟩
    simp [d__law_given, b__law_given, g3, h0, a3]
  · by_cases h4 : v = 4
    · refine ⟨x3, e, r, e1, ?_⟩
      subst h4
      have e2' : CD (n + 2) 26 [.l (x1.map D.int), .v (.int 12)] = some (.ret (.v e) [.l (x3.map D.int), .no]) := e2
      simp [d__law_given, b__law_given, g3, e2']
    · refine ⟨x5, .tup [.int (p - 14), .int (1 + q)], Rat.divInt (p - 14) (1 + q), ⟨_, _, .inr ⟨rfl, by omega⟩, rfl, by omega, by omega⟩, ?_⟩
      simp [d__law_given, b__law_given, g3, h0, h4, p3, q3]
theorem made_ok (n : Nat) (xs : List Int) : ∃ xs', CD (n + 4) 34 [Dr xs] = some (.ret (.v (.bl true)) [Dr xs']) := by
  obtain ⟨x1, a, a1, a2, a3⟩ := take_ok (n + 2) xs (m := 61) (by decide)
  obtain ⟨x2, b, b1, b2, b3⟩ := take_ok (n + 2) x1 (m := 12) (by decide)
  obtain ⟨x3, c, c1, c2, c3⟩ := take_ok (n + 2) x2 (m := 2) (by decide)
  refine ⟨x3, ?_⟩
  have main : ∀ j : Int, j ≠ 0 → j.natAbs < 2 ^ 10 → CD (n + 3) 5 [.v (.int (a - 30)), .v (.int j)] = two (prR (Rat.divInt (a - 30) j)) ∧ CD (n + 3) 25 [.v (.int (a - 30)), .v (.int j)] = two (prR (Rat.divInt (a - 30) j)) ∧ CD (n + 3) 29 [.v (prR (Rat.divInt (a - 30) j)), .v (prR (Rat.divInt (a - 30) j))] = two (.bl true) := by
    intro j hj hj2
    refine ⟨of_ok (n + 1) hj hj2 (by decide), quotient_ok (n + 1) hj hj2 (by decide), ?_⟩
    refine same_ok n (s := 10) ?_ (by decide)
    by_cases hp : 0 < j
    · exact bd_div hp (by omega) hj2
    · rw [← Rat.neg_divInt_neg]
      exact bd_div (by omega) (by omega) (by omega)
  rw [step (d := d__law_made) rfl rfl]
  unfold Dr at *
  by_cases hc : c = 1
  · obtain ⟨m1, m2, m3⟩ := main (-(1 + b)) (by omega) (by omega)
    simp [d__law_made, b__law_made, a3, b3, c3, hc, m1, m2, m3, one, two]
  · obtain ⟨m1, m2, m3⟩ := main (1 + b) (by omega) (by omega)
    simp [d__law_made, b__law_made, a3, b3, c3, hc, m1, m2, m3, one, two]
end K00
set_option maxHeartbeats 4000000
namespace K00
open PySem L2 VI
/-! ### rows -/
def Rw : List D → Rat → Rat → Prop
  | [], A, R => A = R
  | d :: ds, A, R => ∃ r, Sz d r 61 ∧ Rw ds (A + r) R
theorem rw_snoc {d : D} {r : Rat} (h : Sz d r 61) : ∀ (ds : List D) (A R : Rat), Rw ds A R → Rw (ds ++ [d]) A (R + r)
  | [], A, R, e => ⟨r, h, by rw [show A = R from e]; rfl⟩
  | _ :: ds, A, R, ⟨r', h', k⟩ => ⟨r', h', rw_snoc h ds _ _ k⟩
theorem raw_py {d : D} {a b : Int} (h : Raw d a b) : ∃ p, toPy d = some p ∧ p.canLay0 = true ∧ p.depth ≤ 1 := by
  rcases h with ⟨rfl, _⟩ | ⟨rfl, _⟩
  · exact ⟨_, rfl, rfl, by simp [PyData.depth]⟩
  · exact ⟨_, rfl, rfl, by simp [PyData.depth, PyData.depthAll]⟩
theorem rw_py : ∀ (ds : List D) (A R : Rat), Rw ds A R → ∃ ps, toPys ds = some ps ∧ PyData.canLayAll0 ps = true ∧ PyData.depthAll ps ≤ 1
  | [], _, _, _ => ⟨[], rfl, rfl, by simp [PyData.depthAll]⟩
  | d :: ds, A, R, ⟨r, h, k⟩ => by
    obtain ⟨a, b, hr, _⟩ := h.has
    obtain ⟨p, p1, p2, p3⟩ := raw_py hr
    obtain ⟨ps, q1, q2, q3⟩ := rw_py ds _ _ k
    refine ⟨p :: ps, ?_, ?_, ?_⟩
    · rw [toPys, p1, q1]
      rfl
    · rw [PyData.canLayAll0, p2, q2]
      rfl
    · rw [PyData.depthAll]
      omega
theorem row_eq {ds : List D} {A R : Rat} (h : Rw ds A R) : eqqD true (.lst ds) (.lst ds) = some (.bl false) := by
  obtain ⟨ps, q1, q2, q3⟩ := rw_py ds A R h
  have e : toPy (.lst ds) = some (.list ps) := by rw [toPy, q1]; rfl
  have c : (PyData.list ps).canLay0 = true := by rw [PyData.canLay0, q2]
  have s : SeqAt.shaped (PyData.list ps) = true := by
    unfold SeqAt.shaped
    rw [c, Bool.true_and]
    refine decide_eq_true ?_
    rw [PyData.depth]
    omega
  unfold eqqD eqD
  rw [e]
  show ((if SeqAt.shaped (PyData.list ps) = true ∧ SeqAt.shaped (PyData.list ps) = true then some (PyData.eqv (PyData.list ps) (PyData.list ps)) else none).map _) = _
  rw [if_pos ⟨s, s⟩, PySem.SeqAt.eqv_refl _ c]
  rfl
def smB : S := (.seq (.asgT [4, 5] (.call 1 (.cons (.var 3) (.cons (.cst (.str "numbers")) .nil))))
  (.seq (.ite (.eqq false (.var 5) (.var 2))
  (.seq (.asg 1 (.bin .add (.var 1) (.var 4)))
  .nil)
  (.seq (.asgT [1, 2] (.call 2 (.cons (.bin .add (.bin .mul (.var 1) (.var 5)) (.bin .mul (.var 4) (.var 2))) (.cons (.bin .mul (.var 2) (.var 5)) .nil))))
  .nil))
  .nil))
theorem sum_loop (n : Nat) (x0 : Slot) : ∀ (ds : List D) (A R : Rat) (t b : Int) (k : Nat) (s3 s4 s5 : Slot), Rw ds A R → A = Rat.divInt t b → 0 < b → t.natAbs < 2 ^ k → b.natAbs < 2 ^ k → k + 62 * ds.length ≤ 8000 → ∃ t' b' s3' s4' s5', R = Rat.divInt t' b' ∧ 0 < b' ∧ b'.natAbs < 2 ^ (k + 62 * ds.length) ∧
    loopS (kBody (CD (n + 2)) 100 3 smB) ds [x0, .v (.int t), .v (.int b), s3, s4, s5] = some (.nx [x0, .v (.int t'), .v (.int b'), s3', s4', s5'])
  | [], A, R, t, b, k, s3, s4, s5, h, e, hb, _, hb2, _ => ⟨t, b, s3, s4, s5, (show A = R from h) ▸ e, hb, hb2, rfl⟩
  | d :: ds, A, R, t, b, k, s3, s4, s5, ⟨r, h, hr⟩, e, hb, ht2, hb2, h9 => by
    obtain ⟨p, q, hp, rfl, h1, h2⟩ := h.has
    have hq := hp.pos
    have el : k + 62 * (d :: ds).length = k + 62 + 62 * ds.length := by simp; omega
    rw [el] at h9 ⊢
    by_cases hbq : q = b
    · subst hbq
      have e' : A + Rat.divInt p q = Rat.divInt (t + p) q := by rw [e, add_same]
      obtain ⟨t', b', a3, a4, a5, r1, r2, r3, r4⟩ := sum_loop n x0 ds _ R (t + p) q (k + 62) (.v d) (.v (.int p)) (.v (.int q)) hr e' hq (pw (add_lt (pw ht2 (show k ≤ k + 61 by omega)) (pw h1 (show 61 ≤ k + 61 by omega))) (by omega)) (pw hb2 (by omega)) (by omega)
      refine ⟨t', b', a3, a4, a5, r1, r2, r3, ?_⟩
      rw [← r4, loopS]
      simp [smB, raw_ok n _ hp, two]
    · have e' : A + Rat.divInt p q = Rat.divInt (t * q + p * b) (b * q) := by rw [e, Rat.divInt_add_divInt _ _ (by omega) (by omega)]
      have hbq0 := Int.mul_pos hb hq
      have z1 : (t * q + p * b).natAbs < 2 ^ (k + 62) := by
        have y1 := mul_lt ht2 h2
        have y2 := mul_lt h1 hb2
        rw [Nat.add_comm 61 k] at y2
        exact add_lt y1 y2
      have z2 : (b * q).natAbs < 2 ^ (k + 61) := mul_lt hb2 h2
      obtain ⟨t', b', a3, a4, a5, r1, r2, r3, r4⟩ := sum_loop n x0 ds _ R (Rat.divInt (t * q + p * b) (b * q)).num (Rat.divInt (t * q + p * b) (b * q)).den (k + 62) (.v d) (.v (.int p)) (.v (.int q)) hr (by rw [e', Rat.num_divInt_den]) (den_pos _) (Nat.lt_of_le_of_lt (num_le hbq0) z1) (Nat.lt_of_le_of_lt (den_le hbq0) (pw z2 (by omega))) (by omega)
      refine ⟨t', b', a3, a4, a5, r1, r2, r3, ?_⟩
      rw [← r4, loopS]
      have lo := low_pos (n + 1) hbq0 z2 (show k + 61 ≤ 8000 by omega) (a := t * q + p * b)
      simp [smB, raw_ok n _ hp, two, hbq, bin_mul (okMul_of ht2 h2 (by omega)), bin_mul (okMul_of h1 hb2 (by omega)), bin_mul (okMul_of hb2 h2 (by omega)), lo, prR]
theorem sum_of_ok (n : Nat) {ds : List D} {R : Rat} (h : Rw ds 0 R) (hl : ds.length ≤ 100) (x : D) (hx : x = .lst ds ∨ x = .tup ds) : CD (n + 3) 13 [.v x] = one (prR R) := by
  obtain ⟨t', b', a3, a4, a5, r1, r2, r3, r4⟩ := sum_loop n (.v x) ds 0 R 0 1 1 .no .no .no h (by rfl) (by decide) (by decide) (by decide) (by omega)
  have lo := low_pos (n + 1) r2 r3 (show 1 + 62 * ds.length ≤ 8000 by omega) (a := t')
  rw [← r1] at lo
  rw [step (d := d_sum_of) rfl rfl]
  unfold smB at r4
  have hf : forVD (kBody (CD (n + 2)) 100 3 smB) x [.v x, .v (.int 0), .v (.int 1), .no, .no, .no] = some (.nx [.v x, .v (.int t'), .v (.int b'), a3, a4, a5]) := by
    rcases hx with rfl | rfl <;> exact r4
  unfold smB at hf
  have ht : isTDD [.list, .tuple] x = some (.bl true) := by rcases hx with rfl | rfl <;> rfl
  simp [d_sum_of, b_sum_of, ht, hf, lo, one, two]
theorem rw_bd (k : Nat) : ∀ (ds : List D) (A R : Rat) (s : Nat), Rw ds A R → Bd A s → Bd R (s + 62 * ds.length)
  | [], A, R, s, h, hb => by rw [show A = R from h] at hb; exact hb
  | d :: ds, A, R, s, ⟨r, h, hr⟩, hb => by
    have := rw_bd k ds _ _ _ hr (hb.add h.bd)
    exact this.up (by simp; omega)
end K00
set_option maxHeartbeats 4000000
namespace K00
open PySem L2 VI
theorem pow18 : binD .pow (.int 10) (.int 18) = some (.int 1000000000000000000) := by
  show (if okPow 10 18 = true then some (D.int ((10 : Int) ^ (18 : Int).toNat)) else none) = _
  rw [if_pos (by decide)]
  rfl
theorem dv30 (i : Int) : binD .fdiv (.int i) (.int 30) = some (.int (i / 30)) := bin_fdiv (okDiv_of (b := 10) (by decide) (by decide) (by decide))
theorem md30 (i : Int) : binD .mod (.int i) (.int 30) = some (.int (i % 30)) := bin_mod (by decide)
theorem md9 (i : Int) : binD .mod (.int i) (.int 998244353) = some (.int (i % 998244353)) := bin_mod (by decide)
theorem md7 (i : Int) : binD .mod (.int i) (.int 1000000007) = some (.int (i % 1000000007)) := bin_mod (by decide)
def d1B : S := (.seq (.ite (.cmp .gt (.var 3) (.cst (.int 0)))
  (.seq (.app 1 (.bin .mod (.int1 (.var 3)) (.cst (.int 30))))
  (.seq (.asg 3 (.bin .fdiv (.var 3) (.cst (.int 30))))
  .nil))
  .nil)
  .nil)
def d2B : S := (.seq (.asg 5 (.bin .mod (.int1 (.bin .add (.bin .add (.bin .add (.bin .mul (.var 5) (.var 5)) (.bin .mul (.var 4) (.cst (.int 65537)))) (.var 2)) (.cst (.int 3)))) (.cst (.int 1000000007))))
  (.seq (.app 1 (.var 5))
  .nil))
def d3B : S := (.seq (.asg 3 (.int1 (.ix (.var 0) (.var 2))))
  (.seq (.ite (.cmp .lt (.var 3) (.cst (.int 0)))
  (.seq (.asg 3 (.bin .sub (.cst (.int 1)) (.bin .mul (.cst (.int 2)) (.var 3))))
  .nil)
  .nil)
  (.seq (.ite (.cmp .ge (.var 3) (.bin .pow (.cst (.int 10)) (.cst (.int 18))))
  (.seq (.forR 4 (.cst (.int 50)) d1B)
  .nil)
  (.seq (.asg 5 (.bin .mod (.int1 (.bin .add (.bin .add (.bin .mul (.var 3) (.cst (.int 104729))) (.bin .mul (.var 2) (.cst (.int 7919)))) (.cst (.int 1)))) (.cst (.int 998244353))))
  (.seq (.forR 4 (.cst (.int 7)) d2B)
  .nil)))
  .nil)))
theorem draw1 (Γ : Gam) (s0 s2 s5 : Slot) : ∀ (js : List D) (xs : List Int) (c : Int) (k : Slot), xs.length + js.length ≤ 90000 → ∃ xs' c' k', xs'.length ≤ xs.length + js.length ∧
    loopS (kBody Γ 100 4 d1B) js [s0, Dr xs, s2, .v (.int c), k, s5] = some (.nx [s0, Dr xs', s2, .v (.int c'), k', s5])
  | [], xs, c, k, _ => ⟨xs, c, k, by simp, rfl⟩
  | d :: ds, xs, c, k, h => by
    simp only [List.length_cons] at h
    by_cases hc : 0 < c
    · obtain ⟨xs', c', k', h1, h2⟩ := draw1 Γ s0 s2 s5 ds (xs ++ [c % 30]) (c / 30) (.v d) (by simp; omega)
      refine ⟨xs', c', k', by simp at h1 ⊢; omega, ?_⟩
      rw [← h2, loopS]
      have hl : xs.length < sizeLine := lt_line (by omega)
      unfold Dr
      simp [d1B, hc, md30, dv30, hl]
    · obtain ⟨xs', c', k', h1, h2⟩ := draw1 Γ s0 s2 s5 ds xs c (.v d) (by omega)
      refine ⟨xs', c', k', by simp; omega, ?_⟩
      rw [← h2, loopS]
      simp [d1B, hc]
theorem draw2 (Γ : Gam) (s0 s3 : Slot) (at0 : Int) : ∀ (js : List D) (xs : List Int) (c : Int) (k : Slot), (∀ d ∈ js, ∃ i, d = .int i) → 0 ≤ c → c < 1000000007 → xs.length + js.length ≤ 90000 → ∃ xs' c' k', xs'.length ≤ xs.length + js.length ∧
    loopS (kBody Γ 100 4 d2B) js [s0, Dr xs, .v (.int at0), s3, k, .v (.int c)] = some (.nx [s0, Dr xs', .v (.int at0), s3, k', .v (.int c')])
  | [], xs, c, k, _, _, _, _ => ⟨xs, c, k, by simp, rfl⟩
  | d :: ds, xs, c, k, hd, c0, c1, h => by
    simp only [List.length_cons] at h
    obtain ⟨i, rfl⟩ := hd d (by simp)
    have hn : ∀ z : Int, 0 ≤ z % 1000000007 ∧ z % 1000000007 < 1000000007 := fun z => ⟨Int.emod_nonneg _ (by decide), Int.emod_lt_of_pos _ (by decide)⟩
    obtain ⟨n0, n1⟩ := hn (c * c + i * 65537 + at0 + 3)
    obtain ⟨xs', c', k', h1, h2⟩ := draw2 Γ s0 s3 at0 ds (xs ++ [(c * c + i * 65537 + at0 + 3) % 1000000007]) ((c * c + i * 65537 + at0 + 3) % 1000000007) (.v (.int i)) (fun d' h' => hd d' (by simp [h'])) n0 n1 (by simp; omega)
    refine ⟨xs', c', k', by simp at h1 ⊢; omega, ?_⟩
    rw [← h2, loopS]
    have hl : xs.length < sizeLine := lt_line (by omega)
    have m1 : okMul c c = true := okMul_of (a := 40) (b := 40) (by omega) (by omega) (by decide)
    have m2 : okMul i 65537 = true := okMul_r (by decide)
    unfold Dr
    simp [d2B, bin_mul m1, bin_mul m2, md7, hl]
theorem rangeD_int (n : Nat) : ∀ d ∈ rangeD n, ∃ i, d = .int i := by
  intro d hd
  obtain ⟨k, _, rfl⟩ := List.mem_map.mp hd
  exact ⟨_, rfl⟩
theorem forR_lit (f : D → VI.Env → Option SOut) (i : Int) (n : Nat) (hi : i = (n : Int)) (ρ : VI.Env) (h : n < 2 ^ 62) : forRD f (.int i) ρ = loopS f (rangeD n) ρ := by rw [hi, forR_nat f n ρ h]
theorem draw_pre (Γ : Gam) (ns : List Int) (i : Nat) (hi : i < ns.length) (X : S) (s1 s3 s4 s5 : Slot) : evS Γ 100 (.seq (.asg 3 (.int1 (.ix (.var 0) (.var 2))))
  (.seq (.ite (.cmp .lt (.var 3) (.cst (.int 0)))
  (.seq (.asg 3 (.bin .sub (.cst (.int 1)) (.bin .mul (.cst (.int 2)) (.var 3))))
  .nil)
  .nil) X)) [.v (.lst (ns.map D.int)), s1, .v (.int i), s3, s4, s5] = evS Γ 100 X [.v (.lst (ns.map D.int)), s1, .v (.int i), .v (.int (if ns[i] < 0 then 1 - 2 * ns[i] else ns[i])), s4, s5] := by
  have hat : atI (ns.map D.int) (i : Int) = some (.int ns[i]) := atI_nat (by simp [hi])
  have m3 : okMul 2 ns[i] = true := okMul_l (by decide)
  by_cases hc : ns[i] < 0
  · simp [hat, hc, bin_mul m3]
  · simp [hat, hc]
theorem draw3 (Γ : Gam) (ns : List Int) : ∀ (js : List D) (xs : List Int) (s2 s3 s4 s5 : Slot), (∀ d ∈ js, ∃ i : Nat, i < ns.length ∧ d = .int i) → xs.length + 50 * js.length ≤ 80000 → ∃ xs' s2' s3' s4' s5', 
    loopS (kBody Γ 100 2 d3B) js [.v (.lst (ns.map D.int)), Dr xs, s2, s3, s4, s5] = some (.nx [.v (.lst (ns.map D.int)), Dr xs', s2', s3', s4', s5'])
  | [], xs, s2, s3, s4, s5, _, _ => ⟨xs, s2, s3, s4, s5, rfl⟩
  | d :: ds, xs, s2, s3, s4, s5, hd, h => by
    simp only [List.length_cons] at h
    obtain ⟨i, hi, rfl⟩ := hd d (by simp)
    have hat : atI (ns.map D.int) (i : Int) = some (.int ns[i]) := atI_nat (by simp [hi])
    have main : ∀ c : Int, ∃ xs' s2' s3' s4' s5', (thenS (evS Γ 100 (.ite (.cmp .ge (.var 3) (.bin .pow (.cst (.int 10)) (.cst (.int 18))))
  (.seq (.forR 4 (.cst (.int 50)) d1B)
  .nil)
  (.seq (.asg 5 (.bin .mod (.int1 (.bin .add (.bin .add (.bin .mul (.var 3) (.cst (.int 104729))) (.bin .mul (.var 2) (.cst (.int 7919)))) (.cst (.int 1)))) (.cst (.int 998244353))))
  (.seq (.forR 4 (.cst (.int 7)) d2B)
  .nil))) [.v (.lst (ns.map D.int)), Dr xs, .v (.int i), .v (.int c), s4, s5]) (evS Γ 100 .nil)) = some (.nx [.v (.lst (ns.map D.int)), Dr xs', s2', s3', s4', s5']) ∧ xs'.length ≤ xs.length + 50 := by
      intro c
      by_cases hc : 1000000000000000000 ≤ c
      · obtain ⟨xs', c', k', h1, h2⟩ := draw1 Γ (.v (.lst (ns.map D.int))) (.v (.int i)) s5 (rangeD 50) xs c s4 (by rw [range_len]; omega)
        rw [range_len] at h1
        have hf := (forR_lit (kBody Γ 100 4 d1B) 50 50 rfl [.v (.lst (ns.map D.int)), Dr xs, .v (.int i), .v (.int c), s4, s5] (by decide)).trans h2
        exact ⟨xs', .v (.int i), .v (.int c'), k', s5, by simp [pow18, hc, hf], h1⟩
      · have n0 : 0 ≤ (c * 104729 + (i : Int) * 7919 + 1) % 998244353 := Int.emod_nonneg _ (by decide)
        have n1 : (c * 104729 + (i : Int) * 7919 + 1) % 998244353 < 998244353 := Int.emod_lt_of_pos _ (by decide)
        obtain ⟨xs', c', k', h1, h2⟩ := draw2 Γ (.v (.lst (ns.map D.int))) (.v (.int c)) i (rangeD 7) xs ((c * 104729 + (i : Int) * 7919 + 1) % 998244353) s4 (rangeD_int 7) n0 (by omega) (by rw [range_len]; omega)
        rw [range_len] at h1
        have hf := (forR_lit (kBody Γ 100 4 d2B) 7 7 rfl [.v (.lst (ns.map D.int)), Dr xs, .v (.int i), .v (.int c), s4, .v (.int ((c * 104729 + (i : Int) * 7919 + 1) % 998244353))] (by decide)).trans h2
        have m1 : okMul c 104729 = true := okMul_r (by decide)
        have m2 : okMul (i : Int) 7919 = true := okMul_r (by decide)
        exact ⟨xs', .v (.int i), .v (.int c), k', .v (.int c'), by simp [pow18, hc, hf, bin_mul m1, bin_mul m2, md9], by omega⟩
    obtain ⟨xs', a2, a3, a4, a5, r1, r2⟩ := main (if ns[i] < 0 then 1 - 2 * ns[i] else ns[i])
    obtain ⟨x', b2, b3, b4, b5, r3⟩ := draw3 Γ ns ds xs' a2 a3 a4 a5 (fun d' h' => hd d' (by simp [h'])) (by omega)
    refine ⟨x', b2, b3, b4, b5, ?_⟩
    rw [← r3, loopS]
    have : bindS [.v (.lst (ns.map D.int)), Dr xs, s2, s3, s4, s5] 2 (.v (.int i)) (evS Γ 100 d3B) = some (.nx [.v (.lst (ns.map D.int)), Dr xs', a2, a3, a4, a5]) := by
      rw [bindS_lt (by simp)]
      unfold d3B
      refine (draw_pre Γ ns i hi _ (Dr xs) s3 s4 s5).trans ?_
      rw [evS_seq]
      exact r1
    rw [kBody_def, this]
theorem draws_ok (n : Nat) (ns : List Int) (hl : ns.length ≤ 63) : ∃ xs, CD (n + 1) 16 [.v (.lst (ns.map D.int))] = some (.ret (Dr xs) [.no]) := by
  have hj : ∀ d ∈ rangeD ns.length, ∃ i : Nat, i < ns.length ∧ d = .int i := by
    intro d hd
    obtain ⟨k, hk, rfl⟩ := List.mem_map.mp hd
    exact ⟨k, List.mem_range.mp hk, by simp⟩
  obtain ⟨xs, a2, a3, a4, a5, r⟩ := draw3 (CD n) ns (rangeD ns.length) [] .no .no .no .no hj (by rw [range_len]; simp; omega)
  have hf := (forR_nat (kBody (CD n) 100 2 d3B) ns.length [.v (.lst (ns.map D.int)), Dr [], .no, .no, .no, .no] (by omega)).trans r
  refine ⟨xs.reverse, ?_⟩
  rw [step (d := d__law_draws) rfl rfl]
  have hm : ¬ (63 : Int) < ns.length := by omega
  unfold d3B d2B d1B at hf
  unfold Dr at *
  rw [List.map_nil] at hf
  simp [d__law_draws, b__law_draws, hm, hf]
end K00
set_option maxHeartbeats 4000000
namespace K00
open PySem L2 VI
def K3 (ks : List D) : Prop := ∀ v : Int, 0 ≤ v → v < 3 → ∃ d r, atI ks v = some d ∧ Sz d r 61
def roB : S := (.seq (.asg 6 (.ix (.var 1) (.call 17 (.io 0 (.cons (.cst (.int 3)) .nil)))))
  (.seq (.ite (.eqq false (.call 17 (.io 0 (.cons (.cst (.int 2)) .nil))) (.cst (.int 1)))
  (.seq (.asg 6 (.call 27 (.io 0 .nil)))
  .nil)
  .nil)
  (.seq (.app 2 (.var 6))
  (.seq (.asg 3 (.call 21 (.cons (.var 3) (.cons (.call 28 (.cons (.var 6) .nil)) .nil))))
  .nil))))
theorem zero_bd : Bd 0 1 := ⟨by decide, by decide⟩
theorem row_loop (n : Nat) (ks : List D) (hk : K3 ks) (s5 : Slot) : ∀ (js : List D) (xs : List Int) (ds : List D) (R : Rat) (k s6 : Slot), Rw ds 0 R → ds.length + js.length ≤ 50 → ∃ xs' ds' R' k' s6', Rw ds' 0 R' ∧ ds'.length = ds.length + js.length ∧
    loopS (kBody (CD (n + 3)) 100 4 roB) js [Dr xs, .v (.lst ks), .l ds, .v (prR R), k, s5, s6] = some (.nx [Dr xs', .v (.lst ks), .l ds', .v (prR R'), k', s5, s6'])
  | [], xs, ds, R, k, s6, h, _ => ⟨xs, ds, R, k, s6, h, by simp, rfl⟩
  | d :: js, xs, ds, R, k, s6, h, hl => by
    simp only [List.length_cons] at hl
    obtain ⟨x1, v, v1, v2, v3⟩ := take_ok (n + 2) xs (m := 3) (by decide)
    obtain ⟨x2, b, b1, b2, b3⟩ := take_ok (n + 2) x1 (m := 2) (by decide)
    obtain ⟨x3, g, gr, g1, g2⟩ := given_ok n x2
    obtain ⟨e, er, e1, e2⟩ := hk v v1 v2
    have hR := rw_bd 0 ds 0 R 1 h zero_bd
    have hlen : ds.length < sizeLine := lt_line (by omega)
    have fin : ∀ (y : List Int) (c : D) (q : Rat), Sz c q 61 → ∃ xs' ds' R' k' s6', Rw ds' 0 R' ∧ ds'.length = ds.length + (d :: js).length ∧ loopS (kBody (CD (n + 3)) 100 4 roB) js [Dr y, .v (.lst ks), .l (ds ++ [c]), .v (prR (R + q)), .v d, s5, .v c] = some (.nx [Dr xs', .v (.lst ks), .l ds', .v (prR R'), k', s5, s6']) := by
      intro y c q hc
      obtain ⟨x', d', R', k', a', r1, r2, r3⟩ := row_loop n ks hk s5 js y (ds ++ [c]) (R + q) (.v d) (.v c) (rw_snoc hc ds 0 R h) (by simp; omega)
      exact ⟨x', d', R', k', a', r1, by simp at r2 ⊢; omega, r3⟩
    have sums : ∀ (c : D) (q : Rat), Sz c q 61 → CD (n + 3) 28 [.v c] = one (prR q) ∧ CD (n + 3) 21 [.v (prR R), .v (prR q)] = two (prR (R + q)) := by
      intro c q hc
      exact ⟨value_ok (n + 1) hc (by decide), sum_ok (n + 1) hR hc.bd (by omega)⟩
    by_cases hb : b = 1
    · obtain ⟨x', d', R', k', a', r1, r2, r3⟩ := fin x3 g gr g1
      refine ⟨x', d', R', k', a', r1, r2, ?_⟩
      obtain ⟨z1, z2⟩ := sums g gr g1
      rw [← r3, loopS]
      unfold Dr at *
      simp [roB, v3, e1, b3, hb, g2, hlen, z1, z2, one, two]
    · obtain ⟨x', d', R', k', a', r1, r2, r3⟩ := fin x2 e er e2
      refine ⟨x', d', R', k', a', r1, r2, ?_⟩
      obtain ⟨z1, z2⟩ := sums e er e2
      rw [← r3, loopS]
      unfold Dr at *
      simp [roB, v3, e1, b3, hb, hlen, z1, z2, one, two]
theorem row_ok (n : Nat) (ks : List D) (hk : K3 ks) (xs : List Int) : ∃ xs', CD (n + 4) 35 [Dr xs, .v (.lst ks)] = some (.ret (.v (.bl true)) [Dr xs', .no]) := by
  obtain ⟨x1, v, v1, v2, v3⟩ := take_ok (n + 2) xs (m := 6) (by decide)
  obtain ⟨j, rfl⟩ : ∃ j : Nat, v = (j : Int) := ⟨v.toNat, by omega⟩
  obtain ⟨x2, ds, R, k, s6, r1, r2, r3⟩ := row_loop n ks hk .no (rangeD j) x1 [] 0 .no .no (show (0 : Rat) = 0 from rfl) (by rw [range_len]; simp; omega)
  have hf := (forR_nat (kBody (CD (n + 3)) 100 4 roB) j [Dr x1, .v (.lst ks), .l [], .v (prR 0), .no, .no, .no] (by omega)).trans r3
  have hp0 : prR 0 = .tup [.int 0, .int 1] := rfl
  rw [hp0] at hf
  rw [range_len] at r2
  have hlen : ds.length ≤ 5 := by simp at r2; omega
  have hR := rw_bd 0 ds 0 R 1 r1 zero_bd
  have e1 : CD (n + 3) 13 [.v (.lst ds)] = one (prR R) := sum_of_ok n r1 (by omega) _ (.inl rfl)
  have e2 : CD (n + 3) 13 [.v (.tup ds)] = one (prR R) := sum_of_ok n r1 (by omega) _ (.inr rfl)
  have e3 : CD (n + 3) 29 [.v (prR R), .v (prR R)] = two (.bl true) := same_ok n hR (by omega)
  have e4 := row_eq r1
  refine ⟨x2, ?_⟩
  rw [step (d := d__law_row) rfl rfl]
  unfold roB at hf
  unfold Dr at *
  simp [d__law_row, b__law_row, v3, hf, e1, e2, e3, e4, one, two]
end K00
set_option maxHeartbeats 4000000
namespace K00
open PySem L2 VI
theorem forR3 (f : D → VI.Env → Option SOut) (ρ : VI.Env) : forRD f (.int 3) ρ = loopS f [.int 0, .int 1, .int 2] ρ := by
  rw [forR_lit f 3 3 rfl ρ (by decide)]
  rfl
theorem forVL (f : D → VI.Env → Option SOut) (ds : List D) (ρ : VI.Env) : forVD f (.lst ds) ρ = loopS f ds ρ := rfl
theorem law_true (ns : List Int) (hl : ns.length ≤ 63) : callD defs 100 12 36 [.v (.lst (ns.map D.int))] = some (.ret (.v (.bl true)) [.no]) := by
  show CD 12 36 _ = _
  obtain ⟨x0, e0⟩ := draws_ok 10 ns hl
  obtain ⟨x1, d0, r0, s0, e1⟩ := given_ok 8 x0
  obtain ⟨x2, d1, r1, s1, e2⟩ := given_ok 8 x1
  obtain ⟨x3, d2, r2, s2, e3⟩ := given_ok 8 x2
  have hk : K3 [d0, d1, d2] := by
    intro v v1 v2
    obtain rfl | rfl | rfl : v = 0 ∨ v = 1 ∨ v = 2 := by omega
    · exact ⟨d0, r0, atI_0 _ _, s0⟩
    · exact ⟨d1, r1, atI_1 _ _ _, s1⟩
    · exact ⟨d2, r2, atI_2 _ _ _ _, s2⟩
  obtain ⟨x4, e4⟩ := made_ok 7 x3
  obtain ⟨x5, e5⟩ := row_ok 7 _ hk x4
  obtain ⟨x6, e6⟩ := made_ok 7 x5
  obtain ⟨x7, e7⟩ := row_ok 7 _ hk x6
  obtain ⟨x8, e8⟩ := made_ok 7 x7
  obtain ⟨x9, e9⟩ := row_ok 7 _ hk x8
  obtain ⟨x10, g, gr, gs, e10⟩ := great_ok 9 x9 27 (by decide)
  have e10' : CD 11 26 [Dr x9, .v (.int 27)] = some (.ret (.v g) [Dr x10, .no]) := e10
  have a0 : CD 11 30 [.v d0] = one (.bl true) := alone_ok 6 s0 (by decide)
  have a1 : CD 11 30 [.v d1] = one (.bl true) := alone_ok 6 s1 (by decide)
  have a2 : CD 11 30 [.v d2] = one (.bl true) := alone_ok 6 s2 (by decide)
  have a3 : CD 11 30 [.v g] = one (.bl true) := alone_ok 6 gs (by decide)
  have j1 : CD 11 31 [.v d0, .v d1] = two (.bl true) := joined_ok 5 s0 s1 (by decide)
  have j2 : CD 11 31 [.v d1, .v d2] = two (.bl true) := joined_ok 5 s1 s2 (by decide)
  have j3 : CD 11 31 [.v d2, .v d0] = two (.bl true) := joined_ok 5 s2 s0 (by decide)
  have j4 : CD 11 31 [.v d1, .v d1] = two (.bl true) := joined_ok 5 s1 s1 (by decide)
  have o1 : CD 11 32 [.v d0, .v d1] = two (.bl true) := ordered_ok 5 s0 s1 (by decide)
  have o2 : CD 11 32 [.v d1, .v d2] = two (.bl true) := ordered_ok 5 s1 s2 (by decide)
  have o3 : CD 11 32 [.v d2, .v d0] = two (.bl true) := ordered_ok 5 s2 s0 (by decide)
  have o4 : CD 11 32 [.v d1, .v d1] = two (.bl true) := ordered_ok 5 s1 s1 (by decide)
  have o5 : CD 11 32 [.v g, .v d0] = two (.bl true) := ordered_ok 5 gs s0 (by decide)
  have o6 : CD 11 32 [.v d1, .v g] = two (.bl true) := ordered_ok 5 s1 gs (by decide)
  have t1 : CD 11 33 [.v d0, .v d1, .v d2] = thr (.bl true) := three_ok 5 s0 s1 s2 (by decide)
  have t2 : CD 11 33 [.v d2, .v d2, .v d1] = thr (.bl true) := three_ok 5 s2 s2 s1 (by decide)
  rw [step (n := 11) (d := d_law) rfl rfl]
  unfold Dr at *
  simp only [Nat.reduceAdd] at e0 e1 e2 e3 e4 e5 e6 e7 e8 e9
  simp [d_law, b_law, loopS, forR3, forVL, e0, e1, e2, e3, e4, e5, e6, e7, e8, e9, e10', a0, a1, a2, a3, j1, j2, j3, j4, o1, o2, o3, o4, o5, o6, t1, t2, one, two, thr]
end K00
set_option maxHeartbeats 4000000
namespace K00
open PySem L2 VI
/-! ### the program is the text (printed by gen.py) -/
def tx (i : Nat) : Stmt := PySem.Challenge.pw_everyrain_k00_numbers.main.body.getD i (.Pass ⟨0, 0, 0, 0⟩)
theorem ok_is_whole : DefOk defs free gcds d_is_whole (tx 5) := ⟨⟨rfl, rfl, rfl, by decide +kernel, rfl, by decide +kernel, by decide +kernel⟩, rfl, by decide +kernel, fun _ _ _ _ _ _ us hl => match us, hl with | [_], _ => rfl⟩
theorem ok_raw_pair : DefOk defs free gcds d_raw_pair (tx 6) := ⟨⟨rfl, rfl, rfl, by decide +kernel, rfl, by decide +kernel, by decide +kernel⟩, rfl, by decide +kernel, fun _ _ _ _ _ _ us hl => match us, hl with | [_, _], _ => rfl⟩
theorem ok_lowest_terms : DefOk defs free gcds d_lowest_terms (tx 7) := ⟨⟨rfl, rfl, rfl, by decide +kernel, rfl, by decide +kernel, by decide +kernel⟩, rfl, by decide +kernel, fun _ _ _ _ _ _ us hl => match us, hl with | [_, _], _ => rfl⟩
theorem ok_ratio_named : DefOk defs free gcds d_ratio_named (tx 8) := ⟨⟨rfl, rfl, rfl, by decide +kernel, rfl, by decide +kernel, by decide +kernel⟩, rfl, by decide +kernel, fun _ _ _ _ _ _ us hl => match us, hl with | [_, _], _ => rfl⟩
theorem ok_ratio : DefOk defs free gcds d_ratio (tx 9) := ⟨⟨rfl, rfl, rfl, by decide +kernel, rfl, by decide +kernel, by decide +kernel⟩, rfl, by decide +kernel, fun _ _ _ _ _ _ us hl => match us, hl with | [_], _ => rfl⟩
theorem ok_of : DefOk defs free gcds d_of (tx 10) := ⟨⟨rfl, rfl, rfl, by decide +kernel, rfl, by decide +kernel, by decide +kernel⟩, rfl, by decide +kernel, fun _ _ _ _ _ _ us hl => match us, hl with | [_, _], _ => rfl⟩
theorem ok_plus : DefOk defs free gcds d_plus (tx 11) := ⟨⟨rfl, rfl, rfl, by decide +kernel, rfl, by decide +kernel, by decide +kernel⟩, rfl, by decide +kernel, fun _ _ _ _ _ _ us hl => match us, hl with | [_, _], _ => rfl⟩
theorem ok_minus : DefOk defs free gcds d_minus (tx 12) := ⟨⟨rfl, rfl, rfl, by decide +kernel, rfl, by decide +kernel, by decide +kernel⟩, rfl, by decide +kernel, fun _ _ _ _ _ _ us hl => match us, hl with | [_, _], _ => rfl⟩
theorem ok_times : DefOk defs free gcds d_times (tx 13) := ⟨⟨rfl, rfl, rfl, by decide +kernel, rfl, by decide +kernel, by decide +kernel⟩, rfl, by decide +kernel, fun _ _ _ _ _ _ us hl => match us, hl with | [_, _], _ => rfl⟩
theorem ok_divided : DefOk defs free gcds d_divided (tx 14) := ⟨⟨rfl, rfl, rfl, by decide +kernel, rfl, by decide +kernel, by decide +kernel⟩, rfl, by decide +kernel, fun _ _ _ _ _ _ us hl => match us, hl with | [_, _], _ => rfl⟩
theorem ok_compare : DefOk defs free gcds d_compare (tx 15) := ⟨⟨rfl, rfl, rfl, by decide +kernel, rfl, by decide +kernel, by decide +kernel⟩, rfl, by decide +kernel, fun _ _ _ _ _ _ us hl => match us, hl with | [_, _], _ => rfl⟩
theorem ok_lesser : DefOk defs free gcds d_lesser (tx 16) := ⟨⟨rfl, rfl, rfl, by decide +kernel, rfl, by decide +kernel, by decide +kernel⟩, rfl, by decide +kernel, fun _ _ _ _ _ _ us hl => match us, hl with | [_, _], _ => rfl⟩
theorem ok_greater : DefOk defs free gcds d_greater (tx 17) := ⟨⟨rfl, rfl, rfl, by decide +kernel, rfl, by decide +kernel, by decide +kernel⟩, rfl, by decide +kernel, fun _ _ _ _ _ _ us hl => match us, hl with | [_, _], _ => rfl⟩
theorem ok_sum_of : DefOk defs free gcds d_sum_of (tx 18) := ⟨⟨rfl, rfl, rfl, by decide +kernel, rfl, by decide +kernel, by decide +kernel⟩, rfl, by decide +kernel, fun _ _ _ _ _ _ us hl => match us, hl with | [_], _ => rfl⟩
theorem ok_rounded_up : DefOk defs free gcds d_rounded_up (tx 19) := ⟨⟨rfl, rfl, rfl, by decide +kernel, rfl, by decide +kernel, by decide +kernel⟩, rfl, by decide +kernel, fun _ _ _ _ _ _ us hl => match us, hl with | [_], _ => rfl⟩
theorem ok_rounded_down : DefOk defs free gcds d_rounded_down (tx 20) := ⟨⟨rfl, rfl, rfl, by decide +kernel, rfl, by decide +kernel, by decide +kernel⟩, rfl, by decide +kernel, fun _ _ _ _ _ _ us hl => match us, hl with | [_], _ => rfl⟩
theorem ok__law_draws : DefOk defs free gcds d__law_draws (tx 22) := ⟨⟨rfl, rfl, rfl, by decide +kernel, rfl, by decide +kernel, by decide +kernel⟩, rfl, by decide +kernel, fun _ _ _ _ _ _ us hl => match us, hl with | [_], _ => rfl⟩
theorem ok__law_take : DefOk defs free gcds d__law_take (tx 23) := ⟨⟨rfl, rfl, rfl, by decide +kernel, rfl, by decide +kernel, by decide +kernel⟩, rfl, by decide +kernel, fun _ _ _ _ _ _ us hl => match us, hl with | [_, _], _ => rfl⟩
theorem ok__law_whole : DefOk defs free gcds d__law_whole (tx 24) := ⟨⟨rfl, rfl, rfl, by decide +kernel, rfl, by decide +kernel, by decide +kernel⟩, rfl, by decide +kernel, fun _ _ _ _ _ _ us hl => match us, hl with | [_], _ => rfl⟩
theorem ok__law_pair : DefOk defs free gcds d__law_pair (tx 25) := ⟨⟨rfl, rfl, rfl, by decide +kernel, rfl, by decide +kernel, by decide +kernel⟩, rfl, by decide +kernel, fun _ _ _ _ _ _ us hl => match us, hl with | [_, _], _ => rfl⟩
theorem ok__law_number : DefOk defs free gcds d__law_number (tx 26) := ⟨⟨rfl, rfl, rfl, by decide +kernel, rfl, by decide +kernel, by decide +kernel⟩, rfl, by decide +kernel, fun _ _ _ _ _ _ us hl => match us, hl with | [_], _ => rfl⟩
theorem ok__law_sum : DefOk defs free gcds d__law_sum (tx 27) := ⟨⟨rfl, rfl, rfl, by decide +kernel, rfl, by decide +kernel, by decide +kernel⟩, rfl, by decide +kernel, fun _ _ _ _ _ _ us hl => match us, hl with | [_, _], _ => rfl⟩
theorem ok__law_less : DefOk defs free gcds d__law_less (tx 28) := ⟨⟨rfl, rfl, rfl, by decide +kernel, rfl, by decide +kernel, by decide +kernel⟩, rfl, by decide +kernel, fun _ _ _ _ _ _ us hl => match us, hl with | [_, _], _ => rfl⟩
theorem ok__law_times : DefOk defs free gcds d__law_times (tx 29) := ⟨⟨rfl, rfl, rfl, by decide +kernel, rfl, by decide +kernel, by decide +kernel⟩, rfl, by decide +kernel, fun _ _ _ _ _ _ us hl => match us, hl with | [_, _], _ => rfl⟩
theorem ok__law_below : DefOk defs free gcds d__law_below (tx 30) := ⟨⟨rfl, rfl, rfl, by decide +kernel, rfl, by decide +kernel, by decide +kernel⟩, rfl, by decide +kernel, fun _ _ _ _ _ _ us hl => match us, hl with | [_, _], _ => rfl⟩
theorem ok__law_quotient : DefOk defs free gcds d__law_quotient (tx 31) := ⟨⟨rfl, rfl, rfl, by decide +kernel, rfl, by decide +kernel, by decide +kernel⟩, rfl, by decide +kernel, fun _ _ _ _ _ _ us hl => match us, hl with | [_, _], _ => rfl⟩
theorem ok__law_great : DefOk defs free gcds d__law_great (tx 32) := ⟨⟨rfl, rfl, rfl, by decide +kernel, rfl, by decide +kernel, by decide +kernel⟩, rfl, by decide +kernel, fun _ _ _ _ _ _ us hl => match us, hl with | [_, _], _ => rfl⟩
theorem ok__law_given : DefOk defs free gcds d__law_given (tx 33) := ⟨⟨rfl, rfl, rfl, by decide +kernel, rfl, by decide +kernel, by decide +kernel⟩, rfl, by decide +kernel, fun _ _ _ _ _ _ us hl => match us, hl with | [_], _ => rfl⟩
theorem ok__law_value : DefOk defs free gcds d__law_value (tx 34) := ⟨⟨rfl, rfl, rfl, by decide +kernel, rfl, by decide +kernel, by decide +kernel⟩, rfl, by decide +kernel, fun _ _ _ _ _ _ us hl => match us, hl with | [_], _ => rfl⟩
theorem ok__law_same : DefOk defs free gcds d__law_same (tx 35) := ⟨⟨rfl, rfl, rfl, by decide +kernel, rfl, by decide +kernel, by decide +kernel⟩, rfl, by decide +kernel, fun _ _ _ _ _ _ us hl => match us, hl with | [_, _], _ => rfl⟩
theorem ok__law_alone : DefOk defs free gcds d__law_alone (tx 36) := ⟨⟨rfl, rfl, rfl, by decide +kernel, rfl, by decide +kernel, by decide +kernel⟩, rfl, by decide +kernel, fun _ _ _ _ _ _ us hl => match us, hl with | [_], _ => rfl⟩
theorem ok__law_joined : DefOk defs free gcds d__law_joined (tx 37) := ⟨⟨rfl, rfl, rfl, by decide +kernel, rfl, by decide +kernel, by decide +kernel⟩, rfl, by decide +kernel, fun _ _ _ _ _ _ us hl => match us, hl with | [_, _], _ => rfl⟩
theorem ok__law_ordered : DefOk defs free gcds d__law_ordered (tx 38) := ⟨⟨rfl, rfl, rfl, by decide +kernel, rfl, by decide +kernel, by decide +kernel⟩, rfl, by decide +kernel, fun _ _ _ _ _ _ us hl => match us, hl with | [_, _], _ => rfl⟩
theorem ok__law_three : DefOk defs free gcds d__law_three (tx 39) := ⟨⟨rfl, rfl, rfl, by decide +kernel, rfl, by decide +kernel, by decide +kernel⟩, rfl, by decide +kernel, fun _ _ _ _ _ _ us hl => match us, hl with | [_, _, _], _ => rfl⟩
theorem ok__law_made : DefOk defs free gcds d__law_made (tx 40) := ⟨⟨rfl, rfl, rfl, by decide +kernel, rfl, by decide +kernel, by decide +kernel⟩, rfl, by decide +kernel, fun _ _ _ _ _ _ us hl => match us, hl with | [_], _ => rfl⟩
theorem ok__law_row : DefOk defs free gcds d__law_row (tx 41) := ⟨⟨rfl, rfl, rfl, by decide +kernel, rfl, by decide +kernel, by decide +kernel⟩, rfl, by decide +kernel, fun _ _ _ _ _ _ us hl => match us, hl with | [_, _], _ => rfl⟩
theorem ok_law : DefOk defs free gcds d_law (tx 42) := ⟨⟨rfl, rfl, rfl, by decide +kernel, rfl, by decide +kernel, by decide +kernel⟩, rfl, by decide +kernel, fun _ _ _ _ _ _ us hl => match us, hl with | [_], _ => rfl⟩
def ps : List (Def × Nat) := [(d_is_whole, 5), (d_raw_pair, 6), (d_lowest_terms, 7), (d_ratio_named, 8), (d_ratio, 9), (d_of, 10), (d_plus, 11), (d_minus, 12), (d_times, 13), (d_divided, 14), (d_compare, 15), (d_lesser, 16), (d_greater, 17), (d_sum_of, 18), (d_rounded_up, 19), (d_rounded_down, 20), (d__law_draws, 22), (d__law_take, 23), (d__law_whole, 24), (d__law_pair, 25), (d__law_number, 26), (d__law_sum, 27), (d__law_less, 28), (d__law_times, 29), (d__law_below, 30), (d__law_quotient, 31), (d__law_great, 32), (d__law_given, 33), (d__law_value, 34), (d__law_same, 35), (d__law_alone, 36), (d__law_joined, 37), (d__law_ordered, 38), (d__law_three, 39), (d__law_made, 40), (d__law_row, 41), (d_law, 42)]
theorem all_ok : AllOk defs free gcds tx ps := ⟨ok_is_whole, ok_raw_pair, ok_lowest_terms, ok_ratio_named, ok_ratio, ok_of, ok_plus, ok_minus, ok_times, ok_divided, ok_compare, ok_lesser, ok_greater, ok_sum_of, ok_rounded_up, ok_rounded_down, ok__law_draws, ok__law_take, ok__law_whole, ok__law_pair, ok__law_number, ok__law_sum, ok__law_less, ok__law_times, ok__law_below, ok__law_quotient, ok__law_great, ok__law_given, ok__law_value, ok__law_same, ok__law_alone, ok__law_joined, ok__law_ordered, ok__law_three, ok__law_made, ok__law_row, ok_law, trivial⟩
abbrev fa : List He.Fa := faOf ps free
abbrev fn : List He.DefD := fnOf tx ps
abbrev ex : PySem.W.Frag → Bool := exOf gcds
abbrev R : PySem.W.OpenRow := PySem.W.OpenLaw.row PySem.Challenge.rw_everyrain_k00_numbers
abbrev hk : PySem.W.Hook := hookX 4 fa fn ex
def ob (s : PySem.W.SharedT) : He.AlD := obsXG 4 fa fn ex (HandSHeadRun.getT s)
theorem ob_eq (s : PySem.W.SharedT) : ob s = hk.obs s.abs := obsXG_eq (HandSHeadRun.getT_eq s)
def loose : List Str := (["RainError", "BadNumber", "is_whole", "raw_pair", "lowest_terms", "ratio_named", "ratio", "of", "plus", "minus", "times", "divided"] : List Str) ++ (["compare", "lesser", "greater", "sum_of", "rounded_up", "rounded_down", "_law_draws", "_law_take", "_law_whole", "_law_pair", "_law_number", "_law_sum"] : List Str) ++ (["_law_less", "_law_times", "_law_below", "_law_quotient", "_law_great", "_law_given", "_law_value", "_law_same", "_law_alone", "_law_joined", "_law_ordered", "_law_three"] : List Str) ++ (["_law_made", "_law_row"] : List Str)
theorem run (w : World) : HandSHeadRun.RunEqI R (PySem.W.view R.prog [0, 42]) hk ob 6000 loose w := by
  unfold HandSHeadRun.RunEqI
  kernel_rfl
end K00
open PySem PySem.W PySem.Calls PyProof.Rows
set_option maxRecDepth 100000 in
set_option maxHeartbeats 0 in
theorem PySem.Challenge.cw_everyrain_k00_numbers_holds : PySem.Challenge.rw_everyrain_k00_numbers.Holds := by
  w_on; o_law
  refine HandSHeadRun.head_imp (r := OpenLaw.row PySem.Challenge.rw_everyrain_k00_numbers) (q := view (OpenLaw.row PySem.Challenge.rw_everyrain_k00_numbers).prog [0, 42]) (H := K00.hk) (ob := K00.ob) (M := 6000) (loose := K00.loose) (d := HandSHeadRun.topDef (OpenLaw.row PySem.Challenge.rw_everyrain_k00_numbers).prog 42) (kwd := []) K00.ob_eq
    K00.run (by kernel_rfl) (by kernel_rfl) (by kernel_rfl) (by rfl) (by first | assumption | decide +kernel) (by decide +kernel) ⟨rfl, rfl, rfl, rfl, rfl, by decide +kernel⟩ ?hw ?hc
  case hw => w_witness2
  case hc => exact VI.walk_law (l := PySem.Challenge.rw_everyrain_k00_numbers) (k := 12) (f := 36) (fu := 100) rfl (by kernel_rfl) (by kernel_rfl) ⟨rfl, by decide, by decide⟩ rfl K00.all_ok rfl rfl rfl K00.law_true
